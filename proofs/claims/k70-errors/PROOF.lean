import PyProof.Rows.All
import Wide.All
import OpenK.AllK
import Wide.FinOn
import HandS.ForMost
import HandS.Exc
import HandS.ExcOwn
import HandS.CallSlots
import HandS.TryOnly
import HandS.TryMany
import HandS.WordsExc
import HandS.Zip
import HandS.Defaults
import HandS.TupAny
import HandS.TupMul
import HandS.Deep
import HandS.Conv
import HandS.Style
import HandS.TupLe
import HandS.Wide
import HandS.IsInst
import HandS.ExcField
import HandS.SortInts
import HandS.RaiseMore
import KE.KExcSuper
import HandS.ExcValue
import KE.KExcIs
import HandS.MakeKwOnly
import HandS.HeadEnd
import HandS.Head0
import HandS.Head1
import HandS.Head2
import HandS.HeadHook1
import HandS.HeadHook2
import PySem.Challenge.RW_whomaysign_k70_errors
set_option Elab.async false
set_option linter.all false
set_option maxRecDepth 100000
set_option maxHeartbeats 0
namespace Wm
open PySem PySem.Spec PyProof.Rows L2

/-! ### plain data -/
inductive D where
  | non | bl (b : Bool) | int (i : Int) | str (s : Str) | tup (l : List D) | lst (l : List D)
  | dic (ks vs : List D) | obj (c : Nat) (vs : List D) | fro (l : List D) | drw (a : Addr)
  | exc (c : Nat) (v : D) | clo (n : Nat) (l : List D)

/-- a slot: data, or a list of the frame's own -/
inductive Sl where
  | dat (d : D) | own (l : List D)
/-- the draws' state -/
inductive DS where
  | off | on (am : Addr) (cells left : List Int) (at_ : Int)

structure Xc where
  cls : Nat
  val : D

inductive Out (α : Type) where
  | no | ok (a : α) (s : DS) | ex (x : Xc) (s : DS)
abbrev M (α : Type) := DS → Out α
@[reducible] def M.pure {α : Type} (a : α) : M α := fun s => .ok a s
def Out.bind {α β : Type} : Out α → (α → M β) → Out β
  | .no, _ => .no
  | .ok a s, f => f a s
  | .ex x s, _ => .ex x s
def M.bind {α β : Type} (m : M α) (f : α → M β) : M β := fun s => (m s).bind f
instance : Monad M where
  pure := M.pure
  bind := M.bind
def M.no {α : Type} : M α := fun _ => .no
def M.ex {α : Type} (x : Xc) : M α := fun s => .ex x s
def M.of {α : Type} : Option α → M α
  | some a => M.pure a
  | none => M.no

abbrev Fns := Nat → List D → M D
abbrev Env := List (Option Sl)
abbrev Ev := Fns → Env → M D
abbrev Tv := Fns → Env → M Bool
abbrev Av := Fns → Env → M (List D)

/-! ### data in the heap -/
structure G where
  P : Program
  w : World
  K : PySem.W.Frag
  mg : Str → Option Value
  base : Heap

def Stab : HO → Prop
  | .ext _ => False
  | .tbl _ => False
  | _ => True
def Sub (H H' : Hp) : Prop := ∀ a o, H a = some o → Stab o → H' a = some o
theorem Sub.refl (H : Hp) : Sub H H := fun _ _ h _ => h
theorem Sub.trans {H H1 H2 : Hp} (a : Sub H H1) (b : Sub H1 H2) : Sub H H2 := fun c o h s => b c o (a c o h s) s
theorem Sub.of {H H' : Hp} (e : Same H H') : Sub H H' := fun a o h _ => e a o h
theorem Same.new {H : Hp} {p : Addr} {o : HO} (h : H p = none) : Same H (upd H p o) := fun a u e => by
  rw [upd_ne (ne_of_none e h)]; exact e
def hid (M : Addr → Bool) (H : Hp) : Hp := fun a => if M a = true then none else H a
theorem hid_some {M : Addr → Bool} {H : Hp} {a : Addr} {o : HO} (h : hid M H a = some o) : H a = some o ∧ M a = false := by
  unfold hid at h
  cases e : M a with
  | true => rw [e, if_pos rfl] at h; cases h
  | false => rw [e, if_neg Bool.false_ne_true] at h; exact ⟨h, rfl⟩
theorem hid_of {M : Addr → Bool} {H : Hp} {a : Addr} {o : HO} (h : H a = some o) (m : M a = false) : hid M H a = some o := by
  unfold hid; rw [m, if_neg Bool.false_ne_true]; exact h
theorem Sub.hid {M : Addr → Bool} {H H' : Hp} (e : Sub H H') : Sub (hid M H) (hid M H') := fun a o h s => by
  obtain ⟨h1, h2⟩ := hid_some h
  exact hid_of (e a o h1 s) h2
theorem hid_sub {M : Addr → Bool} {H : Hp} : Same (Wm.hid M H) H := fun a o h => (hid_some h).1
theorem Same.hid {M : Addr → Bool} {H H' : Hp} (e : Same H H') : Same (Wm.hid M H) (Wm.hid M H') := fun a o h => by
  obtain ⟨h1, h2⟩ := hid_some h
  exact hid_of (e a o h1) h2

/-- the own classes, by number: their names, their fields in the order of the stores -/
def clsN : Nat → Str
  | 0 => "Clause" | 1 => "Book" | 2 => "Filling" | 3 => "Table" | 4 => "Desk" | _ => "Trial"
def clsF : Nat → List Str
  | 0 => ["people", "slots", "cap", "sums"] | 1 => ["people", "clauses", "lent"] | 2 => ["own_who", "held"] | 3 => ["own_book", "costs", "sums"] | 4 => ["own_book", "own_row"] | _ => ["held_desk", "row_ahead"]
/-- the own errors, by number: their names, their fields -/
def excN : Nat → Str
  | 0 => "BadPeople" | 1 => "BadLot" | 2 => "BadClause" | 3 => "BadBook" | 4 => "BadRow" | 5 => "BadWish" | 6 => "BadNumber" | 7 => "BadPaper" | 8 => "BadText" | _ => "TooMany"
def excF : Nat → Str
  | 0 => "value" | 1 => "value" | 2 => "place" | 3 => "place" | 4 => "value" | 5 => "value" | 6 => "value" | 7 => "place" | 8 => "line" | _ => "most"

section
variable (g : G)
mutual
def Dt (H : Hp) : D → V → Prop
  | .non, v => v = .non
  | .bl b, v => v = .bl b
  | .int i, v => v = .int i
  | .str s, v => v = .str s
  | .tup l, v => ∃ a xs, v = .ref a ∧ SqT g.K H a xs ∧ DtL H l xs
  | .lst l, v => ∃ a xs, v = .ref a ∧ H a = some (.lst xs) ∧ DtL H l xs
  | .fro l, v => ∃ a xs, v = .ref a ∧ SqL g.K H a xs ∧ DtL H l xs
  | .dic ks vs, v => ∃ a xs ys, v = .ref a ∧ DtL H ks xs ∧ DtL H vs ys ∧ ((∃ kk : List (Key × V), kk.map (fun p => kV p.1) = xs ∧ kk.map (·.2) = ys ∧ H a = some (.dK kk)) ∨ (∃ kk : List (List Key × V), kk.map (·.2) = ys ∧ H a = some (.dT kk) ∧ Paired (fun (x : V) (k : List Key × V) => ∃ b, x = .ref b ∧ H b = some (.tup (k.1.map kV))) xs kk))
  | .obj c l, v => ∃ a C dx fs, v = .ref a ∧ g.mg (clsN c) = some (.ref C) ∧ H a = some (.ins C dx fs) ∧ fs.map (·.1) = clsF c ∧ DtL H l (fs.map (·.2))
  | .drw a, v => v = .ref a
  | .exc c d, v => ∃ a oe dx vs C u, v = .ref a ∧ g.mg (excN c) = some (.ref C) ∧ H a = some (.frz oe (.own a)) ∧ oe.cls = .ref C ∧ oe.dict = some dx ∧ oe.data = .fields vs ∧ H dx = some (.xd [(excF c, u)]) ∧ Dt H d u
  | .clo _ _, _ => False
def DtL (H : Hp) : List D → List V → Prop
  | [], xs => xs = []
  | d :: ds, xs => ∃ v vs, xs = v :: vs ∧ Dt H d v ∧ DtL H ds vs
end
end
section
variable {g : G} {H H' : Hp}
theorem sq_monoL {K : PySem.W.Frag} {a : Addr} {xs : List V} (e : Sub H H') (h : SqL K H a xs) : SqL K H' a xs := by
  rcases h with (h | ⟨o, h⟩) | h
  · exact .inl (.inl (e _ _ h trivial))
  · exact .inl (.inr ⟨o, e _ _ h trivial⟩)
  · exact .inr h
theorem sq_monoT {K : PySem.W.Frag} {a : Addr} {xs : List V} (e : Sub H H') (h : SqT K H a xs) : SqT K H' a xs := by
  rcases h with (h | ⟨o, h⟩) | h
  · exact .inl (.inl (e _ _ h trivial))
  · exact .inl (.inr ⟨o, e _ _ h trivial⟩)
  · exact .inr h
mutual
theorem Dt.mono (e : Sub H H') : ∀ (d : D) (v : V), Dt g H d v → Dt g H' d v
  | .non, v, h => h
  | .bl b, v, h => h
  | .int i, v, h => h
  | .str s, v, h => h
  | .tup l, v, ⟨a, xs, h1, h2, h3⟩ => ⟨a, xs, h1, sq_monoT e h2, DtL.mono e l xs h3⟩
  | .lst l, v, ⟨a, xs, h1, h2, h3⟩ => ⟨a, xs, h1, e _ _ h2 trivial, DtL.mono e l xs h3⟩
  | .fro l, v, ⟨a, xs, h1, h2, h3⟩ => ⟨a, xs, h1, sq_monoL e h2, DtL.mono e l xs h3⟩
  | .dic ks vs, v, ⟨a, xs, ys, h1, h2, h3, h4⟩ => ⟨a, xs, ys, h1, DtL.mono e ks xs h2, DtL.mono e vs ys h3, by
      rcases h4 with ⟨kk, a1, a2, a3⟩ | ⟨kk, a1, a2, a3⟩
      · exact .inl ⟨kk, a1, a2, e _ _ a3 trivial⟩
      · exact .inr ⟨kk, a1, e _ _ a2 trivial, Paired.mapP a3 fun x k ⟨b, b1, b2⟩ => ⟨b, b1, e _ _ b2 trivial⟩⟩⟩
  | .obj c l, v, ⟨a, C, dx, fs, h1, h2, h3, h4, h5⟩ => ⟨a, C, dx, fs, h1, h2, e _ _ h3 trivial, h4, DtL.mono e l _ h5⟩
  | .drw a, v, h => h
  | .exc c d, v, ⟨a, oe, dx, vs, C, u, h1, h2, h3, h4, h5, h6, h7, h8⟩ => ⟨a, oe, dx, vs, C, u, h1, h2, e _ _ h3 trivial, h4, h5, h6, e _ _ h7 trivial, Dt.mono e d u h8⟩
  | .clo _ _, _, h => h
theorem DtL.mono (e : Sub H H') : ∀ (l : List D) (xs : List V), DtL g H l xs → DtL g H' l xs
  | [], xs, h => h
  | d :: ds, xs, ⟨v, vs, h1, h2, h3⟩ => ⟨v, vs, h1, Dt.mono e d v h2, DtL.mono e ds vs h3⟩
end
theorem DtL.length : ∀ {l : List D} {xs : List V}, DtL g H l xs → xs.length = l.length
  | [], xs, h => by rw [show xs = [] from h]; rfl
  | d :: ds, xs, ⟨v, vs, h1, h2, h3⟩ => by rw [h1, List.length_cons, List.length_cons, DtL.length h3]
theorem DtL.append : ∀ {l l' : List D} {xs ys : List V}, DtL g H l xs → DtL g H l' ys → DtL g H (l ++ l') (xs ++ ys)
  | [], _, xs, ys, h, h' => by rw [show xs = [] from h]; exact h'
  | d :: ds, _, xs, ys, ⟨v, vs, h1, h2, h3⟩, h' => ⟨v, vs ++ ys, by rw [h1]; rfl, h2, DtL.append h3 h'⟩
theorem DtL.get : ∀ {l : List D} {xs : List V} {i : Nat} {d : D}, DtL g H l xs → l[i]? = some d → ∃ v, xs[i]? = some v ∧ Dt g H d v
  | [], xs, i, d, h, e => by simp at e
  | a :: ds, xs, 0, d, ⟨v, vs, h1, h2, h3⟩, e => by
    obtain rfl : a = d := by simpa using e
    exact ⟨v, by rw [h1]; rfl, h2⟩
  | a :: ds, xs, i + 1, d, ⟨v, vs, h1, h2, h3⟩, e => by
    obtain ⟨u, hu, hd⟩ := DtL.get (i := i) (d := d) h3 (by simpa using e)
    exact ⟨u, by rw [h1]; simpa using hu, hd⟩
theorem DtL.getV : ∀ {l : List D} {xs : List V} {i : Nat} {v : V}, DtL g H l xs → xs[i]? = some v → ∃ d, l[i]? = some d ∧ Dt g H d v
  | [], xs, i, v, h, e => by rw [show xs = [] from h] at e; simp at e
  | a :: ds, xs, 0, v, ⟨u, vs, h1, h2, h3⟩, e => by
    rw [h1] at e
    obtain rfl : u = v := by simpa using e
    exact ⟨a, rfl, h2⟩
  | a :: ds, xs, i + 1, v, ⟨u, vs, h1, h2, h3⟩, e => by
    rw [h1] at e
    exact DtL.getV (i := i) (v := v) h3 (by simpa using e)
theorem DtL.take : ∀ {l : List D} {xs : List V} (n : Nat), DtL g H l xs → DtL g H (l.take n) (xs.take n)
  | [], xs, n, h => by rw [show xs = [] from h]; simp; rfl
  | a :: ds, xs, 0, h => by simp; rfl
  | a :: ds, xs, n + 1, ⟨u, vs, h1, h2, h3⟩ => ⟨u, vs.take n, by rw [h1]; rfl, h2, DtL.take n h3⟩
theorem DtL.drop : ∀ {l : List D} {xs : List V} (n : Nat), DtL g H l xs → DtL g H (l.drop n) (xs.drop n)
  | [], xs, n, h => by rw [show xs = [] from h]; simp; rfl
  | a :: ds, xs, 0, h => h
  | a :: ds, xs, n + 1, ⟨u, vs, h1, h2, h3⟩ => by rw [h1]; exact DtL.drop n h3
end

/-! ### the draws in the heap -/
def dicO (P : Program) (w : World) (am c l : Addr) (n : Int) : HO := .ext fun h => ObjOk P w (fun _ => none) h am (.dK [(Sum.inr "cells", .ref c), (Sum.inr "left", .ref l), (Sum.inr "at", .int n)])
def lstO (l : Addr) (xs : List Int) : HO := .ext fun h => xs.length ≤ sizeLine ∧ ∃ (its : List Value) (n : Nat), Vals (xs.map V.int) its ∧ h.get? l = some { cls := .type "list", data := .seq its.toArray n }
def DOk (g : G) (H : Hp) : DS → Prop
  | .off => True
  | .on am cells left n => ∃ c l, (c ≠ l ∧ am ≠ c ∧ am ≠ l) ∧ H am = some (dicO g.P g.w am c l n) ∧ H l = some (lstO l left) ∧ H c = some (lstO c cells)
theorem DOk.same {g : G} {H H' : Hp} {S : DS} (h : DOk g H S) (e : Same H H') : DOk g H' S := by
  cases S with
  | off => trivial
  | on am cells left n =>
    obtain ⟨c, l, h1, h2, h3, h4⟩ := h
    exact ⟨c, l, h1, e _ _ h2, e _ _ h3, e _ _ h4⟩

theorem DOk.upd {g : G} {H : Hp} {S : DS} {p : Addr} {o o' : HO} (h : DOk g H S) (hp : H p = some o) (st : Stab o) : DOk g (L2.upd H p o') S := by
  cases S with
  | off => trivial
  | on am cells left n =>
    obtain ⟨c, l, h1, h2, h3, h4⟩ := h
    have k : ∀ a φ, H a = some (.ext φ) → a ≠ p := fun a φ e z => by
      rw [z, hp] at e
      cases e
      exact st
    exact ⟨c, l, h1, by rw [upd_ne (k _ _ h2)]; exact h2, by rw [upd_ne (k _ _ h3)]; exact h3, by rw [upd_ne (k _ _ h4)]; exact h4⟩

/-! ### a mask, the slots -/
/-- b: what the callers hide; o: lists of the frame's own -/
structure Mk where
  b : Addr → Bool
  o : Addr → Bool
def Mk.all (μ : Mk) : Addr → Bool := fun a => μ.b a || μ.o a
abbrev hidM (μ : Mk) (H : Hp) : Hp := hid μ.all H
def MOk (m : Addr → Bool) (H : Hp) : Prop := ∀ a, m a = true → ∃ o, H a = some o ∧ Stab o
theorem MOk.mono {m : Addr → Bool} {H H' : Hp} (h : MOk m H) (e : Sub H H') : MOk m H' := fun a q => let ⟨o, h1, h2⟩ := h a q; ⟨o, e a o h1 h2, h2⟩
theorem MOk.new {m : Addr → Bool} {H : Hp} {p : Addr} (h : MOk m H) (hp : H p = none) : m p = false := by
  cases e : m p with
  | false => rfl
  | true => obtain ⟨o, h1, _⟩ := h p e; rw [hp] at h1; cases h1
/-- a list of the frame's own -/
def OwnL (g : G) (μ : Mk) (H : Hp) (l : List D) (v : V) : Prop := ∃ p xs, v = .ref p ∧ μ.o p = true ∧ μ.b p = false ∧ H p = some (.lst xs) ∧ DtL g (hidM μ H) l xs
theorem OwnL.mono {g : G} {μ : Mk} {H H' : Hp} {l : List D} {v : V} (e : Sub H H') (h : OwnL g μ H l v) : OwnL g μ H' l v := by
  obtain ⟨p, xs, h1, h2, h2', h3, h4⟩ := h
  exact ⟨p, xs, h1, h2, h2', e _ _ h3 trivial, DtL.mono e.hid _ _ h4⟩
/-- what may be looked at: data, or a list of the frame's own -/
def DtV (g : G) (μ : Mk) (H : Hp) (d : D) (v : V) : Prop := Dt g (hidM μ H) d v ∨ ∃ l, d = .lst l ∧ OwnL g μ H l v
theorem DtV.mono {g : G} {μ : Mk} {H H' : Hp} {d : D} {v : V} (e : Sub H H') (h : DtV g μ H d v) : DtV g μ H' d v := by
  rcases h with h | ⟨l, h1, h2⟩
  · exact .inl (Dt.mono e.hid _ _ h)
  · exact .inr ⟨l, h1, h2.mono e⟩
def DtVL (g : G) (μ : Mk) (H : Hp) : List D → List V → Prop
  | [], xs => xs = []
  | d :: ds, xs => ∃ v vs, xs = v :: vs ∧ DtV g μ H d v ∧ DtVL g μ H ds vs
theorem DtVL.mono {g : G} {μ : Mk} {H H' : Hp} (e : Sub H H') : ∀ {l : List D} {xs : List V}, DtVL g μ H l xs → DtVL g μ H' l xs
  | [], _, h => h
  | _ :: _, _, ⟨v, vs, h1, h2, h3⟩ => ⟨v, vs, h1, h2.mono e, DtVL.mono e h3⟩
def DtS (g : G) (μ : Mk) (H : Hp) (s : Sl) (v : V) : Prop := match s with
  | .own l => OwnL g μ H l v
  | .dat d => Dt g (hidM μ H) d v
theorem DtS.mono {g : G} {μ : Mk} {H H' : Hp} {s : Sl} {v : V} (e : Sub H H') (h : DtS g μ H s v) : DtS g μ H' s v := by
  cases s with
  | own l => exact OwnL.mono e h
  | dat d => exact Dt.mono e.hid _ _ h
structure Rel (g : G) (μ : Mk) (H : Hp) (σ : L2.St) (δ : Env) : Prop where
  len : δ.length = σ.length
  at_ : ∀ (i : Nat) (d : Sl), δ[i]? = some (some d) → ∃ v, σ[i]? = some (some v) ∧ DtS g μ H d v
  own : ∀ (i j : Nat) (l l' : List D) (v : V), δ[i]? = some (some (.own l)) → δ[j]? = some (some (.own l')) → σ[i]? = some (some v) → σ[j]? = some (some v) → i = j
theorem Rel.mono {g : G} {μ : Mk} {H H' : Hp} {σ : L2.St} {δ : Env} (h : Rel g μ H σ δ) (e : Sub H H') : Rel g μ H' σ δ :=
  ⟨h.len, fun i d q => let ⟨v, h1, h2⟩ := h.at_ i d q; ⟨v, h1, h2.mono e⟩, h.own⟩

/-! ### what a run wants -/
def XRel (g : G) (m : Addr → Bool) (H : Hp) (x : Xc) (cls : Value) (d : Option Addr) : Prop :=
  ∃ C dd v, g.mg (excN x.cls) = some (.ref C) ∧ cls = .ref C ∧ d = some dd ∧ hid m H dd = some (.xd [(excF x.cls, v)]) ∧ Dt g (hid m H) x.val v
def FinG {α : Type} (g : G) (H : Hp) (okP : α → DS → Hp → Prop) (exP : Xc → DS → Hp → Prop) : Out α → Prop
  | .no => False
  | .ok a S => ∀ H', Sub H H' → DOk g H' S → okP a S H'
  | .ex x S => ∀ H', Sub H H' → DOk g H' S → exP x S H'
theorem FinG.sub {α : Type} {g : G} {H H1 : Hp} {okP : α → DS → Hp → Prop} {exP : Xc → DS → Hp → Prop} {o : Out α} (s : Sub H H1) (h : FinG g H okP exP o) : FinG g H1 okP exP o := by
  cases o with
  | no => exact h
  | ok a S => exact fun H' s' => h H' (s.trans s')
  | ex x S => exact fun H' s' => h H' (s.trans s')
theorem FinG.bind {α β : Type} {g : G} {H : Hp} {okP : β → DS → Hp → Prop} {exP : Xc → DS → Hp → Prop} {o : Out α} {k : α → M β} (h : FinG g H okP exP (o.bind k)) : FinG g H (fun a S H1 => FinG g H1 okP exP (k a S)) exP o := by
  cases o with
  | no => exact h
  | ok a S => exact fun H' s' d' => FinG.sub s' h
  | ex x S => exact h
theorem FinG.imp {α : Type} {g : G} {H : Hp} {okP okP' : α → DS → Hp → Prop} {exP exP' : Xc → DS → Hp → Prop} {o : Out α} (h : FinG g H okP exP o) (i : ∀ a S H', Sub H H' → DOk g H' S → okP a S H' → okP' a S H') (j : ∀ x S H', Sub H H' → DOk g H' S → exP x S H' → exP' x S H') : FinG g H okP' exP' o := by
  cases o with
  | no => exact h
  | ok a S => exact fun H' s' d' => i a S H' s' d' (h H' s' d')
  | ex x S => exact fun H' s' d' => j x S H' s' d' (h H' s' d')
abbrev exW (g : G) (μ : Mk) (W : WX) (σ : L2.St) : Xc → DS → Hp → Prop := fun x _ H' => ∀ c dd, XRel g μ.all H' x c dd → W c dd σ H'
abbrev Fin (g : G) (μ : Mk) (W : WX) (σ : L2.St) (H : Hp) (Q : VK) : Out D → Prop := FinG g H (fun d _ H' => ∀ v, Dt g (hidM μ H') d v → Q v H') (exW g μ W σ)
abbrev FinV (g : G) (μ : Mk) (W : WX) (σ : L2.St) (H : Hp) (Q : VK) : Out D → Prop := FinG g H (fun d _ H' => ∀ v, DtV g μ H' d v → Q v H') (exW g μ W σ)
abbrev FinVL (g : G) (μ : Mk) (W : WX) (σ : L2.St) (H : Hp) (Q : List V → Hp → Prop) : Out (List D) → Prop := FinG g H (fun l _ H' => ∀ vs, DtVL g μ H' l vs → Q vs H') (exW g μ W σ)
abbrev FinL (g : G) (μ : Mk) (W : WX) (σ : L2.St) (H : Hp) (Q : List V → Hp → Prop) : Out (List D) → Prop := FinG g H (fun l _ H' => ∀ vs, DtL g (hidM μ H') l vs → Q vs H') (exW g μ W σ)
abbrev FinB (g : G) (μ : Mk) (W : WX) (σ : L2.St) (H : Hp) (Q : Bool → Hp → Prop) : Out Bool → Prop := FinG g H (fun b _ H' => Q b H') (exW g μ W σ)
/-- a reading by a run -/
def tI (g : G) (F : Fns) (W : WX) (ε : Ev) : TE := fun σ H Q => ∃ μ δ S, MOk μ.all H ∧ Rel g μ H σ δ ∧ DOk g H S ∧ Fin g μ W σ H Q (ε F δ S)
def tIV (g : G) (F : Fns) (W : WX) (ε : Ev) : TE := fun σ H Q => ∃ μ δ S, MOk μ.all H ∧ Rel g μ H σ δ ∧ DOk g H S ∧ FinV g μ W σ H Q (ε F δ S)
def tIVA (g : G) (F : Fns) (W : WX) (ε : Av) : TA := fun σ H Q => ∃ μ δ S, MOk μ.all H ∧ Rel g μ H σ δ ∧ DOk g H S ∧ FinVL g μ W σ H Q (ε F δ S)
def tIA (g : G) (F : Fns) (W : WX) (ε : Av) : TA := fun σ H Q => ∃ μ δ S, MOk μ.all H ∧ Rel g μ H σ δ ∧ DOk g H S ∧ FinL g μ W σ H Q (ε F δ S)
def tIT (g : G) (F : Fns) (W : WX) (ε : Tv) : TT := fun σ H Q => ∃ μ δ S, MOk μ.all H ∧ Rel g μ H σ δ ∧ DOk g H S ∧ FinB g μ W σ H Q (ε F δ S)
section
variable {g : G} {F : Fns} {W : WX} {μ : Mk} {σ : L2.St} {H : Hp} {δ : Env} {S : DS} {α : Type} {okP : α → DS → Hp → Prop}
/-- THE STEP: a part is run, then k -/
theorem stepE {ε : Ev} {k : D → M α} {T : VK} (hm : MOk μ.all H) (hr : Rel g μ H σ δ) (hd : DOk g H S) (h : FinG g H okP (exW g μ W σ) ((ε F δ S).bind k))
    (c : ∀ x H1 d S1, Sub H H1 → MOk μ.all H1 → Rel g μ H1 σ δ → DOk g H1 S1 → Dt g (hidM μ H1) d x → FinG g H1 okP (exW g μ W σ) (k d S1) → T x H1) : tI g F W ε σ H T :=
  ⟨μ, δ, S, hm, hr, hd, h.bind.imp (fun a S' H' s' d' q v r => c v H' a S' s' (hm.mono s') (hr.mono s') d' r q) fun _ _ _ _ _ q => q⟩
theorem stepV {ε : Ev} {k : D → M α} {T : VK} (hm : MOk μ.all H) (hr : Rel g μ H σ δ) (hd : DOk g H S) (h : FinG g H okP (exW g μ W σ) ((ε F δ S).bind k))
    (c : ∀ x H1 d S1, Sub H H1 → MOk μ.all H1 → Rel g μ H1 σ δ → DOk g H1 S1 → DtV g μ H1 d x → FinG g H1 okP (exW g μ W σ) (k d S1) → T x H1) : tIV g F W ε σ H T :=
  ⟨μ, δ, S, hm, hr, hd, h.bind.imp (fun a S' H' s' d' q v r => c v H' a S' s' (hm.mono s') (hr.mono s') d' r q) fun _ _ _ _ _ q => q⟩
theorem stepA {ε : Av} {k : List D → M α} {T : List V → Hp → Prop} (hm : MOk μ.all H) (hr : Rel g μ H σ δ) (hd : DOk g H S) (h : FinG g H okP (exW g μ W σ) ((ε F δ S).bind k))
    (c : ∀ xs H1 l S1, Sub H H1 → MOk μ.all H1 → Rel g μ H1 σ δ → DOk g H1 S1 → DtL g (hidM μ H1) l xs → FinG g H1 okP (exW g μ W σ) (k l S1) → T xs H1) : tIA g F W ε σ H T :=
  ⟨μ, δ, S, hm, hr, hd, h.bind.imp (fun a S' H' s' d' q v r => c v H' a S' s' (hm.mono s') (hr.mono s') d' r q) fun _ _ _ _ _ q => q⟩
theorem stepVA {ε : Av} {k : List D → M α} {T : List V → Hp → Prop} (hm : MOk μ.all H) (hr : Rel g μ H σ δ) (hd : DOk g H S) (h : FinG g H okP (exW g μ W σ) ((ε F δ S).bind k))
    (c : ∀ xs H1 l S1, Sub H H1 → MOk μ.all H1 → Rel g μ H1 σ δ → DOk g H1 S1 → DtVL g μ H1 l xs → FinG g H1 okP (exW g μ W σ) (k l S1) → T xs H1) : tIVA g F W ε σ H T :=
  ⟨μ, δ, S, hm, hr, hd, h.bind.imp (fun a S' H' s' d' q v r => c v H' a S' s' (hm.mono s') (hr.mono s') d' r q) fun _ _ _ _ _ q => q⟩
theorem stepT {ε : Tv} {k : Bool → M α} {T : Bool → Hp → Prop} (hm : MOk μ.all H) (hr : Rel g μ H σ δ) (hd : DOk g H S) (h : FinG g H okP (exW g μ W σ) ((ε F δ S).bind k))
    (c : ∀ b H1 S1, Sub H H1 → MOk μ.all H1 → Rel g μ H1 σ δ → DOk g H1 S1 → FinG g H1 okP (exW g μ W σ) (k b S1) → T b H1) : tIT g F W ε σ H T :=
  ⟨μ, δ, S, hm, hr, hd, h.bind.imp (fun a S' H' s' d' q => c a H' S' s' (hm.mono s') (hr.mono s') d' q) fun _ _ _ _ _ q => q⟩
end
end Wm

namespace Wm
open PySem PySem.Spec PyProof.Rows L2

theorem pe_mono {X : Cx} {e : Expr} {t t' : TE} (h : PE X e t) (i : ∀ σ H Q, t' σ H Q → t σ H Q) : PE X e t' := ⟨fun pins s σ H Q I q => h.run pins s σ H Q I (i σ H Q q)⟩
theorem pt_mono {X : Cx} {e : Expr} {t t' : TT} (h : PT X e t) (i : ∀ σ H Q, t' σ H Q → t σ H Q) : PT X e t' := ⟨fun pins s σ H Q I q => h.run pins s σ H Q I (i σ H Q q)⟩
theorem pw_mono {X : Cx} {e : Expr} {t t' : TT} (h : PW X e t) (i : ∀ σ H Q, t' σ H Q → t σ H Q) : PW X e t' := ⟨fun wh pins s σ H Q I q => h.run wh pins s σ H Q I (i σ H Q q)⟩
theorem pa_mono {X : Cx} {es : List Expr} {t t' : TA} (h : PA X es t) (i : ∀ σ H Q, t' σ H Q → t σ H Q) : PA X es t' := ⟨fun pos pins s σ H Q I q => h.run pos pins s σ H Q I (i σ H Q q)⟩
theorem ps_mono {X : Cx} {st : Stmt} {t t' : TS} (h : PS X st t) (i : ∀ D σ H, t' D σ H → t D σ H) : PS X st t' := ⟨fun pins s σ H D I q => h.run pins s σ H D I (i D σ H q)⟩
theorem pss_mono {X : Cx} {st : List Stmt} {t t' : TS} (h : PSs X st t) (i : ∀ D σ H, t' D σ H → t D σ H) : PSs X st t' := ⟨fun pins s σ H D I q => h.run pins s σ H D I (i D σ H q)⟩

/-! ### the words of a run: expressions -/
def eVar (i : Nat) : Ev := fun _ δ => match δ[i]? with
  | some (some (.dat d)) => M.pure d
  | _ => M.no
/-- a look at a name that may hold a list of the frame's own -/
def eVarV (i : Nat) : Ev := fun _ δ => match δ[i]? with
  | some (some (.dat d)) => M.pure d
  | some (some (.own l)) => M.pure (.lst l)
  | _ => M.no
def eC (d : D) : Ev := fun _ _ => M.pure d
/-- an operator on two values -/
def eOp (f : D → D → Option D) (a b : Ev) : Ev := fun F δ => M.bind (a F δ) fun x => M.bind (b F δ) fun y => M.of (f x y)
def eUn (f : D → Option D) (a : Ev) : Ev := fun F δ => M.bind (a F δ) fun x => M.of (f x)
def aNil : Av := fun _ _ => M.pure []
def aCons (a : Ev) (r : Av) : Av := fun F δ => M.bind (a F δ) fun x => M.bind (r F δ) fun xs => M.pure (x :: xs)
def eTup (a : Av) : Ev := fun F δ => M.bind (a F δ) fun xs => if xs.length ≤ 1000000 then M.pure (.tup xs) else M.no
def eLst (a : Av) : Ev := fun F δ => M.bind (a F δ) fun xs => if xs.length ≤ 1000000 then M.pure (.lst xs) else M.no
def eIf (c : Tv) (a b : Ev) : Ev := fun F δ => M.bind (c F δ) fun k => if k = true then a F δ else b F δ
def blOf : D → Option Bool
  | .bl c => some c
  | _ => none
def eAnd (a b : Ev) : Ev := fun F δ => M.bind (a F δ) fun x => M.bind (M.of (blOf x)) fun c => if c = true then b F δ else M.pure (.bl false)
def eOr (a b : Ev) : Ev := fun F δ => M.bind (a F δ) fun x => M.bind (M.of (blOf x)) fun c => if c = true then M.pure (.bl true) else b F δ
def eNot (a : Ev) : Ev := fun F δ => M.bind (a F δ) fun x => M.bind (M.of (blOf x)) fun c => M.pure (.bl (!c))
def cB (a : Ev) : Tv := fun F δ => M.bind (a F δ) fun x => M.of (blOf x)
def cAnd (a b : Tv) : Tv := fun F δ => M.bind (a F δ) fun c => if c = true then b F δ else M.pure false
def cOr (a b : Tv) : Tv := fun F δ => M.bind (a F δ) fun c => if c = true then M.pure true else b F δ
def cNot (a : Tv) : Tv := fun F δ => M.bind (a F δ) fun c => M.pure (!c)
/-- a chain a < b < c -/
def eChain (f f' : D → D → Option D) (a b c : Ev) : Ev := fun F δ => M.bind (a F δ) fun x => M.bind (b F δ) fun y => M.bind (M.of ((f x y).bind blOf)) fun k =>
  if k = true then M.bind (c F δ) fun z => M.of (f' y z) else M.pure (.bl false)
/-- a call of a built-in -/
def eB (f : List D → Option D) (a : Av) : Ev := fun F δ => M.bind (a F δ) fun xs => M.of (f xs)
/-- a call of a def of the text; ds: the defaults that fill up -/
def eCall (n : Nat) (ds : List D) (a : Av) : Ev := fun F δ => M.bind (a F δ) fun xs => F n (xs ++ ds)

/-- what two values' operator asks -/
def rD (g : G) (f : D → D → Option D) : R2 := fun x y H Q => ∃ μ dx dy d, MOk μ.all H ∧ DtV g μ H dx x ∧ DtV g μ H dy y ∧ f dx dy = some d ∧ ∀ v H', Same H H' → Dt g (hidM μ H') d v → Q v H'
def uD (g : G) (f : D → Option D) : V → Hp → VK → Prop := fun x H Q => ∃ μ dx d, MOk μ.all H ∧ DtV g μ H dx x ∧ f dx = some d ∧ ∀ v H', Same H H' → Dt g (hidM μ H') d v → Q v H'
/-- a built-in call on data -/
def bD (g : G) (f : List D → Option D) : List V → Hp → VK → Prop := fun xs H Q => ∃ μ ds d, MOk (Mk.all μ) H ∧ DtVL g μ H ds xs ∧ f ds = some d ∧ ∀ v H', Same H H' → Dt g (hidM μ H') d v → Q v H'

theorem fin_of {α : Type} {g : G} {H : Hp} {okP : α → DS → Hp → Prop} {exP : Xc → DS → Hp → Prop} {o : Option α} {S : DS} (h : FinG g H okP exP (M.of o S)) : ∃ d, o = some d ∧ ∀ H', Sub H H' → DOk g H' S → okP d S H' := by
  cases o with
  | none => exact False.elim h
  | some d => exact ⟨d, rfl, h⟩
theorem fin_ofB {α β : Type} {g : G} {H : Hp} {okP : β → DS → Hp → Prop} {exP : Xc → DS → Hp → Prop} {o : Option α} {k : α → M β} {S : DS} (h : FinG g H okP exP (M.bind (M.of o) k S)) : ∃ d, o = some d ∧ FinG g H okP exP (k d S) := by
  cases o with
  | none => exact False.elim h
  | some d => exact ⟨d, rfl, h⟩
theorem blOf_some {d : D} {c : Bool} (h : blOf d = some c) : d = .bl c := by
  cases d <;> simp [blOf] at h
  subst h; rfl
theorem sz_mil {n : Nat} (h : n ≤ 1000000) : n ≤ sizeLine := Nat.le_trans h (by decide)

section
variable {X : Cx} {g : G} {F : Fns} {W : WX} {e a b c : Expr} {es : List Expr} {pos : Pos} {ea eb ec : Ev} {aa : Av}
theorem se_var {i : Nat} {x : Str} (hN : X.N[i]? = some x) (hv : Vis X.env.scope x) (hd : (x == ("__debug__" : Str)) = false) (hcd : (x == ("__classdict__" : Str)) = false) : PE X (.Name x pos) (tI g F W (eVar i)) := by
  refine pe_mono (pe_var hN hv hd hcd) fun σ H Q h => ?_
  obtain ⟨μ, δ, S, hm, hr, hd, h⟩ := h
  unfold eVar at h
  cases q : δ[i]? with
  | none => simp only [q] at h; exact False.elim h
  | some o =>
    cases o with
    | none => simp only [q] at h; exact False.elim h
    | some d =>
      cases d with
      | own l => simp only [q] at h; exact False.elim h
      | dat d =>
        simp only [q] at h
        obtain ⟨v, e1, e2⟩ := hr.at_ i _ q
        exact ⟨v, e1, h H (Sub.refl H) hd v e2⟩
theorem sv_var {i : Nat} {x : Str} (hN : X.N[i]? = some x) (hv : Vis X.env.scope x) (hd : (x == ("__debug__" : Str)) = false) (hcd : (x == ("__classdict__" : Str)) = false) : PE X (.Name x pos) (tIV g F W (eVarV i)) := by
  refine pe_mono (pe_var hN hv hd hcd) fun σ H Q h => ?_
  obtain ⟨μ, δ, S, hm, hr, hd, h⟩ := h
  unfold eVarV at h
  cases q : δ[i]? with
  | none => simp only [q] at h; exact False.elim h
  | some o =>
    cases o with
    | none => simp only [q] at h; exact False.elim h
    | some d =>
      obtain ⟨v, e1, e2⟩ := hr.at_ i _ q
      cases d with
      | own l =>
        simp only [q] at h
        exact ⟨v, e1, h H (Sub.refl H) hd v (.inr ⟨l, rfl, e2⟩)⟩
      | dat d =>
        simp only [q] at h
        exact ⟨v, e1, h H (Sub.refl H) hd v (.inl e2)⟩
/-- a value is looked at -/
theorem se_v (h : PE X e (tI g F W ea)) : PE X e (tIV g F W ea) := pe_mono h fun σ H Q ⟨μ, δ, S, hm, hr, hd, h⟩ => ⟨μ, δ, S, hm, hr, hd, h.imp (fun d S' H' _ _ q v r => q v (.inl r)) fun _ _ _ _ _ q => q⟩
theorem se_c {d : D} {v : V} {e : Expr} (h : PE X e (tC v)) (hv : ∀ (H : Hp), Dt g H d v) : PE X e (tI g F W (eC d)) :=
  pe_mono h fun σ H Q ⟨μ, δ, S, hm, hr, hd, h⟩ => h H (Sub.refl H) hd v (hv _)
theorem se_int {i : Int} {j : Nat} : PE X (.Constant (.int i) j pos) (tI g F W (eC (.int i))) := se_c pe_int fun _ => rfl
theorem se_str {x : Str} {j : Nat} : PE X (.Constant (.str x) j pos) (tI g F W (eC (.str x))) := se_c pe_str fun _ => rfl
theorem se_bl {x : Bool} {j : Nat} : PE X (.Constant (.bool x) j pos) (tI g F W (eC (.bl x))) := se_c pe_bl fun _ => rfl
theorem se_non {j : Nat} : PE X (.Constant .none j pos) (tI g F W (eC .non)) := se_c pe_non fun _ => rfl
theorem se_op {op : Operator} {f : D → D → Option D} (ho : OpR X (binaryOp op) (rD g f)) (ha : PE X a (tIV g F W ea)) (hb : PE X b (tIV g F W eb)) : PE X (.BinOp a op b pos) (tI g F W (eOp f ea eb)) := by
  refine pe_mono (pe_op ho ha hb) fun σ H Q ⟨μ, δ, S, hm, hr, hd, h⟩ => ?_
  refine stepV hm hr hd h fun x H1 dx S1 s1 hm hr hd r1 h => stepV hm hr hd h fun y H2 dy S2 s2 hm hr hd r2 h => ?_
  obtain ⟨d, ef, h⟩ := fin_of h
  exact ⟨μ, dx, dy, d, hm, r1.mono s2, r2, ef, fun v H' sm r => h H' (Sub.of sm) (hd.same sm) v r⟩
theorem se_un {op : UnaryOp} {f : D → Option D} (ho : UnR X (unaryOp op) (uD g f)) (ha : PE X a (tIV g F W ea)) : PE X (.UnaryOp op a pos) (tI g F W (eUn f ea)) := by
  refine pe_mono (pe_un ho ha) fun σ H Q ⟨μ, δ, S, hm, hr, hd, h⟩ => ?_
  refine stepV hm hr hd h fun x H1 dx S1 s1 hm hr hd r1 h => ?_
  obtain ⟨d, ef, h⟩ := fin_of h
  exact ⟨μ, dx, d, hm, r1, ef, fun v H' sm r => h H' (Sub.of sm) (hd.same sm) v r⟩
theorem se_cmp {op : CmpOp} {f : D → D → Option D} (ho : OpR X (compareOp op) (rD g f)) (ha : PE X a (tIV g F W ea)) (hb : PE X b (tIV g F W eb)) (hm : behindInMarks op b = false) : PE X (.Compare a [op] [b] pos) (tI g F W (eOp f ea eb)) := by
  refine pe_mono (pe_cmpR ho ha hb hm) fun σ H Q ⟨μ, δ, S, hm, hr, hd, h⟩ => ?_
  refine stepV hm hr hd h fun x H1 dx S1 s1 hm hr hd r1 h => stepV hm hr hd h fun y H2 dy S2 s2 hm hr hd r2 h => ?_
  obtain ⟨d, ef, h⟩ := fin_of h
  exact ⟨μ, dx, dy, d, hm, r1.mono s2, r2, ef, fun v H' sm r => h H' (Sub.of sm) (hd.same sm) v r⟩
theorem st_cmp {op : CmpOp} {f : D → D → Option D} (ho : OpR X (compareOp op) (rD g f)) (ha : PE X a (tIV g F W ea)) (hb : PE X b (tIV g F W eb)) (hm : behindInMarks op b = false) : PT X (.Compare a [op] [b] pos) (tIT g F W (cB (eOp f ea eb))) := by
  refine pt_mono (pt_cmpR ho ha hb hm) fun σ H Q ⟨μ, δ, S, hm, hr, hd, h⟩ => ?_
  have h : FinB g μ W σ H Q ((ea F δ S).bind fun x => M.bind (eb F δ) fun y => M.bind (M.of (f x y)) fun z => M.of (blOf z)) := by
    revert h
    show FinB g μ W σ H Q (((ea F δ S).bind fun x => M.bind (eb F δ) fun y => M.of (f x y)).bind fun z => M.of (blOf z)) → _
    cases ea F δ S with
    | no => exact fun h => h
    | ex x S => exact fun h => h
    | ok x S =>
      show FinB g μ W σ H Q (((eb F δ S).bind fun y => M.of (f x y)).bind fun z => M.of (blOf z)) → FinB g μ W σ H Q ((eb F δ S).bind fun y => M.bind (M.of (f x y)) fun z => M.of (blOf z))
      cases eb F δ S with
      | no => exact fun h => h
      | ex x S => exact fun h => h
      | ok y S => exact fun h => h
  refine stepV hm hr hd h fun x H1 dx S1 s1 hm hr hd r1 h => stepV hm hr hd h fun y H2 dy S2 s2 hm hr hd r2 h => ?_
  obtain ⟨d, ef, h⟩ := fin_ofB h
  obtain ⟨k, eb, h⟩ := fin_of h
  refine ⟨μ, dx, dy, d, hm, r1.mono s2, r2, ef, fun v H' sm r => ?_⟩
  rw [blOf_some eb] at r
  exact ⟨k, r, h H' (Sub.of sm) (hd.same sm)⟩
theorem st_val (he : PE X e (tI g F W ea)) (hi : ∀ whole, isTrue e X.env whole = (do let v ← whole; standAt e.pos; holding [v] (truthy v))) : PT X e (tIT g F W (cB ea)) := by
  refine pt_mono (pt_val he hi) fun σ H Q ⟨μ, δ, S, hm, hr, hd, h⟩ => ?_
  refine stepE hm hr hd h fun x H1 dx S1 s1 hm hr hd r1 h => ?_
  obtain ⟨k, eb, h⟩ := fin_of h
  rw [blOf_some eb] at r1
  exact ⟨k, r1, h H1 (Sub.refl _) hd⟩
theorem sw_and1 {ta : Tv} (ha : PT X a (tIT g F W ta)) : PW X (.BoolOp .And [a] pos) (tIT g F W ta) := pw_and1 ha
theorem sw_or1 {ta : Tv} (ha : PT X a (tIT g F W ta)) : PW X (.BoolOp .Or [a] pos) (tIT g F W ta) := pw_or1 ha
theorem sw_and {ta tb : Tv} {rest : List Expr} (ha : PT X a (tIT g F W ta)) (hb : PW X (.BoolOp .And (b :: rest) pos) (tIT g F W tb)) : PW X (.BoolOp .And (a :: b :: rest) pos) (tIT g F W (cAnd ta tb)) := by
  refine pw_mono (pw_and ha hb) fun σ H Q ⟨μ, δ, S, hm, hr, hd, h⟩ => ?_
  refine stepT hm hr hd h fun k H1 S1 s1 hm hr hd h => ?_
  cases k with
  | true => exact ⟨μ, δ, S1, hm, hr, hd, h⟩
  | false => exact h H1 (Sub.refl _) hd
theorem sw_or {ta tb : Tv} {rest : List Expr} (ha : PT X a (tIT g F W ta)) (hb : PW X (.BoolOp .Or (b :: rest) pos) (tIT g F W tb)) : PW X (.BoolOp .Or (a :: b :: rest) pos) (tIT g F W (cOr ta tb)) := by
  refine pw_mono (pw_or ha hb) fun σ H Q ⟨μ, δ, S, hm, hr, hd, h⟩ => ?_
  refine stepT hm hr hd h fun k H1 S1 s1 hm hr hd h => ?_
  cases k with
  | true => exact h H1 (Sub.refl _) hd
  | false => exact ⟨μ, δ, S1, hm, hr, hd, h⟩
theorem st_not {ta : Tv} (ha : PT X a (tIT g F W ta)) : PT X (.UnaryOp .Not a pos) (tIT g F W (cNot ta)) := by
  refine pt_mono (pt_not ha) fun σ H Q ⟨μ, δ, S, hm, hr, hd, h⟩ => ?_
  exact stepT hm hr hd h fun k H1 S1 s1 hm hr hd h => h H1 (Sub.refl _) hd
theorem se_one {op : BoolOp} (ha : PE X a (tI g F W ea)) : PE X (.BoolOp op [a] pos) (tI g F W ea) := pe_one ha
theorem se_and {rest : List Expr} (ha : PE X a (tI g F W ea)) (hb : PE X (.BoolOp .And (b :: rest) pos) (tI g F W eb)) : PE X (.BoolOp .And (a :: b :: rest) pos) (tI g F W (eAnd ea eb)) := by
  refine pe_mono (pe_and ha hb) fun σ H Q ⟨μ, δ, S, hm, hr, hd, h⟩ => ?_
  refine stepE hm hr hd h fun x H1 dx S1 s1 hm hr hd r1 h => ?_
  obtain ⟨k, e, h⟩ := fin_ofB h
  rw [blOf_some e] at r1
  refine ⟨k, r1, ?_⟩
  cases k with
  | true => exact ⟨μ, δ, S1, hm, hr, hd, h⟩
  | false => exact h H1 (Sub.refl _) hd _ rfl
theorem se_or {rest : List Expr} (ha : PE X a (tI g F W ea)) (hb : PE X (.BoolOp .Or (b :: rest) pos) (tI g F W eb)) : PE X (.BoolOp .Or (a :: b :: rest) pos) (tI g F W (eOr ea eb)) := by
  refine pe_mono (pe_or ha hb) fun σ H Q ⟨μ, δ, S, hm, hr, hd, h⟩ => ?_
  refine stepE hm hr hd h fun x H1 dx S1 s1 hm hr hd r1 h => ?_
  obtain ⟨k, e, h⟩ := fin_ofB h
  rw [blOf_some e] at r1
  refine ⟨k, r1, ?_⟩
  cases k with
  | true => exact h H1 (Sub.refl _) hd _ rfl
  | false => exact ⟨μ, δ, S1, hm, hr, hd, h⟩
theorem se_not (ha : PE X a (tI g F W ea)) : PE X (.UnaryOp .Not a pos) (tI g F W (eNot ea)) := by
  refine pe_mono (pe_not ha) fun σ H Q ⟨μ, δ, S, hm, hr, hd, h⟩ => ?_
  refine stepE hm hr hd h fun x H1 dx S1 s1 hm hr hd r1 h => ?_
  obtain ⟨k, e, h⟩ := fin_ofB h
  rw [blOf_some e] at r1
  exact ⟨k, r1, h H1 (Sub.refl _) hd _ rfl⟩
theorem se_if {tc : Tv} (hc : PT X c (tIT g F W tc)) (ha : PE X a (tI g F W ea)) (hb : PE X b (tI g F W eb)) : PE X (.IfExp c a b pos) (tI g F W (eIf tc ea eb)) := by
  refine pe_mono (pe_ifExp hc ha hb) fun σ H Q ⟨μ, δ, S, hm, hr, hd, h⟩ => ?_
  refine stepT hm hr hd h fun k H1 S1 s1 hm hr hd h => ?_
  cases k with
  | true => exact ⟨μ, δ, S1, hm, hr, hd, h⟩
  | false => exact ⟨μ, δ, S1, hm, hr, hd, h⟩
theorem se_chain {op op' : CmpOp} {f f' : D → D → Option D} (ho : OpR X (compareOp op) (rD g f)) (ho' : OpR X (compareOp op') (rD g f')) (ha : PE X a (tIV g F W ea)) (hb : PE X b (tIV g F W eb)) (hc : PE X c (tIV g F W ec))
    (h1 : behindInMarks op' c = false) : PE X (.Compare a [op, op'] [b, c] pos) (tI g F W (eChain f f' ea eb ec)) := by
  refine pe_mono (pe_chain ho ho' ha hb hc h1) fun σ H Q ⟨μ, δ, S, hm, hr, hd, h⟩ => ?_
  refine stepV hm hr hd h fun x H1 dx S1 s1 hm hr hd r1 h => stepV hm hr hd h fun y H2 dy S2 s2 hm hr hd r2 h => ?_
  obtain ⟨k, e, h⟩ := fin_ofB h
  obtain ⟨d, ef, ek⟩ : ∃ d, f dx dy = some d ∧ blOf d = some k := by
    cases q : f dx dy with
    | none => rw [q] at e; cases e
    | some d => exact ⟨d, rfl, by rw [q] at e; exact e⟩
  refine ⟨μ, dx, dy, d, hm, r1.mono s2, r2, ef, fun v H3 sm r => ?_⟩
  rw [blOf_some ek] at r
  refine ⟨k, r, ?_⟩
  have s3 := Sub.of sm
  cases k with
  | true => 
    refine stepV (hm.mono s3) (hr.mono s3) (hd.same sm) (FinG.sub s3 h) fun z H4 dz S4 s4 hm hr hd r4 h => ?_
    obtain ⟨d', ef', h⟩ := fin_of h
    exact ⟨μ, dy, dz, d', hm, (r2.mono s3).mono s4, r4, ef', fun v H' sm r => h H' (Sub.of sm) (hd.same sm) v r⟩
  | false => exact h H3 s3 (hd.same sm) _ rfl
theorem sa_nil : PA X [] (tIA g F W aNil) := pa_mono pa_nil fun σ H Q ⟨μ, δ, S, hm, hr, hd, h⟩ => h H (Sub.refl _) hd [] rfl
theorem sa_cons (ha : PE X e (tI g F W ea)) (hr : PA X es (tIA g F W aa)) (hs : starEach (e :: es) X.env = (false, eval e X.env) :: starEach es X.env) : PA X (e :: es) (tIA g F W (aCons ea aa)) := by
  refine pa_mono (pa_cons ha hr hs) fun σ H Q ⟨μ, δ, S, hm, hr, hd, h⟩ => ?_
  refine stepE hm hr hd h fun x H1 dx S1 s1 hm hr hd r1 h => stepA hm hr hd h fun xs H2 l S2 s2 hm hr hd r2 h => ?_
  exact h H2 (Sub.refl _) hd (x :: xs) ⟨x, xs, rfl, Dt.mono s2.hid _ _ r1, r2⟩
theorem sva_nil : PA X [] (tIVA g F W aNil) := pa_mono pa_nil fun σ H Q ⟨μ, δ, S, hm, hr, hd, h⟩ => h H (Sub.refl _) hd [] rfl
theorem sva_cons (ha : PE X e (tIV g F W ea)) (hr : PA X es (tIVA g F W aa)) (hs : starEach (e :: es) X.env = (false, eval e X.env) :: starEach es X.env) : PA X (e :: es) (tIVA g F W (aCons ea aa)) := by
  refine pa_mono (pa_cons ha hr hs) fun σ H Q ⟨μ, δ, S, hm, hr, hd, h⟩ => ?_
  refine stepV hm hr hd h fun x H1 dx S1 s1 hm hr hd r1 h => stepVA hm hr hd h fun xs H2 l S2 s2 hm hr hd r2 h => ?_
  exact h H2 (Sub.refl _) hd (x :: xs) ⟨x, xs, rfl, r1.mono s2, r2⟩
theorem hid_new {m : Addr → Bool} {H : Hp} {p : Addr} {o : HO} (hp : m p = false) : hid m (upd H p o) p = some o := hid_of upd_same hp
theorem se_tup {k : Nat} (ha : PA X es (tIA g F W aa)) : PE X (.Tuple es k pos) (tI g F W (eTup aa)) := by
  refine pe_mono (pe_tup ha) fun σ H Q ⟨μ, δ, S, hm, hr, hd, h⟩ => ?_
  refine stepA hm hr hd h fun xs H1 l S1 s1 hm hr hd r1 h => ?_
  by_cases i : l.length ≤ 1000000
  · rw [if_pos i] at h
    refine ⟨sz_mil (by rw [r1.length]; exact i), fun p hp => ?_⟩
    have sm : Same H1 (upd H1 p (.tup xs)) := Same.new hp
    exact h _ (Sub.of sm) (hd.same sm) (.ref p) ⟨p, xs, rfl, .inl (.inl (hid_new (hm.new hp))), DtL.mono (Sub.of sm).hid _ _ r1⟩
  · rw [if_neg i] at h
    exact False.elim h
theorem se_lst (ha : PA X es (tIA g F W aa)) : PE X (.List es pos) (tI g F W (eLst aa)) := by
  refine pe_mono (pe_lst ha) fun σ H Q ⟨μ, δ, S, hm, hr, hd, h⟩ => ?_
  refine stepA hm hr hd h fun xs H1 l S1 s1 hm hr hd r1 h => ?_
  by_cases i : l.length ≤ 1000000
  · rw [if_pos i] at h
    refine ⟨sz_mil (by rw [r1.length]; exact i), fun p hp => ?_⟩
    have sm : Same H1 (upd H1 p (.lst xs)) := Same.new hp
    exact h _ (Sub.of sm) (hd.same sm) (.ref p) ⟨p, xs, rfl, hid_new (hm.new hp), DtL.mono (Sub.of sm).hid _ _ r1⟩
  · rw [if_neg i] at h
    exact False.elim h
/-- a built-in by its name -/
theorem se_b {x : Str} {p : Pos} {id : String} {f : List D → Option D} (hc : CallR X (.builtin id) (bD g f)) (hg : Gl X x) (hm : X.mg x = none) (hv : bootBuiltins x = some (.builtin id)) (ha : PA X (e :: es) (tIVA g F W aa)) (hn : x ≠ "__name__") (hdb : (x == ("__debug__" : Str)) = false)
    (he : starEach (e :: es) X.env = (false, eval e X.env) :: starEach es X.env) (hpl : (backTo pos (starEach es X.env)).any (·.1) = false) : PE X (.Call (.Name x p) (e :: es) [] pos) (tI g F W (eB f aa)) := by
  refine pe_mono (pe_callB hc hg hm hv ha hn hdb he hpl) fun σ H Q ⟨μ, δ, S, hm, hr, hd, h⟩ => ?_
  refine stepVA hm hr hd h fun xs H1 l S1 s1 hm hr hd r1 h => ?_
  obtain ⟨d, ef, h⟩ := fin_of h
  exact ⟨μ, l, d, hm, r1, ef, fun v H' sm r => h H' (Sub.of sm) (hd.same sm) v r⟩
theorem se_bty {x : Str} {p : Pos} {T : String} {f : List D → Option D} (hc : CallR X (.type T) (bD g f)) (hg : Gl X x) (hm : X.mg x = none) (hv : bootBuiltins x = some (.type T)) (ha : PA X (e :: es) (tIVA g F W aa)) (hn : x ≠ "__name__") (hdb : (x == ("__debug__" : Str)) = false)
    (he : starEach (e :: es) X.env = (false, eval e X.env) :: starEach es X.env) (hpl : (backTo pos (starEach es X.env)).any (·.1) = false) : PE X (.Call (.Name x p) (e :: es) [] pos) (tI g F W (eB f aa)) := by
  refine pe_mono (pe_callTy hc hg hm hv ha hn hdb he hpl) fun σ H Q ⟨μ, δ, S, hm, hr, hd, h⟩ => ?_
  refine stepVA hm hr hd h fun xs H1 l S1 s1 hm hr hd r1 h => ?_
  obtain ⟨d, ef, h⟩ := fin_of h
  exact ⟨μ, l, d, hm, r1, ef, fun v H' sm r => h H' (Sub.of sm) (hd.same sm) v r⟩

end
end Wm

namespace Wm
open PySem PySem.Spec PyProof.Rows L2

/-! ### calls of the text's own defs -/
/-- what a def promises: it runs as f says -/
def spI (g : G) (f : List D → M D) : Sp := fun vs H Q E => ∃ (m : Addr → Bool) (ds : List D) (S : DS), MOk m H ∧ DOk g H S ∧ DtL g (hid m H) ds vs ∧
  FinG g H (fun d _ H' => ∀ v, Dt g (hid m H') d v → Q v H') (fun x _ H' => ∀ c dd, XRel g m H' x c dd → E c dd H') (f ds S)
theorem DtL.any {g : G} {H : Hp} {l : List D} {vs : List V} (h : DtL g (fun _ => none) l vs) : DtL g H l vs := DtL.mono (fun _ _ e _ => by cases e) _ _ h
/-! ### promises where no container is being written out (repr) -/
/-- FnOk, claimed only where the stack holds no guard -/
structure FnG (P : Program) (w : World) (K : PySem.W.Frag) (mg : Str → Option Value) (base : Heap) (k : Nat) (f : Addr) (fd : FuncData) (ps : List Str) (sp : Sp) : Prop where
  len : ∀ vs H Q E, sp vs H Q E → vs.length = ps.length
  go : ∀ (A : Around) (out : List PySem.Env) (s : Shared) (H : Hp) (ar : Args) (us : List Value) (vs : List V) (Q : VK) (E : XK),
    Room k A → A.guards = some [] → Env0 P w K mg base A out s H → BindsTo s fd ar (ps.zip us) → Vals vs us → sp vs H Q E →
    codeAny (model P w) A (.call (.ref f) ar) (CR (L2.CX P w) out P w H s Q E) s
theorem FnG.of {P : Program} {w : World} {K : PySem.W.Frag} {mg : Str → Option Value} {base : Heap} {k : Nat} {f : Addr} {fd : FuncData} {ps : List Str} {sp : Sp}
    (F : FnOk P w K mg base (L2.CX P w) k f fd ps sp) : FnG P w K mg base k f fd ps sp :=
  ⟨F.len, fun A out s H ar us vs Q E hr _ => F.run A out s H ar us vs Q E hr⟩
theorem FnG.mono {P : Program} {w : World} {K : PySem.W.Frag} {mg : Str → Option Value} {base : Heap} {j k : Nat} {f : Addr} {fd : FuncData} {ps : List Str} {sp : Sp}
    (F : FnG P w K mg base j f fd ps sp) (h : j ≤ k) : FnG P w K mg base k f fd ps sp := ⟨F.len, fun A out s H ar us vs Q E hr => F.go A out s H ar us vs Q E (hr.mono h)⟩
/-- a call's result, seen by the caller -/
theorem cr_end {X : Cx} {pins : List (Addr × Obj)} {σ : L2.St} {H : Hp} {s s' : Shared} {Q : VK} {E : XK} {r : Result} (px : PassesAt (L2.CX X.prog X.w) X σ E) (I : Inv X pins σ H s)
    (h : CR (L2.CX X.prog X.w) X.stack X.prog X.w H s Q E r s') : (match r with | .ok (.ret u) => EP X pins σ Q u s' | .ok _ => False | .error e => X.xe e s') := by
  cases r with
  | error e => exact px pins H s e s' I h
  | ok fl =>
    cases fl with
    | ret u => exact I.after h
    | _ => exact h
theorem run_G {X : Cx} {k : Nat} {f : Addr} {fd : FuncData} {ps : List Str} {sp : Sp} {ds : List Value} {dvs : List V} {E : XK} {pins : List (Addr × Obj)} {σ : L2.St} {H : Hp} {s : Shared} {Q : VK} {us : List Value} {vs : List V}
    (G : FnG X.prog X.w X.K X.mg X.base k f fd ps sp) (hr : Room k X.A) (hg : X.A.guards = some []) (hb : Binds X.K fd ps ds) (hd : Vals dvs ds) (px : PassesAt (L2.CX X.prog X.w) X σ E) (I : Inv X pins σ H s) (r : Vals vs us) (h : sp (vs ++ dvs) H Q E) :
    wpAny (model X.prog X.w) X.A (call (.ref f) us) (EP X pins σ Q) X.xe s := by
  have rr := r.append hd
  have hl : (us ++ ds).length = ps.length := rr.length.symm.trans (G.len _ _ _ _ h)
  have q := G.go X.A X.stack s H ⟨us, []⟩ (us ++ ds) (vs ++ dvs) Q E hr hg I.env0 (hb s us I.kIn hl) rr h
  refine wpAny_call (codeAny_mono q fun r' s' hq => ?_)
  have z := cr_end px I hq
  revert z
  cases r' with
  | error e => exact fun z => z
  | ok fl => cases fl <;> exact fun z => z
section
variable {X : Cx} {g : G} {F : Fns} {W : WX} {e o a b c : Expr} {es : List Expr} {pos apos p : Pos} {ea eb ec : Ev} {aa : Av}
theorem fin_call {μ : Mk} {H : Hp} {σ : L2.St} {Q : VK} {f : List D → M D} {l : List D} {vs : List V} {S : DS} (hm : MOk μ.all H) (hd : DOk g H S) (r : DtL g (hidM μ H) l vs) (h : Fin g μ W σ H Q (f l S)) : spI g f vs H Q (WE W σ) :=
  ⟨μ.all, l, S, hm, hd, r, h.imp (fun d S' H' _ _ q v rv => q v rv) fun x S' H' _ _ q => q⟩
theorem se_call {k : Nat} {f : Addr} {fd : FuncData} {ps : List Str} {ds : List Value} {dvs : List V} {dd : List D} {x : Str} {n : Nat} (G : FnG X.prog X.w X.K X.mg X.base k f fd ps (spI g (F n))) (hr : Room k X.A) (hgu : X.A.guards = some []) (hg : Gl X x) (hm : X.mg x = some (.ref f)) (hk : PySem.W.keepIn X.K (.ref f) = true) (hb : Binds X.K fd ps ds) (hd : Vals dvs ds)
    (hdd : DtL g (fun _ => none) dd dvs) (tk : Takes X W) (ha : PA X (e :: es) (tIA g F W aa)) (hdb : (x == ("__debug__" : Str)) = false) (he : starEach (e :: es) X.env = (false, eval e X.env) :: starEach es X.env) (hpl : (backTo pos (starEach es X.env)).any (·.1) = false) :
    PE X (.Call (.Name x p) (e :: es) [] pos) (tI g F W (eCall n dd aa)) := by
  refine ⟨fun pins s σ H Q I ⟨μ, δ, S, hm', hr', hd', h⟩ => ?_⟩
  refine wpAny_Call_Name_kw (ld_glob I hg hm ?_ hdb)
  have st := stepA (T := fun vs H1 => spI g (F n) (vs ++ dvs) H1 Q (WE W σ)) hm' hr' hd' h fun xs H1 l S1 s1 hm hr hd r1 h => fin_call hm hd (r1.append hdd.any) h
  refine PySem.W.callWith_K (h₀ := X.base) I.ok.mod.kin hk (thn (ha.run pos pins s σ H _ I st) fun us s1 ⟨vs, H1, I1, rv, q⟩ => ⟨I1.kIn, ?_⟩) he hpl
  exact run_G G hr hgu hb hd (passAt tk σ) I1 rv q
theorem se_call0 {k : Nat} {f : Addr} {fd : FuncData} {ps : List Str} {ds : List Value} {dvs : List V} {dd : List D} {x : Str} {n : Nat} (G : FnG X.prog X.w X.K X.mg X.base k f fd ps (spI g (F n))) (hr : Room k X.A) (hgu : X.A.guards = some []) (hg : Gl X x) (hm : X.mg x = some (.ref f)) (hk : PySem.W.keepIn X.K (.ref f) = true) (hb : Binds X.K fd ps ds) (hd : Vals dvs ds)
    (hdd : DtL g (fun _ => none) dd dvs) (tk : Takes X W) (hdb : (x == ("__debug__" : Str)) = false) : PE X (.Call (.Name x p) [] [] pos) (tI g F W (eCall n dd aNil)) := by
  refine ⟨fun pins s σ H Q I ⟨μ, δ, S, hm', hr', hd', h⟩ => ?_⟩
  refine wpAny_Call_Name_kw (ld_glob I hg hm ?_ hdb)
  exact PySem.W.callWith_K0 I.kIn hk (run_G (us := []) (vs := []) G hr hgu hb hd (passAt tk σ) I .nil (fin_call hm' hd' hdd.any h))

/-! ### methods -/
def isSup : Expr → Bool
  | .Call (.Name id _) [] [] _ => id == ("super" : Str)
  | _ => false
theorem base_plain {o : Expr} {m : Str} {env : PySem.Env} {w : Sem Value} (h : isSup o = false) : attributeBase o m env w = w := by
  unfold attributeBase
  split
  · rename_i id _ pos
    have h : (id == ("super" : Str)) = false := h
    have h2 : (id != ("super" : Str)) = true := by unfold bne; rw [h]; rfl
    simp only [h2, Bool.true_or, if_true]
  · rfl
theorem eval_meth {o : Expr} {m : Str} {args : List Expr} {env : PySem.Env} (hs : (backTo pos (starEach args env)).all (!·.1) = true) (hl : args.length < 30) (hp : (apos.endLine == pos.line) = true) (hb : isSup o = false) :
    eval (.Call (.Attribute o m apos) args [] pos) env = (do
      let ov ← eval o env
      standAt apos.atName
      let (f, first) ← holding [ov] (getMethod ov m (do return (← importBound o env).getD true))
      callWith pos f first (backTo pos (starEach args env)) (backToKw pos (keywordEach [] env))) := by
  rw [eval]
  rw [base_plain hb]
  have hf : methodCallForm (args.length + ([] : List Keyword).length) (backTo pos (starEach args env)) (backToKw pos (keywordEach [] env)) = true := by
    unfold methodCallForm
    have e : keywordEach [] env = [] := by first | rfl | rw [keywordEach]
    rw [hs, e]
    simp [backToKw]
    exact hl
  unfold methodCall
  rw [hf]
  unfold calleeOf methodCallPos
  simp only [hp, Bool.not_true, Bool.false_or, if_true]
  rfl

/-- o.m(e, ..): the class of o is one of cs (its number, the method's number) -/
def eMeth (cs : List (Nat × Nat)) (ds : List D) (o : Ev) (a : Av) : Ev := fun F δ => M.bind (o F δ) fun x => match x with
  | .obj c l => M.bind (M.of (cs.lookup c)) fun n => M.bind (a F δ) fun xs => F n (.obj c l :: (xs ++ ds))
  | _ => M.no
/-- the facts of a method -/
structure MethD (X : Cx) (g : G) (F : Fns) (k : Nat) (c : Nat) (m : Str) (n : Nat) (dd : List D) : Prop where
  ok : ∃ (C f : Addr) (fd : FuncData) (ps : List Str) (ds : List Value) (dvs : List V), g.mg (clsN c) = some (.ref C) ∧ Cls X.K C ∧ Meth X.K C m f ∧ FnG X.prog X.w X.K X.mg X.base k f fd ps (spI g (F n)) ∧ Binds X.K fd ps ds ∧ Vals dvs ds ∧ DtL g (fun _ => none) dd dvs
theorem lookup_none_of {fs : List (Str × V)} {m : Str} (h : (fs.map (·.1)).contains m = false) : fs.lookup m = none := by
  induction fs with
  | nil => rfl
  | cons p r ih =>
    obtain ⟨n, v⟩ := p
    simp only [List.map_cons, List.contains_cons, Bool.or_eq_false_iff] at h
    rw [List.lookup_cons, h.1]
    exact ih h.2
theorem lookup_mem {cs : List (Nat × Nat)} {c n : Nat} (h : cs.lookup c = some n) : (c, n) ∈ cs := by
  induction cs with
  | nil => cases h
  | cons p r ih =>
    obtain ⟨a, b⟩ := p
    rw [List.lookup_cons] at h
    by_cases q : (c == a) = true
    · rw [q] at h
      rw [beq_iff_eq.mp q, ← Option.some.inj h]
      exact List.mem_cons_self
    · rw [Bool.not_eq_true] at q
      rw [q] at h
      exact List.mem_cons_of_mem _ (ih h)
theorem starEach_cons (h : (match e with | .Starred _ _ => true | _ => false) = false) (env : PySem.Env) : starEach (e :: es) env = (false, eval e env) :: starEach es env := by
  cases e <;> first | rfl | cases h
theorem starEach_none {env : PySem.Env} : ∀ {es : List Expr}, (es.all fun x => !(match x with | .Starred _ _ => true | _ => false)) = true → ∀ p ∈ starEach es env, p.1 = false
  | [], _, p, hp => by rw [starEach] at hp; cases hp
  | e :: es, h, p, hp => by
    rw [List.all_cons, Bool.and_eq_true] at h
    rw [starEach_cons (by simpa using h.1)] at hp
    rcases List.mem_cons.mp hp with rfl | hp
    · rfl
    · exact starEach_none h.2 p hp
theorem backTo_none {env : PySem.Env} {es : List Expr} (h : (es.all fun x => !(match x with | .Starred _ _ => true | _ => false)) = true) : (backTo pos (starEach es env)).any (·.1) = false := by
  rw [List.any_eq_false]
  intro q hq
  unfold backTo at hq
  obtain ⟨p, hp, rfl⟩ := List.mem_map.mp hq
  have := starEach_none h p hp
  obtain ⟨s, t⟩ := p
  simp only at this
  simp [this]

abbrev noStar (es : List Expr) : Bool := es.all fun x => !(match x with | .Starred _ _ => true | _ => false)
theorem noStar_cons (h : noStar (e :: es) = true) : (∀ env, starEach (e :: es) env = (false, eval e env) :: starEach es env) ∧ noStar es = true := by
  unfold noStar at h
  rw [List.all_cons, Bool.and_eq_true] at h
  exact ⟨fun env => starEach_cons (by simpa using h.1) env, h.2⟩
theorem backTo_all {env : PySem.Env} {es : List Expr} (h : noStar es = true) : (backTo pos (starEach es env)).all (!·.1) = true := by
  have q := backTo_none (pos := pos) (env := env) h
  rw [List.any_eq_false] at q
  rw [List.all_eq_true]
  intro x hx
  have := q x hx
  simpa using this
/-- what is known behind the receiver -/
def MethQ (X : Cx) (g : G) (F : Fns) (W : WX) (k : Nat) (m : Str) (σ : L2.St) (Q : VK) (ta : (List V → Hp → Prop) → Hp → Prop) (x : V) (H1 : Hp) : Prop :=
  ∃ a C dx fs f fd ps ds dvs n, x = .ref a ∧ H1 a = some (.ins C dx fs) ∧ Cls X.K C ∧ Meth X.K C m f ∧ fs.lookup m = none ∧ FnG X.prog X.w X.K X.mg X.base k f fd ps (spI g (F n)) ∧ Binds X.K fd ps ds ∧ Vals dvs ds ∧ ta (fun vs H2 => spI g (F n) (x :: (vs ++ dvs)) H2 Q (WE W σ)) H1
theorem meth_q {k : Nat} {m : Str} {cs : List (Nat × Nat)} {dd : List D} (T : ∀ p ∈ cs, MethD X g F k p.1 m p.2 dd) (hcf : ∀ p ∈ cs, (clsF p.1).contains m = false) {σ : L2.St} {H : Hp} {Q : VK} (h : tI g F W (eMeth cs dd ea aa) σ H Q) :
    tI g F W ea σ H (MethQ X g F W k m σ Q (fun T H1 => tIA g F W aa σ H1 T)) := by
  obtain ⟨μ, δ, S, hm', hr', hd', h⟩ := h
  refine stepE hm' hr' hd' h fun x H1 dx S1 s1 hm hr hd r1 h => ?_
  cases dx with
  | obj c l =>
    obtain ⟨n, en, h⟩ := fin_ofB h
    have r1 : Dt g (hidM μ H1) (.obj c l) x := r1
    obtain ⟨a, C, dx, fs, rfl, gC, ha', hfs, hl'⟩ := id r1
    obtain ⟨C', f, fd, ps, ds, dvs, gC', cl, mt, G, b, vd, dv⟩ := (T (c, n) (lookup_mem en)).ok
    rw [gC] at gC'
    cases gC'
    refine ⟨a, C, dx, fs, f, fd, ps, ds, dvs, n, rfl, (hid_some ha').1, cl, mt, lookup_none_of (by rw [hfs]; exact hcf (c, n) (lookup_mem en)), G, b, vd, ?_⟩
    refine stepA hm hr hd h fun xs H2 l2 S2 s2 hm hr hd r2 h => ?_
    exact fin_call (l := .obj c l :: (l2 ++ dd)) hm hd ⟨_, _, rfl, Dt.mono s2.hid _ _ r1, r2.append dv.any⟩ h
  | _ => exact False.elim h
theorem se_meth {k : Nat} {m : Str} {cs : List (Nat × Nat)} {dd : List D} (T : ∀ p ∈ cs, MethD X g F k p.1 m p.2 dd) (hcf : ∀ p ∈ cs, (clsF p.1).contains m = false) (hr : Room k X.A) (hgu : X.A.guards = some []) (tk : Takes X W) (ho : PE X o (tI g F W ea)) (ha : PA X (e :: es) (tIA g F W aa))
    (hs : noStar (e :: es) = true) (hl : (e :: es).length < 30) (hp : (apos.endLine == pos.line) = true) (hb : isSup o = false) :
    PE X (.Call (.Attribute o m apos) (e :: es) [] pos) (tI g F W (eMeth cs dd ea aa)) := by
  refine ⟨fun pins s σ H Q I h => ?_⟩
  refine PySem.W.methodCall_KW (pl := do return (← importBound o X.env).getD true) (thn (ho.run pins s σ H _ I (meth_q T hcf h)) fun u s1 ⟨x, H1, I1, rx, hq⟩ => ?_) (eval_meth (backTo_all hs) hl hp hb)
  obtain ⟨a, C, dx, fs, f, fd, ps, ds, dvs, n, ex, ea, cl, mt, l, G, b, vd, q⟩ := hq
  subst ex
  obtain rfl : u = Value.ref a := rx
  refine getmeth_ok I1 ea cl mt l ?_
  refine PySem.W.callWith_K (first := [.ref a]) (h₀ := X.base) I.ok.mod.kin mt.kp (thn (ha.run pos pins s1 σ H1 _ I1 q) fun us s2 ⟨vs, H2, I2, r, q2⟩ => ⟨I2.kIn, ?_⟩) ((noStar_cons hs).1 _) (backTo_none (noStar_cons hs).2)
  exact run_G (us := .ref a :: us) (vs := .ref a :: vs) G hr hgu b vd (passAt tk σ) I2 (.cons rfl r) q2
theorem se_meth0 {k : Nat} {m : Str} {cs : List (Nat × Nat)} {dd : List D} (T : ∀ p ∈ cs, MethD X g F k p.1 m p.2 dd) (hcf : ∀ p ∈ cs, (clsF p.1).contains m = false) (hr : Room k X.A) (hgu : X.A.guards = some []) (tk : Takes X W) (ho : PE X o (tI g F W ea))
    (hp : (apos.endLine == pos.line) = true) (hb : isSup o = false) : PE X (.Call (.Attribute o m apos) [] [] pos) (tI g F W (eMeth cs dd ea aNil)) := by
  refine ⟨fun pins s σ H Q I h => ?_⟩
  refine PySem.W.methodCall_KW (pl := do return (← importBound o X.env).getD true) (thn (ho.run pins s σ H _ I (meth_q T hcf h)) fun u s1 ⟨x, H1, I1, rx, hq⟩ => ?_) (eval_meth (backTo_all rfl) (by decide) hp hb)
  obtain ⟨a, C, dx, fs, f, fd, ps, ds, dvs, n, ex, ea, cl, mt, l, G, b, vd, q⟩ := hq
  subst ex
  obtain rfl : u = Value.ref a := rx
  refine getmeth_ok I1 ea cl mt l ?_
  obtain ⟨μ, δ, S, hm', hr', hd', q⟩ := q
  have q2 := q H1 (Sub.refl _) hd' [] rfl
  exact PySem.W.callWith_K0 (first := [.ref a]) I1.kIn mt.kp (run_G (us := [.ref a]) (vs := [.ref a]) G hr hgu b vd (passAt tk σ) I1 (.cons rfl .nil) q2)

/-! ### attributes -/
def eAttr (cs : List (Nat × Nat)) (o : Ev) : Ev := fun F δ => M.bind (o F δ) fun x => match x with
  | .obj c l => M.of ((cs.lookup c).bind fun i => l[i]?)
  | _ => M.no
structure AttD (X : Cx) (g : G) (c : Nat) (f : Str) (i : Nat) : Prop where
  ok : ∃ C : Addr, g.mg (clsN c) = some (.ref C) ∧ Cls X.K C ∧ NoAttr X.K C f
  at_ : (clsF c)[i]? = some f
  nd : (clsF c).Nodup
theorem lookup_ix {fs : List (Str × V)} {f : Str} {v : V} {i : Nat} (nd : (fs.map (·.1)).Nodup) (h1 : (fs.map (·.1))[i]? = some f) (h2 : (fs.map (·.2))[i]? = some v) : fs.lookup f = some v := by
  induction fs generalizing i with
  | nil => simp at h1
  | cons p r ih =>
    obtain ⟨a, b⟩ := p
    rw [List.map_cons, List.nodup_cons] at nd
    cases i with
    | zero =>
      simp at h1 h2
      subst h1; subst h2
      simp [List.lookup]
    | succ i =>
      simp only [List.map_cons, List.getElem?_cons_succ] at h1 h2
      have hne : (f == a) = false := by
        rw [beq_eq_false_iff_ne]
        rintro rfl
        exact nd.1 (List.mem_of_getElem? h1)
      rw [List.lookup_cons, hne]
      exact ih nd.2 h1 h2
theorem se_attr {f : Str} {cs : List (Nat × Nat)} (T : ∀ p ∈ cs, AttD X g p.1 f p.2) (ho : PE X o (tI g F W ea)) (hb : isSup o = false) : PE X (.Attribute o f pos) (tI g F W (eAttr cs ea)) := by
  refine pe_mono (pe_fld ho (base_plain hb)) fun σ H Q ⟨μ, δ, S, hm, hr, hd, h⟩ => ?_
  refine stepE hm hr hd h fun x H1 dx S1 s1 hm hr hd r1 h => ?_
  cases dx with
  | obj c l =>
    obtain ⟨d, ed, h⟩ := fin_of h
    have r1 : Dt g (hidM μ H1) (.obj c l) x := r1
    obtain ⟨a, C, dx, fs, rfl, gC, ha', hfs, hl'⟩ := r1
    cases en : cs.lookup c with
    | none => rw [en] at ed; cases ed
    | some i =>
      rw [en] at ed
      have ed : l[i]? = some d := ed
      have A := T (c, i) (lookup_mem en)
      obtain ⟨C', gC', cl, na⟩ := A.ok
      rw [gC] at gC'
      cases gC'
      obtain ⟨v, ev, rv⟩ := hl'.get ed
      refine ⟨a, C, dx, fs, v, rfl, (hid_some ha').1, cl, na, lookup_ix (by rw [hfs]; exact A.nd) (by rw [hfs]; exact A.at_) ev, h H1 (Sub.refl _) hd v rv⟩
  | _ => exact False.elim h
end
end Wm

namespace Wm
open PySem PySem.Spec PyProof.Rows L2

/-! ### operators on data -/
def addD : D → D → Option D
  | .int i, .int j => some (.int (i + j))
  | .str a, .str b => if a.length + b.length ≤ 1000000 then some (.str (a ++ b)) else none
  | .lst a, .lst b => if a.length + b.length ≤ 1000000 then some (.lst (a ++ b)) else none
  | .tup a, .tup b => if a.length + b.length ≤ 1000000 then some (.tup (a ++ b)) else none
  | _, _ => none
def subD : D → D → Option D
  | .int i, .int j => some (.int (i - j))
  | _, _ => none
def mulD : D → D → Option D
  | .int i, .int j => if (i.natAbs < 2 ^ 63 ∨ j.natAbs < 2 ^ 63) ∨ i.natAbs.log2 + j.natAbs.log2 < 900000 then some (.int (i * j)) else none
  | .lst a, .int k => if -1000 ≤ k ∧ k ≤ 100000 ∧ a.length * k.toNat ≤ 1000000 then some (.lst (List.replicate k.toNat a).flatten) else none
  | .tup a, .int k => if 2 ≤ k ∧ k ≤ 1000 ∧ a.length ≤ 1000 ∧ a ≠ [] then some (.tup (List.replicate k.toNat a).flatten) else none
  | _, _ => none
def fdivD : D → D → Option D
  | .int i, .int j => if 0 < j ∧ j.natAbs.log2 < 9000 then some (.int (i / j)) else none
  | _, _ => none
def modD : D → D → Option D
  | .int i, .int j => if 0 < j then some (.int (i % j)) else none
  | _, _ => none
def powD : D → D → Option D
  | .int i, .int j => if 0 ≤ j ∧ j ≤ 1000 ∧ i.natAbs < 1000 then some (.int (i ^ j.toNat)) else none
  | _, _ => none
def negD : D → Option D
  | .int i => some (.int (-i))
  | _ => none
def cmpD (p : Int → Int → Bool) (q : List Nat → List Nat → Bool) : D → D → Option D
  | .int i, .int j => some (.bl (p i j))
  | .str a, .str b => some (.bl (q a.cps.toList b.cps.toList))
  | _, _ => none

section
variable {g : G} {μ : Mk} {H : Hp} {d : D} {v : V}
theorem DtV.int {i : Int} (h : DtV g μ H (.int i) v) : v = .int i := by
  rcases h with h | ⟨l, e, _⟩
  · exact h
  · cases e
theorem DtV.str {i : Str} (h : DtV g μ H (.str i) v) : v = .str i := by
  rcases h with h | ⟨l, e, _⟩
  · exact h
  · cases e
theorem DtV.bl {i : Bool} (h : DtV g μ H (.bl i) v) : v = .bl i := by
  rcases h with h | ⟨l, e, _⟩
  · exact h
  · cases e
theorem DtV.non (h : DtV g μ H .non v) : v = .non := by
  rcases h with h | ⟨l, e, _⟩
  · exact h
  · cases e
theorem DtV.tup {l : List D} (h : DtV g μ H (.tup l) v) : ∃ a xs, v = .ref a ∧ SqT g.K H a xs ∧ DtL g (hidM μ H) l xs := by
  rcases h with ⟨a, xs, h1, h2, h3⟩ | ⟨l, e, _⟩
  · exact ⟨a, xs, h1, sq_monoT (Sub.of hid_sub) h2, h3⟩
  · cases e
theorem DtV.lst {l : List D} (h : DtV g μ H (.lst l) v) : ∃ a xs, v = .ref a ∧ H a = some (.lst xs) ∧ DtL g (hidM μ H) l xs := by
  rcases h with ⟨a, xs, h1, h2, h3⟩ | ⟨l', e, p, xs, h1, h2, h2', h3, h4⟩
  · exact ⟨a, xs, h1, (hid_some h2).1, h3⟩
  · cases e
    exact ⟨p, xs, h1, h3, h4⟩
theorem DtV.obj {c : Nat} {l : List D} (h : DtV g μ H (.obj c l) v) : Dt g (hidM μ H) (.obj c l) v := by
  rcases h with h | ⟨l, e, _⟩
  · exact h
  · cases e
theorem dt_new_tup {p : Addr} {xs : List V} {l : List D} (hm : MOk μ.all H) (hp : H p = none) (h : DtL g (hidM μ H) l xs) : Dt g (hidM μ (upd H p (.tup xs))) (.tup l) (.ref p) :=
  ⟨p, xs, rfl, .inl (.inl (hid_of upd_same (hm.new hp))), DtL.mono (Sub.of (Same.new hp)).hid _ _ h⟩
theorem dt_new_lst {p : Addr} {xs : List V} {l : List D} (hm : MOk μ.all H) (hp : H p = none) (h : DtL g (hidM μ H) l xs) : Dt g (hidM μ (upd H p (.lst xs))) (.lst l) (.ref p) :=
  ⟨p, xs, rfl, hid_of upd_same (hm.new hp), DtL.mono (Sub.of (Same.new hp)).hid _ _ h⟩
theorem DtL.repl {H : Hp} {l : List D} {xs : List V} (h : DtL g H l xs) : ∀ n : Nat, DtL g H (List.replicate n l).flatten (List.replicate n xs).flatten
  | 0 => rfl
  | n + 1 => by
    rw [List.replicate_succ, List.replicate_succ, List.flatten_cons, List.flatten_cons]
    exact h.append (h.repl n)
theorem DtL.nil_iff {H : Hp} {l : List D} {xs : List V} (h : DtL g H l xs) : xs = [] ↔ l = [] := by
  rw [← List.length_eq_zero_iff, ← List.length_eq_zero_iff, h.length]
end
section
variable {X : Cx} {g : G}
theorem op_addD (hK : X.K = g.K) : OpR X (binaryOp .Add) (rD g addD) := by
  intro pins s σ H x y v u Q I rx ry ⟨μ, dx, dy, d, hm, hx, hy, hf, q⟩
  cases dx with
  | int i =>
    cases dy with
    | int j =>
      cases hf
      exact op_add pins s σ H x y v u Q I rx ry ⟨i, j, hx.int, hy.int, q _ H (Same.refl H) rfl⟩
    | _ => cases hf
  | str a =>
    cases dy with
    | str b =>
      simp only [addD] at hf
      split at hf
      · rename_i hl
        cases hf
        exact op_add_str pins s σ H x y v u Q I rx ry ⟨a, b, hx.str, hy.str, sz_mil hl, q _ H (Same.refl H) rfl⟩
      · cases hf
    | _ => cases hf
  | lst a =>
    cases dy with
    | lst b =>
      simp only [addD] at hf
      split at hf
      · rename_i hl
        cases hf
        obtain ⟨p, xs, e1, h1, r1⟩ := hx.lst
        obtain ⟨p', ys, e2, h2, r2⟩ := hy.lst
        refine op_cat pins s σ H x y v u Q I rx ry ⟨p, p', xs, ys, e1, e2, h1, h2, sz_mil (by rw [r1.length, r2.length]; exact hl), fun n hn => q _ _ (Same.new hn) (dt_new_lst hm hn (r1.append r2))⟩
      · cases hf
    | _ => cases hf
  | tup a =>
    cases dy with
    | tup b =>
      simp only [addD] at hf
      split at hf
      · rename_i hl
        cases hf
        obtain ⟨p, xs, e1, h1, r1⟩ := hx.tup
        obtain ⟨p', ys, e2, h2, r2⟩ := hy.tup
        rw [← hK] at h1 h2
        refine op_catA pins s σ H x y v u Q I rx ry ⟨p, p', xs, ys, e1, e2, h1, h2, sz_mil (by rw [r1.length, r2.length]; exact hl), fun e => ?_, fun e e' => ?_, fun _ _ n hn => q _ _ (Same.new hn) (dt_new_tup hm hn (r1.append r2))⟩
        · rw [r1.nil_iff] at e
          subst e
          rw [List.nil_append] at q
          rw [← e2]
          rcases hy with hy | ⟨_, z, _⟩
          · exact q _ H (Same.refl H) hy
          · cases z
        · rw [r2.nil_iff] at e'
          subst e'
          rw [List.append_nil] at q
          rw [← e1]
          rcases hx with hx | ⟨_, z, _⟩
          · exact q _ H (Same.refl H) hx
          · cases z
      · cases hf
    | _ => cases hf
  | _ => cases dy <;> cases hf
theorem op_subD : OpR X (binaryOp .Sub) (rD g subD) := by
  intro pins s σ H x y v u Q I rx ry ⟨μ, dx, dy, d, hm, hx, hy, hf, q⟩
  cases dx with
  | int i =>
    cases dy with
    | int j =>
      cases hf
      exact op_sub pins s σ H x y v u Q I rx ry ⟨i, j, hx.int, hy.int, q _ H (Same.refl H) rfl⟩
    | _ => cases hf
  | _ => cases dy <;> cases hf
theorem op_mulD (hK : X.K = g.K) : OpR X (binaryOp .Mult) (rD g mulD) := by
  intro pins s σ H x y v u Q I rx ry ⟨μ, dx, dy, d, hm, hx, hy, hf, q⟩
  cases dx with
  | int i =>
    cases dy with
    | int j =>
      simp only [mulD] at hf
      split at hf
      · rename_i hl
        cases hf
        rcases hl with hl | hl
        · exact op_mul pins s σ H x y v u Q I rx ry ⟨i, j, hx.int, hy.int, (by unfold CMul; omega), q _ H (Same.refl H) rfl⟩
        · exact op_mulW pins s σ H x y v u Q I rx ry ⟨i, j, hx.int, hy.int, Nat.lt_trans hl (by decide), q _ H (Same.refl H) rfl⟩
      · cases hf
    | _ => cases hf
  | lst a =>
    cases dy with
    | int k =>
      simp only [mulD] at hf
      split at hf
      · rename_i hl
        cases hf
        obtain ⟨p, xs, e1, h1, r1⟩ := hx.lst
        exact op_rep pins s σ H x y v u Q I rx ry ⟨p, k, xs, e1, hy.int, h1, by omega, by omega, sz_mil (by rw [r1.length]; exact hl.2.2), fun n hn => q _ _ (Same.new hn) (dt_new_lst hm hn (r1.repl _))⟩
      · cases hf
    | _ => cases hf
  | tup a =>
    cases dy with
    | int k =>
      simp only [mulD] at hf
      split at hf
      · rename_i hl
        cases hf
        obtain ⟨p, xs, e1, h1, r1⟩ := hx.tup
        rw [← hK] at h1
        exact op_repT pins s σ H x y v u Q I rx ry ⟨p, k, xs, e1, hy.int, h1, fun z => hl.2.2.2 (r1.nil_iff.mp z), hl.1, hl.2.1, by rw [r1.length]; exact hl.2.2.1, fun n hn => q _ _ (Same.new hn) (dt_new_tup hm hn (r1.repl _))⟩
      · cases hf
    | _ => cases hf
  | _ => cases dy <;> cases hf
theorem op_fdivD : OpR X (binaryOp .FloorDiv) (rD g fdivD) := by
  intro pins s σ H x y v u Q I rx ry ⟨μ, dx, dy, d, hm, hx, hy, hf, q⟩
  cases dx with
  | int i =>
    cases dy with
    | int j =>
      simp only [fdivD] at hf
      split at hf
      · rename_i hl
        cases hf
        exact op_fdivW pins s σ H x y v u Q I rx ry ⟨i, j, hx.int, hy.int, hl, q _ H (Same.refl H) rfl⟩
      · cases hf
    | _ => cases hf
  | _ => cases dy <;> cases hf
theorem op_modD : OpR X (binaryOp .Mod) (rD g modD) := by
  intro pins s σ H x y v u Q I rx ry ⟨μ, dx, dy, d, hm, hx, hy, hf, q⟩
  cases dx with
  | int i =>
    cases dy with
    | int j =>
      simp only [modD] at hf
      split at hf
      · rename_i hl
        cases hf
        exact op_mod pins s σ H x y v u Q I rx ry ⟨i, j, hx.int, hy.int, hl, q _ H (Same.refl H) rfl⟩
      · cases hf
    | _ => cases hf
  | _ => cases dy <;> cases hf
theorem op_powD : OpR X (binaryOp .Pow) (rD g powD) := by
  intro pins s σ H x y v u Q I rx ry ⟨μ, dx, dy, d, hm, hx, hy, hf, q⟩
  cases dx with
  | int i =>
    cases dy with
    | int j =>
      simp only [powD] at hf
      split at hf
      · rename_i hl
        cases hf
        exact op_pow pins s σ H x y v u Q I rx ry ⟨i, j, hx.int, hy.int, ⟨hl.1, by omega, Nat.lt_trans hl.2.2 (by decide)⟩, q _ H (Same.refl H) rfl⟩
      · cases hf
    | _ => cases hf
  | _ => cases dy <;> cases hf
theorem un_negD : UnR X (unaryOp .USub) (uD g negD) := by
  intro pins s σ H x v Q I rx ⟨μ, dx, d, hm, hx, hf, q⟩
  cases dx with
  | int i =>
    cases hf
    exact un_neg pins s σ H x v Q I rx ⟨i, hx.int, q _ H (Same.refl H) rfl⟩
  | _ => cases hf
theorem op_cmpD {op : CmpOp} {p : Int → Int → Bool} {r : List Nat → List Nat → Bool} (h1 : OpR X (compareOp op) (rI0 fun i j => .bl (p i j))) (h2 : OpR X (compareOp op) (fun x y H Q => ∃ i j, x = .str i ∧ y = .str j ∧ Q (.bl (r i.cps.toList j.cps.toList)) H)) : OpR X (compareOp op) (rD g (cmpD p r)) := by
  intro pins s σ H x y v u Q I rx ry ⟨μ, dx, dy, d, hm, hx, hy, hf, q⟩
  cases dx with
  | int i =>
    cases dy with
    | int j =>
      cases hf
      exact h1 pins s σ H x y v u Q I rx ry ⟨i, j, hx.int, hy.int, q _ H (Same.refl H) rfl⟩
    | _ => cases hf
  | str i =>
    cases dy with
    | str j =>
      cases hf
      exact h2 pins s σ H x y v u Q I rx ry ⟨i, j, hx.str, hy.str, q _ H (Same.refl H) rfl⟩
    | _ => cases hf
  | _ => cases dy <;> cases hf
abbrev ltD := cmpD (fun i j => decide (i < j)) (fun a b => decide (a < b))
abbrev leD := cmpD (fun i j => decide (i ≤ j)) (fun a b => !decide (b < a))
abbrev gtD := cmpD (fun i j => decide (j < i)) (fun a b => decide (b < a))
abbrev geD := cmpD (fun i j => decide (j ≤ i)) (fun a b => !decide (a < b))
theorem op_ltD : OpR X (compareOp .Lt) (rD g ltD) := op_cmpD op_lt op_lt_str
theorem op_leD : OpR X (compareOp .LtE) (rD g leD) := op_cmpD op_le op_le_str
theorem op_gtD : OpR X (compareOp .Gt) (rD g gtD) := op_cmpD op_gt op_gt_str
theorem op_geD : OpR X (compareOp .GtE) (rD g geD) := op_cmpD op_ge op_ge_str
/-! ### == of data -/
mutual
def pyD : D → Option PyData
  | .non => some .none
  | .bl b => some (.bool b)
  | .int i => some (.int i)
  | .str s => some (.str s)
  | .tup l => (pyL l).map .tuple
  | .lst l => (pyL l).map .list
  | .fro l => (pyL l).map .list
  | .dic _ _ => none
  | .obj _ _ => none
  | .drw _ => none
  | .exc _ _ => none
  | .clo _ _ => none
def pyL : List D → Option (List PyData)
  | [] => some []
  | d :: ds => (pyD d).bind fun x => (pyL ds).map (x :: ·)
end
mutual
theorem Dt.dp {H : Hp} : ∀ (d : D) (v : V) (p : PyData), Dt g H d v → pyD d = some p → Dp g.K H v p
  | .non, v, p, h, e => by cases e; rw [show v = .non from h]; exact .non
  | .bl b, v, p, h, e => by cases e; rw [show v = .bl b from h]; exact .bl b
  | .int b, v, p, h, e => by cases e; rw [show v = .int b from h]; exact .int b
  | .str b, v, p, h, e => by cases e; rw [show v = .str b from h]; exact .str b
  | .tup l, v, p, ⟨a, xs, h1, h2, h3⟩, e => by
    simp only [pyD, Option.map_eq_some_iff] at e
    obtain ⟨ps, e1, rfl⟩ := e
    rw [h1]
    exact .tup h2 (DtL.dp l xs ps h3 e1)
  | .lst l, v, p, ⟨a, xs, h1, h2, h3⟩, e => by
    simp only [pyD, Option.map_eq_some_iff] at e
    obtain ⟨ps, e1, rfl⟩ := e
    rw [h1]
    exact .lst (.inl (.inl h2)) (DtL.dp l xs ps h3 e1)
  | .fro l, v, p, ⟨a, xs, h1, h2, h3⟩, e => by
    simp only [pyD, Option.map_eq_some_iff] at e
    obtain ⟨ps, e1, rfl⟩ := e
    rw [h1]
    exact .lst h2 (DtL.dp l xs ps h3 e1)
  | .dic _ _, _, _, _, e => by simp [pyD] at e
  | .obj _ _, _, _, _, e => by simp [pyD] at e
  | .drw _, _, _, _, e => by simp [pyD] at e
  | .exc _ _, _, _, _, e => by simp [pyD] at e
  | .clo _ _, _, _, _, e => by simp [pyD] at e
theorem DtL.dp {H : Hp} : ∀ (l : List D) (xs : List V) (ps : List PyData), DtL g H l xs → pyL l = some ps → DpAll g.K H xs ps
  | [], xs, ps, h, e => by cases e; rw [show xs = [] from h]; exact .nil
  | d :: ds, xs, ps, ⟨v, vs, h1, h2, h3⟩, e => by
    simp only [pyL, Option.bind_eq_some_iff, Option.map_eq_some_iff] at e
    obtain ⟨p, e1, qs, e2, rfl⟩ := e
    rw [h1]
    exact .cons (Dt.dp d v p h2 e1) (DtL.dp ds vs qs h3 e2)
end
mutual
theorem Dp.mono {K : PySem.W.Frag} {H H' : Hp} (e : Sub H H') : ∀ (p : PyData) (v : V), Dp K H v p → Dp K H' v p
  | .none, v, h => by cases h; exact .non
  | .bool _, v, h => by cases h; exact .bl _
  | .int _, v, h => by cases h; exact .int _
  | .str _, v, h => by cases h; exact .str _
  | .list ps, v, h => by
    cases h with
    | lst h1 h2 => exact .lst (sq_monoL e h1) (DpAll.mono e ps _ h2)
  | .tuple ps, v, h => by
    cases h with
    | tup h1 h2 => exact .tup (sq_monoT e h1) (DpAll.mono e ps _ h2)
  | .dict _, v, h => by cases h
theorem DpAll.mono {K : PySem.W.Frag} {H H' : Hp} (e : Sub H H') : ∀ (ps : List PyData) (xs : List V), DpAll K H xs ps → DpAll K H' xs ps
  | [], xs, h => by cases h; exact .nil
  | p :: ps, xs, h => by
    cases h with
    | cons h1 h2 => exact .cons (Dp.mono e p _ h1) (DpAll.mono e ps _ h2)
end
theorem DtV.dp {μ : Mk} {H : Hp} {d : D} {v : V} {p : PyData} (h : DtV g μ H d v) (e : pyD d = some p) : Dp g.K H v p := by
  rcases h with h | ⟨l, rfl, q, xs, h1, h2, h2', h3, h4⟩
  · exact Dp.mono (Sub.of hid_sub) _ _ (Dt.dp d v p h e)
  · simp only [pyD, Option.map_eq_some_iff] at e
    obtain ⟨ps, e1, rfl⟩ := e
    rw [h1]
    exact .lst (.inl (.inl h3)) (DpAll.mono (Sub.of hid_sub) _ _ (DtL.dp l xs ps h4 e1))
def eqB (d e : D) : Option Bool := (pyD d).bind fun a => (pyD e).bind fun b => if SeqAt.shaped a = true ∧ SeqAt.shaped b = true then some (PyData.eqv a b) else none
def eqD (d e : D) : Option D := (eqB d e).map .bl
def neD (d e : D) : Option D := (eqB d e).map fun b => .bl (!b)
theorem eqB_some {d e : D} {b : Bool} (h : eqB d e = some b) : ∃ p q, pyD d = some p ∧ pyD e = some q ∧ SeqAt.shaped p = true ∧ SeqAt.shaped q = true ∧ b = PyData.eqv p q := by
  unfold eqB at h
  simp only [Option.bind_eq_some_iff] at h
  obtain ⟨p, e1, q, e2, h⟩ := h
  split at h
  · rename_i c
    exact ⟨p, q, e1, e2, c.1, c.2, (Option.some.inj h).symm⟩
  · cases h
theorem op_eqDD (hK : X.K = g.K) (hu : X.A.units + 64 < cLine) : OpR X (compareOp .Eq) (rD g eqD) := by
  intro pins s σ H x y v u Q I rx ry ⟨μ, dx, dy, d, hm, hx, hy, hf, q⟩
  simp only [eqD, Option.map_eq_some_iff] at hf
  obtain ⟨b, hb, rfl⟩ := hf
  obtain ⟨p, p', e1, e2, s1, s2, rfl⟩ := eqB_some hb
  exact op_eqD hu pins s σ H x y v u Q I rx ry ⟨p, p', by rw [hK]; exact hx.dp e1, by rw [hK]; exact hy.dp e2, s1, s2, q _ H (Same.refl H) rfl⟩
theorem op_neDD (hK : X.K = g.K) (hu : X.A.units + 64 < cLine) : OpR X (compareOp .NotEq) (rD g neD) := by
  intro pins s σ H x y v u Q I rx ry ⟨μ, dx, dy, d, hm, hx, hy, hf, q⟩
  simp only [neD, Option.map_eq_some_iff] at hf
  obtain ⟨b, hb, rfl⟩ := hf
  obtain ⟨p, p', e1, e2, s1, s2, rfl⟩ := eqB_some hb
  exact op_neD hu pins s σ H x y v u Q I rx ry ⟨p, p', by rw [hK]; exact hx.dp e1, by rw [hK]; exact hy.dp e2, s1, s2, q _ H (Same.refl H) rfl⟩
/-! ### is -/
def isNon : D → Bool
  | .non => true
  | _ => false
def isD : D → D → Option D
  | .bl a, .bl b => some (.bl (decide (a = b)))
  | d, .non => some (.bl (isNon d))
  | _, _ => none
def notD : D → D → Option D
  | .bl a, .bl b => some (.bl (!decide (a = b)))
  | d, .non => some (.bl (!isNon d))
  | _, _ => none
theorem Dt.isNon {H : Hp} {d : D} {v : V} (h : Dt g H d v) : decide (v = .non) = Wm.isNon d := by
  cases d with
  | non => rw [show v = .non from h]; rfl
  | bl b => rw [show v = .bl b from h]; rfl
  | int b => rw [show v = .int b from h]; rfl
  | str b => rw [show v = .str b from h]; rfl
  | tup l => obtain ⟨a, xs, rfl, _⟩ := h; rfl
  | lst l => obtain ⟨a, xs, rfl, _⟩ := h; rfl
  | fro l => obtain ⟨a, xs, rfl, _⟩ := h; rfl
  | dic l m => obtain ⟨a, xs, ys, rfl, _⟩ := h; rfl
  | obj c l => obtain ⟨a, C, dx, fs, rfl, _⟩ := h; rfl
  | drw a => rw [show v = .ref a from h]; rfl
  | exc c x => obtain ⟨a, oe, dx, vs, C, u, rfl, _⟩ := h; rfl
  | clo n l => exact h.elim
theorem DtV.isNon {μ : Mk} {H : Hp} {d : D} {v : V} (h : DtV g μ H d v) : decide (v = .non) = Wm.isNon d := by
  rcases h with h | ⟨l, rfl, p, xs, rfl, _⟩
  · exact Dt.isNon h
  · rfl
theorem op_isDD : OpR X (compareOp .Is) (rD g isD) := by
  intro pins s σ H x y v u Q I rx ry ⟨μ, dx, dy, d, hm, hx, hy, hf, q⟩
  unfold isD at hf
  split at hf
  · cases hf
    exact L2.op_is_bl pins s σ H x y v u Q I rx ry ⟨_, _, hx.bl, hy.bl, q _ H (Same.refl H) rfl⟩
  · cases hf
    exact op_isN pins s σ H x y v u Q I rx ry ⟨hy.non, by rw [hx.isNon]; exact q _ H (Same.refl H) rfl⟩
  · cases hf
theorem op_notDD : OpR X (compareOp .IsNot) (rD g notD) := by
  intro pins s σ H x y v u Q I rx ry ⟨μ, dx, dy, d, hm, hx, hy, hf, q⟩
  unfold notD at hf
  split at hf
  · cases hf
    exact L2.op_isnot_bl pins s σ H x y v u Q I rx ry ⟨_, _, hx.bl, hy.bl, q _ H (Same.refl H) rfl⟩
  · cases hf
    exact op_notN pins s σ H x y v u Q I rx ry ⟨hy.non, by rw [hx.isNon]; exact q _ H (Same.refl H) rfl⟩
  · cases hf
/-! ### in -/
def inB (x : D) : D → Option Bool
  | .lst l => (pyD x).bind fun p => (pyL l).bind fun ps => if SeqAt.shaped p = true ∧ SeqAt.shaped (.list ps) = true then some (ps.any fun z => PyData.eqv z p) else none
  | .tup l => (pyD x).bind fun p => (pyL l).bind fun ps => if SeqAt.shaped p = true ∧ SeqAt.shaped (.tuple ps) = true then some (ps.any fun z => PyData.eqv z p) else none
  | .str z => match x with
    | .str c => if c.cps.size = 1 then some (z.cps.toList.contains (c.cps.getD 0 0)) else none
    | _ => none
  | _ => none
def inD (x y : D) : Option D := (inB x y).map .bl
def ninD (x y : D) : Option D := (inB x y).map fun b => .bl (!b)
theorem one_sign {c : Str} (h : c.cps.size = 1) : c = ⟨#[c.cps.getD 0 0]⟩ := by
  obtain ⟨⟨l⟩⟩ := c
  match l, h with
  | [a], _ => rfl
inductive InCase (g : G) (K : PySem.W.Frag) (H : Hp) (x y : V) (b : Bool) : Prop where
  | lst (p : PyData) (ps : List PyData) (h1 : Dp K H x p) (h2 : Dp K H y (.list ps)) (s1 : SeqAt.shaped p = true) (s2 : SeqAt.shaped (.list ps) = true) (e : b = ps.any fun z => PyData.eqv z p)
  | tup (p : PyData) (ps : List PyData) (h1 : Dp K H x p) (h2 : Dp K H y (.tuple ps)) (s1 : SeqAt.shaped p = true) (s2 : SeqAt.shaped (.tuple ps) = true) (e : b = ps.any fun z => PyData.eqv z p)
  | str (c : Nat) (z : Str) (h1 : x = .str ⟨#[c]⟩) (h2 : y = .str z) (e : b = decide (c ∈ z.cps.toList))
theorem in_case {μ : Mk} {H : Hp} {dx dy : D} {x y : V} {b : Bool} (hx : DtV g μ H dx x) (hy : DtV g μ H dy y) (h : inB dx dy = some b) : InCase g g.K H x y b := by
  unfold inB at h
  split at h
  · rename_i l
    simp only [Option.bind_eq_some_iff] at h
    obtain ⟨p, e1, ps, e2, h⟩ := h
    split at h
    · rename_i c
      exact .lst p ps (hx.dp e1) (hy.dp (by simp [pyD, e2])) c.1 c.2 (Option.some.inj h).symm
    · cases h
  · rename_i l
    simp only [Option.bind_eq_some_iff] at h
    obtain ⟨p, e1, ps, e2, h⟩ := h
    split at h
    · rename_i c
      exact .tup p ps (hx.dp e1) (hy.dp (by simp [pyD, e2])) c.1 c.2 (Option.some.inj h).symm
    · cases h
  · split at h
    · rename_i c
      split at h
      · rename_i hc
        refine .str _ _ (by rw [← one_sign hc]; exact hx.str) hy.str ?_
        rw [← Option.some.inj h]
        rw [Bool.eq_iff_iff]
        simp
      · cases h
    · cases h
  · cases h
theorem op_inDD (hK : X.K = g.K) (hu : X.A.units + 65 < cLine) : OpR X (compareOp .In) (rD g inD) := by
  intro pins s σ H x y v u Q I rx ry ⟨μ, dx, dy, d, hm, hx, hy, hf, q⟩
  simp only [inD, Option.map_eq_some_iff] at hf
  obtain ⟨b, hb, rfl⟩ := hf
  have q := q (.bl b) H (Same.refl H) rfl
  cases in_case hx hy hb with
  | lst p ps h1 h2 s1 s2 e =>
    subst e
    exact op_inD hu pins s σ H x y v u Q I rx ry ⟨p, ps, by rw [hK]; exact h1, by rw [hK]; exact h2, s1, s2, q⟩
  | tup p ps h1 h2 s1 s2 e =>
    subst e
    obtain ⟨as, r1⟩ := Dp.reads I p x v (by rw [hK]; exact h1) rx
    obtain ⟨bs, r2⟩ := Dp.reads I (.tuple ps) y u (by rw [hK]; exact h2) ry
    exact SeqAt.in_tuple_reads r2 r1 (SeqAt.canLay_of_shaped s2) (SeqAt.canLay_of_shaped s1) (room_in_shaped s1 hu) ⟨.bl _, H, I, rfl, q⟩
  | str c z h1 h2 e =>
    subst e
    exact op_in_sign pins s σ H x y v u Q I rx ry ⟨c, z, h1, h2, q⟩
theorem op_ninDD (hK : X.K = g.K) (hu : X.A.units + 65 < cLine) : OpR X (compareOp .NotIn) (rD g ninD) := by
  intro pins s σ H x y v u Q I rx ry ⟨μ, dx, dy, d, hm, hx, hy, hf, q⟩
  simp only [ninD, Option.map_eq_some_iff] at hf
  obtain ⟨b, hb, rfl⟩ := hf
  have q := q (.bl (!b)) H (Same.refl H) rfl
  cases in_case hx hy hb with
  | lst p ps h1 h2 s1 s2 e =>
    subst e
    exact op_notInD hu pins s σ H x y v u Q I rx ry ⟨p, ps, by rw [hK]; exact h1, by rw [hK]; exact h2, s1, s2, q⟩
  | tup p ps h1 h2 s1 s2 e =>
    subst e
    obtain ⟨as, r1⟩ := Dp.reads I p x v (by rw [hK]; exact h1) rx
    obtain ⟨bs, r2⟩ := Dp.reads I (.tuple ps) y u (by rw [hK]; exact h2) ry
    exact SeqAt.notIn_tuple_reads r2 r1 (SeqAt.canLay_of_shaped s2) (SeqAt.canLay_of_shaped s1) (room_in_shaped s1 hu) ⟨.bl _, H, I, rfl, q⟩
  | str c z h1 h2 e =>
    subst e
    exact op_notIn_sign pins s σ H x y v u Q I rx ry ⟨c, z, h1, h2, q⟩
end
end Wm

namespace Wm
open PySem PySem.Spec PyProof.Rows L2

/-! ### what is walked -/
/-- what stands unmasked stays -/
def SubM (μ : Mk) (H H' : Hp) : Prop := Sub (hidM μ H) (hidM μ H')
theorem SubM.of {μ : Mk} {H H' : Hp} (e : Sub H H') : SubM μ H H' := e.hid
theorem SubM.refl (μ : Mk) (H : Hp) : SubM μ H H := Sub.refl _
theorem SubM.trans {μ : Mk} {H H1 H2 : Hp} (a : SubM μ H H1) (b : SubM μ H1 H2) : SubM μ H H2 := Sub.trans a b
/-- the iterator J yields the items l, one after another, while what is seen in B stands -/
def Yld (g : G) (B : Hp) (J : It) (l : List D) : Prop := ∀ (i : Nat) (H : Hp) (μ : Mk), Sub B (hidM μ H) → MOk μ.all H →
  (∀ d, l[i]? = some d → J.go i H ∧ ∀ x H', J.yld i H x H' → Same H H' ∧ Dt g (hidM μ H') d x) ∧ (l.length ≤ i → J.stop i H)
/-- a walked thing by a run: its items -/
def tII (g : G) (F : Fns) (W : WX) (ι : Av) : TI := fun σ H R => ∃ μ δ S, MOk μ.all H ∧ Rel g μ H σ δ ∧ DOk g H S ∧
  FinG g H (fun l _ H' => ∀ J, Yld g (hidM μ H') J l → R J H') (exW g μ W σ) (ι F δ S)
theorem pi_mono {X : Cx} {tg e : Expr} {t t' : TI} (h : PI X tg e t) (i : ∀ σ H R, t' σ H R → t σ H R) : PI X tg e t' := ⟨fun pins s σ H R I q => h.run pins s σ H R I (i σ H R q)⟩
/-- a text's signs -/
def signs (s : Str) : List D := s.cps.toList.map fun c => .str ⟨#[c]⟩
def itemsD : D → Option (List D)
  | .lst l => some l
  | .tup l => some l
  | .fro l => some l
  | .str s => some (signs s)
  | _ => none
def iSeq (a : Ev) : Av := fun F δ => M.bind (a F δ) fun x => M.of (itemsD x)
def intsFrom (a : Int) (n : Nat) : List D := (List.range n).map fun i => .int (a + (i : Nat))
def rng1 : List D → Option (List D)
  | [.int j] => if -1000000000000 ≤ j ∧ j ≤ 1000000000000 then some (intsFrom 0 j.toNat) else none
  | _ => none
def rng2 : List D → Option (List D)
  | [.int i, .int j] => if -1000000000000 ≤ i ∧ i ≤ 1000000000000 ∧ -1000000000000 ≤ j ∧ j ≤ 1000000000000 then some (intsFrom i (j - i).toNat) else none
  | _ => none
def iRng (f : List D → Option (List D)) (a : Av) : Av := fun F δ => M.bind (a F δ) fun xs => M.of (f xs)

section
variable {X : Cx} {g : G} {F : Fns} {W : WX} {tg e : Expr} {es : List Expr} {pos p : Pos} {ea : Ev} {aa : Av}
theorem yld_list {μ : Mk} {H0 : Hp} {a : Addr} {xs : List V} {l : List D} (h : SqL g.K (hidM μ H0) a xs) (r : DtL g (hidM μ H0) l xs) : Yld g (hidM μ H0) (Itl g.K a) l := by
  intro i H μ' ok hm
  have h1 : SqL g.K H a xs := sq_monoL (Sub.of hid_sub) (sq_monoL ok h)
  refine ⟨fun d e => ?_, fun hl => ⟨xs, h1, by rw [r.length]; exact hl⟩⟩
  obtain ⟨v, ev, rv⟩ := r.get e
  refine ⟨⟨xs, v, h1, ev⟩, fun x H' ⟨e1, e2⟩ => ?_⟩
  subst e1
  have q := e2 xs h1
  rw [ev] at q
  cases q
  exact ⟨Same.refl _, Dt.mono ok _ _ rv⟩
theorem yld_tup {μ : Mk} {H0 : Hp} {a : Addr} {xs : List V} {l : List D} (h : SqT g.K (hidM μ H0) a xs) (r : DtL g (hidM μ H0) l xs) : Yld g (hidM μ H0) (Itt g.K a) l := by
  intro i H μ' ok hm
  have h1 : SqT g.K H a xs := sq_monoT (Sub.of hid_sub) (sq_monoT ok h)
  refine ⟨fun d e => ?_, fun hl => ⟨xs, h1, by rw [r.length]; exact hl⟩⟩
  obtain ⟨v, ev, rv⟩ := r.get e
  refine ⟨⟨xs, v, h1, ev⟩, fun x H' ⟨e1, e2⟩ => ?_⟩
  subst e1
  have q := e2 xs h1
  rw [ev] at q
  cases q
  exact ⟨Same.refl _, Dt.mono ok _ _ rv⟩
theorem yld_rng {B : Hp} {lo : Int} {n : Nat} : Yld g B (Itr lo n) (intsFrom lo n) := by
  intro i H μ' ok hm
  refine ⟨fun d e => ?_, fun hl => show n ≤ i by simpa [intsFrom] using hl⟩
  unfold intsFrom at e
  rw [List.getElem?_map, Option.map_eq_some_iff] at e
  obtain ⟨j, e1, rfl⟩ := e
  obtain ⟨h1, e2⟩ := List.getElem?_eq_some_iff.mp e1
  rw [List.length_range] at h1
  rw [List.getElem_range] at e2
  subst e2
  exact ⟨h1, fun x H' ⟨e1, e2⟩ => by subst e1; exact ⟨Same.refl _, e2⟩⟩
theorem yld_str {B : Hp} {s : Str} : Yld g B (Its s) (signs s) := by
  intro i H μ' ok hm
  refine ⟨fun d e => ?_, fun hl => show s.cps.size ≤ i by simpa [signs] using hl⟩
  unfold signs at e
  rw [List.getElem?_map, Option.map_eq_some_iff] at e
  obtain ⟨c, e1, rfl⟩ := e
  rw [Array.getElem?_toList] at e1
  refine ⟨(Array.getElem?_eq_some_iff.mp e1).1, fun x H' ⟨e2, c', e3, e4⟩ => ?_⟩
  subst e2
  rw [e1] at e3
  cases e3
  exact ⟨Same.refl _, e4⟩
/-- a list, a tuple, a text, whichever comes -/
theorem si_seq (hK : X.K = g.K) (h : PE X e (tI g F W ea)) : PI X tg e (tII g F W (iSeq ea)) := by
  refine ⟨fun pins s σ H R I ⟨μ, δ, S, hm, hr, hd, h0⟩ => ?_⟩
  have st := stepE (T := fun x H1 => (∃ a xs, x = .ref a ∧ SqL X.K H1 a xs ∧ R (Itl X.K a) H1) ∨ (∃ a xs, x = .ref a ∧ SqT X.K H1 a xs ∧ R (Itt X.K a) H1) ∨ ∃ z, x = .str z ∧ R (Its z) H1) hm hr hd h0 (fun x H1 dx S1 s1 hm hr hd r1 q => by
    obtain ⟨l, el, q0⟩ := fin_of q
    have q2 := q0 H1 (Sub.refl _) hd
    clear q q0
    cases dx with
    | lst l' =>
      cases el
      obtain ⟨a, xs, rfl, h1, h2⟩ := r1
      exact .inl ⟨a, xs, rfl, .inl (.inl (hid_some h1).1), by rw [hK]; exact q2 _ (yld_list (.inl (.inl h1)) h2)⟩
    | fro l' =>
      cases el
      obtain ⟨a, xs, rfl, h1, h2⟩ := r1
      exact .inl ⟨a, xs, rfl, by rw [hK]; exact sq_monoL (Sub.of hid_sub) h1, by rw [hK]; exact q2 _ (yld_list h1 h2)⟩
    | tup l' =>
      cases el
      obtain ⟨a, xs, rfl, h1, h2⟩ := r1
      exact .inr (.inl ⟨a, xs, rfl, by rw [hK]; exact sq_monoT (Sub.of hid_sub) h1, by rw [hK]; exact q2 _ (yld_tup h1 h2)⟩)
    | str z =>
      cases el
      exact .inr (.inr ⟨z, r1, q2 _ yld_str⟩)
    | _ => cases el)
  refine thn (h.run pins s σ H _ I st) fun v s1 ⟨x, H1, I1, rx, q⟩ => ?_
  rcases q with ⟨a, xs, rfl, hq, q⟩ | ⟨a, xs, rfl, hq, q⟩ | ⟨z, rfl, q⟩
  · cases rx
    obtain ⟨its, _, pl, _⟩ := I1.list hq
    exact wpAny_pyIter_list pl.isList (pi_one (tk := s1.toks) I1 _ (turn_list a _) ⟨_, Heap.get?_push_size _ rfl, rfl, rfl⟩ q)
  · cases rx
    obtain ⟨its, _, pt, _⟩ := I1.tuple hq
    exact wpAny_pyIter_tuple (items := its.toArray) pt (pi_one (tk := s1.toks) I1 _ (turn_tuple a _) ⟨_, Heap.get?_push_size _ rfl, rfl, rfl⟩ q)
  · obtain ⟨t, rfl⟩ := rx
    cases ha : z.cps.all (· < 128) with
    | false => exact wpAny_pyIter_wide ha (pi_one (tk := s1.toks) I1 _ (turn_str _ z t "str_iterator" (.inr rfl)) ⟨_, Heap.get?_push_size _ rfl, rfl, rfl⟩ q)
    | true => exact wpAny_pyIter_ascii ha (pi_one (tk := s1.toks) I1 _ (turn_str _ z t "str_ascii_iterator" (.inl rfl)) ⟨_, Heap.get?_push_size _ rfl, rfl, rfl⟩ q)
theorem si_rng1 {a : Expr} (hg : Gl X "range") (hm : X.mg "range" = none) (ha : PA X [a] (tIVA g F W aa)) (hs : starEach [a] X.env = [(false, eval a X.env)]) : PI X tg (.Call (.Name "range" p) [a] [] pos) (tII g F W (iRng rng1 aa)) := by
  refine pi_mono (pi_range1 hg hm ha hs) fun σ H R ⟨μ, δ, S, hm, hr, hd, h⟩ => ?_
  refine stepVA hm hr hd h fun xs H1 l S1 s1 hm hr hd r1 q => ?_
  obtain ⟨ys, el, q⟩ := fin_of q
  have q := q H1 (Sub.refl _) hd
  unfold rng1 at el
  split at el
  · rename_i j
    obtain ⟨v, vs, rfl, rv, e2⟩ := r1
    cases e2
    split at el
    · cases el
      exact ⟨j, by rw [rv.int], by omega, by omega, q _ yld_rng⟩
    · cases el
  · cases el
theorem si_rng2 {a b : Expr} (hg : Gl X "range") (hm : X.mg "range" = none) (ha : PA X [a, b] (tIVA g F W aa)) (hs : starEach [a, b] X.env = [(false, eval a X.env), (false, eval b X.env)]) (hs2 : starEach [b] X.env = [(false, eval b X.env)]) :
    PI X tg (.Call (.Name "range" p) [a, b] [] pos) (tII g F W (iRng rng2 aa)) := by
  refine pi_mono (pi_range2 hg hm ha hs hs2) fun σ H R ⟨μ, δ, S, hm, hr, hd, h⟩ => ?_
  refine stepVA hm hr hd h fun xs H1 l S1 s1 hm hr hd r1 q => ?_
  obtain ⟨ys, el, q⟩ := fin_of q
  have q := q H1 (Sub.refl _) hd
  unfold rng2 at el
  split at el
  · rename_i i j
    obtain ⟨v, vs, rfl, rv, v', vs', rfl, rv', e2⟩ := r1
    cases e2
    split at el
    · cases el
      exact ⟨i, j, by rw [rv.int, rv'.int], by omega, q _ yld_rng⟩
    · cases el
  · cases el
/-! ### enumerate, zip -/
def enumD (k : Int) : List D → List D
  | [] => []
  | d :: ds => .tup [.int k, d] :: enumD (k + 1) ds
theorem enumD_get : ∀ (k : Int) (l : List D) (i : Nat) (d : D), (enumD k l)[i]? = some d → ∃ x, l[i]? = some x ∧ d = .tup [.int (k + (i : Nat)), x]
  | _, [], i, d, h => by simp [enumD] at h
  | k, a :: l, 0, d, h => by
    simp [enumD] at h
    exact ⟨a, rfl, by rw [← h]; simp⟩
  | k, a :: l, i + 1, d, h => by
    obtain ⟨x, e1, e2⟩ := enumD_get (k + 1) l i d (by simpa [enumD] using h)
    refine ⟨x, by simpa using e1, ?_⟩
    rw [e2]
    congr 3
    push_cast
    omega
theorem enumD_length : ∀ (k : Int) (l : List D), (enumD k l).length = l.length
  | _, [] => rfl
  | k, a :: l => by simp [enumD, enumD_length (k + 1) l]
def zipD : List D → List D → List D
  | a :: as, b :: bs => .tup [a, b] :: zipD as bs
  | _, _ => []
theorem zipD_get : ∀ (l m : List D) (i : Nat) (d : D), (zipD l m)[i]? = some d → ∃ x y, l[i]? = some x ∧ m[i]? = some y ∧ d = .tup [x, y]
  | a :: l, b :: m, 0, d, h => by
    simp [zipD] at h
    exact ⟨a, b, rfl, rfl, h.symm⟩
  | a :: l, b :: m, i + 1, d, h => by
    obtain ⟨x, y, e1, e2, e3⟩ := zipD_get l m i d (by simpa [zipD] using h)
    exact ⟨x, y, by simpa using e1, by simpa using e2, e3⟩
  | [], m, i, d, h => by simp [zipD] at h
  | a :: l, [], i, d, h => by simp [zipD] at h
theorem zipD_length : ∀ (l m : List D), (zipD l m).length = min l.length m.length
  | a :: l, b :: m => by simp [zipD, zipD_length l m]
  | [], m => by simp [zipD]
  | a :: l, [] => by simp [zipD]
def enumF : List D → Option (List D)
  | [.lst l] => some (enumD 0 l)
  | _ => none
def zipF : List D → Option (List D)
  | [.lst l, .lst m] => some (zipD l m)
  | [.tup l, .tup m] => some (zipD l m)
  | _ => none
theorem dt_pair {μ : Mk} {H : Hp} {T : Addr} {x y : V} {d e : D} (hm : MOk μ.all H) (hT : H T = none) (r1 : Dt g (hidM μ H) d x) (r2 : Dt g (hidM μ H) e y) : Dt g (hidM μ (upd H T (.tup [x, y]))) (.tup [d, e]) (.ref T) :=
  dt_new_tup hm hT ⟨x, [y], rfl, r1, y, [], rfl, r2, rfl⟩
theorem yld_enum {μ : Mk} {H0 : Hp} {a : Addr} {xs : List V} {l : List D} (h : SqL g.K (hidM μ H0) a xs) (r : DtL g (hidM μ H0) l xs) : Yld g (hidM μ H0) (Ite g.K a) (enumD 0 l) := by
  intro i H μ' ok hm
  have h1 : SqL g.K H a xs := sq_monoL (Sub.of hid_sub) (sq_monoL ok h)
  refine ⟨fun d e => ?_, fun hl => ⟨xs, h1, by rw [r.length]; rw [enumD_length] at hl; exact hl⟩⟩
  obtain ⟨y, ey, rfl⟩ := enumD_get 0 l i d e
  obtain ⟨v, ev, rv⟩ := r.get ey
  refine ⟨⟨xs, v, h1, ev⟩, fun x H' ⟨T, z, e1, e2, e3, e4⟩ => ?_⟩
  have q := e4 xs h1
  rw [ev] at q
  cases q
  subst e1 e3
  refine ⟨Same.new e2, dt_pair hm e2 ?_ (Dt.mono ok _ _ rv)⟩
  show V.int _ = V.int _
  congr 1
  omega
theorem yld_zipL {μ : Mk} {H0 : Hp} {a b : Addr} {xs ys : List V} {l m : List D} (h : SqL g.K (hidM μ H0) a xs) (r : DtL g (hidM μ H0) l xs) (h' : SqL g.K (hidM μ H0) b ys) (r' : DtL g (hidM μ H0) m ys) : Yld g (hidM μ H0) (Itz g.K a b) (zipD l m) := by
  intro i H μ' ok hm
  have h1 : SqL g.K H a xs := sq_monoL (Sub.of hid_sub) (sq_monoL ok h)
  have h2 : SqL g.K H b ys := sq_monoL (Sub.of hid_sub) (sq_monoL ok h')
  refine ⟨fun d e => ?_, fun hl => ⟨xs, ys, h1, h2, by rw [r.length, r'.length]; rw [zipD_length] at hl; omega⟩⟩
  obtain ⟨y, z, ey, ez, rfl⟩ := zipD_get l m i d e
  obtain ⟨v, ev, rv⟩ := r.get ey
  obtain ⟨u, eu, ru⟩ := r'.get ez
  refine ⟨⟨xs, ys, v, u, h1, h2, ev, eu⟩, fun x H' ⟨T, v', u', e1, e2, e3, e4, e5⟩ => ?_⟩
  have q := e4 xs h1
  rw [ev] at q
  cases q
  have q := e5 ys h2
  rw [eu] at q
  cases q
  subst e1 e3
  exact ⟨Same.new e2, dt_pair hm e2 (Dt.mono ok _ _ rv) (Dt.mono ok _ _ ru)⟩
theorem yld_zipT {μ : Mk} {H0 : Hp} {a b : Addr} {xs ys : List V} {l m : List D} (h : SqT g.K (hidM μ H0) a xs) (r : DtL g (hidM μ H0) l xs) (h' : SqT g.K (hidM μ H0) b ys) (r' : DtL g (hidM μ H0) m ys) : Yld g (hidM μ H0) (RZ.ItzT g.K a b) (zipD l m) := by
  intro i H μ' ok hm
  have h1 : SqT g.K H a xs := sq_monoT (Sub.of hid_sub) (sq_monoT ok h)
  have h2 : SqT g.K H b ys := sq_monoT (Sub.of hid_sub) (sq_monoT ok h')
  refine ⟨fun d e => ?_, fun hl => ⟨xs, ys, h1, h2, by rw [r.length, r'.length]; rw [zipD_length] at hl; omega⟩⟩
  obtain ⟨y, z, ey, ez, rfl⟩ := zipD_get l m i d e
  obtain ⟨v, ev, rv⟩ := r.get ey
  obtain ⟨u, eu, ru⟩ := r'.get ez
  refine ⟨⟨xs, ys, v, u, h1, h2, ev, eu⟩, fun x H' ⟨T, v', u', e1, e2, e3, e4, e5⟩ => ?_⟩
  have q := e4 xs h1
  rw [ev] at q
  cases q
  have q := e5 ys h2
  rw [eu] at q
  cases q
  subst e1 e3
  exact ⟨Same.new e2, dt_pair hm e2 (Dt.mono ok _ _ rv) (Dt.mono ok _ _ ru)⟩
theorem si_enum {a : Expr} {elts : List Expr} {kk : Nat} {tpos : Pos} (hK : X.K = g.K) (hg : Gl X "enumerate") (hm : X.mg "enumerate" = none) (ha : PA X [a] (tIA g F W aa)) (hs : starEach [a] X.env = [(false, eval a X.env)]) :
    PI X (.Tuple elts kk tpos) (.Call (.Name "enumerate" p) [a] [] pos) (tII g F W (iRng enumF aa)) := by
  refine pi_mono (pi_enum hg hm ha hs) fun σ H R ⟨μ, δ, S, hm, hr, hd, h⟩ => ?_
  refine stepA hm hr hd h fun xs H1 l S1 s1 hm hr hd r1 q => ?_
  obtain ⟨ys, el, q⟩ := fin_of q
  have q := q H1 (Sub.refl _) hd
  unfold enumF at el
  split at el
  · cases el
    obtain ⟨v, vs, rfl, ⟨a, ys, rfl, h1, h2⟩, e2⟩ := r1
    cases e2
    exact ⟨a, ys, rfl, .inl (.inl (hid_some h1).1), by rw [hK]; exact q _ (yld_enum (.inl (.inl h1)) h2)⟩
  · cases el
theorem si_zip {a b : Expr} {elts : List Expr} {kk : Nat} {tpos : Pos} (hK : X.K = g.K) (hg : Gl X "zip") (hm : X.mg "zip" = none) (ha : PA X [a, b] (tIA g F W aa)) (hs : starEach [a, b] X.env = (false, eval a X.env) :: starEach [b] X.env) (hpl : (backTo pos (starEach [b] X.env)).any (·.1) = false) :
    PI X (.Tuple elts kk tpos) (.Call (.Name "zip" p) [a, b] [] pos) (tII g F W (iRng zipF aa)) := by
  refine pi_mono (RZ.pi_zipA hg hm ha hs hpl) fun σ H R ⟨μ, δ, S, hm, hr, hd, h⟩ => ?_
  refine stepA hm hr hd h fun xs H1 l S1 s1 hm hr hd r1 q => ?_
  obtain ⟨ys, el, q⟩ := fin_of q
  have q := q H1 (Sub.refl _) hd
  unfold zipF at el
  split at el
  · cases el
    obtain ⟨v, vs, rfl, ⟨a, ys, rfl, h1, h2⟩, v', vs', rfl, ⟨b, zs, rfl, h3, h4⟩, e2⟩ := r1
    cases e2
    exact ⟨a, b, ys, zs, rfl, .inl ⟨.inl (.inl (hid_some h1).1), .inl (.inl (hid_some h3).1), by rw [hK]; exact q _ (yld_zipL (.inl (.inl h1)) h2 (.inl (.inl h3)) h4)⟩⟩
  · cases el
    obtain ⟨v, vs, rfl, ⟨a, ys, rfl, h1, h2⟩, v', vs', rfl, ⟨b, zs, rfl, h3, h4⟩, e2⟩ := r1
    cases e2
    exact ⟨a, b, ys, zs, rfl, .inr ⟨by rw [hK]; exact sq_monoT (Sub.of hid_sub) h1, by rw [hK]; exact sq_monoT (Sub.of hid_sub) h3, by rw [hK]; exact q _ (yld_zipT h1 h2 h3 h4)⟩⟩
  · cases el
end
end Wm

namespace Wm
open PySem PySem.Spec PyProof.Rows L2

/-! ### targets -/
inductive Tg where
  | one (i : Nat) | many (is : List Nat)
def Tg.slots : Tg → List Nat
  | .one i => [i]
  | .many is => is
def setE (δ : Env) (i : Nat) (d : D) : Env := δ.set i (some (.dat d))
def setAll : List Nat → List D → Env → Env
  | i :: is, d :: ds, δ => setAll is ds (setE δ i d)
  | _, _, δ => δ
def setAllV : List Nat → List V → L2.St → L2.St
  | i :: is, v :: vs, σ => setAllV is vs (σ.set i (some v))
  | _, _, σ => σ
def bindT : Tg → D → Env → Option Env
  | .one i, d, δ => some (setE δ i d)
  | .many is, .tup ds, δ => if is.length = ds.length then some (setAll is ds δ) else none
  | .many _, _, _ => none
/-- the slots that a comprehension's own names hide -/
def wipeE (δ : Env) : List Nat → Env
  | [] => δ
  | v :: vs => (wipeE δ vs).set v none
section
variable {g : G} {μ : Mk} {H : Hp}
theorem Rel.set {σ : L2.St} {δ : Env} (h : Rel g μ H σ δ) (i : Nat) {d : D} {v : V} (r : Dt g (hidM μ H) d v) : Rel g μ H (σ.set i (some v)) (setE δ i d) := by
  unfold setE
  refine ⟨by simp [h.len], fun j s e => ?_, fun j j' l l' u e e' f f' => ?_⟩
  · by_cases hj : i = j
    · subst hj
      have hl : i < δ.length := by
        have := (List.getElem?_eq_some_iff.mp e).1
        simpa using this
      rw [List.getElem?_set_self hl] at e
      cases e
      exact ⟨v, List.getElem?_set_self (by rw [← h.len]; exact hl), r⟩
    · rw [List.getElem?_set_ne hj] at e
      rw [List.getElem?_set_ne hj]
      exact h.at_ j s e
  · by_cases hj : i = j
    · subst hj
      have hl : i < δ.length := by
        have := (List.getElem?_eq_some_iff.mp e).1
        simpa using this
      rw [List.getElem?_set_self hl] at e
      cases e
    · by_cases hj' : i = j'
      · subst hj'
        have hl : i < δ.length := by
          have := (List.getElem?_eq_some_iff.mp e').1
          simpa using this
        rw [List.getElem?_set_self hl] at e'
        cases e'
      · rw [List.getElem?_set_ne hj] at e f
        rw [List.getElem?_set_ne hj'] at e' f'
        exact h.own j j' l l' u e e' f f'
theorem Rel.unset {σ : L2.St} {δ : Env} (h : Rel g μ H σ δ) (i : Nat) : Rel g μ H (σ.set i none) (δ.set i none) := by
  refine ⟨by simp [h.len], fun j s e => ?_, fun j j' l l' u e e' f f' => ?_⟩
  · by_cases hj : i = j
    · subst hj
      have hl : i < δ.length := by
        have := (List.getElem?_eq_some_iff.mp e).1
        simpa using this
      rw [List.getElem?_set_self hl] at e
      cases e
    · rw [List.getElem?_set_ne hj] at e
      rw [List.getElem?_set_ne hj]
      exact h.at_ j s e
  · by_cases hj : i = j
    · subst hj
      have hl : i < δ.length := by
        have := (List.getElem?_eq_some_iff.mp e).1
        simpa using this
      rw [List.getElem?_set_self hl] at e
      cases e
    · by_cases hj' : i = j'
      · subst hj'
        have hl : i < δ.length := by
          have := (List.getElem?_eq_some_iff.mp e').1
          simpa using this
        rw [List.getElem?_set_self hl] at e'
        cases e'
      · rw [List.getElem?_set_ne hj] at e f
        rw [List.getElem?_set_ne hj'] at e' f'
        exact h.own j j' l l' u e e' f f'
theorem Rel.setAll : ∀ {is : List Nat} {ds : List D} {vs : List V} {σ : L2.St} {δ : Env}, Rel g μ H σ δ → DtL g (hidM μ H) ds vs → Rel g μ H (setAllV is vs σ) (Wm.setAll is ds δ)
  | [], [], vs, σ, δ, h, r => by
    rw [show vs = [] from r]; exact h
  | [], d :: ds, vs, σ, δ, h, ⟨v, us, e, _, _⟩ => by
    rw [e]; exact h
  | i :: is, [], vs, σ, δ, h, r => by
    rw [show vs = [] from r]; exact h
  | i :: is, d :: ds, vs, σ, δ, h, ⟨v, us, e, r1, r2⟩ => by
    rw [e]
    show Rel g μ H (setAllV is us (σ.set i (some v))) (Wm.setAll is ds (setE δ i d))
    exact Rel.setAll (Rel.set h i r1) r2
theorem Rel.wipe {σ : L2.St} {δ : Env} (h : Rel g μ H σ δ) : ∀ vs : List Nat, Rel g μ H (L2.wipe σ vs) (wipeE δ vs)
  | [] => h
  | v :: vs => (h.wipe vs).unset v
theorem setAllV_other {j : Nat} : ∀ {is : List Nat} {vs : List V} {σ : L2.St}, j ∉ is → (setAllV is vs σ)[j]? = σ[j]?
  | [], _, _, _ => by simp [setAllV]
  | i :: is, [], _, _ => rfl
  | i :: is, v :: vs, σ, h => by
    rw [List.mem_cons, not_or] at h
    show (setAllV is vs (σ.set i (some v)))[j]? = _
    rw [setAllV_other h.2, List.getElem?_set_ne (Ne.symm h.1)]
theorem setAllV_length : ∀ {is : List Nat} {vs : List V} {σ : L2.St}, (setAllV is vs σ).length = σ.length
  | [], _, _ => by simp [setAllV]
  | i :: is, [], _ => rfl
  | i :: is, v :: vs, σ => by
    show (setAllV is vs (σ.set i (some v))).length = _
    rw [setAllV_length, List.length_set]
theorem wipe_at {σ : L2.St} {j : Nat} : ∀ {vs : List Nat}, j ∈ vs → (L2.wipe σ vs)[j]? = if j < σ.length then some none else none
  | [], h => by cases h
  | v :: vs, h => by
    show ((L2.wipe σ vs).set v none)[j]? = _
    by_cases hv : v = j
    · subst hv
      by_cases hl : v < σ.length
      · rw [List.getElem?_set_self (by rw [wipe_length]; exact hl), if_pos hl]
      · rw [if_neg hl, List.getElem?_eq_none (by simp [wipe_length]; omega)]
    · rw [List.getElem?_set_ne hv]
      exact wipe_at (List.mem_of_ne_of_mem (Ne.symm hv) h)
theorem wipe_same {σ σ2 : L2.St} {vs : List Nat} (hl : σ2.length = σ.length) (h : ∀ j, j ∉ vs → σ2[j]? = σ[j]?) : L2.wipe σ2 vs = L2.wipe σ vs := by
  refine List.ext_getElem? fun j => ?_
  by_cases hj : j ∈ vs
  · rw [wipe_at hj, wipe_at hj, hl]
  · rw [wipe_out hj, wipe_out hj, h j hj]
end
/-- a target by a run: behind it the slots are as bindT says -/
def gI (g : G) (tg : Tg) : TG := fun v σ H Q => ∃ μ δ d δ', MOk (Mk.all μ) H ∧ Rel g μ H σ δ ∧ Dt g (hidM μ H) d v ∧ bindT tg d δ = some δ' ∧
  ∀ σ', Rel g μ H σ' δ' → σ'.length = σ.length → (∀ j, j ∉ tg.slots → σ'[j]? = σ[j]?) → Q σ' H
def gsI (is : List Nat) : TGs := fun vs σ H Q => vs.length = is.length ∧ Q (setAllV is vs σ) H
section
variable {X : Cx} {g : G} {pos : Pos}
theorem pg_mono {e : Expr} {t t' : TG} (h : PG X e t) (i : ∀ v σ H Q, t' v σ H Q → t v σ H Q) : PG X e t' := ⟨fun pins s σ H v u Q I r q => h.run pins s σ H v u Q I r (i v σ H Q q)⟩
theorem sg_one {i : Nat} {x : Str} (hN : X.N.Nodup) (hi : X.N[i]? = some x) (hx : Loc X.env.scope x) (hf : X.fn x = true ∨ X.env.scope.names.lookup x = some .local) : PG X (.Name x pos) (gI g (.one i)) := by
  refine pg_mono (pg_name hN hi hx hf) fun v σ H Q ⟨μ, δ, d, δ', hm, hr, rd, hb, h⟩ => ?_
  cases hb
  refine h _ (hr.set i rd) (by simp) fun j hj => ?_
  rw [List.getElem?_set_ne]
  rintro rfl
  exact hj (by simp [Tg.slots])
/-- names with their slots -/
def NamesAt (X : Cx) : List Expr → List Nat → Prop
  | [], [] => True
  | .Name x _ :: es, i :: is => (X.N[i]? = some x ∧ Loc X.env.scope x ∧ (X.fn x = true ∨ X.env.scope.names.lookup x = some .local)) ∧ NamesAt X es is
  | _, _ => False
theorem sgs {hN : X.N.Nodup} : ∀ {es : List Expr} {is : List Nat}, NamesAt X es is → PGs X es (gsI is)
  | [], [], _ => ⟨fun pins s σ H vs us Q I r ⟨hl, q⟩ => pgs_nil.run pins s σ H vs us Q I r ⟨List.length_eq_zero_iff.mp hl, by
      rw [List.length_eq_zero_iff.mp hl] at q; exact q⟩⟩
  | .Name x p :: es, i :: is, ⟨⟨h1, h2, h3⟩, h4⟩ => by
    have ih := sgs (hN := hN) h4
    refine ⟨fun pins s σ H vs us Q I r ⟨hl, q⟩ => (pgs_cons (pg_name hN h1 h2 h3) ih).run pins s σ H vs us Q I r ?_⟩
    cases vs with
    | nil => cases hl
    | cons v vs => exact ⟨v, vs, rfl, by simpa using hl, q⟩
theorem names_plain {X : Cx} : ∀ {es : List Expr} {is : List Nat}, NamesAt X es is → (assignEach es X.env).length = is.length ∧ (assignEach es X.env).findIdx? (·.1) = none
  | [], [], _ => ⟨rfl, rfl⟩
  | .Name x p :: es, i :: is, ⟨_, h4⟩ => by
    obtain ⟨h1, h2⟩ := names_plain h4
    have e : assignEach (.Name x p :: es) X.env = (false, assign (.Name x p) X.env) :: assignEach es X.env := by first | rfl | rw [assignEach]
    rw [e]
    refine ⟨by simp [h1], ?_⟩
    rw [List.findIdx?_cons]
    simp [h2]
theorem sg_many {es : List Expr} {k : Nat} {is : List Nat} (hK : X.K = g.K) (hc : X.calm = true) (hN : X.N.Nodup) (h : NamesAt X es is) : PG X (.Tuple es k pos) (gI g (.many is)) := by
  obtain ⟨h1, h2⟩ := names_plain h
  refine pg_mono (pg_tup (n := is.length) hc (sgs (hN := hN) h) h1 h2) fun v σ H Q ⟨μ, δ, d, δ', hm, hr, rd, hb, q⟩ => ?_
  cases d with
  | tup ds =>
    simp only [bindT] at hb
    split at hb
    · rename_i hl
      cases hb
      obtain ⟨a, xs, rfl, hq, r⟩ := rd
      have lx : xs.length = is.length := by rw [r.length]; exact hl.symm
      exact ⟨a, xs, rfl, by rw [hK]; exact sq_monoT (Sub.of hid_sub) hq, lx, lx, q _ (hr.setAll r) setAllV_length fun j hj => setAllV_other hj⟩
    · cases hb
  | _ => cases hb
end

/-! ### list comprehensions -/
def noEx {α : Type} (m : M α) : M α := fun s => match m s with
  | .ex _ _ => .no
  | o => o
theorem noEx_fin {α β : Type} {g : G} {H Hx : Hp} {okP : β → DS → Hp → Prop} {exP exP' : Xc → DS → Hp → Prop} {m : M α} {k : α → M β} {S : DS} (h : FinG g H okP exP (M.bind (noEx m) k S)) : FinG g Hx (fun a S1 _ => FinG g H okP exP (k a S1)) exP' (m S) := by
  have h : FinG g H okP exP ((noEx m S).bind k) := h
  unfold noEx at h
  cases q : m S with
  | no => rw [q] at h; exact h
  | ex x s => rw [q] at h; exact False.elim h
  | ok a s => rw [q] at h; exact fun H' s' d' => h
/-- the items one after another: bind, test, make; ys: made so far -/
def compAcc (F : Fns) (tg : Tg) (c : Tv) (e : Ev) (δ : Env) : List D → List D → M D
  | [], ys => if ys.length ≤ 1000000 then M.pure (.lst ys) else M.no
  | d :: ds, ys => M.bind (M.of (bindT tg d δ)) fun δ' => M.bind (noEx (c F δ')) fun b =>
    if b = true then M.bind (noEx (e F δ')) fun y => if ys.length < 1000000 then compAcc F tg c e δ ds (ys ++ [y]) else M.no else compAcc F tg c e δ ds ys
def cYes : Tv := fun _ _ => M.pure true
def eComp (vs : List Nat) (ι : Av) (tg : Tg) (c : Tv) (e : Ev) : Ev := fun F δ => M.bind (ι F δ) fun l => compAcc F tg c e (wipeE δ vs) l []
section
variable {X : Cx} {g : G} {F : Fns} {W : WX} {pos : Pos}
abbrev W0 : WX := fun _ _ _ _ => False
def withO (μ : Mk) (D : Addr) : Mk := ⟨μ.b, fun a => μ.o a || (a == D)⟩
theorem withO_all {μ : Mk} {D a : Addr} : (withO μ D).all a = (μ.all a || (a == D)) := by
  unfold withO Mk.all
  simp [Bool.or_assoc]
theorem hid_withO {μ : Mk} {D : Addr} {H : Hp} : Same (hidM (withO μ D) H) (hidM μ H) := fun a o h => by
  obtain ⟨h1, h2⟩ := hid_some h
  rw [withO_all, Bool.or_eq_false_iff] at h2
  exact hid_of h1 h2.1
/-- what was known ahead of the new list D is known with D hidden -/
theorem hid_fresh {μ : Mk} {D : Addr} {H H' : Hp} (hD : H D = none) (s : SubM μ H H') : Sub (hidM μ H) (hidM (withO μ D) H') := fun a o h st => by
  obtain ⟨h1, h2⟩ := hid_some (s a o h st)
  refine hid_of h1 ?_
  rw [withO_all, h2, Bool.false_or, beq_eq_false_iff_ne]
  rintro rfl
  rw [(hid_some h).1] at hD
  cases hD
theorem Rel.fresh {μ : Mk} {D : Addr} {H H' : Hp} {σ : L2.St} {δ : Env} (hD : H D = none) (s : Sub H H') (h : Rel g μ H σ δ) : Rel g (withO μ D) H' σ δ := by
  refine ⟨h.len, fun i sl e => ?_, h.own⟩
  obtain ⟨v, e1, r⟩ := h.at_ i sl e
  refine ⟨v, e1, ?_⟩
  cases sl with
  | dat d => exact Dt.mono (hid_fresh hD (SubM.of s)) _ _ r
  | own l =>
    obtain ⟨p, xs, a1, a2, a3, a4, a5⟩ := r
    exact ⟨p, xs, a1, by show (μ.o p || _) = true; rw [a2]; rfl, a3, s _ _ a4 trivial, DtL.mono (hid_fresh hD (SubM.of s)) _ _ a5⟩
theorem MOk.withO {μ : Mk} {D : Addr} {H : Hp} {xs : List V} (h : MOk μ.all H) (hD : H D = some (.lst xs)) : MOk (withO μ D).all H := fun a e => by
  rw [withO_all, Bool.or_eq_true] at e
  rcases e with e | e
  · exact h a e
  · rw [beq_iff_eq.mp e]
    exact ⟨_, hD, trivial⟩
theorem se_lc {elt tge iter : Expr} {ifs : List Expr} {scope : Scope} {own : List (Str × Nat)} {ι : Av} {tg : Tg} {c : Tv} {e : Ev} (hc : X.calm = true) (hN : X.N.Nodup) (hi : PI X tge iter (tII g F W ι)) (ok : BlkOk X.N X.env.scope scope own) (hsl : ∀ j ∈ tg.slots, j ∈ own.map (·.2))
    (hg : ∀ (s : Shared) (H : Hp) (C : Addr) (cl : List (Str × Addr)) (fp : List Addr), PG (X.blk s H scope (compEnvC scope cl C X.env) fp) tge (gI g tg))
    (ht : ∀ (s : Shared) (H : Hp) (C : Addr) (cl : List (Str × Addr)) (fp : List Addr), PTs (X.blk s H scope (compEnvC scope cl C X.env) fp) ifs (tIT g F W0 c))
    (he : ∀ (s : Shared) (H : Hp) (C : Addr) (cl : List (Str × Addr)) (fp : List Addr), PE (X.blk s H scope (compEnvC scope cl C X.env) fp) elt (tI g F W0 e)) (hs : ∀ x, foldedSetIterable iter X.env x = pure x) :
    ∀ σ H Q, tI g F W (eComp (own.map (·.2)) ι tg c e) σ H Q → tLc (tII g F W ι) (gI g tg) (tIT g F W0 c) (tI g F W0 e) (own.map (·.2)) σ H Q := by
  intro σ H Q ⟨μ, δ, S, hm, hr, hd, h⟩
  refine ⟨μ, δ, S, hm, hr, hd, h.bind.imp (fun l S1 H1 s1 d1 q J hy Dd hD => ?_) fun _ _ _ _ _ q => q⟩
  have hm1 := hm.mono s1
  have hr1 := (hr.mono s1).wipe (own.map (·.2))
  refine ⟨fun i m Hc => m = l.length - i ∧ i ≤ l.length ∧ ∃ acc ys Si, Hc Dd = some (.lst acc) ∧ DtL g (hidM (withO μ Dd) Hc) ys acc ∧ Sub H1 Hc ∧ DOk g Hc Si ∧ ys.length ≤ 1000000 ∧ FinG g H1 (fun d _ H' => ∀ v, Dt g (hidM μ H') d v → Q v H') (exW g μ W σ) (compAcc F tg c e (wipeE δ (own.map (·.2))) (l.drop i) ys Si),
    ⟨l.length, by omega, Nat.zero_le _, [], [], S1, upd_same, rfl, Sub.of (Same.new hD), d1.same (Same.new hD), Nat.zero_le _, q⟩, ?_⟩
  rintro i m Hc ⟨rfl, hi', acc, ys, Si, hacc, racc, sub, dk, hys, q⟩
  have sb := hid_fresh hD (SubM.of (μ := μ) sub)
  have hmD : MOk (withO μ Dd).all Hc := (hm1.mono sub).withO hacc
  obtain ⟨y1, y2⟩ := hy i Hc (withO μ Dd) sb hmD
  by_cases hlt : i < l.length
  · right
    have ed : l.drop i = l[i] :: l.drop (i + 1) := List.drop_eq_getElem_cons hlt
    rw [ed] at q
    obtain ⟨δ', eb, q⟩ := fin_ofB q
    obtain ⟨go, yl⟩ := y1 l[i] (List.getElem?_eq_getElem hlt)
    refine ⟨go, fun H' => _, fun H' hn => ⟨l.length - (i + 1), by omega, rfl, hlt, hn⟩, fun x H' hx => ?_⟩
    obtain ⟨sm, rx⟩ := yl x H' hx
    have s2 := Sub.of sm
    refine ⟨withO μ Dd, wipeE δ (own.map (·.2)), l[i], δ', hmD.mono s2, Rel.fresh hD (sub.trans s2) hr1, rx, eb, fun σ2 hr2 hl2 ho2 => ⟨wipe_same (by rw [hl2, wipe_length]) fun j hj => ?_, ?_⟩⟩
    · rw [ho2 j fun z => hj (hsl j z), wipe_out hj]
    · refine ⟨withO μ Dd, δ', Si, hmD.mono s2, hr2, dk.same sm, (noEx_fin (exP' := exW g (withO μ Dd) W0 σ2) q).imp (fun b S3 H3 s3 d3 q3 => ?_) fun _ _ _ _ _ z => z⟩
      have s13 : Sub H1 H3 := (sub.trans s2).trans s3
      cases b with
      | false => exact ⟨acc, ys, S3, s3 _ _ (sm _ _ hacc) trivial, DtL.mono (s2.trans s3).hid _ _ racc, s13, d3, hys, q3⟩
      | true =>
        refine ⟨withO μ Dd, δ', S3, (hmD.mono s2).mono s3, hr2.mono s3, d3, (noEx_fin (exP' := exW g (withO μ Dd) W0 σ2) (show FinG g H1 _ _ (M.bind (noEx (e F δ')) _ S3) from q3)).imp (fun y S4 H4 s4 d4 q4 v rv => ?_) fun _ _ _ _ _ z => z⟩
        have hD4 : H4 Dd = some (.lst acc) := s4 _ _ (s3 _ _ (sm _ _ hacc) trivial) trivial
        have r4 : DtL g (hidM (withO μ Dd) H4) ys acc := DtL.mono ((s2.trans s3).trans s4).hid _ _ racc
        by_cases hy : ys.length < 1000000
        · rw [if_pos hy] at q4
          refine ⟨acc, hD4, Nat.lt_of_lt_of_le (by rw [r4.length]; exact hy) (by decide), acc ++ [v], ys ++ [y], S4, upd_same, ?_, ?_, ?_, by simp; omega, q4⟩
          · have k : Same (hidM (withO μ Dd) H4) (hidM (withO μ Dd) (upd H4 Dd (.lst (acc ++ [v])))) := fun a o ha => by
              obtain ⟨h1, h2⟩ := hid_some ha
              refine hid_of ?_ h2
              rw [withO_all, Bool.or_eq_false_iff, beq_eq_false_iff_ne] at h2
              rw [upd_ne h2.2]
              exact h1
            exact DtL.mono (Sub.of k) _ _ (r4.append ⟨v, [], rfl, rv, rfl⟩)
          · intro a o ha st
            have hne : a ≠ Dd := ne_of_none ha hD
            rw [upd_ne hne]
            exact s4 _ _ (s13 _ _ ha st) st
          · exact d4.upd hD4 trivial
        · rw [if_neg hy] at q4
          exact False.elim q4
  · left
    have hl : l.length ≤ i := by omega
    refine ⟨y2 hl, ?_⟩
    rw [List.drop_eq_nil_of_le hl] at q
    have q : FinG g H1 _ _ ((if ys.length ≤ 1000000 then M.pure (D.lst ys) else M.no) Si) := q
    rw [if_pos hys] at q
    exact q Hc sub dk (.ref Dd) ⟨Dd, acc, rfl, hid_of hacc (hm1.new hD), DtL.mono (Sub.of hid_withO) _ _ racc⟩
end
end Wm

namespace Wm
open PySem PySem.Spec PyProof.Rows L2

/-! ### statements -/
inductive OutS where
  | no | nx (δ : Env) (s : DS) | rt (d : D) (s : DS) | ex (x : Xc) (δ : Env) (s : DS)
abbrev Sv := Fns → Env → DS → OutS
/-- where a block stands: B what stood at its entry, b what is hidden from it -/
structure At (g : G) (B : Hp) (b : Addr → Bool) (μ : Mk) (H : Hp) (σ : L2.St) (δ : Env) (S : DS) : Prop where
  mb : μ.b = b
  mok : MOk μ.all H
  sub : Sub B H
  fr : ∀ p o, μ.o p = true → B p = some o → ¬ Stab o
  rel : Rel g μ H σ δ
  dok : DOk g H S
theorem At.step {g : G} {B : Hp} {b : Addr → Bool} {μ : Mk} {H H' : Hp} {σ : L2.St} {δ : Env} {S S' : DS} (h : At g B b μ H σ δ S) (s : Sub H H') (d : DOk g H' S') : At g B b μ H' σ δ S' :=
  ⟨h.mb, h.mok.mono s, h.sub.trans s, h.fr, h.rel.mono s, d⟩
def FinS (g : G) (B : Hp) (b : Addr → Bool) (W : WX) (D : Ends) : OutS → Prop
  | .no => False
  | .nx δ S => ∀ μ σ H, At g B b μ H σ δ S → D.nx σ H
  | .rt d S => ∀ v H, Sub B H → DOk g H S → Dt g (hid b H) d v → D.rt v H
  | .ex x δ S => ∀ μ σ H c dd, At g B b μ H σ δ S → XRel g b H x c dd → W c dd σ H
def tIS (g : G) (F : Fns) (W : WX) (B : Hp) (b : Addr → Bool) (ζ : Sv) : TS := fun D σ H => ∃ μ δ S, At g B b μ H σ δ S ∧ FinS g B b W D (ζ F δ S)
def Out.toS {α : Type} (δ : Env) (k : α → DS → OutS) : Out α → OutS
  | .no => .no
  | .ok a s => k a s
  | .ex x s => .ex x δ s
def zRet (e : Ev) : Sv := fun F δ S => (e F δ S).toS δ fun d s => .rt d s
def zSet (i : Nat) (e : Ev) : Sv := fun F δ S => (e F δ S).toS δ fun d s => .nx (setE δ i d) s
def zAsg (tg : Tg) (e : Ev) : Sv := fun F δ S => (e F δ S).toS δ fun d s => match bindT tg d δ with
  | some δ' => .nx δ' s
  | none => .no
def zDrop (e : Ev) : Sv := fun F δ S => (e F δ S).toS δ fun _ s => .nx δ s
def zNil : Sv := fun _ δ S => .nx δ S
def zSeq (a b : Sv) : Sv := fun F δ S => match a F δ S with
  | .nx δ' S' => b F δ' S'
  | o => o
def zIf (c : Tv) (a b : Sv) : Sv := fun F δ S => (c F δ S).toS δ fun k s => if k = true then a F δ s else b F δ s
def forGo (F : Fns) (tg : Tg) (body : Sv) : List D → Env → DS → OutS
  | [], δ, S => .nx δ S
  | d :: ds, δ, S => match bindT tg d δ with
    | none => .no
    | some δ1 => match body F δ1 S with
      | .nx δ2 S2 => forGo F tg body ds δ2 S2
      | o => o
def zFor (ι : Av) (tg : Tg) (body : Sv) : Sv := fun F δ S => (ι F δ S).toS δ fun l s => forGo F tg body l δ s
def whileGo (F : Fns) (c : Tv) (body : Sv) : Nat → Env → DS → OutS
  | 0, _, _ => .no
  | n + 1, δ, S => (c F δ S).toS δ fun k s => if k = true then (match body F δ s with
    | .nx δ2 S2 => whileGo F c body n δ2 S2
    | o => o) else .nx δ s
def zWhile (n : Nat) (c : Tv) (body : Sv) : Sv := fun F δ S => whileGo F c body n δ S

section
variable {g : G} {B : Hp} {b : Addr → Bool} {W : WX} {D : Ends} {F : Fns}
theorem hid_le {μ : Mk} {H : Hp} (h : μ.b = b) : Same (hidM μ H) (hid b H) := fun a o e => by
  obtain ⟨h1, h2⟩ := hid_some e
  refine hid_of h1 ?_
  unfold Mk.all at h2
  rw [Bool.or_eq_false_iff, h] at h2
  exact h2.1
theorem XRel.le {μ : Mk} {H : Hp} {x : Xc} {c : Value} {dd : Option Addr} (h : μ.b = b) (r : XRel g μ.all H x c dd) : XRel g b H x c dd := by
  obtain ⟨C, d, v, h1, h2, h3, h4, h5⟩ := r
  exact ⟨C, d, v, h1, h2, h3, hid_le h _ _ h4, Dt.mono (Sub.of (hid_le h)) _ _ h5⟩
/-- an expression's run at the head of a statement -/
theorem stepS {α : Type} {μ : Mk} {H : Hp} {σ : L2.St} {δ : Env} {S : DS} {o : Out α} {k : α → DS → OutS} {okP : α → DS → Hp → Prop} (A : At g B b μ H σ δ S) (h : FinS g B b W D (o.toS δ k))
    (c : ∀ a S1 H1, Sub H H1 → At g B b μ H1 σ δ S1 → FinS g B b W D (k a S1) → okP a S1 H1) : FinG g H okP (exW g μ W σ) o := by
  cases o with
  | no => exact h
  | ok a s => exact fun H1 s1 d1 => c a s H1 s1 (A.step s1 d1) h
  | ex x s => exact fun H1 s1 d1 cl dd xr => h μ σ H1 cl dd (A.step s1 d1) (xr.le A.mb)
end
section
variable {X : Cx} {g : G} {F : Fns} {W : WX} {B : Hp} {b : Addr → Bool} {e tge : Expr} {pos : Pos} {ea : Ev}
theorem ss_nil : PSs X [] (tIS g F W B b zNil) := pss_mono pss_nil fun D σ H ⟨μ, δ, S, A, h⟩ => h μ σ H A
theorem ss_cons {st : Stmt} {r : List Stmt} {z1 z2 : Sv} (h1 : PS X st (tIS g F W B b z1)) (h2 : PSs X r (tIS g F W B b z2)) : PSs X (st :: r) (tIS g F W B b (zSeq z1 z2)) := by
  refine pss_mono (pss_cons h1 h2) fun D σ H ⟨μ, δ, S, A, h⟩ => ?_
  refine ⟨μ, δ, S, A, ?_⟩
  unfold zSeq at h
  cases q : z1 F δ S with
  | nx δ' S' => rw [q] at h; exact fun μ' σ' H' A' => ⟨μ', δ', S', A', h⟩
  | no => rw [q] at h; exact h
  | rt d S' => rw [q] at h; exact h
  | ex x δ' S' => rw [q] at h; exact h
theorem s_ret (he : PE X e (tI g F W ea)) : PS X (.Return (some e) pos) (tIS g F W B b (zRet ea)) := by
  refine ps_mono (ps_ret he) fun D σ H ⟨μ, δ, S, A, h⟩ => ⟨μ, δ, S, A.mok, A.rel, A.dok, stepS A h fun d S1 H1 s1 A1 q v rv => ?_⟩
  exact q v H1 A1.sub A1.dok (Dt.mono (Sub.of (hid_le A.mb)) _ _ rv)
theorem At.set {μ : Mk} {H : Hp} {σ : L2.St} {δ : Env} {S : DS} (A : At g B b μ H σ δ S) (i : Nat) {d : D} {v : V} (r : Dt g (hidM μ H) d v) : At g B b μ H (σ.set i (some v)) (setE δ i d) S :=
  ⟨A.mb, A.mok, A.sub, A.fr, A.rel.set i r, A.dok⟩
theorem s_set {i : Nat} {x : Str} {pos' : Pos} (hN : X.N.Nodup) (hi : X.N[i]? = some x) (hx : Loc X.env.scope x) (hf : X.fn x = true ∨ X.env.scope.names.lookup x = some .local) (he : PE X e (tI g F W ea)) (hs : swapsWith e (some (.Name x pos')) pos.line X.env = pure false) :
    PS X (.Assign [.Name x pos'] e pos) (tIS g F W B b (zSet i ea)) := by
  refine ps_mono (ps_set hN hi hx he hs hf) fun D σ H ⟨μ, δ, S, A, h⟩ => ⟨μ, δ, S, A.mok, A.rel, A.dok, stepS A h fun d S1 H1 s1 A1 q v rv => ?_⟩
  exact q μ _ H1 (A1.set i rv)
/-- name = [..] on one line: what the comprehension reads, stored -/
theorem s_setLc {i : Nat} {te : TE} {st : Stmt} (hp : PS X st (tAsg te (gName i))) (hq : ∀ σ H Q, tI g F W ea σ H Q → te σ H Q) : PS X st (tIS g F W B b (zSet i ea)) := by
  refine ps_mono hp fun D σ H ⟨μ, δ, S, A, h⟩ => hq σ H _ ⟨μ, δ, S, A.mok, A.rel, A.dok, stepS A h fun d S1 H1 s1 A1 q v rv => ?_⟩
  exact q μ _ H1 (A1.set i rv)
theorem At.bind {tg : Tg} {μ : Mk} {H : Hp} {σ σ' : L2.St} {δ δ' : Env} {S : DS} (A : At g B b μ H σ δ S) (r : Rel g μ H σ' δ') : At g B b μ H σ' δ' S := ⟨A.mb, A.mok, A.sub, A.fr, r, A.dok⟩
theorem s_asg {tg : Tg} (he : PE X e (tI g F W ea)) (hg : PG X tge (gI g tg)) (hs : swapsWithSole [tge] e pos.line X.env = pure false) (hw : swappedStores [tge] e X.env = pure none) (h1 : (assignEach [tge] X.env).map (·.2) = [assign tge X.env]) :
    PS X (.Assign [tge] e pos) (tIS g F W B b (zAsg tg ea)) := by
  refine ps_mono (ps_asg he hg hs hw h1) fun D σ H ⟨μ, δ, S, A, h⟩ => ⟨μ, δ, S, A.mok, A.rel, A.dok, stepS A h fun d S1 H1 s1 A1 q v rv => ?_⟩
  cases hb : bindT tg d δ with
  | none => rw [hb] at q; exact False.elim q
  | some δ' =>
    rw [hb] at q
    exact ⟨μ, δ, d, δ', A1.mok, A1.rel, rv, hb, fun σ' hr _ _ => q μ σ' H1 (At.bind (tg := tg) A1 hr)⟩
theorem s_drop (he : PE X e (tI g F W ea)) (hs : swapsWith e none pos.line X.env = pure false) : PS X (.Expr e pos) (tIS g F W B b (zDrop ea)) := by
  refine ps_mono (ps_expr he hs) fun D σ H ⟨μ, δ, S, A, h⟩ => ⟨μ, δ, S, A.mok, A.rel, A.dok, stepS A h fun d S1 H1 s1 A1 q v rv => ?_⟩
  exact q μ _ H1 A1
theorem s_doc {x : Str} {j : Nat} {p : Pos} : PS X (.Expr (.Constant (.str x) j p) pos) (tIS g F W B b zNil) := ps_mono ps_doc fun D σ H ⟨μ, δ, S, A, h⟩ => h μ σ H A
theorem s_if {c : Expr} {st1 st2 : List Stmt} {tc : Tv} {z1 z2 : Sv} (hc : PT X c (tIT g F W tc)) (h1 : PSs X st1 (tIS g F W B b z1)) (h2 : PSs X st2 (tIS g F W B b z2)) : PS X (.If c st1 st2 pos) (tIS g F W B b (zIf tc z1 z2)) := by
  refine ps_mono (ps_if hc h1 h2) fun D σ H ⟨μ, δ, S, A, h⟩ => ⟨μ, δ, S, A.mok, A.rel, A.dok, stepS A h fun k S1 H1 s1 A1 q => ?_⟩
  cases k with
  | true => exact ⟨μ, δ, S1, A1, q⟩
  | false => exact ⟨μ, δ, S1, A1, q⟩
/-- the loop's own base: all but the lists of the frame's own -/
theorem At.loop {μ : Mk} {H : Hp} {σ : L2.St} {δ : Env} {S : DS} (A : At g B b μ H σ δ S) : At g (hid μ.o H) b μ H σ δ S :=
  ⟨A.mb, A.mok, Sub.of hid_sub, fun p o h1 h2 => (by rw [(hid_some h2).2] at h1; cases h1), A.rel, A.dok⟩
theorem At.unloop {μ μ0 : Mk} {H H0 : Hp} {σ σ0 : L2.St} {δ δ0 : Env} {S S0 : DS} (A0 : At g B b μ0 H0 σ0 δ0 S0) (A : At g (hid μ0.o H0) b μ H σ δ S) : At g B b μ H σ δ S := by
  have k : Sub B (hid μ0.o H0) := fun a o h st => by
    refine hid_of (A0.sub a o h st) ?_
    cases q : μ0.o a with
    | false => rfl
    | true => exact absurd st (A0.fr a o q h)
  exact ⟨A.mb, A.mok, k.trans A.sub, fun p o h1 h2 st => A.fr p o h1 (k p o h2 st) st, A.rel, A.dok⟩
theorem At.sees {μ μ0 : Mk} {H H0 : Hp} {σ : L2.St} {δ : Env} {S : DS} (hb : μ0.b = b) (A : At g (hid μ0.o H0) b μ H σ δ S) : Sub (hidM μ0 H0) (hidM μ H) := fun a o h st => by
  obtain ⟨h1, h2⟩ := hid_some h
  unfold Mk.all at h2
  rw [Bool.or_eq_false_iff] at h2
  have h3 : hid μ0.o H0 a = some o := hid_of h1 h2.2
  refine hid_of (A.sub a o h3 st) ?_
  unfold Mk.all
  rw [Bool.or_eq_false_iff]
  refine ⟨by rw [A.mb, ← hb]; exact h2.1, ?_⟩
  cases q : μ.o a with
  | false => rfl
  | true => exact absurd st (A.fr a o q h3)
theorem FinS.unloop {D : Ends} {μ0 : Mk} {H0 : Hp} {σ0 : L2.St} {δ0 : Env} {S0 : DS} {o : OutS} (A0 : At g B b μ0 H0 σ0 δ0 S0) (h : FinS g B b W D o) : FinS g (hid μ0.o H0) b W D o := by
  cases o with
  | no => exact h
  | nx δ S => exact fun μ σ H A => h μ σ H (A0.unloop A)
  | rt d S => exact fun v H s => h v H (by
      have k : Sub B (hid μ0.o H0) := fun a o h st => by
        refine hid_of (A0.sub a o h st) ?_
        cases q : μ0.o a with
        | false => rfl
        | true => exact absurd st (A0.fr a o q h)
      exact k.trans s)
  | ex x δ S => exact fun μ σ H c dd A => h μ σ H c dd (A0.unloop A)
/-- a block whatever it began with -/
def tISx (g : G) (F : Fns) (W : WX) (b : Addr → Bool) (ζ : Sv) : TS := fun D σ H => ∃ B, tIS g F W B b ζ D σ H
theorem ss_any {st : List Stmt} {z : Sv} (h : ∀ B, PSs X st (tIS g F W B b z)) : PSs X st (tISx g F W b z) := ⟨fun pins s σ H D I ⟨B, q⟩ => (h B).run pins s σ H D I q⟩
theorem s_for {iter : Expr} {body : List Stmt} {ι : Av} {tg : Tg} {zb : Sv} (hp : PassesOwn (model X.prog X.w) X.A X.env X.xe) (hc : X.calm = true) (hi : PI X tge iter (tII g F W ι)) (hg : PG X tge (gI g tg)) (hb : ∀ B, PSs X body (tIS g F W B b zb)) (hs : ∀ x, foldedSetIterable iter X.env x = pure x) :
    PS X (.For tge iter body [] pos) (tIS g F W B b (zFor ι tg zb)) := by
  refine ps_mono (ps_for hp hc hi hg (ss_any hb) hs) fun D σ H ⟨μ, δ, S, A, h⟩ => ⟨μ, δ, S, A.mok, A.rel, A.dok, stepS A h fun l S1 H1 s1 A1 q J hy => ?_⟩
  refine ⟨fun i m σc Hc => m = l.length - i ∧ i ≤ l.length ∧ ∃ μc δc Sc, At g (hid μ.o H1) b μc Hc σc δc Sc ∧ FinS g B b W D (forGo F tg zb (l.drop i) δc Sc), ⟨l.length, by omega, Nat.zero_le _, μ, δ, S1, A1.loop, q⟩, ?_⟩
  rintro i m σc Hc ⟨rfl, hi', μc, δc, Sc, Ac, qc⟩
  obtain ⟨y1, y2⟩ := hy i Hc μc (Ac.sees A1.mb) Ac.mok
  by_cases hlt : i < l.length
  · right
    rw [List.drop_eq_getElem_cons hlt] at qc
    obtain ⟨go, yl⟩ := y1 l[i] (List.getElem?_eq_getElem hlt)
    refine ⟨go, fun σ' H' => ∃ μc δc Sc, At g (hid μ.o H1) b μc H' σ' δc Sc ∧ FinS g B b W D (forGo F tg zb (l.drop (i + 1)) δc Sc), fun σ' H' hn => ⟨l.length - (i + 1), by omega, rfl, hlt, hn⟩, fun x H' hx => ?_⟩
    obtain ⟨sm, rx⟩ := yl x H' hx
    have s2 := Sub.of sm
    have A2 := Ac.step s2 (Ac.dok.same sm)
    unfold forGo at qc
    cases hbt : bindT tg l[i] δc with
    | none => rw [hbt] at qc; exact False.elim qc
    | some δ1 =>
      simp only [hbt] at qc
      refine ⟨μc, δc, l[i], δ1, A2.mok, A2.rel, rx, hbt, fun σ2 hr2 _ _ => ⟨hid μ.o H1, μc, δ1, Sc, At.bind (tg := tg) A2 hr2, ?_⟩⟩
      cases qb : zb F δ1 Sc with
      | no => simp only [qb] at qc; exact qc
      | nx δ2 S2 => simp only [qb] at qc; exact fun μ' σ' H' A' => ⟨μ', δ2, S2, A', qc⟩
      | rt d S2 => simp only [qb] at qc; exact (FinS.unloop A1 qc : FinS g (hid μ.o H1) b W D (.rt d S2))
      | ex x δ2 S2 => simp only [qb] at qc; exact (FinS.unloop A1 qc : FinS g (hid μ.o H1) b W D (.ex x δ2 S2))
  · left
    have hl : l.length ≤ i := by omega
    rw [List.drop_eq_nil_of_le hl] at qc
    exact ⟨y2 hl, qc μc σc Hc (A1.unloop Ac)⟩
theorem s_while {c : Expr} {body : List Stmt} {tc : Tv} {zb : Sv} {n : Nat} (hp : PassesOwn (model X.prog X.w) X.A X.env X.xe) (hc : PT X c (tIT g F W tc)) (hb : PSs X body (tIS g F W B b zb)) : PS X (.While c body [] pos) (tIS g F W B b (zWhile n tc zb)) := by
  refine ps_mono (ps_while hp hc hb) fun D σ H ⟨μ, δ, S, A, h⟩ => ?_
  refine ⟨fun m σ' H' => ∃ μ δ S, At g B b μ H' σ' δ S ∧ FinS g B b W D (whileGo F tc zb m δ S), ⟨n, μ, δ, S, A, h⟩, ?_⟩
  rintro m σ' H' ⟨μ, δ, S, A, h⟩
  cases m with
  | zero => exact False.elim h
  | succ m =>
    refine ⟨μ, δ, S, A.mok, A.rel, A.dok, stepS A h fun k S1 H1 s1 A1 q => ?_⟩
    cases k with
    | false => exact q μ σ' H1 A1
    | true =>
      refine ⟨fun σ2 H2 => ∃ μ δ S, At g B b μ H2 σ2 δ S ∧ FinS g B b W D (whileGo F tc zb m δ S), fun σ2 H2 hn => ⟨m, Nat.lt_succ_self m, hn⟩, μ, δ, S1, A1, ?_⟩
      have q : FinS g B b W D (match zb F δ S1 with | .nx δ2 S2 => whileGo F tc zb m δ2 S2 | o => o) := q
      cases qb : zb F δ S1 with
      | no => rw [qb] at q; exact q
      | nx δ2 S2 => rw [qb] at q; exact fun μ' σ' H' A' => ⟨μ', δ2, S2, A', q⟩
      | rt d S2 => rw [qb] at q; exact q
      | ex x δ2 S2 => rw [qb] at q; exact q
end
end Wm

namespace Wm
open PySem PySem.Spec PyProof.Rows L2

/-- where code stands: a def's body or a comprehension's block -/
structure Cok (X : Cx) (g : G) (N : List Str) (sc : Scope) (k : Nat) : Prop where
  prog : X.prog = g.P
  w : X.w = g.w
  K : X.K = g.K
  mg : X.mg = g.mg
  base : X.base = g.base
  hN : X.N = N
  sc : X.env.scope = sc
  nd : N.Nodup
  calm : X.calm = true
  room : Room k X.A
  gu : X.A.guards = some []
/-- .. a def's own body, what is raised taken by W -/
structure Dok (X : Cx) (W : WX) : Prop where
  fn : ∀ x, X.fn x = true
  po : PassesOwn (model X.prog X.w) X.A X.env X.xe
  tk : Takes X W
  stk : X.stack = X.env :: X.outer
  frame : X.env.frame = some X.env.locals
  ex : X.ex = []

/-! ### a def's body keeps the promise spI -/
def startE (n : Nat) (ds : List D) : Env := ds.map (fun d => some (.dat d)) ++ List.replicate (n - ds.length) none
def OutS.out : OutS → Out D
  | .no => .no
  | .nx _ S => .ok .non S
  | .rt d S => .ok d S
  | .ex x _ S => .ex x S
/-- what a def of np parameters and nN names computes -/
def fnD (F : Fns) (nN np : Nat) (ζ : Sv) : List D → M D := fun ds S => if ds.length = np then (ζ F (startE nN ds) S).out else .no
theorem rel_start {g : G} {m : Addr → Bool} {H : Hp} {ds : List D} {vs : List V} {N : List Str} (r : DtL g (hid m H) ds vs) (hl : ds.length ≤ N.length) : Rel g ⟨m, fun _ => false⟩ H (start N vs) (startE N.length ds) := by
  have ea : Mk.all ⟨m, fun _ => false⟩ = m := by funext a; simp [Mk.all]
  refine ⟨?_, fun i sl e => ?_, fun i j l l' v e => ?_⟩
  · unfold L2.start startE
    simp [r.length]
  · unfold startE at e
    by_cases hi : i < ds.length
    · rw [List.getElem?_append_left (by simpa using hi), List.getElem?_map, List.getElem?_eq_getElem hi] at e
      simp only [Option.map_some, Option.some.injEq] at e
      subst e
      obtain ⟨v, ev, rv⟩ := r.get (List.getElem?_eq_getElem hi)
      refine ⟨v, ?_, ?_⟩
      · unfold L2.start
        rw [List.getElem?_append_left (by simpa [r.length] using hi), List.getElem?_map, ev]
        rfl
      · show Dt g (hid (Mk.all ⟨m, fun _ => false⟩) H) _ v
        rw [ea]
        exact rv
    · rw [List.getElem?_append_right (by simpa using hi), List.getElem?_replicate] at e
      split at e <;> simp at e
  · unfold startE at e
    by_cases hi : i < ds.length
    · rw [List.getElem?_append_left (by simpa using hi), List.getElem?_map, List.getElem?_eq_getElem hi] at e
      simp at e
    · rw [List.getElem?_append_right (by simpa using hi), List.getElem?_replicate] at e
      split at e <;> simp at e
section
variable {P : Program} {w : World} {K : PySem.W.Frag} {mg : Str → Option Value} {base : Heap} {x qual : Str} {params : Arguments} {body : List Stmt} {scope : Scope} {dvs : List V} {kws : List (Str × V)} {f : Addr} {fd : FuncData}
/-- a def's promise where no guard stands, from its body -/
theorem okG {N ps : List Str} {k : Nat} {sp : Sp} (F : FunD K x qual params body scope dvs kws f fd) (S : FnScope N ps scope) (len : ∀ vs H Q E, sp vs H Q E → vs.length = ps.length)
    (hb : ∀ (cd : Value) (A : Around) (out : List PySem.Env) (s : Shared) (H : Hp) (vs : List V) (Q : VK) (E : XK), Room k (A.deeper (envOfC qual scope s.heap.objs.size f cd)) → A.guards = some [] → sp vs H Q E →
      ∃ t, PSs (cxOf (L2.CX P w) P w K mg base N qual scope f cd A out s H E) body t ∧ t { nx := fun _ H' => Q .non H', rt := Q } (start N vs) H) : FnG P w K mg base (k + 1) f fd ps sp := by
  obtain ⟨oc, od, dV, kV, doc, pm, an, cd, ct, osl, rfl, lk, hcd, _, _⟩ := F.ex
  refine ⟨len, fun A out s H ar us vs Q E hr hg e0 hbi rv hsp => ?_⟩
  have hin : K.In s.heap := e0.mod.kin.keeps fun b o e => (e0.bs b o e).1
  have hnl : s.heap.NoLimit := e0.mod.nolimit.keeps fun b o e => (e0.bs b o e).1
  refine codeAny_call_function hr.depth (hin _ _ lk) rfl S.co S.gen rfl (PySem.W.codeRec_of hin hcd) (hbi _ _ _ _ ?_)
  refine wpAny_newFunctionEnv_cells S.kind (fun y hy => ?_) fun env he s1 hx => ?_
  · obtain ⟨n, v⟩ := y
    rcases S.par n (List.of_mem_zip hy).1 with q | q
    · exact Or.inl q
    · exact Or.inr ⟨q, PySem.W.cellsFrom_some _ _ _ (Or.inl q)⟩
  · cases he
    refine ⟨hnl.keeps hx.toInCall.keep, codeAny_func ?_⟩
    obtain ⟨t, ht, hq⟩ := hb cd A out s H vs Q E (hr.deeper _) hg hsp
    have I := inv_start (CX := L2.CX P w) (E := E) S hr.hd e0 (len _ _ _ _ hsp) rv hx
    refine wpAny_mono (ht.run [] s1 (start N vs) H _ I hq) (fun fl s2 hs => ?_) fun _ _ z => z
    cases fl with
    | ret u =>
      obtain ⟨v, σ2, H2, J, ru, q⟩ := hs
      exact ⟨v, H2, J.os, J.bare, J.base, J.hok, ru, q⟩
    | next =>
      obtain ⟨σ2, H2, J, q⟩ := hs
      exact ⟨V.non, H2, J.os, J.bare, J.base, J.hok, rfl, q⟩
    | brk => obtain ⟨_, _, _, q⟩ := hs; exact q.elim
    | cont => obtain ⟨_, _, _, q⟩ := hs; exact q.elim
/-- the same by a run: the body is ζ -/
theorem fn_run {g : G} {N ps : List Str} {k : Nat} {Fs : Fns} {ζ : Sv} (F : FunD K x qual params body scope dvs kws f fd) (S : FnScope N ps scope)
    (hb : ∀ (X : Cx) (W : WX) (B : Hp) (b : Addr → Bool), Cok X ⟨P, w, K, mg, base⟩ N scope k → Dok X W → PSs X body (tIS g Fs W B b ζ)) : FnG P w K mg base (k + 1) f fd ps (spI g (fnD Fs N.length ps.length ζ)) := by
  have hpl : ps.length ≤ N.length := by
    have := congrArg List.length S.pre
    rw [List.length_take] at this
    omega
  refine okG F S (fun vs H Q E ⟨m, ds, S', _, _, r, h⟩ => ?_) fun cd A out s H vs Q E hr hg ⟨m, ds, S', hm, hd, r, h⟩ => ?_
  · unfold fnD at h
    split at h
    · rename_i hl
      rw [r.length]; exact hl
    · exact False.elim h
  · unfold fnD at h
    split at h
    · rename_i hl
      refine ⟨tIS g Fs (fun c d _ H' => E c d H') H m ζ, hb _ _ H m ⟨rfl, rfl, rfl, rfl, rfl, rfl, rfl, S.nd, rfl, hr, hg⟩ ⟨fun _ => rfl, PassesOwn.leaving, takes_of rfl rfl rfl rfl, rfl, rfl, rfl⟩, ⟨m, fun _ => false⟩, startE N.length ds, S', ⟨rfl, ?_, Sub.refl H, fun p o z => (by cases z), rel_start r (by omega), hd⟩, ?_⟩
      · intro a ha
        exact hm a (by simpa [Mk.all] using ha)
      · revert h
        cases ζ Fs (startE N.length ds) S' with
        | no => exact fun h => h
        | nx δ S2 => exact fun h μ σ H' A' => h H' A'.sub A'.dok .non rfl
        | rt d S2 => exact fun h v H' s' d' rv => h H' s' d' v rv
        | ex x δ S2 => exact fun h μ σ H' c dd A' xr => h H' A'.sub A'.dok c dd xr
    · exact False.elim h
end
end Wm

namespace Wm
open PySem PySem.Spec PyProof.Rows L2

/-! ### built-ins on data -/
def lenF : List D → Option D
  | [.str s] => if s.length ≤ 1000000 then some (.int s.length) else none
  | [.lst l] => some (.int l.length)
  | [.tup l] => some (.int l.length)
  | [.fro l] => some (.int l.length)
  | _ => none
def blsOf : List D → Option (List Bool)
  | [] => some []
  | .bl b :: ds => (blsOf ds).map (b :: ·)
  | _ => none
def intsOf : List D → Option (List Int)
  | [] => some []
  | .int i :: ds => (intsOf ds).map (i :: ·)
  | _ => none
def allF : List D → Option D
  | [.lst l] => (blsOf l).map fun bs => .bl (bs.all id)
  | _ => none
def anyF : List D → Option D
  | [.lst l] => (blsOf l).map fun bs => .bl (bs.any id)
  | _ => none
def sumF : List D → Option D
  | [.lst l] => (intsOf l).map fun ns => .int ns.sum
  | _ => none
def leastOf : List Int → Int
  | [] => 0
  | [a] => a
  | a :: b :: r => min a (leastOf (b :: r))
def greatestOf : List Int → Int
  | [] => 0
  | [a] => a
  | a :: b :: r => max a (greatestOf (b :: r))
def minF : List D → Option D
  | [.lst l] => (intsOf l).bind fun ns => if ns = [] then none else some (.int (leastOf ns))
  | [.int i, .int j] => some (.int (if j < i then j else i))
  | _ => none
def maxF : List D → Option D
  | [.lst l] => (intsOf l).bind fun ns => if ns = [] then none else some (.int (greatestOf ns))
  | [.int i, .int j] => some (.int (if j > i then j else i))
  | _ => none
def tupF : List D → Option D
  | [.lst l] => some (.tup l)
  | [.tup l] => some (.tup l)
  | _ => none
def lstF : List D → Option D
  | [.lst l] => some (.lst l)
  | [.tup l] => some (.lst l)
  | [.fro l] => some (.lst l)
  | _ => none
def intF : List D → Option D
  | [.int i] => some (.int i)
  | _ => none
section
variable {X : Cx} {g : G}
theorem DtVL.one {μ : Mk} {H : Hp} {d : D} {xs : List V} (h : DtVL g μ H [d] xs) : ∃ v, xs = [v] ∧ DtV g μ H d v := by
  obtain ⟨v, vs, rfl, r, e⟩ := h
  exact ⟨v, by rw [show vs = [] from e], r⟩
theorem DtVL.two {μ : Mk} {H : Hp} {d e : D} {xs : List V} (h : DtVL g μ H [d, e] xs) : ∃ v u, xs = [v, u] ∧ DtV g μ H d v ∧ DtV g μ H e u := by
  obtain ⟨v, vs, rfl, r, u, us, rfl, r2, e⟩ := h
  exact ⟨v, u, by rw [show us = [] from e], r, r2⟩
theorem DtV.fro {μ : Mk} {H : Hp} {l : List D} {v : V} (h : DtV g μ H (.fro l) v) : ∃ a xs, v = .ref a ∧ SqL g.K H a xs ∧ DtL g (hidM μ H) l xs := by
  rcases h with ⟨a, xs, h1, h2, h3⟩ | ⟨l, e, _⟩
  · exact ⟨a, xs, h1, sq_monoL (Sub.of hid_sub) h2, h3⟩
  · cases e
theorem DtL.bls {H : Hp} : ∀ {l : List D} {xs : List V} {bs : List Bool}, DtL g H l xs → blsOf l = some bs → xs = bs.map V.bl
  | [], xs, bs, h, e => by
    have e : some [] = some bs := e
    rw [← Option.some.inj e]; exact h
  | d :: ds, xs, bs, ⟨v, vs, e1, r1, r2⟩, e => by
    cases d with
    | bl b =>
      have e : (blsOf ds).map (b :: ·) = some bs := e
      rw [Option.map_eq_some_iff] at e
      obtain ⟨cs, e2, e3⟩ := e
      rw [e1, show v = .bl b from r1, DtL.bls r2 e2, ← e3]
      rfl
    | _ => exact absurd e (by simp [blsOf])
theorem DtL.ints {H : Hp} : ∀ {l : List D} {xs : List V} {bs : List Int}, DtL g H l xs → intsOf l = some bs → xs = bs.map V.int
  | [], xs, bs, h, e => by
    have e : some [] = some bs := e
    rw [← Option.some.inj e]; exact h
  | d :: ds, xs, bs, ⟨v, vs, e1, r1, r2⟩, e => by
    cases d with
    | int b =>
      have e : (intsOf ds).map (b :: ·) = some bs := e
      rw [Option.map_eq_some_iff] at e
      obtain ⟨cs, e2, e3⟩ := e
      rw [e1, show v = .int b from r1, DtL.ints r2 e2, ← e3]
      rfl
    | _ => exact absurd e (by simp [intsOf])
theorem least_is : ∀ {ns : List Int} {m : Int}, m ∈ ns → (∀ y, y ∈ ns → m ≤ y) → leastOf ns = m
  | [], _, h, _ => by cases h
  | [a], m, h, _ => by simp at h; exact h.symm
  | a :: b :: r, m, h, k => by
    show min a (leastOf (b :: r)) = m
    have mem : ∀ (l : List Int), l ≠ [] → leastOf l ∈ l ∧ ∀ y ∈ l, leastOf l ≤ y := by
      intro l
      induction l with
      | nil => intro z; exact absurd rfl z
      | cons c t ih =>
        intro _
        cases t with
        | nil => exact ⟨by simp [leastOf], fun y hy => by simp at hy; subst hy; exact Int.le_refl _⟩
        | cons d t =>
          obtain ⟨i1, i2⟩ := ih (by simp)
          show min c (leastOf (d :: t)) ∈ _ ∧ ∀ y ∈ _, min c (leastOf (d :: t)) ≤ y
          constructor
          · by_cases hc : c ≤ leastOf (d :: t)
            · rw [Int.min_eq_left hc]; exact List.mem_cons_self
            · rw [Int.min_eq_right (by omega)]; exact List.mem_cons_of_mem _ i1
          · intro y hy
            rcases List.mem_cons.mp hy with rfl | hy
            · exact Int.min_le_left _ _
            · exact Int.le_trans (Int.min_le_right _ _) (i2 y hy)
    obtain ⟨i1, i2⟩ := mem (a :: b :: r) (by simp)
    have e1 : leastOf (a :: b :: r) ≤ m := i2 m h
    have e2 : m ≤ leastOf (a :: b :: r) := k _ i1
    have e3 : leastOf (a :: b :: r) = min a (leastOf (b :: r)) := rfl
    omega
theorem greatest_is : ∀ {ns : List Int} {m : Int}, m ∈ ns → (∀ y, y ∈ ns → y ≤ m) → greatestOf ns = m
  | [], _, h, _ => by cases h
  | [a], m, h, _ => by simp at h; exact h.symm
  | a :: b :: r, m, h, k => by
    show max a (greatestOf (b :: r)) = m
    have mem : ∀ (l : List Int), l ≠ [] → greatestOf l ∈ l ∧ ∀ y ∈ l, y ≤ greatestOf l := by
      intro l
      induction l with
      | nil => intro z; exact absurd rfl z
      | cons c t ih =>
        intro _
        cases t with
        | nil => exact ⟨by simp [greatestOf], fun y hy => by simp at hy; subst hy; exact Int.le_refl _⟩
        | cons d t =>
          obtain ⟨i1, i2⟩ := ih (by simp)
          show max c (greatestOf (d :: t)) ∈ _ ∧ ∀ y ∈ _, y ≤ max c (greatestOf (d :: t))
          constructor
          · by_cases hc : c ≤ greatestOf (d :: t)
            · rw [Int.max_eq_right hc]; exact List.mem_cons_of_mem _ i1
            · rw [Int.max_eq_left (by omega)]; exact List.mem_cons_self
          · intro y hy
            rcases List.mem_cons.mp hy with rfl | hy
            · exact Int.le_max_left _ _
            · exact Int.le_trans (i2 y hy) (Int.le_max_right _ _)
    obtain ⟨i1, i2⟩ := mem (a :: b :: r) (by simp)
    have e1 : m ≤ greatestOf (a :: b :: r) := i2 m h
    have e2 : greatestOf (a :: b :: r) ≤ m := k _ i1
    have e3 : greatestOf (a :: b :: r) = max a (greatestOf (b :: r)) := rfl
    omega
theorem c_len (hK : X.K = g.K) : CallR X (.builtin "len") (bD g lenF) := by
  intro pins s σ H xs us Q I r ⟨μ, ds, d, hm, hx, hf, q⟩
  unfold lenF at hf
  split at hf
  · split at hf
    · rename_i z hz
      cases hf
      obtain ⟨v, rfl, rv⟩ := hx.one
      exact call_len pins s σ H _ us Q I r ⟨v, z.length, rfl, by rw [rv.str]; exact ⟨sz_mil hz, rfl⟩, q _ H (Same.refl H) rfl⟩
    · cases hf
  · cases hf
    obtain ⟨v, rfl, rv⟩ := hx.one
    obtain ⟨a, ys, rfl, h1, h2⟩ := rv.lst
    exact call_len pins s σ H _ us Q I r ⟨_, ys.length, rfl, .inl ⟨ys, .inl (.inl h1), rfl⟩, by rw [h2.length]; exact q _ H (Same.refl H) rfl⟩
  · cases hf
    obtain ⟨v, rfl, rv⟩ := hx.one
    obtain ⟨a, ys, rfl, h1, h2⟩ := rv.tup
    exact call_len pins s σ H _ us Q I r ⟨_, ys.length, rfl, .inr ⟨ys, by rw [hK]; exact h1, rfl⟩, by rw [h2.length]; exact q _ H (Same.refl H) rfl⟩
  · cases hf
    obtain ⟨v, rfl, rv⟩ := hx.one
    obtain ⟨a, ys, rfl, h1, h2⟩ := rv.fro
    exact call_len pins s σ H _ us Q I r ⟨_, ys.length, rfl, .inl ⟨ys, by rw [hK]; exact h1, rfl⟩, by rw [h2.length]; exact q _ H (Same.refl H) rfl⟩
  · cases hf
theorem c_all (hc : X.calm = true) : CallR X (.builtin "all") (bD g allF) := by
  intro pins s σ H xs us Q I r ⟨μ, ds, d, hm, hx, hf, q⟩
  unfold allF at hf
  split at hf
  · simp only [Option.map_eq_some_iff] at hf
    obtain ⟨bs, e, rfl⟩ := hf
    obtain ⟨v, rfl, rv⟩ := hx.one
    obtain ⟨a, ys, rfl, h1, h2⟩ := rv.lst
    have e2 := h2.bls e
    subst e2
    exact cr_all hc pins s σ H _ us Q I r ⟨a, bs, rfl, .inl (.inl h1), q _ H (Same.refl H) rfl⟩
  · cases hf
theorem c_any (hc : X.calm = true) : CallR X (.builtin "any") (bD g anyF) := by
  intro pins s σ H xs us Q I r ⟨μ, ds, d, hm, hx, hf, q⟩
  unfold anyF at hf
  split at hf
  · simp only [Option.map_eq_some_iff] at hf
    obtain ⟨bs, e, rfl⟩ := hf
    obtain ⟨v, rfl, rv⟩ := hx.one
    obtain ⟨a, ys, rfl, h1, h2⟩ := rv.lst
    have e2 := h2.bls e
    subst e2
    exact cr_any hc pins s σ H _ us Q I r ⟨a, bs, rfl, .inl (.inl h1), q _ H (Same.refl H) rfl⟩
  · cases hf
theorem c_sum (hc : X.calm = true) : CallR X (.builtin "sum") (bD g sumF) := by
  intro pins s σ H xs us Q I r ⟨μ, ds, d, hm, hx, hf, q⟩
  unfold sumF at hf
  split at hf
  · simp only [Option.map_eq_some_iff] at hf
    obtain ⟨bs, e, rfl⟩ := hf
    obtain ⟨v, rfl, rv⟩ := hx.one
    obtain ⟨a, ys, rfl, h1, h2⟩ := rv.lst
    have e2 := h2.ints e
    subst e2
    exact cr_sum hc pins s σ H _ us Q I r ⟨a, bs, rfl, .inl (.inl h1), q _ H (Same.refl H) rfl⟩
  · cases hf
theorem c_min (hc : X.calm = true) : CallR X (.builtin "min") (bD g minF) := by
  intro pins s σ H xs us Q I r ⟨μ, ds, d, hm, hx, hf, q⟩
  unfold minF at hf
  split at hf
  · simp only [Option.bind_eq_some_iff] at hf
    obtain ⟨bs, e, hf⟩ := hf
    split at hf
    · cases hf
    · rename_i hne
      cases hf
      obtain ⟨v, rfl, rv⟩ := hx.one
      obtain ⟨a, ys, rfl, h1, h2⟩ := rv.lst
      have e2 := h2.ints e
      subst e2
      exact cr_min hc pins s σ H _ us Q I r ⟨a, bs, rfl, .inl (.inl h1), List.length_pos_iff.mpr hne, fun m h3 h4 => by rw [← least_is h3 h4]; exact q _ H (Same.refl H) rfl⟩
  · cases hf
    obtain ⟨v, u, rfl, rv, ru⟩ := hx.two
    exact call_min2 hc pins s σ H _ us Q I r ⟨_, _, by rw [rv.int, ru.int], q _ H (Same.refl H) rfl⟩
  · cases hf
theorem c_max (hc : X.calm = true) : CallR X (.builtin "max") (bD g maxF) := by
  intro pins s σ H xs us Q I r ⟨μ, ds, d, hm, hx, hf, q⟩
  unfold maxF at hf
  split at hf
  · simp only [Option.bind_eq_some_iff] at hf
    obtain ⟨bs, e, hf⟩ := hf
    split at hf
    · cases hf
    · rename_i hne
      cases hf
      obtain ⟨v, rfl, rv⟩ := hx.one
      obtain ⟨a, ys, rfl, h1, h2⟩ := rv.lst
      have e2 := h2.ints e
      subst e2
      exact cr_max hc pins s σ H _ us Q I r ⟨a, bs, rfl, .inl (.inl h1), List.length_pos_iff.mpr hne, fun m h3 h4 => by rw [← greatest_is h3 h4]; exact q _ H (Same.refl H) rfl⟩
  · cases hf
    obtain ⟨v, u, rfl, rv, ru⟩ := hx.two
    exact call_max2 hc pins s σ H _ us Q I r ⟨_, _, by rw [rv.int, ru.int], q _ H (Same.refl H) rfl⟩
  · cases hf
theorem c_tuple (hK : X.K = g.K) : CallR X (.type "tuple") (bD g tupF) := by
  intro pins s σ H xs us Q I r ⟨μ, ds, d, hm, hx, hf, q⟩
  unfold tupF at hf
  split at hf
  · cases hf
    obtain ⟨v, rfl, rv⟩ := hx.one
    obtain ⟨a, ys, rfl, h1, h2⟩ := rv.lst
    exact call_tuple_of pins s σ H _ us Q I r ⟨a, ys, rfl, .inl ⟨.inl (.inl h1), fun p hp => q _ _ (Same.new hp) (dt_new_tup hm hp h2)⟩⟩
  · cases hf
    obtain ⟨v, rfl, rv⟩ := hx.one
    obtain ⟨a, ys, rfl, h1, h2⟩ := rv.tup
    rcases rv with rv | ⟨_, z, _⟩
    · exact call_tuple_of pins s σ H _ us Q I r ⟨a, ys, rfl, .inr ⟨by rw [hK]; exact h1, q _ H (Same.refl H) rv⟩⟩
    · cases z
  · cases hf
theorem c_list (hK : X.K = g.K) : CallR X (.type "list") (bD g lstF) := by
  intro pins s σ H xs us Q I r ⟨μ, ds, d, hm, hx, hf, q⟩
  unfold lstF at hf
  split at hf
  · cases hf
    obtain ⟨v, rfl, rv⟩ := hx.one
    obtain ⟨a, ys, rfl, h1, h2⟩ := rv.lst
    exact call_list_of pins s σ H _ us Q I r ⟨a, ys, rfl, .inl (.inl (.inl h1)), fun p hp => q _ _ (Same.new hp) (dt_new_lst hm hp h2)⟩
  · cases hf
    obtain ⟨v, rfl, rv⟩ := hx.one
    obtain ⟨a, ys, rfl, h1, h2⟩ := rv.tup
    exact call_list_of pins s σ H _ us Q I r ⟨a, ys, rfl, .inr (by rw [hK]; exact h1), fun p hp => q _ _ (Same.new hp) (dt_new_lst hm hp h2)⟩
  · cases hf
    obtain ⟨v, rfl, rv⟩ := hx.one
    obtain ⟨a, ys, rfl, h1, h2⟩ := rv.fro
    exact call_list_of pins s σ H _ us Q I r ⟨a, ys, rfl, .inl (by rw [hK]; exact h1), fun p hp => q _ _ (Same.new hp) (dt_new_lst hm hp h2)⟩
  · cases hf
theorem c_int : CallR X (.type "int") (bD g intF) := by
  intro pins s σ H xs us Q I r ⟨μ, ds, d, hm, hx, hf, q⟩
  unfold intF at hf
  split at hf
  · cases hf
    obtain ⟨v, rfl, rv⟩ := hx.one
    exact call_int1 pins s σ H _ us Q I r (.inl ⟨_, by rw [rv.int], q _ H (Same.refl H) rfl⟩)
  · cases hf
/-! ### subscripts -/
def ixD : D → D → Option D
  | .lst l, .int i => atI l i
  | .tup l, .int i => atI l i
  | .fro l, .int i => atI l i
  | .str s, .int i => if s.length ≤ 1000000 then (atI s.cps.toList i).map fun c => .str ⟨#[c]⟩ else none
  | _, _ => none
theorem DtL.atI {H : Hp} {l : List D} {xs : List V} {i : Int} {d : D} (h : DtL g H l xs) (e : L2.atI l i = some d) : ∃ v, L2.atI xs i = some v ∧ Dt g H d v := by
  unfold L2.atI at e ⊢
  rw [h.length]
  simp only [Option.bind_eq_some_iff] at e
  obtain ⟨j, e1, e2⟩ := e
  obtain ⟨v, ev, rv⟩ := h.get e2
  exact ⟨v, by rw [e1]; exact ev, rv⟩
theorem ix_D (hK : X.K = g.K) : IxR X (rD g ixD) := by
  intro value slice pins s σ H x y v u Q I rx ry ⟨μ, dx, dy, d, hm, hx, hy, hf, q⟩ hs
  unfold ixD at hf
  split at hf
  · obtain ⟨a, ys, rfl, h1, h2⟩ := hx.lst
    obtain ⟨w, ew, rw'⟩ := h2.atI hf
    exact ix_list value slice pins s σ H _ y v u Q I rx ry ⟨a, ys, _, w, rfl, hy.int, .inl (.inl h1), ew, q _ H (Same.refl H) rw'⟩ hs
  · obtain ⟨a, ys, rfl, h1, h2⟩ := hx.tup
    obtain ⟨w, ew, rw'⟩ := h2.atI hf
    exact ix_tup value slice pins s σ H _ y v u Q I rx ry ⟨a, ys, _, w, rfl, hy.int, by rw [hK]; exact h1, ew, q _ H (Same.refl H) rw'⟩ hs
  · obtain ⟨a, ys, rfl, h1, h2⟩ := hx.fro
    obtain ⟨w, ew, rw'⟩ := h2.atI hf
    exact ix_list value slice pins s σ H _ y v u Q I rx ry ⟨a, ys, _, w, rfl, hy.int, by rw [hK]; exact h1, ew, q _ H (Same.refl H) rw'⟩ hs
  · split at hf
    · rename_i hz
      simp only [Option.map_eq_some_iff] at hf
      obtain ⟨c, e, rfl⟩ := hf
      exact ix_str value slice pins s σ H x y v u Q I rx ry ⟨_, _, c, hx.str, hy.int, sz_mil hz, e, q _ H (Same.refl H) rfl⟩ hs
    · cases hf
  · cases hf
theorem se_ix {F : Fns} {W : WX} {a b : Expr} {pos : Pos} {ea eb : Ev} (hK : X.K = g.K) (ha : PE X a (tIV g F W ea)) (hb : PE X b (tIV g F W eb)) (hs : PlainIx b) : PE X (.Subscript a b pos) (tI g F W (eOp ixD ea eb)) := by
  refine pe_mono (pe_ix (ix_D hK) ha hb hs) fun σ H Q ⟨μ, δ, S, hm, hr, hd, h⟩ => ?_
  refine stepV hm hr hd h fun x H1 dx S1 s1 hm hr hd r1 h => stepV hm hr hd h fun y H2 dy S2 s2 hm hr hd r2 h => ?_
  obtain ⟨d, ef, h⟩ := fin_of h
  exact ⟨μ, dx, dy, d, hm, r1.mono s2, r2, ef, fun v H' sm r => h H' (Sub.of sm) (hd.same sm) v r⟩
/-! ### repr -/
/- data without lists, perhaps with empty dicts in it -/
mutual
def pyR : D → Option PyData
  | .non => some .none
  | .bl b => some (.bool b)
  | .int i => some (.int i)
  | .str s => some (.str s)
  | .tup l => (pyRL l).map .tuple
  | .dic ks vs => if ks.isEmpty && vs.isEmpty then some (.dict []) else none
  | .lst _ => none
  | .fro _ => none
  | .obj _ _ => none
  | .drw _ => none
  | .exc _ _ => none
  | .clo _ _ => none
def pyRL : List D → Option (List PyData)
  | [] => some []
  | d :: ds => (pyR d).bind fun x => (pyRL ds).map (x :: ·)
end
def showD (d : D) : Option PyData := (pyD d).or (pyR d)
def reprF : List D → Option D
  | [d] => (showD d).bind fun p => if p.showable = true ∧ p.shown.length ≤ 1000000 ∧ p.depth ≤ 60 then some (.str p.shown) else none
  | _ => none
mutual
theorem noDict : ∀ (d : D) (p : PyData), pyD d = some p → p.hasDict = false
  | .non, p, e => by cases e; rfl
  | .bl _, p, e => by cases e; rfl
  | .int _, p, e => by cases e; rfl
  | .str _, p, e => by cases e; rfl
  | .tup l, p, e => by
    simp only [pyD, Option.map_eq_some_iff] at e
    obtain ⟨ps, e1, rfl⟩ := e
    simpa [PyData.hasDict] using noDictL l ps e1
  | .lst l, p, e => by
    simp only [pyD, Option.map_eq_some_iff] at e
    obtain ⟨ps, e1, rfl⟩ := e
    simpa [PyData.hasDict] using noDictL l ps e1
  | .fro l, p, e => by
    simp only [pyD, Option.map_eq_some_iff] at e
    obtain ⟨ps, e1, rfl⟩ := e
    simpa [PyData.hasDict] using noDictL l ps e1
  | .dic _ _, _, e => by simp [pyD] at e
  | .obj _ _, _, e => by simp [pyD] at e
  | .drw _, _, e => by simp [pyD] at e
  | .exc _ _, _, e => by simp [pyD] at e
  | .clo _ _, _, e => by simp [pyD] at e
theorem noDictL : ∀ (l : List D) (ps : List PyData), pyL l = some ps → PyData.hasDictAll ps = false
  | [], ps, e => by cases e; rfl
  | d :: ds, ps, e => by
    simp only [pyL, Option.bind_eq_some_iff, Option.map_eq_some_iff] at e
    obtain ⟨p, e1, qs, e2, rfl⟩ := e
    simp [PyData.hasDictAll, noDict d p e1, noDictL ds qs e2]
end
section
variable {pins : List (Addr × Obj)} {σ : L2.St} {H : Hp} {s : Shared}
theorem dict_empty {a : Addr} (I : Inv X pins σ H s) (h : H a = some (.dK []) ∨ H a = some (.dT [])) : a ≠ sysModules ∧ Reads s.heap (.ref a) (.dict []) (a :: [] ++ []) := by
  rcases h with h | h
  · obtain ⟨_, h2, vs, kv, o, es, ep, e1, e2, e3, e4⟩ := (show ObjOk X.prog X.w H s.heap a (.dK []) from I.hok a _ h)
    cases kv
    refine ⟨beq_eq_false_iff_ne.mp h2, ?_⟩
    have z : es.toList = [] := by
      have q := e4.2.1
      generalize es.toList = L at q
      cases q
      rfl
    refine Reads.dict (kvs := []) e1 e2.1 e3 ?_ ?_ <;> (rw [z]; exact .nil)
  · obtain ⟨_, h2, xs, kv, o, es, ep, e1, e2, e3, e4, _⟩ := (show ObjOk X.prog X.w H s.heap a (.dT []) from I.hok a _ h)
    cases kv
    refine ⟨beq_eq_false_iff_ne.mp h2, ?_⟩
    have z : es.toList = [] := by simpa using e4
    refine Reads.dict (kvs := []) e1 e2.1 e3 ?_ ?_ <;> (rw [z]; exact .nil)
mutual
theorem readsR (hK : X.K = g.K) (I : Inv X pins σ H s) : ∀ (d : D) (v : V) (u : Value) (p : PyData), Dt g H d v → RelV v u → pyR d = some p → ∃ as, Reads s.heap u p as ∧ sysModules ∉ as
  | .non, v, u, p, h, r, e => by cases e; rw [show v = .non from h] at r; cases r; exact ⟨_, .none, by simp⟩
  | .bl b, v, u, p, h, r, e => by cases e; rw [show v = .bl b from h] at r; cases r; exact ⟨_, .bool b, by simp⟩
  | .int b, v, u, p, h, r, e => by cases e; rw [show v = .int b from h] at r; obtain ⟨t, rfl⟩ := r; exact ⟨_, .int b t, by simp⟩
  | .str b, v, u, p, h, r, e => by cases e; rw [show v = .str b from h] at r; obtain ⟨t, rfl⟩ := r; exact ⟨_, .str b t, by simp⟩
  | .tup l, v, u, p, ⟨a, xs, h1, h2, h3⟩, r, e => by
    simp only [pyR, Option.map_eq_some_iff] at e
    obtain ⟨ps, e1, rfl⟩ := e
    rw [h1] at r
    cases r
    obtain ⟨its, rv, ⟨o, e3, e4, n, e5⟩, _⟩ := I.tuple (show SqT X.K H a xs by rw [hK]; exact h2)
    obtain ⟨as, q1, q2⟩ := readsRL hK I l xs its ps h3 rv e1
    exact ⟨as, .tuple e3 e4 e5 (by simpa using q1), q2⟩
  | .dic ks vs, v, u, p, ⟨a, xs, ys, h1, h2, h3, h4⟩, r, e => by
    simp only [pyR] at e
    split at e
    · rename_i hc
      cases e
      rw [h1] at r
      cases r
      simp only [Bool.and_eq_true, List.isEmpty_iff] at hc
      obtain ⟨rfl, rfl⟩ := hc
      have ex : xs = [] := h2
      have ey : ys = [] := h3
      subst ex ey
      have hh : H a = some (.dK []) ∨ H a = some (.dT []) := by
        rcases h4 with ⟨kk, a1, a2, a3⟩ | ⟨kk, a1, a2, a3⟩
        · rw [List.map_eq_nil_iff.mp a1] at a3; exact .inl a3
        · rw [List.map_eq_nil_iff.mp a1] at a2; exact .inr a2
      obtain ⟨n, q⟩ := dict_empty I hh
      exact ⟨_, q, by simpa using fun z => n z.symm⟩
    · cases e
  | .lst _, _, _, _, _, _, e => by simp [pyR] at e
  | .fro _, _, _, _, _, _, e => by simp [pyR] at e
  | .obj _ _, _, _, _, _, _, e => by simp [pyR] at e
  | .drw _, _, _, _, _, _, e => by simp [pyR] at e
  | .exc _ _, _, _, _, _, _, e => by simp [pyR] at e
  | .clo _ _, _, _, _, _, _, e => by simp [pyR] at e
theorem readsRL (hK : X.K = g.K) (I : Inv X pins σ H s) : ∀ (l : List D) (xs : List V) (us : List Value) (ps : List PyData), DtL g H l xs → Vals xs us → pyRL l = some ps → ∃ as, ReadsAll s.heap us ps as ∧ sysModules ∉ as
  | [], xs, us, ps, h, r, e => by
    cases e
    rw [show xs = [] from h] at r
    cases r
    exact ⟨_, .nil, by simp⟩
  | d :: ds, xs, us, ps, ⟨v, vs, h1, h2, h3⟩, r, e => by
    simp only [pyRL, Option.bind_eq_some_iff, Option.map_eq_some_iff] at e
    obtain ⟨p, e1, qs, e2, rfl⟩ := e
    rw [h1] at r
    cases r with
    | cons r1 r2 =>
      obtain ⟨as, a1, a2⟩ := readsR hK I d v _ p h2 r1 e1
      obtain ⟨bs, b1, b2⟩ := readsRL hK I ds vs _ qs h3 r2 e2
      exact ⟨as ++ bs, .cons a1 b1, by simp [a2, b2]⟩
end
theorem c_repr (hK : X.K = g.K) (hg : X.A.guards = some []) (hu : X.A.units + 64 < cLine) : CallR X (.builtin "repr") (bD g reprF) := by
  intro pins s σ H xs us Q I r ⟨μ, ds, d, hm, hx, hf, q⟩
  unfold reprF at hf
  split at hf
  · rename_i d1
    simp only [Option.bind_eq_some_iff] at hf
    obtain ⟨p, ep, hf⟩ := hf
    split at hf
    · rename_i hc
      cases hf
      obtain ⟨v, rfl, rv⟩ := hx.one
      obtain ⟨u, rfl, ru⟩ := vals1 r
      have q := q (.str p.shown) H (Same.refl H) rfl
      have key : ∃ as, Reads s.heap u p as ∧ (p.hasDict = true → sysModules ∉ as) := by
        unfold showD at ep
        cases e1 : pyD d1 with
        | some p' =>
          rw [e1] at ep
          cases ep
          obtain ⟨as, ra⟩ := Dp.reads I p v u (by rw [hK]; exact rv.dp e1) ru
          exact ⟨as, ra, fun z => by rw [noDict d1 p e1] at z; cases z⟩
        | none =>
          rw [e1] at ep
          have ep : pyR d1 = some p := ep
          rcases rv with rv | ⟨l, rfl, _⟩
          · obtain ⟨as, a1, a2⟩ := readsR hK I d1 v u p (Dt.mono (Sub.of hid_sub) _ _ rv) ru ep
            exact ⟨as, a1, fun _ => a2⟩
          · simp [pyR] at ep
      obtain ⟨as, ra, hs⟩ := key
      cases ra with
      | none => exact PySem.P.repr_of_none ⟨.str _, H, I.tok _, ⟨_, rfl⟩, q⟩
      | bool b => exact PySem.P.repr_of_bool ⟨.str _, H, I.tok _, ⟨_, rfl⟩, q⟩
      | int i t => exact PySem.P.repr_of_int (by simpa [PyData.showable] using hc.1) ⟨.str _, H, I.tok _, ⟨_, rfl⟩, q⟩
      | str x t => exact PySem.P.repr_of_str ⟨.str _, H, I.tok _, ⟨_, rfl⟩, q⟩ (sz_mil hc.2.1)
      | list h1 h2 h3 h4 => exact repr_of_reads' (.list h1 h2 h3 h4) hc.1 hs hg (by omega) (fun _ _ e => e) (fun h' u tk hk => ⟨.str _, H, I.kept hk, ⟨_, rfl⟩, q⟩) (sz_mil hc.2.1)
      | tuple h1 h2 h3 h4 => exact repr_of_reads' (.tuple h1 h2 h3 h4) hc.1 hs hg (by omega) (fun _ _ e => e) (fun h' u tk hk => ⟨.str _, H, I.kept hk, ⟨_, rfl⟩, q⟩) (sz_mil hc.2.1)
      | dict h1 h2 h3 h4 h5 => exact repr_of_reads' (.dict h1 h2 h3 h4 h5) hc.1 hs hg (by omega) (fun _ _ e => e) (fun h' u tk hk => ⟨.str _, H, I.kept hk, ⟨_, rfl⟩, q⟩) (sz_mil hc.2.1)
    · cases hf
  · cases hf
end
end
end Wm

namespace Wm
open PySem PySem.W PySem.Calls PyProof.Rows

/-! ### the text of an own error's __init__ -/
def eiA (f : Str) (p1 p2 : Pos) : Arguments := { posonlyargs := [], args := [⟨"self", none, p1⟩, ⟨f, none, p2⟩], vararg := none, kwonlyargs := [], kw_defaults := [], kwarg := none, defaults := [] }
def eiB (f msg : Str) (r1 r2 r3 r4 r5 r6 q1 q2 q3 q4 : Pos) : List Stmt :=
  [.Expr (.Call (.Attribute (.Call (.Name "super" r1) [] [] r2) "__init__" r3) [.Constant (.str msg) 0 r4] [] r5) r6,
   .Assign [.Attribute (.Name "self" q1) f q2] (.Name f q3) q4]
def eiS (f : Str) : Scope := { kind := .function, names := [(PySem.Str.ofString "self", .local), (f, .local), (PySem.Str.ofString "__class__", .free), (PySem.Str.ofString "super", .globalImplicit)], isGenerator := false, isCoroutine := false, more := [] }
/-- what the written part says of an own error's class at C and of its __init__ at fI; over the built-in B -/
structure ErrTxt (P : Program) (K : Frag) (C fI : Addr) (f : Str) (B newId i : String) (bmB : List Value) : Prop where
  base : ExcBaseFacts B newId i bmB
  kxs : KxsFacts B i
  st : StoreFacts B bmB "object.__setattr__" "object"
  fis : f = "value" ∨ f = "place" ∨ f = "line" ∨ f = "most"
  ini : findIn K (.ref C) "__init__" = some (some (.ref fI))
  cls : excInitIn K C bmB newId = true
  isF : isFn K (.ref fI) = true
  mro : mroIn K C (.ref C) = some true
  cd : ∃ cdD, clsIn K C = some cdD
  sup : nsIn K mainGlobals "super" = some none
  top : (P.main.scope.names.lookup ("super" : Str)).isSome = false
  opq : nsIn K cStatics "thirdparty.any" = some none
  sin : ks_superIn K C C "__init__" = some (some (.builtin i))
  sub : subIn K (.ref C) (.type B) = some true
  sa : findIn K (.ref C) "__setattr__" = some (some (.builtin "object.__setattr__"))
  ga : findIn K (.ref C) "__getattribute__" = some (some (.builtin "BaseException.__getattribute__"))
  gg : findIn K (.ref C) "__getattr__" = some none
  over : excOver K C bmB = true
  noN : findIn K (.ref C) f = some none
  hd : hasDictIn K C = true
  exC : subIn K (.ref C) (.type "BaseException") = some true
  tyC : typeIn K (.ref C) = some (.type "type")
  kC : keepIn K (.ref C) = true
  fn : ∃ (qual msg : Str) (oc : Value) (od : Option Addr) (doc pm : Value) (an : Option Addr) (ct : Value) (osl : Array (Option Value)) (p1 p2 r1 r2 r3 r4 r5 r6 q1 q2 q3 q4 : Pos) (cda cc : Addr) (ccl cl : Value) (cdd cld : Option Addr) (ccs csl : Array (Option Value)) (vs : Array Value) (file : Str) (tf : Tok),
    K.lookup fI = some ⟨oc, od, .func (ksFn "__init__" qual (eiA f p1 p2) (eiB f msg r1 r2 r3 r4 r5 r6 q1 q2 q3 q4) (eiS f) .none .none doc pm an (.ref cda) ct cc), osl⟩ ∧ codeIn K (.ref cda) qual = true ∧
    K.lookup cda = some ⟨ccl, cdd, .fields vs, ccs⟩ ∧ vs[2]? = some (.str file tf) ∧ ((P.main.file : Str) == file) = true ∧ K.lookup cc = some ⟨cl, cld, .cell (some (.ref C)), csl⟩ ∧ (r3.endLine == r5.line) = true
theorem ErrTxt.fne {P : Program} {K : Frag} {C fI : Addr} {f : Str} {B newId i : String} {bmB : List Value} (T : ErrTxt P K C fI f B newId i bmB) : f ≠ "self" ∧ f ≠ "super" ∧ f ≠ "__class__" ∧ f ≠ "__debug__" := by
  rcases T.fis with rfl | rfl | rfl | rfl <;> decide
/-- what a made error leaves -/
structure ErrMade (h h' : Heap) (e C d : Addr) (f : Str) (v : Value) : Prop where
  keep : ∀ b o, h.get? b = some o → h'.get? b = some o
  new : h.objs.size ≤ e
  obj : ∃ t, h'.get? e = some (excObj C t (some d) .none)
  dbig : h.objs.size ≤ d
  dne : d ≠ e
  ns : h'.Ns1 d (fun y => if y = f then some v else none)
theorem ns1_one {h : Heap} {d : Addr} {f : Str} {hs : Int} {tk : Tok} {v : Value} {n : Nat} (e : h.get? d = some (dictOf [⟨hs, .str f tk, v⟩] n)) : h.Ns1 d (fun y => if y = f then some v else none) := by
  refine ⟨_, _, n, e, rfl, ?_, ?_, ?_⟩
  · intro b hb
    simp at hb
    subst hb
    exact ⟨f, tk, rfl⟩
  · unfold UniqKeys
    simp
  · intro name
    unfold nsFind findBy
    simp [Value.isStr]
    by_cases q : name = f
    · subst q; simp
    · have q' : ¬ f = name := fun z => q z.symm
      simp [q, q']
section
variable {P : Program} {w : World} {A : Around} {E : Value → Shared → Prop} {K : Frag} {C fI : Addr} {f : Str} {B newId i : String} {bmB : List Value} {mg : Str → Option Value}
theorem err_node {s : Shared} {h₀ : Heap} {L cc cda x : Addr} {m : Str → Option Value} {news : List (Addr × Obj)} {ox : Obj} {odx : Option Obj} {q attr : Str} {scope : Scope} {body : List Stmt} {p0 p1 : Pos} {fd : FuncData} {ar : Arg} {vs : Array Value} {file : Str} {tf : Tok} {oc ccl cl : Value} {od cdd cld : Option Addr} {osl ccs csl : Array (Option Value)} {cdD : ClassData} {whole : Sem Value} {Q : Value → Shared → Prop}
    (Fr' : Fr h₀ L s.heap m) (X₀ : K.In h₀) (N : News h₀ L s.heap news) (Md : L2.Mod K mg h₀)
    (hf : K.lookup fI = some ⟨oc, od, .func fd, osl⟩) (hp : (fd.params.posonlyargs ++ fd.params.args).head? = some ar) (hv : m ar.arg = some (.ref x)) (I : InstAt s.heap x ox C odx)
    (hcode : K.lookup cda = some ⟨ccl, cdd, .fields vs, ccs⟩) (hvs : vs[2]? = some (.str file tf)) (hfile : ((P.main.file : Str) == file) = true)
    (hcell : K.lookup cc = some ⟨cl, cld, .cell (some (.ref C)), csl⟩) (hD : clsIn K C = some cdD) (hsub : mroIn K C (.ref C) = some true) (hsuper : nsIn K mainGlobals "super" = some none)
    (hat : (attr == ("__class__" : Str)) = false) (hks : scope.names.lookup ("super" : Str) = some .globalImplicit) (hkc : scope.names.lookup ("__class__" : Str) = some .free) (hka : scope.names.lookup ar.arg = some .local) (hk : scope.kind = .function)
    (htop : (P.main.scope.names.lookup ("super" : Str)).isSome = false)
    (h : ∀ so h', Fr h₀ L h' m → News h₀ L h' ((so, ks_superObj C x C) :: news) → (∀ p ∈ news, p.1 < so) → Q (.ref so) { s with heap := h' }) :
    _root_.PySem.wpAt (model P w) A (.func body (ksEnv q scope L fI (.ref cda) cc)) (attributeBase (.Call (.Name "super" p0) [] [] p1) attr (ksEnv q scope L fI (.ref cda) cc) whole) Q E s := by
  have Xh : K.In s.heap := X₀.keeps Fr'.keep
  obtain ⟨mb, hb, hbb⟩ := Md.blt
  obtain ⟨hh, g, d, t, os⟩ := s
  have hDo : ∃ oD, hh.get? C = some oD ∧ oD.data = .cls cdD := by
    unfold clsIn at hD
    split at hD
    · rename_i ho
      cases hD
      exact ⟨_, Xh _ _ ho, rfl⟩
    · cases hD
  obtain ⟨oD, hD1, hD2⟩ := hDo
  refine ks_wpAt_super_base (env := ksEnv q scope L fI (.ref cda) cc) hks hkc hat rfl (Xh _ _ hf) rfl hp rfl (Xh _ _ hcode) rfl hvs hfile htop ?_
  refine ks_loadName_global hk hks (loadGlobal_builtin (env := ksEnv q scope L fI (.ref cda) cc) (hg := Md.glob.keeps Fr'.keep) (hmiss := mg_none_of X₀ Md.glob hsuper) (hb := hb.keeps Fr'.keep) (hv := (hbb _ (by decide +kernel)).trans (by decide +kernel)) ⟨rfl, ?_⟩)
  refine wpAny_loadName_free hk hkc rfl ⟨_, Xh _ _ hcell, rfl⟩ ?_
  refine wpAny_loadName_local hk hka Fr'.ns hv ?_
  refine ks_wpAny_isType_cls hD1 hD2 ⟨rfl, ?_⟩
  refine ks_wpAny_call_super hD1 hD2 I.at_ I.cls (fun c e => ?_) (looks_mroIn Xh hsub) (fun h' e k => ?_)
  · have z := I.no
    unfold notCls at z
    rw [e] at z
    cases z
  · obtain ⟨F1, N1, l1⟩ := ks_newsPush (s := ⟨hh, g, d, t, os⟩) Fr' N rfl e k
    exact h _ _ F1 N1 l1

theorem look2 {f : Str} (h : f ≠ "self") (a b : Value) : ([(("self" : Str), a), (f, b)].reverse.lookup f = some b) ∧ ([(("self" : Str), a), (f, b)].reverse.lookup ("self" : Str) = some a) := by
  have q : (("self" : Str) == f) = false := by simp; exact fun z => h z.symm
  constructor
  · simp [List.lookup]
  · simp [List.lookup, q]
theorem scope_f {f : Str} (n1 : f ≠ "self") : (eiS f).names.lookup f = some .local := by
  have q : (f == ("self" : Str)) = false := by simpa using n1
  unfold eiS
  simp [List.lookup, q]
theorem scope_sup {f : Str} (n2 : f ≠ "super") : (eiS f).names.lookup ("super" : Str) = some .globalImplicit := by
  have q : (("super" : Str) == f) = false := by simp; exact fun z => n2 z.symm
  have q1 : (("super" : Str) == ("self" : Str)) = false := by decide
  have q2 : (("super" : Str) == ("__class__" : Str)) = false := by decide
  unfold eiS
  simp [List.lookup, q, q1, q2]
theorem scope_cls {f : Str} (n2 : f ≠ "__class__") : (eiS f).names.lookup ("__class__" : Str) = some .free := by
  have q : (("__class__" : Str) == f) = false := by simp; exact fun z => n2 z.symm
  have q1 : (("__class__" : Str) == ("self" : Str)) = false := by decide
  unfold eiS
  simp [List.lookup, q, q1]
theorem scope_self {f : Str} : (eiS f).names.lookup ("self" : Str) = some .local := by
  unfold eiS
  simp [List.lookup]
theorem eval_methS {o : Expr} {m : Str} {args : List Expr} {env : PySem.Env} {apos pos : Pos} (hs : (backTo pos (starEach args env)).all (!·.1) = true) (hl : args.length < 30) (hp : (apos.endLine == pos.line) = true) :
    eval (.Call (.Attribute o m apos) args [] pos) env = (do
      let ov ← attributeBase o m env (eval o env)
      standAt apos.atName
      let (f, first) ← holding [ov] (getMethod ov m (do return (← importBound o env).getD true))
      callWith pos f first (backTo pos (starEach args env)) []) := by
  rw [eval]
  have hf : methodCallForm (args.length + ([] : List Keyword).length) (backTo pos (starEach args env)) (backToKw pos (keywordEach [] env)) = true := by
    unfold methodCallForm
    have e : keywordEach [] env = [] := by first | rfl | rw [keywordEach]
    rw [hs, e]
    simp [backToKw]
    exact hl
  unfold methodCall
  rw [hf]
  unfold calleeOf methodCallPos
  simp only [hp, Bool.not_true, Bool.false_or, if_true]
  have e : backToKw pos (keywordEach [] env) = [] := by first | rfl | rw [keywordEach]
  rfl
theorem one_fit (v : Value) : [v].length ≤ sizeLine := by
  rw [sizeLine_eq]
  show 1 ≤ 16777216
  decide
theorem taker_none {K : Frag} {C : Addr} {f : Str} (h : findIn K (.ref C) f = some none) : takerIn K C f = some none := by
  unfold takerIn
  rw [h]
  rfl
/-- __init__ entered with the error at x (its args at t0), the value v -/
theorem err_init (T : ErrTxt P K C fI f B newId i bmB) {s : Shared} {h₀ : Heap} {x t0 : Addr} {v : Value} {ar : Args} {R : Result → Shared → Prop} (Md : L2.Mod K mg h₀) (k₀ : ∀ b o, h₀.get? b = some o → s.heap.get? b = some o) (z₀ : h₀.objs.size ≤ s.heap.objs.size) (hlim : s.heap.NoLimit)
    (hx : s.heap.get? x = some (excObj C t0 none .none)) (nx : h₀.get? x = none) (bx : h₀.objs.size ≤ x) (hroom : A.depth < recursionLimit)
    (hbind : ∀ fd : FuncData, (∃ p1 p2, fd.params = eiA f p1 p2) → fd.defaults = .none → fd.kwdefaults = .none → BindsTo s fd ar [("self", .ref x), (f, v)])
    (hq : ∀ h' tk dx, ErrMade h₀ h' x C dx f v → R (.ok (.ret .none)) { s with heap := h', toks := tk }) :
    codeAny (model P w) A (.call (.ref fI) ar) R s := by
  obtain ⟨qual, msg, oc, od, doc, pm, an, ct, osl, p1, p2, r1, r2, r3, r4, r5, r6, q1, q2, q3, q4, cda, cc, ccl, cl, cdd, cld, ccs, csl, vs, file, tf, ho, hcd, hcode, hvs, hfile, hcell, hpos⟩ := T.fn
  obtain ⟨n1, n2, n3, n4⟩ := T.fne
  obtain ⟨cdD, hD⟩ := T.cd
  have X₀ : K.In h₀ := Md.kin
  have Xs : K.In s.heap := X₀.keeps k₀
  refine ks_codeAny_call_defAt (fd := ksFn "__init__" qual (eiA f p1 p2) (eiB f msg r1 r2 r3 r4 r5 r6 q1 q2 q3 q4) (eiS f) .none .none doc pm an (.ref cda) ct cc) (binds := [("self", .ref x), (f, v)]) hroom (Xs _ _ ho) rfl hlim (codeRec_of Xs hcd) rfl (hbind _ ⟨p1, p2, rfl⟩ rfl rfl) (by
    intro y hy
    simp only [fnX, eiS, List.mem_cons, List.not_mem_nil, or_false] at hy
    rcases hy with rfl | rfl | rfl | rfl <;> simp) (by
    intro y hy
    simp only [List.mem_cons, List.not_mem_nil, or_false] at hy
    rcases hy with rfl | rfl
    · exact scope_self
    · exact scope_f n1) (fun h₁ hns k₁ => ?_)
  have F0 : Fr h₀ s.heap.objs.size h₁ (fun y => [(("self" : Str), .ref x), (f, v)].reverse.lookup y) := ⟨hns, fun b o e => k₁ b o (k₀ b o e), z₀⟩
  have xL : x ≠ s.heap.objs.size := Nat.ne_of_lt (Heap.lt_size hx)
  have N0 : News h₀ s.heap.objs.size h₁ [(x, excObj C t0 none .none)] := fun p hp => by
    simp only [List.mem_cons, List.not_mem_nil, or_false] at hp
    subst hp
    exact ⟨k₁ _ _ hx, xL, nx⟩
  have lf := look2 n1 (.ref x) v
  refine ks_wpAt_execs_cons (ks_wpAt_Expr_any (ks_wpAt_MethodCall (pl := (do return (← importBound _ _).getD true)) ?_ (eval_methS rfl (show (1 : Nat) < 30 by decide) hpos)) (by first | rfl | with_unfolding_all rfl) (by first | rfl | with_unfolding_all rfl))
  refine err_node (ar := ⟨"self", none, p1⟩) F0 X₀ N0 Md ho rfl lf.2 (InstAt.of_exc0 (t := t0) (c2 := .none) N0 List.mem_cons_self) hcode hvs hfile hcell hD T.mro T.sup (by decide) (scope_sup n2) (scope_cls n3) scope_self rfl T.top fun so h2 F2 N2 l2 => ?_
  have I2 := InstAt.of_exc0 N2 (x := x) (C := C) (t := t0) (c2 := .none) (List.mem_cons_of_mem _ List.mem_cons_self)
  refine kxs_method T.kxs F2 X₀ N2 List.mem_cons_self I2 T.opq T.sin T.sub (by decide) fun u h3 F3 N3 l3 => ?_
  refine kxs_callWith1 (u := u) (i := i) (x := x) N3 List.mem_cons_self ?_ (by first | rfl | with_unfolding_all rfl) (by first | rfl | with_unfolding_all rfl)
  show wpAny _ _ (spliced [(false, eval (.Constant (.str msg) 0 r4) _)]) _ _ _
  refine spliced_cons (wpAny_Constant_str (spliced_nil ⟨(N3 _ List.mem_cons_self).1, ?_⟩))
  have ux : u ≠ x := fun z => by
    have q := l3 (x, excObj C t0 none .none) (List.mem_cons_of_mem _ List.mem_cons_self)
    rw [z] at q
    exact absurd q (Nat.lt_irrefl _)
  have sx : so ≠ x := fun z => by
    have q := l2 (x, excObj C t0 none .none) List.mem_cons_self
    rw [z] at q
    exact absurd q (Nat.lt_irrefl _)
  have U : UpdF x (excObj C t0 none .none) [(u, kxs_mw i x), (so, ks_superObj C x C), (x, excObj C t0 none .none)] (fun o' => [(u, kxs_mw i x), (so, ks_superObj C x C), (x, o')]) :=
    .tail ux (.tail sx (.head fun p hp => by cases hp))
  refine kxs_call F3 X₀ N3 T.base T.cls List.mem_cons_self U (one_fit _) fun t1 h4 F4 N4 l4 => ?_
  have tx : t1 ≠ x := fun z => by
    have q := l4 (x, excObj C t0 none .none) (List.mem_cons_of_mem _ (List.mem_cons_of_mem _ List.mem_cons_self))
    rw [z] at q
    exact absurd q (Nat.lt_irrefl _)
  have U4 : ∀ ot : Obj, UpdF x (excObj C t1 none .none) ((t1, ot) :: [(u, kxs_mw i x), (so, ks_superObj C x C), (x, excObj C t1 none .none)]) (fun o' => (t1, ot) :: [(u, kxs_mw i x), (so, ks_superObj C x C), (x, o')]) :=
    fun ot => .tail tx (.tail ux (.tail sx (.head fun p hp => by cases hp)))
  show _root_.PySem.wpAt _ _ _ (execs _ _) _ _ _
  refine ks_wpAt_execs_cons (ks_wpAt_Assign_Attr ?_ (by first | rfl | with_unfolding_all rfl))
  refine wpAt_of_wpAny (wpAny_Name (wpAny_loadName_local rfl (scope_f n1) F4.ns lf.1 ?_) (by simpa using n4))
  refine wpAny_Name (wpAny_loadName_local rfl scope_self F4.ns lf.2 ?_) (by decide)
  have mx : ∀ ot : Obj, (x, excObj C t1 none .none) ∈ ((t1, ot) :: [(u, kxs_mw i x), (so, ks_superObj C x C), (x, excObj C t1 none .none)] : List (Addr × Obj)) := fun ot => List.mem_cons_of_mem _ (List.mem_cons_of_mem _ (List.mem_cons_of_mem _ List.mem_cons_self))
  refine set_exc0 T.st F4 X₀ N4 (mx _) T.sa T.over (taker_none T.noN) T.hd (es' := [_]) rfl (U4 _) (by simp) fun dx h5 F5 N5 l5 => ?_
  show _root_.PySem.wpAt _ _ _ (execs _ _) _ _ _
  refine wpAt_of_wpAny (wpAny_execs_nil ?_)
  have gx := (N5 _ (List.mem_cons_of_mem _ (List.mem_cons_of_mem _ (List.mem_cons_of_mem _ (List.mem_cons_of_mem _ List.mem_cons_self))))).1
  have gd := (N5 _ List.mem_cons_self).1
  have xd : x < dx := l5 _ (mx _)
  exact hq h5 _ dx ⟨F5.keep, bx, ⟨t1, gx⟩, Nat.le_trans bx (Nat.le_of_lt xd), Nat.ne_of_gt xd, ns1_one gd⟩
end
end Wm

namespace Wm
open PySem PySem.W PySem.Calls PyProof.Rows
/-! ### an own error's class called, with names too -/
section
variable {M : Model} {P : Program} {w : World} {A : Around} {E : Value → Shared → Prop} {R : Result → Shared → Prop} {hp : Heap} {g : Array GenState} {dr : Drawn} {tk : Nat} {os : OsState}
variable {nm q : Str} {C N : Addr} {bs bm bmB : List Value} {hdct : Bool} {sn : List Str} {sub : List Value} {ab : Bool} {col : Option Bool} {dd : Option Addr} {k0 k1 k2 k3 k5 : Option Value} {B newId initId : String} {rest : List Value} {kw : List (Str × Value)}
theorem kw_new_check (FB : ExcBaseFacts B newId initId bmB) (hT : ∀ X : String, bm.contains (.type X) = bmB.contains (.type X)) {Q : Unit → Shared → Prop}
    (cO : hp.get? C = some (excClassObj nm q C N bs bm hdct sn sub ab col dd k0 k1 k2 k3 k5 newId)) (h : Q () ⟨hp, g, dr, tk, os⟩) : wpAny M A (checkBuiltinCall newId ⟨.ref C :: rest, kw⟩) Q E ⟨hp, g, dr, tk, os⟩ := by
  have cB : (Value.ref C :: bm).contains (.type B) = true := by rw [List.contains_cons, hT, FB.hasB, Bool.or_true]
  have st := FB.noStar
  simp only [checkBuiltinCall, FB.newKind, FB.newSplit, FB.newRow]
  repeat (first | refine wpAny_loadPart_at cO ?_ | (refine wpAny_isSubtype_exc cO ?_; rw [cB]) | refine wpAny_staticBase_exc cO ?_ | refine wpAny_madeBy_exc cO ?_ | simp only [bne_self_eq_false, Bool.false_eq_true, if_false] | wp_step)
  exact h
theorem kw_new (FB : ExcBaseFacts B newId initId bmB) (hT : ∀ X : String, bm.contains (.type X) = bmB.contains (.type X))
    (cO : hp.get? C = some (excClassObj nm q C N bs bm hdct sn sub ab col dd k0 k1 k2 k3 k5 newId)) (hz : rest.length ≤ sizeLine)
    (h : R (.ok (.ret (.ref (hp.objs.size + 1)))) ⟨(hp.push (excTup rest)).push (excObj C hp.objs.size none .none), g, dr, tk, os⟩) :
    codeAny (model P w) A (.builtin newId ⟨.ref C :: rest, kw⟩) R ⟨hp, g, dr, tk, os⟩ := by
  have he := FB.ends
  have cB : (Value.ref C :: bm).contains (.type B) = true := by rw [List.contains_cons, hT, FB.hasB, Bool.or_true]
  have cA : (Value.ref C :: bm).contains (.type "AttributeError") = false := by rw [List.contains_cons, hT, FB.noAttr]; rfl
  have cN : (Value.ref C :: bm).contains (.type "NameError") = false := by rw [List.contains_cons, hT, FB.noName]; rfl
  refine codeAny_builtinAt FB.entry ?_
  unfold Builtin.«BaseException.__new__»
  refine _root_.PySem.wpAt_bind ?_
  show _root_.PySem.wpAt _ _ _ (stack >>= _) _ _ _
  refine _root_.PySem.wpAt_bind (_root_.PySem.wpAt_stack fun p below => _root_.PySem.wpAt_of_wpAny ?_)
  wp_walk
  refine _root_.PySem.wpAt_of_wpAny ?_
  rw [FB.owner]
  skip
  repeat (first | with_reducible refine wpAny_madeHere_exc FB.canon cO ?_ | with_reducible refine wpAny_loadPart_at cO ?_ | (with_reducible refine wpAny_isSubtype_exc cO ?_; first | rw [cB] | rw [cA] | rw [cN]) | wp_step)
  show R _ _
  rw [Heap.size_push]
  exact h
theorem kw_type (FB : ExcBaseFacts B newId initId bmB) (hT : ∀ X : String, bm.contains (.type X) = bmB.contains (.type X)) {fI : Addr} {Q : PySem.Fin → Shared → Prop}
    (cO : hp.get? C = some (excClassObj nm q C N bs bm hdct sn sub ab col dd k0 k1 k2 k3 k5 newId))
    (hi : Looks (model P w) hp (typeLookup (.ref C) "__init__") (some (.ref fI))) (hb : ∀ self, Looks (model P w) hp (bindSpecial (.ref fI) self) (.ref fI, [self])) (hz : rest.length ≤ sizeLine)
    (h : codeAny (model P w) A (.call (.ref fI) ⟨.ref (hp.objs.size + 1) :: rest, kw⟩) (fun r s' => match r with | .ok (.ret v) => v = .none ∧ Q (.done (.ret (.ref (hp.objs.size + 1)))) s' | .ok _ => False | .error e => E e s')
      ⟨(hp.push (excTup rest)).push (excObj C hp.objs.size none .none), g, dr, tk, os⟩) :
    wpAny (model P w) A (Builtin.«type.__call__» ⟨.ref C :: rest, kw⟩) Q E ⟨hp, g, dr, tk, os⟩ := by
  repeat (first | with_reducible refine wpAny_loadPart_at cO ?_ | with_reducible refine wpAny_madeBy_exc cO ?_ | wp_step)
  refine codeAny_call_builtin_code (Code.quiet_builtin _ FB.quiet) (kw_new_check FB hT cO (kw_new FB hT cO hz ?_))
  show wpAny _ _ _ _ _ _
  have kp : ∀ b o, hp.get? b = some o → ((hp.push (excTup rest)).push (excObj C hp.objs.size none .none)).get? b = some o := fun b o e => Heap.get?_push_of_some _ (Heap.get?_push_of_some _ e)
  have c1 := kp _ _ cO
  have hg : ((hp.push (excTup rest)).push (excObj C hp.objs.size none .none)).get? (hp.objs.size + 1) = some (excObj C hp.objs.size none .none) := by heap_get
  have cC : (Value.ref C :: bm).contains (.ref C) = true := by simp
  unfold isInstance
  repeat (first | with_reducible refine wpAny_loadPart_at hg ?_ | (with_reducible refine wpAny_isSubtype_exc c1 ?_; rw [cC]) | wp_step)
  show wpAny _ _ (typeLookup (.ref C) _) _ _ _
  refine (hi.keeps kp).at (wpAny_holding (wpAny_bind (((hb (.ref (hp.objs.size + 1))).keeps kp).at (wpAny_bind (wpAny_call (codeAny_mono h fun r s' z => ?_))))))
  rcases r with e | (v | _ | _ | _) <;> first | exact z | exact z.elim | skip
  obtain ⟨rfl, z⟩ := z
  first
    | exact wpAny_pure (wpAny_pure z)
    | (wp_walk; exact z)
theorem kw_check (cO : hp.get? C = some (excClassObj nm q C N bs bm hdct sn sub ab col dd k0 k1 k2 k3 k5 newId)) {Q : Unit → Shared → Prop} (h : Q () ⟨hp, g, dr, tk, os⟩) :
    wpAny M A (checkBuiltinCall "type.__call__" ⟨.ref C :: rest, kw⟩) Q E ⟨hp, g, dr, tk, os⟩ := by
  have ts := tc_sub
  have ti : (⟨hp, g, dr, tk, os⟩ : Shared).TypeIs (.ref C) "type" := ⟨_, cO, rfl⟩
  simp only [checkBuiltinCall, tc_kind, tc_split]
  repeat (any_goals (first | assumption | with_reducible refine wpAny_loadPart_at cO ?_ | with_reducible refine wpAny_onRaise ?_ | with_reducible refine wpAny_map ?_ | wp_step))
theorem kw_call (FB : ExcBaseFacts B newId initId bmB) (hT : ∀ X : String, bm.contains (.type X) = bmB.contains (.type X)) {fI : Addr}
    (cO : hp.get? C = some (excClassObj nm q C N bs bm hdct sn sub ab col dd k0 k1 k2 k3 k5 newId))
    (hi : Looks (model P w) hp (typeLookup (.ref C) "__init__") (some (.ref fI))) (hb : ∀ self, Looks (model P w) hp (bindSpecial (.ref fI) self) (.ref fI, [self])) (hz : rest.length ≤ sizeLine)
    (h : codeAny (model P w) (A.under (.builtin "type.__call__" ⟨.ref C :: rest, kw⟩)) (.call (.ref fI) ⟨.ref (hp.objs.size + 1) :: rest, kw⟩) (InitBack (hp.objs.size + 1) R)
      ⟨(hp.push (excTup rest)).push (excObj C hp.objs.size none .none), g, dr, tk, os⟩) :
    codeAny (model P w) A (.call (.ref C) ⟨rest, kw⟩) R ⟨hp, g, dr, tk, os⟩ := by
  have t1 := tc_lookup
  have t2 := tc_bind (.ref C)
  have ti : (⟨hp, g, dr, tk, os⟩ : Shared).TypeIs (.ref C) "type" := ⟨_, cO, rfl⟩
  refine codeAny_of_tree (show wpAny _ _ (callAny (.ref C) _) _ _ _ from ?_)
  repeat (any_goals (first | assumption | with_reducible refine wpAny_loadPart_at cO ?_ | wp_step))
  refine ⟨rfl, codeAny_call_builtin_at (Code.quiet_builtin _ (by decide +kernel)) entry_typeCall (kw_check cO (kw_type FB hT cO hi hb hz (codeAny_mono h fun r s' z => ?_)))⟩
  rcases r with e | (v | _ | _ | _) <;> exact z
end
section
variable {P : Program} {w : World} {A : Around} {K : Frag} {C fI : Addr} {f : Str} {B newId i : String} {bmB : List Value} {mg : Str → Option Value} {s : Shared} {R : Result → Shared → Prop} {v : Value}
/-- the class called: by position, or by the field's name -/
theorem err_made (T : ErrTxt P K C fI f B newId i bmB) (Md : L2.Mod K mg s.heap) (hroom : A.depth + 1 < recursionLimit) {rest : List Value} {kw : List (Str × Value)} (ha : (rest = [v] ∧ kw = []) ∨ (rest = [] ∧ kw = [(f, v)]))
    (hq : ∀ h' tk e d, ErrMade s.heap h' e C d f v → R (.ok (.ret (.ref e))) { s with heap := h', toks := tk }) :
    codeAny (model P w) A (.call (.ref C) ⟨rest, kw⟩) R s := by
  obtain ⟨nm, N', qn, bs, bm, hdct, sn, sub, ab, col, dd, k0, k1, k2, k3, k5, cO, hT⟩ := excInit_of Md.kin T.cls
  obtain ⟨hp, g, dr, tk, os⟩ := s
  have Xh : K.In hp := Md.kin
  obtain ⟨oI, hoI, hcI⟩ : ∃ oI, hp.get? fI = some oI ∧ oI.cls = .type "function" := by
    obtain ⟨o, ho, hc⟩ := Option.map_eq_some_iff.mp (show (K.lookup fI).map (·.cls) = some (.type "function") from beq_iff_eq.mp T.isF)
    exact ⟨o, Xh _ _ ho, hc⟩
  have kp : ∀ b o, hp.get? b = some o → ((hp.push (excTup rest)).push (excObj C hp.objs.size none .none)).get? b = some o := fun b o e => Heap.get?_push_of_some _ (Heap.get?_push_of_some _ e)
  have hg : ((hp.push (excTup rest)).push (excObj C hp.objs.size none .none)).get? (hp.objs.size + 1) = some (excObj C hp.objs.size none .none) := by heap_get
  have hz : rest.length ≤ sizeLine := by
    rcases ha with ⟨rfl, _⟩ | ⟨rfl, _⟩
    · exact one_fit v
    · exact Nat.zero_le _
  refine kw_call T.base hT cO (looks_findIn Xh T.ini) (fun self => exc_bind hoI hcI self) hz ?_
  refine err_init (s := ⟨(hp.push (excTup rest)).push (excObj C hp.objs.size none .none), g, dr, tk, os⟩) (h₀ := hp) (v := v) T Md kp ?_ (Md.nolimit.keeps kp) hg (Heap.get?_none_of_le (Nat.le_succ _)) (Nat.le_succ _) ?_ ?_ ?_
  · show hp.objs.size ≤ ((hp.push (excTup rest)).push (excObj C hp.objs.size none .none)).objs.size
    rw [Heap.size_push, Heap.size_push]
    omega
  · exact hroom
  · intro fd ⟨p1, p2, e⟩ ed ek
    refine BindsTo.of_eq ?_
    obtain ⟨x1, x2, fp, x4, x5, x6, x7, x8, x9, x10, x11, x12, x13, x14, x15⟩ := fd
    simp only at e ed ek
    subst e ed ek
    rcases ha with ⟨rfl, rfl⟩ | ⟨rfl, rfl⟩ <;> rcases T.fis with rfl | rfl | rfl | rfl <;> first | rfl | kernel_rfl
  · intro h' tk' dx hm
    exact ⟨rfl, hq h' tk' _ dx hm⟩
end
end Wm

namespace Wm
open PySem PySem.Spec PyProof.Rows L2
/-! ### errors as values -/
theorem inv_mod {X : Cx} {pins : List (Addr × Obj)} {σ : L2.St} {H : Hp} {s : Shared} (I : Inv X pins σ H s) : L2.Mod X.K X.mg s.heap :=
  ⟨I.kIn, I.ok.mod.glob.keeps I.bk, let ⟨mb, h1, h2⟩ := I.ok.mod.blt; ⟨mb, h1.keeps I.bk, h2⟩, I.nolimit⟩
theorem relO_err {f : Str} {v : V} {u : Value} (r : RelV v u) (n : Str) : RelO (List.lookup n [(f, v)]) (if n = f then some u else none) := by
  by_cases q : n = f
  · subst q
    rw [if_pos rfl]
    have e : List.lookup n [(n, v)] = some v := by simp [List.lookup]
    rw [e]
    exact r
  · rw [if_neg q]
    have e : List.lookup n [(f, v)] = none := by
      have z : (n == f) = false := by simpa using q
      simp [List.lookup, z]
    rw [e]
    trivial
section
variable {X : Cx} {C fI : Addr} {f : Str} {B newId i : String} {bmB : List Value} {pins : List (Addr × Obj)} {σ : L2.St} {H : Hp} {s : Shared} {v : V} {u : Value} {Q : VK} {k : Nat}
theorem err_run (T : ErrTxt X.prog X.K C fI f B newId i bmB) (hr : Room k X.A) {rest : List Value} {kw : List (Str × Value)} (ha : (rest = [u] ∧ kw = []) ∨ (rest = [] ∧ kw = [(f, u)])) (I : Inv X pins σ H s) (rv : RelV v u)
    (h : ∀ e dx t, H e = none → H dx = none → dx ≠ e → Q (.ref e) (upd (upd H dx (.xd [(f, v)])) e (.frz (PySem.W.excObj C t (some dx) .none) (.own e)))) :
    wpAny (model X.prog X.w) X.A (call (.ref C) rest kw) (EP X pins σ Q) X.xe s := by
  refine wpAny_call (err_made T (inv_mod I) (by have := hr.dp; omega) ha fun h' tk e dx M => ?_)
  obtain ⟨hp, g, dr, tk0, os⟩ := s
  show EP X pins σ Q (.ref e) ⟨h', g, dr, tk, os⟩
  obtain ⟨t, he⟩ := M.obj
  obtain ⟨G', g1, g2⟩ := restrict h' fun b => decide (b ≠ e)
  have gk : ∀ b, b ≠ e → G'.get? b = h'.get? b := fun b hb => g1 b (decide_eq_true hb)
  have ge : G'.get? e = none := g2 e (by simp)
  have old : ∀ b o, hp.get? b = some o → G'.get? b = some o := fun b o q => (gk b (Nat.ne_of_lt (Nat.lt_of_lt_of_le (Heap.lt_size q) M.new))).trans (M.keep b o q)
  have ob : ObjOk X.prog X.w (upd H dx (.xd [(f, v)])) G' dx (.xd [(f, v)]) := ⟨_, M.ns.at (fun o q => (gk dx M.dne).trans q), fun n => relO_err rv n⟩
  have J : Inv X pins σ (upd H dx (.xd [(f, v)])) ⟨G', g, dr, tk, os⟩ := I.laid (t' := tk) old M.dbig ob
  have hne : H e = none := I.hok.fresh M.new
  have hnd : H dx = none := I.hok.fresh M.dbig
  have hue : upd H dx (.xd [(f, v)]) e = none := by rw [upd_ne (Ne.symm M.dne)]; exact hne
  have J2 := Inv.laidN (h' := h') (a := e) (o := .frz (PySem.W.excObj C t (some dx) .none) (.own e)) (t' := tk) J (fun b o q => by
    by_cases hb : b = e
    · have q' : G'.get? b = some o := q
      rw [hb, ge] at q'; cases q'
    · exact (gk b hb).symm.trans q) ge hue ⟨he, ⟨_, he⟩⟩
  exact ⟨.ref e, _, J2, rfl, h e dx t hne hnd M.dne⟩
end
def eErr (c : Nat) (ea : Ev) : Ev := fun F δ => M.bind (ea F δ) fun d => M.pure (.exc c d)
structure ErrD (X : Cx) (g : G) (c : Nat) : Prop where
  ok : ∃ (C fI : Addr) (B newId i : String) (bmB : List Value), g.mg (excN c) = some (.ref C) ∧ X.mg (excN c) = some (.ref C) ∧ ErrTxt X.prog X.K C fI (excF c) B newId i bmB
section
variable {X : Cx} {g : G} {F : Fns} {W : WX} {a : Expr} {ea : Ev} {p pos : Pos} {k c : Nat}
theorem fin_err {μ : Mk} {H1 : Hp} {S1 : DS} {σ : L2.St} {d : D} {x : V} {C : Addr} {Q : VK} (gC : g.mg (excN c) = some (.ref C)) (hm : MOk μ.all H1) (hd : DOk g H1 S1) (r1 : Dt g (hidM μ H1) d x) (h : Fin g μ W σ H1 Q (M.pure (.exc c d) S1)) (e dx t : Addr) (hne : H1 e = none) (hnd : H1 dx = none) (hx : dx ≠ e) :
    Q (.ref e) (upd (upd H1 dx (.xd [(excF c, x)])) e (.frz (PySem.W.excObj C t (some dx) .none) (.own e))) := by
  have s1 : Same H1 (upd H1 dx (.xd [(excF c, x)])) := Same.new hnd
  have hue : upd H1 dx (.xd [(excF c, x)]) e = none := by rw [upd_ne (Ne.symm hx)]; exact hne
  have s2 : Same H1 (upd (upd H1 dx (.xd [(excF c, x)])) e (.frz (PySem.W.excObj C t (some dx) .none) (.own e))) := fun b o q => Same.new hue b o (s1 b o q)
  refine h _ (Sub.of s2) (hd.same s2) (.ref e) ⟨e, _, dx, _, C, x, rfl, gC, hid_of upd_same (hm.new hne), rfl, rfl, rfl, hid_of (by rw [upd_ne hx, upd_same]) (hm.new hnd), Dt.mono (Sub.of s2).hid _ _ r1⟩
theorem se_err {x : Str} (T : ErrD X g c) (hr : Room k X.A) (ex : x = excN c) (hg : Gl X x) (ha : PE X a (tI g F W ea)) (hdb : (x == ("__debug__" : Str)) = false) (hs : noStar [a] = true) : PE X (.Call (.Name x p) [a] [] pos) (tI g F W (eErr c ea)) := by
  obtain ⟨C, fI, B, newId, i, bmB, gC, mC, T⟩ := T.ok
  have hst := noStar_cons hs
  refine ⟨fun pins s σ H Q I ⟨μ, δ, S, hm', hr', hd', h⟩ => ?_⟩
  have st := stepE (T := fun x H1 => ∀ e dx t, H1 e = none → H1 dx = none → dx ≠ e → Q (.ref e) (upd (upd H1 dx (.xd [(excF c, x)])) e (.frz (PySem.W.excObj C t (some dx) .none) (.own e)))) hm' hr' hd' h
    fun x H1 d S1 s1 hm hr hd r1 h e dx t hne hnd hx => fin_err gC hm hd r1 h e dx t hne hnd hx
  refine wpAny_Call_Name_kw (ld_glob I hg (by rw [ex]; exact mC) ?_ hdb)
  have pa : PA X [a] (tCons (tI g F W ea) tNil) := pa_cons ha pa_nil (hst.1 _)
  refine PySem.W.callWith_K (h₀ := X.base) I.ok.mod.kin T.kC (thn (pa.run pos pins s σ H (fun vs H1 => ∃ v, vs = [v] ∧ ∀ e dx t, H1 e = none → H1 dx = none → dx ≠ e → Q (.ref e) (upd (upd H1 dx (.xd [(excF c, v)])) e (.frz (PySem.W.excObj C t (some dx) .none) (.own e)))) I ?_) fun us s1 ⟨vs, H1, I1, rv, v, ev, q⟩ => ⟨I1.kIn, ?_⟩) (hst.1 _) (backTo_none (by rfl))
  · obtain ⟨μ, δ, S, z1, z2, z3, z4⟩ := st
    exact ⟨μ, δ, S, z1, z2, z3, z4.imp (fun d S' H' _ _ q v rv => ⟨v, rfl, q v rv⟩) fun _ _ _ _ _ q => q⟩
  · subst ev
    cases rv with
    | cons r rn =>
      cases rn
      exact err_run T hr (.inl ⟨rfl, rfl⟩) I1 r q
theorem se_errK {x f : Str} {kp : Pos} (T : ErrD X g c) (hr : Room k X.A) (ex : x = excN c) (ef : f = excF c) (hg : Gl X x) (ha : PE X a (tI g F W ea)) (hdb : (x == ("__debug__" : Str)) = false) : PE X (.Call (.Name x p) [] [⟨some f, a, kp⟩] pos) (tI g F W (eErr c ea)) := by
  obtain ⟨C, fI, B, newId, i, bmB, gC, mC, T⟩ := T.ok
  subst ef
  refine ⟨fun pins s σ H Q I ⟨μ, δ, S, hm', hr', hd', h⟩ => ?_⟩
  have st := stepE (T := fun x H1 => ∀ e dx t, H1 e = none → H1 dx = none → dx ≠ e → Q (.ref e) (upd (upd H1 dx (.xd [(excF c, x)])) e (.frz (PySem.W.excObj C t (some dx) .none) (.own e)))) hm' hr' hd' h
    fun x H1 d S1 s1 hm hr hd r1 h e dx t hne hnd hx => fin_err gC hm hd r1 h e dx t hne hnd hx
  refine wpAny_Call_Name_kw (ld_glob I hg (by rw [ex]; exact mC) ?_ hdb)
  have pk : PK X [⟨some (excF c), a, kp⟩] (tCons (tI g F W ea) tNil) := pk_cons ha pk_nil
  refine PySem.W.callWith_KW0 (h₀ := X.base) I.ok.mod.kin T.kC (by first | rfl | simp [backToKw, keywordEach]) (thn (pk.run pos pins s σ H (fun vs H1 => ∃ v, vs = [v] ∧ ∀ e dx t, H1 e = none → H1 dx = none → dx ≠ e → Q (.ref e) (upd (upd H1 dx (.xd [(excF c, v)])) e (.frz (PySem.W.excObj C t (some dx) .none) (.own e)))) I ?_) fun us s1 ⟨vs, H1, I1, rv, v, ev, q⟩ => ⟨I1.kIn, ?_⟩) (by first | rfl | simp [backToKw, keywordEach, backTo, starEach])
  · obtain ⟨μ, δ, S, z1, z2, z3, z4⟩ := st
    exact ⟨μ, δ, S, z1, z2, z3, z4.imp (fun d S' H' _ _ q v rv => ⟨v, rfl, q v rv⟩) fun _ _ _ _ _ q => q⟩
  · subst ev
    cases rv with
    | cons r rn =>
      cases rn
      exact err_run T hr (.inr ⟨rfl, by first | rfl | simp [backToKw, keywordEach]⟩) I1 r q
end
end Wm

namespace Wm
open PySem PySem.Spec PyProof.Rows L2
/-! ### a field of an error -/
def xfD (f : Str) : D → Option D
  | .exc c v => if excF c = f then some v else none
  | _ => none
def eXf (f : Str) (ea : Ev) : Ev := fun F δ => M.bind (ea F δ) fun d => M.of (xfD f d)
section
variable {X : Cx} {g : G} {F : Fns} {W : WX} {o : Expr} {ea : Ev} {pos : Pos}
theorem se_xf {f : Str} (T : ∀ c, (∃ C, g.mg (excN c) = some (.ref C)) → ErrD X g c) (ho : PE X o (tI g F W ea)) (hb : isSup o = false) : PE X (.Attribute o f pos) (tI g F W (eXf f ea)) := by
  refine ⟨fun pins s σ H Q I ⟨μ, δ, S, hm', hr', hd', h⟩ => ?_⟩
  have st := stepE (T := fun x H1 => ∃ a oe dx vs c v, x = .ref a ∧ ErrD X g c ∧ X.mg (excN c) = some oe.cls ∧ excF c = f ∧ H1 a = some (.frz oe (.own a)) ∧ oe.dict = some dx ∧ oe.data = .fields vs ∧ H1 dx = some (.xd [(f, v)]) ∧ Q v H1) hm' hr' hd' h
    fun x H1 d S1 s1 hm hr hd r1 h => by
      obtain ⟨d', ed, hk⟩ := fin_of h
      unfold xfD at ed
      split at ed
      · rename_i c v
        by_cases q : excF c = f
        · rw [if_pos q] at ed
          cases ed
          obtain ⟨a, oe, dx, vs, C, u, rfl, gC, h3, h4, h5, h6, h7, h8⟩ := r1
          have Tc : ErrD X g c := T c ⟨C, gC⟩
          obtain ⟨C', fI, B, newId, i, bmB, gC', mC, TT⟩ := Tc.ok
          rw [gC] at gC'
          cases gC'
          rw [q] at h7
          exact ⟨a, oe, dx, vs, c, u, rfl, Tc, by rw [mC, h4], q, (hid_some h3).1, h5, h6, (hid_some h7).1, hk H1 (Sub.refl _) hd u h8⟩
        · rw [if_neg q] at ed
          cases ed
      · cases ed
  refine attr_of (base_plain hb) (thn (ho.run pins s σ H _ I st) fun u s1 hh => ?_)
  obtain ⟨x, H1, I1, rx, a, oe, dx, vs, c, v, ex, Tc, mC, ef, ha, hd, hdat, hdx, q⟩ := hh
  subst ex
  obtain rfl : u = Value.ref a := rx
  obtain ⟨C, fI, B, newId, i, bmB, gC, mC', TT⟩ := Tc.ok
  have hc : oe.cls = .ref C := Option.some.inj (mC.symm.trans mC')
  obtain ⟨ea, _⟩ := (show ObjOk X.prog X.w H1 s1.heap a (.frz oe (.own a)) from I1.hok a _ ha)
  obtain ⟨mA, hns, hr⟩ := (show ObjOk X.prog X.w H1 s1.heap dx (.xd [(f, v)]) from I1.hok dx _ hdx)
  obtain ⟨od, hod, hl⟩ := lookIn_ns hns
  have l : List.lookup f [(f, v)] = some v := by simp [List.lookup]
  obtain ⟨u, hu, ru⟩ := RelO.some_of (v := v) (o := mA f) (by rw [← l]; exact hr f)
  have J : PySem.W.InstAt s1.heap a oe C (some od) := ⟨ea, hc, by unfold PySem.W.notCls; rw [hdat] <;> rfl, by rw [hd]; exact hod⟩
  subst ef
  exact HandSPX.exc_get I1.kIn J TT.ga TT.gg TT.exC (PySem.W.findObj_own TT.hd TT.noN rfl (by rw [hl, hu])) (handed_of ru) ⟨v, H1, I1.tok _, ru, q⟩
end
/-! ### isinstance -/
inductive Tag where
  | non | bl | int | str | tup | lst | dic | obj (c : Nat) | exc (c : Nat)
  deriving DecidableEq
def tagD : D → Option Tag
  | .non => some .non
  | .bl _ => some .bl
  | .int _ => some .int
  | .str _ => some .str
  | .tup _ => some .tup
  | .lst _ => some .lst
  | .fro _ => some .lst
  | .dic _ _ => some .dic
  | .obj c _ => some (.obj (min c 5))
  | .exc c _ => some (.exc (min c 9))
  | _ => none
def tagV (mg : Str → Option Value) : Tag → Option Value
  | .non => some (.type "NoneType")
  | .bl => some (.type "bool")
  | .int => some (.type "int")
  | .str => some (.type "str")
  | .tup => some (.type "tuple")
  | .lst => some (.type "list")
  | .dic => some (.type "dict")
  | .obj c => mg (clsN c)
  | .exc c => mg (excN c)
def allTags : List Tag := [.non, .bl, .int, .str, .tup, .lst, .dic] ++ (List.range 6).map .obj ++ (List.range 10).map .exc
theorem tagD_mem {d : D} {t : Tag} (h : tagD d = some t) : t ∈ allTags := by
  unfold allTags
  cases d <;> simp only [tagD, Option.some.injEq, reduceCtorEq] at h <;> subst h <;> simp <;> omega
theorem clsN_min (c : Nat) : clsN (min c 5) = clsN c := by
  rcases c with _ | _ | _ | _ | _ | c <;> try rfl
  show clsN (min (c + 5) 5) = clsN (c + 5)
  rw [Nat.min_eq_right (by omega)]
  rfl
theorem excN_min (c : Nat) : excN (min c 9) = excN c := by
  rcases c with _ | _ | _ | _ | _ | _ | _ | _ | _ | c <;> try rfl
  show excN (min (c + 9) 9) = excN (c + 9)
  rw [Nat.min_eq_right (by omega)]
  rfl
/-- what isinstance asks of the classes -/
structure IsiC (K : PySem.W.Frag) (C : Addr) : Prop where
  ha : PySem.W.findIn K (.ref C) "__class__" = some (some (.builtin "object.__class__"))
  hn : PySem.W.specialIn K (.builtin "object.__class__") "__get__" = some (some (.builtin "getset_descriptor.__get__"))
  htk : PySem.W.takesIn K (.builtin "object.__class__") = some true
  hm : PySem.W.mroIn K C (.type "object") = some true
structure IsiOk (K : PySem.W.Frag) (mg : Str → Option Value) : Prop where
  obj : ∀ c C, mg (clsN c) = some (.ref C) → Cls K C ∧ IsiC K C
  exc : ∀ c C, mg (excN c) = some (.ref C) → IsiC K C ∧ (PySem.W.clsIn K C).isSome = true ∧ PySem.W.findIn K (.ref C) "__getattribute__" = some (some (.builtin "BaseException.__getattribute__")) ∧ (∃ gt, PySem.W.findIn K (.ref C) "__getattr__" = some gt) ∧ PySem.W.subIn K (.ref C) (.type "BaseException") = some true
section
variable {X : Cx} {g : G} {pins : List (Addr × Obj)} {σ : L2.St} {H : Hp} {s : Shared} {μ : Mk}
theorem kit_D {d : D} {x : V} {u t : Value} {tg : Tag} (hK : X.K = g.K) (ok : IsiOk X.K g.mg) (I : Inv X pins σ H s) (rx : RelV x u) (hx : DtV g μ H d x) (ht : tagD d = some tg) (hv : tagV g.mg tg = some t) :
    ∃ P : Heap → Prop, PySem.W.KitX X.K u t P ∧ P s.heap ∧ u ≠ .builtin "__main__.__loader__#opaque" := by
  rcases hx with hx | ⟨l, rfl, p, xs, rfl, _, _, hp, _⟩
  · cases d with
    | non => cases ht; cases hv; cases (show x = .non from hx); exact kit_of I rx (.base .non)
    | bl b => cases ht; cases hv; cases (show x = .bl b from hx); exact kit_of I rx (.base (.bl b))
    | int b => cases ht; cases hv; cases (show x = .int b from hx); exact kit_of I rx (.base (.int b))
    | str b => cases ht; cases hv; cases (show x = .str b from hx); exact kit_of I rx (.base (.str b))
    | tup l =>
      cases ht; cases hv
      obtain ⟨a, xs, rfl, sq, _⟩ := hx
      rcases sq with (h | ⟨o, h⟩) | ⟨o, its, n, h⟩
      · exact kit_of I rx (.base (.tup (hid_some h).1))
      · exact kit_of I rx (.fTuple (hid_some h).1)
      · exact kit_of I rx (.kTuple (by rw [hK]; exact h.1) (by first | rfl | exact h.2.1))
    | lst l =>
      cases ht; cases hv
      obtain ⟨a, xs, rfl, h, _⟩ := hx
      exact kit_of I rx (.base (.lst (hid_some h).1))
    | fro l =>
      cases ht; cases hv
      obtain ⟨a, xs, rfl, sq, _⟩ := hx
      rcases sq with (h | ⟨o, h⟩) | ⟨o, its, n, h⟩
      · exact kit_of I rx (.base (.lst (hid_some h).1))
      · exact kit_of I rx (.base (.frz (hid_some h).1))
      · exact kit_of I rx (.kList (by rw [hK]; exact h.1) (by first | rfl | exact h.2.1))
    | dic ks vs =>
      cases ht; cases hv
      obtain ⟨a, xs, ys, rfl, _, _, h⟩ := hx
      rcases h with ⟨kk, _, _, h⟩ | ⟨kk, _, h, _⟩
      · exact kit_of I rx (.base (.dK (hid_some h).1))
      · exact kit_of I rx (.base (.dT (hid_some h).1))
    | obj c l =>
      cases ht
      obtain ⟨a, C, dx, fs, rfl, gC, h, _⟩ := hx
      have hv : g.mg (clsN (min c 5)) = some t := hv
      rw [clsN_min, gC] at hv
      cases hv
      obtain ⟨cl, ci⟩ := ok.obj c C gC
      exact kit_of I rx (.base (.ins (hid_some h).1 cl ci.ha ci.hn ci.htk ci.hm))
    | exc c v =>
      cases ht
      obtain ⟨a, oe, dx, vs, C, w, rfl, gC, h3, h4, h5, h6, h7, h8⟩ := hx
      have hv : g.mg (excN (min c 9)) = some t := hv
      rw [excN_min, gC] at hv
      cases hv
      obtain ⟨ci, c1, c2, ⟨gt, c3⟩, c4⟩ := ok.exc c C gC
      cases (show u = Value.ref a from rx)
      obtain ⟨eo, _⟩ := (show ObjOk X.prog X.w H s.heap a (.frz oe (.own a)) from I.hok a _ (hid_some h3).1)
      obtain ⟨mA, hns, _⟩ := (show ObjOk X.prog X.w H s.heap dx (.xd _) from I.hok dx _ (hid_some h7).1)
      obtain ⟨od, hod, _⟩ := lookIn_ns hns
      exact ⟨_, PySem.W.kitx_exc (ox := oe) (od := some od) c1 c2 c3 c4 ci.ha ci.hn ci.htk ci.hm, ⟨eo, h4, by unfold PySem.W.notCls; rw [h6] <;> rfl, by rw [h5]; exact hod⟩, fun z => nomatch z⟩
    | drw a => cases ht
    | clo n l => cases ht
  · cases ht; cases hv
    exact kit_of I rx (.base (.lst hp))
end

def isiD (κ : Tag → Bool) (d : D) : Option D := (tagD d).map fun t => .bl (κ t)
def eIsi (κ : Tag → Bool) (ea : Ev) : Ev := fun F δ => M.bind (ea F δ) fun d => M.of (isiD κ d)
/-- what isinstance answers, by tags; every tag has a class where data with the tag are -/
structure KapOk (K : PySem.W.Frag) (mg : Str → Option Value) (us : List Value) (κ : Tag → Bool) : Prop where
  ok : ∀ t ∈ allTags, ∀ v, tagV mg t = some v → PySem.W.kitAny K v us = some (κ t)
section
variable {X : Cx} {g : G} {F : Fns} {W : WX} {a : Expr} {ea : Ev} {p np pos tp : Pos} {κ : Tag → Bool}
theorem tag_has {μ : Mk} {H : Hp} {d : D} {x : V} {tg : Tag} (hx : DtV g μ H d x) (ht : tagD d = some tg) : ∃ t, tagV g.mg tg = some t := by
  rcases hx with hx | ⟨l, rfl, _⟩
  · cases d with
    | obj c l => cases ht; obtain ⟨a, C, dx, fs, rfl, gC, _⟩ := hx; exact ⟨.ref C, by unfold tagV; simp only; rw [clsN_min]; exact gC⟩
    | exc c l => cases ht; obtain ⟨a, oe, dx, vs, C, u, rfl, gC, _⟩ := hx; exact ⟨.ref C, by unfold tagV; simp only; rw [excN_min]; exact gC⟩
    | drw a => cases ht
    | clo n l => cases ht
    | _ => cases ht; exact ⟨_, rfl⟩
  · cases ht; exact ⟨_, rfl⟩
theorem one_any {K : PySem.W.Frag} {t u : Value} {b : Bool} (h : PySem.W.kitAny K t [u] = some b) : PySem.W.kitOne K t u = some b := by
  unfold PySem.W.kitAny at h
  cases e : PySem.W.kitOne K t u with
  | none => rw [e] at h; cases h
  | some c =>
    rw [e] at h
    cases c with
    | true => exact h
    | false => exact h
/-- one class -/
theorem isi_one {v : V} {u : Value} (hK : X.K = g.K) (ok : IsiOk X.K g.mg) (hc : ClsV v u) (hκ : KapOk X.K g.mg [u] κ) :
    CallR X (.builtin "isinstance") (fun xs H Q => ∃ μ d x tg, xs = [x, v] ∧ DtV g μ H d x ∧ tagD d = some tg ∧ Q (.bl (κ tg)) H) := by
  intro pins s σ H xs us Q I r ⟨μ, d, x, tg, ex, hx, ht, q⟩
  subst ex
  obtain ⟨u1, u2, rfl, r1, r2⟩ := vals2 r
  have e2 := hc.eq r2
  subst e2
  obtain ⟨t, hv⟩ := tag_has hx ht
  obtain ⟨P, Z, pp, hh⟩ := kit_D hK ok I r1 hx ht hv
  exact PySem.W.kia_one Z I.kIn pp (one_any (hκ.ok tg (tagD_mem ht) t hv)) hh fun tk => ⟨.bl (κ tg), H, I.tok tk, rfl, q⟩
theorem isi_many {cs : List V} {us : List Value} (hK : X.K = g.K) (ok : IsiOk X.K g.mg) (hc : Paired ClsV cs us) (hκ : KapOk X.K g.mg us κ) :
    CallR X (.builtin "isinstance") (fun xs H Q => ∃ μ d x tg q, xs = [x, .ref q] ∧ H q = some (.tup cs) ∧ DtV g μ H d x ∧ tagD d = some tg ∧ Q (.bl (κ tg)) H) := by
  intro pins s σ H xs ws Q I r ⟨μ, d, x, tg, tq, ex, hT, hx, ht, q⟩
  subst ex
  obtain ⟨u1, u2, rfl, r1, r2⟩ := vals2 r
  cases (show u2 = Value.ref tq from r2)
  obtain ⟨t, hv⟩ := tag_has hx ht
  obtain ⟨P, Z, pp, hh⟩ := kit_D hK ok I r1 hx ht hv
  obtain ⟨_, its, rv, o, h1, h2, n, h3⟩ := (show ObjOk X.prog X.w H s.heap tq (.tup cs) from I.hok tq _ hT)
  have e3 := ClsV.all hc rv
  subst e3
  obtain ⟨oc, od, dt, sl⟩ := o
  simp only at h2 h3
  subst h2 h3
  exact PySem.W.kia_tup Z I.kIn pp h1 (hκ.ok tg (tagD_mem ht) t hv) hh fun tk => ⟨.bl (κ tg), H, I.tok tk, rfl, q⟩
theorem se_isi {x : Str} {v : V} {u : Value} (hK : X.K = g.K) (ok : IsiOk X.K g.mg) (hc : ClsV v u) (hκ : KapOk X.K g.mg [u] κ) (hg : Gl X "isinstance") (hm : X.mg "isinstance" = none) (ha : PE X a (tIV g F W ea)) (hs : noStar [a] = true) (hn : PE X (.Name x np) (tC v)) :
    PE X (.Call (.Name "isinstance" p) [a, .Name x np] [] pos) (tI g F W (eIsi κ ea)) := by
  have hst : ∀ env, starEach [a, .Name x np] env = (false, eval a env) :: starEach [.Name x np] env := fun env => starEach_cons (by unfold noStar at hs; simpa using hs) env
  have pa : PA X [a, .Name x np] (tCons (tIV g F W ea) (tCons (tC v) tNil)) := pa_cons ha (pa_cons hn pa_nil rfl) (hst _)
  refine pe_mono (pe_callB (isi_one hK ok hc hκ) hg hm (by decide +kernel) pa (by decide) (by decide) (hst _) (by rfl)) fun σ H Q ⟨μ, δ, S, hm, hr, hd, h⟩ => ?_
  refine stepV hm hr hd h fun y H1 d S1 s1 hm hr hd r1 h => ?_
  obtain ⟨e, ee, hk⟩ := fin_of h
  unfold isiD at ee
  obtain ⟨tg, ht, rfl⟩ := Option.map_eq_some_iff.mp ee
  exact ⟨μ, d, y, tg, rfl, r1, ht, hk H1 (Sub.refl _) hd _ rfl⟩
theorem se_isiT {es : List Expr} {cs : List V} {us : List Value} {tk : Nat} (hK : X.K = g.K) (ok : IsiOk X.K g.mg) (hc : Paired ClsV cs us) (hκ : KapOk X.K g.mg us κ) (hl : cs.length ≤ 100) (hg : Gl X "isinstance") (hm : X.mg "isinstance" = none) (ha : PE X a (tIV g F W ea)) (hs : noStar [a] = true)
    (hn : PA X es (fun _ H Q => Q cs H)) : PE X (.Call (.Name "isinstance" p) [a, .Tuple es tk tp] [] pos) (tI g F W (eIsi κ ea)) := by
  have hst : ∀ env, starEach [a, .Tuple es tk tp] env = (false, eval a env) :: starEach [.Tuple es tk tp] env := fun env => starEach_cons (by unfold noStar at hs; simpa using hs) env
  have pa : PA X [a, .Tuple es tk tp] (tCons (tIV g F W ea) (tCons (tTup (fun _ H Q => Q cs H)) tNil)) := pa_cons ha (pa_cons (pe_tup hn) pa_nil rfl) (hst _)
  refine pe_mono (pe_callB (isi_many hK ok hc hκ) hg hm (by decide +kernel) pa (by decide) (by decide) (hst _) (by rfl)) fun σ H Q ⟨μ, δ, S, hm, hr, hd, h⟩ => ?_
  refine stepV hm hr hd h fun y H1 d S1 s1 hm hr hd r1 h => ?_
  obtain ⟨e, ee, hk⟩ := fin_of h
  unfold isiD at ee
  obtain ⟨tg, ht, rfl⟩ := Option.map_eq_some_iff.mp ee
  refine ⟨sz_mil (by omega), fun q hq => ?_⟩
  have sm : Same H1 (upd H1 q (.tup cs)) := Same.new hq
  exact ⟨μ, d, y, tg, q, rfl, upd_same, r1.mono (Sub.of sm), ht, hk _ (Sub.of sm) (hd.same sm) _ rfl⟩
end
end Wm

namespace Wm
open PySem PySem.Spec PyProof.Rows L2
/-! ### the draws' dict, as the hand layer sees it and as we keep it -/
abbrev dK3 (c l : Addr) (n : Int) : List (Key × V) := [(Sum.inr "cells", .ref c), (Sum.inr "left", .ref l), (Sum.inr "at", .int n)]
def inH (H : Hp) (am c l : Addr) (cells left : List Int) (n : Int) : Hp := upd (upd (upd H c (.lst (cells.map V.int))) l (.lst (left.map V.int))) am (.dK (dK3 c l n))
def outH (P : Program) (w : World) (H : Hp) (am c l : Addr) (cells left : List Int) (n : Int) : Hp := upd (upd (upd H c (lstO c cells)) l (lstO l left)) am (dicO P w am c l n)
theorem hok_swap {P : Program} {w : World} {H H' : Hp} {h : Heap} (x : HOk P w H h) (ho : ∀ b a, H b = some (.own a) → H' b = some (.own a)) (ht : ∀ b xs, H b = some (.tup xs) → H' b = some (.tup xs))
    (n : ∀ b o, H' b = some o → H b = some o ∨ ObjOk P w H' h b o) : HOk P w H' h := fun b o e => by
  rcases n b o e with q | q
  · exact (x b o q).stay (fun _ _ _ z => z) (fun c z => ho c b z) ht
  · exact q
section
variable {P : Program} {w : World} {H : Hp} {h : Heap} {am c l : Addr} {cells left : List Int} {n : Int}
theorem inH_other {b : Addr} (h1 : b ≠ am) (h2 : b ≠ l) (h3 : b ≠ c) : inH H am c l cells left n b = H b := by
  unfold inH
  rw [upd_ne h1, upd_ne h2, upd_ne h3]
theorem outH_other {b : Addr} (h1 : b ≠ am) (h2 : b ≠ l) (h3 : b ≠ c) : outH P w H am c l cells left n b = H b := by
  unfold outH
  rw [upd_ne h1, upd_ne h2, upd_ne h3]
theorem inH_am : inH H am c l cells left n am = some (.dK (dK3 c l n)) := upd_same
theorem inH_l (h2 : am ≠ l) : inH H am c l cells left n l = some (.lst (left.map V.int)) := by
  unfold inH
  rw [upd_ne (Ne.symm h2), upd_same]
theorem inH_c (h1 : c ≠ l) (h2 : am ≠ c) : inH H am c l cells left n c = some (.lst (cells.map V.int)) := by
  unfold inH
  rw [upd_ne (Ne.symm h2), upd_ne h1, upd_same]
theorem outH_am : outH P w H am c l cells left n am = some (dicO P w am c l n) := upd_same
theorem outH_l (h2 : am ≠ l) : outH P w H am c l cells left n l = some (lstO l left) := by
  unfold outH
  rw [upd_ne (Ne.symm h2), upd_same]
theorem outH_c (h1 : c ≠ l) (h2 : am ≠ c) : outH P w H am c l cells left n c = some (lstO c cells) := by
  unfold outH
  rw [upd_ne (Ne.symm h2), upd_ne h1, upd_same]
theorem ok_lstO {H' : Hp} {a : Addr} {xs : List Int} (x : ObjOk P w H h a (.lst (xs.map V.int))) : ObjOk P w H' h a (lstO a xs) := by
  obtain ⟨z, its, m, r, e⟩ := x
  have z' : xs.length ≤ sizeLine := by simpa using z
  refine ⟨⟨z', its, m, r, e⟩, ⟨_, e⟩, fun h1 h2 ⟨z, its, m, r, e⟩ k => ⟨z, its, m, r, k _ e⟩⟩
theorem ok_dicO {H' : Hp} (x : ObjOk P w H h am (.dK (dK3 c l n))) : ObjOk P w H' h am (dicO P w am c l n) := by
  have x0 : ObjOk P w (fun _ => none) h am (.dK (dK3 c l n)) := x
  refine ⟨x0, ?_, fun h1 h2 y k => ?_⟩
  · obtain ⟨_, _, _, _, o, _, _, e, _⟩ := x
    exact ⟨o, e⟩
  · exact ObjOk.stay (H' := fun _ => none) y (fun b u q e => by
      rcases q with rfl | q
      · exact k u e
      · cases q) (fun b q => by cases q) (fun b xs q => by cases q)
theorem hok_in (ne : c ≠ l ∧ am ≠ c ∧ am ≠ l) (x : HOk P w H h) (h1 : H am = some (dicO P w am c l n)) (h2 : H l = some (lstO l left)) (h3 : H c = some (lstO c cells)) : HOk P w (inH H am c l cells left n) h := by
  have k : ∀ b o, H b = some o → (∀ φ, o ≠ .ext φ) → inH H am c l cells left n b = some o := fun b o e q => by
    rw [inH_other (fun z => by rw [z, h1] at e; cases e; exact q _ rfl) (fun z => by rw [z, h2] at e; cases e; exact q _ rfl) (fun z => by rw [z, h3] at e; cases e; exact q _ rfl)]
    exact e
  refine hok_swap x (fun b a e => k b _ e (fun φ z => by cases z)) (fun b a e => k b _ e (fun φ z => by cases z)) fun b o e => ?_
  by_cases q1 : b = am
  · subst q1
    rw [inH_am] at e
    cases e
    exact .inr (x b _ h1).1
  by_cases q2 : b = l
  · subst q2
    rw [inH_l ne.2.2] at e
    cases e
    obtain ⟨z, its, m, r, e⟩ := (x b _ h2).1
    exact .inr ⟨by simpa using z, its, m, r, e⟩
  by_cases q3 : b = c
  · subst q3
    rw [inH_c ne.1 ne.2.1] at e
    cases e
    obtain ⟨z, its, m, r, e⟩ := (x b _ h3).1
    exact .inr ⟨by simpa using z, its, m, r, e⟩
  rw [inH_other q1 q2 q3] at e
  exact .inl e
theorem hok_out (ne : c ≠ l ∧ am ≠ c ∧ am ≠ l) (x : HOk P w H h) (h1 : H am = some (.dK (dK3 c l n))) (h2 : H l = some (.lst (left.map V.int))) (h3 : H c = some (.lst (cells.map V.int))) : HOk P w (outH P w H am c l cells left n) h := by
  have k : ∀ b o, H b = some o → (∀ xs, o ≠ .lst xs) → (∀ xs, o ≠ .dK xs) → outH P w H am c l cells left n b = some o := fun b o e q q' => by
    rw [outH_other (fun z => by rw [z, h1] at e; cases e; exact q' _ rfl) (fun z => by rw [z, h2] at e; cases e; exact q _ rfl) (fun z => by rw [z, h3] at e; cases e; exact q _ rfl)]
    exact e
  refine hok_swap x (fun b a e => k b _ e (fun φ z => by cases z) (fun φ z => by cases z)) (fun b a e => k b _ e (fun φ z => by cases z) (fun φ z => by cases z)) fun b o e => ?_
  by_cases q1 : b = am
  · subst q1
    rw [outH_am] at e
    cases e
    exact .inr (ok_dicO (x b _ h1))
  by_cases q2 : b = l
  · subst q2
    rw [outH_l ne.2.2] at e
    cases e
    exact .inr (ok_lstO (x b _ h2))
  by_cases q3 : b = c
  · subst q3
    rw [outH_c ne.1 ne.2.1] at e
    cases e
    exact .inr (ok_lstO (x b _ h3))
  rw [outH_other q1 q2 q3] at e
  exact .inl e
theorem dok_out {g : G} (hP : g.P = P) (hw : g.w = w) (ne : c ≠ l ∧ am ≠ c ∧ am ≠ l) : DOk g (outH P w H am c l cells left n) (.on am cells left n) := by
  subst hP hw
  exact ⟨c, l, ne, outH_am, outH_l ne.2.2, outH_c ne.1 ne.2.1⟩
end
end Wm

namespace Wm
open PySem PySem.Spec PyProof.Rows L2
/-! ### the interpreter over plain data -/
/-- tables: the own defs by name and number of arguments (its number, defaults laid behind); the own errors; classes asked of by isinstance -/
structure Tb where
  fn : Str → Nat → Option (Nat × List D)
  err : Str → Option Nat
  isi : List Str → Option (Tag → Bool)
structure Ct where
  N : List Str
  sc : Scope
  tb : Tb
def eNo : Ev := fun _ _ => M.no
def tNo : Tv := fun _ _ => M.no
def aNo : Av := fun _ _ => M.no
def zNo : Sv := fun _ _ _ => .no
def isLoc (sc : Scope) (x : Str) : Bool := match sc.names.lookup x with
  | some .local => true
  | some .cell => true
  | _ => false
def isVis (sc : Scope) (x : Str) : Bool := match sc.names.lookup x with
  | some .local => true
  | some .cell => true
  | some .free => true
  | _ => false
def isGl (sc : Scope) (x : Str) : Bool := match sc.names.lookup x with
  | some .globalImplicit => true
  | _ => false
def slotN : List Str → Str → Option Nat
  | [], _ => none
  | n :: r, x => if n = x then some 0 else (slotN r x).map (· + 1)
/-- the slot of a name that stands for one -/
def slotOf (ct : Ct) (x : Str) : Option Nat := if isVis ct.sc x && !(x == ("__debug__" : Str)) && !(x == ("__classdict__" : Str)) then slotN ct.N x else none
def okGl (ct : Ct) (x : Str) : Bool := isGl ct.sc x && !(x == ("__debug__" : Str))
def bopD : Operator → Option (D → D → Option D)
  | .Add => some addD
  | .Sub => some subD
  | .Mult => some mulD
  | .FloorDiv => some fdivD
  | .Mod => some modD
  | .Pow => some powD
  | _ => none
def copD : CmpOp → D → D → Option D
  | .Eq => eqD
  | .NotEq => neD
  | .Lt => ltD
  | .LtE => leD
  | .Gt => gtD
  | .GtE => geD
  | .Is => isD
  | .IsNot => notD
  | .In => inD
  | .NotIn => ninD
/-- the built-in functions: by id -/
def bF (x : Str) : Option (List D → Option D) :=
  if x = "len" then some lenF else if x = "all" then some allF else if x = "any" then some anyF else if x = "sum" then some sumF else if x = "min" then some minF else if x = "max" then some maxF else if x = "repr" then some reprF else none
/-- the built-in types called -/
def tF (x : Str) : Option (List D → Option D) :=
  if x = "tuple" then some tupF else if x = "list" then some lstF else if x = "int" then some intF else none
def nameOf : Expr → Option Str
  | .Name x _ => some x
  | _ => none
def namesOf : List Expr → Option (List Str)
  | [] => some []
  | .Name x _ :: es => (namesOf es).map (x :: ·)
  | _ :: _ => none
def isL (sc : Scope) (x : Str) : Bool := match sc.names.lookup x with
  | some .local => true
  | _ => false
def slotsOf (p : Str → Bool) (N : List Str) : List Expr → Option (List Nat)
  | [] => some []
  | .Name x _ :: es => if p x = true then (slotN N x).bind fun i => (slotsOf p N es).map (i :: ·) else none
  | _ :: _ => none
/-- a target's slots; no cells but where the frame made them (fn) -/
def tgOf (p : Str → Bool) (N : List Str) : Expr → Option Tg
  | .Name x _ => if p x = true then (slotN N x).map .one else none
  | .Tuple es _ _ => (slotsOf p N es).map .many
  | _ => none
def plainIx : Expr → Bool
  | .Slice _ _ _ _ => false
  | _ => true
def vw (ct : Ct) (r : Expr → Ev) : Expr → Ev
  | .Name x p => match slotOf ct x with
    | some i => eVarV i
    | none => eNo
  | e => r e
def avs (r : Expr → Ev) : List Expr → Av
  | [] => aNil
  | .Starred _ _ :: _ => aNo
  | e :: es => aCons (r e) (avs r es)
def noSet : Expr → Bool
  | .Set _ _ _ => false
  | _ => true
def isTup : Expr → Bool
  | .Tuple _ _ _ => true
  | _ => false
/-- items to be walked -/
inductive ItK where
  | rng1 (a : Expr) | rng2 (a b : Expr) | enm (a : Expr) | zip (a b : Expr) | seq | no
def itK (ct : Ct) (tge : Expr) : Expr → ItK
  | .Call (.Name x _) [a] [] _ => if okGl ct x = true ∧ x = "range" ∧ noStar [a] = true then .rng1 a else if okGl ct x = true ∧ x = "enumerate" ∧ isTup tge = true ∧ noStar [a] = true then .enm a else .seq
  | .Call (.Name x _) [a, b] [] _ => if okGl ct x = true ∧ x = "range" ∧ noStar [a, b] = true then .rng2 a b else if okGl ct x = true ∧ x = "zip" ∧ isTup tge = true ∧ noStar [a, b] = true then .zip a b else .seq
  | .Set _ _ _ => .no
  | _ => .seq
def ivOf (ct : Ct) (r : Expr → Ev) (tge e : Expr) : Av := match itK ct tge e with
  | .rng1 a => iRng rng1 (avs (vw ct r) [a])
  | .rng2 a b => iRng rng2 (avs (vw ct r) [a, b])
  | .enm a => iRng enumF (avs r [a])
  | .zip a b => iRng zipF (avs r [a, b])
  | .seq => iSeq (r e)
  | .no => aNo
/-- a call of a name -/
inductive CaK where
  | bf (f : List D → Option D) | bt (f : List D → Option D) | isi (κ : Tag → Bool) (a : Expr) | err (c : Nat) (a : Expr) | errK (c : Nat) (a : Expr) | fn (n : Nat) (dd : List D) | no
def caK (ct : Ct) (x : Str) (args : List Expr) (kws : List Keyword) : CaK :=
  if okGl ct x = true ∧ noStar args = true then
    match kws with
    | [] =>
      if x = "isinstance" then
        match args with
        | [a, .Name y _] => if okGl ct y = true then (match ct.tb.isi [y] with | some κ => .isi κ a | none => .no) else .no
        | [a, .Tuple es _ _] => (match namesOf es with
          | some ys => if ys.all (okGl ct) = true ∧ ys.length ≤ 100 then (match ct.tb.isi ys with | some κ => .isi κ a | none => .no) else .no
          | none => .no)
        | _ => .no
      else match ct.tb.err x with
      | some c => (match args with | [a] => .err c a | _ => .no)
      | none => match ct.tb.fn x args.length with
        | some (n, dd) => .fn n dd
        | none => match bF x with
          | some f => if args.isEmpty = true then .no else .bf f
          | none => match tF x with
            | some f => if args.isEmpty = true then .no else .bt f
            | none => .no
    | [⟨some f, a, _⟩] => if args.isEmpty = true then (match ct.tb.err x with | some c => if f = excF c then .errK c a else .no | none => .no) else .no
    | _ => .no
  else .no
def caEv (ct : Ct) (r : Expr → Ev) (x : Str) (args : List Expr) (kws : List Keyword) : Ev := match caK ct x args kws with
  | .bf f => eB f (avs (vw ct r) args)
  | .bt f => eB f (avs (vw ct r) args)
  | .isi κ a => eIsi κ (vw ct r a)
  | .err c a => eErr c (r a)
  | .errK c a => eErr c (r a)
  | .fn n dd => eCall n dd (avs r args)
  | .no => eNo
def ands (r : Expr → Ev) : List Expr → Ev
  | [] => eNo
  | [a] => r a
  | a :: b :: es => eAnd (r a) (ands r (b :: es))
def ors (r : Expr → Ev) : List Expr → Ev
  | [] => eNo
  | [a] => r a
  | a :: b :: es => eOr (r a) (ors r (b :: es))
def andT (r : Expr → Tv) : List Expr → Tv
  | [] => tNo
  | [a] => r a
  | a :: b :: es => cAnd (r a) (andT r (b :: es))
def orT (r : Expr → Tv) : List Expr → Tv
  | [] => tNo
  | [a] => r a
  | a :: b :: es => cOr (r a) (orT r (b :: es))
def ifsT (r : Expr → Tv) : List Expr → Tv
  | [] => cYes
  | [c] => r c
  | _ => tNo
/-- the block's own names that have slots -/
def ownOf (N : List Str) : List (Str × NameKind) → List (Str × Nat)
  | [] => []
  | (x, k) :: r => match k with
    | .local => (match slotN N x with | some i => (x, i) :: ownOf N r | none => ownOf N r)
    | .cell => (match slotN N x with | some i => (x, i) :: ownOf N r | none => ownOf N r)
    | _ => ownOf N r
def evStep (r : Ct → Expr → Ev) (t : Ct → Expr → Tv) (ct : Ct) : Expr → Ev
  | .Constant (.int i) _ _ => eC (.int i)
  | .Constant (.str s) _ _ => eC (.str s)
  | .Constant (.bool b) _ _ => eC (.bl b)
  | .Constant .none _ _ => eC .non
  | .Name x _ => (match slotOf ct x with | some i => eVar i | none => eNo)
  | .BinOp a op b _ => (match bopD op with | some f => eOp f (vw ct (r ct) a) (vw ct (r ct) b) | none => eNo)
  | .UnaryOp .USub a _ => eUn negD (vw ct (r ct) a)
  | .UnaryOp .Not a _ => eNot (r ct a)
  | .Compare a [op] [b] _ => if behindInMarks op b = true then eNo else eOp (copD op) (vw ct (r ct) a) (vw ct (r ct) b)
  | .BoolOp .And es _ => ands (r ct) es
  | .BoolOp .Or es _ => ors (r ct) es
  | .IfExp c a b _ => eIf (t ct c) (r ct a) (r ct b)
  | .Tuple es _ _ => eTup (avs (r ct) es)
  | .List es _ => eLst (avs (r ct) es)
  | .Dict [] [] _ => eC (.dic [] [])
  | .Subscript a b _ => if plainIx b = true then eOp ixD (vw ct (r ct) a) (vw ct (r ct) b) else eNo
  | .Attribute o f _ => if isSup o = true then eNo else eXf f (r ct o)
  | .ListComp elt [⟨tge, iter, ifs, 0⟩] scope _ =>
    let own := ownOf ct.N scope.names
    let ct' : Ct := { ct with sc := relS scope ct.sc }
    if blkC ct.N ct.sc scope own = true ∧ noSet iter = true then
      match tgOf (isL ct'.sc) ct.N tge with
      | some tg => if tg.slots.all (fun j => (own.map (·.2)).contains j) = true then eComp (own.map (·.2)) (ivOf ct (r ct) tge iter) tg (ifsT (t ct') ifs) (r ct' elt) else eNo
      | none => eNo
    else eNo
  | .Call (.Name x _) args kws _ => caEv ct (r ct) x args kws
  | _ => eNo
def tvStep (r : Ct → Expr → Ev) (t : Ct → Expr → Tv) (ct : Ct) : Expr → Tv
  | .Compare a [op] [b] _ => if behindInMarks op b = true then tNo else cB (eOp (copD op) (vw ct (r ct) a) (vw ct (r ct) b))
  | .Compare _ _ _ _ => tNo
  | .BoolOp .And es _ => andT (t ct) es
  | .BoolOp .Or es _ => orT (t ct) es
  | .UnaryOp .Not a _ => cNot (t ct a)
  | .IfExp _ _ _ _ => tNo
  | .UnaryOp _ _ _ => tNo
  | e => cB (r ct e)
def evs : Nat → (Ct → Expr → Ev) × (Ct → Expr → Tv)
  | 0 => (fun _ _ => eNo, fun _ _ => tNo)
  | n + 1 => (evStep (evs n).1 (evs n).2, tvStep (evStep (evs n).1 (evs n).2) (evs n).2)
/-- statements -/
def zStep (r : Ct → Expr → Ev) (t : Ct → Expr → Tv) (z : Ct → List Stmt → Sv) (ct : Ct) : Stmt → Sv
  | .Return (some e) _ => zRet (r ct e)
  | .Assign [.Name x _] e _ => if isLoc ct.sc x = true then (match slotN ct.N x with | some i => zSet i (r ct e) | none => zNo) else zNo
  | .Expr (.Constant (.str _) _ _) _ => zNil
  | .If c a b _ => zIf (t ct c) (z ct a) (z ct b)
  | .For tge iter body [] _ => if noSet iter = true then (match tgOf (isLoc ct.sc) ct.N tge with | some tg => zFor (ivOf ct (r ct) tge iter) tg (z ct body) | none => zNo) else zNo
  | _ => zNo
def zSeqs (s : Stmt → Sv) : List Stmt → Sv
  | [] => zNil
  | x :: xs => zSeq (s x) (zSeqs s xs)
def zvs : Nat → Ct → List Stmt → Sv
  | 0, _ => fun _ => zNo
  | n + 1, ct => zSeqs (zStep (evs 40).1 (evs 40).2 (zvs n) ct)
end Wm

namespace Wm
open PySem PySem.Spec PyProof.Rows L2
/-! ### the tables' facts -/
structure FnT (g : G) (F : Fns) (k : Nat) (x : Str) (n : Nat) (dd : List D) : Prop where
  ok : ∃ (f : Addr) (fd : FuncData) (ps : List Str) (ds : List Value) (dvs : List V), FnG g.P g.w g.K g.mg g.base k f fd ps (spI g (F n)) ∧ g.mg x = some (.ref f) ∧ PySem.W.keepIn g.K (.ref f) = true ∧ Binds g.K fd ps ds ∧ Vals dvs ds ∧ DtL g (fun _ => none) dd dvs
structure ErrG (g : G) (c : Nat) : Prop where
  ok : ∃ (C fI : Addr) (B newId i : String) (bmB : List Value), g.mg (excN c) = some (.ref C) ∧ ErrTxt g.P g.K C fI (excF c) B newId i bmB
inductive ClsNm (mg : Str → Option Value) : Str → V → Value → Prop where
  | own {y : Str} (C : Addr) (h : mg y = some (.ref C)) : ClsNm mg y (.ref C) (.ref C)
  | ty {y : Str} (n : String) (h : mg y = none) (hb : bootBuiltins y = some (.type n)) (hn : y ≠ "__name__") : ClsNm mg y (.ty n) (.type n)
inductive ClsNms (mg : Str → Option Value) : List Str → List V → List Value → Prop where
  | nil : ClsNms mg [] [] []
  | cons {y : Str} {ys : List Str} {v : V} {vs : List V} {u : Value} {us : List Value} (h : ClsNm mg y v u) (r : ClsNms mg ys vs us) : ClsNms mg (y :: ys) (v :: vs) (u :: us)
def bltNames : List Str := ["len", "all", "any", "sum", "min", "max", "repr", "tuple", "list", "int", "range", "enumerate", "zip", "isinstance"]
structure Tok (g : G) (F : Fns) (tb : Tb) (k : Nat) : Prop where
  fn : ∀ x m n dd, tb.fn x m = some (n, dd) → FnT g F k x n dd
  err : ∀ x c, tb.err x = some c → x = excN c
  errG : ∀ c, (∃ C, g.mg (excN c) = some (.ref C)) → ErrG g c
  errD : ∀ x c, tb.err x = some c → ∃ C, g.mg (excN c) = some (.ref C)
  isi : ∀ ys κ, tb.isi ys = some κ → ∃ cs us, ClsNms g.mg ys cs us ∧ KapOk g.K g.mg us κ
  isiOk : IsiOk g.K g.mg
  blt : ∀ x ∈ bltNames, g.mg x = none
structure Sk (X : Cx) (g : G) (F : Fns) (W : WX) (ct : Ct) (k : Nat) : Prop where
  c : Cok X g ct.N ct.sc k
  tk : Takes X W
  tb : Tok g F ct.tb k
section
variable {X : Cx} {g : G} {F : Fns} {W : WX} {ct : Ct} {k : Nat} {e a b c o : Expr} {es : List Expr} {pos p : Pos}
theorem pe_no : PE X e (tI g F W eNo) := ⟨fun _ _ _ _ _ _ ⟨_, _, _, _, _, _, h⟩ => False.elim h⟩
theorem pev_no : PE X e (tIV g F W eNo) := ⟨fun _ _ _ _ _ _ ⟨_, _, _, _, _, _, h⟩ => False.elim h⟩
theorem pt_no : PT X e (tIT g F W tNo) := ⟨fun _ _ _ _ _ _ ⟨_, _, _, _, _, _, h⟩ => False.elim h⟩
theorem pa_no : PA X es (tIA g F W aNo) := ⟨fun _ _ _ _ _ _ _ ⟨_, _, _, _, _, _, h⟩ => False.elim h⟩
theorem pav_no : PA X es (tIVA g F W aNo) := ⟨fun _ _ _ _ _ _ _ ⟨_, _, _, _, _, _, h⟩ => False.elim h⟩
theorem slotN_ok : ∀ {N : List Str} {x : Str} {i : Nat}, slotN N x = some i → N[i]? = some x
  | [], x, i, h => by cases h
  | n :: r, x, i, h => by
    unfold slotN at h
    by_cases q : n = x
    · rw [if_pos q] at h
      cases h
      simp [q]
    · rw [if_neg q] at h
      obtain ⟨j, hj, rfl⟩ := Option.map_eq_some_iff.mp h
      simpa using slotN_ok hj
theorem isVis_ok {sc : Scope} {x : Str} (h : isVis sc x = true) : Vis sc x := by
  unfold isVis at h
  split at h
  · exact .inl (by assumption)
  · exact .inr (.inl (by assumption))
  · exact .inr (.inr (by assumption))
  · cases h
theorem isLoc_ok {sc : Scope} {x : Str} (h : isLoc sc x = true) : Loc sc x := by
  unfold isLoc at h
  split at h
  · exact .inl (by assumption)
  · exact .inr (by assumption)
  · cases h
theorem isL_ok {sc : Scope} {x : Str} (h : isL sc x = true) : sc.names.lookup x = some .local := by
  unfold isL at h
  split at h
  · assumption
  · cases h
theorem okGl_ok (S : Sk X g F W ct k) {x : Str} (h : okGl ct x = true) : Gl X x ∧ (x == ("__debug__" : Str)) = false := by
  unfold okGl at h
  rw [Bool.and_eq_true, Bool.not_eq_true'] at h
  refine ⟨?_, h.2⟩
  have h1 := h.1
  unfold isGl at h1
  split at h1
  · rename_i q
    show X.env.scope.names.lookup x = some .globalImplicit
    rw [S.c.sc]
    exact q
  · cases h1
theorem slotOf_ok (S : Sk X g F W ct k) {x : Str} {i : Nat} (h : slotOf ct x = some i) : X.N[i]? = some x ∧ Vis X.env.scope x ∧ (x == ("__debug__" : Str)) = false ∧ (x == ("__classdict__" : Str)) = false := by
  unfold slotOf at h
  split at h
  · rename_i q
    rw [Bool.and_eq_true, Bool.and_eq_true, Bool.not_eq_true', Bool.not_eq_true'] at q
    exact ⟨by rw [S.c.hN]; exact slotN_ok h, by rw [S.c.sc]; exact isVis_ok q.1.1, q.1.2, q.2⟩
  · cases h
theorem snd_vw (S : Sk X g F W ct k) {r : Expr → Ev} (h : ∀ e, PE X e (tI g F W (r e))) (e : Expr) : PE X e (tIV g F W (vw ct r e)) := by
  unfold vw
  split
  · split
    · rename_i i hi
      obtain ⟨h1, h2, h3, h4⟩ := slotOf_ok S hi
      exact sv_var h1 h2 h3 h4
    · exact pev_no
  · exact se_v (h _)
theorem star_of (h : ∀ e' p', e ≠ .Starred e' p') (env : PySem.Env) : starEach (e :: es) env = (false, eval e env) :: starEach es env := by
  refine starEach_cons ?_ env
  cases e <;> first | rfl | exact absurd rfl (h _ _)
theorem snd_avs {r : Expr → Ev} (h : ∀ e, PE X e (tI g F W (r e))) : ∀ es, PA X es (tIA g F W (avs r es))
  | [] => sa_nil
  | e :: es => by
    unfold avs
    split
    · rename_i q; cases q
    · exact pa_no
    · rename_i q1 q2
      cases q2
      exact sa_cons (h _) (snd_avs h _) (star_of (fun e' p' z => q1 _ _ z) _)
theorem snd_avv {r : Expr → Ev} (h : ∀ e, PE X e (tIV g F W (r e))) : ∀ es, PA X es (tIVA g F W (avs r es))
  | [] => sva_nil
  | e :: es => by
    unfold avs
    split
    · rename_i q; cases q
    · exact pav_no
    · rename_i q1 q2
      cases q2
      exact sva_cons (h _) (snd_avv h _) (star_of (fun e' p' z => q1 _ _ z) _)

/-! ### items -/
theorem pi_no {tg : Expr} : PI X tg e (tII g F W aNo) := ⟨fun _ _ _ _ _ _ ⟨_, _, _, _, _, _, h⟩ => False.elim h⟩
theorem isTup_ok {t : Expr} (h : isTup t = true) : ∃ es k p, t = .Tuple es k p := by
  cases t with
  | Tuple es k p => exact ⟨es, k, p, rfl⟩
  | _ => cases h
theorem noStar2 {x : Expr} (h : noStar (x :: es) = true) (env : PySem.Env) : starEach (x :: es) env = (false, eval x env) :: starEach es env := (noStar_cons h).1 env
theorem snd_iv (S : Sk X g F W ct k) {r : Expr → Ev} (h : ∀ e, PE X e (tI g F W (r e))) (tge e : Expr) : PI X tge e (tII g F W (ivOf ct r tge e)) := by
  have hv := snd_vw S h
  have hK := S.c.K
  have bl : ∀ x, x ∈ bltNames → X.mg x = none := fun x hx => by rw [S.c.mg]; exact S.tb.blt x hx
  have sq : PI X tge e (tII g F W (iSeq (r e))) := si_seq hK (h e)
  unfold ivOf
  split
  · rename_i a q
    unfold itK at q
    split at q
    · split at q
      · rename_i x _ a' _ hh
        cases q
        obtain ⟨h1, rfl, h3⟩ := hh
        exact si_rng1 (okGl_ok S h1).1 (bl _ (by simp [bltNames])) (snd_avv hv _) (noStar2 h3 _)
      · split at q <;> cases q
    · split at q
      · cases q
      · split at q <;> cases q
    · cases q
    · cases q
  · rename_i a b q
    unfold itK at q
    split at q
    · split at q
      · cases q
      · split at q <;> cases q
    · split at q
      · rename_i x _ a' b' _ hh
        cases q
        obtain ⟨h1, rfl, h3⟩ := hh
        have h4 := noStar_cons h3
        exact si_rng2 (okGl_ok S h1).1 (bl _ (by simp [bltNames])) (snd_avv hv _) (by rw [h4.1, noStar2 h4.2]; rfl) (noStar2 h4.2 _)
      · split at q <;> cases q
    · cases q
    · cases q
  · rename_i a q
    unfold itK at q
    split at q
    · split at q
      · cases q
      · split at q
        · rename_i x _ a' _ _ hh
          cases q
          obtain ⟨h1, rfl, h2, h3⟩ := hh
          obtain ⟨es, kk, pp, rfl⟩ := isTup_ok h2
          exact si_enum hK (okGl_ok S h1).1 (bl _ (by simp [bltNames])) (snd_avs h _) (noStar2 h3 _)
        · cases q
    · split at q
      · cases q
      · split at q <;> cases q
    · cases q
    · cases q
  · rename_i a b q
    unfold itK at q
    split at q
    · split at q
      · cases q
      · split at q <;> cases q
    · split at q
      · cases q
      · split at q
        · rename_i x _ a' b' _ _ hh
          cases q
          obtain ⟨h1, rfl, h2, h3⟩ := hh
          obtain ⟨es, kk, pp, rfl⟩ := isTup_ok h2
          have h4 := noStar_cons h3
          exact si_zip hK (okGl_ok S h1).1 (bl _ (by simp [bltNames])) (snd_avs h _) (h4.1 _) (backTo_none h4.2)
        · cases q
    · cases q
    · cases q
  · exact sq
  · exact pi_no

/-! ### calls of a name -/
theorem Sk.errD (S : Sk X g F W ct k) {c : Nat} (h : ∃ C, g.mg (excN c) = some (.ref C)) : ErrD X g c := by
  obtain ⟨C, fI, B, newId, i, bmB, h1, h2⟩ := (S.tb.errG c h).ok
  exact ⟨C, fI, B, newId, i, bmB, h1, by rw [S.c.mg]; exact h1, by rw [S.c.prog, S.c.K]; exact h2⟩
theorem cls_name (S : Sk X g F W ct k) {y : Str} {v : V} {u : Value} {np : Pos} (hg : okGl ct y = true) (h : ClsNm g.mg y v u) : PE X (.Name y np) (tC v) ∧ ClsV v u := by
  obtain ⟨h1, h2⟩ := okGl_ok S hg
  cases h with
  | own C q => exact ⟨pe_glob h1 (by rw [S.c.mg]; exact q) rfl h2, .own C⟩
  | ty n q hb hn => exact ⟨pe_bltn h1 (by rw [S.c.mg]; exact q) hb rfl hn h2, .ty n⟩
theorem cls_names (S : Sk X g F W ct k) : ∀ {es : List Expr} {ys : List Str} {cs : List V} {us : List Value}, namesOf es = some ys → (ys.all (okGl ct)) = true → ClsNms g.mg ys cs us → PA X es (fun _ H Q => Q cs H) ∧ Paired ClsV cs us ∧ cs.length = ys.length
  | [], ys, cs, us, hn, hg, h => by
    cases hn
    cases h
    exact ⟨⟨fun pos pins s σ H Q I q => pa_nil.run pos pins s σ H Q I q⟩, .nil, rfl⟩
  | e :: es, ys, cs, us, hn, hg, h => by
    unfold namesOf at hn
    split at hn
    · rename_i q; cases q
    · rename_i x p es' q
      cases q
      obtain ⟨zs, hz, rfl⟩ := Option.map_eq_some_iff.mp hn
      cases h with
      | cons h1 h2 =>
        rw [List.all_cons, Bool.and_eq_true] at hg
        obtain ⟨p1, k1⟩ := cls_name (np := p) S hg.1 h1
        obtain ⟨p2, k2, l2⟩ := cls_names S hz hg.2 h2
        refine ⟨⟨fun pos pins s σ H Q I q => (pa_cons p1 p2 (star_of (fun e' p' z => by cases z) _)).run pos pins s σ H Q I q⟩, .cons k1 k2, by simp [l2]⟩
    · cases hn
theorem room_hu (r : Room k X.A) : X.A.units + 65 < cLine := by have := r.un; omega
theorem room_hu' (r : Room k X.A) : X.A.units + 64 < cLine := by have := r.un; omega
theorem bF_ok (S : Sk X g F W ct k) {x : Str} {f : List D → Option D} (h : bF x = some f) : ∃ id, CallR X (.builtin id) (bD g f) ∧ bootBuiltins x = some (.builtin id) ∧ x ≠ "__name__" ∧ X.mg x = none := by
  have hK := S.c.K
  have hc := S.c.calm
  have bl : ∀ x, x ∈ bltNames → X.mg x = none := fun x hx => by rw [S.c.mg]; exact S.tb.blt x hx
  unfold bF at h
  split at h
  · rename_i q; subst q; cases h; exact ⟨"len", c_len hK, by decide +kernel, by decide, bl _ (by simp [bltNames])⟩
  split at h
  · rename_i q; subst q; cases h; exact ⟨"all", c_all hc, by decide +kernel, by decide, bl _ (by simp [bltNames])⟩
  split at h
  · rename_i q; subst q; cases h; exact ⟨"any", c_any hc, by decide +kernel, by decide, bl _ (by simp [bltNames])⟩
  split at h
  · rename_i q; subst q; cases h; exact ⟨"sum", c_sum hc, by decide +kernel, by decide, bl _ (by simp [bltNames])⟩
  split at h
  · rename_i q; subst q; cases h; exact ⟨"min", c_min hc, by decide +kernel, by decide, bl _ (by simp [bltNames])⟩
  split at h
  · rename_i q; subst q; cases h; exact ⟨"max", c_max hc, by decide +kernel, by decide, bl _ (by simp [bltNames])⟩
  split at h
  · rename_i q; subst q; cases h; exact ⟨"repr", c_repr hK S.c.gu (room_hu' S.c.room), by decide +kernel, by decide, bl _ (by simp [bltNames])⟩
  · cases h
theorem tF_ok (S : Sk X g F W ct k) {x : Str} {f : List D → Option D} (h : tF x = some f) : ∃ T, CallR X (.type T) (bD g f) ∧ bootBuiltins x = some (.type T) ∧ x ≠ "__name__" ∧ X.mg x = none := by
  have hK := S.c.K
  have bl : ∀ x, x ∈ bltNames → X.mg x = none := fun x hx => by rw [S.c.mg]; exact S.tb.blt x hx
  unfold tF at h
  split at h
  · rename_i q; subst q; cases h; exact ⟨"tuple", c_tuple hK, by decide +kernel, by decide, bl _ (by simp [bltNames])⟩
  split at h
  · rename_i q; subst q; cases h; exact ⟨"list", c_list hK, by decide +kernel, by decide, bl _ (by simp [bltNames])⟩
  split at h
  · rename_i q; subst q; cases h; exact ⟨"int", c_int, by decide +kernel, by decide, bl _ (by simp [bltNames])⟩
  · cases h
/-- what caK tells -/
inductive CaOk (ct : Ct) (x : Str) : List Expr → List Keyword → CaK → Prop where
  | no {args : List Expr} {kws : List Keyword} : CaOk ct x args kws .no
  | bf {e : Expr} {es : List Expr} {f : List D → Option D} (hg : okGl ct x = true) (s : noStar (e :: es) = true) (h : bF x = some f) : CaOk ct x (e :: es) [] (.bf f)
  | bt {e : Expr} {es : List Expr} {f : List D → Option D} (hg : okGl ct x = true) (s : noStar (e :: es) = true) (h : tF x = some f) : CaOk ct x (e :: es) [] (.bt f)
  | fn {args : List Expr} {n : Nat} {dd : List D} (hg : okGl ct x = true) (s : noStar args = true) (h : ct.tb.fn x args.length = some (n, dd)) : CaOk ct x args [] (.fn n dd)
  | err {a : Expr} {c : Nat} (hg : okGl ct x = true) (s : noStar [a] = true) (h : ct.tb.err x = some c) : CaOk ct x [a] [] (.err c a)
  | errK {a : Expr} {c : Nat} {f : Str} {p : Pos} (hg : okGl ct x = true) (h : ct.tb.err x = some c) (hf : f = excF c) : CaOk ct x [] [⟨some f, a, p⟩] (.errK c a)
  | isi {a : Expr} {y : Str} {p : Pos} {κ : Tag → Bool} (hg : okGl ct x = true) (s : noStar [a, .Name y p] = true) (hx : x = "isinstance") (hy : okGl ct y = true) (h : ct.tb.isi [y] = some κ) : CaOk ct x [a, .Name y p] [] (.isi κ a)
  | isiT {a : Expr} {es : List Expr} {ys : List Str} {k : Nat} {p : Pos} {κ : Tag → Bool} (hg : okGl ct x = true) (s : noStar [a, .Tuple es k p] = true) (hx : x = "isinstance") (hn : namesOf es = some ys) (hy : ys.all (okGl ct) = true) (hl : ys.length ≤ 100) (h : ct.tb.isi ys = some κ) : CaOk ct x [a, .Tuple es k p] [] (.isi κ a)
theorem caK_ok (ct : Ct) (x : Str) (args : List Expr) (kws : List Keyword) : CaOk ct x args kws (caK ct x args kws) := by
  unfold caK
  split
  · rename_i hh
    obtain ⟨hg, hs⟩ := hh
    split
    · split
      · rename_i hx
        split
        · split
          · split
            · exact .isi hg hs hx (by assumption) (by assumption)
            · exact .no
          · exact .no
        · split
          · split
            · rename_i hy
              split
              · exact .isiT hg hs hx (by assumption) hy.1 hy.2 (by assumption)
              · exact .no
            · exact .no
          · exact .no
        · exact .no
      · split
        · split
          · exact .err hg hs (by assumption)
          · exact .no
        · split
          · exact .fn hg hs (by assumption)
          · split
            · split
              · exact .no
              · rename_i hb he
                cases args with
                | nil => exact absurd rfl he
                | cons e es => exact .bf hg hs hb
            · split
              · split
                · exact .no
                · rename_i hb he
                  cases args with
                  | nil => exact absurd rfl he
                  | cons e es => exact .bt hg hs hb
              · exact .no
    · split
      · rename_i he
        cases args with
        | nil =>
          split
          · split
            · rename_i hf
              exact .errK hg (by assumption) hf
            · exact .no
          · exact .no
        | cons e es => cases he
      · exact .no
    · exact .no
  · exact .no
theorem snd_ca (S : Sk X g F W ct k) {r : Expr → Ev} (h : ∀ e, PE X e (tI g F W (r e))) (x : Str) (args : List Expr) (kws : List Keyword) : PE X (.Call (.Name x p) args kws pos) (tI g F W (caEv ct r x args kws)) := by
  have hv := snd_vw S h
  have ok := caK_ok ct x args kws
  unfold caEv
  cases q : caK ct x args kws with
  | no => exact pe_no
  | bf f =>
    rw [q] at ok
    cases ok with
    | bf hg hs hb =>
      obtain ⟨id, c1, c2, c3, c4⟩ := bF_ok S hb
      obtain ⟨g1, g2⟩ := okGl_ok S hg
      exact se_b c1 g1 c4 c2 (snd_avv hv _) c3 g2 (noStar2 hs _) (backTo_none (noStar_cons hs).2)
  | bt f =>
    rw [q] at ok
    cases ok with
    | bt hg hs hb =>
      obtain ⟨id, c1, c2, c3, c4⟩ := tF_ok S hb
      obtain ⟨g1, g2⟩ := okGl_ok S hg
      exact se_bty c1 g1 c4 c2 (snd_avv hv _) c3 g2 (noStar2 hs _) (backTo_none (noStar_cons hs).2)
  | fn n dd =>
    rw [q] at ok
    cases ok with
    | fn hg hs hf =>
      obtain ⟨g1, g2⟩ := okGl_ok S hg
      obtain ⟨f, fd, ps, ds, dvs, f1, f2, f3, f4, f5, f6⟩ := (S.tb.fn _ _ _ _ hf).ok
      rw [← S.c.prog, ← S.c.w, ← S.c.K, ← S.c.mg, ← S.c.base] at f1
      cases args with
      | nil => exact se_call0 f1 S.c.room S.c.gu g1 (by rw [S.c.mg]; exact f2) (by rw [S.c.K]; exact f3) (by rw [S.c.K]; exact f4) f5 f6 S.tk g2
      | cons e es => exact se_call f1 S.c.room S.c.gu g1 (by rw [S.c.mg]; exact f2) (by rw [S.c.K]; exact f3) (by rw [S.c.K]; exact f4) f5 f6 S.tk (snd_avs h _) g2 (noStar2 hs _) (backTo_none (noStar_cons hs).2)
  | err c a =>
    rw [q] at ok
    cases ok with
    | err hg hs he =>
      obtain ⟨g1, g2⟩ := okGl_ok S hg
      exact se_err (S.errD (S.tb.errD _ _ he)) S.c.room (S.tb.err _ _ he) g1 (h _) g2 hs
  | errK c a =>
    rw [q] at ok
    cases ok with
    | errK hg he hf =>
      obtain ⟨g1, g2⟩ := okGl_ok S hg
      exact se_errK (S.errD (S.tb.errD _ _ he)) S.c.room (S.tb.err _ _ he) hf g1 (h _) g2
  | isi κ a =>
    rw [q] at ok
    have bi : X.mg "isinstance" = none := by rw [S.c.mg]; exact S.tb.blt _ (by simp [bltNames])
    have io : IsiOk X.K g.mg := by rw [S.c.K]; exact S.tb.isiOk
    cases ok with
    | isi hg hs hx hy hi =>
      subst hx
      obtain ⟨cs, us, k1, k2⟩ := S.tb.isi _ _ hi
      cases k1 with
      | cons h1 h2 =>
        cases h2
        obtain ⟨p1, p2⟩ := cls_name (np := _) S hy h1
        exact se_isi S.c.K io p2 (by rw [S.c.K]; exact k2) (okGl_ok S hg).1 bi (hv _) (by unfold noStar at hs ⊢; simp at hs ⊢; exact hs) p1
    | isiT hg hs hx hn hy hl hi =>
      subst hx
      obtain ⟨cs, us, k1, k2⟩ := S.tb.isi _ _ hi
      obtain ⟨p1, p2, p3⟩ := cls_names S hn hy k1
      exact se_isiT S.c.K io p2 (by rw [S.c.K]; exact k2) (by rw [p3]; exact hl) (okGl_ok S hg).1 bi (hv _) (by unfold noStar at hs ⊢; simp at hs ⊢; exact hs) p1
end
end Wm

namespace Wm
open PySem PySem.Spec PyProof.Rows L2
section
variable {X : Cx} {g : G} {F : Fns} {W : WX} {ct : Ct} {k : Nat} {e a b c o : Expr} {es : List Expr} {pos p : Pos}
theorem bop_ok (S : Sk X g F W ct k) {op : Operator} {f : D → D → Option D} (h : bopD op = some f) : OpR X (binaryOp op) (rD g f) := by
  have hK := S.c.K
  cases op <;> first | cases h; done | skip
  · cases h; exact op_addD hK
  · cases h; exact op_subD
  · cases h; exact op_mulD hK
  · cases h; exact op_modD
  · cases h; exact op_powD
  · cases h; exact op_fdivD
theorem cop_ok (S : Sk X g F W ct k) (op : CmpOp) : OpR X (compareOp op) (rD g (copD op)) := by
  have hK := S.c.K
  have h1 := room_hu' S.c.room
  have h2 := room_hu S.c.room
  cases op
  · exact op_eqDD hK h1
  · exact op_neDD hK h1
  · exact op_ltD
  · exact op_leD
  · exact op_gtD
  · exact op_geD
  · exact op_isDD
  · exact op_notDD
  · exact op_inDD hK h2
  · exact op_ninDD hK h2
theorem snd_ands {r : Expr → Ev} (h : ∀ e, PE X e (tI g F W (r e))) : ∀ es, PE X (.BoolOp .And es pos) (tI g F W (ands r es))
  | [] => pe_no
  | [a] => se_one (h a)
  | a :: b :: es => se_and (h a) (snd_ands h (b :: es))
theorem snd_ors {r : Expr → Ev} (h : ∀ e, PE X e (tI g F W (r e))) : ∀ es, PE X (.BoolOp .Or es pos) (tI g F W (ors r es))
  | [] => pe_no
  | [a] => se_one (h a)
  | a :: b :: es => se_or (h a) (snd_ors h (b :: es))
theorem pw_no : PW X e (tIT g F W tNo) := ⟨fun _ _ _ _ _ _ _ ⟨_, _, _, _, _, _, h⟩ => False.elim h⟩
theorem snd_andW {r : Expr → Tv} (h : ∀ e, PT X e (tIT g F W (r e))) : ∀ es, PW X (.BoolOp .And es pos) (tIT g F W (andT r es))
  | [] => pw_no
  | [a] => sw_and1 (h a)
  | a :: b :: es => sw_and (h a) (snd_andW h (b :: es))
theorem snd_orW {r : Expr → Tv} (h : ∀ e, PT X e (tIT g F W (r e))) : ∀ es, PW X (.BoolOp .Or es pos) (tIT g F W (orT r es))
  | [] => pw_no
  | [a] => sw_or1 (h a)
  | a :: b :: es => sw_or (h a) (snd_orW h (b :: es))
theorem snd_ifs {r : Expr → Tv} (h : ∀ e, PT X e (tIT g F W (r e))) : ∀ es, PTs X es (tIT g F W (ifsT r es))
  | [] => ⟨fun pins s σ H Q I ⟨μ, δ, S, hm, hr, hd, q⟩ => pts_nil.run pins s σ H Q I (q H (Sub.refl _) hd)⟩
  | [c] => pts_one (h c)
  | a :: b :: es => ⟨fun _ _ _ _ _ _ ⟨_, _, _, _, _, _, h⟩ => False.elim h⟩
theorem slotsOf_ok {pr : Str → Bool} {N : List Str} (hN : X.N = N) (hp : ∀ x, pr x = true → Loc X.env.scope x ∧ (X.fn x = true ∨ X.env.scope.names.lookup x = some .local)) : ∀ {es : List Expr} {is : List Nat}, slotsOf pr N es = some is → NamesAt X es is
  | [], is, h => by cases h; trivial
  | e :: es, is, h => by
    unfold slotsOf at h
    split at h
    · rename_i q; cases q
    · rename_i x pp es' q
      cases q
      split at h
      · rename_i hx
        obtain ⟨i, hi, h⟩ := Option.bind_eq_some_iff.mp h
        obtain ⟨js, hj, rfl⟩ := Option.map_eq_some_iff.mp h
        obtain ⟨l1, l2⟩ := hp x hx
        exact ⟨⟨by rw [hN]; exact slotN_ok hi, l1, l2⟩, slotsOf_ok hN hp hj⟩
      · cases h
    · cases h
theorem snd_tg {pr : Str → Bool} {N : List Str} (hK : X.K = g.K) (hc : X.calm = true) (nd : X.N.Nodup) (hN : X.N = N) (hp : ∀ x, pr x = true → Loc X.env.scope x ∧ (X.fn x = true ∨ X.env.scope.names.lookup x = some .local)) {tge : Expr} {tg : Tg} (h : tgOf pr N tge = some tg) : PG X tge (gI g tg) := by
  unfold tgOf at h
  split at h
  · split at h
    · rename_i hx
      obtain ⟨i, hi, rfl⟩ := Option.map_eq_some_iff.mp h
      obtain ⟨l1, l2⟩ := hp _ hx
      exact sg_one nd (by rw [hN]; exact slotN_ok hi) l1 l2
    · cases h
  · obtain ⟨is, hi, rfl⟩ := Option.map_eq_some_iff.mp h
    exact sg_many hK hc nd (slotsOf_ok hN hp hi)
  · cases h
theorem relS_env (S : Sk X g F W ct k) (scope : Scope) (cl : List (Str × Addr)) (C : Addr) : (compEnvC scope cl C X.env).scope = relS scope ct.sc := by
  unfold compEnvC relabel relS
  rw [← S.c.sc]
  rfl
/-- a comprehension's block -/
theorem sk_blk (S : Sk X g F W ct k) (s : Shared) (H : Hp) (scope : Scope) (cl : List (Str × Addr)) (C : Addr) (fp : List Addr) : Sk (X.blk s H scope (compEnvC scope cl C X.env) fp) g F W0 { ct with sc := relS scope ct.sc } k :=
  ⟨⟨S.c.prog, S.c.w, S.c.K, S.c.mg, S.c.base, S.c.hN, relS_env S scope cl C, S.c.nd, S.c.calm, S.c.room, S.c.gu⟩,
    fun u s' ⟨a, B, sI, pins, σ, H, cls, d, e, I, nb, up, sky, na, os, ag, w⟩ => w.elim, S.tb⟩
theorem pl_ix {b : Expr} (h : plainIx b = true) : PlainIx b := by
  intro o i
  cases b <;> first | rfl | cases h
theorem noSet_ok {b : Expr} (h : noSet b = true) (env : PySem.Env) (x : Value) : foldedSetIterable b env x = pure x := by
  cases b <;> first | rfl | cases h
theorem snd_dic0 : PE X (.Dict [] [] pos) (tI g F W (eC (.dic [] []))) := by
  refine pe_mono pe_dnewK fun σ H Q ⟨μ, δ, S, hm, hr, hd, h⟩ => ?_
  intro q hq
  have sm : Same H (upd H q (.dK [])) := Same.new hq
  exact h _ (Sub.of sm) (hd.same sm) (.ref q) ⟨q, [], [], rfl, rfl, rfl, .inl ⟨[], rfl, rfl, hid_new (hm.new hq)⟩⟩

/-! ### every expression runs as the interpreter says -/
structure SndE (g : G) (F : Fns) (k : Nat) (r : Ct → Expr → Ev) : Prop where
  e : ∀ (X : Cx) (W : WX) (ct : Ct), Sk X g F W ct k → ∀ e, PE X e (tI g F W (r ct e))
structure SndT (g : G) (F : Fns) (k : Nat) (t : Ct → Expr → Tv) : Prop where
  t : ∀ (X : Cx) (W : WX) (ct : Ct), Sk X g F W ct k → ∀ e, PT X e (tIT g F W (t ct e))
theorem snd_lc {r : Ct → Expr → Ev} {t : Ct → Expr → Tv} (R : SndE g F k r) (T : SndT g F k t) (S : Sk X g F W ct k) {elt tge iter : Expr} {ifs : List Expr} {scope : Scope} {tg : Tg}
    (h1 : blkC ct.N ct.sc scope (ownOf ct.N scope.names) = true) (h2 : noSet iter = true) (h3 : tgOf (isL (relS scope ct.sc)) ct.N tge = some tg) (h4 : tg.slots.all (fun j => ((ownOf ct.N scope.names).map (·.2)).contains j) = true) :
    (∀ σ H Q, tI g F W (eComp ((ownOf ct.N scope.names).map (·.2)) (ivOf ct (r ct) tge iter) tg (ifsT (t { ct with sc := relS scope ct.sc }) ifs) (r { ct with sc := relS scope ct.sc } elt)) σ H Q →
      tLc (tII g F W (ivOf ct (r ct) tge iter)) (gI g tg) (tIT g F W0 (ifsT (t { ct with sc := relS scope ct.sc }) ifs)) (tI g F W0 (r { ct with sc := relS scope ct.sc } elt)) ((ownOf ct.N scope.names).map (·.2)) σ H Q) ∧
    BlkOk X.N X.env.scope scope (ownOf ct.N scope.names) ∧
    (∀ (s : Shared) (H : Hp) (C : Addr) (cl : List (Str × Addr)) (fp : List Addr), PG (X.blk s H scope (compEnvC scope cl C X.env) fp) tge (gI g tg)) ∧
    (∀ (s : Shared) (H : Hp) (C : Addr) (cl : List (Str × Addr)) (fp : List Addr), PTs (X.blk s H scope (compEnvC scope cl C X.env) fp) ifs (tIT g F W0 (ifsT (t { ct with sc := relS scope ct.sc }) ifs))) ∧
    (∀ (s : Shared) (H : Hp) (C : Addr) (cl : List (Str × Addr)) (fp : List Addr), PE (X.blk s H scope (compEnvC scope cl C X.env) fp) elt (tI g F W0 (r { ct with sc := relS scope ct.sc } elt))) := by
  have nd : X.N.Nodup := by rw [S.c.hN]; exact S.c.nd
  have ok : BlkOk X.N X.env.scope scope (ownOf ct.N scope.names) := by rw [S.c.hN, S.c.sc]; exact blkOk_by h1
  have hg : ∀ (s : Shared) (H : Hp) (C : Addr) (cl : List (Str × Addr)) (fp : List Addr), PG (X.blk s H scope (compEnvC scope cl C X.env) fp) tge (gI g tg) := fun s H C cl fp =>
    snd_tg (X := X.blk s H scope (compEnvC scope cl C X.env) fp) S.c.K S.c.calm nd S.c.hN (fun x hx => by
      have q : (compEnvC scope cl C X.env).scope.names.lookup x = some .local := by rw [relS_env S]; exact isL_ok hx
      exact ⟨.inl q, .inr q⟩) h3
  have ht : ∀ (s : Shared) (H : Hp) (C : Addr) (cl : List (Str × Addr)) (fp : List Addr), PTs (X.blk s H scope (compEnvC scope cl C X.env) fp) ifs (tIT g F W0 (ifsT (t { ct with sc := relS scope ct.sc }) ifs)) := fun s H C cl fp =>
    snd_ifs (fun e => T.t _ _ _ (sk_blk S s H scope cl C fp) e) ifs
  have he : ∀ (s : Shared) (H : Hp) (C : Addr) (cl : List (Str × Addr)) (fp : List Addr), PE (X.blk s H scope (compEnvC scope cl C X.env) fp) elt (tI g F W0 (r { ct with sc := relS scope ct.sc } elt)) := fun s H C cl fp => R.e _ _ _ (sk_blk S s H scope cl C fp) elt
  refine ⟨se_lc S.c.calm nd (snd_iv S (R.e X W ct S) tge iter) ok (fun j hj => ?_) hg ht he (noSet_ok h2 _), ok, hg, ht, he⟩
  have := List.all_eq_true.mp h4 j hj
  simpa using this
theorem snd_step {r : Ct → Expr → Ev} {t : Ct → Expr → Tv} (R : SndE g F k r) (T : SndT g F k t) : SndE g F k (evStep r t) := by
  refine ⟨fun X W ct S e => ?_⟩
  have hr := R.e X W ct S
  have hv := snd_vw S hr
  unfold evStep
  split
  · exact se_int
  · exact se_str
  · exact se_bl
  · exact se_non
  · split
    · rename_i i hi
      obtain ⟨h1, h2, h3, h4⟩ := slotOf_ok S hi
      exact se_var h1 h2 h3 h4
    · exact pe_no
  · split
    · rename_i f hf
      exact se_op (bop_ok S hf) (hv _) (hv _)
    · exact pe_no
  · exact se_un un_negD (hv _)
  · exact se_not (hr _)
  · split
    · exact pe_no
    · rename_i hm
      exact se_cmp (cop_ok S _) (hv _) (hv _) (by simpa using hm)
  · exact snd_ands hr _
  · exact snd_ors hr _
  · exact se_if (T.t X W ct S _) (hr _) (hr _)
  · exact se_tup (snd_avs hr _)
  · exact se_lst (snd_avs hr _)
  · exact snd_dic0
  · split
    · rename_i hp
      exact se_ix S.c.K (hv _) (hv _) (pl_ix hp)
    · exact pe_no
  · split
    · exact pe_no
    · rename_i hs
      exact se_xf (fun c hc => S.errD hc) (hr _) (by simpa using hs)
  · dsimp only
    split
    · rename_i hh
      obtain ⟨h1, h2⟩ := hh
      split
      · rename_i tg h3
        split
        · rename_i h4
          obtain ⟨z1, ok, hg, ht, he⟩ := snd_lc R T S h1 h2 h3 h4
          exact pe_mono (pe_lc S.c.calm (by rw [S.c.hN]; exact S.c.nd) (snd_iv S hr _ _) ok hg ht he (noSet_ok h2 _)) z1
        · exact pe_no
      · exact pe_no
    · exact pe_no
  · exact snd_ca S hr _ _ _
  · exact pe_no

theorem snd_stepT {r : Ct → Expr → Ev} {t : Ct → Expr → Tv} (R : SndE g F k r) (T : SndT g F k t) : SndT g F k (tvStep r t) := by
  refine ⟨fun X W ct S e => ?_⟩
  have hr := R.e X W ct S
  have ht := T.t X W ct S
  have hv := snd_vw S hr
  cases e with
  | Compare a ops bs p =>
    match ops, bs with
    | [op], [b] =>
      show PT X _ (tIT g F W (if behindInMarks op b = true then tNo else cB (eOp (copD op) (vw ct (r ct) a) (vw ct (r ct) b))))
      split
      · exact pt_no
      · rename_i hm
        exact st_cmp (cop_ok S _) (hv _) (hv _) (by simpa using hm)
    | [], _ => exact pt_no
    | [_], [] => exact pt_no
    | [_], _ :: _ :: _ => exact pt_no
    | _ :: _ :: _, _ => exact pt_no
  | BoolOp op es p =>
    cases op with
    | And => exact (snd_andW ht es).pt
    | Or => exact (snd_orW ht es).pt
  | UnaryOp op a p =>
    cases op with
    | Not => exact st_not (ht a)
    | _ => exact pt_no
  | IfExp _ _ _ _ => exact pt_no
  | _ => exact st_val (hr _) (fun _ => rfl)
theorem snd_evs : ∀ n, SndE g F k (evs n).1 ∧ SndT g F k (evs n).2
  | 0 => ⟨⟨fun _ _ _ _ _ => pe_no⟩, ⟨fun _ _ _ _ _ => pt_no⟩⟩
  | n + 1 => by
    obtain ⟨h1, h2⟩ := snd_evs n
    have h3 : SndE g F k (evs (n + 1)).1 := snd_step h1 h2
    exact ⟨h3, snd_stepT h3 h2⟩
/-! ### statements -/
theorem ps_no {st : Stmt} {B : Hp} {b : Addr → Bool} : PS X st (tIS g F W B b zNo) := ⟨fun _ _ _ _ _ _ ⟨_, _, _, _, h⟩ => False.elim h⟩
theorem pss_no {st : List Stmt} {B : Hp} {b : Addr → Bool} : PSs X st (tIS g F W B b zNo) := ⟨fun _ _ _ _ _ _ ⟨_, _, _, _, h⟩ => False.elim h⟩
theorem swaps_no {x : Option Expr} {line : Nat} {env : PySem.Env} (h : ∀ a b s p, e ≠ .ListComp a b s p) (h1 : ∀ a b s p, e ≠ .SetComp a b s p) (h2 : ∀ a b c s p, e ≠ .DictComp a b c s p) : swapsWith e x line env = pure false := by
  cases e <;> first | rfl | exact absurd rfl (h _ _ _ _) | exact absurd rfl (h1 _ _ _ _) | exact absurd rfl (h2 _ _ _ _ _)

theorem zset_no {st : Stmt} {B : Hp} {b : Addr → Bool} {i : Nat} : PS X st (tIS g F W B b (zSet i eNo)) := ⟨fun _ _ _ _ _ _ ⟨_, _, _, _, h⟩ => False.elim h⟩
theorem blockKind_fn (h : X.env.scope.kind = .function) : X.env.blockKind = .function := by
  unfold PySem.Env.blockKind
  rw [h]
  rfl
theorem snd_asg {r : Ct → Expr → Ev} {t : Ct → Expr → Tv} (R : SndE g F k r) (T : SndT g F k t) (S : Sk X g F W ct k) (Dk : Dok X W) {x : Str} {i : Nat} {px : Pos} {B : Hp} {b : Addr → Bool} (hl : isLoc ct.sc x = true) (hi : slotN ct.N x = some i) (e : Expr) :
    PS X (.Assign [.Name x px] e pos) (tIS g F W B b (zSet i (evStep r t ct e))) := by
  have he := (snd_step R T).e X W ct S e
  have nd : X.N.Nodup := by rw [S.c.hN]; exact S.c.nd
  have h1 : X.N[i]? = some x := by rw [S.c.hN]; exact slotN_ok hi
  have h2 : Loc X.env.scope x := by rw [S.c.sc]; exact isLoc_ok hl
  have pl : swapsWith e (some (.Name x px)) pos.line X.env = pure false → PS X (.Assign [.Name x px] e pos) (tIS g F W B b (zSet i (evStep r t ct e))) := fun hs => s_set nd h1 h2 (.inl (Dk.fn x)) he hs
  cases e with
  | SetComp _ _ _ _ => exact zset_no
  | DictComp _ _ _ _ _ => exact zset_no
  | ListComp elt gens scope lp =>
    cases hb : (X.env.blockKind == .function && X.env.kindOf x == some .local && px.line == lp.line && !(scope.names.any fun y => y.1 == x && (y.2 == .local || y.2 == .cell))) with
    | false => exact pl (by
        show (pure _ : Sem Bool) = pure false
        exact congrArg pure hb)
    | true =>
      have hsw : swapsWith (.ListComp elt gens scope lp) (some (.Name x px)) pos.line X.env = pure true := by
        show (pure _ : Sem Bool) = pure true
        exact congrArg pure hb
      have hloc : X.env.scope.names.lookup x = some .local := by
        simp only [Bool.and_eq_true, beq_iff_eq] at hb
        exact hb.1.1.2
      match gens with
      | [⟨tge, iter, ifs, ia⟩] =>
        by_cases q0 : ia = 0
        · subst q0
          show PS X _ (tIS g F W B b (zSet i (if blkC ct.N ct.sc scope (ownOf ct.N scope.names) = true ∧ noSet iter = true then
              match tgOf (isL (relS scope ct.sc)) ct.N tge with
              | some tg => if tg.slots.all (fun j => ((ownOf ct.N scope.names).map (·.2)).contains j) = true then eComp ((ownOf ct.N scope.names).map (·.2)) (ivOf ct (r ct) tge iter) tg (ifsT (t { ct with sc := relS scope ct.sc }) ifs) (r { ct with sc := relS scope ct.sc } elt) else eNo
              | none => eNo
            else eNo)))
          split
          · rename_i hh
            obtain ⟨z1, z2⟩ := hh
            split
            · rename_i tg z3
              split
              · rename_i z4
                obtain ⟨y1, ok, hg, ht, hee⟩ := snd_lc (ifs := ifs) (elt := elt) R T S z1 z2 z3 z4
                exact s_setLc (ps_setLc S.c.calm nd h1 hloc hsw (snd_iv S (R.e X W ct S) tge iter) ok hg ht hee (noSet_ok z2 _)) y1
              · exact zset_no
            · exact zset_no
          · exact zset_no
        · have e0 : evStep r t ct (.ListComp elt [⟨tge, iter, ifs, ia⟩] scope lp) = eNo := by
            unfold evStep
            split <;> rename_i z <;> first | (cases z; done) | (cases z; exact absurd rfl q0) | rfl
          rw [e0]
          exact zset_no
      | [] => exact zset_no
      | g1 :: g2 :: gr =>
        have e0 : evStep r t ct (.ListComp elt (g1 :: g2 :: gr) scope lp) = eNo := by
          unfold evStep
          split <;> rename_i z <;> first | (cases z; done) | rfl
        rw [e0]
        exact zset_no
  | _ => exact pl (swaps_no (fun _ _ _ _ z => by cases z) (fun _ _ _ _ z => by cases z) (fun _ _ _ _ _ z => by cases z))
theorem snd_seqs {B : Hp} {b : Addr → Bool} {z : Stmt → Sv} (h : ∀ s, PS X s (tIS g F W B b (z s))) : ∀ ss, PSs X ss (tIS g F W B b (zSeqs z ss))
  | [] => ss_nil
  | s :: ss => ss_cons (h s) (snd_seqs h ss)
theorem snd_zstep {r : Ct → Expr → Ev} {t : Ct → Expr → Tv} {z : Ct → List Stmt → Sv} (R : SndE g F k r) (T : SndT g F k t) (S : Sk X g F W ct k) (Dk : Dok X W) (Z : ∀ B b ss, PSs X ss (tIS g F W B b (z ct ss))) (B : Hp) (b : Addr → Bool) (st : Stmt) :
    PS X st (tIS g F W B b (zStep (evStep r t) (tvStep (evStep r t) t) z ct st)) := by
  have R' := snd_step R T
  have T' := snd_stepT R' T
  unfold zStep
  split
  · exact s_ret (R'.e X W ct S _)
  · split
    · rename_i hl
      split
      · rename_i i hi
        exact snd_asg R T S Dk hl hi _
      · exact ps_no
    · exact ps_no
  · exact s_doc
  · exact s_if (T'.t X W ct S _) (Z B b _) (Z B b _)
  · split
    · rename_i hs
      split
      · rename_i tg ht
        refine s_for Dk.po S.c.calm (snd_iv S (R'.e X W ct S) _ _) (snd_tg S.c.K S.c.calm (by rw [S.c.hN]; exact S.c.nd) S.c.hN (fun x hx => ⟨by rw [S.c.sc]; exact isLoc_ok hx, .inl (Dk.fn x)⟩) ht) (fun B => Z B b _) (noSet_ok hs _)
      · exact ps_no
    · exact ps_no
  · exact ps_no
theorem snd_zvs (S : Sk X g F W ct k) (Dk : Dok X W) : ∀ n B b ss, PSs X ss (tIS g F W B b (zvs n ct ss))
  | 0, B, b, ss => pss_no
  | n + 1, B, b, ss => snd_seqs (fun st => snd_zstep (snd_evs 39).1 (snd_evs 39).2 S Dk (snd_zvs S Dk n) B b st) ss
end
end Wm

namespace Wm
open PySem PySem.Spec PyProof.Rows L2
/-! ### the draws: plain -/
def dropZ : List Int → List Int
  | [] => []
  | x :: r => if x = 0 then dropZ r else x :: r
def cellP (cells : List Int) (a : Int) : Int := if cells = [] then 5 else cells.getD (((a * a + a / 2) % (cells.length : Int)).toNat) 0
def mixP (cells : List Int) (a many : Int) : Int := (((cellP cells a * 40692 + a * 65539 + 7001 * a * a) % 2147483399 * 48271 + 1013 * a) % 2147483647 / 13) % many
def nextP (cells left : List Int) (n many : Int) : Int × List Int × Int := match dropZ left with
  | r :: t => (r % many, (r / many) :: t, n)
  | [] => (mixP cells (n + 1) many, [], n + 1)
/-! ### the def's readings -/
def rdM (k : Str) : TE := tDGet (tVar 0) (tC (.str k))
def rNe (K : PySem.W.Frag) : R2 := fun x y H Q => ∃ l q xs, x = .ref l ∧ y = .ref q ∧ H l = some (.lst (xs.map V.int)) ∧ H q = some (.lst []) ∧ Q (.bl (!(xs : List Int).isEmpty)) H
theorem dp_ints {K : PySem.W.Frag} {H : Hp} : ∀ xs : List Int, DpAll K H (xs.map V.int) (xs.map PyData.int)
  | [] => .nil
  | x :: xs => .cons (.int x) (dp_ints xs)
theorem lay_ints : ∀ xs : List Int, PyData.canLayAll0 (xs.map PyData.int) = true
  | [] => by simp [PyData.canLayAll0]
  | x :: xs => by simp [PyData.canLayAll0, PyData.canLay0, lay_ints xs]
theorem depth_ints : ∀ xs : List Int, PyData.depthAll (xs.map PyData.int) ≤ 1
  | [] => by simp [PyData.depthAll]
  | x :: xs => by
    have h := depth_ints xs
    simp [PyData.depthAll, PyData.depth] at h ⊢
    try omega
theorem shaped_ints (xs : List Int) : SeqAt.shaped (.list (xs.map PyData.int)) = true := by
  unfold SeqAt.shaped
  rw [Bool.and_eq_true, decide_eq_true_eq]
  have h := depth_ints xs
  exact ⟨by simp [PyData.canLay0, lay_ints], by simp [PyData.depth]; omega⟩
theorem op_neNil {X : Cx} (hu : X.A.units + 64 < cLine) : OpR X (compareOp .NotEq) (rNe X.K) := by
  intro pins s σ H x y v u Q I rx ry ⟨l, q, xs, hx, hy, h1, h2, hq⟩
  subst hx hy
  refine op_neD hu pins s σ H _ _ v u Q I rx ry ⟨.list (xs.map PyData.int), .list [], .lst (.inl (.inl h1)) (dp_ints xs), .lst (.inl (.inl h2)) .nil, shaped_ints xs, rfl, ?_⟩
  have e : PyData.eqv (.list (xs.map PyData.int)) (.list []) = xs.isEmpty := by cases xs <;> rfl
  rw [e]
  exact hq
abbrev rPlus0 : R2 := rI0 fun i j => .int (i + j)
abbrev rEq0 : R2 := fun x y H Q => ∃ i j, x = .int i ∧ y = .int j ∧ Q (.bl (decide (i = j))) H
def tLoop (K : PySem.W.Frag) : TS := tWhile (tAnd (tTest (tOp (rNe K) (rdM "left") (tLst tNil))) (tTest (tOp rEq0 (tOp (rIxL K) (rdM "left") (tC (.int 0))) (tC (.int 0)))))
  (sDPut (tVar 0) (tC (.str "left")) (tSl (rSlL K) (rdM "left") (tPart (tC (.int 1))) tNoPart))
def tGreat (K : PySem.W.Frag) (t1 t2 : TE) : TS := tSeq (tAsg (tOp (rIxL K) (rdM "left") (tC (.int 0))) (gName 2)) (tSeq (tAsg t1 (gSub (rdM "left") (tC (.int 0)) rSetL)) (tRet t2))
def tNextR (K : PySem.W.Frag) (t1 t2 : TE) (t3 : TS) : TS :=
  tSeq (tLoop K) (tSeq (tIfS (tTest (tOp (rNe K) (rdM "left") (tLst tNil))) (tGreat K t1 t2) tNext)
    (tSeq (tPar 3 4 (tCons (tOp rPlus0 (rdM "at") (tC (.int 1))) (tCons (rdM "cells") tNil))) (tSeq (sDPut (tVar 0) (tC (.str "at")) (tVar 3)) t3)))
section
variable {K : PySem.W.Frag} {H : Hp} {am c l : Addr} {n : Int} {σ : L2.St} {Q : VK}
theorem rd_left (h0 : σ[0]? = some (some (.ref am))) (h : H am = some (.dK (dK3 c l n))) (q : Q (.ref l) H) : rdM "left" σ H Q :=
  ⟨_, h0, am, .ref l, rfl, DGet.k (k := Sum.inr ("left" : Str)) h, q⟩
theorem rd_cells (h0 : σ[0]? = some (some (.ref am))) (h : H am = some (.dK (dK3 c l n))) (q : Q (.ref c) H) : rdM "cells" σ H Q :=
  ⟨_, h0, am, .ref c, rfl, DGet.k (k := Sum.inr ("cells" : Str)) h, q⟩
theorem rd_at (h0 : σ[0]? = some (some (.ref am))) (h : H am = some (.dK (dK3 c l n))) (q : Q (.int n) H) : rdM "at" σ H Q :=
  ⟨_, h0, am, .int n, rfl, DGet.k (k := Sum.inr ("at" : Str)) h, q⟩

/-- where the draws stand: the dict, its lists; frame: what was there ahead and isn't theirs is as it was -/
structure DrS (H0 H : Hp) (am c l0 l : Addr) (cells left : List Int) (n : Int) : Prop where
  ne : c ≠ l ∧ am ≠ c ∧ am ≠ l
  hd : H am = some (.dK (dK3 c l n))
  hl : H l = some (.lst (left.map V.int))
  hc : H c = some (.lst (cells.map V.int))
  new : l = l0 ∨ ∀ o, H0 l = some o → ¬ Stab o
  fr : ∀ b o, b ≠ am → b ≠ l0 → H0 b = some o → Stab o → H b = some o
def spNx : Sp := fun vs H Q _ => ∃ am c l cells left n many, vs = [.ref am, .int many] ∧ DrS H H am c l l cells left n ∧ 0 < many ∧ many.natAbs.log2 < 9000 ∧ (0 ≤ n ∧ n < 10 ^ 9) ∧
  ∀ H' l', DrS H H' am c l l' cells (nextP cells left n many).2.1 (nextP cells left n many).2.2 → Q (.int (nextP cells left n many).1) H'
theorem DrS.fresh {H0 H : Hp} {l0 : Addr} {cells left : List Int} (s : DrS H0 H am c l0 l cells left n) {p : Addr} (hp : H p = none) : p = l0 ∨ ∀ o, H0 p = some o → ¬ Stab o := by
  by_cases h2 : p = l0
  · exact .inl h2
  · refine .inr fun o e st => ?_
    by_cases h1 : p = am
    · rw [h1, s.hd] at hp; cases hp
    · rw [s.fr p o h1 h2 e st] at hp
      cases hp
theorem DrS.sub {H0 H H' : Hp} {l0 : Addr} {cells left : List Int} (s : DrS H0 H am c l0 l cells left n) (e : Sub H H') : DrS H0 H' am c l0 l cells left n :=
  ⟨s.ne, e _ _ s.hd trivial, e _ _ s.hl trivial, e _ _ s.hc trivial, s.new, fun b o h1 h2 q st => e _ _ (s.fr b o h1 h2 q st) st⟩
/-- a new list p in the place of left -/
theorem DrS.put {H0 H : Hp} {l0 : Addr} {cells left left' : List Int} (s : DrS H0 H am c l0 l cells left n) {p : Addr} (hp : H p = none) : DrS H0 (upd (upd H p (.lst (left'.map V.int))) am (.dK (dK3 c p n))) am c l0 p cells left' n := by
  have pa : p ≠ am := (ne_of_none s.hd hp).symm
  have pc : p ≠ c := (ne_of_none s.hc hp).symm
  refine ⟨⟨Ne.symm pc, s.ne.2.1, Ne.symm pa⟩, upd_same, by rw [upd_ne pa, upd_same], by rw [upd_ne (Ne.symm s.ne.2.1), upd_ne (Ne.symm pc)]; exact s.hc, s.fresh hp, fun b o h1 h2 e st => ?_⟩
  have q := s.fr b o h1 h2 e st
  rw [upd_ne h1, upd_ne (ne_of_none q hp)]
  exact q
/-- left's own first item written -/
theorem DrS.set {H0 H : Hp} {l0 : Addr} {cells left left' : List Int} (s : DrS H0 H am c l0 l cells left n) : DrS H0 (upd H l (.lst (left'.map V.int))) am c l0 l cells left' n := by
  refine ⟨s.ne, by rw [upd_ne s.ne.2.2]; exact s.hd, upd_same, by rw [upd_ne s.ne.1]; exact s.hc, s.new, fun b o h1 h2 e st => ?_⟩
  by_cases hb : b = l
  · rcases s.new with q | q
    · exact absurd (hb.trans q) h2
    · rw [hb] at e
      exact absurd st (q o e)
  · rw [upd_ne hb]
    exact s.fr b o h1 h2 e st
theorem DrS.setAt {H0 H : Hp} {l0 : Addr} {cells left : List Int} {m : Int} (s : DrS H0 H am c l0 l cells left n) : DrS H0 (upd H am (.dK (dK3 c l m))) am c l0 l cells left m :=
  ⟨s.ne, upd_same, by rw [upd_ne (Ne.symm s.ne.2.2)]; exact s.hl, by rw [upd_ne (Ne.symm s.ne.2.1)]; exact s.hc, s.new, fun b o h1 h2 e st => by rw [upd_ne h1]; exact s.fr b o h1 h2 e st⟩
theorem DrS.lay {H0 H : Hp} {l0 : Addr} {cells left : List Int} (s : DrS H0 H am c l0 l cells left n) {p : Addr} {o : HO} (hp : H p = none) : DrS H0 (upd H p o) am c l0 l cells left n := s.sub (Sub.of (Same.new hp))
theorem put_left {p : Addr} : putK (dK3 c l n) (Sum.inr ("left" : Str) : Key) (.ref p) = dK3 c p n := by
  have e1 : ((Sum.inr ("cells" : Str) : Key) = Sum.inr ("left" : Str)) = False := by simp; decide
  have e2 : ((Sum.inr ("at" : Str) : Key) = Sum.inr ("left" : Str)) = False := by simp; decide
  simp [putK, e1, e2]
theorem put_at {m : Int} : putK (dK3 c l n) (Sum.inr ("at" : Str) : Key) (.int m) = dK3 c l m := by
  have e1 : ((Sum.inr ("cells" : Str) : Key) = Sum.inr ("at" : Str)) = False := by simp; decide
  have e2 : ((Sum.inr ("left" : Str) : Key) = Sum.inr ("at" : Str)) = False := by simp; decide
  simp [putK, e1, e2]

theorem cut1 (x : Int) (xs : List Int) : cutV ((x :: xs).map V.int) (some 1) none = xs.map V.int := by
  unfold cutV
  simp [HT.sIx]
  exact List.take_of_length_le (by simp)
theorem dropZ_nil {left : List Int} (h : dropZ left = []) : nextP cells left n many = (mixP cells (n + 1) many, [], n + 1) := by
  unfold nextP
  rw [h]
theorem dropZ_cons {left t : List Int} {r : Int} (h : dropZ left = r :: t) : nextP cells left n many = (r % many, (r / many) :: t, n) := by
  unfold nextP
  rw [h]
/-- the test «left isn't empty» -/
theorem ne_test {H0 H : Hp} {l0 : Addr} {cells left : List Int} {σ : L2.St} {Q : Bool → Hp → Prop} (h0 : σ[0]? = some (some (.ref am))) (s : DrS H0 H am c l0 l cells left n)
    (q : ∀ H1, DrS H0 H1 am c l0 l cells left n → Q (!left.isEmpty) H1) : tTest (tOp (rNe K) (rdM "left") (tLst tNil)) σ H Q := by
  refine rd_left h0 s.hd ⟨Nat.zero_le _, fun p hp => ?_⟩
  have s1 := s.lay (o := .lst []) hp
  exact ⟨l, p, left, rfl, rfl, s1.hl, upd_same, _, rfl, q _ s1⟩
theorem sq_of {H : Hp} {a : Addr} {xs : List V} (h : H a = some (.lst xs)) : SqL K H a xs := .inl (.inl h)
theorem next_loop {H0 H : Hp} {l0 : Addr} {cells left : List Int} {σ : L2.St} {D : Ends} (h0 : σ[0]? = some (some (.ref am))) (s : DrS H0 H am c l0 l cells left n)
    (q : ∀ H1 l1, DrS H0 H1 am c l0 l1 cells (dropZ left) n → D.nx σ H1) : tLoop K D σ H := by
  refine ⟨fun m σ' H' => σ' = σ ∧ ∃ l1 left1, m = left1.length ∧ dropZ left1 = dropZ left ∧ DrS H0 H' am c l0 l1 cells left1 n, ⟨_, rfl, l, left, rfl, rfl, s⟩, ?_⟩
  rintro m σ1 H' ⟨e1, l1, left1, rfl, hd, s1⟩
  rw [e1]
  refine ne_test h0 s1 fun H1 s2 => ?_
  cases left1 with
  | nil =>
    show D.nx _ H1
    rw [show dropZ [] = ([] : List Int) from rfl] at hd
    rw [← hd] at q
    exact q H1 l1 s2
  | cons x xs =>
    rw [if_pos (by rfl)]
    refine rd_left h0 s2.hd ⟨l1, _, 0, .int x, rfl, rfl, sq_of s2.hl, by simp [atI, ixN], x, 0, rfl, rfl, _, rfl, ?_⟩
    by_cases hx : x = 0
    · rw [decide_eq_true hx]
      show (if true = true then _ else _)
      rw [if_pos rfl]
      refine ⟨fun σ' H' => σ' = σ ∧ ∃ l1 left2, left2.length = xs.length ∧ dropZ left2 = dropZ left ∧ DrS H0 H' am c l0 l1 cells left2 n, fun σ' H' ⟨e, l2, left2, z1, z2, z3⟩ => ⟨left2.length, by rw [z1]; simp, e, l2, left2, rfl, z2, z3⟩, ?_⟩
      have hd' : dropZ xs = dropZ left := by
        rw [← hd]
        show dropZ xs = (if x = 0 then dropZ xs else x :: xs)
        rw [if_pos hx]
      refine rd_left h0 s2.hd ⟨1, rfl, l1, _, rfl, sq_of s2.hl, fun p hp => ?_⟩
      rw [cut1]
      have s3 := s2.put (left' := xs) hp
      refine ⟨_, h0, am, _, rfl, DPut.k (k := Sum.inr "left") (kvs := dK3 c l1 n) ?_ (by rw [sizeLine_eq]; show 3 < 16777216; decide), rfl, p, xs, rfl, hd', ?_⟩
      · rw [upd_ne (ne_of_none s2.hd hp)]
        exact s2.hd
      · rw [put_left]
        exact s3
    · rw [decide_eq_false hx]
      show (if false = true then _ else _)
      rw [if_neg Bool.false_ne_true]
      refine q H1 l1 ?_
      rw [← hd]
      show DrS H0 H1 am c l0 l1 cells (if x = 0 then dropZ xs else x :: xs) n
      rw [if_neg hx]
      exact s2

abbrev N7 : List Str := ["m", "many", "rest", "at", "bits", "cell", "blend"]
theorem next_reads {t1 t2 : TE} {t3 : TS} {E : XK} {vs : List V}
    (h1 : ∀ am many rest H1 Q', 0 < many → many.natAbs.log2 < 9000 → (∀ H2, Sub H1 H2 → Q' (.int (rest / many)) H2) → t1 [some (.ref am), some (.int many), some (.int rest), none, none, none, none] H1 Q')
    (h2 : ∀ am many rest H1 Q', 0 < many → many.natAbs.log2 < 9000 → (∀ H2, Sub H1 H2 → Q' (.int (rest % many)) H2) → t2 [some (.ref am), some (.int many), some (.int rest), none, none, none, none] H1 Q')
    (h3 : ∀ am many a cells c H1 (D : Ends), 0 < many → 0 ≤ a ∧ a ≤ 10 ^ 9 → H1 c = some (.lst (cells.map V.int)) → (∀ H2, Sub H1 H2 → D.rt (.int (mixP cells a many)) H2) → t3 D [some (.ref am), some (.int many), none, some (.int a), some (.ref c), none, none] H1)
    (hs : spNx vs H Q E) : tNextR K t1 t2 t3 { nx := fun _ H' => Q .non H', rt := Q } (start N7 vs) H := by
  obtain ⟨am, c, l, cells, left, n, many, rfl, s, hm, hz, hn, hq⟩ := hs
  refine next_loop (am := am) rfl s fun H1 l1 s1 => ?_
  refine ne_test (am := am) rfl s1 fun H2 s2 => ?_
  cases hd : dropZ left with
  | nil =>
    rw [hd] at s2
    rw [dropZ_nil hd] at hq
    show (if false = true then _ else _)
    rw [if_neg Bool.false_ne_true]
    refine rd_at (am := am) rfl s2.hd ⟨n, 1, rfl, rfl, rd_cells (am := am) rfl s2.hd ⟨_, _, rfl, ?_⟩⟩
    have s3 := s2.setAt (m := n + 1)
    refine ⟨.int (n + 1), rfl, .ref am, rfl, am, _, rfl, DPut.k (k := Sum.inr "at") s2.hd (by rw [sizeLine_eq]; show 3 < 16777216; decide), ?_⟩
    rw [put_at]
    exact h3 am many (n + 1) cells c _ _ hm ⟨by omega, by omega⟩ s3.hc fun H3 sb => hq H3 l1 (s3.sub sb)
  | cons r t =>
    rw [hd] at s2
    rw [dropZ_cons hd] at hq
    show (if true = true then _ else _)
    rw [if_pos rfl]
    refine rd_left (am := am) rfl s2.hd ⟨l1, _, 0, .int r, rfl, rfl, sq_of s2.hl, by simp [atI, ixN], ?_⟩
    refine h1 am many r H2 _ hm hz fun H3 sb => ?_
    have s3 := s2.sub sb
    refine rd_left (am := am) rfl s3.hd ⟨l1, _, 0, 0, rfl, rfl, s3.hl, by simp [ixN], ?_⟩
    have s4 := s3.set (left' := (r / many) :: t)
    refine h2 am many r _ _ hm hz fun H4 sb4 => hq H4 l1 (s4.sub sb4)
end
end Wm

namespace Wm
open PySem PySem.Spec PyProof.Rows L2
def nextF : List D → M D := fun ds S => match ds, S with
  | [.drw a, .int many], .on am cells left n => if a = am ∧ 0 < many ∧ many.natAbs.log2 < 9000 ∧ 0 ≤ n ∧ n < 10 ^ 9 then .ok (.int (nextP cells left n many).1) (.on am cells (nextP cells left n many).2.1 (nextP cells left n many).2.2) else .no
  | _, _ => .no
section
variable {g : G} {k : Nat} {f : Addr} {fd : FuncData}
theorem next_conv (Gn : FnG g.P g.w g.K g.mg g.base k f fd ["m", "many"] spNx) : FnG g.P g.w g.K g.mg g.base k f fd ["m", "many"] (spI g nextF) := by
  have cs : ∀ {ds : List D} {S : DS} {okP : D → DS → Hp → Prop} {exP : Xc → DS → Hp → Prop} {H : Hp}, FinG g H okP exP (nextF ds S) → ∃ am many cells left n, ds = [.drw am, .int many] ∧ S = .on am cells left n ∧ 0 < many ∧ many.natAbs.log2 < 9000 ∧ (0 ≤ n ∧ n < 10 ^ 9) ∧
      ∀ H', Sub H H' → DOk g H' (.on am cells (nextP cells left n many).2.1 (nextP cells left n many).2.2) → okP (.int (nextP cells left n many).1) (.on am cells (nextP cells left n many).2.1 (nextP cells left n many).2.2) H' := by
    intro ds S okP exP H h
    unfold nextF at h
    split at h
    · split at h
      · rename_i q
        obtain ⟨rfl, q1, q2, q3⟩ := q
        exact ⟨_, _, _, _, _, rfl, rfl, q1, q2, q3, h⟩
      · exact False.elim h
    · exact False.elim h
  refine ⟨fun vs H Q E ⟨m, ds, S, _, _, r, h⟩ => ?_, fun A out s H ar us vs Q E hr hg e0 hb rv ⟨m, ds, S, hm, hd, r, h⟩ => ?_⟩
  · obtain ⟨am, many, cells, left, n, rfl, _⟩ := cs h
    rw [r.length]
    rfl
  · obtain ⟨am, many, cells, left, n, rfl, rfl, h1, h2, h2', h3⟩ := cs h
    obtain ⟨c, l, ne, d1, d2, d3⟩ := hd
    obtain ⟨v1, vs1, rfl, e1, v2, vs2, rfl, e2, e3⟩ := r
    cases (show vs2 = [] from e3)
    cases (show v1 = .ref am from e1)
    cases (show v2 = .int many from e2)
    have oth : ∀ b, H b = none → b ≠ am ∧ b ≠ l ∧ b ≠ c := fun b e => ⟨fun z => (by rw [z, d1] at e; cases e), fun z => (by rw [z, d2] at e; cases e), fun z => (by rw [z, d3] at e; cases e)⟩
    have inN : ∀ b, H b = none → inH H am c l cells left n b = none := fun b e => by
      obtain ⟨z1, z2, z3⟩ := oth b e
      rw [inH_other z1 z2 z3]
      exact e
    have nst : ∀ b o, H b = some o → (∀ φ, o ≠ .ext φ) → b ≠ am ∧ b ≠ l ∧ b ≠ c := fun b o e q => ⟨fun z => (by rw [z, d1] at e; cases e; exact q _ rfl), fun z => (by rw [z, d2] at e; cases e; exact q _ rfl), fun z => (by rw [z, d3] at e; cases e; exact q _ rfl)⟩
    have inS : ∀ b o, H b = some o → (∀ φ, o ≠ .ext φ) → inH H am c l cells left n b = some o := fun b o e q => by
      obtain ⟨z1, z2, z3⟩ := nst b o e q
      rw [inH_other z1 z2 z3]
      exact e
    have e0' : Env0 g.P g.w g.K g.mg g.base A out s (inH H am c l cells left n) := ⟨e0.frames, e0.mod, fun b o q => ⟨(e0.bs b o q).1, inN b (e0.bs b o q).2⟩, e0.bsz, e0.funs, fun b hb => inN b (e0.frf b hb), hok_in ne e0.hok d1 d2 d3, e0.bare⟩
    have S0 : DrS (inH H am c l cells left n) (inH H am c l cells left n) am c l l cells left n := ⟨ne, inH_am, inH_l ne.2.2, inH_c ne.1 ne.2.1, .inl rfl, fun b o _ _ e _ => e⟩
    have run := Gn.go A out s (inH H am c l cells left n) ar us [.ref am, .int many] (fun v H' => ∃ l', v = .int (nextP cells left n many).1 ∧ DrS (inH H am c l cells left n) H' am c l l' cells (nextP cells left n many).2.1 (nextP cells left n many).2.2) (fun _ _ _ => False) hr hg e0' hb rv
      ⟨am, c, l, cells, left, n, many, rfl, S0, h1, h2, h2', fun H' l' q => ⟨l', rfl, q⟩⟩
    refine codeAny_mono run fun r' s' z => ?_
    cases r' with
    | error e =>
      obtain ⟨_, _, _, _, _, _, _, _, _, _, _, _, ff⟩ := z
      exact ff.elim
    | ok fl =>
      cases fl with
      | ret u =>
        obtain ⟨v, H2, os, bare, un, hok, rvu, l', rfl, sd⟩ := z
        have o2 : ∀ b, H2 b = none → b ≠ am ∧ b ≠ l' ∧ b ≠ c := fun b e => ⟨fun z => (by rw [z, sd.hd] at e; cases e), fun z => (by rw [z, sd.hl] at e; cases e), fun z => (by rw [z, sd.hc] at e; cases e)⟩
        have o3 : ∀ b o, H2 b = some o → (∀ xs, o ≠ .lst xs) → (∀ kv, o ≠ .dK kv) → outH g.P g.w H2 am c l' cells (nextP cells left n many).2.1 (nextP cells left n many).2.2 b = some o := fun b o e q1 q2 => by
          rw [outH_other (fun z => by rw [z, sd.hd] at e; cases e; exact q2 _ rfl) (fun z => by rw [z, sd.hl] at e; cases e; exact q1 _ rfl) (fun z => by rw [z, sd.hc] at e; cases e; exact q1 _ rfl)]
          exact e
        refine ⟨.int (nextP cells left n many).1, outH g.P g.w H2 am c l' cells (nextP cells left n many).2.1 (nextP cells left n many).2.2, os, bare, ⟨fun b o q n1 n2 n3 => un.keep b o q (inN b n1) n2 n3, fun b o q n1 n2 n3 => un.slot b o q (inN b n1) n2 n3, fun b o q n1 n2 => ?_, un.there, fun b xs q => ?_, fun b o u q => ?_, fun b ps q => ?_⟩, hok_out sd.ne hok sd.hd sd.hl sd.hc, rvu, ?_⟩
        · have q2 := un.free b o q (inN b n1) n2
          obtain ⟨z1, z2, z3⟩ := o2 b q2
          rw [outH_other z1 z2 z3]
          exact q2
        · exact o3 b _ (un.tups b xs (inS b _ q fun φ z => by cases z)) (fun _ z => by cases z) (fun _ z => by cases z)
        · exact o3 b _ (un.frzs b o u (inS b _ q fun φ z => by cases z)) (fun _ z => by cases z) (fun _ z => by cases z)
        · obtain ⟨more, q2⟩ := un.tbls b ps (inS b _ q fun φ z => by cases z)
          exact ⟨more, o3 b _ q2 (fun _ z => by cases z) (fun _ z => by cases z)⟩
        · refine h3 _ (fun b o e st => ?_) (dok_out rfl rfl sd.ne) _ rfl
          have nx : ∀ φ, o ≠ .ext φ := fun φ z => by rw [z] at st; exact st
          obtain ⟨z1, z2, z3⟩ := nst b o e nx
          have q1 := inS b o e nx
          have q2 := sd.fr b o z1 z2 q1 st
          rw [outH_other z1 (fun z => ?_) z3]
          · exact q2
          · rcases sd.new with w | w
            · exact z2 (z.trans w)
            · rw [z] at q1
              exact w o q1 st
      | _ => exact z
end
end Wm

namespace Wm
open PySem PySem.Spec PyProof.Rows L2
/-! ### the draws begun -/
def great (cells : List Int) : List Int := cells.filter fun c => decide (c ≥ 10 ^ 18)
def rList (K : PySem.W.Frag) : List V → Hp → VK → Prop := fun xs H Q => ∃ p ys, xs = [.ref p] ∧ (SqL K H p ys ∨ SqT K H p ys) ∧ ∀ l, H l = none → Q (.ref l) (upd H l (.lst ys))
def tBegR (K : PySem.W.Frag) (tt : TT) : TS := tRet (tDisp [(tC (.str "cells"), tCB (rList K) (tCons (tVar 0) tNil)), (tC (.str "left"), tLc (iList K (tVar 0)) (gName 1) tt (tVar 1) [1]), (tC (.str "at"), tC (.int 0))])
/-- new draws: the dict and its lists weren't there ahead -/
structure DrN (H0 H : Hp) (am c l : Addr) (cells left : List Int) : Prop where
  ne : c ≠ l ∧ am ≠ c ∧ am ≠ l
  hd : H am = some (.dK (dK3 c l 0))
  hl : H l = some (.lst (left.map V.int))
  hc : H c = some (.lst (cells.map V.int))
  sub : Sub H0 H
  nst : ∀ b o, b = am ∨ b = l ∨ b = c → H0 b = some o → ¬ Stab o
def spBg (K : PySem.W.Frag) : Sp := fun vs H Q _ => ∃ sc cells, vs = [.ref sc] ∧ SqL K H sc (cells.map V.int) ∧ cells.length ≤ 1000 ∧ ∀ H' am c l, DrN H H' am c l cells (great cells) → Q (.ref am) H'
theorem take_next {α : Type} : ∀ {l : List α} {i : Nat} {x : α}, l[i]? = some x → l.take (i + 1) = l.take i ++ [x]
  | [], i, x, h => by simp at h
  | a :: l, 0, x, h => by
    obtain rfl : a = x := by simpa using h
    rfl
  | a :: l, i + 1, x, h => by
    show a :: l.take (i + 1) = a :: l.take i ++ [x]
    rw [take_next (l := l) (i := i) (x := x) (by simpa using h)]
    rfl
theorem great_snoc (xs : List Int) (x : Int) : great (xs ++ [x]) = if x ≥ 10 ^ 18 then great xs ++ [x] else great xs := by
  unfold great
  rw [List.filter_append]
  by_cases h : x ≥ 10 ^ 18
  · have h' : (1000000000000000000 : Int) ≤ x := h
    rw [if_pos h]
    simp [h']
  · have h' : ¬ (1000000000000000000 : Int) ≤ x := h
    rw [if_neg h]
    simp [h']
theorem begun_reads {K : PySem.W.Frag} {tt : TT} {Q : VK} {E : XK} {vs : List V} {H : Hp}
    (ht : ∀ sc x H Q, (∀ H2, Sub H H2 → Q (decide (x ≥ 10 ^ 18)) H2) → tt [some (.ref sc), some (.int x)] H Q)
    (hs : spBg K vs H Q E) : tBegR K tt { nx := fun _ H' => Q .non H', rt := Q } (start ["script", "cell"] vs) H := by
  obtain ⟨sc, cells, rfl, hsc, hz, hq⟩ := hs
  intro p hp
  have sp : Sub H (upd H p (.dK [])) := Sub.of (Same.new hp)
  have hsc1 := sq_monoL sp hsc
  refine ⟨.ref sc, rfl, sc, _, rfl, .inl hsc1, fun c hc => ?_⟩
  have sc1 : Sub (upd H p (.dK [])) (upd (upd H p (.dK [])) c (.lst (cells.map V.int))) := Sub.of (Same.new hc)
  have hsc2 := sq_monoL sc1 hsc1
  refine ⟨.ref sc, rfl, sc, rfl, ⟨_, hsc2⟩, fun D hD => ?_⟩
  have hDp : D ≠ p := fun z => by rw [z, upd_ne (fun w => by rw [← w, upd_same] at hc; cases hc), upd_same] at hD; cases hD
  have hDc : D ≠ c := fun z => by rw [z, upd_same] at hD; cases hD
  have hpc : p ≠ c := fun z => by rw [← z, upd_same] at hc; cases hc
  have h0D : ∀ o, H D = some o → ¬ Stab o := fun o e st => by rw [sc1 _ _ (sp _ _ e st) st] at hD; cases hD
  have h0c : ∀ o, H c = some o → ¬ Stab o := fun o e st => by rw [sp _ _ e st] at hc; cases hc
  have h0p : ∀ o, H p = some o → ¬ Stab o := fun o e st => by rw [hp] at e; cases e
  refine lc_list (K := K) (a := sc) (xs := cells.map V.int) (fun i H' => (∀ b o, b ≠ D → upd (upd H p (.dK [])) c (.lst (cells.map V.int)) b = some o → Stab o → H' b = some o) ∧ H' D = some (.lst ((great (cells.take i)).map V.int))) ?_ ?_ ?_ ?_
  · refine ⟨fun b o hb e _ => ?_, ?_⟩
    · rw [upd_ne hb]; exact e
    · rw [upd_same]; rfl
  · intro i H' _ ⟨k, _⟩
    rcases hsc2 with (h | ⟨o, h⟩) | h
    · exact .inl (.inl (k _ _ (fun z => by rw [z, hD] at h; cases h) h trivial))
    · exact .inl (.inr ⟨o, k _ _ (fun z => by rw [z, hD] at h; cases h) h trivial⟩)
    · exact .inr h
  · intro i x H' hx ⟨k, hD'⟩
    obtain ⟨y, hy, rfl⟩ : ∃ y, cells[i]? = some y ∧ V.int y = x := by
      rw [List.getElem?_map] at hx
      exact Option.map_eq_some_iff.mp hx
    refine ⟨rfl, ht sc y H' _ fun H2 sb => ?_⟩
    rw [take_next hy, great_snoc]
    by_cases hyy : y ≥ 10 ^ 18
    · rw [decide_eq_true hyy, if_pos rfl, if_pos hyy]
      refine ⟨.int y, rfl, _, sb _ _ hD' trivial, ?_, fun b o hb e st => ?_, ?_⟩
      · have h1 : (great (cells.take i)).length ≤ cells.length := Nat.le_trans (List.length_filter_le _ _) (by simp; omega)
        rw [List.length_map, sizeLine_eq]
        omega
      · rw [upd_ne hb]
        exact sb _ _ (k b o hb e st) st
      · rw [upd_same]; simp
    · rw [decide_eq_false hyy, if_neg Bool.false_ne_true, if_neg hyy]
      exact ⟨fun b o hb e st => sb _ _ (k b o hb e st) st, sb _ _ hD' trivial⟩
  · intro H' ⟨k, hD'⟩
    have hp' : H' p = some (.dK []) := k _ _ hDp.symm (by rw [upd_ne hpc, upd_same]) trivial
    have hc' : H' c = some (.lst (cells.map V.int)) := k _ _ hDc.symm upd_same trivial
    refine ⟨hp', [(Sum.inr "cells", .ref c), (Sum.inr "left", .ref D), (Sum.inr "at", .int 0)], rfl, by simp, ?_⟩
    have em : mergeK [] [((Sum.inr ("cells" : Str) : Key), V.ref c), (Sum.inr ("left" : Str), .ref D), (Sum.inr ("at" : Str), .int 0)] = dK3 c D 0 := by
      have e1 : ((Sum.inr ("cells" : Str) : Key) = Sum.inr ("left" : Str)) = False := by simp; decide
      have e2 : ((Sum.inr ("cells" : Str) : Key) = Sum.inr ("at" : Str)) = False := by simp; decide
      have e3 : ((Sum.inr ("left" : Str) : Key) = Sum.inr ("at" : Str)) = False := by simp; decide
      simp [mergeK, putK, e1, e2, e3]
    rw [em]
    refine hq _ p c D ⟨⟨hDc.symm, hpc, hDp.symm⟩, upd_same, ?_, ?_, fun b o e st => ?_, fun b o hb e => ?_⟩
    · rw [upd_ne hDp, hD']; simp
    · rw [upd_ne hpc.symm]; exact hc'
    · have n1 : b ≠ p := fun z => by rw [z, hp] at e; cases e
      have n2 : b ≠ D := fun z => by rw [z] at e; exact h0D o e st
      rw [upd_ne n1]
      exact k b o n2 (sc1 _ _ (sp _ _ e st) st) st
    · rcases hb with rfl | rfl | rfl
      · exact h0p o e
      · exact h0D o e
      · exact h0c o e

/-! ### the same, with the draws kept as ours -/
def spBgO (g : G) : Sp := fun vs H Q _ => ∃ sc cells, vs = [.ref sc] ∧ SqL g.K H sc (cells.map V.int) ∧ cells.length ≤ 1000 ∧ ∀ H' am, Sub H H' → DOk g H' (.on am cells (great cells) 0) → Q (.ref am) H'
theorem begun_conv {g : G} {k : Nat} {f : Addr} {fd : FuncData} (Gn : FnG g.P g.w g.K g.mg g.base k f fd ["script"] (spBg g.K)) : FnG g.P g.w g.K g.mg g.base k f fd ["script"] (spBgO g) := by
  refine ⟨fun vs H Q E ⟨sc, cells, e, _⟩ => by rw [e]; rfl, fun A out s H ar us vs Q E hr hg e0 hb rv ⟨sc, cells, e, h1, h2, h3⟩ => ?_⟩
  have run := Gn.go A out s H ar us vs (fun v H' => ∃ am c l, v = .ref am ∧ DrN H H' am c l cells (great cells)) (fun _ _ _ => False) hr hg e0 hb rv ⟨sc, cells, e, h1, h2, fun H' am c l q => ⟨am, c, l, rfl, q⟩⟩
  refine codeAny_mono run fun r' s' z => ?_
  cases r' with
  | error e =>
    obtain ⟨_, _, _, _, _, _, _, _, _, _, _, _, ff⟩ := z
    exact ff.elim
  | ok fl =>
    cases fl with
    | ret u =>
      obtain ⟨v, H2, os, bare, un, hok, rvu, am, c, l, rfl, sd⟩ := z
      have o2 : ∀ b, H2 b = none → b ≠ am ∧ b ≠ l ∧ b ≠ c := fun b e => ⟨fun z => (by rw [z, sd.hd] at e; cases e), fun z => (by rw [z, sd.hl] at e; cases e), fun z => (by rw [z, sd.hc] at e; cases e)⟩
      have o3 : ∀ b o, H2 b = some o → (∀ xs, o ≠ .lst xs) → (∀ kv, o ≠ .dK kv) → outH g.P g.w H2 am c l cells (great cells) 0 b = some o := fun b o e q1 q2 => by
        rw [outH_other (fun z => by rw [z, sd.hd] at e; cases e; exact q2 _ rfl) (fun z => by rw [z, sd.hl] at e; cases e; exact q1 _ rfl) (fun z => by rw [z, sd.hc] at e; cases e; exact q1 _ rfl)]
        exact e
      refine ⟨.ref am, outH g.P g.w H2 am c l cells (great cells) 0, os, bare, ⟨un.keep, un.slot, fun b o q n1 n2 => ?_, un.there, fun b xs q => ?_, fun b o u q => ?_, fun b ps q => ?_⟩, hok_out sd.ne hok sd.hd sd.hl sd.hc, rvu, ?_⟩
      · have q2 := un.free b o q n1 n2
        obtain ⟨z1, z2, z3⟩ := o2 b q2
        rw [outH_other z1 z2 z3]
        exact q2
      · exact o3 b _ (un.tups b xs q) (fun _ z => by cases z) (fun _ z => by cases z)
      · exact o3 b _ (un.frzs b o u q) (fun _ z => by cases z) (fun _ z => by cases z)
      · obtain ⟨more, q2⟩ := un.tbls b ps q
        exact ⟨more, o3 b _ q2 (fun _ z => by cases z) (fun _ z => by cases z)⟩
      · refine h3 _ am (fun b o e st => ?_) (dok_out rfl rfl sd.ne)
        rw [outH_other (fun z => sd.nst b o (.inl z) e st) (fun z => sd.nst b o (.inr (.inl z)) e st) (fun z => sd.nst b o (.inr (.inr z)) e st)]
        exact sd.sub b o e st
    | _ => exact z
end Wm

namespace Wm
open PySem PySem.Spec PyProof.Rows L2
/-- the rest of the draw: by words -/
def ZR : Sv := zSeq (zSet 5 (eIf (cB (eOp neD (eVarV 4) (eLst aNil))) (eB intF (aCons (eOp ixD (eVarV 4) (eOp modD (eB intF (aCons (eOp addD (eOp mulD (eVarV 3) (eVarV 3)) (eOp fdivD (eVarV 3) (eC (.int 2)))) aNil)) (eB lenF (aCons (eVarV 4) aNil)))) aNil)) (eC (.int 5))))
  (zSeq (zSet 6 (eOp modD (eB intF (aCons (eOp addD (eOp addD (eOp mulD (eVarV 5) (eC (.int 40692))) (eOp mulD (eVarV 3) (eC (.int 65539)))) (eOp mulD (eOp mulD (eC (.int 7001)) (eVarV 3)) (eVarV 3))) aNil)) (eC (.int 2147483399))))
  (zSeq (zRet (eOp modD (eB intF (aCons (eOp fdivD (eOp modD (eB intF (aCons (eOp addD (eOp mulD (eVarV 6) (eC (.int 48271))) (eOp mulD (eC (.int 1013)) (eVarV 3))) aNil)) (eC (.int 2147483647))) (eC (.int 13))) aNil)) (eVarV 1))) zNil))
theorem mul_small {i j : Int} (h : i.natAbs < 2 ^ 63 ∨ j.natAbs < 2 ^ 63) : mulD (.int i) (.int j) = some (.int (i * j)) := if_pos (.inl h)
theorem mod_pos {i j : Int} (h : 0 < j) : modD (.int i) (.int j) = some (.int (i % j)) := if_pos h
theorem py_ints : ∀ xs : List Int, pyL (xs.map D.int) = some (xs.map PyData.int)
  | [] => rfl
  | x :: xs => by
    show ((pyD (.int x)).bind fun a => (pyL (xs.map D.int)).map (a :: ·)) = _
    rw [py_ints xs]
    rfl
theorem ne_ints (xs : List Int) : neD (.lst (xs.map D.int)) (.lst []) = some (.bl (!xs.isEmpty)) := by
  unfold neD eqB
  have e : pyD (.lst (xs.map D.int)) = some (.list (xs.map PyData.int)) := by
    show (pyL (xs.map D.int)).map PyData.list = _
    rw [py_ints]
    rfl
  have e2 : pyD (.lst []) = some (.list []) := rfl
  rw [e, e2]
  show Option.map _ (if SeqAt.shaped (.list (xs.map PyData.int)) = true ∧ SeqAt.shaped (.list []) = true then some (PyData.eqv (.list (xs.map PyData.int)) (.list [])) else none) = _
  rw [if_pos ⟨shaped_ints xs, rfl⟩]
  cases xs <;> rfl
theorem op_ok {F : Fns} {δ : Env} {S S1 S2 : DS} {f : D → D → Option D} {a b : Ev} {x y z : D} (ha : a F δ S = .ok x S1) (hb : b F δ S1 = .ok y S2) (h : f x y = some z) : eOp f a b F δ S = .ok z S2 := by
  show Out.bind (a F δ S) _ = _
  rw [ha]
  show Out.bind (b F δ S1) _ = _
  rw [hb]
  show M.of (f x y) S2 = _
  rw [h]
  rfl
theorem b_ok {F : Fns} {δ : Env} {S S1 : DS} {f : List D → Option D} {a : Ev} {x z : D} (ha : a F δ S = .ok x S1) (h : f [x] = some z) : eB f (aCons a aNil) F δ S = .ok z S1 := by
  show Out.bind (Out.bind (a F δ S) _) _ = _
  rw [ha]
  show M.of (f [x]) S1 = _
  rw [h]
  rfl
theorem ZR_is {F : Fns} {many a : Int} {cells : List Int} {S : DS} (hm : 0 < many) (ha : 0 ≤ a ∧ a ≤ 10 ^ 9) : ZR F [none, some (.dat (.int many)), none, some (.dat (.int a)), some (.dat (.lst (cells.map D.int))), none, none] S = .rt (.int (mixP cells a many)) S := by
  have sa : a.natAbs < 2 ^ 63 := by omega
  have cell : eIf (cB (eOp neD (eVarV 4) (eLst aNil))) (eB intF (aCons (eOp ixD (eVarV 4) (eOp modD (eB intF (aCons (eOp addD (eOp mulD (eVarV 3) (eVarV 3)) (eOp fdivD (eVarV 3) (eC (.int 2)))) aNil)) (eB lenF (aCons (eVarV 4) aNil)))) aNil)) (eC (.int 5)) F [none, some (.dat (.int many)), none, some (.dat (.int a)), some (.dat (.lst (cells.map D.int))), none, none] S = .ok (.int (cellP cells a)) S := by
    have t : cB (eOp neD (eVarV 4) (eLst aNil)) F [none, some (.dat (.int many)), none, some (.dat (.int a)), some (.dat (.lst (cells.map D.int))), none, none] S = .ok (!cells.isEmpty) S := by
      show Out.bind (eOp neD (eVarV 4) (eLst aNil) F _ S) _ = _
      rw [op_ok (x := .lst (cells.map D.int)) (y := .lst []) (S1 := S) (S2 := S) rfl rfl (ne_ints cells)]
      rfl
    show Out.bind (cB _ F _ S) _ = _
    rw [t]
    cases cells with
    | nil => rfl
    | cons x xs =>
      show eB intF _ F _ S = _
      have ix : ixD (.lst ((x :: xs).map D.int)) (.int ((a * a + a / 2) % (((x :: xs).map D.int).length : Int))) = some (.int (cellP (x :: xs) a)) := by
        have l0 : (0 : Int) < ((x :: xs).length : Int) := by simp
        have b0 := Int.emod_nonneg (a * a + a / 2) (Int.ne_of_gt l0)
        have b1 := Int.emod_lt_of_pos (a * a + a / 2) l0
        show atI ((x :: xs).map D.int) _ = _
        rw [List.length_map]
        unfold atI ixN
        rw [if_pos b0, if_pos (by rw [List.length_map]; exact b1)]
        show ((x :: xs).map D.int)[_]? = _
        have hb : ((a * a + a / 2) % ((x :: xs).length : Int)).toNat < (x :: xs).length := by omega
        rw [List.getElem?_map, List.getElem?_eq_getElem hb]
        unfold cellP
        rw [if_neg (by simp), List.getD_eq_getElem?_getD, List.getElem?_eq_getElem hb]
        rfl
      refine b_ok (op_ok (S1 := S) rfl (op_ok (S1 := S) (S2 := S) (b_ok (op_ok (S1 := S) (S2 := S) (op_ok (S1 := S) (S2 := S) rfl rfl (mul_small (.inl sa))) (op_ok (S1 := S) (S2 := S) rfl rfl (show fdivD (.int a) (.int 2) = some (.int (a / 2)) from rfl)) rfl) rfl) (b_ok (S1 := S) rfl rfl) (mod_pos (by simp))) ix) rfl
  unfold ZR zSeq
  have z1 : zSet 5 (eIf (cB (eOp neD (eVarV 4) (eLst aNil))) (eB intF (aCons (eOp ixD (eVarV 4) (eOp modD (eB intF (aCons (eOp addD (eOp mulD (eVarV 3) (eVarV 3)) (eOp fdivD (eVarV 3) (eC (.int 2)))) aNil)) (eB lenF (aCons (eVarV 4) aNil)))) aNil)) (eC (.int 5))) F [none, some (.dat (.int many)), none, some (.dat (.int a)), some (.dat (.lst (cells.map D.int))), none, none] S = .nx [none, some (.dat (.int many)), none, some (.dat (.int a)), some (.dat (.lst (cells.map D.int))), some (.dat (.int (cellP cells a))), none] S := by
    unfold zSet
    rw [cell]
    rfl
  rw [z1]
  have z2 : zSet 6 (eOp modD (eB intF (aCons (eOp addD (eOp addD (eOp mulD (eVarV 5) (eC (.int 40692))) (eOp mulD (eVarV 3) (eC (.int 65539)))) (eOp mulD (eOp mulD (eC (.int 7001)) (eVarV 3)) (eVarV 3))) aNil)) (eC (.int 2147483399))) F [none, some (.dat (.int many)), none, some (.dat (.int a)), some (.dat (.lst (cells.map D.int))), some (.dat (.int (cellP cells a))), none] S =
      .nx [none, some (.dat (.int many)), none, some (.dat (.int a)), some (.dat (.lst (cells.map D.int))), some (.dat (.int (cellP cells a))), some (.dat (.int ((cellP cells a * 40692 + a * 65539 + 7001 * a * a) % 2147483399)))] S := by
    unfold zSet
    rw [op_ok (S1 := S) (S2 := S) (b_ok (op_ok (S1 := S) (S2 := S) (op_ok (S1 := S) (S2 := S) (op_ok (S1 := S) (S2 := S) rfl rfl (mul_small (.inr (by decide)))) (op_ok (S1 := S) (S2 := S) rfl rfl (mul_small (.inl sa))) rfl) (op_ok (S1 := S) (S2 := S) (op_ok (S1 := S) (S2 := S) rfl rfl (mul_small (.inr sa))) rfl (mul_small (.inr sa))) rfl) rfl) rfl (mod_pos (by decide))]
    rfl
  show (match zSet 6 _ F _ S with | .nx δ s => _ | o => o) = _
  rw [z2]
  show (match zRet _ F _ S with | .nx δ s => _ | o => o) = _
  unfold zRet
  rw [op_ok (S1 := S) (S2 := S) (b_ok (op_ok (S1 := S) (S2 := S) (op_ok (S1 := S) (S2 := S) (b_ok (op_ok (S1 := S) (S2 := S) (op_ok (S1 := S) (S2 := S) rfl rfl (mul_small (.inr (by decide)))) (op_ok (S1 := S) (S2 := S) rfl rfl (mul_small (.inl (by decide)))) rfl) rfl) rfl (mod_pos (by decide))) rfl (show fdivD (.int _) (.int 13) = some (.int (_ / 13)) from rfl)) rfl) rfl (mod_pos hm)]
  rfl
end Wm

namespace Wm
open PySem PySem.Spec PyProof.Rows L2
/-! ### slots by rows -/
def RL (g : G) (H : Hp) : L2.St → Env → Prop
  | [], [] => True
  | _ :: σ, none :: δ => RL g H σ δ
  | some v :: σ, some (.dat d) :: δ => Dt g H d v ∧ RL g H σ δ
  | _, _ => False
theorem RL.at {g : G} {H : Hp} : ∀ {σ : L2.St} {δ : Env}, RL g H σ δ → δ.length = σ.length ∧ (∀ (i : Nat) (sl : Sl), δ[i]? = some (some sl) → ∃ d v, sl = .dat d ∧ σ[i]? = some (some v) ∧ Dt g H d v)
  | [], [], _ => ⟨rfl, fun i sl e => by simp at e⟩
  | x :: σ, none :: δ, h => by
    obtain ⟨h1, h2⟩ := RL.at (σ := σ) (δ := δ) (by cases x <;> exact h)
    refine ⟨by simp [h1], fun i sl e => ?_⟩
    cases i with
    | zero => simp at e
    | succ i => simpa using h2 i sl (by simpa using e)
  | some v :: σ, some (.dat d) :: δ, h => by
    obtain ⟨h1, h2⟩ := RL.at (σ := σ) (δ := δ) h.2
    refine ⟨by simp [h1], fun i sl e => ?_⟩
    cases i with
    | zero =>
      obtain rfl : Sl.dat d = sl := by simpa using e
      exact ⟨d, v, rfl, rfl, h.1⟩
    | succ i => simpa using h2 i sl (by simpa using e)
  | none :: σ, some sl :: δ, h => by cases sl <;> exact h.elim
  | some v :: σ, some (.own l) :: δ, h => h.elim
  | [], _ :: _, h => h.elim
  | _ :: _, [], h => by rename_i x _; cases x <;> exact h.elim
theorem RL.rel {g : G} {μ : Mk} {H : Hp} {σ : L2.St} {δ : Env} (h : RL g (hidM μ H) σ δ) : Rel g μ H σ δ := by
  obtain ⟨h1, h2⟩ := RL.at h
  refine ⟨h1, fun i sl e => ?_, fun i j l l' v e => ?_⟩
  · obtain ⟨d, v, rfl, e1, e2⟩ := h2 i sl e
    exact ⟨v, e1, e2⟩
  · obtain ⟨d, v, q, _⟩ := h2 i _ e
    cases q
abbrev μ0 : Mk := ⟨fun _ => false, fun _ => false⟩
theorem mok0 {H : Hp} : MOk μ0.all H := fun a h => by cases h
theorem hid0 {H : Hp} : hidM μ0 H = H := by funext a; rfl
/-! ### a call by any promise -/
section
variable {X : Cx} {W : WX} {e : Expr} {es : List Expr} {p pos : Pos}
theorem pe_callG {k : Nat} {f : Addr} {fd : FuncData} {ps : List Str} {sp : Sp} {x : Str} {t : TA} (Gn : FnG X.prog X.w X.K X.mg X.base k f fd ps sp) (hr : Room k X.A) (hgu : X.A.guards = some []) (hg : Gl X x) (hm : X.mg x = some (.ref f)) (hk : PySem.W.keepIn X.K (.ref f) = true) (hb : Binds X.K fd ps []) (tk : Takes X W)
    (ha : PA X (e :: es) t) (hdb : (x == ("__debug__" : Str)) = false) (he : starEach (e :: es) X.env = (false, eval e X.env) :: starEach es X.env) (hpl : (backTo pos (starEach es X.env)).any (·.1) = false) :
    PE X (.Call (.Name x p) (e :: es) [] pos) (fun σ H Q => t σ H fun vs H1 => sp vs H1 Q (WE W σ)) := by
  refine ⟨fun pins s σ H Q I h => ?_⟩
  refine wpAny_Call_Name_kw (ld_glob I hg hm ?_ hdb)
  refine PySem.W.callWith_K (h₀ := X.base) I.ok.mod.kin hk (thn (ha.run pos pins s σ H _ I h) fun us s1 ⟨vs, H1, I1, rv, q⟩ => ⟨I1.kIn, ?_⟩) he hpl
  exact run_G (dvs := []) Gn hr hgu hb .nil (passAt tk σ) I1 rv (by rw [List.append_nil]; exact q)
end
/-! ### the law: draws begun, then the rest by the interpreter -/
def spLawG (g : G) (P : List Int → Prop) : Sp := fun vs H Q _ => ∃ sc cells, vs = [.ref sc] ∧ SqL g.K H sc (cells.map V.int) ∧ cells.length ≤ 63 ∧ P cells ∧ ∀ H', Q (.bl true) H'
def lawE (nN : Nat) (am : Addr) (cells : List Int) : Env := some (.dat (.fro (cells.map D.int))) :: some (.dat (.drw am)) :: List.replicate nN none
def tLawR (g : G) (F : Fns) (W : WX) (b : Addr → Bool) (ζ : Sv) : TS := tSeq (tAsg (fun σ H Q => tCons (tVar 0) tNil σ H fun vs H1 => spBgO g vs H1 Q (WE W σ)) (gName 1)) (tISx g F W b ζ)
theorem dt_ints {g : G} {H : Hp} : ∀ xs : List Int, DtL g H (xs.map D.int) (xs.map V.int)
  | [] => rfl
  | x :: xs => ⟨_, _, rfl, rfl, dt_ints xs⟩
theorem law_reads {g : G} {F : Fns} {W : WX} {ζ : Sv} {N : List Str} {nN : Nat} {P : List Int → Prop} {Q : VK} {E : XK} {vs : List V} {H : Hp} (hN : N.length = nN + 2)
    (plain : ∀ am cells, cells.length ≤ 63 → P cells → ∃ S', ζ F (lawE nN am cells) (.on am cells (great cells) 0) = .rt (.bl true) S')
    (hs : spLawG g P vs H Q E) : tLawR g F W (fun _ => false) ζ { nx := fun _ H' => Q .non H', rt := Q } (start N vs) H := by
  obtain ⟨sc, cells, rfl, hsc, hl, hp, hq⟩ := hs
  refine ⟨.ref sc, rfl, sc, cells, rfl, hsc, by omega, fun H' am sub dok => ?_⟩
  obtain ⟨S', hz⟩ := plain am cells hl hp
  refine ⟨H', μ0, lawE nN am cells, .on am cells (great cells) 0, ⟨rfl, mok0, Sub.refl _, fun p o z => (by cases z), RL.rel ?_, dok⟩, ?_⟩
  · have es : (start N [V.ref sc]).set 1 (some (.ref am)) = some (.ref sc) :: some (.ref am) :: List.replicate nN none := by
      unfold L2.start
      rw [hN]
      have e : nN + 2 - [V.ref sc].length = nN + 1 := by simp
      rw [e, List.replicate_succ]
      rfl
    rw [es, hid0]
    refine ⟨⟨sc, _, rfl, sq_monoL sub hsc, dt_ints cells⟩, rfl, ?_⟩
    generalize nN = m
    induction m with
    | zero => trivial
    | succ m ih => rw [List.replicate_succ, List.replicate_succ]; exact ih
  · rw [hz]
    exact fun v H2 s2 d2 rv => by
      cases (show v = .bl true from rv)
      exact hq H2

/-! ### the end: the law's promise at the heap behind the top -/
theorem law_end {P : Program} {w : World} {K : PySem.W.Frag} {mg mb : Str → Option Value} {k : Nat} {fa a : Addr} {fd : FuncData} {x : Str} {sp : Sp} {s₁ : Shared} {vs : List Value} {ns : List Int}
    (kin : K.In s₁.heap) (gl : s₁.heap.Ns mainGlobals mg) (bn : s₁.heap.Ns builtinsNs mb) (bb : ∀ y : Str, y ≠ "__name__" → mb y = bootBuiltins y) (lim : s₁.heap.NoLimit) (gen : s₁.gens = #[])
    (ha : s₁.heap.get? a = some { cls := .type "list", data := .seq vs.toArray }) (hi : IntsAre vs ns) (hl : ns.length ≤ sizeLine) (hr : Room k callerA)
    (Fn : ∀ base : Heap, K.In base → base.Ns mainGlobals mg → FnG P w K mg base k fa fd [x] sp) (bi : ∀ (s : Shared) (u : Value), BindsTo s fd ⟨[u], []⟩ [(x, u)])
    (hsp : ∀ H : Hp, SqL K H a (ns.map V.int) → sp [.ref a] H (fun v _ => v = .bl true) fun _ _ _ => False) :
    codeAny (model P w) callerA (.call (.ref fa) ⟨[.ref a], []⟩) (fun r s' => r = .ok (.ret (.bool true)) ∧ OldK s₁.heap s'.heap ∧ s'.os = s₁.os ∧ AllBare s'.gens) s₁ := by
  have go : ∀ H : Hp, (∀ b, H b = none ∨ ∃ o xs, H b = some (.frz o (.lst xs))) → SqL K H a (ns.map V.int) → HOk P w H s₁.heap → (∀ b, H b ≠ none → b = a ∧ K.lookup a = none) →
      codeAny (model P w) callerA (.call (.ref fa) ⟨[.ref a], []⟩) (fun r s' => r = .ok (.ret (.bool true)) ∧ OldK s₁.heap s'.heap ∧ s'.os = s₁.os ∧ AllBare s'.gens) s₁ := by
    intro H only sq hok at_
    have up : ∀ {b : Addr} {o : Obj}, s₁.heap.get? b = some o → H b = none → (hidT s₁.heap H).get? b = some o := fun e1 e2 => hidT_get e1 e2
    have nodict : ∀ {b : Addr} {o : Obj} {es : Array DictEntry} {ep : Nat}, s₁.heap.get? b = some o → o.data = .dict es ep → H b = none := by
      intro b o es ep e1 e2
      by_cases q : H b = none
      · exact q
      · rw [(at_ b q).1, ha] at e1
        cases e1
        cases e2
    have nsU : ∀ {b : Addr} {m : Str → Option Value}, s₁.heap.Ns b m → (hidT s₁.heap H).Ns b m := by
      rintro b m ⟨o, es, ep, e1, e2, e3⟩
      exact ⟨o, es, ep, up e1 (nodict e1 e2), e2, e3⟩
    have kU : K.In (hidT s₁.heap H) := by
      intro b o e
      refine up (kin b o e) ?_
      by_cases q : H b = none
      · exact q
      · obtain ⟨z1, z2⟩ := at_ b q
        rw [z1, z2] at e
        cases e
    have md : Mod K mg (hidT s₁.heap H) := by
      obtain ⟨mc, c1, c2⟩ := lim
      exact ⟨kU, nsU gl, ⟨mb, nsU bn, bb⟩, ⟨mc, nsU c1, c2⟩⟩
    have ev0 : Env0 P w K mg (hidT s₁.heap H) callerA [] s₁ H := by
      refine ⟨rfl, md, fun b o e => of_hidT e, Nat.le_of_eq (hidT_size _ _), trivial, ?_, hok, .of_eq gen⟩
      intro b hb
      cases hb
    have run := (Fn _ kU (nsU gl)).go callerA [] s₁ H ⟨[.ref a], []⟩ [.ref a] [.ref a] _ _ hr rfl ev0 (bi s₁ (.ref a)) (.cons rfl .nil) (hsp H sq)
    refine codeAny_mono run fun r s' z => ?_
    match r, z with
    | .error e, z =>
      obtain ⟨_, _, _, _, _, _, _, _, _, _, _, _, ff⟩ := z
      exact ff.elim
    | .ok (.ret u), z =>
      obtain ⟨v, H2, os, bare, un, ok2, rv, ev⟩ := z
      cases (show v = .bl true from ev)
      cases (show u = Value.bool true from rv)
      refine ⟨rfl, OldK.of_keep fun b o e => ?_, os, bare⟩
      rcases only b with q | ⟨ob, xs, q⟩
      · exact un.keep b o e q (fun z => by cases z) (fun z => by cases z)
      · have f1 := (hok b _ q).1
        have f2 := (ok2 b _ (un.frzs b ob _ q)).1
        rw [e] at f1
        cases f1
        exact f2
    | .ok .next, z => exact False.elim z
    | .ok .brk, z => exact False.elim z
    | .ok .cont, z => exact False.elim z
  have rv := vals_ints hi
  by_cases hk : K.lookup a = none
  · refine go (upd (fun _ => none) a (.frz { cls := .type "list", data := .seq vs.toArray } (.lst (ns.map V.int)))) (fun b => ?_) (.inl (.inr ⟨_, upd_same⟩)) (fun b u z => ?_) (fun b z => ?_)
    · by_cases q : b = a
      · exact .inr ⟨_, _, by rw [q]; exact upd_same⟩
      · exact .inl (upd_ne q)
    · by_cases q : b = a
      · subst q
        rw [upd_same] at z
        cases z
        exact ⟨ha, by simpa using hl, vs, _, rv, ha⟩
      · rw [upd_ne q] at z
        cases z
    · by_cases q : b = a
      · exact ⟨q, hk⟩
      · exact absurd (upd_ne q) z
  · obtain ⟨o, ho⟩ := Option.ne_none_iff_exists'.mp hk
    have e := kin a o ho
    rw [ha] at e
    cases e
    refine go (fun _ => none) (fun _ => .inl rfl) (.inr ⟨_, vs.toArray, _, ho, rfl, rfl, rfl, ?_, by simpa using rv⟩) (fun b u z => by cases z) fun b z => absurd rfl z
    rw [List.size_toArray, hi.length]
    exact hl
theorem walk_G {l : PySem.W.OpenLaw} {k : Nat} {q : Program} {loose : List Str} {XP : (Str → Option Value) → Heap → Prop} {YP : World → Heap → Prop} {d : DefRec} {x : Str} (hn : l.most = some 63) (hdf : d.params.defaults = []) (hr : Room k callerA)
    (Fn : ∀ (w : World) (mg : Str → Option Value) (fa : Addr) (h : Heap), YP w h → h.Ns mainGlobals mg → mg d.name = some (.ref fa) →
      ∃ (K : PySem.W.Frag) (fd : FuncData) (sp : Sp), K.In h ∧ (∀ (s : Shared) (u : Value), BindsTo s fd ⟨[u], []⟩ [(x, u)]) ∧
        (∀ (H : Hp) (a : Addr) (ns : List Int), ns.length ≤ 63 → SqL K H a (ns.map V.int) → sp [.ref a] H (fun v _ => v = .bl true) fun _ _ _ => False) ∧
        ∀ base : Heap, K.In base → base.Ns mainGlobals mg → FnG l.prog w K mg base k fa fd [x] sp) :
    PySem.W.WalkO q loose XP YP l.row.toRowW d [] (fun f vs => PySem.call f vs) := by
  refine Att.attach_call hn hdf ?_
  intro w s₀ s₁ mg mb fa o pm cd doc a vs ns G Y ho hd hcd hmg hobj hints hlen hg
  obtain ⟨K, fd, sp, kx, hb, hsp, hF⟩ := Fn w mg fa _ Y G.T.g hmg
  exact law_end kx G.T.g G.T.b G.T.builtins G.T.nolimit hg hobj hints (Nat.le_trans hlen (by decide)) hr hF hb fun H hS => hsp H a ns hlen hS
end Wm

namespace Wm
open PySem PySem.Spec PyProof.Rows L2
open He (ga ma frG asD AlD obsD valD SaysD FnW DefD)
/-! ### the head's facts by Bool checks -/
def eqB2 (a b : Option (Option Value)) : Bool := decide (a = b)
def gv (K : PySem.W.Frag) (x : Str) : Option (Option Value) := PySem.W.nsIn K mainGlobals x
theorem gv_ok {K : PySem.W.Frag} {h : Heap} {mg : Str → Option Value} (X : K.In h) (G : h.Ns mainGlobals mg) {x : Str} {r : Option Value} (e : gv K x = some r) : mg x = r := by
  cases r with
  | none => exact PySem.W.mg_none_of X G e
  | some v => exact PySem.W.mg_of X G e
/-- what is told of an own error besides its __init__'s text -/
def errB (P : Program) (K : PySem.W.Frag) (x f : Str) (B newId i : String) (bmB : List Value) : Bool :=
  let C := ga K x
  let fI := ma K C "__init__"
  decide (gv K x = some (some (.ref C))) && (decide (PySem.W.findIn K (.ref C) "__init__" = some (some (.ref fI))) && (PySem.W.excInitIn K C bmB newId && (PySem.W.isFn K (.ref fI) && (decide (PySem.W.mroIn K C (.ref C) = some true) && ((PySem.W.clsIn K C).isSome && (decide (gv K "super" = some none) &&
  (decide (PySem.W.nsIn K cStatics "thirdparty.any" = some none) && (decide (PySem.W.ks_superIn K C C "__init__" = some (some (.builtin i))) && (decide (PySem.W.subIn K (.ref C) (.type B) = some true) && (decide (PySem.W.findIn K (.ref C) "__setattr__" = some (some (.builtin "object.__setattr__"))) &&
  (decide (PySem.W.findIn K (.ref C) "__getattribute__" = some (some (.builtin "BaseException.__getattribute__"))) && (decide (PySem.W.findIn K (.ref C) "__getattr__" = some none) && (PySem.W.excOver K C bmB && (decide (PySem.W.findIn K (.ref C) f = some none) && (PySem.W.hasDictIn K C &&
  (decide (PySem.W.subIn K (.ref C) (.type "BaseException") = some true) && (decide (PySem.W.typeIn K (.ref C) = some (.type "type")) && (PySem.W.keepIn K (.ref C) && (match K.lookup fI with
    | some ⟨_, _, .func fd, _⟩ => (match fd.code, fd.closure with
      | .ref cda, [(n, cc)] => decide (n = "__class__") && (PySem.W.codeIn K (.ref cda) fd.qualname && ((match K.lookup cda with
        | some ⟨_, _, .fields vs, _⟩ => (match (vs[2]? : Option Value) with
          | some (Value.str file _) => (P.main.file : Str) == file
          | _ => false)
        | _ => false) && (match K.lookup cc with
        | some ⟨_, _, .cell (some (.ref c)), _⟩ => decide (c = C)
        | _ => false)))
      | _, _ => false)
    | _ => false)))))))))))))))))))
/-- the text of its __init__ -/
abbrev ErW : Type := Option (Str × Arguments × FuncBody × Scope × Addr × Value × Value × Addr)
def errW (K : PySem.W.Frag) (x : Str) : ErW := match K.lookup (ma K (ga K x) "__init__") with
  | some ⟨_, _, .func fd, _⟩ => some (fd.name, fd.params, fd.body, fd.scope, fd.globals, fd.defaults, fd.kwdefaults, fd.builtins)
  | _ => none
/-- what the text must be -/
structure EiText (A : Arguments) (b : List Stmt) (sc : Scope) (f : Str) : Prop where
  ok : ∃ (msg : Str) (p1 p2 r1 r2 r3 r4 r5 r6 q1 q2 q3 q4 : Pos), A = eiA f p1 p2 ∧ b = eiB f msg r1 r2 r3 r4 r5 r6 q1 q2 q3 q4 ∧ sc = eiS f ∧ (r3.endLine == r5.line) = true
theorem err_txt {P : Program} {K : PySem.W.Frag} {x f : Str} {B newId i : String} {bmB : List Value} {A : Arguments} {b : List Stmt} {sc : Scope} (base : ExcBaseFacts B newId i bmB) (kxs : PySem.W.KxsFacts B i) (st : StoreFacts B bmB "object.__setattr__" "object")
    (fis : f = "value" ∨ f = "place" ∨ f = "line" ∨ f = "most") (top : (P.main.scope.names.lookup ("super" : Str)).isSome = false) (h : errB P K x f B newId i bmB = true) (hw : errW K x = (some (("__init__" : Str), A, FuncBody.stmts b, sc, mainGlobals, Value.none, Value.none, builtinsNs) : ErW)) (T : EiText A b sc f) :
    ErrTxt P K (ga K x) (ma K (ga K x) "__init__") f B newId i bmB ∧ gv K x = some (some (.ref (ga K x))) := by
  unfold errB at h
  simp only [Bool.and_eq_true, decide_eq_true_eq] at h
  obtain ⟨h1, h2, h3, h4, h5, h6, h7, h8, h9, h10, h11, h12, h13, h14, h15, h16, h17, h18, h19, h20⟩ := h
  refine ⟨⟨base, kxs, st, fis, h2, h3, h4, h5, Option.isSome_iff_exists.mp h6, h7, top, h8, h9, h10, h11, h12, h13, h14, h15, h16, h17, h18, h19, ?_⟩, h1⟩
  obtain ⟨msg, p1, p2, r1, r2, r3, r4, r5, r6, q1, q2, q3, q4, rfl, rfl, rfl, hpos⟩ := T.ok
  unfold errW at hw
  cases q : K.lookup (ma K (ga K x) "__init__") with
  | none => rw [q] at h20; cases h20
  | some o =>
    obtain ⟨oc, od, dt, osl⟩ := o
    rw [q] at h20 hw
    cases dt with
    | func fd =>
      obtain ⟨n1, n2, n3, n4, n5, n6, n7, n8, n9, n10, n11, n12, n13, n14, n15⟩ := fd
      simp only [Option.some.injEq, Prod.mk.injEq] at hw
      obtain ⟨e1, e3, e4, e5, e6, e8, e9, e15⟩ := hw
      subst e1 e3 e4 e5 e6 e8 e9 e15
      simp only at h20
      split at h20
      · rename_i cda n cc
        simp only [Bool.and_eq_true, decide_eq_true_eq] at h20
        obtain ⟨rfl, z2, z3, z4⟩ := h20
        cases k1 : K.lookup cda with
        | none => rw [k1] at z3; cases z3
        | some oc' =>
          obtain ⟨a1, a2, a3, a4⟩ := oc'
          rw [k1] at z3
          cases a3 with
          | fields vs =>
            simp only at z3
            cases k3 : vs[2]? with
            | none => rw [k3] at z3; cases z3
            | some vv =>
              rw [k3] at z3
              cases vv with
              | str file tf =>
                cases k2 : K.lookup cc with
                | none => rw [k2] at z4; cases z4
                | some ob =>
                  obtain ⟨b1, b2, b3, b4⟩ := ob
                  rw [k2] at z4
                  cases b3 with
                  | cell cv =>
                    cases cv with
                    | none => cases z4
                    | some cv =>
                      cases cv with
                      | ref cx =>
                        simp only [decide_eq_true_eq] at z4
                        subst z4
                        exact ⟨n2, msg, oc, od, n10, n11, n12, n14, osl, p1, p2, r1, r2, r3, r4, r5, r6, q1, q2, q3, q4, cda, cc, a1, b1, a2, b2, a4, b4, vs, file, tf, by first | rfl | exact q, z2, by first | rfl | exact k1, k3, z3, by first | rfl | exact k2, hpos⟩
                      | _ => cases z4
                  | _ => cases z4
              | _ => cases z3
          | _ => cases z3
      · cases h20
    | _ => cases h20
end Wm

namespace Wm
open PySem PySem.Spec PyProof.Rows L2
open He (ga ma frG asD AlD obsD valD SaysD FnW DefD)
def tagK (K : PySem.W.Frag) : Tag → Option (Option Value)
  | .non => some (some (.type "NoneType"))
  | .bl => some (some (.type "bool"))
  | .int => some (some (.type "int"))
  | .str => some (some (.type "str"))
  | .tup => some (some (.type "tuple"))
  | .lst => some (some (.type "list"))
  | .dic => some (some (.type "dict"))
  | .obj c => gv K (clsN c)
  | .exc c => gv K (excN c)
def kapB (K : PySem.W.Frag) (us : List Value) (κ : Tag → Bool) : Bool := allTags.all fun t => match tagK K t with
  | some none => true
  | some (some v) => decide (PySem.W.kitAny K v us = some (κ t))
  | none => false
def isiCB (K : PySem.W.Frag) (C : Addr) : Bool := decide (PySem.W.findIn K (.ref C) "__class__" = some (some (.builtin "object.__class__"))) && (decide (PySem.W.specialIn K (.builtin "object.__class__") "__get__" = some (some (.builtin "getset_descriptor.__get__"))) &&
  (decide (PySem.W.takesIn K (.builtin "object.__class__") = some true) && decide (PySem.W.mroIn K C (.type "object") = some true)))
def clsB (K : PySem.W.Frag) (C : Addr) : Bool := PySem.W.plainGet K C Str.empty && (PySem.W.hasDictIn K C && (PySem.W.plainOver K C && decide (PySem.W.findIn K (.ref C) "__setattr__" = some (some (.builtin "object.__setattr__")))))
def isiB (K : PySem.W.Frag) : Bool := ((List.range 6).all fun c => match gv K (clsN c) with
    | some none => true
    | some (some (.ref C)) => clsB K C && isiCB K C
    | some (some _) => true
    | none => false) && ((List.range 10).all fun c => match gv K (excN c) with
    | some none => true
    | some (some (.ref C)) => isiCB K C && ((PySem.W.clsIn K C).isSome && (decide (PySem.W.findIn K (.ref C) "__getattribute__" = some (some (.builtin "BaseException.__getattribute__"))) && ((PySem.W.findIn K (.ref C) "__getattr__").isSome && decide (PySem.W.subIn K (.ref C) (.type "BaseException") = some true))))
    | some (some _) => true
    | none => false)
def usK (K : PySem.W.Frag) (y : Str) : Option Value := match gv K y with
  | some (some (.ref C)) => some (.ref C)
  | some none => (match bootBuiltins y with
    | some (.type n) => if y = "__name__" then none else some (.type n)
    | _ => none)
  | _ => none
def usKs (K : PySem.W.Frag) : List Str → Option (List Value)
  | [] => some []
  | y :: ys => (usK K y).bind fun u => (usKs K ys).map (u :: ·)
def isisB (K : PySem.W.Frag) (κf : List Str → Tag → Bool) (yss : List (List Str)) : Bool := yss.all fun ys => match usKs K ys with
  | some us => kapB K us (κf ys)
  | none => false
def bltB (K : PySem.W.Frag) : Bool := bltNames.all fun x => decide (gv K x = some none)
section
variable {K : PySem.W.Frag} {h : Heap} {mg : Str → Option Value}
theorem tagK_ok (X : K.In h) (G : h.Ns mainGlobals mg) {t : Tag} {r : Option Value} (e : tagK K t = some r) : tagV mg t = r := by
  cases t with
  | obj c => exact gv_ok X G e
  | exc c => exact gv_ok X G e
  | _ => cases e; rfl
theorem kap_ok (X : K.In h) (G : h.Ns mainGlobals mg) {us : List Value} {κ : Tag → Bool} (c : kapB K us κ = true) : KapOk K mg us κ := by
  refine ⟨fun t ht v hv => ?_⟩
  have q := List.all_eq_true.mp c t ht
  cases e : tagK K t with
  | none => rw [e] at q; cases q
  | some r =>
    rw [e] at q
    have z := tagK_ok X G e
    rw [z] at hv
    subst hv
    exact of_decide_eq_true q
theorem isiC_ok {C : Addr} (c : isiCB K C = true) : IsiC K C := by
  unfold isiCB at c
  simp only [Bool.and_eq_true, decide_eq_true_eq] at c
  exact ⟨c.1, c.2.1, c.2.2.1, c.2.2.2⟩
theorem mg_gv (X : K.In h) (G : h.Ns mainGlobals mg) {x : Str} {r : Option (Option Value)} {v : Value} (e : gv K x = r) (hr : r ≠ none) (hv : mg x = some v) : r = some (some v) := by
  cases r with
  | none => exact absurd rfl hr
  | some o =>
    have z := gv_ok X G e
    rw [z] at hv
    rw [hv]
theorem isi_ok (X : K.In h) (G : h.Ns mainGlobals mg) (c : isiB K = true) : IsiOk K mg := by
  unfold isiB at c
  rw [Bool.and_eq_true] at c
  obtain ⟨c1, c2⟩ := c
  refine ⟨fun n C hC => ?_, fun n C hC => ?_⟩
  · rw [← clsN_min] at hC
    have q := List.all_eq_true.mp c1 (min n 5) (by simp; omega)
    have e := mg_gv X G (x := clsN (min n 5)) rfl (fun z => by rw [z] at q; cases q) hC
    rw [e] at q
    have q : (clsB K C && isiCB K C) = true := q
    rw [Bool.and_eq_true] at q
    have qc := q.1
    unfold clsB at qc
    simp only [Bool.and_eq_true, decide_eq_true_eq] at qc
    exact ⟨⟨qc.1, qc.2.1, qc.2.2.1, qc.2.2.2⟩, isiC_ok q.2⟩
  · rw [← excN_min] at hC
    have q := List.all_eq_true.mp c2 (min n 9) (by simp; omega)
    have e := mg_gv X G (x := excN (min n 9)) rfl (fun z => by rw [z] at q; cases q) hC
    rw [e] at q
    have q : (isiCB K C && ((PySem.W.clsIn K C).isSome && (decide (PySem.W.findIn K (.ref C) "__getattribute__" = some (some (.builtin "BaseException.__getattribute__"))) && ((PySem.W.findIn K (.ref C) "__getattr__").isSome && decide (PySem.W.subIn K (.ref C) (.type "BaseException") = some true))))) = true := q
    simp only [Bool.and_eq_true, decide_eq_true_eq] at q
    exact ⟨isiC_ok q.1, q.2.1, q.2.2.1, Option.isSome_iff_exists.mp q.2.2.2.1, q.2.2.2.2⟩
theorem usK_ok (X : K.In h) (G : h.Ns mainGlobals mg) {y : Str} {u : Value} (e : usK K y = some u) : ∃ v, ClsNm mg y v u := by
  unfold usK at e
  split at e
  · rename_i C q
    cases e
    exact ⟨_, .own C (gv_ok X G q)⟩
  · rename_i q
    split at e
    · rename_i n qb
      split at e
      · cases e
      · rename_i hn
        cases e
        exact ⟨_, .ty n (gv_ok X G q) qb hn⟩
    · cases e
  · cases e
theorem usKs_ok (X : K.In h) (G : h.Ns mainGlobals mg) : ∀ {ys : List Str} {us : List Value}, usKs K ys = some us → ∃ cs, ClsNms mg ys cs us
  | [], us, e => by cases e; exact ⟨[], .nil⟩
  | y :: ys, us, e => by
    unfold usKs at e
    obtain ⟨u, hu, e⟩ := Option.bind_eq_some_iff.mp e
    obtain ⟨ws, hw, rfl⟩ := Option.map_eq_some_iff.mp e
    obtain ⟨v, hv⟩ := usK_ok X G hu
    obtain ⟨cs, hc⟩ := usKs_ok X G hw
    exact ⟨v :: cs, .cons hv hc⟩
theorem isis_ok (X : K.In h) (G : h.Ns mainGlobals mg) {κf : List Str → Tag → Bool} {yss : List (List Str)} (c : isisB K κf yss = true) {ys : List Str} (hy : ys ∈ yss) : ∃ cs us, ClsNms mg ys cs us ∧ KapOk K mg us (κf ys) := by
  have q := List.all_eq_true.mp c ys hy
  cases e : usKs K ys with
  | none => rw [e] at q; cases q
  | some us =>
    rw [e] at q
    obtain ⟨cs, hc⟩ := usKs_ok X G e
    exact ⟨cs, us, hc, kap_ok X G q⟩
theorem blt_ok (X : K.In h) (G : h.Ns mainGlobals mg) (c : bltB K = true) : ∀ x ∈ bltNames, mg x = none := fun x hx => gv_ok X G (of_decide_eq_true (List.all_eq_true.mp c x hx))
end
/-! ### the Hook -/
def asW (g : Addr → Option Obj) : Nat → List Addr
  | 0 => [mainGlobals, cStatics]
  | n + 1 => He.growD g (asW g n)
abbrev AlW : Type := AlD × List ErW × Bool
def obsW (n : Nat) (fa : List He.Fa) (fn : List DefD) (er : List Str) (ck : PySem.W.Frag → Bool) (g : Addr → Option Obj) : AlW := (obsD fa fn (frG g (asW g n)), er.map (errW (frG g (asW g n))), ck (frG g (asW g n)))
def hookW (n : Nat) (fa : List He.Fa) (fn : List DefD) (er : List Str) (ev : List ErW) (ck : PySem.W.Frag → Bool) : PySem.W.Hook where
  α := AlW
  obs := fun s => obsW n fa fn er ck s.heap.get?
  val := fun _ => (valD fn, ev, true)
  says := fun _ h => ∃ K : PySem.W.Frag, K.In h ∧ SaysD fa fn K ∧ er.map (errW K) = ev ∧ ck K = true
  of := fun _ s e => by
    have e1 := congrArg Prod.fst e
    have e2 := congrArg (fun z : AlW => z.2.1) e
    have e3 := congrArg (fun z : AlW => z.2.2) e
    exact ⟨_, He.frG_in, e1, e2, e3⟩
  keeps := fun _ _ _ ⟨K, hK, c⟩ k => ⟨K, PySem.W.Frag.In.keeps hK k, c⟩
theorem obsW_eq {n : Nat} {fa : List He.Fa} {fn : List DefD} {er : List Str} {ev : List ErW} {ck : PySem.W.Frag → Bool} {g : Addr → Option Obj} {s : Shared} (h : ∀ a, g a = s.heap.get? a) : obsW n fa fn er ck g = (hookW n fa fn er ev ck).obs s := by
  have e : g = s.heap.get? := funext h
  rw [e]
  rfl
end Wm

namespace Wm
open PySem PySem.Spec PyProof.Rows L2
/-! ### the tower: every def of the text, level by level -/
structure Rw where
  x : Str
  N : List Str
  ps : List Str
  A : Arguments
  body : List Stmt
  sc : Scope
def tw (rows : List Rw) (tb : Tb) (spn : Nat → Option (List D → M D)) : Nat → Fns
  | 0 => fun _ _ => M.no
  | k + 1 => fun n => match spn n with
    | some f => f
    | none => match rows[n]? with
      | some r => fnD (tw rows tb spn k) r.N.length r.ps.length (zvs 12 ⟨r.N, r.sc, tb⟩ r.body)
      | none => fun _ => M.no
/-- what is told of a def: by its text, or by a promise of its own -/
inductive RwOk (g : G) (rows : List Rw) (spn : Nat → Option (List D → M D)) (x : Str) (n : Nat) : Prop where
  | own (f : List D → M D) (fa : Addr) (fd : FuncData) (ps : List Str) (h1 : spn n = some f) (h2 : FnG g.P g.w g.K g.mg g.base 1 fa fd ps (spI g f)) (h3 : g.mg x = some (.ref fa)) (h4 : PySem.W.keepIn g.K (.ref fa) = true) (h5 : Binds g.K fd ps [])
  | txt (r : Rw) (fa : Addr) (fd : FuncData) (h1 : spn n = none) (h2 : rows[n]? = some r) (h3 : FunD g.K r.x r.x r.A r.body r.sc [] [] fa fd) (h4 : g.mg x = some (.ref fa)) (h5 : FnScope r.N r.ps r.sc) (h6 : Binds g.K fd r.ps [])
theorem fnG_no {P : Program} {w : World} {K : PySem.W.Frag} {mg : Str → Option Value} {base : Heap} {k : Nat} {f : Addr} {fd : FuncData} {ps : List Str} {g : G} : FnG P w K mg base k f fd ps (spI g fun _ => M.no) :=
  ⟨fun _ _ _ _ ⟨_, _, _, _, _, _, h⟩ => False.elim h, fun _ _ _ _ _ _ _ _ _ _ _ _ _ _ ⟨_, _, _, _, _, _, h⟩ => False.elim h⟩
theorem tower {g : G} {rows : List Rw} {tb : Tb} {spn : Nat → Option (List D → M D)} (hT : ∀ F k, (∀ x m n dd, tb.fn x m = some (n, dd) → FnT g F k x n dd) → Tok g F tb k)
    (hfn : ∀ x m n dd, tb.fn x m = some (n, dd) → dd = [] ∧ RwOk g rows spn x n) : ∀ k, Tok g (tw rows tb spn k) tb k
  | 0 => hT _ _ fun x m n dd h => by
    obtain ⟨rfl, ok⟩ := hfn x m n dd h
    cases ok with
    | own f fa fd ps h1 h2 h3 h4 h5 => exact ⟨fa, fd, ps, [], [], fnG_no, h3, h4, h5, .nil, rfl⟩
    | txt r fa fd h1 h2 h3 h4 h5 h6 => exact ⟨fa, fd, r.ps, [], [], fnG_no, h4, h3.kp, h6, .nil, rfl⟩
  | k + 1 => hT _ _ fun x m n dd h => by
    have ih := tower hT hfn k
    obtain ⟨rfl, ok⟩ := hfn x m n dd h
    cases ok with
    | own f fa fd ps h1 h2 h3 h4 h5 =>
      refine ⟨fa, fd, ps, [], [], ?_, h3, h4, h5, .nil, rfl⟩
      have e : tw rows tb spn (k + 1) n = f := by
        show (match spn n with | some f => f | none => _) = _
        rw [h1]
      rw [e]
      exact h2.mono (by omega)
    | txt r fa fd h1 h2 h3 h4 h5 h6 =>
      refine ⟨fa, fd, r.ps, [], [], ?_, h4, h3.kp, h6, .nil, rfl⟩
      have e : tw rows tb spn (k + 1) n = fnD (tw rows tb spn k) r.N.length r.ps.length (zvs 12 ⟨r.N, r.sc, tb⟩ r.body) := by
        show (match spn n with | some f => f | none => _) = _
        rw [h1]
        show (match rows[n]? with | some r => _ | none => _) = _
        rw [h2]
      rw [e]
      exact fn_run (g := g) h3 h5 fun X W B b co dk => snd_zvs ⟨co, dk.tk, ih⟩ dk 12 B b r.body
end Wm

namespace K70
open PySem PySem.Spec PyProof.Rows L2 Wm
def top (i : Nat) : Stmt := PySem.Challenge.pw_whomaysign_k70_errors.main.body.getD i (.Pass ⟨0, 0, 0, 0⟩)
def initOf : Stmt → Stmt
  | .ClassDef _ _ _ (s :: _) _ _ _ _ _ _ _ => s
  | s => s
abbrev sBeg : Stmt := top 13
abbrev sNext : Stmt := top 14
abbrev sVal : Stmt := top 15
abbrev sKinds : Stmt := top 16
abbrev sField : Stmt := top 17
abbrev sLaw : Stmt := top 18
def dOf (x : Str) (s : Stmt) : He.DefD := ⟨(x, none), x, x, defArgs s, defBody s, defScope s, [], []⟩
def fn : List He.DefD := [dOf "_law_begun" sBeg, dOf "_law_next" sNext, dOf "_law_value" sVal, dOf "_law_kinds" sKinds, dOf "_law_field" sField, dOf "law" sLaw]
def fa : List He.Fa := [.glo "_law_begun", .glo "_law_next", .glo "_law_value", .glo "_law_kinds", .glo "_law_field", .glo "law"]
def er : List Str := (List.range 10).map excN
def evOf (i : Nat) : ErW := some ("__init__", defArgs (initOf (top (i + 2))), .stmts (defBody (initOf (top (i + 2)))), defScope (initOf (top (i + 2))), mainGlobals, .none, .none, builtinsNs)
def ev : List ErW := (List.range 10).map evOf
def P : Program := PySem.Challenge.pw_whomaysign_k70_errors
def κ1 (y : Str) : Tag → Bool
  | .exc c => decide (y = excN c) || (if c < 9 then decide (y = "SignError") || decide (y = "ValueError") else decide (y = "OverflowError"))
  | _ => false
def κf (ys : List Str) (t : Tag) : Bool := ys.any fun y => κ1 y t
def yss : List (List Str) := er.map (fun x => [x]) ++ ([["SignError"], ["ValueError"], ["LookupError"], ["OverflowError"], ["BadClause", "BadBook", "BadPaper"], ["BadPeople", "BadLot", "BadRow", "BadWish", "BadNumber"]] : List (List Str))
def bVE : List Value := [.type "ValueError", .type "Exception", .type "BaseException", .type "object"]
def bOE : List Value := [.type "OverflowError", .type "ArithmeticError", .type "Exception", .type "BaseException", .type "object"]
def ck (K : PySem.W.Frag) : Bool := ((List.range 9).all fun c => errB P K (excN c) (excF c) "ValueError" "ValueError.__new__" "ValueError.__init__" bVE) && (errB P K (excN 9) (excF 9) "OverflowError" "OverflowError.__new__" "OverflowError.__init__" bOE &&
  (isiB K && (isisB K κf yss && bltB K)))
abbrev R : PySem.W.OpenRow := PySem.W.OpenLaw.row PySem.Challenge.rw_whomaysign_k70_errors
abbrev hk : PySem.W.Hook := hookW 4 fa fn er ev ck
def ob (s : PySem.W.SharedT) : AlW := obsW 4 fa fn er ck (HandSHeadRun.getT s)
theorem ob_eq (s : PySem.W.SharedT) : ob s = hk.obs s.abs := obsW_eq (HandSHeadRun.getT_eq s)
def names : List Str := ["SignError", "BadPeople", "BadLot", "BadClause", "BadBook", "BadRow", "BadWish", "BadNumber", "BadPaper", "BadText", "TooMany", "_law_begun", "_law_next", "_law_value", "_law_kinds", "_law_field"]
theorem run (w : World) : HandSHeadRun.RunEq R (PySem.W.view R.prog [18]) hk ob 3600 names w := by
  intro os
  kernel_rfl
end K70

namespace K70
open PySem PySem.Spec PyProof.Rows L2 Wm
theorem scN : FnScope N7 ["m", "many"] (defScope sNext) := ⟨rfl, rfl, rfl, by decide +kernel, rfl, by decide +kernel, by decide +kernel⟩
def tb0 : Tb := ⟨fun _ _ => none, fun _ => none, fun _ => none⟩
def F0 : Fns := fun _ _ => M.no
def ctN : Ct := ⟨N7, defScope sNext, tb0⟩
def sAt (l : List Stmt) (i : Nat) : Stmt := l.getD i (.Pass ⟨0, 0, 0, 0⟩)
def ifB : Stmt → List Stmt
  | .If _ b _ _ => b
  | _ => []
def valE : Stmt → Expr
  | .Assign _ e _ => e
  | .Return (some e) _ => e
  | _ => .Constant .none 0 ⟨0, 0, 0, 0⟩
abbrev e1 : Expr := valE (sAt (ifB (sAt (defBody sNext) 1)) 1)
abbrev e2 : Expr := valE (sAt (ifB (sAt (defBody sNext) 1)) 2)
abbrev rst : List Stmt := (defBody sNext).drop 4
theorem val1 {many rest : Int} (hm : 0 < many) (hz : many.natAbs.log2 < 9000) : (evs 40).1 ctN e1 F0 [none, some (.dat (.int many)), some (.dat (.int rest)), none, none, none, none] .off = .ok (.int (rest / many)) .off := by
  have h : (evs 40).1 ctN e1 F0 [none, some (.dat (.int many)), some (.dat (.int rest)), none, none, none, none] .off = M.of (fdivD (.int rest) (.int many)) DS.off := by kernel_rfl
  have e : fdivD (.int rest) (.int many) = some (.int (rest / many)) := if_pos ⟨hm, hz⟩
  rw [h, e]
  rfl
theorem val2 {many rest : Int} (hm : 0 < many) : (evs 40).1 ctN e2 F0 [none, some (.dat (.int many)), some (.dat (.int rest)), none, none, none, none] .off = .ok (.int (rest % many)) .off := by
  have h : (evs 40).1 ctN e2 F0 [none, some (.dat (.int many)), some (.dat (.int rest)), none, none, none, none] .off = M.of (modD (.int rest) (.int many)) DS.off := by kernel_rfl
  have e : modD (.int rest) (.int many) = some (.int (rest % many)) := if_pos hm
  rw [h, e]
  rfl
theorem val3 {many a : Int} {cells : List Int} (hm : 0 < many) (ha : 0 ≤ a ∧ a ≤ 10 ^ 9) : zvs 5 ctN rst F0 [none, some (.dat (.int many)), none, some (.dat (.int a)), some (.dat (.lst (cells.map D.int))), none, none] .off = .rt (.int (mixP cells a many)) .off := by
  have h : zvs 5 ctN rst = ZR := by kernel_rfl
  rw [h]
  exact ZR_is hm ha
section
variable {g : G} {f : Addr} {fd : FuncData}
theorem op_eq0 {X : Cx} : OpR X (compareOp .Eq) rEq0 := by
  intro pins s σ H x y v u Q I rx ry ⟨i, j, hx, hy, q⟩
  subst hx hy
  refine op_eq pins s σ H _ _ v u Q I rx ry ⟨rfl, ?_⟩
  have e : decide (V.int i = V.int j) = decide (i = j) := by simp
  rw [e]
  exact q
theorem tok0 {k : Nat} (hio : IsiOk g.K g.mg) (her : ∀ c, (∃ C, g.mg (excN c) = some (.ref C)) → ErrG g c) (hbl : ∀ x ∈ bltNames, g.mg x = none) : Tok g F0 tb0 k :=
  ⟨fun _ _ _ _ z => (by cases z), fun _ _ z => (by cases z), her, fun _ _ z => (by cases z), fun _ _ z => (by cases z), hio, hbl⟩
theorem next_fn (F : FunD g.K "_law_next" "_law_next" (defArgs sNext) (defBody sNext) (defScope sNext) [] [] f fd) (T : ∀ k, Tok g F0 tb0 k) : FnG g.P g.w g.K g.mg g.base 1 f fd ["m", "many"] spNx := by
  refine okG F scN (fun vs H Q E ⟨_, _, _, _, _, _, _, e, _⟩ => by rw [e]; rfl) fun cd A out s H vs Q E hr hg hs => ?_
  have S : Sk (cxOf (L2.CX g.P g.w) g.P g.w g.K g.mg g.base N7 "_law_next" (defScope sNext) f cd A out s H E) g F0 (fun c d _ H' => E c d H') ctN 0 := ⟨⟨rfl, rfl, rfl, rfl, rfl, rfl, rfl, scN.nd, rfl, hr, hg⟩, takes_of rfl rfl rfl rfl, T 0⟩
  have Dk : Dok (cxOf (L2.CX g.P g.w) g.P g.w g.K g.mg g.base N7 "_law_next" (defScope sNext) f cd A out s H E) (fun c d _ H' => E c d H') := ⟨fun _ => rfl, PassesOwn.leaving, takes_of rfl rfl rfl rfl, rfl, rfl, rfl⟩
  have hu := room_hu' S.c.room
  have pe := (snd_evs (g := g) (F := F0) (k := 0) 40).1.e _ _ _ S
  have zs := fun B b ss => snd_zvs S Dk 5 B b ss
  refine ⟨tNextR g.K (tI g F0 (fun c d _ H' => E c d H') ((evs 40).1 ctN e1)) (tI g F0 (fun c d _ H' => E c d H') ((evs 40).1 ctN e2)) (tISx g F0 (fun c d _ H' => E c d H') (fun _ => false) (zvs 5 ctN rst)), ?der, next_reads ?r1 ?r2 ?r3 hs⟩
  case der =>
    refine pss_cons (ps_while Dk.po (pw_and (pt_cmpR (op_neNil hu) (pe_dget (by omega) (pv 0) pe_str (fun _ _ => rfl)) (pe_lst pa_nil) (nomark _)) (pw_and1 (pt_cmpR op_eq0 (pe_ix ix_list (pe_dget (by omega) (pv 0) pe_str (fun _ _ => rfl)) pe_int (fun _ _ => rfl)) pe_int (nomark _)))).pt (pss_one (ps_dput (by omega) (pv 0) pe_str (pe_slice sl_list (pe_dget (by omega) (pv 0) pe_str (fun _ _ => rfl)) (po_some pe_int) po_none) rfl))) ?_
    refine pss_cons (ps_if (pt_cmpR (op_neNil hu) (pe_dget (by omega) (pv 0) pe_str (fun _ _ => rfl)) (pe_lst pa_nil) (nomark _)) (pss_cons (ps_set (i := 2) scN.nd rfl (Or.inl rfl) (pe_ix ix_list (pe_dget (by omega) (pv 0) pe_str (fun _ _ => rfl)) pe_int (fun _ _ => rfl))) (pss_cons (ps_asg (pe e1) (pg_sub (pe_dget (by omega) (pv 0) pe_str (fun _ _ => rfl)) pe_int set_list)) (pss_one (ps_ret (pe e2))))) pss_nil) ?_
    refine pss_cons (ps_par (i := 3) (j := 4) rfl scN.nd rfl rfl (by decide) rfl rfl (pa_cons (pe_op op_add (pe_dget (by omega) (pv 0) pe_str (fun _ _ => rfl)) pe_int) (pa_cons (pe_dget (by omega) (pv 0) pe_str (fun _ _ => rfl)) pa_nil)) (by rfl)) ?_
    exact pss_cons (ps_dput (by omega) (pv 0) pe_str (pv 3) rfl) (ss_any fun B => zs B _ rst)
  case r1 =>
    intro am many rest H1 Q' hm hz hq
    refine ⟨μ0, [none, some (.dat (.int many)), some (.dat (.int rest)), none, none, none, none], .off, mok0, RL.rel (by rw [hid0]; exact ⟨rfl, rfl, trivial⟩), trivial, ?_⟩
    rw [val1 hm hz]
    exact fun H2 sb _ v rv => by
      cases (show v = .int (rest / many) from rv)
      exact hq H2 sb
  case r2 =>
    intro am many rest H1 Q' hm hz hq
    refine ⟨μ0, [none, some (.dat (.int many)), some (.dat (.int rest)), none, none, none, none], .off, mok0, RL.rel (by rw [hid0]; exact ⟨rfl, rfl, trivial⟩), trivial, ?_⟩
    rw [val2 hm]
    exact fun H2 sb _ v rv => by
      cases (show v = .int (rest % many) from rv)
      exact hq H2 sb
  case r3 =>
    intro am many a cells c H1 De hm ha hc hq
    refine ⟨H1, μ0, [none, some (.dat (.int many)), none, some (.dat (.int a)), some (.dat (.lst (cells.map D.int))), none, none], .off, ⟨rfl, mok0, Sub.refl _, fun p o z => (by cases z), RL.rel (by rw [hid0]; exact ⟨rfl, rfl, ⟨c, _, rfl, hc, dt_ints cells⟩, trivial⟩), trivial⟩, ?_⟩
    rw [val3 hm ha]
    exact fun v H2 sb _ rv => by
      cases (show v = .int (mixP cells a many) from rv)
      exact hq H2 sb
end
end K70

namespace K70
open PySem PySem.Spec PyProof.Rows L2 Wm
theorem scB : FnScope ["script", "cell"] ["script"] (defScope sBeg) := ⟨rfl, rfl, rfl, by decide +kernel, rfl, by decide +kernel, by decide +kernel⟩
def ctB : Ct := ⟨["script", "cell"], defScope sBeg, tb0⟩
def retE : Stmt → Expr
  | .Return (some e) _ => e
  | _ => .Constant .none 0 ⟨0, 0, 0, 0⟩
def dicV : Expr → List Expr
  | .Dict _ vs _ => vs
  | _ => []
def lcOf : Expr → List Expr × Scope
  | .ListComp _ [⟨_, _, ifs, _⟩] sc _ => (ifs, sc)
  | _ => ([], ⟨.function, [], false, false, []⟩)
abbrev lcE : Expr := (dicV (retE (sAt (defBody sBeg) 0))).getD 1 (.Constant .none 0 ⟨0, 0, 0, 0⟩)
abbrev lcS : Scope := (lcOf lcE).2
abbrev lcT : Expr := (lcOf lcE).1.getD 0 (.Constant .none 0 ⟨0, 0, 0, 0⟩)
def ctL : Ct := { ctB with sc := relS lcS (defScope sBeg) }
theorem valT {x : Int} : (evs 40).2 ctL lcT F0 [none, some (.dat (.int x))] .off = .ok (decide (x ≥ 10 ^ 18)) .off := by kernel_rfl
theorem blkB : BlkOk ["script", "cell"] (defScope sBeg) lcS [("cell", 1)] := blkOk_by (by decide +kernel)
section
variable {g : G} {f : Addr} {fd : FuncData}
theorem beg_fn (F : FunD g.K "_law_begun" "_law_begun" (defArgs sBeg) (defBody sBeg) (defScope sBeg) [] [] f fd) (T : ∀ k, Tok g F0 tb0 k) : FnG g.P g.w g.K g.mg g.base 1 f fd ["script"] (spBg g.K) := by
  refine okG F scB (fun vs H Q E ⟨_, _, e, _⟩ => by rw [e]; rfl) fun cd A out s H vs Q E hr hg hs => ?_
  have S : Sk (cxOf (L2.CX g.P g.w) g.P g.w g.K g.mg g.base ["script", "cell"] "_law_begun" (defScope sBeg) f cd A out s H E) g F0 (fun c d _ H' => E c d H') ctB 0 := ⟨⟨rfl, rfl, rfl, rfl, rfl, rfl, rfl, scB.nd, rfl, hr, hg⟩, takes_of rfl rfl rfl rfl, T 0⟩
  have pt := fun s' H' cl C fp => (snd_evs (g := g) (F := F0) (k := 0) 40).2.t _ _ _ (sk_blk S s' H' lcS cl C fp) lcT
  refine ⟨tBegR g.K (tIT g F0 W0 ((evs 40).2 ctL lcT)), ?der, begun_reads ?rd hs⟩
  case der =>
    refine pss_one (ps_ret (pe_disp (pps_cons pe_str (pe_callTy call_list_of rfl ((T 0).blt _ (by simp [bltNames])) (by decide +kernel) (pa_cons (pv 0) pa_nil)) (pps_cons pe_str (pe_lc (own := [("cell", 1)]) rfl scB.nd (pi_list (pv 0)) blkB (fun _ _ _ _ _ => pg_name scB.nd rfl (Or.inl rfl)) (fun s' H' C cl fp => pts_one (pt s' H' cl C fp)) (fun _ _ _ _ _ => pv 1)) (pps_cons pe_str pe_int pps_nil))) (by rfl) (by rfl) (fun z => by cases z) (by decide)))
  case rd =>
    intro sc x H1 Q1 hq
    refine ⟨μ0, [none, some (.dat (.int x))], .off, mok0, RL.rel (by rw [hid0]; exact ⟨rfl, trivial⟩), trivial, ?_⟩
    rw [valT]
    exact fun H2 sb _ => hq H2 sb
end
end K70

namespace K70
open PySem PySem.Spec PyProof.Rows L2 Wm
abbrev NL : List Str := ["script", "m", "turn", "q", "some", "far", "at", "one", "told", "k"]
theorem scV : FnScope ["m"] ["m"] (defScope sVal) := ⟨rfl, rfl, rfl, by decide +kernel, rfl, by decide +kernel, by decide +kernel⟩
theorem scK : FnScope ["one", "found"] ["one"] (defScope sKinds) := ⟨rfl, rfl, rfl, by decide +kernel, rfl, by decide +kernel, by decide +kernel⟩
theorem scF : FnScope ["one"] ["one"] (defScope sField) := ⟨rfl, rfl, rfl, by decide +kernel, rfl, by decide +kernel, by decide +kernel⟩
theorem scL : FnScope NL ["script"] (defScope sLaw) := ⟨rfl, rfl, rfl, by decide +kernel, rfl, by decide +kernel, by decide +kernel⟩
def rows : List Rw := [⟨"_law_next", N7, ["m", "many"], defArgs sNext, defBody sNext, defScope sNext⟩, ⟨"_law_value", ["m"], ["m"], defArgs sVal, defBody sVal, defScope sVal⟩, ⟨"_law_kinds", ["one", "found"], ["one"], defArgs sKinds, defBody sKinds, defScope sKinds⟩, ⟨"_law_field", ["one"], ["one"], defArgs sField, defBody sField, defScope sField⟩]
def tb1 : Tb where
  fn := fun x m => if x = "_law_next" ∧ m = 2 then some (0, []) else if x = "_law_value" ∧ m = 1 then some (1, []) else if x = "_law_kinds" ∧ m = 1 then some (2, []) else if x = "_law_field" ∧ m = 1 then some (3, []) else none
  err := fun x => (List.range 10).find? fun c => decide (x = excN c)
  isi := fun ys => if ys ∈ yss then some (κf ys) else none
def spn : Nat → Option (List D → M D)
  | 0 => some nextF
  | _ => none
abbrev F3 : Fns := tw rows tb1 spn 3
def ctW : Ct := ⟨NL, defScope sLaw, tb1⟩
abbrev lawB : List Stmt := (defBody sLaw).drop 1
def forOf : Stmt → Expr × Expr × List Stmt
  | .For t i b _ _ => (t, i, b)
  | _ => (.Constant .none 0 ⟨0, 0, 0, 0⟩, .Constant .none 0 ⟨0, 0, 0, 0⟩, [])
abbrev turnB : List Stmt := (forOf (sAt lawB 0)).2.2
def vals : List D := [.non, .int 0, .int 5, .int (-1), .str "a", .str "", .tup [], .tup [.int 1, .int 2], .lst [], .dic [] [], .bl true, .int (10 ^ 30)]
/-- a turn, the draw known -/
def restB : Sv := zvs 11 ctW (turnB.drop 1)
def sumry (n : Nat) : OutS → Option (Wm.Env × Nat × DS)
  | .nx δ S => some (δ.take n, δ.length, S)
  | _ => none
theorem sumry_ok {n : Nat} {o : OutS} {e : Wm.Env} {l : Nat} {S : DS} (h : sumry n o = some (e, l, S)) : ∃ δ, o = .nx δ S ∧ δ.take n = e ∧ δ.length = l := by
  cases o with
  | nx δ S' =>
    simp only [sumry, Option.some.injEq, Prod.mk.injEq] at h
    obtain ⟨h1, h2, rfl⟩ := h
    exact ⟨δ, rfl, h1, h2⟩
  | _ => cases h
theorem rest_ok (s m t a1 a2 a3 a4 a5 a6 : Option Sl) (S : DS) : ∀ i : Nat, i < 12 → sumry 3 (restB F3 [s, m, t, some (.dat (vals.getD i .non)), a1, a2, a3, a4, a5, a6] S) = some ([s, m, t], 10, S) := by
  intro i hi
  rcases i with _ | i
  · kernel_rfl
  rcases i with _ | i
  · kernel_rfl
  rcases i with _ | i
  · kernel_rfl
  rcases i with _ | i
  · kernel_rfl
  rcases i with _ | i
  · kernel_rfl
  rcases i with _ | i
  · kernel_rfl
  rcases i with _ | i
  · kernel_rfl
  rcases i with _ | i
  · kernel_rfl
  rcases i with _ | i
  · kernel_rfl
  rcases i with _ | i
  · kernel_rfl
  rcases i with _ | i
  · kernel_rfl
  rcases i with _ | i
  · kernel_rfl
  omega
end K70

namespace K70
open PySem PySem.Spec PyProof.Rows L2 Wm
theorem val_eq (am : Addr) (S : DS) : F3 1 [.drw am] S = OutS.out (match (Out.bind (nextF [.drw am, .int 12] S) fun d => M.of (ixD (.lst vals) d)).toS [some (.dat (.drw am))] fun d s => .rt d s with
      | .nx δ S' => .nx δ S'
      | o => o) := by kernel_rfl
theorem turn_eq (s t a0 a1 a2 a3 a4 a5 a6 : Option Sl) (am : Addr) (S : DS) : zvs 11 ctW turnB F3 [s, some (.dat (.drw am)), t, a0, a1, a2, a3, a4, a5, a6] S =
    (match (F3 1 [.drw am] S).toS [s, some (.dat (.drw am)), t, a0, a1, a2, a3, a4, a5, a6] fun d S' => .nx [s, some (.dat (.drw am)), t, some (.dat d), a1, a2, a3, a4, a5, a6] S' with
      | .nx δ S' => restB F3 δ S'
      | o => o) := by kernel_rfl
theorem next_at {am : Addr} {cells left : List Int} {n many : Int} (hm : 0 < many) (hz : many.natAbs.log2 < 9000) (hn : 0 ≤ n ∧ n < 10 ^ 9) : ∃ left' n' i, nextF [.drw am, .int many] (.on am cells left n) = .ok (.int i) (.on am cells left' n') ∧ (0 ≤ i ∧ i < many) ∧ (0 ≤ n' ∧ n' ≤ n + 1) := by
  refine ⟨_, _, _, if_pos ⟨rfl, hm, hz, hn⟩, ?_, ?_⟩
  · unfold nextP
    split
    · exact ⟨Int.emod_nonneg _ (Int.ne_of_gt hm), Int.emod_lt_of_pos _ hm⟩
    · exact ⟨Int.emod_nonneg _ (Int.ne_of_gt hm), Int.emod_lt_of_pos _ hm⟩
  · unfold nextP
    split
    · exact ⟨hn.1, by show n ≤ n + 1; omega⟩
    · exact ⟨by show 0 ≤ n + 1; omega, Int.le_refl _⟩
theorem vals_at : ∀ i : Int, 0 ≤ i ∧ i < 12 → ixD (.lst vals) (.int i) = some (vals.getD i.toNat .non) := by
  intro i hi
  obtain ⟨k, rfl⟩ := Int.eq_ofNat_of_zero_le hi.1
  have hk : k < 12 := by omega
  clear hi
  rcases k with _ | k; · rfl
  rcases k with _ | k; · rfl
  rcases k with _ | k; · rfl
  rcases k with _ | k; · rfl
  rcases k with _ | k; · rfl
  rcases k with _ | k; · rfl
  rcases k with _ | k; · rfl
  rcases k with _ | k; · rfl
  rcases k with _ | k; · rfl
  rcases k with _ | k; · rfl
  rcases k with _ | k; · rfl
  rcases k with _ | k; · rfl
  omega
theorem list10 {α : Type} {l : List α} (h : l.length = 10) : ∃ a b c d e f g i j k, l = [a, b, c, d, e, f, g, i, j, k] := by
  match l, h with
  | [a, b, c, d, e, f, g, i, j, k], _ => exact ⟨a, b, c, d, e, f, g, i, j, k, rfl⟩
theorem turn_ok {s : Option Sl} {am : Addr} {cells left : List Int} {n : Int} (hn : 0 ≤ n ∧ n < 10 ^ 9) {δ : Wm.Env} (hl : δ.length = 10) (h2 : δ.take 2 = [s, some (.dat (.drw am))]) :
    ∃ δ' left' n', zvs 11 ctW turnB F3 δ (.on am cells left n) = .nx δ' (.on am cells left' n') ∧ δ'.length = 10 ∧ δ'.take 2 = [s, some (.dat (.drw am))] ∧ (0 ≤ n' ∧ n' ≤ n + 1) := by
  obtain ⟨b0, b1, t, a0, a1, a2, a3, a4, a5, a6, rfl⟩ := list10 hl
  have h2 : [b0, b1] = [s, some (.dat (.drw am))] := h2
  cases h2
  obtain ⟨left', n', i, e1, e2, e3⟩ := next_at (am := am) (cells := cells) (left := left) (many := 12) (by decide) (by decide) hn
  have ev : F3 1 [.drw am] (.on am cells left n) = .ok (vals.getD i.toNat .non) (.on am cells left' n') := by
    rw [val_eq, e1]
    show OutS.out (match (M.of (ixD (.lst vals) (.int i)) _).toS _ _ with | .nx δ S' => _ | o => o) = _
    rw [vals_at i e2]
    rfl
  obtain ⟨δ', z1, z2, z3⟩ := sumry_ok (rest_ok s (some (.dat (.drw am))) t a1 a2 a3 a4 a5 a6 (.on am cells left' n') i.toNat (by omega))
  refine ⟨δ', left', n', ?_, z3, ?_, e3⟩
  · rw [turn_eq, ev]
    exact z1
  · have q := congrArg (List.take 2) z2
    rw [List.take_take] at q
    exact q
theorem turns_ok {s : Option Sl} {am : Addr} {cells : List Int} : ∀ (l : List D) (left : List Int) (n : Int) (δ : Wm.Env), 0 ≤ n ∧ n + l.length < 10 ^ 9 → δ.length = 10 → δ.take 2 = [s, some (.dat (.drw am))] →
    ∃ δ' S', forGo F3 (.one 2) (zvs 11 ctW turnB) l δ (.on am cells left n) = .nx δ' S'
  | [], left, n, δ, _, _, _ => ⟨_, _, rfl⟩
  | d :: l, left, n, δ, hn, hl, h2 => by
    have hn1 : n + (l.length + 1 : Int) < 10 ^ 9 := by have := hn.2; simp at this; omega
    obtain ⟨b0, b1, t, a0, a1, a2, a3, a4, a5, a6, rfl⟩ := list10 hl
    have bt : bindT (.one 2) d [b0, b1, t, a0, a1, a2, a3, a4, a5, a6] = some [b0, b1, some (.dat d), a0, a1, a2, a3, a4, a5, a6] := rfl
    obtain ⟨δ', left', n', e1, e2, e3, e4⟩ := turn_ok (s := s) (am := am) (cells := cells) (left := left) (n := n) ⟨hn.1, by omega⟩ (δ := [b0, b1, some (.dat d), a0, a1, a2, a3, a4, a5, a6]) rfl h2
    obtain ⟨δ2, S2, z⟩ := turns_ok l left' n' δ' ⟨e4.1, by omega⟩ e2 e3
    refine ⟨δ2, S2, ?_⟩
    unfold forGo
    rw [bt]
    show (match zvs 11 ctW turnB F3 _ _ with | .nx δ2 S2 => _ | o => o) = _
    rw [e1]
    exact z
theorem law_eq (am : Addr) (cells : List Int) (S : DS) : zvs 12 ctW lawB F3 (lawE 8 am cells) S = (match zFor (ivOf ctW ((evs 40).1 ctW) (forOf (sAt lawB 0)).1 (forOf (sAt lawB 0)).2.1) (.one 2) (zvs 11 ctW turnB) F3 (lawE 8 am cells) S with
      | .nx δ S' => .rt (.bl true) S'
      | o => o) := by kernel_rfl
def many (cells : List Int) : Int := 2 + (if (6 : Int) < ((cells.map D.int).length : Int) then 6 else ((cells.map D.int).length : Int))
theorem iv_eq (am : Addr) (cells : List Int) (S : DS) : ivOf ctW ((evs 40).1 ctW) (forOf (sAt lawB 0)).1 (forOf (sAt lawB 0)).2.1 F3 (lawE 8 am cells) S = M.of (rng1 [.int (many cells)]) S := by kernel_rfl
theorem ints_len (k : Nat) (i : Int) : (Wm.intsFrom i k).length = k := by simp [Wm.intsFrom]
theorem law_plain (am : Addr) (cells : List Int) : ∃ S', zvs 12 ctW lawB F3 (lawE 8 am cells) (.on am cells (great cells) 0) = .rt (.bl true) S' := by
  have hm : 2 ≤ many cells ∧ many cells ≤ 8 := by
    unfold many
    split <;> omega
  have hr : rng1 [.int (many cells)] = some (Wm.intsFrom 0 (many cells).toNat) := if_pos ⟨by omega, by omega⟩
  obtain ⟨δ', S', z⟩ := turns_ok (s := some (.dat (.fro (cells.map D.int)))) (am := am) (cells := cells) (Wm.intsFrom 0 (many cells).toNat) (great cells) 0 (lawE 8 am cells) ⟨Int.le_refl _, by rw [ints_len]; omega⟩ rfl rfl
  refine ⟨S', ?_⟩
  rw [law_eq]
  unfold zFor
  rw [iv_eq, hr]
  show (match forGo F3 (.one 2) (zvs 11 ctW turnB) _ _ _ with | .nx δ S' => _ | o => o) = _
  rw [z]
end K70

namespace K70
open PySem PySem.Spec PyProof.Rows L2 Wm
open He (ga ma frG asD AlD obsD valD SaysD FnW DefD)
theorem bind1 {K : PySem.W.Frag} {x : Str} {A : Arguments} {b : List Stmt} {sc : Scope} {f : Addr} {fd : FuncData} {p : Str} (F : FunD K x x A b sc [] [] f fd)
    (h : ∀ (kV doc pm : Value) (an : Option Addr) (cdv ct u : Value), bindArgs (PySem.W.fnOf x x A b sc .none kV doc pm an cdv ct) ⟨[u], []⟩ = pure [(p, u)]) : Binds K fd [p] [] :=
  F.bindsN fun kV doc pm an cdv ct us hl => by
    match us, hl with
    | [u], _ => exact h kV doc pm an cdv ct u
theorem bind2 {K : PySem.W.Frag} {x : Str} {A : Arguments} {b : List Stmt} {sc : Scope} {f : Addr} {fd : FuncData} {p q : Str} (F : FunD K x x A b sc [] [] f fd)
    (h : ∀ (kV doc pm : Value) (an : Option Addr) (cdv ct u v : Value), bindArgs (PySem.W.fnOf x x A b sc .none kV doc pm an cdv ct) ⟨[u, v], []⟩ = pure [(p, u), (q, v)]) : Binds K fd [p, q] [] :=
  F.bindsN fun kV doc pm an cdv ct us hl => by
    match us, hl with
    | [u, v], _ => exact h kV doc pm an cdv ct u v
section
variable {w : World} {h : Heap} {mg : Str → Option Value} {K : PySem.W.Frag}
theorem eiT (i : Nat) (f : Str) (hi : i < 10) (hf : f = excF i) : EiText (defArgs (initOf (top (i + 2)))) (defBody (initOf (top (i + 2)))) (defScope (initOf (top (i + 2)))) f := by
  subst hf
  rcases i with _ | i; · exact ⟨_, _, _, _, _, _, _, _, _, _, _, _, _, rfl, rfl, rfl, rfl⟩
  rcases i with _ | i; · exact ⟨_, _, _, _, _, _, _, _, _, _, _, _, _, rfl, rfl, rfl, rfl⟩
  rcases i with _ | i; · exact ⟨_, _, _, _, _, _, _, _, _, _, _, _, _, rfl, rfl, rfl, rfl⟩
  rcases i with _ | i; · exact ⟨_, _, _, _, _, _, _, _, _, _, _, _, _, rfl, rfl, rfl, rfl⟩
  rcases i with _ | i; · exact ⟨_, _, _, _, _, _, _, _, _, _, _, _, _, rfl, rfl, rfl, rfl⟩
  rcases i with _ | i; · exact ⟨_, _, _, _, _, _, _, _, _, _, _, _, _, rfl, rfl, rfl, rfl⟩
  rcases i with _ | i; · exact ⟨_, _, _, _, _, _, _, _, _, _, _, _, _, rfl, rfl, rfl, rfl⟩
  rcases i with _ | i; · exact ⟨_, _, _, _, _, _, _, _, _, _, _, _, _, rfl, rfl, rfl, rfl⟩
  rcases i with _ | i; · exact ⟨_, _, _, _, _, _, _, _, _, _, _, _, _, rfl, rfl, rfl, rfl⟩
  rcases i with _ | i; · exact ⟨_, _, _, _, _, _, _, _, _, _, _, _, _, rfl, rfl, rfl, rfl⟩
  omega
theorem excF_min (c : Nat) : excF (min c 9) = excF c := by
  rcases c with _ | _ | _ | _ | _ | _ | _ | _ | _ | c <;> try rfl
  show excF (min (c + 9) 9) = excF (c + 9)
  rw [Nat.min_eq_right (by omega)]
  rfl
theorem fis (c : Nat) : excF c = "value" ∨ excF c = "place" ∨ excF c = "line" ∨ excF c = "most" := by
  unfold excF
  split <;> simp
theorem err_all (X : K.In h) (G : h.Ns mainGlobals mg) (e : er.map (errW K) = ev) (c : ck K = true) (base : Heap) (n : Nat) : ErrG ⟨P, w, K, mg, base⟩ n := by
  unfold ck at c
  rw [Bool.and_eq_true, Bool.and_eq_true] at c
  obtain ⟨c1, c2, _⟩ := c
  have hw : ∀ i, i < 10 → errW K (excN i) = evOf i := fun i hi => by
    have z := congrArg (fun l => l[i]?) e
    unfold er ev at z
    simp only [List.map_map, List.getElem?_map, List.getElem?_range hi, Option.map_some, Function.comp] at z
    exact Option.some.inj z
  have go : ∀ i, i < 10 → ErrG ⟨P, w, K, mg, base⟩ i := fun i hi => by
    have hwi := hw i hi
    by_cases h9 : i < 9
    · have q := List.all_eq_true.mp c1 i (by simpa using h9)
      obtain ⟨z1, z2⟩ := err_txt PySem.F.excBase_ValueError PySem.W.kxs_ValueError PySem.F.store_ValueError (fis i) (by kernel_rfl) q hwi (eiT i _ hi rfl)
      exact ⟨_, _, _, _, _, _, gv_ok X G z2, z1⟩
    · obtain rfl : i = 9 := by omega
      obtain ⟨z1, z2⟩ := err_txt PySem.F.excBase_OverflowError PySem.W.kxs_OverflowError PySem.F.store_OverflowError (fis 9) (by kernel_rfl) c2 hwi (eiT 9 _ hi rfl)
      exact ⟨_, _, _, _, _, _, gv_ok X G z2, z1⟩
  obtain ⟨C, fI, B, newId, i, bmB, g1, g2⟩ := (go (min n 9) (by omega)).ok
  rw [excN_min] at g1
  rw [excF_min] at g2
  exact ⟨C, fI, B, newId, i, bmB, g1, g2⟩
theorem tok_all (X : K.In h) (G : h.Ns mainGlobals mg) (e : er.map (errW K) = ev) (c : ck K = true) (base : Heap) {F : Fns} {tb : Tb} {k : Nat} (h1 : ∀ x m n dd, tb.fn x m = some (n, dd) → FnT ⟨P, w, K, mg, base⟩ F k x n dd)
    (h2 : tb.err = tb1.err ∨ tb.err = tb0.err) (h3 : tb.isi = tb1.isi ∨ tb.isi = tb0.isi) : Tok ⟨P, w, K, mg, base⟩ F tb k := by
  have c' := c
  unfold ck at c'
  simp only [Bool.and_eq_true] at c'
  obtain ⟨_, _, c3, c4, c5⟩ := c'
  have er1 : ∀ x n, tb.err x = some n → x = excN n := fun x n z => by
    rcases h2 with q | q
    · rw [q] at z
      exact of_decide_eq_true (List.find?_some (p := fun c => decide (x = excN c)) z)
    · rw [q] at z; cases z
  refine ⟨h1, er1, fun n _ => err_all X G e c base n, fun x n z => ?_, fun ys κ z => ?_, isi_ok X G c3, blt_ok X G c5⟩
  · obtain ⟨C, fI, B, newId, i, bmB, g1, g2⟩ := (err_all (w := w) X G e c base n).ok
    exact ⟨C, g1⟩
  · rcases h3 with q | q
    · rw [q] at z
      have z : (if ys ∈ yss then some (κf ys) else none) = some κ := z
      split at z
      · rename_i hy
        cases z
        exact isis_ok X G c4 hy
      · cases z
    · rw [q] at z; cases z
theorem law_fn (X : K.In h) (G : h.Ns mainGlobals mg) (c0 : SaysD fa fn K) (e : er.map (errW K) = ev) (c : ck K = true) {f : Addr} (hfa : mg ("law" : Str) = some (.ref f)) :
    ∃ fd : FuncData, (∀ (s : Shared) (v : Value), BindsTo s fd ⟨[v], []⟩ [("script", v)]) ∧ ∀ base : Heap, FnG P w K mg base 4 f fd ["script"] (spLawG ⟨P, w, K, mg, base⟩ fun _ => True) := by
  obtain ⟨fdB, FB⟩ := c0.def_ 0 (d := dOf "_law_begun" sBeg) rfl
  obtain ⟨fdN, FN⟩ := c0.def_ 1 (d := dOf "_law_next" sNext) rfl
  obtain ⟨fdV, FV⟩ := c0.def_ 2 (d := dOf "_law_value" sVal) rfl
  obtain ⟨fdK, FK⟩ := c0.def_ 3 (d := dOf "_law_kinds" sKinds) rfl
  obtain ⟨fdF, FF⟩ := c0.def_ 4 (d := dOf "_law_field" sField) rfl
  obtain ⟨fd, FL⟩ := c0.def_ 5 (d := dOf "law" sLaw) rfl
  have gB := He.glo_ok X G (c0.fact 0 (f := .glo "_law_begun") rfl)
  have gN := He.glo_ok X G (c0.fact 1 (f := .glo "_law_next") rfl)
  have gV := He.glo_ok X G (c0.fact 2 (f := .glo "_law_value") rfl)
  have gK := He.glo_ok X G (c0.fact 3 (f := .glo "_law_kinds") rfl)
  have gF := He.glo_ok X G (c0.fact 4 (f := .glo "_law_field") rfl)
  have z := hfa.symm.trans (He.glo_ok X G (c0.fact 5 (f := .glo "law") rfl))
  cases z
  have b := FunD.bindsA (ps := ["script"]) FL fun _ _ _ _ _ _ us hl => match us, hl with | [_], _ => rfl
  refine ⟨fd, fun s v => b s [v] rfl, fun base => ?_⟩
  have T0 : ∀ k, Tok ⟨P, w, K, mg, base⟩ F0 tb0 k := fun k => tok_all X G e c base (fun _ _ _ _ z => by cases z) (.inr rfl) (.inr rfl)
  have TT := tower (g := ⟨P, w, K, mg, base⟩) (rows := rows) (tb := tb1) (spn := spn) (fun F k h1 => tok_all X G e c base h1 (.inl rfl) (.inl rfl)) (fun x m n dd z => by
    have z : (if x = "_law_next" ∧ m = 2 then some (0, []) else if x = "_law_value" ∧ m = 1 then some (1, []) else if x = "_law_kinds" ∧ m = 1 then some (2, []) else if x = "_law_field" ∧ m = 1 then some (3, []) else none) = some (n, dd) := z
    split at z
    · rename_i q; cases z; obtain ⟨rfl, _⟩ := q
      exact ⟨rfl, .own nextF _ fdN ["m", "many"] rfl (next_conv (next_fn FN T0)) gN FN.kp (bind2 FN fun _ _ _ _ _ _ _ _ => rfl)⟩
    split at z
    · rename_i q; cases z; obtain ⟨rfl, _⟩ := q
      exact ⟨rfl, .txt _ _ fdV rfl rfl FV gV scV (bind1 FV fun _ _ _ _ _ _ _ => rfl)⟩
    split at z
    · rename_i q; cases z; obtain ⟨rfl, _⟩ := q
      exact ⟨rfl, .txt _ _ fdK rfl rfl FK gK scK (bind1 FK fun _ _ _ _ _ _ _ => rfl)⟩
    split at z
    · rename_i q; cases z; obtain ⟨rfl, _⟩ := q
      exact ⟨rfl, .txt _ _ fdF rfl rfl FF gF scF (bind1 FF fun _ _ _ _ _ _ _ => rfl)⟩
    · cases z) 3
  have GB := begun_conv (g := ⟨P, w, K, mg, base⟩) (beg_fn FB T0)
  refine okG FL scL (fun vs H Q E ⟨_, _, e, _⟩ => by rw [e]; rfl) fun cd A out s H vs Q E hr hg hs => ?_
  have S : Sk (cxOf (L2.CX P w) P w K mg base NL "law" (defScope sLaw) _ cd A out s H E) ⟨P, w, K, mg, base⟩ F3 (fun c d _ H' => E c d H') ctW 3 := ⟨⟨rfl, rfl, rfl, rfl, rfl, rfl, rfl, scL.nd, rfl, hr, hg⟩, takes_of rfl rfl rfl rfl, TT⟩
  have Dk : Dok (cxOf (L2.CX P w) P w K mg base NL "law" (defScope sLaw) (ga K "law") cd A out s H E) (fun c d _ H' => E c d H') := ⟨fun _ => rfl, PassesOwn.leaving, takes_of rfl rfl rfl rfl, rfl, rfl, rfl⟩
  refine ⟨tLawR ⟨P, w, K, mg, base⟩ F3 (fun c d _ H' => E c d H') (fun _ => false) (zvs 12 ctW lawB), ?_, law_reads rfl (fun am cells _ _ => law_plain am cells) hs⟩
  exact pss_cons (ps_set (i := 1) scL.nd rfl (Or.inl rfl) (pe_callG GB (hr.mono (by decide)) hg rfl gB FB.kp (bind1 FB fun _ _ _ _ _ _ _ => rfl) (takes_of rfl rfl rfl rfl) (pa_cons (pv 0) pa_nil) rfl rfl rfl)) (ss_any fun B => snd_zvs S Dk 12 B _ lawB)
end
end K70
open PySem PySem.W PySem.Calls PyProof.Rows
set_option maxHeartbeats 0 in
theorem PySem.Challenge.cw_whomaysign_k70_errors_holds : PySem.Challenge.rw_whomaysign_k70_errors.Holds := by
  w_on; o_law
  refine HandSHeadRun.head_any (r := OpenLaw.row PySem.Challenge.rw_whomaysign_k70_errors) (q := view (OpenLaw.row PySem.Challenge.rw_whomaysign_k70_errors).prog [18]) (H := K70.hk) (ob := K70.ob) (M := 3600) (loose := K70.names) (d := HandSHeadRun.topDef (OpenLaw.row PySem.Challenge.rw_whomaysign_k70_errors).prog 18) (kwd := []) K70.ob_eq
    (by kernel_rfl) (fun s => by kernel_rfl) K70.run (by kernel_rfl) (by kernel_rfl) (by kernel_rfl) (by rfl) (by first | assumption | decide +kernel) (by decide +kernel) ⟨rfl, rfl, rfl, rfl, rfl, by decide +kernel⟩ ?hw ?hc
  case hw => w_witness2
  case hc =>
    refine Wm.walk_G (l := PySem.Challenge.rw_whomaysign_k70_errors) (k := 4) (x := "script") rfl (by kernel_rfl) ⟨rfl, by decide, by decide⟩ ?F
    intro w mg fa h Y G hmg0
    obtain ⟨K, KX, c0, e, c⟩ := Y
    have hmg : mg ("law" : PySem.Str) = some (.ref fa) := by
      have e : (HandSHeadRun.topDef (OpenLaw.row PySem.Challenge.rw_whomaysign_k70_errors).prog 18).name = ("law" : PySem.Str) := by kernel_rfl
      rw [← e]
      exact hmg0
    obtain ⟨fd, hb, hF⟩ := K70.law_fn (w := w) KX G c0 e c hmg
    exact ⟨K, fd, Wm.spLawG ⟨K70.P, w, K, mg, h⟩ fun _ => True, KX, hb, fun H a ns hl hS => ⟨a, ns, rfl, hS, hl, trivial, fun _ => rfl⟩, fun base _ _ => hF base⟩
