import PyProof.Rows.All
import Wide.All
import OpenK.AllK
import Wide.FinOn
import HandS.ForList
import KE.RegKTryMore
import KE.RegKIsAll
import HandS.ForMost
import HandS.ForExc
import HandS.Flow
import HandS.Wide
import HandS.WideBits
import HandS.IsInst
import HandS.TupAny
import HandS.TupMul
import HandS.Zip
import HandS.TryOnly
import HandS.TryMany
import HandS.EndBits
import HandS.WordsExc
import HandS.Set
import HandS.SetFor
import HandS.Strs
import HandS.SortKw
import HandS.Deep
import KE.SortData
import KE.DataMinMax
import PyProof.ReprBulk
import HandS.Style
import HandS.TupLe
import KE.KRevSl
import KE.GoesNew
import HandS.ExcIs
import PySem.Challenge.RW_countrealm_k40_what_goes_with_an_integer
set_option Elab.async false


set_option linter.all false
set_option maxRecDepth 100000
set_option maxHeartbeats 1000000
/-! Ev.A: values, cells, the evaluator's state, and how they lie in the abstract heap -/
namespace Ev
open PySem PySem.Spec L2

/-- a value: tuples and frozen lists by what they hold -/
inductive PV where
  | non | bl (b : Bool) | int (i : Int) | str (x : Str) | tup (xs : List PV) | lst (xs : List PV)
  | scr (ns : List Int) | box (n : Nat) | fn (n : Nat)
  deriving Inhabited
/-- what may still be changed -/
inductive Cell where
  | lst (xs : List PV)
  deriving Inhabited
def Cell.val : Cell → PV
  | .lst xs => .lst xs
/-- a slot of a frame -/
inductive Sl where
  | none | val (v : PV) | own (c : Cell)
  deriving Inhabited
structure ES where
  env : List Sl
  st : List Cell
structure Ex where
  cls : Str
  args : List PV
inductive Out (α : Type) where
  | ok (a : α) (s : ES) | exc (x : Ex) (s : ES) | bad
abbrev M (α : Type) := ES → Out α
def ret {α} (a : α) : M α := fun s => .ok a s
def bad {α} : M α := fun _ => .bad
def bnd {α β} (m : M α) (f : α → M β) : M β := fun s => match m s with
  | .ok a s' => f a s'
  | .exc x s' => .exc x s'
  | .bad => .bad
/-- an expression's outcome: a value, a new cell, or the cell that a slot owns -/
inductive RE where
  | val (v : PV) | fresh (c : Cell) | pk (i : Nat)
  deriving Inhabited

inductive Nm where
  | slot (i : Nat) | box (n : Nat) | tmp (a : Addr) | held (a : Addr)
  deriving DecidableEq
abbrev Rho := Nm → Option Addr
open Classical in
/-- the heap without what may be changed -/
noncomputable def cut (H : Hp) (ρ : Rho) : Hp := fun a => if ∃ nm, ρ nm = some a then none else H a
theorem cut_eq {H : Hp} {ρ : Rho} {a : Addr} {o : HO} : cut H ρ a = some o ↔ (∀ nm, ρ nm ≠ some a) ∧ H a = some o := by
  unfold cut
  split
  · rename_i h
    constructor
    · intro h'; cases h'
    · intro h'; obtain ⟨nm, e⟩ := h; exact absurd e (h'.1 nm)
  · rename_i h
    exact ⟨fun e => ⟨fun nm e' => h ⟨nm, e'⟩, e⟩, fun e => e.2⟩
theorem cut_le {H : Hp} {ρ : Rho} {a : Addr} {o : HO} (h : cut H ρ a = some o) : H a = some o := (cut_eq.mp h).2

abbrev Le (T T' : Hp) : Prop := ∀ a o, T a = some o → T' a = some o
theorem Rd.le {T T' : Hp} (h : Le T T') {a : Addr} {u : HO} (r : Rd T a u) : Rd T' a u := by
  rcases r with r | ⟨o, r⟩
  · exact .inl (h _ _ r)
  · exact .inr ⟨o, h _ _ r⟩
theorem SqT.le {K : PySem.W.Frag} {T T' : Hp} (h : Le T T') {a : Addr} {vs : List V} (q : SqT K T a vs) : SqT K T' a vs := by
  rcases q with q | q
  · exact .inl (Rd.le h q)
  · exact .inr q
theorem SqL.le {K : PySem.W.Frag} {T T' : Hp} (h : Le T T') {a : Addr} {vs : List V} (q : SqL K T a vs) : SqL K T' a vs := by
  rcases q with q | q
  · exact .inl (Rd.le h q)
  · exact .inr q

section
variable (K : PySem.W.Frag) (fa : Nat → Addr)
mutual
inductive RV (ρ : Rho) (T : Hp) : PV → V → Prop
  | non : RV ρ T .non .non
  | bl (b : Bool) : RV ρ T (.bl b) (.bl b)
  | int (i : Int) : RV ρ T (.int i) (.int i)
  | str (x : Str) : RV ρ T (.str x) (.str x)
  | tup {a : Addr} {xs : List PV} {vs : List V} : SqT K T a vs → RVs ρ T xs vs → RV ρ T (.tup xs) (.ref a)
  | lst {a : Addr} {xs : List PV} {vs : List V} : T a = some (.lst vs) → RVs ρ T xs vs → RV ρ T (.lst xs) (.ref a)
  | scr {a : Addr} {ns : List Int} : SqL K T a (ns.map V.int) → RV ρ T (.scr ns) (.ref a)
  | box {a : Addr} {n : Nat} : ρ (.box n) = some a → RV ρ T (.box n) (.ref a)
  | fn (n : Nat) : RV ρ T (.fn n) (.ref (fa n))
inductive RVs (ρ : Rho) (T : Hp) : List PV → List V → Prop
  | nil : RVs ρ T [] []
  | cons {x : PV} {v : V} {xs : List PV} {vs : List V} : RV ρ T x v → RVs ρ T xs vs → RVs ρ T (x :: xs) (v :: vs)
end
end
section
variable {K : PySem.W.Frag} {fa : Nat → Addr} {ρ ρ' : Rho} {T T' : Hp}
abbrev BoxLe (ρ ρ' : Rho) : Prop := ∀ n a, ρ (.box n) = some a → ρ' (.box n) = some a
mutual
theorem RV.mono (hT : Le T T') (hb : BoxLe ρ ρ') : ∀ {x : PV} {v : V}, RV K fa ρ T x v → RV K fa ρ' T' x v
  | _, _, .non => .non
  | _, _, .bl b => .bl b
  | _, _, .int i => .int i
  | _, _, .str x => .str x
  | _, _, .tup h hs => .tup (SqT.le hT h) (RVs.mono hT hb hs)
  | _, _, .lst h hs => .lst (hT _ _ h) (RVs.mono hT hb hs)
  | _, _, .scr h => .scr (SqL.le hT h)
  | _, _, .box h => .box (hb _ _ h)
  | _, _, .fn n => .fn n
theorem RVs.mono (hT : Le T T') (hb : BoxLe ρ ρ') : ∀ {xs : List PV} {vs : List V}, RVs K fa ρ T xs vs → RVs K fa ρ' T' xs vs
  | _, _, .nil => .nil
  | _, _, .cons h hs => .cons (RV.mono hT hb h) (RVs.mono hT hb hs)
end
theorem RVs.length : ∀ {xs : List PV} {vs : List V}, RVs K fa ρ T xs vs → xs.length = vs.length
  | _, _, .nil => rfl
  | _, _, .cons _ hs => by simp [RVs.length hs]
theorem RVs.append : ∀ {xs ys : List PV} {vs ws : List V}, RVs K fa ρ T xs vs → RVs K fa ρ T ys ws → RVs K fa ρ T (xs ++ ys) (vs ++ ws)
  | _, _, _, _, .nil, s => s
  | _, _, _, _, .cons h t, s => .cons h (RVs.append t s)
theorem RVs.get : ∀ {xs : List PV} {vs : List V} {i : Nat} {x : PV}, RVs K fa ρ T xs vs → xs[i]? = some x → ∃ v, vs[i]? = some v ∧ RV K fa ρ T x v
  | _, _, _, _, .nil, e => by simp at e
  | _, _, 0, _, .cons h _, e => by simp at e; subst e; exact ⟨_, rfl, h⟩
  | _, _, i + 1, x, .cons _ t, e => by
    obtain ⟨v, h1, h2⟩ := RVs.get (i := i) (x := x) t (by simpa using e)
    exact ⟨v, by simpa using h1, h2⟩
theorem RVs.take : ∀ {xs : List PV} {vs : List V} (n : Nat), RVs K fa ρ T xs vs → RVs K fa ρ T (xs.take n) (vs.take n)
  | _, _, 0, _ => by simp; exact .nil
  | _, _, _ + 1, .nil => by simp; exact .nil
  | _, _, n + 1, .cons h t => by simp only [List.take_succ_cons]; exact .cons h (RVs.take n t)
theorem RVs.drop : ∀ {xs : List PV} {vs : List V} (n : Nat), RVs K fa ρ T xs vs → RVs K fa ρ T (xs.drop n) (vs.drop n)
  | _, _, 0, h => h
  | _, _, _ + 1, .nil => .nil
  | _, _, n + 1, .cons _ t => RVs.drop n t
theorem RVs.set {x : PV} {v : V} (h : RV K fa ρ T x v) : ∀ {xs : List PV} {vs : List V} (i : Nat), RVs K fa ρ T xs vs → RVs K fa ρ T (xs.set i x) (vs.set i v)
  | _, _, _, .nil => .nil
  | _, _, 0, .cons _ t => .cons h t
  | _, _, i + 1, .cons q t => .cons q (RVs.set h i t)
theorem RVs.rev {xs : List PV} {vs : List V} (h : RVs K fa ρ T xs vs) : RVs K fa ρ T xs.reverse vs.reverse := by
  induction xs generalizing vs with
  | nil => cases h; exact .nil
  | cons x xs ih =>
    cases h with
    | cons h1 h2 => simp only [List.reverse_cons]; exact RVs.append (ih h2) (.cons h1 .nil)
theorem RVs.rep {xs : List PV} {vs : List V} (h : RVs K fa ρ T xs vs) : ∀ k : Nat, RVs K fa ρ T (List.replicate k xs).flatten (List.replicate k vs).flatten
  | 0 => .nil
  | k + 1 => by
    simp only [List.replicate_succ, List.flatten_cons]
    exact RVs.append h (RVs.rep h k)
theorem RVs.ints : ∀ (ns : List Int), RVs K fa ρ T (ns.map PV.int) (ns.map V.int)
  | [] => .nil
  | n :: r => .cons (.int n) (RVs.ints r)
theorem RVs.of_ints : ∀ {ns : List Int} {vs : List V}, RVs K fa ρ T (ns.map PV.int) vs → vs = ns.map V.int
  | [], _, h => by cases h; rfl
  | n :: r, _, h => by
    cases h with
    | cons h1 h2 => cases h1; rw [RVs.of_ints h2]; rfl

/-- a cell's content -/
def CellR (K : PySem.W.Frag) (fa : Nat → Addr) (ρ : Rho) (T : Hp) : Cell → Option HO → Prop
  | .lst xs, o => ∃ vs, o = some (.lst vs) ∧ RVs K fa ρ T xs vs
theorem CellR.mono (hT : Le T T') (hb : BoxLe ρ ρ') {c : Cell} {o : Option HO} (h : CellR K fa ρ T c o) : CellR K fa ρ' T' c o := by
  cases c with
  | lst xs => obtain ⟨vs, e, r⟩ := h; exact ⟨vs, e, r.mono hT hb⟩
theorem CellR.ne_none {c : Cell} {o : Option HO} (h : CellR K fa ρ T c o) : o ≠ none := by
  cases c with
  | lst xs => obtain ⟨vs, e, r⟩ := h; rw [e]; simp
theorem CellR.mut {c : Cell} {o : Option HO} (h : CellR K fa ρ T c o) : Mut o := by
  cases c with
  | lst xs => obtain ⟨vs, e, r⟩ := h; rw [e]; trivial

def SlotR (K : PySem.W.Frag) (fa : Nat → Addr) (ρ : Rho) (σ : St) (H : Hp) (i : Nat) : Option Sl → Prop
  | some (.val v) => ρ (.slot i) = none ∧ ∃ V, σ[i]? = some (some V) ∧ RV K fa ρ (cut H ρ) v V
  | some (.own c) => ∃ a, ρ (.slot i) = some a ∧ σ[i]? = some (some (V.ref a)) ∧ CellR K fa ρ (cut H ρ) c (H a)
  | _ => ρ (.slot i) = none
def BoxR (K : PySem.W.Frag) (fa : Nat → Addr) (ρ : Rho) (H : Hp) (n : Nat) : Option Cell → Prop
  | some c => ∃ a, ρ (.box n) = some a ∧ CellR K fa ρ (cut H ρ) c (H a)
  | none => ρ (.box n) = none
/-- how a state lies in the slots and the heap; P: what must stand -/
structure Rel (K : PySem.W.Frag) (fa : Nat → Addr) (P : Hp) (ρ : Rho) (s : ES) (σ : St) (H : Hp) : Prop where
  inj : ∀ x y a, ρ x = some a → ρ y = some a → x = y
  base : Le P (cut H ρ)
  slot : ∀ i, SlotR K fa ρ σ H i s.env[i]?
  box : ∀ n, BoxR K fa ρ H n s.st[n]?
  tmp : ∀ a b, ρ (.tmp a) = some b → b = a ∧ Mut (H a)
  held : ∀ a b, ρ (.held a) = some b → b = a ∧ Mut (H a)
  len : s.env.length = σ.length
end

/-- what an evaluation leaves -/
structure Ext (ρ : Rho) (H : Hp) (ρ' : Rho) (H' : Hp) : Prop where
  le : Le (cut H ρ) (cut H' ρ')
  box : BoxLe ρ ρ'
  held : ∀ a, ρ (.held a) = some a → ρ' (.held a) = some a ∧ H' a = H a
theorem Ext.refl {ρ : Rho} {H : Hp} : Ext ρ H ρ H := ⟨fun _ _ h => h, fun _ _ h => h, fun _ h => ⟨h, rfl⟩⟩
theorem Ext.trans {ρ ρ1 ρ2 : Rho} {H H1 H2 : Hp} (a : Ext ρ H ρ1 H1) (b : Ext ρ1 H1 ρ2 H2) : Ext ρ H ρ2 H2 :=
  ⟨fun x o h => b.le x o (a.le x o h), fun n x h => b.box n x (a.box n x h), fun x h =>
    let ⟨h1, e1⟩ := a.held x h
    let ⟨h2, e2⟩ := b.held x h1
    ⟨h2, e2.trans e1⟩⟩

section
variable {K : PySem.W.Frag} {fa : Nat → Addr} {P : Hp} {ρ ρ' : Rho} {s : ES} {σ : St} {H H' : Hp}
/-- an outcome's value -/
def RER (K : PySem.W.Frag) (fa : Nat → Addr) (ρ : Rho) (σ : St) (H : Hp) : RE → V → Prop
  | .val v, x => RV K fa ρ (cut H ρ) v x
  | .fresh c, x => ∃ a, x = .ref a ∧ ρ (.tmp a) = some a ∧ CellR K fa ρ (cut H ρ) c (H a)
  | .pk i, x => σ[i]? = some (some x)
def RE.norm : RE → RE
  | .fresh c => .val c.val
  | r => r
/-- an operand: no new cell -/
theorem RER.ext (e : Ext ρ H ρ' H') {r : RE} {x : V} (h : RER K fa ρ σ H r.norm x) : RER K fa ρ' σ H' r.norm x := by
  cases r with
  | val v => exact RV.mono e.le e.box h
  | fresh c => exact RV.mono e.le e.box h
  | pk i => exact h
def RERs (K : PySem.W.Frag) (fa : Nat → Addr) (ρ : Rho) (σ : St) (H : Hp) : List RE → List V → Prop
  | [], [] => True
  | r :: rs, x :: xs => RER K fa ρ σ H r.norm x ∧ RERs K fa ρ σ H rs xs
  | _, _ => False
theorem RERs.ext (e : Ext ρ H ρ' H') : ∀ {rs : List RE} {xs : List V}, RERs K fa ρ σ H rs xs → RERs K fa ρ' σ H' rs xs
  | [], [], _ => trivial
  | _ :: _, _ :: _, ⟨h, t⟩ => ⟨h.ext e, RERs.ext e t⟩
  | [], _ :: _, h => h.elim
  | _ :: _, [], h => h.elim

/-- the wish of an exception: its class by name, what it bears -/
structure Env1 where
  K : PySem.W.Frag
  fa : Nat → Addr
  ea : Str → Option Addr
abbrev XR := Ex → Value → Option Addr → Hp → Prop

/-- the reading of an evaluation at a state -/
def rdAt {α β : Type} (G : Env1) (xr : XR) (P : Hp) (R : Rho → St → Hp → α → β → Prop) (W : WX) (ρ : Rho) (m : Out α) (σ : St) (H : Hp) (Q : β → Hp → Prop) : Prop :=
  match m with
  | .ok r s' => ∀ ρ' H' b, Rel G.K G.fa P ρ' s' σ H' → Ext ρ H ρ' H' → R ρ' σ H' r b → Q b H'
  | .exc x s' => ∀ ρ' H' cls d, Rel G.K G.fa P ρ' s' σ H' → Ext ρ H ρ' H' → xr x cls d H' → W cls d σ H'
  | .bad => False
def rd {α β : Type} (G : Env1) (xr : XR) (P : Hp) (R : Rho → St → Hp → α → β → Prop) (W : WX) (m : M α) : St → Hp → (β → Hp → Prop) → Prop :=
  fun σ H Q => ∃ ρ s, Rel G.K G.fa P ρ s σ H ∧ rdAt G xr P R W ρ (m s) σ H Q
end
end Ev

set_option linter.all false
set_option maxRecDepth 100000
set_option maxHeartbeats 1000000
/-! Ev.B: how the ghost names change -/
namespace Ev
open PySem PySem.Spec L2
def setN (ρ : Rho) (nm : Nm) (o : Option Addr) : Rho := fun x => if x = nm then o else ρ x
theorem setN_same {ρ : Rho} {nm : Nm} {o : Option Addr} : setN ρ nm o nm = o := by simp [setN]
theorem setN_ne {ρ : Rho} {nm x : Nm} {o : Option Addr} (h : x ≠ nm) : setN ρ nm o x = ρ x := by simp [setN, h]
section
variable {K : PySem.W.Frag} {fa : Nat → Addr} {P : Hp} {ρ ρ' : Rho} {s : ES} {σ σ' : St} {H H' : Hp}
theorem Rel.mutAt (R : Rel K fa P ρ s σ H) : ∀ {nm : Nm} {a : Addr}, ρ nm = some a → Mut (H a)
  | .slot i, a, h => by
    have q := R.slot i
    unfold SlotR at q
    split at q
    · rw [q.1] at h; cases h
    · obtain ⟨b, e, _, c⟩ := q; rw [e] at h; cases h; exact c.mut
    · rw [q] at h; cases h
  | .box n, a, h => by
    have q := R.box n
    unfold BoxR at q
    split at q
    · obtain ⟨b, e, c⟩ := q; rw [e] at h; cases h; exact c.mut
    · rw [q] at h; cases h
  | .tmp b, a, h => by obtain ⟨e, m⟩ := R.tmp _ _ h; rw [e]; exact m
  | .held b, a, h => by obtain ⟨e, m⟩ := R.held _ _ h; rw [e]; exact m
theorem Rel.notNone (R : Rel K fa P ρ s σ H) {nm : Nm} {a : Addr} (h : H a = none) : ρ nm ≠ some a := fun e => by
  have m := R.mutAt e
  rw [h] at m; exact m
theorem SlotR.mono (hT : Le (cut H ρ) (cut H' ρ')) (hb : BoxLe ρ ρ') {i : Nat} {sl : Option Sl} (hn : ρ' (.slot i) = ρ (.slot i)) (hH : ∀ a, ρ (.slot i) = some a → H' a = H a) (hσ : σ'[i]? = σ[i]?)
    (h : SlotR K fa ρ σ H i sl) : SlotR K fa ρ' σ' H' i sl := by
  unfold SlotR at h ⊢
  split at h
  · obtain ⟨h1, V, h2, h3⟩ := h
    exact ⟨hn.trans h1, V, hσ.trans h2, h3.mono hT hb⟩
  · obtain ⟨a, h1, h2, h3⟩ := h
    exact ⟨a, hn.trans h1, hσ.trans h2, by rw [hH a h1]; exact h3.mono hT hb⟩
  · exact hn.trans h
theorem BoxR.mono (hT : Le (cut H ρ) (cut H' ρ')) (hb : BoxLe ρ ρ') {n : Nat} {c : Option Cell} (hn : ρ' (.box n) = ρ (.box n)) (hH : ∀ a, ρ (.box n) = some a → H' a = H a)
    (h : BoxR K fa ρ H n c) : BoxR K fa ρ' H' n c := by
  unfold BoxR at h ⊢
  split at h
  · obtain ⟨a, h1, h3⟩ := h
    exact ⟨a, hn.trans h1, by rw [hH a h1]; exact h3.mono hT hb⟩
  · exact hn.trans h
/-- a new object that is never changed -/
theorem Rel.laid (R : Rel K fa P ρ s σ H) {p : Addr} {o : HO} (hp : H p = none) : Rel K fa P ρ s σ (upd H p o) ∧ Ext ρ H ρ (upd H p o) := by
  have ne : ∀ {nm : Nm} {a : Addr}, ρ nm = some a → upd H p o a = H a := fun {nm a} e => upd_ne fun z => by subst z; exact R.notNone hp e
  have le : Le (cut H ρ) (cut (upd H p o) ρ) := fun a u h => by
    obtain ⟨h1, h2⟩ := cut_eq.mp h
    refine cut_eq.mpr ⟨h1, ?_⟩
    rw [upd_ne (fun z => by subst z; rw [hp] at h2; cases h2)]; exact h2
  refine ⟨⟨R.inj, fun a u h => le a u (R.base a u h), fun i => (R.slot i).mono le (fun _ _ h => h) rfl (fun a h => ne h) rfl, fun n => (R.box n).mono le (fun _ _ h => h) rfl fun a h => ne h, fun a b h => ?_, fun a b h => ?_, R.len⟩, le, fun _ _ h => h, fun a h => ⟨h, ne h⟩⟩
  · obtain ⟨e, m⟩ := R.tmp a b h
    subst e
    exact ⟨rfl, by rw [ne h]; exact m⟩
  · obtain ⟨e, m⟩ := R.held a b h
    subst e
    exact ⟨rfl, by rw [ne h]; exact m⟩
theorem Rel.cutNew (R : Rel K fa P ρ s σ H) {p : Addr} {o : HO} (hp : H p = none) : cut (upd H p o) ρ p = some o :=
  cut_eq.mpr ⟨fun nm => R.notNone hp, upd_same⟩
/-- a new cell, a result -/
theorem Rel.newTmp (R : Rel K fa P ρ s σ H) {p : Addr} {o : HO} (hp : H p = none) (hm : Mut (some o)) :
    Rel K fa P (setN ρ (.tmp p) (some p)) s σ (upd H p o) ∧ Ext ρ H (setN ρ (.tmp p) (some p)) (upd H p o) := by
  have ne : ∀ {nm : Nm} {a : Addr}, ρ nm = some a → a ≠ p := fun {nm a} e z => by subst z; exact R.notNone hp e
  have le : Le (cut H ρ) (cut (upd H p o) (setN ρ (.tmp p) (some p))) := fun a u h => by
    obtain ⟨h1, h2⟩ := cut_eq.mp h
    have ha : a ≠ p := fun z => by subst z; rw [hp] at h2; cases h2
    refine cut_eq.mpr ⟨fun nm e => ?_, by rw [upd_ne ha]; exact h2⟩
    by_cases hn : nm = .tmp p
    · subst hn; rw [setN_same] at e; exact ha (Option.some.inj e).symm
    · rw [setN_ne hn] at e; exact h1 nm e
  refine ⟨⟨fun x y a hx hy => ?_, fun a u h => le a u (R.base a u h), fun i => (R.slot i).mono le (fun _ _ h => by rw [setN_ne (by simp)]; exact h) (setN_ne (by simp)) (fun a h => upd_ne (ne h)) rfl,
    fun n => (R.box n).mono le (fun _ _ h => by rw [setN_ne (by simp)]; exact h) (setN_ne (by simp)) fun a h => upd_ne (ne h), fun a b h => ?_, fun a b h => ?_, R.len⟩, le, fun _ _ h => by rw [setN_ne (by simp)]; exact h, fun a h => ⟨by rw [setN_ne (by simp)]; exact h, upd_ne (ne h)⟩⟩
  · by_cases h1 : x = .tmp p
    · subst h1
      rw [setN_same] at hx
      cases hx
      by_cases h2 : y = .tmp p
      · exact h2.symm
      · rw [setN_ne h2] at hy; exact absurd rfl (ne hy)
    · rw [setN_ne h1] at hx
      by_cases h2 : y = .tmp p
      · subst h2; rw [setN_same] at hy; cases hy; exact absurd rfl (ne hx)
      · rw [setN_ne h2] at hy; exact R.inj x y a hx hy
  · by_cases h1 : a = p
    · subst h1; rw [setN_same] at h; cases h; exact ⟨rfl, by rw [upd_same]; exact hm⟩
    · rw [setN_ne (by simp [h1])] at h
      obtain ⟨e, m⟩ := R.tmp a b h
      subst e
      exact ⟨rfl, by rw [upd_ne h1]; exact m⟩
  · rw [setN_ne (by simp)] at h
    obtain ⟨e, m⟩ := R.held a b h
    subst e
    exact ⟨rfl, by rw [upd_ne (ne h)]; exact m⟩
/-- a name is given up: what it named stands for good -/
theorem cut_drop {nm : Nm} : Le (cut H ρ) (cut H (setN ρ nm none)) := fun a u h => by
  obtain ⟨h1, h2⟩ := cut_eq.mp h
  refine cut_eq.mpr ⟨fun x e => ?_, h2⟩
  by_cases hx : x = nm
  · subst hx; rw [setN_same] at e; cases e
  · rw [setN_ne hx] at e; exact h1 x e
theorem cut_dropped (inj : ∀ x y a, ρ x = some a → ρ y = some a → x = y) {nm : Nm} {a : Addr} {o : HO} (h : ρ nm = some a) (ho : H a = some o) : cut H (setN ρ nm none) a = some o := by
  refine cut_eq.mpr ⟨fun x e => ?_, ho⟩
  by_cases hx : x = nm
  · subst hx; rw [setN_same] at e; cases e
  · rw [setN_ne hx] at e; exact hx (inj x nm a e h)
theorem inj_drop (inj : ∀ x y a, ρ x = some a → ρ y = some a → x = y) {nm : Nm} : ∀ x y a, setN ρ nm none x = some a → setN ρ nm none y = some a → x = y := fun x y a hx hy => by
  by_cases h1 : x = nm
  · subst h1; rw [setN_same] at hx; cases hx
  · by_cases h2 : y = nm
    · subst h2; rw [setN_same] at hy; cases hy
    · rw [setN_ne h1] at hx; rw [setN_ne h2] at hy; exact inj x y a hx hy
theorem Rel.dropTmp (R : Rel K fa P ρ s σ H) {a : Addr} : Rel K fa P (setN ρ (.tmp a) none) s σ H ∧ Ext ρ H (setN ρ (.tmp a) none) H := by
  have bl : BoxLe ρ (setN ρ (.tmp a) none) := fun _ _ h => by rw [setN_ne (by simp)]; exact h
  refine ⟨⟨inj_drop R.inj, fun b u h => cut_drop b u (R.base b u h), fun i => (R.slot i).mono cut_drop bl (setN_ne (by simp)) (fun _ _ => rfl) rfl, fun n => (R.box n).mono cut_drop bl (setN_ne (by simp)) fun _ _ => rfl, fun b c h => ?_, fun b c h => ?_, R.len⟩, cut_drop, bl, fun b h => ⟨by rw [setN_ne (by simp)]; exact h, rfl⟩⟩
  · by_cases h1 : b = a
    · subst h1; rw [setN_same] at h; cases h
    · rw [setN_ne (by simp [h1])] at h; exact R.tmp b c h
  · rw [setN_ne (by simp)] at h; exact R.held b c h
theorem CellR.frz {c : Cell} {a : Addr} {T T' : Hp} (hT : Le T T') (hb : BoxLe ρ ρ') (h : CellR K fa ρ T c (H a)) (ha : ∀ o, H a = some o → T' a = some o) : RV K fa ρ' T' c.val (.ref a) := by
  cases c with
  | lst xs => obtain ⟨vs, e, r⟩ := h; exact .lst (ha _ e) (r.mono hT hb)
/-- an outcome as an operand -/
theorem Rel.hold (R : Rel K fa P ρ s σ H) {r : RE} {x : V} (h : RER K fa ρ σ H r x) : ∃ ρ', Rel K fa P ρ' s σ H ∧ Ext ρ H ρ' H ∧ RER K fa ρ' σ H r.norm x := by
  cases r with
  | val v => exact ⟨ρ, R, Ext.refl, h⟩
  | pk i => exact ⟨ρ, R, Ext.refl, h⟩
  | fresh c =>
    obtain ⟨a, e, ht, hc⟩ := h
    obtain ⟨R', E'⟩ := R.dropTmp (a := a)
    subst e
    exact ⟨_, R', E', CellR.frz E'.le E'.box hc fun o ho => cut_dropped R.inj ht ho⟩
/-- a slot's cell stands for good -/
theorem Rel.freeze (R : Rel K fa P ρ s σ H) {i : Nat} {c : Cell} (hi : s.env[i]? = some (.own c)) :
    ∃ a, σ[i]? = some (some (V.ref a)) ∧ Rel K fa P (setN ρ (.slot i) none) { s with env := s.env.set i (.val c.val) } σ H ∧ Ext ρ H (setN ρ (.slot i) none) H ∧ RV K fa (setN ρ (.slot i) none) (cut H (setN ρ (.slot i) none)) c.val (.ref a) := by
  have q := R.slot i
  rw [hi] at q
  obtain ⟨a, h1, h2, h3⟩ := q
  have bl : BoxLe ρ (setN ρ (.slot i) none) := fun _ _ h => by rw [setN_ne (by simp)]; exact h
  have rv : RV K fa (setN ρ (.slot i) none) (cut H (setN ρ (.slot i) none)) c.val (.ref a) := CellR.frz cut_drop bl h3 fun o ho => cut_dropped R.inj h1 ho
  refine ⟨a, h2, ⟨inj_drop R.inj, fun b u h => cut_drop b u (R.base b u h), fun j => ?_, fun n => (R.box n).mono cut_drop bl (setN_ne (by simp)) fun _ _ => rfl, fun b c h => ?_, fun b c h => ?_, by simpa using R.len⟩, ⟨cut_drop, bl, fun b h => ⟨by rw [setN_ne (by simp)]; exact h, rfl⟩⟩, rv⟩
  · by_cases hj : j = i
    · subst hj
      have hl : j < s.env.length := (List.getElem?_eq_some_iff.mp hi).1
      show SlotR K fa _ σ H j (s.env.set j (.val c.val))[j]?
      rw [List.getElem?_set_self hl]
      exact ⟨setN_same, _, h2, rv⟩
    · show SlotR K fa _ σ H j (s.env.set i (.val c.val))[j]?
      rw [List.getElem?_set_ne (Ne.symm hj)]
      exact (R.slot j).mono cut_drop bl (setN_ne (by simp [hj])) (fun _ _ => rfl) rfl
  · rw [setN_ne (by simp)] at h; exact R.tmp b c h
  · rw [setN_ne (by simp)] at h; exact R.held b c h
end
end Ev

set_option linter.all false
set_option maxRecDepth 100000
set_option maxHeartbeats 1000000
/-! Ev.C: stores -/
namespace Ev
open PySem PySem.Spec L2
section
variable {K : PySem.W.Frag} {fa : Nat → Addr} {P : Hp} {ρ ρ' : Rho} {s : ES} {σ σ' : St} {H H' : Hp}
theorem cut_upd {nm : Nm} {a : Addr} {o : HO} (h : ρ nm = some a) : cut (upd H a o) ρ = cut H ρ := by
  funext b
  unfold cut
  by_cases hb : ∃ nm, ρ nm = some b
  · rw [if_pos hb, if_pos hb]
  · rw [if_neg hb, if_neg hb]
    exact upd_ne fun z => by subst z; exact hb ⟨nm, h⟩
/-- a slot takes a value -/
theorem Rel.setVal (R : Rel K fa P ρ s σ H) {i : Nat} {v : PV} {V : L2.V} (hv : RV K fa ρ (cut H ρ) v V) (hi : i < s.env.length) :
    Rel K fa P (setN ρ (.slot i) none) { s with env := s.env.set i (.val v) } (σ.set i (some V)) H ∧ Ext ρ H (setN ρ (.slot i) none) H := by
  have bl : BoxLe ρ (setN ρ (.slot i) none) := fun _ _ h => by rw [setN_ne (by simp)]; exact h
  have hl : i < σ.length := by rw [← R.len]; exact hi
  refine ⟨⟨inj_drop R.inj, fun b u h => cut_drop b u (R.base b u h), fun j => ?_, fun n => (R.box n).mono cut_drop bl (setN_ne (by simp)) fun _ _ => rfl, fun b c h => ?_, fun b c h => ?_, by simpa using R.len⟩, ⟨cut_drop, bl, fun b h => ⟨by rw [setN_ne (by simp)]; exact h, rfl⟩⟩⟩
  · show SlotR K fa _ _ H j (s.env.set i (.val v))[j]?
    by_cases hj : j = i
    · subst hj
      rw [List.getElem?_set_self hi]
      exact ⟨setN_same, V, List.getElem?_set_self hl, hv.mono cut_drop bl⟩
    · rw [List.getElem?_set_ne (Ne.symm hj)]
      exact (R.slot j).mono cut_drop bl (setN_ne (by simp [hj])) (fun _ _ => rfl) (List.getElem?_set_ne (Ne.symm hj))
  · rw [setN_ne (by simp)] at h; exact R.tmp b c h
  · rw [setN_ne (by simp)] at h; exact R.held b c h
/-- a slot forgets -/
theorem Rel.setNone (R : Rel K fa P ρ s σ H) {i : Nat} {x : Option L2.V} :
    Rel K fa P (setN ρ (.slot i) none) { s with env := s.env.set i .none } (σ.set i x) H ∧ Ext ρ H (setN ρ (.slot i) none) H := by
  have bl : BoxLe ρ (setN ρ (.slot i) none) := fun _ _ h => by rw [setN_ne (by simp)]; exact h
  refine ⟨⟨inj_drop R.inj, fun b u h => cut_drop b u (R.base b u h), fun j => ?_, fun n => (R.box n).mono cut_drop bl (setN_ne (by simp)) fun _ _ => rfl, fun b c h => ?_, fun b c h => ?_, by simpa using R.len⟩, ⟨cut_drop, bl, fun b h => ⟨by rw [setN_ne (by simp)]; exact h, rfl⟩⟩⟩
  · show SlotR K fa _ _ H j (s.env.set i .none)[j]?
    by_cases hj : j = i
    · subst hj
      by_cases hi : j < s.env.length
      · rw [List.getElem?_set_self hi]; exact setN_same
      · rw [List.getElem?_eq_none (by simpa using hi)]; exact setN_same
    · rw [List.getElem?_set_ne (Ne.symm hj)]
      exact (R.slot j).mono cut_drop bl (setN_ne (by simp [hj])) (fun _ _ => rfl) (List.getElem?_set_ne (Ne.symm hj))
  · rw [setN_ne (by simp)] at h; exact R.tmp b c h
  · rw [setN_ne (by simp)] at h; exact R.held b c h
theorem inj_move (inj : ∀ x y a, ρ x = some a → ρ y = some a → x = y) {nm n0 : Nm} {a : Addr} (h : ρ n0 = some a) :
    ∀ x y b, setN (setN ρ n0 none) nm (some a) x = some b → setN (setN ρ n0 none) nm (some a) y = some b → x = y := by
  have no : ∀ z, setN ρ n0 none z ≠ some a := fun z e => by
    by_cases hz : z = n0
    · subst hz; rw [setN_same] at e; cases e
    · rw [setN_ne hz] at e; exact hz (inj z n0 a e h)
  intro x y b hx hy
  by_cases h1 : x = nm
  · subst h1
    rw [setN_same] at hx
    cases hx
    by_cases h2 : y = x
    · exact h2.symm
    · rw [setN_ne h2] at hy; exact absurd hy (no y)
  · rw [setN_ne h1] at hx
    by_cases h2 : y = nm
    · subst h2; rw [setN_same] at hy; cases hy; exact absurd hx (no x)
    · rw [setN_ne h2] at hy; exact inj_drop inj x y b hx hy
theorem cut_move {nm n0 : Nm} {a : Addr} (h : ρ n0 = some a) : Le (cut H ρ) (cut H (setN (setN ρ n0 none) nm (some a))) := fun b u hb => by
  obtain ⟨h1, h2⟩ := cut_eq.mp hb
  refine cut_eq.mpr ⟨fun x e => ?_, h2⟩
  by_cases hx : x = nm
  · subst hx; rw [setN_same] at e; cases e; exact h1 n0 h
  · rw [setN_ne hx] at e
    by_cases hy : x = n0
    · subst hy; rw [setN_same] at e; cases e
    · rw [setN_ne hy] at e; exact h1 x e
/-- a slot takes a new cell -/
theorem Rel.setFresh (R : Rel K fa P ρ s σ H) {i : Nat} {c : Cell} {a : Addr} (ht : ρ (.tmp a) = some a) (hc : CellR K fa ρ (cut H ρ) c (H a)) (hi : i < s.env.length) :
    Rel K fa P (setN (setN ρ (.tmp a) none) (.slot i) (some a)) { s with env := s.env.set i (.own c) } (σ.set i (some (V.ref a))) H ∧ Ext ρ H (setN (setN ρ (.tmp a) none) (.slot i) (some a)) H := by
  have bl : BoxLe ρ (setN (setN ρ (.tmp a) none) (.slot i) (some a)) := fun _ _ h => by rw [setN_ne (by simp), setN_ne (by simp)]; exact h
  have le : Le (cut H ρ) (cut H (setN (setN ρ (.tmp a) none) (.slot i) (some a))) := cut_move ht
  have hl : i < σ.length := by rw [← R.len]; exact hi
  refine ⟨⟨inj_move R.inj ht, fun b u h => le b u (R.base b u h), fun j => ?_, fun n => (R.box n).mono le bl (by rw [setN_ne (by simp), setN_ne (by simp)]) fun _ _ => rfl, fun b c h => ?_, fun b c h => ?_, by simpa using R.len⟩, ⟨le, bl, fun b h => ⟨by rw [setN_ne (by simp), setN_ne (by simp)]; exact h, rfl⟩⟩⟩
  · show SlotR K fa _ _ H j (s.env.set i (.own c))[j]?
    by_cases hj : j = i
    · subst hj
      rw [List.getElem?_set_self hi]
      exact ⟨a, setN_same, List.getElem?_set_self hl, hc.mono le bl⟩
    · rw [List.getElem?_set_ne (Ne.symm hj)]
      exact (R.slot j).mono le bl (by rw [setN_ne (by simp [hj]), setN_ne (by simp)]) (fun _ _ => rfl) (List.getElem?_set_ne (Ne.symm hj))
  · rw [setN_ne (by simp)] at h
    by_cases hb : b = a
    · subst hb; rw [setN_same] at h; cases h
    · rw [setN_ne (by simp [hb])] at h; exact R.tmp b c h
  · rw [setN_ne (by simp), setN_ne (by simp)] at h; exact R.held b c h
/-- a new cell goes to the store -/
theorem Rel.newBox (R : Rel K fa P ρ s σ H) {c : Cell} {a : Addr} (ht : ρ (.tmp a) = some a) (hc : CellR K fa ρ (cut H ρ) c (H a)) :
    ∃ ρ', Rel K fa P ρ' { s with st := s.st ++ [c] } σ H ∧ Ext ρ H ρ' H ∧ ρ' (.box s.st.length) = some a := by
  have nb : ρ (.box s.st.length) = none := by
    have q := R.box s.st.length
    rw [List.getElem?_eq_none (Nat.le_refl _)] at q
    exact q
  have bl : BoxLe ρ (setN (setN ρ (.tmp a) none) (.box s.st.length) (some a)) := fun n b h => by
    by_cases hn : n = s.st.length
    · subst hn; rw [nb] at h; cases h
    · rw [setN_ne (by simp [hn]), setN_ne (by simp)]; exact h
  have le : Le (cut H ρ) (cut H (setN (setN ρ (.tmp a) none) (.box s.st.length) (some a))) := cut_move ht
  refine ⟨_, ⟨inj_move R.inj ht, fun b u h => le b u (R.base b u h), fun j => ?_, fun n => ?_, fun b c h => ?_, fun b c h => ?_, R.len⟩, ⟨le, bl, fun b h => ⟨by rw [setN_ne (by simp), setN_ne (by simp)]; exact h, rfl⟩⟩, setN_same⟩
  · exact (R.slot j).mono le bl (by rw [setN_ne (by simp), setN_ne (by simp)]) (fun _ _ => rfl) rfl
  · show BoxR K fa _ H n (s.st ++ [c])[n]?
    by_cases hn : n = s.st.length
    · subst hn
      rw [List.getElem?_append_right (Nat.le_refl _), Nat.sub_self]
      exact ⟨a, setN_same, hc.mono le bl⟩
    · have e : (s.st ++ [c])[n]? = s.st[n]? := by
        by_cases hlt : n < s.st.length
        · exact List.getElem?_append_left hlt
        · rw [List.getElem?_eq_none (by simp; omega), List.getElem?_eq_none (by omega)]
      rw [e]
      exact (R.box n).mono le bl (by rw [setN_ne (by simp [hn]), setN_ne (by simp)]) fun _ _ => rfl
  · rw [setN_ne (by simp)] at h
    by_cases hb : b = a
    · subst hb; rw [setN_same] at h; cases h
    · rw [setN_ne (by simp [hb])] at h; exact R.tmp b c h
  · rw [setN_ne (by simp), setN_ne (by simp)] at h; exact R.held b c h
theorem Rel.ne_of (R : Rel K fa P ρ s σ H) {x y : Nm} {a b : Addr} (h : ρ x = some a) (h' : ρ y = some b) (n : x ≠ y) : b ≠ a := fun z => by
  subst z; exact n (R.inj x y b h h')
/-- an owned cell is changed -/
theorem Rel.updOwn (R : Rel K fa P ρ s σ H) {i : Nat} {c' : Cell} {a : Addr} {o : HO} (ha : ρ (.slot i) = some a) (hs : σ[i]? = some (some (V.ref a))) (hc : CellR K fa ρ (cut H ρ) c' (some o)) :
    Rel K fa P ρ { s with env := s.env.set i (.own c') } σ (upd H a o) ∧ Ext ρ H ρ (upd H a o) := by
  have ce := cut_upd (H := H) (o := o) ha
  have le : Le (cut H ρ) (cut (upd H a o) ρ) := fun b u h => by rw [ce]; exact h
  have hi : i < s.env.length := by rw [R.len]; exact (List.getElem?_eq_some_iff.mp hs).1
  refine ⟨⟨R.inj, fun b u h => le b u (R.base b u h), fun j => ?_, fun n => (R.box n).mono le (fun _ _ h => h) rfl fun b h => upd_ne (R.ne_of ha h (by simp)), fun b d h => ?_, fun b d h => ?_, by simpa using R.len⟩, le, fun _ _ h => h, fun b h => ⟨h, upd_ne (R.ne_of ha h (by simp))⟩⟩
  · show SlotR K fa _ _ _ j (s.env.set i (.own c'))[j]?
    by_cases hj : j = i
    · subst hj
      rw [List.getElem?_set_self hi]
      exact ⟨a, ha, hs, by rw [ce, upd_same]; exact hc⟩
    · rw [List.getElem?_set_ne (Ne.symm hj)]
      exact (R.slot j).mono le (fun _ _ h => h) rfl (fun b h => upd_ne (R.ne_of ha h (by simp [Ne.symm hj]))) rfl
  · obtain ⟨e, m⟩ := R.tmp b d h
    subst e
    exact ⟨rfl, by rw [upd_ne (R.ne_of ha h (by simp))]; exact m⟩
  · obtain ⟨e, m⟩ := R.held b d h
    subst e
    exact ⟨rfl, by rw [upd_ne (R.ne_of ha h (by simp))]; exact m⟩
/-- a cell of the store is changed -/
theorem Rel.updBox (R : Rel K fa P ρ s σ H) {n : Nat} {c' : Cell} {a : Addr} {o : HO} (ha : ρ (.box n) = some a) (hc : CellR K fa ρ (cut H ρ) c' (some o)) :
    Rel K fa P ρ { s with st := s.st.set n c' } σ (upd H a o) ∧ Ext ρ H ρ (upd H a o) := by
  have ce := cut_upd (H := H) (o := o) ha
  have le : Le (cut H ρ) (cut (upd H a o) ρ) := fun b u h => by rw [ce]; exact h
  have hn : n < s.st.length := by
    have q := R.box n
    by_cases hl : n < s.st.length
    · exact hl
    · rw [List.getElem?_eq_none (by omega)] at q
      have q' : ρ (.box n) = none := q
      rw [ha] at q'; cases q'
  refine ⟨⟨R.inj, fun b u h => le b u (R.base b u h), fun j => (R.slot j).mono le (fun _ _ h => h) rfl (fun b h => upd_ne (R.ne_of ha h (by simp))) rfl, fun m => ?_, fun b d h => ?_, fun b d h => ?_, R.len⟩, le, fun _ _ h => h, fun b h => ⟨h, upd_ne (R.ne_of ha h (by simp))⟩⟩
  · show BoxR K fa _ _ m (s.st.set n c')[m]?
    by_cases hm : m = n
    · subst hm
      rw [List.getElem?_set_self hn]
      exact ⟨a, ha, by rw [ce, upd_same]; exact hc⟩
    · rw [List.getElem?_set_ne (Ne.symm hm)]
      exact (R.box m).mono le (fun _ _ h => h) rfl fun b h => upd_ne (R.ne_of ha h (by simp [Ne.symm hm]))
  · obtain ⟨e, m⟩ := R.tmp b d h
    subst e
    exact ⟨rfl, by rw [upd_ne (R.ne_of ha h (by simp))]; exact m⟩
  · obtain ⟨e, m⟩ := R.held b d h
    subst e
    exact ⟨rfl, by rw [upd_ne (R.ne_of ha h (by simp))]; exact m⟩
/-- a held cell is changed -/
theorem Rel.updHeld (R : Rel K fa P ρ s σ H) {a : Addr} {o : HO} (ha : ρ (.held a) = some a) (hm : Mut (some o)) :
    Rel K fa P ρ s σ (upd H a o) ∧ cut (upd H a o) ρ = cut H ρ ∧ ∀ b, b ≠ a → upd H a o b = H b := by
  have ce := cut_upd (H := H) (o := o) ha
  have le : Le (cut H ρ) (cut (upd H a o) ρ) := fun b u h => by rw [ce]; exact h
  refine ⟨⟨R.inj, fun b u h => le b u (R.base b u h), fun j => (R.slot j).mono le (fun _ _ h => h) rfl (fun b h => upd_ne (R.ne_of ha h (by simp))) rfl, fun m => (R.box m).mono le (fun _ _ h => h) rfl fun b h => upd_ne (R.ne_of ha h (by simp)), fun b d h => ?_, fun b d h => ?_, R.len⟩, ce, fun b hb => upd_ne hb⟩
  · obtain ⟨e, m⟩ := R.tmp b d h
    subst e
    exact ⟨rfl, by rw [upd_ne (R.ne_of ha h (by simp))]; exact m⟩
  · obtain ⟨e, m⟩ := R.held b d h
    subst e
    by_cases hb : d = a
    · subst hb; exact ⟨rfl, by rw [upd_same]; exact hm⟩
    · exact ⟨rfl, by rw [upd_ne hb]; exact m⟩
end
end Ev

set_option linter.all false
set_option maxRecDepth 100000
set_option maxHeartbeats 1000000
/-! Ev.R: the promise of a def that is called where no guard stands (repr asks it) -/
namespace Ev
open PySem PySem.Spec L2
open PyProof.Rows hiding St
structure RoomG (k : Nat) (A : Around) : Prop where
  r : L2.Room k A
  g : A.guards = some []
theorem RoomG.deeper {k : Nat} {A : Around} (q : RoomG (k + 1) A) (env : Env) : RoomG k (A.deeper env) := ⟨q.r.deeper env, q.g⟩
structure FnG (P : Program) (w : World) (K : PySem.W.Frag) (mg : Str → Option Value) (base : Heap) (CX : CXT) (k : Nat) (f : Addr) (fd : FuncData) (ps : List Str) (sp : Sp) : Prop where
  len : ∀ xs H Q E, sp xs H Q E → xs.length = ps.length
  run : ∀ (B : Around) (outer : List Env) (s : Shared) (H : Hp) (args : Args) (us : List Value) (xs : List V) (Q : VK) (E : XK), RoomG k B → Env0 P w K mg base B outer s H → BindsTo s fd args (ps.zip us) → Vals xs us → sp xs H Q E →
    codeAny (model P w) B (.call (.ref f) args) (CR CX outer P w H s Q E) s
section
variable {X : Cx} {CX : CXT} {k : Nat} {f C : Addr} {fd : FuncData} {ps : List Str} {sp : Sp} {E : St → XK}
theorem run_fnG {pins : List (Addr × Obj)} {σ : St} {H : Hp} {s : Shared} {Q : VK} {us : List Value} {xs : List V} (Fg : FnG X.prog X.w X.K X.mg X.base CX k f fd ps sp) (rm : RoomG k X.A) (bq : Binds X.K fd ps []) (hx : PassesAt CX X σ (E σ))
    (J : Inv X pins σ H s) (r : Vals xs us) (h : sp xs H Q (E σ)) : wpAny (model X.prog X.w) X.A (call (.ref f) us) (EP X pins σ Q) X.xe s := by
  have lq : us.length = ps.length := by rw [← r.length]; exact Fg.len _ _ _ _ h
  have b0 := bq s us J.kIn (by rw [List.append_nil]; exact lq)
  rw [List.append_nil] at b0
  refine wpAny_call (codeAny_mono (Fg.run X.A X.stack s H ⟨us, []⟩ us xs Q (E σ) rm J.env0 b0 r h) fun r1 s1 hq => ?_)
  cases r1 with
  | error e => exact hx pins H s e s1 J hq
  | ok fl =>
    cases fl with
    | ret u => exact J.after hq
    | next => exact hq.elim
    | brk => exact hq.elim
    | cont => exact hq.elim
end
theorem fn_ofG {CXq : CXT} {Pr : Program} {wo : World} {Kf : PySem.W.Frag} {mq : Str → Option Value} {bs0 : Heap} {k : Nat} {f : Addr} {name qual : Str} {params : Arguments} {body : List Stmt} {scope : Scope} {dV kV doc pm cdv ct oc : Value} {an od : Option Addr}
    {osl : Array (Option Value)} {N ps : List Str} {spp : Sp} (lkq : Kf.lookup f = some ⟨oc, od, .func (PySem.W.fnOf name qual params body scope dV kV doc pm an cdv ct), osl⟩) (cdq : PySem.W.codeIn Kf cdv qual = true) (S : FnScope N ps scope)
    (len : ∀ xs0 H Q E, spp xs0 H Q E → xs0.length = ps.length)
    (bdy : ∀ (A : Around) (outer : List Env) (s : Shared) (H : Hp) (xs0 : List V) (Q : VK) (E : XK), RoomG k (A.deeper (envOfC qual scope s.heap.objs.size f cdv)) → spp xs0 H Q E →
      ∃ t, PSs (cxOf CXq Pr wo Kf mq bs0 N qual scope f cdv A outer s H E) body t ∧ t { nx := fun _ H' => Q .non H', rt := Q } (start N xs0) H) :
    FnG Pr wo Kf mq bs0 CXq (k + 1) f (PySem.W.fnOf name qual params body scope dV kV doc pm an cdv ct) ps spp := by
  refine ⟨len, fun A outer s H args us0 xs0 Q E rm ev0 bq r spq => ?_⟩
  have lq := len _ _ _ _ spq
  have kq : Kf.In s.heap := ev0.mod.kin.keeps fun b o e => (ev0.bs b o e).1
  have nl : s.heap.NoLimit := ev0.mod.nolimit.keeps fun b o e => (ev0.bs b o e).1
  have kinds : ∀ y ∈ ps.zip us0, scope.names.lookup y.1 = some .local ∨ (scope.names.lookup y.1 = some .cell ∧ ((cellsFrom (s.heap.objs.size + 1) scope.names []).lookup y.1).isSome = true) := fun ⟨n, v⟩ hy => by
    rcases S.par n (List.of_mem_zip hy).1 with q | q
    · exact .inl q
    · exact .inr ⟨q, PySem.W.cellsFrom_some _ _ _ (.inl q)⟩
  refine codeAny_call_function rm.r.depth (kq _ _ lkq) rfl S.co S.gen rfl (PySem.W.codeRec_of kq cdq) (bq _ _ _ _ ?_)
  refine wpAny_newFunctionEnv_cells S.kind kinds fun env he s1 x => ?_
  subst he
  refine ⟨nl.keeps x.toInCall.keep, codeAny_func ?_⟩
  obtain ⟨t, ht, hq⟩ := bdy A outer s H xs0 Q E (rm.deeper _) spq
  have Iq : Inv (cxOf CXq Pr wo Kf mq bs0 N qual scope f cdv A outer s H E) [] (start N xs0) H s1 := inv_start S rm.r.hd ev0 lq r x
  refine wpAny_mono (ht.run [] s1 (start N xs0) H _ Iq hq) (fun fl s' hs => ?_) fun e s' hs => hs
  have finq : ∀ {σ' : St} {H' : Hp} {v : V} {u : Value}, Inv (cxOf CXq Pr wo Kf mq bs0 N qual scope f cdv A outer s H E) [] σ' H' s' → RelV v u → Q v H' → CE outer Pr wo H s Q u s' :=
    fun {σ' H' v u} J rvq q => ⟨v, H', J.os, J.bare, J.base, J.hok, rvq, q⟩
  cases fl with
  | ret u =>
    obtain ⟨v, σ', H', J, rvq, q⟩ := hs
    exact finq J rvq q
  | next =>
    obtain ⟨σ', H', J, q⟩ := hs
    exact finq (v := V.non) (u := Value.none) J rfl q
  | brk =>
    obtain ⟨_, _, _, q⟩ := hs
    exact False.elim q
  | cont =>
    obtain ⟨_, _, _, q⟩ := hs
    exact False.elim q

theorem okG {Pr : Program} {wo : World} {Kf : PySem.W.Frag} {mq : Str → Option Value} {bs0 : Heap} {x qual : Str} {st : Stmt} {f : Addr} {fd : FuncData} {N ps : List Str} {k : Nat} {spp : Sp} (F0 : L2.Fun Kf x qual st f fd) (S : FnScope N ps (defScope st)) (len : ∀ vs H Q E, spp vs H Q E → vs.length = ps.length)
    (bdy : ∀ (cdv : Value) (A : Around) (outer : List Env) (s : Shared) (H : Hp) (vs : List V) (Q : VK) (E : XK), RoomG k (A.deeper (envOfC qual (defScope st) s.heap.objs.size f cdv)) → spp vs H Q E →
      ∃ t, PSs (cxOf (L2.CX Pr wo) Pr wo Kf mq bs0 N qual (defScope st) f cdv A outer s H E) (defBody st) t ∧ t { nx := fun _ H' => Q .non H', rt := Q } (L2.start N vs) H) : FnG Pr wo Kf mq bs0 (L2.CX Pr wo) (k + 1) f fd ps spp := by
  obtain ⟨oc, od, kV, doc, pm, an, cdv, ct, osl, rfl, lkq, cdq⟩ := F0.ex
  exact fn_ofG lkq cdq S len fun A outer s H vs Q E rm hsp => bdy cdv A outer s H vs Q E rm hsp
theorem law_callG {Pr : Program} {wo : World} {Kf : PySem.W.Frag} {mq mb : Str → Option Value} {CXq : CXT} {k : Nat} {fa a : Addr} {fd : FuncData} {x : Str} {spp : Sp} {sb : Shared} {xs0 : List Value} {ns : List Int}
    (kq : Kf.In sb.heap) (nsp : sb.heap.Ns mainGlobals mq) (bq : sb.heap.Ns builtinsNs mb) (bbq : ∀ x : Str, x ≠ "__name__" → mb x = bootBuiltins x) (nlq : sb.heap.NoLimit) (gnq : sb.gens = #[])
    (adr : sb.heap.get? a = some { cls := .type "list", data := .seq xs0.toArray }) (intq : IntsAre xs0 ns) (lq : ns.length ≤ sizeLine) (rm : L2.Room k callerA)
    (Fq : ∀ bs0 : Heap, Kf.In bs0 → bs0.Ns mainGlobals mq → FnG Pr wo Kf mq bs0 CXq k fa fd [x] spp) (bindq : ∀ (s : Shared) (u : Value), BindsTo s fd ⟨[u], []⟩ [(x, u)])
    (spq : ∀ H : Hp, Only H → SqL Kf H a (ns.map V.int) → spp [.ref a] H (fun v _ => v = .bl true) fun _ _ _ => False)
    (cxq : ∀ H e s', CXq [] H sb (fun _ _ _ => False) e s' → False) :
    codeAny (model Pr wo) callerA (.call (.ref fa) ⟨[.ref a], []⟩) (fun r s' => r = .ok (.ret (.bool true)) ∧ OldK sb.heap s'.heap ∧ s'.os = sb.os ∧ AllBare s'.gens) sb := by
  have rvq := vals_ints intq
  have lnq := intq.length
  -- from an abstract heap in which nothing but the script may be tracked
  have corq : ∀ H : Hp, Only H → SqL Kf H a (ns.map V.int) → HOk Pr wo H sb.heap → (∀ b, H b ≠ none → b = a) → (H a ≠ none → Kf.lookup a = none) →
      codeAny (model Pr wo) callerA (.call (.ref fa) ⟨[.ref a], []⟩) (fun r s' => r = .ok (.ret (.bool true)) ∧ OldK sb.heap s'.heap ∧ s'.os = sb.os ∧ AllBare s'.gens) sb := by
    intro H onl scq okq adq kdq
    have bof : ∀ {b : Addr} {o : Obj}, sb.heap.get? b = some o → H b = none → (hidT sb.heap H).get? b = some o := fun e n => hidT_get e n
    have nod : ∀ {b : Addr} {o : Obj} {es : Array DictEntry} {ep : Nat}, sb.heap.get? b = some o → o.data = .dict es ep → H b = none := fun {b o es ep} e d => by
      cases q : H b with
      | none => rfl
      | some u =>
        have e' : b = a := adq b (by rw [q]; simp)
        subst e'
        rw [adr] at e; cases e
        have d' : Data.seq xs0.toArray _ = Data.dict es ep := d
        cases d'
    have nsq : ∀ {b : Addr} {m : Str → Option Value}, sb.heap.Ns b m → (hidT sb.heap H).Ns b m := fun {b m} ⟨o, es, ep, e, d, r⟩ => ⟨o, es, ep, bof e (nod e d), d, r⟩
    have kinq : Kf.In (hidT sb.heap H) := fun b o e => bof (kq b o e) (by
      cases q : H b with
      | none => rfl
      | some u =>
        have e' : b = a := adq b (by rw [q]; simp)
        subst e'
        rw [kdq (by rw [q]; simp)] at e; cases e)
    have mdq : Mod Kf mq (hidT sb.heap H) := ⟨kinq, nsq nsp, ⟨mb, nsq bq, bbq⟩, let ⟨mc, h1, h2⟩ := nlq; ⟨mc, nsq h1, h2⟩⟩
    have ev0 : Env0 Pr wo Kf mq (hidT sb.heap H) callerA [] sb H := ⟨rfl, mdq, fun b o e => of_hidT e, Nat.le_of_eq (hidT_size _ _), trivial, fun b bq => absurd (show b ∈ ([] : List Addr) from bq) (by simp), okq, .of_eq gnq⟩
    refine codeAny_mono ((Fq _ kinq (nsq nsp)).run callerA [] sb H ⟨[.ref a], []⟩ [.ref a] [.ref a] _ _ ⟨rm, rfl⟩ ev0 (bindq sb (.ref a)) (.cons rfl .nil) (spq H onl scq)) fun r s' h => ?_
    cases r with
    | error e => exact (cxq H e s' h).elim
    | ok fl =>
      cases fl with
      | next => exact False.elim h
      | brk => exact False.elim h
      | cont => exact False.elim h
      | ret u =>
        obtain ⟨v, H', oq, barq, unq, hok', r', q⟩ := h
        have q' : v = .bl true := q
        subst q'
        obtain rfl : u = Value.bool true := r'
        refine ⟨rfl, OldK.of_keep fun b o e => ?_, oq, barq⟩
        cases q : H b with
        | none => exact unq.keep b o e q (by intro z; exact absurd (show b ∈ ([] : List Addr) from z) (by simp)) (by simp)
        | some u =>
          rcases onl b with z | ⟨ob, xs, z⟩
          · rw [q] at z; cases z
          · have z2 := unq.frzs b ob _ z
            obtain ⟨e1, _⟩ := okq b _ z
            obtain ⟨e2, _⟩ := hok' b _ z2
            rw [e] at e1; cases e1
            exact e2
  cases hk : Kf.lookup a with
  | some o =>
    -- the script is one of the module's own objects
    have e := kq a o hk
    rw [adr] at e
    cases e
    refine corq (fun _ => none) (fun _ => .inl rfl) (.inr ⟨_, xs0.toArray, _, hk, rfl, rfl, rfl, by rw [List.size_toArray, lnq]; exact lq, by simpa using rvq⟩) (fun b u z => by have z' : (none : Option HO) = some u := z; cases z') (fun b z => absurd rfl z) fun z => absurd rfl z
  | none =>
    refine corq (fun b => if b = a then some (.frz { cls := .type "list", data := .seq xs0.toArray } (.lst (ns.map V.int))) else none) (fun b => ?_) (.inl (.inr ⟨{ cls := .type "list", data := .seq xs0.toArray }, if_pos rfl⟩)) (fun b u z => ?_) (fun b z => ?_) fun _ => hk
    · by_cases bq : b = a
      · exact .inr ⟨_, _, if_pos bq⟩
      · exact .inl (if_neg bq)
    · by_cases bq : b = a
      · have z' := (if_pos bq).symm.trans z
        cases z'
        subst bq
        exact ⟨adr, by rw [List.length_map]; exact lq, xs0, _, rvq, adr⟩
      · have z' := (if_neg bq).symm.trans z
        cases z'
    · by_cases bq : b = a
      · exact bq
      · exact absurd (if_neg bq) z

theorem walk_ofG {l : PySem.W.OpenLaw} {n k : Nat} {q : Program} {loose : List Str} {XP : (Str → Option Value) → Heap → Prop} {YP : World → Heap → Prop} {d : DefRec} {Kq : Params → PySem.W.Frag} {CXq : World → CXT} {spp : World → Sp} {x : Str}
    (hn : l.most = some n) (hn2 : n ≤ sizeLine) (hdf : d.params.defaults = []) (rm : L2.Room k callerA)
    (hY : ∀ (w : World) (h : Heap), YP w h → (Kq w.params).In h)
    (Fg : ∀ (w : World) (mg : Str → Option Value) (fa : Addr) (h : Heap), (Kq w.params).In h → h.Ns mainGlobals mg → mg d.name = some (.ref fa) →
      ∃ fd : FuncData, (∀ (s : Shared) (u : Value), BindsTo s fd ⟨[u], []⟩ [(x, u)]) ∧
        ∀ bs0 : Heap, (Kq w.params).In bs0 → bs0.Ns mainGlobals mg → FnG l.prog w (Kq w.params) mg bs0 (CXq w) k fa fd [x] (spp w))
    (spq : ∀ (w : World) (H : Hp) (a : Addr) (ns : List Int), ns.length ≤ n → (∀ z ∈ ns, Builtin.Int.intBits z ≤ 1048576) → Only H → SqL (Kq w.params) H a (ns.map V.int) → spp w [.ref a] H (fun v _ => v = .bl true) fun _ _ _ => False)
    (cxq : ∀ (w : World) (H : Hp) (s : Shared) (e : Value) (s' : Shared), CXq w [] H s (fun _ _ _ => False) e s' → False) :
    PySem.W.WalkO q loose XP YP l.row.toRowW d [] (fun f vs => PySem.call f vs) := by
  refine Att.attach_callB hn hdf fun w s₀ sb mg mb fa o pm cd doc a vs ns Gq Yq ho hd hcd hmg hobj hints hlen hbits gnq => ?_
  have kq := hY w _ Yq
  obtain ⟨fd, bq, Fq⟩ := Fg w mg fa _ kq Gq.T.g hmg
  exact law_callG kq Gq.T.g Gq.T.b Gq.T.builtins Gq.T.nolimit gnq hobj hints (Nat.le_trans hlen hn2) rm Fq bq (fun H onl scq => spq w H a ns hlen hbits onl scq) fun H e s' => cxq w H sb e s'
end Ev

set_option linter.all false
set_option maxRecDepth 100000
set_option maxHeartbeats 4000000
/-! Ev.SL: set of a list of ints, at the machine's level -/
namespace EvSL
open PySem PySem.Spec PyProof.Rows L2
section
variable {P : Program} {w : World} {A : Around} {E : Value → Shared → Prop} {s : Shared}
/-- the new set's object -/
abbrev nO (w : World) : Obj := { cls := .type "set", dict := none, data := .set #[] 0 (.fresh 0 0 (!w.params.followText "set-order")) }
abbrev nH (w : World) (s : Shared) : Heap := s.heap.push (nO w)
abbrev nA (s : Shared) : Addr := s.heap.objs.size
/-- what stands at the end: the members are those of ns -/
def Made (w : World) (s : Shared) (ns : List Int) (h' : Heap) (c : Nat) : Prop := SetR w h' s.heap.objs.size (fun j => decide (j ∈ ns)) c ∧ c ≤ ns.length ∧ ∀ b o, s.heap.get? b = some o → h'.get? b = some o
theorem vals_at {items : Array Value} {ns : List Int} (hit : IntsAre items.toList ns) : ∀ (i : Nat) (v : Value), items[i]? = some v → ∃ k t, ns[i]? = some k ∧ v = .int k t := fun i v hv => by
  have len := IntsAre.length hit
  rw [Array.length_toList] at len
  have lt : i < ns.length := len ▸ (Array.getElem?_eq_some_iff.mp hv).1
  have at_ := List.getElem?_eq_getElem lt
  obtain ⟨t, e⟩ := PyProof.Rows.IntsAre.int_at hit i v (by simpa using hv)
  exact ⟨ns[i], t, at_, by rw [e, List.getD_eq_getElem?_getD, at_] <;> rfl⟩
set_option maxRecDepth 100000 in
set_option maxHeartbeats 4000000 in
theorem set_of_list {l : Addr} {items : Array Value} (ns : List Int) {Q : Value → Shared → Prop} (cold : A.handled = none) (isl : s.heap.IsList l items) (inI : IntsAre items.toList ns) (few : ns.length + 1 < scanBound)
    (fin : ∀ (h' : Heap) (tk c : Nat), Made w s ns h' c → Q (.ref (nA s)) { s with heap := h', toks := tk }) : wpAny (model P w) A (call (.type "set") [.ref l]) Q E s := by
  have len : items.size = ns.length := by
    have q := IntsAre.length inI
    rwa [Array.length_toList] at q
  obtain ⟨mc, mt, mro⟩ := F.called_set.mro
  have made := F.called_set.made
  have sub0 := F.called_set.sub
  refine wpAny_call (codeAny_of_tree ?_)
  refine (?_ : wpAny _ _ (callAny (.type "set") _) _ _ _)
  refine wpAny_pure ⟨Code.quiet_builtin _ (by decide +kernel), codeAny_builtin F.entry_type_call ?_⟩
  rw [Around.under_plain (weight_type_call_type "set" [.ref l] []) rfl]
  have notT := F.called_set.notType
  have canC := F.called_set.canCreate
  have tc := F.typeCall_set_1 (.ref l)
  repeat (any_goals (first | assumption | wp_step))
  refine codeAny_mono (code_set_led1 (.ref l) (E := E) (Q₁ := fun obj s₁ => obj = .ref (nA s) ∧ s₁ = { s with heap := nH w s }) ⟨rfl, rfl⟩) fun r s₁ hr => ?_
  match r, hr with
  | .error e, hr => exact hr
  | .ok (.ret obj), hr =>
    obtain ⟨rfl, rfl⟩ := hr
    have there : (nH w s).get? (nA s) = some (nO w) := Heap.get?_push_size _ rfl
    have isT : Shared.TypeIs { s with heap := nH w s } (.ref (nA s)) "set" := ⟨_, there, rfl⟩
    have initL := F.called_set.init.lookup
    have initB := F.called_set.init.bind (.ref (nA s))
    repeat (any_goals (first | assumption | wp_step))
    refine codeAny_mono (codeAny_call_builtin (R := wants (fun r s₂ => r = .none ∧ ∃ h' tk c, s₂ = { s with heap := h', toks := tk } ∧ Made w s ns h' c) E) F.called_set.init.plain F.entry_set_init (check_set_init_1 isT ?_)) fun r₂ s₂ hr₂ => ?_
    · obtain ⟨⟨lc, ld, lx, ls⟩, lo, lk, ln, lq⟩ := isl
      dsimp only at lk lq
      subst lk lq
      have still : (nH w s).IsList l items := ⟨_, Heap.get?_push_of_some _ lo, rfl, ln, rfl⟩
      have lo' := Heap.get?_push_of_some (nO w) lo
      have sub1 := F.sub_list_set
      have sub2 := F.sub_list_frozenset
      have nodict : (Value.type "list" == Value.type "dict") = false := by decide
      unfold Builtin.«set.__init__» noKeywords Builtin.Frozenset.updateFrom
      generalize hit : pyIter = it
      wp_walk
      subst hit
      refine wpAny_pyIter_list still (wpAny_bind (wpAny_runValue ?_))
      have lts : l < nA s := Heap.lt_size lo
      have grown : (nH w s).objs.size = nA s + 1 := Heap.size_push ..
      have cold3 : A.in1.in1.in1.handled = none := by simp [cold]
      have nIt : l ≠ (nH w s).objs.size := grown ▸ Nat.ne_of_lt (Nat.lt_succ_of_lt lts)
      have out : nA s ∉ [(nH w s).objs.size, l] := by
        rw [grown]
        simp only [List.mem_cons, List.not_mem_nil, or_false, not_or]
        exact ⟨Nat.ne_of_lt (Nat.lt_succ_self _), Nat.ne_of_gt lts⟩
      refine set_update_ints (Walks.list cold3 _ l nIt items).toS (nA s) out ns len few (vals_at inI) (items.size - 0) 0 _ rfl (Nat.zero_le _) ⟨⟨_, Heap.get?_push_size _ rfl, rfl, rfl⟩, still.push _⟩ ⟨0, Nat.le_refl 0, setR_new_at (Heap.get?_push_of_some _ there)⟩ ?_
      rintro ⟨h', g2, d', tk', os'⟩ c' mv le setR'
      obtain rfl : g2 = s.gens := mv.gens
      obtain rfl : d' = s.drawn := mv.drawn
      obtain rfl : os' = s.os := mv.os
      refine wpAny_pure ?_
      refine (?_ : wpAny _ _ (ret Value.none) _ _ _)
      refine wpAny_pure ⟨rfl, h', tk', c', rfl, setR', len ▸ le, fun b o e => ?_⟩
      have lb : b < nA s := Heap.lt_size e
      refine mv.heap b o ?_ (Heap.get?_push_of_some _ (Heap.get?_push_of_some _ e))
      rw [grown]
      simp only [List.mem_cons, List.not_mem_nil, or_false, not_or]
      exact ⟨Nat.ne_of_lt lb, Nat.ne_of_lt (Nat.lt_succ_of_lt lb)⟩
    · match r₂, hr₂ with
      | .error e, hr₂ => exact hr₂
      | .ok (.ret r), hr₂ =>
        obtain ⟨rfl, h', tk, c, rfl, m⟩ := hr₂
        repeat (any_goals (first | assumption | wp_step))
        exact fin _ _ _ m
  | .ok .next, hr => exact hr.elim
  | .ok .brk, hr => exact hr.elim
  | .ok .cont, hr => exact hr.elim
end
end EvSL

set_option linter.all false
set_option maxRecDepth 100000
set_option maxHeartbeats 4000000
/-! Ev.U: sorted of data, sorted(set(ints)), min and max with default=None, as rules of the layer -/
namespace EvU
open PySem PySem.Spec PySem.W PyProof.Rows L2
section
variable {X : Cx}
/-! ### sorted of data -/
theorem vals_each {α : Type} : ∀ {bs : List (α × V)} {us : List Value}, Vals (bs.map (·.2)) us → EachIs (fun u b => RelV b.2 u) us bs
  | [], _, .nil => .nil
  | b :: bs, _, .cons r t => .cons r (vals_each t)
theorem each_vals {α : Type} : ∀ {bs : List (α × V)} {us : List Value}, EachIs (fun u b => RelV b.2 u) us bs → Vals (bs.map (·.2)) us
  | [], _, .nil => .nil
  | b :: bs, _, .cons r t => .cons r (each_vals t)
theorem each_and {α β : Type} {R S : α → β → Prop} : ∀ {us : List α} {bs : List β}, EachIs R us bs → (∀ u b, b ∈ bs → R u b → S u b) → EachIs S us bs
  | _, _, .nil, _ => .nil
  | _, _, .cons r t, h => .cons (h _ _ (List.mem_cons_self ..) r) (each_and t fun u b hb => h u b (List.mem_cons_of_mem _ hb))
/-- sorted(xs), xs told with what stands for its items (d: as data) -/
def rSortedD {α : Type} (d : α → PyData) (K : PySem.W.Frag) : List V → Hp → VK → Prop := fun vs H Q => ∃ (a : Addr) (bs : List (α × V)), vs = [V.ref a] ∧ SqL K H a (bs.map (·.2)) ∧ (∀ b ∈ bs, Dp K H b.2 (d b.1) ∧ (d b.1).depth ≤ 64) ∧
  AllAlike (bs.map fun b => d b.1) ∧ Sortable (bs.map fun b => d b.1) ∧ ∀ p, H p = none → Q (.ref p) (upd H p (.lst ((bs.mergeSort (dataLe false fun b => d b.1)).map (·.2))))
theorem cr_sortedD {α : Type} {d : α → PyData} (hu : X.A.units + 70 < cLine) : CallR X (.builtin "sorted") (rSortedD d X.K) := by
  intro pins s σ H vs us Q I r h
  obtain ⟨a, bs, rfl, hs, hd, hal, hk, q⟩ := h
  obtain ⟨its, rv, hl, hz⟩ := I.list hs
  rw [Vals.ref1 r]
  have e := vals_each rv
  have er : EachIs (fun v (b : α × V) => ∃ as, Reads s.heap v (d b.1) as) its bs := each_and e fun u b hb ru => Dp.reads I (d b.1) b.2 u (hd b hb).1 ru
  rw [List.length_map] at hz
  refine sorted_data (bs := bs) (enc := fun b => d b.1) hl.isList e er hal hk hz (fun b hb => by have := (hd b hb).2; omega) fun out hlen ho => ?_
  obtain ⟨ep, he'⟩ := PyProof.Rows.sortedAll_at s.heap its out.toArray
  have hlen' : ((bs.mergeSort (dataLe false fun b => d b.1)).map (·.2)).length ≤ sizeLine := by rw [List.length_map, List.length_mergeSort]; exact hz
  exact ⟨.ref _, upd H (s.heap.objs.size + 1) (.lst ((bs.mergeSort (dataLe false fun b => d b.1)).map (·.2))), I.laid (t' := s.toks) (fun _ _ => PyProof.Rows.sortedAll_old) (Nat.le_succ _) ⟨hlen', out, ep, each_vals ho, he'⟩, rfl, q _ (I.hok.fresh (Nat.le_succ _))⟩
/-! ### sorted(set(xs)), ints -/
def tSortedSet (K : PySem.W.Frag) (ta : TE) : TE := fun σ H Q => ta σ H fun x H1 => ∃ (l : Addr) (ns : List Int), x = V.ref l ∧ SqL K H1 l (ns.map V.int) ∧ ns.length < 64 ∧
  ∀ (ms : List Int) (p : Addr), ms.Pairwise (· < ·) → (∀ k, k ∈ ms ↔ k ∈ ns) → H1 p = none → Q (.ref p) (upd H1 p (.lst (ms.map V.int)))
theorem boot_sorted : bootBuiltins ("sorted" : Str) = some (.builtin "sorted") := by decide +kernel
theorem pe_sortedSet {a : Expr} {ta : TE} {p p2 q pos : Pos} (hc : X.calm = true) (hg : Gl X "sorted") (hm : X.mg "sorted" = none) (hg2 : Gl X "set") (hm2 : X.mg "set" = none) (ha : PE X a ta)
    (na : starEach [a] X.env = (false, eval a X.env) :: starEach [] X.env) : PE X (.Call (.Name "sorted" p) [.Call (.Name "set" p2) [a] [] q] [] pos) (tSortedSet X.K ta) := by
  refine ⟨fun pins s σ H Q I h => ?_⟩
  refine Call_ (ld_blt I hg hm boot_sorted ?_)
  refine PyProof.Rows.callWith_builtin1 (PyProof.Rows.args_cons ?_ rfl) rfl rfl
  refine Call_ (ld_blt I hg2 hm2 PyProof.Rows.boot_set ?_)
  refine PyProof.Rows.callWith_type1 (PyProof.Rows.args_cons (thn (ha.run pins s σ H _ I h) fun v s1 ⟨x, H1, I1, r1, q1⟩ => PyProof.Rows.args_nil ?_) na) na rfl
  obtain ⟨l, ns, rfl, hq, h1, q1⟩ := q1
  cases r1
  obtain ⟨its, r, pl, hz⟩ := I1.list hq
  refine EvSL.set_of_list ns (I1.ok.hd hc) pl.isList (by simpa using r.ints) (by unfold scanBound; omega) fun h' tk c m => ?_
  obtain ⟨setR, le, kp⟩ := m
  refine PyProof.Rows.args_nil ?_
  have I2 : Inv X pins σ H1 { s1 with heap := h', toks := tk } := I1.kept kp
  refine sorted_set setR (I2.ok.hd hc) (by omega) fun s' p out c2 ms k g o hp hgt hi hs hmem hlen => ?_
  have few : (ms.map V.int).length ≤ sizeLine := by rw [List.length_map, hlen, sizeLine_eq]; omega
  have hn : H1 p = none := I2.hok.fresh hp
  have J : Inv X pins σ (upd H1 p (.lst (ms.map V.int))) { ({ s1 with heap := h', toks := tk } : Shared) with heap := s'.heap, gens := s'.gens, drawn := s'.drawn, toks := s'.toks } :=
    I2.call (ch := []) (Un.laid k hp hn) (I2.hok.laid k hp ⟨few, out.toList, c2, vals_of_ints hi, hgt⟩) (by rw [g]; exact I2.bare) (fun _ z => nomatch z)
  have e : s' = { ({ s1 with heap := h', toks := tk } : Shared) with heap := s'.heap, gens := s'.gens, drawn := s'.drawn, toks := s'.toks } := by
    obtain ⟨a1, a2, a3, a4, a5⟩ := s'
    obtain ⟨b1, b2, b3, b4, b5⟩ := s1
    cases o
    rfl
  rw [e]
  exact ⟨.ref p, _, J, rfl, q1 ms p hs (fun k => (hmem k).trans (by simp)) hn⟩
/-! ### min, max with default=None -/
theorem ints_reads {h : Heap} : ∀ {us : List Value} {ns : List Int}, IntsAre us ns → ∃ as, ReadsAll h us (ns.map PyData.int) as
  | _, _, .nil => ⟨[], .nil⟩
  | _, _, .cons n t r => by
    obtain ⟨as, q⟩ := ints_reads r
    exact ⟨_, .cons (.int n t) q⟩
theorem ints_alike (ns : List Int) : AlikeAll (ns.map PyData.int) := by
  refine ⟨fun x hx y hy => ?_, fun x hx => ?_⟩
  · obtain ⟨i, _, rfl⟩ := List.mem_map.mp hx
    obtain ⟨j, _, rfl⟩ := List.mem_map.mp hy
    simp [alike]
  · obtain ⟨i, _, rfl⟩ := List.mem_map.mp hx
    intro z
    cases z
def rMinD (lo : Bool) (K : PySem.W.Frag) : List V → List V → Hp → VK → Prop := fun vs zs H Q => ∃ (a : Addr) (ns : List Int), vs = [V.ref a] ∧ zs = [V.non] ∧ SqL K H a (ns.map V.int) ∧ (ns = [] → Q .non H) ∧
  ∀ m, m ∈ ns → (∀ y, y ∈ ns → if lo then m ≤ y else y ≤ m) → Q (.int m) H
theorem fold_min : ∀ (ns : List Int) (n : Int), (ns.foldl min n = n ∨ ns.foldl min n ∈ ns) ∧ ns.foldl min n ≤ n ∧ ∀ y ∈ ns, ns.foldl min n ≤ y
  | [], n => ⟨.inl rfl, Int.le_refl _, fun y h => by cases h⟩
  | x :: ns, n => by
    obtain ⟨h1, h2, h3⟩ := fold_min ns (min n x)
    rw [List.foldl_cons]
    refine ⟨?_, by omega, fun y hy => ?_⟩
    · rcases h1 with h1 | h1
      · rw [h1]
        rcases Int.le_total n x with q | q
        · exact .inl (Int.min_eq_left q)
        · exact .inr (by rw [Int.min_eq_right q]; exact List.mem_cons_self ..)
      · exact .inr (List.mem_cons_of_mem _ h1)
    · rcases List.mem_cons.mp hy with rfl | hy
      · omega
      · exact h3 y hy
theorem fold_max : ∀ (ns : List Int) (n : Int), (ns.foldl max n = n ∨ ns.foldl max n ∈ ns) ∧ n ≤ ns.foldl max n ∧ ∀ y ∈ ns, y ≤ ns.foldl max n
  | [], n => ⟨.inl rfl, Int.le_refl _, fun y h => by cases h⟩
  | x :: ns, n => by
    obtain ⟨h1, h2, h3⟩ := fold_max ns (max n x)
    rw [List.foldl_cons]
    refine ⟨?_, by omega, fun y hy => ?_⟩
    · rcases h1 with h1 | h1
      · rw [h1]
        rcases Int.le_total n x with q | q
        · exact .inr (by rw [Int.max_eq_right q]; exact List.mem_cons_self ..)
        · exact .inl (Int.max_eq_left q)
      · exact .inr (List.mem_cons_of_mem _ h1)
    · rcases List.mem_cons.mp hy with rfl | hy
      · omega
      · exact h3 y hy
theorem cr_minD (hc : X.calm = true) (hu : X.A.units + 70 < cLine) : CallRK X (.builtin "min") [Str.ofString "default"] (rMinD true X.K) := by
  intro pins s σ H vs zs us ws Q I r rz h
  obtain ⟨a, ns, rfl, rfl, hs, q0, q1⟩ := h
  obtain ⟨its, rv, hl, hz⟩ := I.list hs
  rw [Vals.ref1 r]
  obtain ⟨w1, rfl, e1⟩ := vals1 rz
  obtain rfl : w1 = Value.none := e1
  obtain ⟨as, ra⟩ := ints_reads (h := s.heap) rv.ints
  refine min_list_default (as := as) (I.ok.hd hc) hl.isList (by simpa using ra) (ints_alike ns) (by rw [PySem.W.depth_ints]; omega) (fun e0 h' tk kp => ?_) fun y ys i v h' tk bs e0 hv rd kp => ?_
  · exact ⟨.non, H, I.kept kp, rfl, q0 (by simpa using e0)⟩
  · cases ns with
    | nil => cases e0
    | cons n ns =>
      rw [List.map_cons] at e0
      injection e0 with e2 e3
      subst e2 e3
      rw [minD_ints] at rd
      cases rd with
      | int m t =>
        obtain ⟨f1, f2, f3⟩ := fold_min ns n
        refine ⟨.int _, H, I.kept kp, ⟨_, rfl⟩, q1 _ ?_ fun y hy => ?_⟩
        · rcases f1 with f1 | f1
          · rw [f1]; exact List.mem_cons_self ..
          · exact List.mem_cons_of_mem _ f1
        · rw [if_pos rfl]
          rcases List.mem_cons.mp hy with rfl | hy
          · exact f2
          · exact f3 y hy
theorem cr_maxD (hc : X.calm = true) (hu : X.A.units + 70 < cLine) : CallRK X (.builtin "max") [Str.ofString "default"] (rMinD false X.K) := by
  intro pins s σ H vs zs us ws Q I r rz h
  obtain ⟨a, ns, rfl, rfl, hs, q0, q1⟩ := h
  obtain ⟨its, rv, hl, hz⟩ := I.list hs
  rw [Vals.ref1 r]
  obtain ⟨w1, rfl, e1⟩ := vals1 rz
  obtain rfl : w1 = Value.none := e1
  obtain ⟨as, ra⟩ := ints_reads (h := s.heap) rv.ints
  refine max_list_default (as := as) (I.ok.hd hc) hl.isList (by simpa using ra) (ints_alike ns) (by rw [PySem.W.depth_ints]; omega) (fun e0 h' tk kp => ?_) fun y ys i v h' tk bs e0 hv rd kp => ?_
  · exact ⟨.non, H, I.kept kp, rfl, q0 (by simpa using e0)⟩
  · cases ns with
    | nil => cases e0
    | cons n ns =>
      rw [List.map_cons] at e0
      injection e0 with e2 e3
      subst e2 e3
      rw [maxD_ints] at rd
      cases rd with
      | int m t =>
        obtain ⟨f1, f2, f3⟩ := fold_max ns n
        refine ⟨.int _, H, I.kept kp, ⟨_, rfl⟩, q1 _ ?_ fun y hy => ?_⟩
        · rcases f1 with f1 | f1
          · rw [f1]; exact List.mem_cons_self ..
          · exact List.mem_cons_of_mem _ f1
        · rw [if_neg (by decide)]
          rcases List.mem_cons.mp hy with rfl | hy
          · exact f2
          · exact f3 y hy
end
end EvU

set_option linter.all false
set_option maxRecDepth 100000
set_option maxHeartbeats 1000000
/-! Ev.S: the evaluator -/
namespace Ev
open PySem PySem.Spec L2

/-! ### operations by values -/
def LIM : Nat := 16777216
mutual
def toPy : PV → Option PyData
  | .non => some .none
  | .bl b => some (.bool b)
  | .int i => some (.int i)
  | .str x => some (.str x)
  | .tup xs => (toPys xs).map .tuple
  | .lst xs => (toPys xs).map .list
  | .scr _ => none
  | .box _ => none
  | .fn _ => none
def toPys : List PV → Option (List PyData)
  | [] => some []
  | x :: xs => match toPy x with
    | none => none
    | some d => (toPys xs).map (d :: ·)
end
def mulOk (i j : Int) : Bool := (decide (-(2 ^ 64) < i) && decide (i < 2 ^ 64)) || (decide (-(2 ^ 64) < j) && decide (j < 2 ^ 64)) || decide (i.natAbs.log2 + j.natAbs.log2 < 1000000)
def divOk (j : Int) : Bool := decide (j ≠ 0) && (decide (j.natAbs < 1073741824) || (decide (0 < j) && decide (j.natAbs.log2 < 9000)))
def shlOk (i j : Int) : Bool := decide (0 ≤ j) && decide ((Builtin.Int.intBits i : Int) + j ≤ 2 ^ 27)
def powOk (i j : Int) : Bool := decide (0 ≤ j) && decide (j ≤ 1000000) && decide (i.natAbs < 2 ^ 64)
def repOk (n : Nat) (k : Int) : Bool := decide (-(2 ^ 63) ≤ k) && decide (k < 2 ^ 63) && decide (n * k.toNat ≤ LIM)
def repTOk (n : Nat) (k : Int) : Bool := decide (0 < n) && decide (-(2 ^ 63) ≤ k) && decide (k ≤ 1000) && decide (n ≤ 1000)
def binV (op : Operator) (u v : PV) : Option RE :=
  match op with
  | .Add => match u, v with
    | .int i, .int j => some (.val (.int (i + j)))
    | .str x, .str y => if x.length + y.length ≤ LIM then some (.val (.str (x ++ y))) else none
    | .tup xs, .tup ys => if xs.length + ys.length ≤ LIM then some (.val (.tup (xs ++ ys))) else none
    | .lst xs, .lst ys => if xs.length + ys.length ≤ LIM then some (.fresh (.lst (xs ++ ys))) else none
    | _, _ => none
  | .Sub => match u, v with
    | .int i, .int j => some (.val (.int (i - j)))
    | _, _ => none
  | .Mult => match u, v with
    | .int i, .int j => if mulOk i j then some (.val (.int (i * j))) else none
    | .lst xs, .int k => if repOk xs.length k then some (.fresh (.lst (List.replicate k.toNat xs).flatten)) else none
    | .tup xs, .int k => if repTOk xs.length k then some (.val (.tup (List.replicate k.toNat xs).flatten)) else none
    | _, _ => none
  | .FloorDiv => match u, v with
    | .int i, .int j => if divOk j then some (.val (.int (i.fdiv j))) else none
    | _, _ => none
  | .Mod => match u, v with
    | .int i, .int j => if j = 0 then none else some (.val (.int (i.fmod j)))
    | _, _ => none
  | .Pow => match u, v with
    | .int i, .int j => if powOk i j then some (.val (.int (i ^ j.toNat))) else none
    | _, _ => none
  | .LShift => match u, v with
    | .int i, .int j => if shlOk i j then some (.val (.int (i * 2 ^ j.toNat))) else none
    | _, _ => none
  | _ => none
/-- scalars and whole data -/
def eqPV (u v : PV) : Option Bool :=
  match u, v with
  | .int i, .int j => some (decide (i = j))
  | .bl i, .bl j => some (decide (i = j))
  | .str i, .str j => some (decide (i = j))
  | .non, .non => some true
  | _, _ => match toPy u, toPy v with
    | some d, some e => if SeqAt.shaped d && SeqAt.shaped e then some (PyData.eqv d e) else none
    | _, _ => none
def flatP : PV → Bool
  | .non => true | .bl _ => true | .int _ => true | .str _ => true | _ => false
def eqF : PV → PV → Bool
  | .non, .non => true
  | .bl a, .bl b => a == b
  | .bl a, .int b => (if a then 1 else 0) == b
  | .int a, .bl b => a == (if b then 1 else 0)
  | .int a, .int b => a == b
  | .str a, .str b => a == b
  | _, _ => false
def inV (u : PV) (xs : List PV) : Option Bool := if flatP u && xs.all flatP then some (xs.any fun y => eqF y u) else none
def cmpV (op : CmpOp) (u v : PV) : Option Bool :=
  match op with
  | .Lt => match u, v with | .int i, .int j => some (decide (i < j)) | _, _ => none
  | .LtE => match u, v with | .int i, .int j => some (decide (i ≤ j)) | _, _ => none
  | .Gt => match u, v with | .int i, .int j => some (decide (j < i)) | _, _ => none
  | .GtE => match u, v with | .int i, .int j => some (decide (j ≤ i)) | _, _ => none
  | .Eq => eqPV u v
  | .NotEq => (eqPV u v).map (!·)
  | .Is => match u, v with
    | .bl a, .bl b => some (decide (a = b))
    | .non, .non => some true
    | .bl _, .non => some false | .int _, .non => some false | .str _, .non => some false | .tup _, .non => some false | .lst _, .non => some false
    | _, _ => none
  | .IsNot => match u, v with
    | .bl a, .bl b => some (!decide (a = b))
    | .non, .non => some false
    | .bl _, .non => some true | .int _, .non => some true | .str _, .non => some true | .tup _, .non => some true | .lst _, .non => some true
    | _, _ => none
  | .In => match v with
    | .tup xs => inV u xs
    | .lst xs => inV u xs
    | _ => none
  | .NotIn => match v with
    | .tup xs => (inV u xs).map (!·)
    | .lst xs => (inV u xs).map (!·)
    | _ => none
def truV : PV → Option Bool
  | .non => some false
  | .bl b => some b
  | .int i => some (i != 0)
  | .tup xs => some (!xs.isEmpty)
  | .lst xs => some (!xs.isEmpty)
  | _ => none
def ixV (u v : PV) : Option PV :=
  match u, v with
  | .tup xs, .int i => L2.atI xs i
  | .lst xs, .int i => L2.atI xs i
  | _, _ => none
def cutP (xs : List PV) (lo hi : Option Int) : List PV := (xs.drop (HT.sIx xs.length 0 lo)).take (HT.sIx xs.length xs.length hi - HT.sIx xs.length 0 lo)
def slV (u : PV) (lo hi : Option Int) : Option RE :=
  match u with
  | .tup xs => some (.val (.tup (cutP xs lo hi)))
  | .lst xs => some (.fresh (.lst (cutP xs lo hi)))
  | _ => none

/-! ### the state -/
def deref (s : ES) : RE → Option PV
  | .val v => some v
  | .fresh c => some c.val
  | .pk i => match s.env[i]? with
    | some (.own c) => some c.val
    | some (.val v) => some v
    | _ => none
/-- what a box holds, seen through -/
def unbox (s : ES) (v : PV) : PV := match v with
  | .box n => match s.st[n]? with
    | some c => c.val
    | none => v
  | _ => v
def subM (r r' : RE) : M RE := fun s => match deref s r with
  | some u => match deref s r' with
    | some v => match ixV (unbox s u) v with
      | some w => .ok (.val w) s
      | none => .bad
    | none => .bad
  | none => .bad
def lift1 (f : PV → Option RE) (r : RE) : M RE := fun s => match deref s r with
  | some u => match f u with
    | some x => .ok x s
    | none => .bad
  | none => .bad
def lift2 (f : PV → PV → Option RE) (r r' : RE) : M RE := fun s => match deref s r with
  | some u => match deref s r' with
    | some v => match f u v with
      | some x => .ok x s
      | none => .bad
    | none => .bad
  | none => .bad
def truM (r : RE) : M Bool := fun s => match deref s r with
  | some u => match truV u with
    | some b => .ok b s
    | none => .bad
  | none => .bad
def derefs (s : ES) : List RE → Option (List PV)
  | [] => some []
  | r :: rs => match deref s r with
    | none => none
    | some v => (derefs s rs).map (v :: ·)
def liftN (f : List PV → Option RE) (rs : List RE) : M RE := fun s => match derefs s rs with
  | some us => match f us with
    | some x => .ok x s
    | none => .bad
  | none => .bad
/-- an outcome handed on -/
def share : RE → M PV
  | .val v => ret v
  | .fresh c => ret c.val
  | .pk i => fun s => match s.env[i]? with
    | some (.own c) => .ok c.val { s with env := s.env.set i (.val c.val) }
    | some (.val v) => .ok v s
    | _ => .bad
def shares : List RE → M (List PV)
  | [] => ret []
  | r :: rs => bnd (share r) fun v => bnd (shares rs) fun vs => ret (v :: vs)

/-! ### names, calls -/
inductive GV where
  | const (v : PV) | fn (i : Nat)
  deriving Inhabited
structure CC where
  N : List Str
  glob : List (Str × GV)
  boxed : List Str
  excs : List Str
  subs : List ((Str × Str) × Bool) := []
inductive FOut where
  | ok (r : RE) (st : List Cell) | exc (x : Ex) (st : List Cell) | bad
abbrev Orc := Nat → List PV → List Cell → FOut
def isVis (sc : Scope) (x : Str) : Bool := match sc.names.lookup x with
  | some .local => true | some .cell => true | some .free => true | _ => false
def isLoc (sc : Scope) (x : Str) : Bool := match sc.names.lookup x with
  | some .local => true | some .cell => true | _ => false
def isGl (sc : Scope) (x : Str) : Bool := match sc.names.lookup x with
  | some .globalImplicit => true | _ => false
def rdSlot (i : Nat) : M RE := fun s => match s.env[i]? with
  | some (.val v) => .ok (.val v) s
  | some (.own _) => .ok (.pk i) s
  | _ => .bad
def nameM (C : CC) (sc : Scope) (x : Str) : M RE :=
  if isVis sc x then match C.N.idxOf? x with
    | some i => rdSlot i
    | none => bad
  else if isGl sc x then match C.glob.lookup x with
    | some (.const v) => ret (.val v)
    | some (.fn i) => ret (.val (.fn i))
    | none => bad
  else bad
def constM : Const → M RE
  | .none => ret (.val .non)
  | .bool b => ret (.val (.bl b))
  | .int i => ret (.val (.int i))
  | .str x => ret (.val (.str x))
  | _ => bad
def notStar : Expr → Bool
  | .Starred .. => false
  | _ => true
def evList (f : Expr → M RE) : List Expr → M (List RE)
  | [] => ret []
  | e :: es => if notStar e then bnd (f e) fun r => bnd (evList f es) fun rs => ret (r :: rs) else bad
def callM (Φ : Orc) (f : Nat) (vs : List PV) : M RE := fun s => match Φ f vs s.st with
  | .ok r st => .ok r { s with st := st }
  | .exc x st => .exc x { s with st := st }
  | .bad => .bad
def isSliceN : Expr → Bool
  | .Slice .. => true
  | _ => false
def boolM (op : BoolOp) (f : Expr → M RE) : List Expr → M RE
  | [] => bad
  | [e] => f e
  | e :: es => bnd (f e) fun r => bnd (truM r) fun b => match op with
    | .And => if b then boolM op f es else ret r
    | .Or => if b then ret r else boolM op f es
def boolT (op : BoolOp) (f : Expr → M Bool) : List Expr → M Bool
  | [] => bad
  | [e] => f e
  | e :: es => bnd (f e) fun b => match op with
    | .And => if b then boolT op f es else ret false
    | .Or => if b then ret true else boolT op f es
def marks (op : CmpOp) (e : Expr) : Bool := behindInMarks op e
def asBool (r : RE) : M Bool := fun s => match r with
  | .val (.bl b) => .ok b s
  | _ => .bad
def cmpM (op : CmpOp) (r r' : RE) : M RE := lift2 (fun u v => (cmpV op u v).map fun b => .val (.bl b)) r r'
/-- the target of a store that takes a handed value -/
def unTup (v : PV) (n : Nat) : Option (List PV) := match v with
  | .tup xs => if xs.length = n then some xs else none
  | _ => none
def setSlot (i : Nat) (v : PV) : M Unit := fun s => if i < s.env.length then .ok () { s with env := s.env.set i (.val v) } else .bad
/-- a name takes a value; wr: the scope as it is written -/
def asgN (C : CC) (wr : Scope) : Expr → PV → M Unit
  | .Name x _, v => if isLoc wr x then (match C.N.idxOf? x with
    | some i => setSlot i v
    | none => bad) else bad
  | _, _ => bad
def asgNs (C : CC) (wr : Scope) : List Expr → List PV → M Unit
  | [], [] => ret ()
  | e :: es, v :: vs => bnd (asgN C wr e v) fun _ => asgNs C wr es vs
  | _, _ => bad
def asgV (C : CC) (wr : Scope) (tg : Expr) (v : PV) : M Unit := match tg with
  | .Tuple es _ _ => match v with
    | .tup xs => asgNs C wr es xs
    | _ => bad
  | e => asgN C wr e v

/-! ### comprehensions -/
/-- the outer scope of a block -/
def ownOf (C : CC) (scope : Scope) : List (Str × Nat) := scope.names.filterMap fun y => match y.2 with
  | .local => (C.N.idxOf? y.1).map fun i => (y.1, i)
  | .cell => (C.N.idxOf? y.1).map fun i => (y.1, i)
  | _ => none
def wipeE (env : List Sl) : List Nat → List Sl
  | [] => env
  | v :: vs => (wipeE env vs).set v .none
def backE (env old : List Sl) : List Nat → List Sl
  | [] => env
  | v :: vs => (backE env old vs).set v (match old[v]? with
    | some (.val x) => .val x
    | some (.own c) => .val c.val
    | _ => .none)
def testsM (f : Expr → M Bool) : List Expr → M Bool
  | [] => ret true
  | [c] => f c
  | _ => bad
def compGo (own : List Nat) (tgt : PV → M Unit) (tst : M Bool) (elt : M RE) (scr : Bool) : List PV → M (List PV)
  | [] => ret []
  | x :: xs => bnd (fun s => .ok () { s with env := wipeE s.env own }) fun _ => bnd (tgt x) fun _ => bnd tst fun b =>
    if b then bnd elt fun r => bnd (share r) fun v => bnd (compGo own tgt tst elt scr xs) fun vs => ret (v :: vs)
    else compGo own tgt tst elt scr xs
/-- no exception leaves a comprehension -/
def noExc {α} (m : M α) : M α := fun s => match m s with
  | .ok a s' => .ok a s'
  | _ => .bad
def compM (own : List Nat) (tgt : PV → M Unit) (tst : M Bool) (elt : M RE) (xs : List PV) : M RE := fun s =>
  match noExc (compGo own tgt tst elt true xs) { s with env := wipeE s.env own } with
  | .ok vs s' => if vs.length ≤ LIM then .ok (.fresh (.lst vs)) { s' with env := backE s'.env s.env own } else .bad
  | _ => .bad
/-! ### built-in functions -/
def lenV : PV → Option Int
  | .tup xs => some (xs.length : Nat)
  | .lst xs => some (xs.length : Nat)
  | .scr ns => some (ns.length : Nat)
  | .str x => if x.length ≤ LIM then some (x.length : Nat) else none
  | _ => none
def boolsOf : List PV → Option (List Bool)
  | [] => some []
  | .bl b :: r => (boolsOf r).map (b :: ·)
  | _ :: _ => none
def intsOf : List PV → Option (List Int)
  | [] => some []
  | .int b :: r => (intsOf r).map (b :: ·)
  | _ :: _ => none
def tyName : PV → Option String
  | .non => some "NoneType"
  | .bl _ => some "bool"
  | .int _ => some "int"
  | .str _ => some "str"
  | .tup _ => some "tuple"
  | .lst _ => some "list"
  | _ => none
def isInst (v : PV) (T : Str) : Option Bool := match tyName v with
  | none => none
  | some t => if T = ("int" : Str) then some (t == "int" || t == "bool") else if T = ("bool" : Str) then some (t == "bool") else if T = ("tuple" : Str) then some (t == "tuple")
    else if T = ("str" : Str) then some (t == "str") else if T = ("list" : Str) then some (t == "list") else none
def instTy (T : Str) : Bool := decide (T = ("int" : Str)) || decide (T = ("bool" : Str)) || decide (T = ("tuple" : Str)) || decide (T = ("str" : Str)) || decide (T = ("list" : Str))
def maxI : List Int → Option Int
  | [] => none
  | x :: xs => some (xs.foldl (fun a b => if b > a then b else a) x)
def minI : List Int → Option Int
  | [] => none
  | x :: xs => some (xs.foldl (fun a b => if b < a then b else a) x)
inductive Bi where
  | len | all | any | sum | abs | tuple | list | int | max | min | repr | sorted
  deriving DecidableEq, Inhabited
def Bi.nm : Bi → String
  | .len => "len" | .all => "all" | .any => "any" | .sum => "sum" | .abs => "abs" | .tuple => "tuple" | .list => "list" | .int => "int" | .max => "max" | .min => "min" | .repr => "repr" | .sorted => "sorted"
def biOf (x : Str) : Option Bi :=
  if x = ("len" : Str) then some .len else if x = ("tuple" : Str) then some .tuple else if x = ("int" : Str) then some .int else if x = ("all" : Str) then some .all
  else if x = ("list" : Str) then some .list else if x = ("sum" : Str) then some .sum else if x = ("abs" : Str) then some .abs else if x = ("any" : Str) then some .any
  else if x = ("max" : Str) then some .max else if x = ("min" : Str) then some .min else if x = ("repr" : Str) then some .repr else if x = ("sorted" : Str) then some .sorted else none
def showOk (d : PyData) : Bool := d.showable && SeqAt.shaped d && (match d with | .dict _ => false | _ => true) && ((d.leavesShort 13 && decide (d.bulk ≤ 2 ^ 20)) || (d.leavesShort 64 && decide (d.bulk ≤ 200000)) || decide (d.shown.length ≤ sizeLine))
/-! sorted: of data that can be compared -/
def encP (v : PV) : PyData := (toPy v).getD .none
def alikeB (ds : List PyData) : Bool := ds.all fun d => ds.all fun d' => PySem.W.alike d d'
def tupB1 : PyData → Bool
  | .tuple (_ :: _) => true
  | _ => false
def othB1 : PyData → Bool
  | .none => false
  | .tuple _ => false
  | _ => true
def sortOk (ds : List PyData) : Bool := alikeB ds && (ds.all tupB1 || ds.all othB1) && ds.all fun d => decide (d.depth ≤ 64)
def sortP (xs : List PV) : Option (List PV) := (toPys xs).bind fun ds => if sortOk ds then some (xs.mergeSort (PySem.W.dataLe false encP)) else none
/-- the members of a list of ints, ascending -/
def insU (x : Int) : List Int → List Int
  | [] => [x]
  | y :: r => if x < y then x :: y :: r else if x = y then y :: r else y :: insU x r
def sortU : List Int → List Int
  | [] => []
  | x :: r => insU x (sortU r)
def sortSetV : PV → Option RE
  | .lst xs => (intsOf xs).bind fun ns => if ns.length < 64 then some (.fresh (.lst ((sortU ns).map .int))) else none
  | _ => none
/-- min, max with default=None -/
def mmD (lo : Bool) : PV → Option RE
  | .lst xs => (intsOf xs).map fun ns => .val (match (if lo then minI ns else maxI ns) with | none => .non | some m => .int m)
  | _ => none
def biV (b : Bi) (us : List PV) : Option RE :=
  match b, us with
  | .len, [v] => (lenV v).map fun n => .val (.int n)
  | .all, [.lst xs] => (boolsOf xs).map fun bs => .val (.bl (bs.all id))
  | .any, [.lst xs] => (boolsOf xs).map fun bs => .val (.bl (bs.any id))
  | .sum, [.lst xs] => (intsOf xs).map fun ns => .val (.int ns.sum)
  | .abs, [.int i] => some (.val (.int (if i < 0 then -i else i)))
  | .tuple, [.lst xs] => some (.val (.tup xs))
  | .tuple, [.tup xs] => some (.val (.tup xs))
  | .list, [.lst xs] => some (.fresh (.lst xs))
  | .list, [.tup xs] => some (.fresh (.lst xs))
  | .list, [.scr ns] => some (.fresh (.lst (ns.map .int)))
  | .int, [.int i] => some (.val (.int i))
  | .int, [.bl b] => some (.val (.int (if b then 1 else 0)))
  | .max, [.int i, .int j] => some (.val (.int (if j > i then j else i)))
  | .min, [.int i, .int j] => some (.val (.int (if j < i then j else i)))
  | .max, [.lst xs] => (intsOf xs).bind fun ns => (maxI ns).map fun i => .val (.int i)
  | .min, [.lst xs] => (intsOf xs).bind fun ns => (minI ns).map fun i => .val (.int i)
  | .repr, [v] => (toPy v).bind fun d => if showOk d then some (.val (.str d.shown)) else none
  | .sorted, [.lst xs] => (sortP xs).map fun ys => .fresh (.lst ys)
  | _, _ => none
def biC (C : CC) (sc : Scope) (x : Str) : Bool := isGl sc x && (C.glob.lookup x).isNone

/-! ### what is walked -/
def itemsOf : PV → Option (List PV)
  | .tup xs => some xs
  | .lst xs => some xs
  | _ => none
def rngOk (i : Int) : Bool := decide (-(2 ^ 62) ≤ i) && decide (i < 2 ^ 62)
def rngP (i j : Int) : List PV := (List.range (j - i).toNat).map fun (k : Nat) => PV.int (i + k)
def rng1M (r : RE) : M (List PV) := fun s => match deref s r with
  | some (.int j) => if rngOk j then .ok (rngP 0 j) s else .bad
  | _ => .bad
def rng2M (r r' : RE) : M (List PV) := fun s => match deref s r, deref s r' with
  | some (.int i), some (.int j) => if rngOk i && rngOk j then .ok (rngP i j) s else .bad
  | _, _ => .bad
def itemsM (v : PV) : M (List PV) := match itemsOf v with
  | some xs => ret xs
  | none => bad
def enumP : Nat → List PV → List PV
  | _, [] => []
  | n, x :: xs => .tup [.int n, x] :: enumP (n + 1) xs
def zipP : List PV → List PV → List PV
  | x :: xs, y :: ys => .tup [x, y] :: zipP xs ys
  | _, _ => []
def isTupE : Expr → Bool
  | .Tuple .. => true
  | _ => false
def isSetE : Expr → Bool
  | .Set .. => true
  | _ => false
def callIter (C : CC) (f : Expr → M RE) (sc : Scope) (tg : Expr) (x : Str) (es : List Expr) : Option (M (List PV)) :=
  if biC C sc x then
    if x = ("range" : Str) then match es with
      | [a] => some (if notStar a then bnd (f a) rng1M else bad)
      | [a, b] => some (if notStar a && notStar b then bnd (f a) fun r => bnd (f b) fun r' => rng2M r r' else bad)
      | _ => some bad
    else if x = ("zip" : Str) then match es with
      | [a, b] => some (if notStar a && notStar b && isTupE tg then bnd (f a) fun r => bnd (f b) fun r' => bnd (share r) fun u => bnd (share r') fun v => bnd (itemsM u) fun xs => bnd (itemsM v) fun ys => ret (zipP xs ys) else bad)
      | _ => some bad
    else if x = ("enumerate" : Str) then match es with
      | [a] => some (if notStar a && isTupE tg then bnd (f a) fun r => bnd (share r) fun u => bnd (itemsM u) fun xs => ret (enumP 0 xs) else bad)
      | _ => some bad
    else none
  else none
def evIter (C : CC) (f : Expr → M RE) (sc : Scope) (tg : Expr) (it : Expr) : M (List PV) :=
  let dflt : M (List PV) := if isSetE it then bad else bnd (f it) fun r => bnd (share r) itemsM
  match it with
  | .Call (.Name x _) es [] _ => match callIter C f sc tg x es with
    | some m => m
    | none => dflt
  | _ => dflt

/-! ### the step -/
def negV : PV → Option RE
  | .int i => some (.val (.int (-i)))
  | _ => none
def partM (f : Expr → M RE) : Option Expr → M (Option Int)
  | none => ret none
  | some e => bnd (f e) fun r s => match deref s r with
    | some (.int i) => .ok (some i) s
    | _ => .bad
def isRev : Option Expr → Option Expr → Option Expr → Bool
  | none, none, some (.UnaryOp .USub (.Constant (.int 1) _ _) _) => true
  | _, _, _ => false
def revV : PV → Option RE
  | .tup xs => some (.val (.tup xs.reverse))
  | .lst xs => some (.fresh (.lst xs.reverse))
  | _ => none
/-- how a block's scope reads in the def's -/
def blkS (scope sc : Scope) : Scope := L2.relS scope sc
/-- sorted(set(a)): a -/
def setArg (C : CC) (sc : Scope) (x : Str) (es : List Expr) : Option Expr := match es with
  | [.Call (.Name y _) [a] [] _] => if decide (x = ("sorted" : Str)) && decide (y = ("set" : Str)) && isGl sc y && (C.glob.lookup y).isNone && notStar a then some a else none
  | _ => none
/-- min(a, default=None), max(a, default=None): a, and whether it is the least -/
def dfltArg (C : CC) (sc : Scope) (x : Str) (es : List Expr) (kws : List Keyword) : Option (Expr × Bool) := match es, kws with
  | [a], [⟨some k, .Constant .none _ _, _⟩] => if (decide (x = ("min" : Str)) || decide (x = ("max" : Str))) && decide (k = ("default" : Str)) && isGl sc x && (C.glob.lookup x).isNone && notStar a then some (a, decide (x = ("min" : Str))) else none
  | _, _ => none
def callE (C : CC) (Φ : Orc) (f : Expr → M RE) (sc : Scope) (x : Str) (es : List Expr) : M RE :=
  if isGl sc x then match C.glob.lookup x with
    | some (.fn n) => if es.all notStar then bnd (evList f es) fun rs => bnd (shares rs) fun vs => callM Φ n vs else bad
    | some _ => bad
    | none => if x = ("isinstance" : Str) then match es with
        | [a, .Name t _] => if notStar a && instTy t && isGl sc t && (C.glob.lookup t).isNone then bnd (f a) fun r => lift1 (fun v => (isInst v t).map fun b => .val (.bl b)) r else bad
        | _ => bad
      else match setArg C sc x es with
      | some a => bnd (f a) fun r => lift1 sortSetV r
      | none => match biOf x with
        | some b => match es with
          | [] => bad
          | _ => if es.all notStar then bnd (evList f es) fun rs => liftN (biV b) rs else bad
        | none => bad
  else bad
/-- x.append(e), x.pop(), x.pop(i) on an own list -/
def setCell (i : Nat) (c : Cell) : ES → ES := fun s => { s with env := s.env.set i (.own c) }
def appendM (i : Nat) (v : PV) : M RE := fun s => match s.env[i]? with
  | some (.own (.lst xs)) => if xs.length < LIM then .ok (.val .non) (setCell i (.lst (xs ++ [v])) s) else .bad
  | _ => .bad
def popM (i : Nat) : M RE := fun s => match s.env[i]? with
  | some (.own (.lst xs)) => match xs[xs.length - 1]? with
    | some v => .ok (.val v) (setCell i (.lst xs.dropLast) s)
    | none => .bad
  | _ => .bad
def popAtM (i : Nat) (r : RE) : M RE := fun s => match s.env[i]? with
  | some (.own (.lst xs)) => match deref s r with
    | some (.int k) => if decide (-(2 ^ 63) ≤ k) && decide (k < 2 ^ 63) then match seqIndex? k xs.length with
      | some j => match xs[j]? with
        | some v => .ok (.val v) (setCell i (.lst (xs.eraseIdx j)) s)
        | none => .bad
      | none => .bad else .bad
    | _ => .bad
  | _ => .bad
def chkL (i : Nat) : M Unit := fun s => match s.env[i]? with
  | some (.own (.lst _)) => .ok () s
  | _ => .bad
def methE (C : CC) (f : Expr → M RE) (sc : Scope) (x m : Str) (es : List Expr) (line : Bool) : M RE :=
  if line && isVis sc x then match C.N.idxOf? x with
    | none => bad
    | some i => if m = ("append" : Str) then match es with
        | [a] => if notStar a then bnd (chkL i) fun _ => bnd (f a) fun r => bnd (share r) fun v => appendM i v else bad
        | _ => bad
      else if m = ("pop" : Str) then match es with
        | [] => popM i
        | [a] => if notStar a then bnd (chkL i) fun _ => bnd (f a) fun r => popAtM i r else bad
        | _ => bad
      else bad
  else bad
def stepE (C : CC) (Φ : Orc) (ee : Scope → Expr → M RE) (et : Scope → Expr → M Bool) (sc : Scope) : Expr → M RE
  | .Constant c _ _ => constM c
  | .Name x _ => nameM C sc x
  | .BinOp a op b _ => bnd (ee sc a) fun r => bnd (ee sc b) fun r' => lift2 (binV op) r r'
  | .UnaryOp op a _ => match op with
    | .USub => bnd (ee sc a) fun r => lift1 negV r
    | .Not => bnd (ee sc a) fun r => bnd (truM r) fun b => ret (.val (.bl (!b)))
    | _ => bad
  | .BoolOp op vs _ => boolM op (ee sc) vs
  | .IfExp t a b _ => bnd (et sc t) fun c => if c then ee sc a else ee sc b
  | .Tuple es _ _ => bnd (evList (ee sc) es) fun rs => bnd (shares rs) fun vs => if vs.length ≤ LIM then ret (.val (.tup vs)) else bad
  | .List es _ => bnd (evList (ee sc) es) fun rs => bnd (shares rs) fun vs => if vs.length ≤ LIM then ret (.fresh (.lst vs)) else bad
  | .Compare a ops bs _ => match ops, bs with
    | [op], [b] => if marks op b then bad else bnd (ee sc a) fun r => bnd (ee sc b) fun r' => cmpM op r r'
    | [op, op'], [b, c] => if lastMarks [op, op'] [b, c] then bad else bnd (ee sc a) fun r => bnd (ee sc b) fun r' => bnd (cmpM op r r') fun x => bnd (asBool x) fun k =>
        if k then bnd (ee sc c) fun r'' => cmpM op' r' r'' else ret (.val (.bl false))
    | _, _ => bad
  | .Subscript a b _ => match b with
    | .Slice lo hi st _ => match st with
      | none => bnd (ee sc a) fun r => bnd (partM (ee sc) lo) fun l => bnd (partM (ee sc) hi) fun h => lift1 (fun v => slV v l h) r
      | some _ => if isRev lo hi st then bnd (ee sc a) fun r => lift1 revV r else bad
    | _ => bnd (ee sc a) fun r => bnd (ee sc b) fun r' => subM r r'
  | .ListComp e gens scope _ => match gens with
    | [⟨tg, it, ifs, isa⟩] => if isa == 0 && L2.blkC C.N sc scope (ownOf C scope) then bnd (evIter C (ee sc) sc tg it) fun xs =>
        compM ((ownOf C scope).map (·.2)) (asgV C scope tg) (testsM (et (blkS scope sc)) ifs) (ee (blkS scope sc) e) xs else bad
    | _ => bad
  | .Call fn es kws pos => match kws with
    | [] => match fn with
      | .Name x _ => callE C Φ (ee sc) sc x es
      | .Attribute o m apos => match o with
        | .Name x _ => methE C (ee sc) sc x m es (apos.endLine == pos.line)
        | _ => bad
      | _ => bad
    | k :: ks => match fn with
      | .Name x _ => match dfltArg C sc x es (k :: ks) with
        | some (a, lo) => bnd (ee sc a) fun r => lift1 (mmD lo) r
        | none => bad
      | _ => bad
  | _ => bad
def stepT (C : CC) (Φ : Orc) (ee : Scope → Expr → M RE) (et : Scope → Expr → M Bool) (sc : Scope) (e : Expr) : M Bool := match e with
  | .UnaryOp op a _ => match op with
    | .Not => bnd (et sc a) fun b => ret (!b)
    | _ => bad
  | .BoolOp op vs _ => boolT op (et sc) vs
  | .IfExp t a b _ => bnd (et sc t) fun c => if c then et sc a else et sc b
  | .Compare .. => bnd (stepE C Φ ee et sc e) asBool
  | .Name .. => bnd (stepE C Φ ee et sc e) truM
  | .Call .. => bnd (stepE C Φ ee et sc e) truM
  | .Subscript .. => bnd (stepE C Φ ee et sc e) truM
  | .Constant .. => bnd (stepE C Φ ee et sc e) truM
  | _ => bad
def evET (C : CC) (Φ : Orc) : Nat → (Scope → Expr → M RE) × (Scope → Expr → M Bool)
  | 0 => (fun _ _ => bad, fun _ _ => bad)
  | n + 1 => (stepE C Φ (evET C Φ n).1 (evET C Φ n).2, stepT C Φ (evET C Φ n).1 (evET C Φ n).2)

/-! ### statements -/
inductive Fl where
  | nx | rt (r : RE) | bk | ct
  deriving Inhabited
def setOwn (i : Nat) (c : Cell) : M Unit := fun s => if i < s.env.length then .ok () { s with env := s.env.set i (.own c) } else .bad
def setBox (i : Nat) (c : Cell) : M Unit := fun s => if i < s.env.length then .ok () { env := s.env.set i (.val (.box s.st.length)), st := s.st ++ [c] } else .bad
/-- a name takes an outcome -/
def asgR (i : Nat) (bx : Bool) (r : RE) : M Unit := match r with
  | .val v => setSlot i v
  | .fresh c => if bx then setBox i c else setOwn i c
  | .pk _ => bnd (share r) (setSlot i)
def retM (r : RE) : M Fl := match r with
  | .pk i => fun s => match s.env[i]? with
    | some (.own c) => .ok (.rt (.fresh c)) { s with env := s.env.set i .none }
    | some (.val v) => .ok (.rt (.val v)) s
    | _ => .bad
  | r => ret (.rt r)
def whileM : Nat → M Bool → M Fl → M Fl
  | 0, _, _ => bad
  | n + 1, c, body => bnd c fun b => if b then bnd body fun f => match f with
      | .nx => whileM n c body
      | .ct => whileM n c body
      | .bk => ret .nx
      | .rt r => ret (.rt r)
    else ret .nx
def forM (asg : PV → M Unit) (body : M Fl) : List PV → M Fl
  | [] => ret .nx
  | x :: xs => bnd (asg x) fun _ => bnd body fun f => match f with
      | .nx => forM asg body xs
      | .ct => forM asg body xs
      | .bk => ret .nx
      | .rt r => ret (.rt r)
def thenM (m m' : M Fl) : M Fl := bnd m fun f => match f with
  | .nx => m'
  | f => ret f
def isComp : Expr → Bool
  | .ListComp .. => true
  | .SetComp .. => true
  | .DictComp .. => true
  | _ => false
/-- how a pair of names takes a written pair: some, on its own road; none, as any tuple; else not here -/
inductive Road where
  | par (i j : Nat) | plain | stuck
def pairOf (ts vs : List Expr) : Option (Str × Pos × Str × Pos × Expr × Expr) := match ts, vs with
  | [.Name x px, .Name y py], [a, b] => some (x, px, y, py, a, b)
  | _, _ => none
def parOk (C : CC) (sc : Scope) (x : Str) (px : Pos) (y : Str) (py : Pos) (a b : Expr) : Bool :=
  notStar a && notStar b && px.line == py.line && decide (sc.names.lookup x = some .local) && decide (sc.names.lookup y = some .local) && decide (sc.kind = .function) && (C.N.idxOf? x).isSome && (C.N.idxOf? y).isSome && decide (C.N.idxOf? x ≠ C.N.idxOf? y)
/-- a target that no swap of stores meets -/
def offRoad (sc : Scope) (ts : List Expr) : Bool := ts.any fun t => match t with
  | .Name x _ => !(sc.names.lookup x == some .local)
  | _ => true
def roadOf (C : CC) (sc : Scope) (ts vs : List Expr) : Road :=
  match pairOf ts vs with
  | some (x, px, y, py, a, b) =>
    if vs.all (foldedForSure 8) then .plain
    else if offRoad sc ts then .plain
    else if vs.all (constantsAlone 8) then .stuck
    else if parOk C sc x px y py a b then .par ((C.N.idxOf? x).getD 0) ((C.N.idxOf? y).getD 0)
    else .stuck
  | none => if vs.length = ts.length && !(vs.all (foldedForSure 8)) && !(offRoad sc ts) then .stuck else .plain
/-- an own cell is handed on, a new one waits -/
def shr : RE → M RE
  | .pk i => bnd (share (.pk i)) fun v => ret (.val v)
  | r => ret r
def parM (i j : Nat) (bi bj : Bool) (ma mb : M RE) : M Unit := bnd ma fun ra => bnd mb fun rb => bnd (shr ra) fun ra => bnd (shr rb) fun rb => bnd (asgR i bi ra) fun _ => asgR j bj rb
/-- an outcome that is no new cell, handed on -/
def shv : RE → M PV
  | .val v => ret v
  | .pk i => share (.pk i)
  | .fresh _ => bad
def parM3 (i j l : Nat) (ma mb mc : M RE) : M Unit := bnd ma fun ra => bnd mb fun rb => bnd mc fun rc => bnd (shv ra) fun va => bnd (shv rb) fun vb => bnd (shr rc) fun rc => bnd (setSlot i va) fun _ => bnd (setSlot j vb) fun _ => asgR l false rc
def loc3 (C : CC) (sc : Scope) (x : Str) : Bool := decide (sc.names.lookup x = some .local) && (C.N.idxOf? x).isSome
def tripOk (C : CC) (sc : Scope) (x : Str) (px : Pos) (y : Str) (py : Pos) (z : Str) (pz : Pos) (a b c : Expr) : Bool :=
  notStar a && notStar b && notStar c && px.line == py.line && px.line == pz.line && loc3 C sc x && loc3 C sc y && loc3 C sc z && decide (sc.kind = .function) &&
  decide (C.N.idxOf? x ≠ C.N.idxOf? y) && decide (C.N.idxOf? x ≠ C.N.idxOf? z) && decide (C.N.idxOf? y ≠ C.N.idxOf? z) && !([a, b, c].all (foldedForSure 8)) && !([a, b, c].all (constantsAlone 8))
/-- three names take three written values -/
def tripOf (C : CC) (sc : Scope) (ts vs : List Expr) : Option (Nat × Nat × Nat × Expr × Expr × Expr) := match ts, vs with
  | [.Name x px, .Name y py, .Name z pz], [a, b, c] => if tripOk C sc x px y py z pz a b c then some ((C.N.idxOf? x).getD 0, (C.N.idxOf? y).getD 0, (C.N.idxOf? z).getD 0, a, b, c) else none
  | _, _ => none
def chkS (i : Nat) : M Unit := fun s => match s.env[i]? with
  | some (.own _) => .ok () s
  | some (.val _) => .ok () s
  | _ => .bad
def storeM (i : Nat) (v : PV) (k : RE) : M Unit := fun s => match deref s k with
  | some (.int k) => match s.env[i]? with
    | some (.own (.lst xs)) => match L2.ixN xs.length k with
      | some j => .ok () { s with env := s.env.set i (.own (.lst (xs.set j v))) }
      | none => .bad
    | some (.val (.box n)) => match s.st[n]? with
      | some (.lst xs) => match L2.ixN xs.length k with
        | some j => .ok () { s with st := s.st.set n (.lst (xs.set j v)) }
        | none => .bad
      | none => .bad
    | _ => .bad
  | _ => .bad
def augM (op : Operator) (i : Nat) (r : RE) : M Unit := fun s => match op with
  | .Add => match s.env[i]? with
    | some (.val (.int a)) => match deref s r with
      | some (.int b) => .ok () { s with env := s.env.set i (.val (.int (a + b))) }
      | _ => .bad
    | some (.own (.lst xs)) => match deref s r with
      | some (.lst ys) => match r with
        | .pk _ => .bad
        | _ => if xs.length + ys.length ≤ LIM then .ok () { s with env := s.env.set i (.own (.lst (xs ++ ys))) } else .bad
      | _ => .bad
    | _ => .bad
  | _ => .bad
def raiseM (x : Str) : M Fl := fun s => .exc ⟨x, []⟩ s
def WF : Nat := 10000000000000000000000000000000000000000000000000000000000000000
def blockM (f : Stmt → M Fl) : List Stmt → M Fl
  | [] => ret .nx
  | [s] => f s
  | s :: r => thenM (f s) (blockM f r)
def nameOf (C : CC) (sc : Scope) (x : Str) : Option Nat := if isLoc sc x then C.N.idxOf? x else none
def raiseOf (ex cause : Option Expr) : Option Str := match ex, cause with
  | some (.Call (.Name x _) [.Constant (.str _) _ _] [] _), none => some x
  | _, _ => none
/-! what a clause of a try hands back: nm the clause's name, x the class that is caught -/
def flatC : Const → Option PV
  | .none => some .non
  | .bool b => some (.bl b)
  | .int i => some (.int i)
  | .str x => some (.str x)
  | _ => none
def isiOk (C : CC) (sc : Scope) (nm : Option Str) (f e y : Str) : Bool := decide (f = ("isinstance" : Str)) && decide (nm = some e) && isGl sc f && isGl sc y && (C.glob.lookup f).isNone && decide (sc.names.lookup e = some .local) && (C.N.idxOf? e).isSome
def hE (C : CC) (sc : Scope) (nm : Option Str) (x : Str) : Nat → Expr → Option PV
  | 0, _ => none
  | n + 1, e => match e with
    | .Constant c _ _ => flatC c
    | .Call (.Name f _) [.Name e _, .Name y _] [] _ => if isiOk C sc nm f e y then (C.subs.lookup (x, y)).map .bl else none
    | .IfExp t a b _ => match t with
      | .Call .. => match hE C sc nm x n t with
        | some (.bl true) => hE C sc nm x n a
        | some (.bl false) => hE C sc nm x n b
        | _ => none
      | _ => none
    | _ => none
def oneCl : ExceptHandler → Option (Str × Option Str × Expr)
  | .ExceptHandler (some (.Name y _)) nm [.Return (some e) _] _ => some (y, nm, e)
  | _ => none
/-- none: not covered; some none: no clause takes it -/
def clauseV (C : CC) (sc : Scope) (x : Str) : List ExceptHandler → Option (Option PV)
  | [] => some none
  | h :: r => match oneCl h with
    | some (y, nm, e) => match C.subs.lookup (x, y) with
      | some true => (hE C sc nm x 12 e).map some
      | some false => clauseV C sc x r
      | none => none
    | none => none
def lenOk (s : ES) : Option Nat → Bool
  | some i => decide (i < s.env.length)
  | none => true
/-- m, and where it raises, what the table says of the class (none: not covered; some none: it goes on) -/
def tryG (n : Option Nat) (m : M Fl) (tab : List (Str × Option (Option PV))) : M Fl := fun s => match m s with
  | .exc x s' => match x.args with
    | [] => if lenOk s' n then match (tab.lookup x.cls).getD none with
      | some (some v) => .ok (.rt (.val v)) s'
      | some none => .exc x s'
      | none => .bad else .bad
    | _ => .bad
  | o => o
def asIx (C : CC) : List ExceptHandler → Option Nat
  | h :: _ => match oneCl h with
    | some (_, some n, _) => C.N.idxOf? n
    | _ => none
  | [] => none
def tryM (C : CC) (sc : Scope) (m : M Fl) (hs : List ExceptHandler) : M Fl := tryG (asIx C hs) m (C.excs.map fun x => (x, clauseV C sc x hs))
def known (C : CC) (sc : Scope) (y : Str) : Bool := isGl sc y && match C.excs with
  | x :: _ => (C.subs.lookup (x, y)).isSome
  | [] => false
def clOk (C : CC) (sc : Scope) (h : ExceptHandler) : Bool := match oneCl h with
  | some (y, none, _) => known C sc y
  | _ => false
def clAs (C : CC) (sc : Scope) (h : ExceptHandler) : Bool := match oneCl h with
  | some (y, some n, _) => known C sc y && decide (sc.names.lookup n = some .local) && (C.N.idxOf? n).isSome
  | _ => false
def clsOk (C : CC) (sc : Scope) : List ExceptHandler → Bool
  | [] => false
  | h :: hs => (hs.isEmpty && clAs C sc h) || (h :: hs).all (clOk C sc)
/-- how a statement is done: E, T for expressions and tests, rs for blocks within -/
def stepS (C : CC) (E : Expr → M RE) (T : Expr → M Bool) (sc : Scope) (rs : List Stmt → M Fl) : Stmt → M Fl
  | .Expr e _ => if isComp e then bad else bnd (E e) fun _ => ret .nx
  | .Return v _ => match v with
    | some e => bnd (E e) retM
    | none => ret (.rt (.val .non))
  | .If c a b _ => bnd (T c) fun k => if k then rs a else rs b
  | .While c body els _ => match els with
    | [] => whileM WF (T c) (rs body)
    | _ => bad
  | .For tg it body els _ => match els with
    | [] => bnd (evIter C E sc tg it) fun xs => forM (asgV C sc tg) (rs body) xs
    | _ => bad
  | .Assign tgs e _ => match tgs with
    | [.Name x _] => match nameOf C sc x with
      | some i => bnd (E e) fun r => bnd (asgR i (C.boxed.contains x) r) fun _ => ret .nx
      | none => bad
    | [.Tuple ts k p] => match e with
      | .Tuple vs _ _ => match tripOf C sc ts vs with
        | some (i, j, l, a, b, c) => bnd (parM3 i j l (E a) (E b) (E c)) fun _ => ret .nx
        | none => match roadOf C sc ts vs with
        | .par i j => match vs with
          | [a, b] => bnd (parM i j false false (E a) (E b)) fun _ => ret .nx
          | _ => bad
        | .plain => bnd (E e) fun r => bnd (share r) fun v => bnd (asgV C sc (.Tuple ts k p) v) fun _ => ret .nx
        | .stuck => bad
      | _ => bnd (E e) fun r => bnd (share r) fun v => bnd (asgV C sc (.Tuple ts k p) v) fun _ => ret .nx
    | [.Subscript (.Name x _) k _] => if isSliceN k || !isVis sc x then bad else match C.N.idxOf? x with
      | some i => bnd (E e) fun r => bnd (share r) fun v => bnd (chkS i) fun _ => bnd (E k) fun rk => bnd (storeM i v rk) fun _ => ret .nx
      | none => bad
    | _ => bad
  | .AugAssign tg op e _ => match tg with
    | .Name x _ => match nameOf C sc x with
      | some i => bnd (chkS i) fun _ => bnd (E e) fun r => bnd (augM op i r) fun _ => ret .nx
      | none => bad
    | _ => bad
  | .Raise ex cause _ => match raiseOf ex cause with
    | some x => if C.excs.contains x && isGl sc x then raiseM x else bad
    | none => bad
  | .Try body hs els fin _ => match els, fin with
    | [], [] => if clsOk C sc hs then tryM C sc (rs body) hs else bad
    | _, _ => bad
  | .Pass _ => ret .nx
  | .Break _ => ret .bk
  | .Continue _ => ret .ct
  | _ => bad
/-- blocks nested m deep, expressions n deep -/
def evB (C : CC) (Φ : Orc) (n : Nat) (sc : Scope) : Nat → List Stmt → M Fl
  | 0 => fun _ => bad
  | m + 1 => blockM (stepS C ((evET C Φ (n + 1)).1 sc) ((evET C Φ (n + 1)).2 sc) sc (evB C Φ n sc m))
structure DefE where
  C : CC
  sc : Scope
  np : Nat
  body : List Stmt
def evFn (D : DefE) (Φ : Orc) : List PV → List Cell → FOut := fun args st =>
  if args.length = D.np then match evB D.C Φ 40 D.sc 20 D.body ⟨args.map .val ++ List.replicate (D.C.N.length - args.length) .none, st⟩ with
    | .ok f s => match f with
      | .nx => .ok (.val .non) s.st
      | .rt (.val v) => .ok (.val v) s.st
      | .rt (.fresh c) => .ok (.fresh c) s.st
      | _ => .bad
    | .exc x s => .exc x s.st
    | .bad => .bad
  else .bad
/-- calls nested k deep -/
def evP (tab : List DefE) : Nat → Orc
  | 0 => fun _ _ _ => .bad
  | k + 1 => fun n args st => match tab[n]? with
    | some D => evFn D (evP tab k) args st
    | none => .bad
end Ev

set_option linter.all false
set_option maxRecDepth 100000
set_option maxHeartbeats 1000000
/-! Ev.D: readings; operands; operators -/
namespace Ev
open PySem PySem.Spec L2
theorem _root_.L2.PE.imp {X : Cx} {e : Expr} {t t' : TE} (h : PE X e t) (i : ∀ σ H Q, t' σ H Q → t σ H Q) : PE X e t' := ⟨fun pins s σ H Q I q => h.run pins s σ H Q I (i σ H Q q)⟩
theorem _root_.L2.PT.imp {X : Cx} {e : Expr} {t t' : TT} (h : PT X e t) (i : ∀ σ H Q, t' σ H Q → t σ H Q) : PT X e t' := ⟨fun pins s σ H Q I q => h.run pins s σ H Q I (i σ H Q q)⟩
theorem _root_.L2.PA.imp {X : Cx} {e : List Expr} {t t' : TA} (h : PA X e t) (i : ∀ σ H Q, t' σ H Q → t σ H Q) : PA X e t' := ⟨fun p pins s σ H Q I q => h.run p pins s σ H Q I (i σ H Q q)⟩
theorem _root_.L2.PI.imp {X : Cx} {tg e : Expr} {t t' : TI} (h : PI X tg e t) (i : ∀ σ H Q, t' σ H Q → t σ H Q) : PI X tg e t' := ⟨fun pins s σ H Q I q => h.run pins s σ H Q I (i σ H Q q)⟩
section
variable {G : Env1} {xr : XR} {P : Hp} {W : WX} {ρ ρ1 : Rho} {s : ES} {σ : St} {H H1 : Hp}
variable {α β γ δ : Type} {R : Rho → St → Hp → α → β → Prop} {R' : Rho → St → Hp → γ → δ → Prop}
theorem rdAt.shift (e : Ext ρ H ρ1 H1) {m : Out γ} {Q : δ → Hp → Prop} (h : rdAt G xr P R' W ρ m σ H Q) : rdAt G xr P R' W ρ1 m σ H1 Q := by
  cases m with
  | ok r s' => exact fun ρ' H' b r1 e1 rr => h ρ' H' b r1 (e.trans e1) rr
  | exc x s' => exact fun ρ' H' cls d r1 e1 rr => h ρ' H' cls d r1 (e.trans e1) rr
  | bad => exact h
theorem rd_mono {m : M α} {Q Q' : β → Hp → Prop} (h : rd G xr P R W m σ H Q) (q : ∀ b H, Q b H → Q' b H) : rd G xr P R W m σ H Q' := by
  obtain ⟨ρ, s, r, h⟩ := h
  refine ⟨ρ, s, r, ?_⟩
  generalize m s = o at h ⊢
  cases o with
  | ok r s' => exact fun ρ' H' b r1 e1 rr => q _ _ (h ρ' H' b r1 e1 rr)
  | exc x s' => exact h
  | bad => exact h
/-- first m, then f of what it yields -/
theorem seq {m : M α} {f : α → M γ} {Q : δ → Hp → Prop} (R0 : Rel G.K G.fa P ρ s σ H) (h : rdAt G xr P R' W ρ (bnd m f s) σ H Q) :
    rd G xr P R W m σ H (fun b H1 => ∃ r ρ1 s1, Rel G.K G.fa P ρ1 s1 σ H1 ∧ Ext ρ H ρ1 H1 ∧ R ρ1 σ H1 r b ∧ rdAt G xr P R' W ρ1 (f r s1) σ H1 Q) := by
  refine ⟨ρ, s, R0, ?_⟩
  unfold bnd at h
  generalize m s = o at h ⊢
  cases o with
  | ok r s' => exact fun ρ' H' b r1 e1 rr => ⟨r, ρ', s', r1, e1, rr, h.shift e1⟩
  | exc x s' => exact h
  | bad => exact h
/-- the same where m is no reading of its own -/
theorem seq0 {m : M α} {f : α → M γ} {Q : δ → Hp → Prop} (h : rdAt G xr P R' W ρ (bnd m f s) σ H Q) :
    (∃ r s', m s = .ok r s' ∧ rdAt G xr P R' W ρ (f r s') σ H Q) ∨ ∃ x s', m s = .exc x s' := by
  unfold bnd at h
  generalize m s = o at h ⊢
  cases o with
  | ok r s' => exact .inl ⟨r, s', rfl, h⟩
  | exc x s' => exact .inr ⟨x, s', rfl⟩
  | bad => exact h.elim
theorem rdRet {r : α} {b : β} {Q : β → Hp → Prop} (R0 : Rel G.K G.fa P ρ s σ H) (h : rdAt G xr P R W ρ (.ok r s) σ H Q) (hr : R ρ σ H r b) : Q b H := h ρ H b R0 Ext.refl hr
end

/-! ### operands -/
section
variable {K : PySem.W.Frag} {fa : Nat → Addr} {P : Hp} {ρ ρ' : Rho} {s : ES} {σ : St} {H H' : Hp}
/-- what is seen of an operand -/
def Pk (K : PySem.W.Frag) (fa : Nat → Addr) (ρ : Rho) (H : Hp) (v : PV) (x : V) : Prop :=
  RV K fa ρ (cut H ρ) v x ∨ ∃ c a, v = c.val ∧ x = V.ref a ∧ (∃ nm, ρ nm = some a) ∧ CellR K fa ρ (cut H ρ) c (H a)
theorem deref_norm {s : ES} {r : RE} : deref s r.norm = deref s r := by cases r <;> rfl
theorem Rel.peek (R : Rel K fa P ρ s σ H) {r : RE} {x : V} {v : PV} (h : RER K fa ρ σ H r.norm x) (hd : deref s r = some v) : Pk K fa ρ H v x := by
  cases r with
  | val u => cases hd; exact .inl h
  | fresh c => cases hd; exact .inl h
  | pk i =>
    have q := R.slot i
    have h : σ[i]? = some (some x) := h
    have hd : (match s.env[i]? with | some (.own c) => some c.val | some (.val v) => some v | _ => none) = some v := hd
    generalize s.env[i]? = o at q hd
    cases o with
    | none => cases hd
    | some sl =>
      cases sl with
      | none => cases hd
      | val u =>
        cases hd
        obtain ⟨_, V, h2, h3⟩ := q
        rw [h] at h2; cases h2
        exact .inl h3
      | own c =>
        cases hd
        obtain ⟨a, h1, h2, h3⟩ := q
        rw [h] at h2; cases h2
        exact .inr ⟨c, a, rfl, rfl, ⟨_, h1⟩, h3⟩
theorem Pk.int {i : Int} {x : V} (h : Pk K fa ρ H (.int i) x) : x = .int i := by
  rcases h with h | ⟨c, a, e, _⟩
  · cases h; rfl
  · cases c; cases e
theorem Pk.bl {i : Bool} {x : V} (h : Pk K fa ρ H (.bl i) x) : x = .bl i := by
  rcases h with h | ⟨c, a, e, _⟩
  · cases h; rfl
  · cases c; cases e
theorem Pk.str {i : Str} {x : V} (h : Pk K fa ρ H (.str i) x) : x = .str i := by
  rcases h with h | ⟨c, a, e, _⟩
  · cases h; rfl
  · cases c; cases e
theorem Pk.non {x : V} (h : Pk K fa ρ H .non x) : x = .non := by
  rcases h with h | ⟨c, a, e, _⟩
  · cases h; rfl
  · cases c; cases e
theorem cutLe : Le (cut H ρ) H := fun _ _ h => cut_le h
theorem Pk.tup {xs : List PV} {x : V} (h : Pk K fa ρ H (.tup xs) x) : ∃ a vs, x = .ref a ∧ SqT K H a vs ∧ RVs K fa ρ (cut H ρ) xs vs := by
  rcases h with h | ⟨c, a, e, _⟩
  · cases h with
    | tup h1 h2 => exact ⟨_, _, rfl, SqT.le cutLe h1, h2⟩
  · cases c; cases e
theorem Pk.rvT {xs : List PV} {x : V} (h : Pk K fa ρ H (.tup xs) x) : RV K fa ρ (cut H ρ) (.tup xs) x := by
  rcases h with h | ⟨c, a, e, _⟩
  · exact h
  · cases c; cases e
theorem Pk.lst {xs : List PV} {x : V} (h : Pk K fa ρ H (.lst xs) x) : ∃ a vs, x = .ref a ∧ H a = some (.lst vs) ∧ RVs K fa ρ (cut H ρ) xs vs := by
  rcases h with h | ⟨c, a, e, h1, _, h2⟩
  · cases h with
    | lst h1 h2 => exact ⟨_, _, rfl, cut_le h1, h2⟩
  · cases c with
    | lst ys =>
      cases e
      obtain ⟨vs, h3, h4⟩ := h2
      exact ⟨a, vs, h1, h3, h4⟩
theorem Pk.scr {ns : List Int} {x : V} (h : Pk K fa ρ H (.scr ns) x) : ∃ a, x = .ref a ∧ SqL K H a (ns.map V.int) := by
  rcases h with h | ⟨c, a, e, _⟩
  · cases h with
    | scr h1 => exact ⟨_, rfl, SqL.le cutLe h1⟩
  · cases c; cases e
mutual
theorem RV.dp : ∀ {v : PV} {x : V} {d : PyData}, RV K fa ρ (cut H ρ) v x → toPy v = some d → Dp K H x d
  | _, _, _, .non, e => by simp only [toPy, Option.some.injEq] at e; subst e; exact .non
  | _, _, _, .bl b, e => by simp only [toPy, Option.some.injEq] at e; subst e; exact .bl b
  | _, _, _, .int b, e => by simp only [toPy, Option.some.injEq] at e; subst e; exact .int b
  | _, _, _, .str b, e => by simp only [toPy, Option.some.injEq] at e; subst e; exact .str b
  | _, _, _, .tup (xs := xs) h1 h2, e => by
    simp only [toPy, Option.map_eq_some_iff] at e
    obtain ⟨ds, e1, rfl⟩ := e
    exact .tup (SqT.le cutLe h1) (RVs.dp h2 e1)
  | _, _, _, .lst (xs := xs) h1 h2, e => by
    simp only [toPy, Option.map_eq_some_iff] at e
    obtain ⟨ds, e1, rfl⟩ := e
    exact .lst (SqL.of (cut_le h1)) (RVs.dp h2 e1)
  | _, _, _, .scr h, e => by simp [toPy] at e
  | _, _, _, .box h, e => by simp [toPy] at e
  | _, _, _, .fn n, e => by simp [toPy] at e
theorem RVs.dp : ∀ {vs : List PV} {xs : List V} {ds : List PyData}, RVs K fa ρ (cut H ρ) vs xs → toPys vs = some ds → DpAll K H xs ds
  | _, _, _, .nil, e => by simp only [toPys, Option.some.injEq] at e; subst e; exact .nil
  | _, _, _, .cons (x := x) (xs := xs) h t, e => by
    simp only [toPys] at e
    split at e
    · cases e
    · rename_i d hd
      simp only [Option.map_eq_some_iff] at e
      obtain ⟨ds, e1, rfl⟩ := e
      exact .cons (RV.dp h hd) (RVs.dp t e1)
end
theorem Pk.dp {v : PV} {x : V} {d : PyData} (h : Pk K fa ρ H v x) (e : toPy v = some d) : Dp K H x d := by
  rcases h with h | ⟨c, a, e1, e2, _, h2⟩
  · exact h.dp e
  · cases c with
    | lst ys =>
      subst e1; subst e2
      obtain ⟨vs, h3, h4⟩ := h2
      simp only [Cell.val, toPy, Option.map_eq_some_iff] at e
      obtain ⟨ds, e1, rfl⟩ := e
      exact .lst (SqL.of h3) (h4.dp e1)
theorem sizeLIM : sizeLine = LIM := sizeLine_eq
end

/-! ### operators -/
section
variable {X : Cx} {G : Env1} {xr : XR} {P : Hp} {W : WX} {ρ : Rho} {s : ES} {σ : St} {H : Hp}
/-- a flat value is told -/
theorem fin (R0 : Rel G.K G.fa P ρ s σ H) {v : PV} {x : V} {Q : VK} (h : rdAt G xr P (RER G.K G.fa) W ρ (.ok (.val v) s) σ H Q) (r : RV G.K G.fa ρ (cut H ρ) v x) : Q x H := h ρ H x R0 Ext.refl r
/-- a new list is told -/
theorem finL (R0 : Rel G.K G.fa P ρ s σ H) {xs : List PV} {vs : List V} {Q : VK} (h : rdAt G xr P (RER G.K G.fa) W ρ (.ok (.fresh (.lst xs)) s) σ H Q) (r : RVs G.K G.fa ρ (cut H ρ) xs vs) {p : Addr} (hp : H p = none) : Q (.ref p) (upd H p (.lst vs)) := by
  obtain ⟨R1, E1⟩ := R0.newTmp (o := .lst vs) hp trivial
  exact h _ _ _ R1 E1 ⟨p, rfl, setN_same, vs, upd_same, r.mono E1.le E1.box⟩
/-- a new tuple is told -/
theorem finT (R0 : Rel G.K G.fa P ρ s σ H) {xs : List PV} {vs : List V} {Q : VK} (h : rdAt G xr P (RER G.K G.fa) W ρ (.ok (.val (.tup xs)) s) σ H Q) (r : RVs G.K G.fa ρ (cut H ρ) xs vs) {p : Addr} (hp : H p = none) : Q (.ref p) (upd H p (.tup vs)) := by
  obtain ⟨R1, E1⟩ := R0.laid (o := .tup vs) hp
  exact h _ _ _ R1 E1 (.tup (SqT.of (R0.cutNew hp)) (r.mono E1.le E1.box))
end
end Ev

set_option linter.all false
set_option maxRecDepth 100000
set_option maxHeartbeats 1000000
/-! Ev.TM: a tuple taken once, or not at all -/
namespace Ev
open PySem PySem.Spec L2 PyProof.Rows
theorem mul_once (p : Addr) (its : Array Value) (m : Nat) (od : Option Addr) (sv : Array (Option Value)) (u : Tok) :
    Meets (Builtin.«tuple.__mul__» ⟨[.ref p, .int 1 u], []⟩) (fun _ R s => s.heap.get? p = some { cls := .type "tuple", dict := od, data := .seq its m, slots := sv } ∧ R (.ok (.ret (.ref p))) s) :=
  .of_wp fun prog w A R s h => by
    obtain ⟨hp, g, d, tk, os⟩ := s
    obtain ⟨hq, h⟩ := h
    have f1 := AutoSeq1.idx_int
    have c1 : (its.isEmpty || (1 : Int) == 1) = true := by
      rw [Bool.or_eq_true]
      exact .inr rfl
    wp_walk using wpAny_loadPart' hq
    exact ⟨_, rfl, h⟩
theorem mul_none (p : Addr) (its : Array Value) (m : Nat) (od : Option Addr) (sv : Array (Option Value)) (x : Int) (u : Tok) (b0 : (decide (x < -(2 ^ 63)) || decide (x ≥ 2 ^ 63)) = false) (b1 : (its.isEmpty || x == 1) = false) (b2 : (decide (x ≤ 0) || its.isEmpty) = true) :
    Meets (Builtin.«tuple.__mul__» ⟨[.ref p, .int x u], []⟩) (fun _ R s => s.heap.get? p = some { cls := .type "tuple", dict := od, data := .seq its m, slots := sv } ∧
      R (.ok (.ret (Value.ref s.heap.objs.size))) { s with heap := s.heap.push { cls := Value.type "tuple", data := Data.seq #[] }, toks := s.toks }) :=
  .of_wp fun prog w A R s h => by
    obtain ⟨hp, g, d, tk, os⟩ := s
    obtain ⟨hq, h⟩ := h
    have f1 := AutoSeq1.idx_int
    wp_walk using wpAny_loadPart' hq
    repeat (first
      | (refine wpAny_ite_false (decide_eq_false (by rw [b0]; decide)) ?_; wp_walk using wpAny_loadPart' hq)
      | (refine wpAny_ite_false (decide_eq_false (by rw [b1]; decide)) ?_; wp_walk using wpAny_loadPart' hq)
      | (refine wpAny_ite_true (decide_eq_true (by rw [b2])) ?_; wp_walk using wpAny_loadPart' hq))
    exact ⟨_, rfl, h⟩
def rFew (K : PySem.W.Frag) : R2 := fun x y H Q => ∃ l k xs, x = .ref l ∧ y = .int k ∧ SqT K H l xs ∧ xs ≠ [] ∧ ((k = 1 ∧ Q (.ref l) H) ∨ (-(2 ^ 63) ≤ k ∧ k ≤ 0 ∧ ∀ p, H p = none → Q (.ref p) (upd H p (.tup []))))
theorem op_few {X : Cx} : OpR X (binaryOp .Mult) (rFew X.K) := by
  intro pins s σ H x y v u Q I rx ry h
  obtain ⟨l, k, xs, rfl, rfl, hT, hne, hk⟩ := h
  cases rx
  obtain ⟨t, rfl⟩ := ry
  obtain ⟨its, r, ⟨⟨cls, dd, data, sl⟩, ho, hc, n, hd⟩, hs⟩ := I.tuple hT
  simp only at hc hd
  subst hc hd
  have hi : its.toArray.isEmpty = false := by
    have hle := r.length
    cases its with
    | nil => exact absurd (List.eq_nil_of_length_eq_zero (by rw [hle]; rfl)) hne
    | cons a b => rfl
  rcases hk with ⟨rfl, q⟩ | ⟨k0, k1, q⟩
  · refine wpAny_binaryOp_repeat_ref (T := "tuple") (U := "int") (by decide) ⟨_, ho, rfl⟩ (fun s' => typeIs_int s' 1 t) noFill_tuple_mul F.fills_int_mul F.slot_int_rmul repeat_tuple F.slot_int_index.lookup
      (call_meets F.slot_int_rmul (typeIs_int s 1 t) F.entry_int_rmul (F.args_int_rmul_2 _ _) (int_rmul_tuple 1 t l its.toArray n dd sl)
        ⟨ho, rfl, ⟨_, ho, rfl⟩, call_meets F.slot_tuple_mul ⟨_, ho, rfl⟩ F.entry_tuple_mul (F.args_tuple_mul_2 _ _) (mul_once l its.toArray n dd sl t) ⟨ho, ?_⟩⟩)
    exact ⟨.ref l, _, I, rfl, q⟩
  · refine wpAny_binaryOp_repeat_ref (T := "tuple") (U := "int") (by decide) ⟨_, ho, rfl⟩ (fun s' => typeIs_int s' k t) noFill_tuple_mul F.fills_int_mul F.slot_int_rmul repeat_tuple F.slot_int_index.lookup
      (call_meets F.slot_int_rmul (typeIs_int s k t) F.entry_int_rmul (F.args_int_rmul_2 _ _) (int_rmul_tuple k t l its.toArray n dd sl)
        ⟨ho, rfl, ⟨_, ho, rfl⟩, call_meets F.slot_tuple_mul ⟨_, ho, rfl⟩ F.entry_tuple_mul (F.args_tuple_mul_2 _ _) (mul_none l its.toArray n dd sl k t ?_ ?_ ?_) ⟨ho, ?_⟩⟩)
    · rw [decide_eq_false (by omega), decide_eq_false (by omega)]; rfl
    · rw [hi, Bool.false_or]; exact beq_eq_false_iff_ne.mpr (by omega)
    · rw [hi, Bool.or_false]; exact decide_eq_true k1
    · refine ⟨.ref s.heap.objs.size, _, I.laid (t' := s.toks) (o := .tup []) (fun b ob q => Heap.get?_push_of_some _ q) (Nat.le_refl _) ?_, rfl, q _ (I.hok.fresh (Nat.le_refl _))⟩
      exact ⟨Nat.zero_le _, [], .nil, IsTup.new _ _⟩
end Ev

set_option linter.all false
set_option maxRecDepth 100000
set_option maxHeartbeats 1000000
/-! Ev.E: operators keep what the evaluator says -/
namespace Ev
open PySem PySem.Spec L2
def rU (X : Cx) (f : Value → Value → Sem Value) : R2 := fun x y H Q => ∀ (pins : List (Addr × Obj)) (s : Shared) (σ : St) (v u : Value), Inv X pins σ H s → RelV x v → RelV y u → wpAny (model X.prog X.w) X.A (f v u) (EP X pins σ Q) X.xe s
theorem op_U {X : Cx} {f : Value → Value → Sem Value} : OpR X f (rU X f) := fun pins s σ H x y v u Q I rx ry h => h pins s σ v u I rx ry
theorem rU.of {X : Cx} {f : Value → Value → Sem Value} {r : R2} (h : OpR X f r) {x y : V} {H : Hp} {Q : VK} (q : r x y H Q) : rU X f x y H Q := fun pins s σ v u I rx ry => h pins s σ H x y v u Q I rx ry q
section
variable {X : Cx} {G : Env1} {xr : XR} {P : Hp} {W : WX} {ρ : Rho} {s : ES} {σ : St} {H : Hp}
theorem lift2_ok {f : PV → PV → Option RE} {r r' : RE} {β : Type} {R : Rho → St → Hp → RE → β → Prop} {Q : β → Hp → Prop} (h : rdAt G xr P R W ρ (lift2 f r r' s) σ H Q) :
    ∃ u v x, deref s r = some u ∧ deref s r' = some v ∧ f u v = some x ∧ rdAt G xr P R W ρ (.ok x s) σ H Q := by
  unfold lift2 at h
  split at h
  · rename_i u hu
    split at h
    · rename_i v hv
      split at h
      · rename_i x hx
        exact ⟨u, v, x, hu, hv, hx, h⟩
      · exact h.elim
    · exact h.elim
  · exact h.elim
theorem lift1_ok {f : PV → Option RE} {r : RE} {β : Type} {R : Rho → St → Hp → RE → β → Prop} {Q : β → Hp → Prop} (h : rdAt G xr P R W ρ (lift1 f r s) σ H Q) :
    ∃ u x, deref s r = some u ∧ f u = some x ∧ rdAt G xr P R W ρ (.ok x s) σ H Q := by
  unfold lift1 at h
  split at h
  · rename_i u hu
    split at h
    · rename_i x hx
      exact ⟨u, x, hu, hx, h⟩
    · exact h.elim
  · exact h.elim
theorem mulOk_iff {i j : Int} (h : mulOk i j = true) : CMul i j ∨ CMulW i j := by
  simp only [mulOk, Bool.or_eq_true, Bool.and_eq_true, decide_eq_true_eq] at h
  rcases h with (h | h) | h
  · exact .inl (.inl h)
  · exact .inl (.inr h)
  · exact .inr h
theorem bin_ok (R0 : Rel G.K G.fa P ρ s σ H) {op : Operator} {u v : PV} {x y : V} {r : RE} {Q : VK} (hu : Pk G.K G.fa ρ H u x) (hv : Pk G.K G.fa ρ H v y) (hf : binV op u v = some r) (hK : X.K = G.K)
    (h : rdAt G xr P (RER G.K G.fa) W ρ (.ok r s) σ H Q) : rU X (binaryOp op) x y H Q := by
  cases op <;> simp only [binV] at hf <;> try (cases hf; done)
  case Add =>
    split at hf
    · cases hf; cases hu.int; cases hv.int
      exact .of op_add ⟨_, _, rfl, rfl, fin R0 h (.int _)⟩
    · split at hf
      · rename_i hl
        cases hf; cases hu.str; cases hv.str
        exact .of op_add_str ⟨_, _, rfl, rfl, by rw [sizeLIM]; exact hl, fin R0 h (.str _)⟩
      · cases hf
    · split at hf
      · rename_i hl
        cases hf
        obtain ⟨a, vs, rfl, ha, ra⟩ := hu.tup
        obtain ⟨b, ws, rfl, hb, rb⟩ := hv.tup
        refine .of op_catA ⟨a, b, vs, ws, rfl, rfl, by rw [hK]; exact ha, by rw [hK]; exact hb, by rw [sizeLIM, ← ra.length, ← rb.length]; exact hl, ?_⟩
        refine ⟨fun e => ?_, fun e1 e2 => ?_, fun e1 e2 p hp => finT R0 h (ra.append rb) hp⟩
        · subst e
          cases ra
          exact fin R0 h hv.rvT
        · subst e2
          cases rb
          rw [List.append_nil] at h
          exact fin R0 h hu.rvT
      · cases hf
    · split at hf
      · rename_i hl
        cases hf
        obtain ⟨a, vs, rfl, ha, ra⟩ := hu.lst
        obtain ⟨b, ws, rfl, hb, rb⟩ := hv.lst
        exact .of op_cat ⟨a, b, vs, ws, rfl, rfl, ha, hb, by rw [sizeLIM, ← ra.length, ← rb.length]; exact hl, fun p hp => finL R0 h (ra.append rb) hp⟩
      · cases hf
    · cases hf
  case Sub =>
    split at hf
    · cases hf; cases hu.int; cases hv.int
      exact .of op_sub ⟨_, _, rfl, rfl, fin R0 h (.int _)⟩
    · cases hf
  case Mult =>
    split at hf
    · split at hf
      · rename_i hm
        cases hf; cases hu.int; cases hv.int
        rcases mulOk_iff hm with c | c
        · exact .of op_mul ⟨_, _, rfl, rfl, c, fin R0 h (.int _)⟩
        · exact .of op_mulW ⟨_, _, rfl, rfl, c, fin R0 h (.int _)⟩
      · cases hf
    · split at hf
      · rename_i hm
        cases hf
        obtain ⟨a, vs, rfl, ha, ra⟩ := hu.lst
        cases hv.int
        simp only [repOk, Bool.and_eq_true, decide_eq_true_eq] at hm
        refine .of op_rep ⟨a, _, vs, rfl, rfl, ha, hm.1.1, hm.1.2, by rw [sizeLIM, ← ra.length]; exact hm.2, fun p hp => ?_⟩
        exact finL R0 h (ra.rep _) hp
      · cases hf
    · split at hf
      · rename_i hm
        cases hf
        obtain ⟨a, vs, rfl, ha, ra⟩ := hu.tup
        cases hv.int
        simp only [repTOk, Bool.and_eq_true, decide_eq_true_eq] at hm
        have hne : vs ≠ [] := fun z => by
          have e := ra.length
          rw [z] at e
          simp only [List.length_nil] at e
          omega
        by_cases h2 : 2 ≤ (‹Int› : Int)
        · exact .of op_repT ⟨a, _, vs, rfl, rfl, by rw [hK]; exact ha, hne, h2, hm.1.2, by rw [← ra.length]; exact hm.2, fun p hp => finT R0 h (ra.rep _) hp⟩
        · refine .of op_few ⟨a, _, vs, rfl, rfl, by rw [hK]; exact ha, hne, ?_⟩
          rename_i xs k
          by_cases h3 : k = 1
          · subst h3
            have e : (List.replicate (1 : Int).toNat xs).flatten = xs := by
              show (List.replicate 1 xs).flatten = xs
              simp
            rw [e] at h
            exact .inl ⟨rfl, fin R0 h hu.rvT⟩
          · have e : (List.replicate k.toNat xs).flatten = [] := by
              rw [show k.toNat = 0 by omega]; rfl
            rw [e] at h
            exact .inr ⟨hm.1.1.2, by omega, fun p hp => finT R0 h .nil hp⟩
      · cases hf
    · cases hf
  case FloorDiv =>
    split at hf
    · split at hf
      · rename_i hm
        cases hf; cases hu.int; cases hv.int
        simp only [divOk, Bool.or_eq_true, Bool.and_eq_true, decide_eq_true_eq] at hm
        rcases hm.2 with c | c
        · exact .of op_fdivN ⟨_, _, rfl, rfl, ⟨hm.1, c⟩, fin R0 h (.int _)⟩
        · refine .of op_fdivW ⟨_, _, rfl, rfl, c, ?_⟩
          show Q (.int (_ / _)) H
          rw [← Int.fdiv_eq_ediv_of_nonneg _ (Int.le_of_lt c.1)]
          exact fin R0 h (.int _)
      · cases hf
    · cases hf
  case Mod =>
    split at hf
    · split at hf
      · cases hf
      · rename_i hm
        cases hf; cases hu.int; cases hv.int
        exact .of op_modN ⟨_, _, rfl, rfl, hm, fin R0 h (.int _)⟩
    · cases hf
  case Pow =>
    split at hf
    · split at hf
      · rename_i hm
        cases hf; cases hu.int; cases hv.int
        simp only [powOk, Bool.and_eq_true, decide_eq_true_eq] at hm
        exact .of op_pow ⟨_, _, rfl, rfl, ⟨hm.1.1, hm.1.2, hm.2⟩, fin R0 h (.int _)⟩
      · cases hf
    · cases hf
  case LShift =>
    split at hf
    · split at hf
      · rename_i hm
        cases hf; cases hu.int; cases hv.int
        simp only [shlOk, Bool.and_eq_true, decide_eq_true_eq] at hm
        exact .of op_shlW ⟨_, _, rfl, rfl, hm, fin R0 h (.int _)⟩
      · cases hf
    · cases hf
/-! ### comparisons -/
theorem scal_int (i j : Int) : scal (.int i) (.int j) = true := rfl
theorem dec_V {i j : Int} : decide (V.int i = V.int j) = decide (i = j) := by
  by_cases h : i = j
  · subst h; simp
  · simp [h]
theorem dec_Vb {i j : Bool} : decide (V.bl i = V.bl j) = decide (i = j) := by
  by_cases h : i = j
  · subst h; simp
  · simp [h]
theorem dec_Vs {i j : Str} : decide (V.str i = V.str j) = decide (i = j) := by
  by_cases h : i = j
  · subst h; simp
  · simp [h]
theorem eqPV_cases {u v : PV} {b : Bool} (h : eqPV u v = some b) :
    (∃ i j, u = .int i ∧ v = .int j ∧ b = decide (i = j)) ∨ (∃ i j, u = .bl i ∧ v = .bl j ∧ b = decide (i = j)) ∨ (∃ i j, u = .str i ∧ v = .str j ∧ b = decide (i = j)) ∨ (u = .non ∧ v = .non ∧ b = true) ∨
      ∃ d e, toPy u = some d ∧ toPy v = some e ∧ SeqAt.shaped d = true ∧ SeqAt.shaped e = true ∧ b = PyData.eqv d e := by
  unfold eqPV at h
  split at h
  · cases h; exact .inl ⟨_, _, rfl, rfl, rfl⟩
  · cases h; exact .inr (.inl ⟨_, _, rfl, rfl, rfl⟩)
  · cases h; exact .inr (.inr (.inl ⟨_, _, rfl, rfl, rfl⟩))
  · cases h; exact .inr (.inr (.inr (.inl ⟨rfl, rfl, rfl⟩)))
  · split at h
    · rename_i d e hd he
      split at h
      · rename_i hs
        cases h
        simp only [Bool.and_eq_true] at hs
        exact .inr (.inr (.inr (.inr ⟨d, e, hd, he, hs.1, hs.2, rfl⟩)))
      · cases h
    · cases h
theorem flat_of {u : PV} {x : V} {ρ : Rho} {T : Hp} (h : RV G.K G.fa ρ T u x) (f : flatP u = true) : flatV x = true := by
  cases h <;> first | rfl | cases f
theorem eqF_of {u v : PV} {x y : V} {ρ : Rho} {T : Hp} (h : RV G.K G.fa ρ T u x) (f : flatP u = true) (h' : RV G.K G.fa ρ T v y) (f' : flatP v = true) : eqV x y = eqF u v := by
  cases h <;> cases h' <;> first | rfl | cases f | cases f'
theorem flats_of {ρ : Rho} {T : Hp} : ∀ {us : List PV} {xs : List V}, RVs G.K G.fa ρ T us xs → us.all flatP = true → xs.all flatV = true
  | _, _, .nil, _ => rfl
  | _, _, .cons h t, f => by
    simp only [List.all_cons, Bool.and_eq_true] at f ⊢
    exact ⟨flat_of h f.1, flats_of t f.2⟩
theorem any_of {ρ : Rho} {T : Hp} {u : PV} {x : V} (hu : RV G.K G.fa ρ T u x) (fu : flatP u = true) : ∀ {us : List PV} {xs : List V}, RVs G.K G.fa ρ T us xs → us.all flatP = true → (xs.any fun y => eqV y x) = us.any fun y => eqF y u
  | _, _, .nil, _ => rfl
  | _, _, .cons h t, f => by
    simp only [List.all_cons, Bool.and_eq_true] at f
    simp only [List.any_cons]
    rw [eqF_of h f.1 hu fu, any_of hu fu t f.2]
theorem Pk.flat {u : PV} {x : V} (h : Pk G.K G.fa ρ H u x) (f : flatP u = true) : RV G.K G.fa ρ (cut H ρ) u x := by
  rcases h with h | ⟨c, a, e, _⟩
  · exact h
  · cases c; subst e; cases f
theorem in_ok {neg : Bool} {u v : PV} {x y : V} {xs : List PV} {b : Bool} {Q : VK} (hu : Pk G.K G.fa ρ H u x) (hv : Pk G.K G.fa ρ H v y) (hx : v = .tup xs ∨ v = .lst xs) (hf : inV u xs = some b) (hK : X.K = G.K)
    (q : Q (.bl (if neg then !b else b)) H) : rIn X.K neg x y H Q := by
  unfold inV at hf
  split at hf
  · rename_i hc
    simp only [Bool.and_eq_true] at hc
    cases hf
    have fx := hu.flat hc.1
    rcases hx with e | e
    · subst e
      obtain ⟨a, vs, rfl, ha, ra⟩ := hv.tup
      refine ⟨a, vs, rfl, .inr (by rw [hK]; exact ha), flat_of fx hc.1, flats_of ra hc.2, ?_⟩
      unfold L2.inV
      rw [any_of fx hc.1 ra hc.2]
      exact q
    · subst e
      obtain ⟨a, vs, rfl, ha, ra⟩ := hv.lst
      refine ⟨a, vs, rfl, .inl (SqL.of ha), flat_of fx hc.1, flats_of ra hc.2, ?_⟩
      unfold L2.inV
      rw [any_of fx hc.1 ra hc.2]
      exact q
  · cases hf
theorem Pk.isNon {u : PV} {x : V} (h : Pk G.K G.fa ρ H u x) (b : Bool) (e : (match u with | .non => true | _ => false) = b) : decide (x = V.non) = b := by
  rcases h with h | ⟨c, a, e1, e2, _⟩
  · cases h <;> subst e <;> rfl
  · cases c; subst e1; subst e2; subst e; rfl
theorem cmp_ok (R0 : Rel G.K G.fa P ρ s σ H) {op : CmpOp} {u v : PV} {x y : V} {b : Bool} {Q : VK} (hu : Pk G.K G.fa ρ H u x) (hv : Pk G.K G.fa ρ H v y) (hf : cmpV op u v = some b) (hK : X.K = G.K) (hun : X.A.units + 64 < cLine)
    (q : Q (.bl b) H) : rU X (compareOp op) x y H Q := by
  cases op <;> simp only [cmpV] at hf
  case Lt => split at hf <;> cases hf; cases hu.int; cases hv.int; exact .of op_lt ⟨_, _, rfl, rfl, q⟩
  case LtE => split at hf <;> cases hf; cases hu.int; cases hv.int; exact .of op_le ⟨_, _, rfl, rfl, q⟩
  case Gt => split at hf <;> cases hf; cases hu.int; cases hv.int; exact .of op_gt ⟨_, _, rfl, rfl, q⟩
  case GtE => split at hf <;> cases hf; cases hu.int; cases hv.int; exact .of op_ge ⟨_, _, rfl, rfl, q⟩
  case Eq =>
    rcases eqPV_cases hf with ⟨i, j, rfl, rfl, rfl⟩ | ⟨i, j, rfl, rfl, rfl⟩ | ⟨i, j, rfl, rfl, rfl⟩ | ⟨rfl, rfl, rfl⟩ | ⟨d, e, hd, he, h1, h2, rfl⟩
    · cases hu.int; cases hv.int; exact .of op_eq ⟨rfl, by rw [dec_V]; exact q⟩
    · cases hu.bl; cases hv.bl; exact .of op_eq ⟨rfl, by rw [dec_Vb]; exact q⟩
    · cases hu.str; cases hv.str; exact .of op_eq ⟨rfl, by rw [dec_Vs]; exact q⟩
    · cases hu.non; cases hv.non; exact .of op_eq ⟨rfl, by simpa using q⟩
    · exact .of (op_eqD hun) ⟨d, e, by rw [hK]; exact hu.dp hd, by rw [hK]; exact hv.dp he, h1, h2, q⟩
  case NotEq =>
    simp only [Option.map_eq_some_iff] at hf
    obtain ⟨b', hf, rfl⟩ := hf
    rcases eqPV_cases hf with ⟨i, j, rfl, rfl, rfl⟩ | ⟨i, j, rfl, rfl, rfl⟩ | ⟨i, j, rfl, rfl, rfl⟩ | ⟨rfl, rfl, rfl⟩ | ⟨d, e, hd, he, h1, h2, rfl⟩
    · cases hu.int; cases hv.int; exact .of op_ne ⟨rfl, by rw [dec_V]; exact q⟩
    · cases hu.bl; cases hv.bl; exact .of op_ne ⟨rfl, by rw [dec_Vb]; exact q⟩
    · cases hu.str; cases hv.str; exact .of op_ne ⟨rfl, by rw [dec_Vs]; exact q⟩
    · cases hu.non; cases hv.non; exact .of op_ne ⟨rfl, by simpa using q⟩
    · exact .of (op_neD hun) ⟨d, e, by rw [hK]; exact hu.dp hd, by rw [hK]; exact hv.dp he, h1, h2, q⟩
  case Is =>
    split at hf <;> cases hf
    · cases hu.bl; cases hv.bl; exact .of op_isBl ⟨_, _, rfl, rfl, q⟩
    all_goals (cases hv.non; refine .of op_isN ⟨rfl, ?_⟩; rw [hu.isNon _ rfl]; exact q)
  case IsNot =>
    split at hf <;> cases hf
    · cases hu.bl; cases hv.bl; exact .of op_notBl ⟨_, _, rfl, rfl, q⟩
    all_goals (cases hv.non; refine .of op_notN ⟨rfl, ?_⟩; rw [hu.isNon _ rfl]; exact q)
  case In =>
    split at hf
    · exact .of op_in_seq (in_ok hu hv (.inl rfl) hf hK q)
    · exact .of op_in_seq (in_ok hu hv (.inr rfl) hf hK q)
    · cases hf
  case NotIn =>
    split at hf
    · simp only [Option.map_eq_some_iff] at hf
      obtain ⟨b', hf, rfl⟩ := hf
      exact .of op_notIn_seq (in_ok (neg := true) hu hv (.inl rfl) hf hK q)
    · simp only [Option.map_eq_some_iff] at hf
      obtain ⟨b', hf, rfl⟩ := hf
      exact .of op_notIn_seq (in_ok (neg := true) hu hv (.inr rfl) hf hK q)
    · cases hf
/-! ### truth -/
theorem tru_pk {u : PV} {x : V} {b : Bool} (hu : Pk G.K G.fa ρ H u x) (hf : truV u = some b) (hK : X.K = G.K) : TruV X.K x H b := by
  unfold truV at hf
  split at hf <;> try cases hf
  · cases hu.non; rfl
  · cases hu.bl; rfl
  · cases hu.int; rfl
  · obtain ⟨a, vs, rfl, ha, ra⟩ := hu.tup
    refine .inr (.inl ⟨vs, by rw [hK]; exact ha, ?_⟩)
    cases ra <;> rfl
  · obtain ⟨a, vs, rfl, ha, ra⟩ := hu.lst
    refine .inl ⟨vs, SqL.of ha, ?_⟩
    cases ra <;> rfl
end
end Ev

set_option linter.all false
set_option maxRecDepth 100000
set_option maxHeartbeats 1000000
/-! Ev.F: subscripts, slices, reversed copies, built-in functions -/
namespace Ev
open PySem PySem.Spec L2
open PyProof.Rows (IsTup)

/-! ### t[::-1] -/
section
variable {prog : Program} {w : World} {A : Around} {E : Value → Shared → Prop} {s : Shared}
theorem places_rev (n : Nat) : Builtin.Slice.slicePlaces ((n : Int) - 1) (-1) (-1) = n := by
  unfold Builtin.Slice.slicePlaces
  have h1 : ¬ ((-1 : Int) > 0) := by decide
  simp only [h1, if_false]
  split
  · rw [show (-(-1) : Int) = 1 by decide, Int.ediv_one]; omega
  · omega
theorem adjust_rev (n : Nat) : Builtin.Slice.sliceAdjust none none (-1) (n : Int) = ((n : Int) - 1, -1) := by
  unfold Builtin.Slice.sliceAdjust
  simp
theorem sliceApplied_rev {sl : Addr} {tk : Tok} {n : Nat} {Q : Int × Int × Nat → Shared → Prop} (hs : s.heap.IsSliceOf sl .none .none (.int (-1) tk))
    (h : Q ((n : Int) - 1, -1, n) s) : wpAny (model prog w) A (Builtin.Slice.sliceApplied (.ref sl) (pure (n : Int))) Q E s := by
  obtain ⟨os, hos, hcs, hds⟩ := id hs
  unfold Builtin.Slice.sliceApplied Builtin.Slice.sliceFields
  refine wpAny_bind (wpAny_bind (wpAny_field hos hds (x := .none) rfl (wpAny_bind (wpAny_field hos hds (x := .none) rfl (wpAny_bind (wpAny_field hos hds (x := .int (-1) tk) rfl (wpAny_pure ?_)))))))
  refine wpAny_bind (HT.slicePart_ (.int _ _) ?_)
  show wpAny _ _ (if ((-1 : Int) == 0) = true then _ else _) _ _ s
  rw [if_neg (by decide)]
  refine wpAny_bind (HT.slicePart_ .none (wpAny_bind (HT.slicePart_ .none (wpAny_bind (wpAny_pure ?_)))))
  show wpAny _ _ (match Builtin.Slice.sliceAdjust none none (-1) (n : Int) with | (lo, hi) => pure (lo, (-1 : Int), Builtin.Slice.slicePlaces lo hi (-1))) _ _ s
  rw [adjust_rev]
  show wpAny _ _ (pure ((n : Int) - 1, (-1 : Int), Builtin.Slice.slicePlaces ((n : Int) - 1) (-1) (-1))) _ _ s
  rw [places_rev]
  exact wpAny_pure h
theorem pick_rev (xs : Array Value) : ((List.range xs.size).filterMap fun (m : Nat) => xs[(((xs.size : Int) - 1) + (m : Int) * (-1)).toNat]?).toArray = xs.toList.reverse.toArray := by
  have e : ((List.range xs.size).filterMap fun (m : Nat) => xs[(((xs.size : Int) - 1) + (m : Int) * (-1)).toNat]?) = ((List.range xs.size).map fun k => xs.size - 1 - k).filterMap (xs[·]?) := by
    rw [List.filterMap_map]
    have gen : ∀ l : List Nat, (∀ m ∈ l, m < xs.size) → (l.filterMap fun (m : Nat) => xs[(((xs.size : Int) - 1) + (m : Int) * (-1)).toNat]?) = l.filterMap ((xs[·]?) ∘ fun k => xs.size - 1 - k) := by
      intro l
      induction l with
      | nil => intro _; rfl
      | cons m l ih =>
        intro h
        have hm := h m List.mem_cons_self
        have e2 : (((xs.size : Int) - 1) + (m : Int) * (-1)).toNat = xs.size - 1 - m := by omega
        rw [List.filterMap_cons, List.filterMap_cons, ih fun k hk => h k (List.mem_cons_of_mem _ hk), e2]
        rfl
    exact gen _ fun m hm => List.mem_range.mp hm
  rw [e, PySem.W.krv_range, List.filterMap_reverse, PySem.W.krv_all]
theorem getItem_tuple_rev {t sl : Addr} {items : Array Value} {tk : Tok} {Q : Value → Shared → Prop} (ht : IsTup s.heap t items) (hs : s.heap.IsSliceOf sl .none .none (.int (-1) tk))
    (h : Q (.ref s.heap.objs.size) { s with heap := s.heap.push { cls := .type "tuple", data := .seq items.toList.reverse.toArray } })
    (hsz : items.size ≤ sizeLine) : wpAny (model prog w) A (getItem (.ref t) (.ref sl)) Q E s := by
  have htake : sizeOk (.seq items.toList.reverse.toArray) := by
    show (items.toList.reverse.toArray).size ≤ sizeLine
    rw [List.size_toArray, List.length_reverse, Array.length_toList]
    omega
  obtain ⟨os, hos, hcs, hds⟩ := id hs
  have hTs : s.TypeIs (.ref sl) "slice" := ⟨os, hos, hcs⟩
  unfold getItem
  try with_reducible refine wpAny_holding ?_
  first | refine wpAny_bind (wpAny_pure ?_) | skip
  refine wpAny_bind (wpAny_sequenceKey ht.typeIs (by decide) ?_)
  refine wpAny_bind (wpAny_callSpecial?_slot (name := Str.ofString "__getitem__") ht.typeIs PyProof.Rows.slot_tuple_getitem
    (wpAny_call_entry PyProof.Rows.slot_tuple_getitem ht.typeIs PyProof.Rows.entry_tuple_getitem ?_ (PyProof.Rows.args_tuple_getitem _ _)))
  show wpAny _ _ (Builtin.Tuple.tupleItemsOf (.ref t) >>= _) _ _ s
  refine wpAny_bind (PyProof.Rows.tupleItemsOf_ ht ?_)
  refine wpAny_bind (wpAny_typeOf hTs ?_)
  rw [if_pos (by decide)]
  refine wpAny_bind (sliceApplied_rev hs ?_)
  have hno : ¬ ((((items.size : Int) - 1 == 0) && (-1 : Int) == 1 && items.size == items.size) = true) := by simp
  show wpAny _ _ (if (((items.size : Int) - 1 == 0) && (-1 : Int) == 1 && items.size == items.size) = true then _ else _) _ _ s
  rw [if_neg hno, pick_rev]
  first
    | exact wpAny_bind (m := Builtin.Tuple.tupleExact _) (wpAny_newObj_type (wpAny_pure ⟨_, rfl, wpAny_pure h⟩) htake)
    | exact wpAny_bind (m := Builtin.Tuple.tupleExact _) (wpAny_newObj_type (wpAny_bind (wpAny_pure (wpAny_pure ⟨_, rfl, wpAny_pure h⟩))) htake)
    | exact wpAny_bind (wpAny_bind (m := Builtin.Tuple.tupleExact _) (wpAny_newObj_type (wpAny_pure (wpAny_pure ⟨_, rfl, wpAny_pure h⟩)) htake))
    | exact wpAny_bind (wpAny_bind (m := Builtin.Tuple.tupleExact _) (wpAny_newObj_type (wpAny_pure ⟨_, rfl, wpAny_pure h⟩) htake))
end
section
variable {X : Cx}
/-- a reversed copy, by values -/
def rRev (K : PySem.W.Frag) : V → Hp → VK → Prop := fun x H Q => (∃ a xs, x = .ref a ∧ SqL K H a xs ∧ ∀ p, H p = none → Q (.ref p) (upd H p (.lst xs.reverse))) ∨ ∃ a xs, x = .ref a ∧ SqT K H a xs ∧ ∀ p, H p = none → Q (.ref p) (upd H p (.tup xs.reverse))
theorem pe_rev {e : Expr} {te : TE} {p1 p2 p3 pos : Pos} {j : Nat} (he : PE X e te) : PE X (.Subscript e (.Slice none none (some (.UnaryOp .USub (.Constant (.int 1) j p1) p2)) p3) pos) (fun σ H Q => te σ H fun x H1 => rRev X.K x H1 Q) := by
  refine ⟨fun pins s σ H Q I h => ?_⟩
  refine PyProof.Rows.Subscript_ (thn (he.run pins s σ H _ I h) fun v s1 ⟨x, H1, I1, r1, q1⟩ => ?_)
  refine wpAny_Slice ?_
  rw [evalPart_none]
  refine wpAny_pure ?_
  refine wpAny_pure ?_
  rw [evalPart_some]
  have pm : PE X (.UnaryOp .USub (.Constant (.int 1) j p1) p2) (tUn (L2.rU (fun i => V.int (-i))) (tC (.int 1))) := pe_un un_neg pe_int
  refine thn (pm.run pins s1 σ H1 (fun y H2 => y = .int (-1) ∧ H2 = H1) I1 ⟨1, rfl, rfl, rfl⟩) fun u s2 ⟨y, H2, I2, r2, e1, e2⟩ => ?_
  subst e1; subst e2
  obtain ⟨tk, rfl⟩ := r2
  have I4 : Inv X pins σ H2 { s2 with heap := s2.heap.push { cls := .type "slice", data := .fields #[.none, .none, .int (-1) tk] } } := I2.kept (t' := s2.toks) fun b ob q => Heap.get?_push_of_some _ q
  have key : ∀ s3 : Shared, Inv X pins σ H2 s3 → s3.heap.IsSliceOf s2.heap.objs.size .none .none (.int (-1) tk) → wpAny (model X.prog X.w) X.A (PyProof.Rows.subscriptTail e (.Slice none none (some (.UnaryOp .USub (.Constant (.int 1) j p1) p2)) p3) v (.ref s2.heap.objs.size)) (EP X pins σ Q) X.xe s3 := ?_
  · exact key _ I4 (Heap.IsSliceOf.new ..)
  clear I4
  intro s3 I4 hs
  rcases q1 with ⟨a, xs, rfl, hx, q⟩ | ⟨a, xs, rfl, hx, q⟩
  · cases r1
    obtain ⟨its, r, ht, hz⟩ := I4.list hx
    have hlen := r.length
    refine PyProof.Rows.tail_any (ops := [.ref a, .ref s2.heap.objs.size]) ht.isList.typeIs slot_list_getitem.lookup ?_ (by with_unfolding_all rfl)
    refine wpAny_getItem_list_slice ht.isList hs .none .none (.int _ _) (by simp) ?_ (by rw [List.size_toArray] <;> omega)
    rw [PySem.W.krv_pick]
    refine ⟨.ref s3.heap.objs.size, _, I4.laid (t' := s3.toks) (o := .lst xs.reverse) (fun b ob q => Heap.get?_push_of_some _ q) (Nat.le_refl _) ?_, rfl, q _ (I4.hok.fresh (Nat.le_refl _))⟩
    exact ⟨by rw [List.length_reverse]; exact hz, its.reverse, 0, r.reverse, Heap.get?_push_size _ rfl⟩
  · cases r1
    obtain ⟨its, r, ht, hz⟩ := I4.tuple hx
    have hlen := r.length
    refine PyProof.Rows.tail_any (ops := [.ref a, .ref s2.heap.objs.size]) ht.typeIs PyProof.Rows.slot_tuple_getitem.lookup ?_ (by with_unfolding_all rfl)
    refine getItem_tuple_rev ht hs ?_ (by rw [List.size_toArray] <;> omega)
    refine ⟨.ref s3.heap.objs.size, _, I4.laid (t' := s3.toks) (o := .tup xs.reverse) (fun b ob q => Heap.get?_push_of_some _ q) (Nat.le_refl _) ?_, rfl, q _ (I4.hok.fresh (Nat.le_refl _))⟩
    exact ⟨by rw [List.length_reverse]; exact hz, its.reverse, r.reverse, ⟨_, Heap.get?_push_size _ rfl, rfl, _, rfl⟩⟩
end
end Ev

set_option linter.all false
set_option maxRecDepth 100000
set_option maxHeartbeats 1000000
/-! Ev.G: subscripts, slices, built-in functions keep what the evaluator says -/
namespace Ev
open PySem PySem.Spec L2
def rUx (X : Cx) : R2 := fun x y H Q => ∀ (value slice : Expr) (pins : List (Addr × Obj)) (s : Shared) (σ : St) (v u : Value), Inv X pins σ H s → RelV x v → RelV y u →
  subscripted slice false v u = operate [v, u] (getItem v u) → wpAny (model X.prog X.w) X.A (PyProof.Rows.subscriptTail value slice v u) (EP X pins σ Q) X.xe s
theorem ix_U {X : Cx} : IxR X (rUx X) := fun value slice pins s σ H x y v u Q I rx ry h hs => h value slice pins s σ v u I rx ry hs
theorem rUx.of {X : Cx} {r : R2} (h : IxR X r) {x y : V} {H : Hp} {Q : VK} (q : r x y H Q) : rUx X x y H Q := fun value slice pins s σ v u I rx ry hs => h value slice pins s σ H x y v u Q I rx ry q hs
def rUs (X : Cx) : V → Option Int → Option Int → Hp → VK → Prop := fun x lo hi H Q => ∀ (pins : List (Addr × Obj)) (s : Shared) (σ : St) (v vl vu : Value) (sl : Addr), Inv X pins σ H s → RelV x v → s.heap.IsSliceOf sl vl vu .none → IsPart vl lo → IsPart vu hi →
  ∃ T id, typeLookup (.type T) "__getitem__" = pure (some (.builtin id)) ∧ s.TypeIs v T ∧ wpAny (model X.prog X.w) X.A (getItem v (.ref sl)) (EP X pins σ Q) X.xe s
theorem sl_U {X : Cx} : SlR X (rUs X) := fun pins s σ H x v vl vu lo hi sl Q I rx hs pl pu h => h pins s σ v vl vu sl I rx hs pl pu
theorem rUs.of {X : Cx} {r : V → Option Int → Option Int → Hp → VK → Prop} (h : SlR X r) {x : V} {lo hi : Option Int} {H : Hp} {Q : VK} (q : r x lo hi H Q) : rUs X x lo hi H Q :=
  fun pins s σ v vl vu sl I rx hs pl pu => h pins s σ H x v vl vu lo hi sl Q I rx hs pl pu q
def rUc (X : Cx) (f : Value) : List V → Hp → VK → Prop := fun xs H Q => ∀ (pins : List (Addr × Obj)) (s : Shared) (σ : St) (us : List Value), Inv X pins σ H s → Vals xs us → wpAny (model X.prog X.w) X.A (call f us) (EP X pins σ Q) X.xe s
theorem call_U {X : Cx} {f : Value} : CallR X f (rUc X f) := fun pins s σ H xs us Q I r h => h pins s σ us I r
theorem rUc.of {X : Cx} {f : Value} {r : List V → Hp → VK → Prop} (h : CallR X f r) {xs : List V} {H : Hp} {Q : VK} (q : r xs H Q) : rUc X f xs H Q := fun pins s σ us I rr => h pins s σ H xs us Q I rr q

section
variable {X : Cx} {G : Env1} {xr : XR} {P : Hp} {W : WX} {ρ : Rho} {s : ES} {σ : St} {H : Hp}
theorem atI_rv {T : Hp} {xs : List PV} {vs : List V} {i : Int} {v : PV} (h : RVs G.K G.fa ρ T xs vs) (e : L2.atI xs i = some v) : ∃ w, L2.atI vs i = some w ∧ RV G.K G.fa ρ T v w := by
  unfold L2.atI at e ⊢
  rw [← h.length]
  cases hj : L2.ixN xs.length i with
  | none => rw [hj] at e; cases e
  | some j =>
    rw [hj] at e
    exact h.get (i := j) (by simpa using e)
theorem ix_ok (R0 : Rel G.K G.fa P ρ s σ H) {u v w : PV} {x y : V} {Q : VK} (hu : Pk G.K G.fa ρ H u x) (hv : Pk G.K G.fa ρ H v y) (hf : ixV u v = some w) (hK : X.K = G.K)
    (h : rdAt G xr P (RER G.K G.fa) W ρ (.ok (.val w) s) σ H Q) : rUx X x y H Q := by
  unfold ixV at hf
  split at hf
  · obtain ⟨a, vs, rfl, ha, ra⟩ := hu.tup
    cases hv.int
    obtain ⟨z, e1, e2⟩ := atI_rv ra hf
    exact .of ix_tup ⟨a, vs, _, z, rfl, rfl, by rw [hK]; exact ha, e1, fin R0 h e2⟩
  · obtain ⟨a, vs, rfl, ha, ra⟩ := hu.lst
    cases hv.int
    obtain ⟨z, e1, e2⟩ := atI_rv ra hf
    exact .of ix_list ⟨a, vs, _, z, rfl, rfl, SqL.of ha, e1, fin R0 h e2⟩
  · cases hf
theorem unbox_pk (R0 : Rel G.K G.fa P ρ s σ H) {u : PV} {x : V} (hu : Pk G.K G.fa ρ H u x) : Pk G.K G.fa ρ H (unbox s u) x := by
  unfold unbox
  split
  · rename_i n
    split
    · rename_i c hc
      rcases hu with hu | ⟨c', a, e, _⟩
      · cases hu with
        | box hb =>
          rename_i a
          have q := R0.box n
          rw [hc] at q
          obtain ⟨a', h1, h2⟩ := q
          rw [hb] at h1; cases h1
          exact .inr ⟨c, a, rfl, rfl, ⟨_, hb⟩, h2⟩
      · cases c'; cases e
    · exact hu
  · exact hu
theorem cut_rv {T : Hp} {xs : List PV} {vs : List V} {lo hi : Option Int} (h : RVs G.K G.fa ρ T xs vs) : RVs G.K G.fa ρ T (cutP xs lo hi) (L2.cutV vs lo hi) := by
  unfold cutP L2.cutV
  rw [← h.length]
  exact RVs.take _ (RVs.drop _ h)
theorem sl_ok (R0 : Rel G.K G.fa P ρ s σ H) {u : PV} {x : V} {lo hi : Option Int} {r : RE} {Q : VK} (hu : Pk G.K G.fa ρ H u x) (hf : slV u lo hi = some r) (hK : X.K = G.K)
    (h : rdAt G xr P (RER G.K G.fa) W ρ (.ok r s) σ H Q) : rUs X x lo hi H Q := by
  unfold slV at hf
  split at hf
  · cases hf
    obtain ⟨a, vs, rfl, ha, ra⟩ := hu.tup
    refine .of sl_tupA ⟨a, vs, rfl, by rw [hK]; exact ha, fun z => ?_, fun _ p hp => finT R0 h (cut_rv ra) hp⟩
    rename_i xs
    have e : cutP xs lo hi = xs := by
      unfold cutP
      rw [ra.length, z.1, z.2, List.drop_zero, Nat.sub_zero, ← ra.length, List.take_length]
    rw [e] at h
    exact fin R0 h hu.rvT
  · cases hf
    obtain ⟨a, vs, rfl, ha, ra⟩ := hu.lst
    exact .of sl_list ⟨a, vs, rfl, SqL.of ha, fun p hp => finL R0 h (cut_rv ra) hp⟩
  · cases hf
theorem rev_ok (R0 : Rel G.K G.fa P ρ s σ H) {u : PV} {x : V} {r : RE} {Q : VK} (hu : Pk G.K G.fa ρ H u x) (hf : revV u = some r) (hK : X.K = G.K)
    (h : rdAt G xr P (RER G.K G.fa) W ρ (.ok r s) σ H Q) : rRev X.K x H Q := by
  unfold revV at hf
  split at hf
  · cases hf
    obtain ⟨a, vs, rfl, ha, ra⟩ := hu.tup
    exact .inr ⟨a, vs, rfl, by rw [hK]; exact ha, fun p hp => finT R0 h ra.rev hp⟩
  · cases hf
    obtain ⟨a, vs, rfl, ha, ra⟩ := hu.lst
    exact .inl ⟨a, vs, rfl, SqL.of ha, fun p hp => finL R0 h ra.rev hp⟩
  · cases hf

/-! ### built-in functions -/
theorem boolsOf_eq : ∀ {xs : List PV} {bs : List Bool}, boolsOf xs = some bs → xs = bs.map PV.bl
  | [], _, h => by simp only [boolsOf, Option.some.injEq] at h; subst h; rfl
  | x :: xs, bs, h => by
    cases x <;> simp only [boolsOf, Option.map_eq_some_iff, reduceCtorEq] at h
    obtain ⟨cs, h1, rfl⟩ := h
    rw [boolsOf_eq h1]; rfl
theorem intsOf_eq : ∀ {xs : List PV} {bs : List Int}, intsOf xs = some bs → xs = bs.map PV.int
  | [], _, h => by simp only [intsOf, Option.some.injEq] at h; subst h; rfl
  | x :: xs, bs, h => by
    cases x <;> simp only [intsOf, Option.map_eq_some_iff, reduceCtorEq] at h
    obtain ⟨cs, h1, rfl⟩ := h
    rw [intsOf_eq h1]; rfl
theorem RVs.of_bools {T : Hp} : ∀ {bs : List Bool} {vs : List V}, RVs G.K G.fa ρ T (bs.map PV.bl) vs → vs = bs.map V.bl
  | [], _, h => by cases h; rfl
  | n :: r, _, h => by
    cases h with
    | cons h1 h2 => cases h1; rw [RVs.of_bools h2]; rfl
theorem foldl_max : ∀ (xs : List Int) (a m : Int), xs.foldl (fun a b => if b > a then b else a) a = m → (m = a ∨ m ∈ xs) ∧ a ≤ m ∧ ∀ y ∈ xs, y ≤ m
  | [], a, m, h => by simp only [List.foldl_nil] at h; subst h; simp
  | x :: xs, a, m, h => by
    rw [List.foldl_cons] at h
    obtain ⟨h1, h2, h3⟩ := foldl_max xs _ m h
    refine ⟨?_, ?_, fun y hy => ?_⟩
    · rcases h1 with h1 | h1
      · split at h1
        · exact .inr (by rw [h1]; exact List.mem_cons_self)
        · exact .inl h1
      · exact .inr (List.mem_cons_of_mem _ h1)
    · split at h2 <;> omega
    · rcases List.mem_cons.mp hy with e | e
      · subst e; split at h2 <;> omega
      · exact h3 y e
theorem foldl_min : ∀ (xs : List Int) (a m : Int), xs.foldl (fun a b => if b < a then b else a) a = m → (m = a ∨ m ∈ xs) ∧ m ≤ a ∧ ∀ y ∈ xs, m ≤ y
  | [], a, m, h => by simp only [List.foldl_nil] at h; subst h; simp
  | x :: xs, a, m, h => by
    rw [List.foldl_cons] at h
    obtain ⟨h1, h2, h3⟩ := foldl_min xs _ m h
    refine ⟨?_, ?_, fun y hy => ?_⟩
    · rcases h1 with h1 | h1
      · split at h1
        · exact .inr (by rw [h1]; exact List.mem_cons_self)
        · exact .inl h1
      · exact .inr (List.mem_cons_of_mem _ h1)
    · split at h2 <;> omega
    · rcases List.mem_cons.mp hy with e | e
      · subst e; split at h2 <;> omega
      · exact h3 y e
theorem maxI_spec {ns : List Int} {m : Int} (h : maxI ns = some m) : m ∈ ns ∧ ∀ y ∈ ns, y ≤ m := by
  cases ns with
  | nil => cases h
  | cons x xs =>
    simp only [maxI, Option.some.injEq] at h
    obtain ⟨h1, h2, h3⟩ := foldl_max xs x m h
    refine ⟨?_, fun y hy => ?_⟩
    · rcases h1 with h1 | h1
      · rw [h1]; exact List.mem_cons_self
      · exact List.mem_cons_of_mem _ h1
    · rcases List.mem_cons.mp hy with e | e
      · rw [e]; exact h2
      · exact h3 y e
theorem minI_spec {ns : List Int} {m : Int} (h : minI ns = some m) : m ∈ ns ∧ ∀ y ∈ ns, m ≤ y := by
  cases ns with
  | nil => cases h
  | cons x xs =>
    simp only [minI, Option.some.injEq] at h
    obtain ⟨h1, h2, h3⟩ := foldl_min xs x m h
    refine ⟨?_, fun y hy => ?_⟩
    · rcases h1 with h1 | h1
      · rw [h1]; exact List.mem_cons_self
      · exact List.mem_cons_of_mem _ h1
    · rcases List.mem_cons.mp hy with e | e
      · rw [e]; exact h2
      · exact h3 y e
def Pks (K : PySem.W.Frag) (fa : Nat → Addr) (ρ : Rho) (H : Hp) : List PV → List V → Prop
  | [], [] => True
  | v :: vs, x :: xs => Pk K fa ρ H v x ∧ Pks K fa ρ H vs xs
  | _, _ => False
theorem Pks.one {v : PV} {xs : List V} (h : Pks G.K G.fa ρ H [v] xs) : ∃ x, xs = [x] ∧ Pk G.K G.fa ρ H v x := by
  match xs, h with
  | [x], ⟨h, _⟩ => exact ⟨x, rfl, h⟩
theorem Pks.two {v w : PV} {xs : List V} (h : Pks G.K G.fa ρ H [v, w] xs) : ∃ x y, xs = [x, y] ∧ Pk G.K G.fa ρ H v x ∧ Pk G.K G.fa ρ H w y := by
  match xs, h with
  | [x, y], ⟨h, h', _⟩ => exact ⟨x, y, rfl, h, h'⟩
/-- what a built-in's name stands for -/
def Bi.isTy : Bi → Bool
  | .tuple => true | .list => true | .int => true | _ => false
def Bi.value (b : Bi) : Value := if b.isTy then .type b.nm else .builtin b.nm
theorem repr_ok {x : V} {d : PyData} {Q : VK} (hd : Dp G.K H x d) (hs : showOk d = true) (hK : X.K = G.K) (gd : X.A.guards = some [] ∧ X.A.units + 70 < cLine) (q : Q (.str d.shown) H) : rUc X (.builtin "repr") [x] H Q := by
  intro pins s σ us I rr
  obtain ⟨u, rfl, ru⟩ := vals1 rr
  rw [← hK] at hd
  obtain ⟨as, r1⟩ := Dp.reads I d x u hd ru
  unfold showOk at hs
  simp only [Bool.and_eq_true, Bool.or_eq_true, decide_eq_true_eq] at hs
  obtain ⟨⟨⟨h1, h2⟩, h3⟩, h4⟩ := hs
  have hz : d.shown.length ≤ sizeLine := by
    rcases h4 with (h4 | h4) | h4
    · exact PyData.shown_fits_bulk (B := 13) (by decide) (by decide) h4.1 h4.2
    · have q := PyData.shown_le_bulk 64 (by decide) d h4.1
      have q2 := h4.2
      rw [sizeLine_eq]
      omega
    · exact h4
  have hl : d.canLay0 = true ∧ d.depth ≤ 64 := by
    have h2' : (d.canLay0 && decide (d.depth ≤ 64)) = true := h2
    simpa only [Bool.and_eq_true, decide_eq_true_eq] using h2'
  have nd := PyData.hasDict_of_canLay d hl.1
  have go : ∀ {a : Addr}, u = .ref a → wpAny (model X.prog X.w) X.A (call (.builtin "repr") [u]) (EP X pins σ Q) X.xe s := fun {a} e => by
    subst e
    exact repr_of_reads' r1 h1 (PyData.noDict_hsm nd) gd.1 (by have := gd.2; omega) (fun _ _ e => e) (fun h' t tk hk => ⟨.str _, H, I.kept hk, ⟨_, rfl⟩, q⟩) hz
  cases r1 with
  | none => exact PySem.P.repr_of_none ⟨.str _, H, I.tok _, ⟨_, rfl⟩, q⟩
  | dict => cases h3
  | bool b =>
    exact PySem.P.repr_of_bool ⟨.str _, H, I.tok _, ⟨_, rfl⟩, q⟩
  | int i t => exact PySem.P.repr_of_int (by simpa [PyData.showable] using h1) ⟨.str _, H, I.tok _, ⟨_, rfl⟩, q⟩
  | str y t => exact PySem.P.repr_of_str ⟨.str _, H, I.tok _, ⟨_, rfl⟩, q⟩ hz
  | list _ _ _ _ => exact go rfl
  | tuple _ _ _ _ => exact go rfl
theorem toPys_enc : ∀ {xs : List PV} {ds : List PyData}, toPys xs = some ds → ds = xs.map encP ∧ ∀ x ∈ xs, toPy x = some (encP x)
  | [], ds, h => by
    cases h
    exact ⟨rfl, fun x hx => by cases hx⟩
  | x :: xs, ds, h => by
    have h' : (match toPy x with | none => none | some d => (toPys xs).map (d :: ·)) = some ds := h
    cases hd : toPy x with
    | none => rw [hd] at h'; cases h'
    | some d =>
      rw [hd] at h'
      simp only [Option.map_eq_some_iff] at h'
      obtain ⟨es, e1, e2⟩ := h'
      obtain ⟨i1, i2⟩ := toPys_enc e1
      have ex : encP x = d := by unfold encP; rw [hd]; rfl
      refine ⟨by rw [← e2, List.map_cons, ex, i1], fun y hy => ?_⟩
      rcases List.mem_cons.mp hy with rfl | hy
      · rw [ex]; exact hd
      · exact i2 y hy
theorem rvs_zip {T : Hp} : ∀ {xs : List PV} {vs : List V}, RVs G.K G.fa ρ T xs vs → ∀ b ∈ xs.zip vs, RV G.K G.fa ρ T b.1 b.2
  | _, _, .nil, b, hb => by cases hb
  | _, _, .cons h t, b, hb => by
    rw [List.zip_cons_cons] at hb
    rcases List.mem_cons.mp hb with rfl | hb
    · exact h
    · exact rvs_zip t b hb
theorem zip_rvs {T : Hp} : ∀ {bs : List (PV × V)}, (∀ b ∈ bs, RV G.K G.fa ρ T b.1 b.2) → RVs G.K G.fa ρ T (bs.map (·.1)) (bs.map (·.2))
  | [], _ => .nil
  | b :: bs, h => .cons (h b (List.mem_cons_self ..)) (zip_rvs fun c hc => h c (List.mem_cons_of_mem _ hc))
theorem sorted_ok {xs ys : List PV} {vs : List V} {a : Addr} {Q : VK} (e : sortP xs = some ys) (ra : RVs G.K G.fa ρ (cut H ρ) xs vs) (ha : H a = some (.lst vs)) (hK : X.K = G.K) (gd : X.A.guards = some [] ∧ X.A.units + 70 < cLine)
    (q : ∀ zs p, RVs G.K G.fa ρ (cut H ρ) ys zs → H p = none → Q (.ref p) (upd H p (.lst zs))) : rUc X (.builtin "sorted") [.ref a] H Q := by
  unfold sortP at e
  rw [Option.bind_eq_some_iff] at e
  obtain ⟨ds, e1, e2⟩ := e
  by_cases ok : sortOk ds = true
  · rw [if_pos ok] at e2
    cases e2
    obtain ⟨hds, hx⟩ := toPys_enc e1
    unfold sortOk alikeB at ok
    simp only [Bool.and_eq_true, List.all_eq_true, decide_eq_true_eq, Bool.or_eq_true] at ok
    obtain ⟨⟨o1, o2⟩, o3⟩ := ok
    have f1 : (xs.zip vs).map (·.1) = xs := List.map_fst_zip (by rw [ra.length]; exact Nat.le_refl _)
    have f2 : (xs.zip vs).map (·.2) = vs := List.map_snd_zip (by rw [ra.length]; exact Nat.le_refl _)
    have mem : ∀ b ∈ xs.zip vs, b.1 ∈ xs ∧ encP b.1 ∈ ds := fun b hb => by
      have : b.1 ∈ xs := by rw [← f1]; exact List.mem_map.mpr ⟨b, hb, rfl⟩
      exact ⟨this, by rw [hds]; exact List.mem_map.mpr ⟨_, this, rfl⟩⟩
    have mp : ((xs.zip vs).map fun b => encP b.1) = ds := by
      rw [hds, ← f1, List.map_map, f1]
      rfl
    refine .of (EvU.cr_sortedD (d := encP) gd.2) ⟨a, xs.zip vs, rfl, by rw [f2]; exact SqL.of ha, fun b hb => ⟨?_, o3 _ (mem b hb).2⟩, ?_, ?_, fun p hp => ?_⟩
    · rw [hK]
      exact (rvs_zip ra b hb).dp (hx _ (mem b hb).1)
    · rw [mp]
      exact fun d hd d' hd' => o1 d hd d' hd'
    · rw [mp]
      rcases o2 with o2 | o2
      · refine .inl fun d hd => ?_
        have := o2 d hd
        unfold tupB1 at this
        split at this
        · exact ⟨_, _, rfl⟩
        · cases this
      · refine .inr fun d hd => ?_
        have := o2 d hd
        unfold othB1 at this
        split at this
        · cases this
        · cases this
        · rename_i h1 h2
          exact ⟨h1, fun ys z => h2 ys z⟩
    · have e3 := PySem.W.sort_maps (r := PySem.W.dataLe false fun b : PV × V => encP b.1) (s := PySem.W.dataLe false encP) (fun b : PV × V => b.1) (l := xs.zip vs) (fun _ _ _ _ => rfl)
      rw [f1] at e3
      have r := zip_rvs (bs := (xs.zip vs).mergeSort (PySem.W.dataLe false fun b => encP b.1)) (ρ := ρ) (G := G) (T := cut H ρ) fun b hb => rvs_zip ra b ((List.mergeSort_perm _ _).mem_iff.mp hb)
      rw [e3] at r
      exact q _ p r hp
  · rw [if_neg ok] at e2
    cases e2
theorem bi_ok (R0 : Rel G.K G.fa P ρ s σ H) {b : Bi} {us : List PV} {xs : List V} {r : RE} {Q : VK} (hu : Pks G.K G.fa ρ H us xs) (hf : biV b us = some r) (hK : X.K = G.K) (hc : X.calm = true) (gd : X.A.guards = some [] ∧ X.A.units + 70 < cLine)
    (h : rdAt G xr P (RER G.K G.fa) W ρ (.ok r s) σ H Q) : rUc X b.value xs H Q := by
  unfold biV at hf
  split at hf
  · simp only [Option.map_eq_some_iff] at hf
    obtain ⟨n, e1, e2⟩ := hf
    subst e2
    obtain ⟨x, rfl, hx⟩ := hu.one
    unfold lenV at e1
    split at e1
    · cases e1
      obtain ⟨a, vs, rfl, ha, ra⟩ := hx.tup
      exact .of call_len_seq ⟨a, vs, rfl, .inr (by rw [hK]; exact ha), by rw [← ra.length]; exact fin R0 h (.int _)⟩
    · cases e1
      obtain ⟨a, vs, rfl, ha, ra⟩ := hx.lst
      exact .of call_len_seq ⟨a, vs, rfl, .inl (SqL.of ha), by rw [← ra.length]; exact fin R0 h (.int _)⟩
    · cases e1
      obtain ⟨a, rfl, ha⟩ := hx.scr
      refine .of call_len_seq ⟨a, _, rfl, .inl (by rw [hK]; exact ha), ?_⟩
      rw [List.length_map]
      exact fin R0 h (.int _)
    · split at e1
      · rename_i hl
        cases e1
        cases hx.str
        exact .of call_len_str ⟨_, rfl, by rw [sizeLIM]; exact hl, fin R0 h (.int _)⟩
      · cases e1
    · cases e1
  · simp only [Option.map_eq_some_iff] at hf
    obtain ⟨n, e1, e2⟩ := hf
    subst e2
    obtain ⟨x, rfl, hx⟩ := hu.one
    cases boolsOf_eq e1
    obtain ⟨a, vs, rfl, ha, ra⟩ := hx.lst
    cases ra.of_bools
    exact .of (cr_all hc) ⟨a, n, rfl, SqL.of ha, fin R0 h (.bl _)⟩
  · simp only [Option.map_eq_some_iff] at hf
    obtain ⟨n, e1, e2⟩ := hf
    subst e2
    obtain ⟨x, rfl, hx⟩ := hu.one
    cases boolsOf_eq e1
    obtain ⟨a, vs, rfl, ha, ra⟩ := hx.lst
    cases ra.of_bools
    exact .of (cr_any hc) ⟨a, n, rfl, SqL.of ha, fin R0 h (.bl _)⟩
  · simp only [Option.map_eq_some_iff] at hf
    obtain ⟨n, e1, e2⟩ := hf
    subst e2
    obtain ⟨x, rfl, hx⟩ := hu.one
    cases intsOf_eq e1
    obtain ⟨a, vs, rfl, ha, ra⟩ := hx.lst
    cases ra.of_ints
    exact .of (cr_sum hc) ⟨a, n, rfl, SqL.of ha, fin R0 h (.int _)⟩
  · cases hf
    obtain ⟨x, rfl, hx⟩ := hu.one
    cases hx.int
    exact .of call_abs ⟨_, rfl, fin R0 h (.int _)⟩
  · cases hf
    obtain ⟨x, rfl, hx⟩ := hu.one
    obtain ⟨a, vs, rfl, ha, ra⟩ := hx.lst
    exact .of call_tuple_of ⟨a, vs, rfl, .inl ⟨SqL.of ha, fun p hp => finT R0 h ra hp⟩⟩
  · cases hf
    obtain ⟨x, rfl, hx⟩ := hu.one
    obtain ⟨a, vs, rfl, ha, ra⟩ := hx.tup
    exact .of call_tuple_of ⟨a, vs, rfl, .inr ⟨by rw [hK]; exact ha, fin R0 h hx.rvT⟩⟩
  · cases hf
    obtain ⟨x, rfl, hx⟩ := hu.one
    obtain ⟨a, vs, rfl, ha, ra⟩ := hx.lst
    exact .of call_list_of ⟨a, vs, rfl, .inl (SqL.of ha), fun p hp => finL R0 h ra hp⟩
  · cases hf
    obtain ⟨x, rfl, hx⟩ := hu.one
    obtain ⟨a, vs, rfl, ha, ra⟩ := hx.tup
    exact .of call_list_of ⟨a, vs, rfl, .inr (by rw [hK]; exact ha), fun p hp => finL R0 h ra hp⟩
  · cases hf
    obtain ⟨x, rfl, hx⟩ := hu.one
    obtain ⟨a, rfl, ha⟩ := hx.scr
    exact .of call_list_of ⟨a, _, rfl, .inl (by rw [hK]; exact ha), fun p hp => finL R0 h (RVs.ints _) hp⟩
  · cases hf
    obtain ⟨x, rfl, hx⟩ := hu.one
    cases hx.int
    exact .of call_int1 (.inl ⟨_, rfl, fin R0 h (.int _)⟩)
  · cases hf
    obtain ⟨x, rfl, hx⟩ := hu.one
    cases hx.bl
    exact .of call_int1 (.inr ⟨_, rfl, fin R0 h (.int _)⟩)
  · cases hf
    obtain ⟨x, y, rfl, hx, hy⟩ := hu.two
    cases hx.int
    cases hy.int
    exact .of (call_max2 hc) ⟨_, _, rfl, fin R0 h (.int _)⟩
  · cases hf
    obtain ⟨x, y, rfl, hx, hy⟩ := hu.two
    cases hx.int
    cases hy.int
    exact .of (call_min2 hc) ⟨_, _, rfl, fin R0 h (.int _)⟩
  · simp only [Option.bind_eq_some_iff, Option.map_eq_some_iff] at hf
    obtain ⟨ns, e1, m, e2, e3⟩ := hf
    subst e3
    obtain ⟨x, rfl, hx⟩ := hu.one
    cases intsOf_eq e1
    obtain ⟨a, vs, rfl, ha, ra⟩ := hx.lst
    cases ra.of_ints
    obtain ⟨m1, m2⟩ := maxI_spec e2
    refine .of (cr_max hc) ⟨a, ns, rfl, SqL.of ha, List.length_pos_of_mem m1, fun m' h1 h2 => ?_⟩
    have e : m' = m := Int.le_antisymm (m2 _ h1) (h2 _ m1)
    subst e
    exact fin R0 h (.int _)
  · simp only [Option.bind_eq_some_iff, Option.map_eq_some_iff] at hf
    obtain ⟨ns, e1, m, e2, e3⟩ := hf
    subst e3
    obtain ⟨x, rfl, hx⟩ := hu.one
    cases intsOf_eq e1
    obtain ⟨a, vs, rfl, ha, ra⟩ := hx.lst
    cases ra.of_ints
    obtain ⟨m1, m2⟩ := minI_spec e2
    refine .of (cr_min hc) ⟨a, ns, rfl, SqL.of ha, List.length_pos_of_mem m1, fun m' h1 h2 => ?_⟩
    have e : m' = m := Int.le_antisymm (h2 _ m1) (m2 _ h1)
    subst e
    exact fin R0 h (.int _)
  · simp only [Option.bind_eq_some_iff] at hf
    obtain ⟨d, e1, e2⟩ := hf
    obtain ⟨x, rfl, hx⟩ := hu.one
    by_cases hs : showOk d = true
    · rw [if_pos hs] at e2
      cases e2
      exact repr_ok (hx.dp e1) hs hK gd (fin R0 h (.str _))
    · rw [if_neg hs] at e2
      cases e2
  · simp only [Option.map_eq_some_iff] at hf
    obtain ⟨ys, e1, e2⟩ := hf
    subst e2
    obtain ⟨x, rfl, hx⟩ := hu.one
    obtain ⟨a, vs, rfl, ha, ra⟩ := hx.lst
    exact sorted_ok e1 ra ha hK gd fun zs p rs hp => finL R0 h rs hp
  · cases hf
/-! the members of a list of ints, ascending -/
theorem insU_mem (x : Int) : ∀ (l : List Int) (k : Int), k ∈ insU x l ↔ k = x ∨ k ∈ l
  | [], k => by simp [insU]
  | y :: r, k => by
    unfold insU
    split
    · simp
    · split
      · rename_i h
        subst h
        simp
      · rw [List.mem_cons, insU_mem x r, List.mem_cons]
        constructor
        · rintro (h | h | h)
          · exact .inr (.inl h)
          · exact .inl h
          · exact .inr (.inr h)
        · rintro (h | h | h)
          · exact .inr (.inl h)
          · exact .inl h
          · exact .inr (.inr h)
theorem insU_pw (x : Int) : ∀ (l : List Int), l.Pairwise (· < ·) → (insU x l).Pairwise (· < ·)
  | [], _ => List.pairwise_singleton _ _
  | y :: r, h => by
    obtain ⟨h1, h2⟩ := List.pairwise_cons.mp h
    unfold insU
    split
    · refine List.pairwise_cons.mpr ⟨fun z hz => ?_, h⟩
      rcases List.mem_cons.mp hz with rfl | hz
      · assumption
      · have := h1 z hz
        omega
    · split
      · exact h
      · refine List.pairwise_cons.mpr ⟨fun z hz => ?_, insU_pw x r h2⟩
        rcases (insU_mem x r z).mp hz with rfl | hz
        · omega
        · exact h1 z hz
theorem sortU_spec : ∀ (l : List Int), (sortU l).Pairwise (· < ·) ∧ ∀ k, k ∈ sortU l ↔ k ∈ l
  | [] => ⟨.nil, fun k => Iff.rfl⟩
  | x :: r => by
    obtain ⟨h1, h2⟩ := sortU_spec r
    refine ⟨insU_pw x _ h1, fun k => ?_⟩
    show k ∈ insU x (sortU r) ↔ _
    rw [insU_mem, h2 k, List.mem_cons]
theorem asc_uniq : ∀ {l m : List Int}, l.Pairwise (· < ·) → m.Pairwise (· < ·) → (∀ k, k ∈ l ↔ k ∈ m) → l = m
  | [], [], _, _, _ => rfl
  | [], y :: m, _, _, h => absurd ((h y).mpr (List.mem_cons_self ..)) (by simp)
  | x :: l, [], _, _, h => absurd ((h x).mp (List.mem_cons_self ..)) (by simp)
  | x :: l, y :: m, hl, hm, h => by
    obtain ⟨l1, l2⟩ := List.pairwise_cons.mp hl
    obtain ⟨m1, m2⟩ := List.pairwise_cons.mp hm
    have e : x = y := by
      rcases List.mem_cons.mp ((h x).mp (List.mem_cons_self ..)) with e | e
      · exact e
      · rcases List.mem_cons.mp ((h y).mpr (List.mem_cons_self ..)) with e' | e'
        · exact e'.symm
        · have := l1 y e'
          have := m1 x e
          omega
    subst e
    rw [asc_uniq l2 m2 fun k => ?_]
    constructor
    · intro hk
      rcases List.mem_cons.mp ((h k).mp (List.mem_cons_of_mem _ hk)) with e | e
      · have := l1 k hk
        omega
      · exact e
    · intro hk
      rcases List.mem_cons.mp ((h k).mpr (List.mem_cons_of_mem _ hk)) with e | e
      · have := m1 k hk
        omega
      · exact e
/-- isinstance(x, T) -/
theorem tyX_of {v : PV} {x : V} {t : String} (hv : Pk G.K G.fa ρ H v x) (ht : tyName v = some t) (hK : X.K = G.K) : TyX X.K H x (.type t) := by
  cases v <;> simp only [tyName, Option.some.injEq, reduceCtorEq] at ht
  case non => subst ht; cases hv.non; exact .base .non
  case bl => subst ht; cases hv.bl; exact .base (.bl _)
  case int => subst ht; cases hv.int; exact .base (.int _)
  case str => subst ht; cases hv.str; exact .base (.str _)
  case tup =>
    subst ht
    obtain ⟨a, vs, rfl, ha, ra⟩ := hv.tup
    rcases ha with (ha | ⟨o, ha⟩) | ⟨o, its, n, ha, hc, _⟩
    · exact .base (.tup ha)
    · exact .fTuple ha
    · exact .kTuple (by rw [hK]; exact ha) hc
  case lst =>
    subst ht
    obtain ⟨a, vs, rfl, ha, ra⟩ := hv.lst
    exact .base (.lst ha)
theorem isi_ok (R0 : Rel G.K G.fa P ρ s σ H) {v : PV} {x : V} {T : Str} {b : Bool} {Q : VK} (hv : Pk G.K G.fa ρ H v x) (hf : isInst v T = some b) (hK : X.K = G.K) (q : Q (.bl b) H) :
    ∃ n : String, bootBuiltins T = some (.type n) ∧ rUc X (.builtin "isinstance") [x, .ty n] H Q := by
  unfold isInst at hf
  split at hf
  · cases hf
  · rename_i t ht
    have go : ∀ {n : String} {b' : Bool}, kitB t n = some b' → Q (.bl b') H → rUc X (.builtin "isinstance") [x, .ty n] H Q := fun {n b'} e q' =>
      .of call_isi ⟨x, .ty n, .type t, .type n, b', rfl, .ty n, tyX_of hv ht hK, kit_ty e, q'⟩
    have cases6 : t = "NoneType" ∨ t = "bool" ∨ t = "int" ∨ t = "str" ∨ t = "tuple" ∨ t = "list" := by
      cases v <;> simp only [tyName, Option.some.injEq, reduceCtorEq] at ht <;> subst ht <;> simp
    split at hf
    · rename_i e
      subst e
      refine ⟨"int", by decide +kernel, go (b' := b) ?_ q⟩
      cases hf
      rcases cases6 with e | e | e | e | e | e <;> subst e <;> decide +kernel
    · split at hf
      · rename_i e
        subst e
        refine ⟨"bool", by decide +kernel, go (b' := b) ?_ q⟩
        cases hf
        rcases cases6 with e | e | e | e | e | e <;> subst e <;> decide +kernel
      · split at hf
        · rename_i e
          subst e
          refine ⟨"tuple", by decide +kernel, go (b' := b) ?_ q⟩
          cases hf
          rcases cases6 with e | e | e | e | e | e <;> subst e <;> decide +kernel
        · split at hf
          · rename_i e
            subst e
            refine ⟨"str", by decide +kernel, go (b' := b) ?_ q⟩
            cases hf
            rcases cases6 with e | e | e | e | e | e <;> subst e <;> decide +kernel
          · split at hf
            · rename_i e
              subst e
              refine ⟨"list", by decide +kernel, go (b' := b) ?_ q⟩
              cases hf
              rcases cases6 with e | e | e | e | e | e <;> subst e <;> decide +kernel
            · cases hf
end
end Ev

set_option linter.all false
set_option maxRecDepth 100000
set_option maxHeartbeats 1000000
/-! Ev.Z: zip and enumerate over lists and tuples in any mix -/
namespace PySem
section
set_option maxHeartbeats 1000000 in
theorem meets_enumerate_newB1 {v : Value} {o : Obj} {H : Heap → Prop} (B : Begins v o H) :
    Meets (Builtin.«enumerate.__new__» ⟨[.type "enumerate", v], []⟩) (fun _ R s => H s.heap ∧
      R (.ok (.ret (.ref (s.heap.push o).objs.size))) { s with heap := (s.heap.push o).push { cls := .type "enumerate", data := .fields #[.none, .bool false, .ref s.heap.objs.size, rawInt 0, .none, .none] } }) :=
  .of_wp fun prog w A R s h => by
    obtain ⟨hp, g, d, tk, os⟩ := s; obtain ⟨h1, h⟩ := h
    have hsub := sub_enumerate
    have q1 : ∀ {A' : Around} {E : Value → Shared → Prop} {Q : Value → Shared → Prop}, Q (.ref hp.objs.size) ⟨hp.push o, g, d, tk, os⟩ → wpAny (model prog w) A' (pyIter v) Q E ⟨hp, g, d, tk, os⟩ :=
      fun q => B.iter prog w _ _ ⟨hp, g, d, tk, os⟩ _ h1 q
    wp_walk using q1
    refine wpAny_stack_any fun st => wpAny_pure ?_
    split
    · rename_i c _ _ _ _ _
      cases (c == Value.type "enumerate")
      · wp_walk using q1
        exact ⟨_, rfl, h⟩
      · wp_walk using q1
        exact ⟨_, rfl, h⟩
    · wp_walk using q1
      exact ⟨_, rfl, h⟩
variable {prog : Program} {w : World} {A : Around} {E : Value → Shared → Prop} {s : Shared}
theorem enum_begins1 {v : Value} {o : Obj} {H : Heap → Prop} {Q : Value → Shared → Prop} (B : Begins v o H) (h1 : H s.heap)
    (h : ∀ h', IsEnum h' (s.heap.objs.size + 1) s.heap.objs.size 0 .none → h'.get? s.heap.objs.size = some o → h'.objs.size = s.heap.objs.size + 2 →
      (∀ b o, s.heap.get? b = some o → h'.get? b = some o) → Q (.ref (s.heap.objs.size + 1)) { s with heap := h' }) :
    wpAny (model prog w) A (call (.type "enumerate") [v]) Q E s := by
  refine callType_new F.called_enumerate (by decide) (F.typeCall_enumerate_1 _) (F.newCall_enumerate_1 _) (fun obj => F.args_object_init_2 obj _) F.entry_enumerate_new
    (meets_enumerate_newB1 B) ⟨h1, ?_⟩
  have hz : (s.heap.push o).objs.size = s.heap.objs.size + 1 := Heap.size_push ..
  show _ ∧ _
  rw [hz]
  have he : IsEnum ((s.heap.push o).push { cls := .type "enumerate", data := .fields #[.none, .bool false, .ref s.heap.objs.size, rawInt 0, .none, .none] }) (s.heap.objs.size + 1) s.heap.objs.size 0 .none := by
    have := Heap.get?_push_size (s.heap.push o) (o := { cls := .type "enumerate", data := .fields #[.none, .bool false, .ref s.heap.objs.size, rawInt 0, .none, .none] }) rfl
    rw [hz] at this; exact this
  refine ⟨⟨_, he, rfl⟩, h _ he (Heap.get?_push_of_some _ (Heap.get?_push_size _ B.free)) (by rw [Heap.size_push, hz]) fun b o x => Heap.get?_push_of_some _ (Heap.get?_push_of_some _ x)⟩
end
end PySem
namespace Ev
open PySem PySem.Spec L2
/-- a list (false) or a tuple (true) that is read -/
def SqS (K : PySem.W.Frag) (H : Hp) (a : Addr) (k : Bool) (xs : List V) : Prop := match k with
  | false => SqL K H a xs
  | true => SqT K H a xs
def ItAt (h : Heap) (it a : Addr) (k : Bool) (i : Nat) : Prop := match k with
  | false => h.IsListIter it a i
  | true => h.IsTupleIter it a i
def SrcAt (h : Heap) (a : Addr) (k : Bool) (its : Array Value) : Prop := match k with
  | false => h.IsList a its
  | true => h.IsTuple a its
def itObj (a : Addr) : Bool → Obj
  | false => { cls := .type "list_iterator", data := .fields #[.ref a, .int 0 0] }
  | true => { cls := .type "tuple_iterator", data := .fields #[.ref a, .int 0 0] }
theorem begins_src (a : Addr) (k : Bool) (its : Array Value) : Begins (.ref a) (itObj a k) fun h => SrcAt h a k its := by
  cases k
  · exact begins_list a its
  · exact begins_tuple a its
theorem itAt_new {h : Heap} {it a : Addr} {k : Bool} (e : h.get? it = some (itObj a k)) : ItAt h it a k 0 := by
  cases k
  · exact ⟨_, e, rfl, rfl⟩
  · exact ⟨_, e, rfl, rfl⟩
theorem itAt_at {h h' : Heap} {it a : Addr} {k : Bool} {i : Nat} (x : ItAt h it a k i) (e : ∀ o, h.get? it = some o → h'.get? it = some o) : ItAt h' it a k i := by
  cases k
  · exact Heap.IsListIter.at x e
  · exact Heap.IsTupleIter.at x e
theorem itAt_obj {h : Heap} {it a : Addr} {k : Bool} {i : Nat} (x : ItAt h it a k i) : ∃ o, h.get? it = some o ∧ ∀ v, o.data ≠ .cell v := by
  cases k
  · obtain ⟨o, e, _, d⟩ := x; exact ⟨o, e, fun v z => by rw [d] at z; cases z⟩
  · obtain ⟨o, e, _, d⟩ := x; exact ⟨o, e, fun v z => by rw [d] at z; cases z⟩
theorem draws_src {prog : Program} {w : World} {A : Around} (hh : A.handled = none) (it a : Addr) (k : Bool) (hne : a ≠ it) (items : Array Value) :
    Draws prog w A it [it, a] items.size (fun i v => items[i]? = some v) (fun i h => ItAt h it a k i ∧ SrcAt h a k items) := by
  cases k
  · exact Draws.list hh it a hne items
  · exact Draws.tuple hh it a hne items
section
variable {X : Cx} {pins : List (Addr × Obj)} {σ : St} {H : Hp} {s : Shared} {a : Addr} {k : Bool} {xs ys : List V}
theorem src_of (I : Inv X pins σ H s) (h : SqS X.K H a k xs) : ∃ its : List Value, Vals xs its ∧ SrcAt s.heap a k its.toArray ∧ a < s.heap.objs.size := by
  cases k
  · obtain ⟨its, r, p, _⟩ := I.list h; exact ⟨its, r, p.isList, p.lt⟩
  · obtain ⟨its, r, p, _⟩ := I.tuple h; exact ⟨its, r, p, p.lt⟩
theorem src_inj (I : Inv X pins σ H s) (h : SqS X.K H a k xs) (h' : SqS X.K H a k ys) : xs = ys := by
  cases k
  · exact I.list_inj h h'
  · exact I.tuple_inj h h'
end
/-- pairs of two of them -/
def ItM (K : PySem.W.Frag) (a : Addr) (k : Bool) (b : Addr) (k' : Bool) : It :=
  ⟨fun i H => ∃ (xs ys : List V) (x y : V), SqS K H a k xs ∧ SqS K H b k' ys ∧ xs[i]? = some x ∧ ys[i]? = some y,
    fun i H v H' => ∃ T x y, v = .ref T ∧ H T = none ∧ H' = upd H T (.tup [x, y]) ∧ (∀ xs, SqS K H a k xs → xs[i]? = some x) ∧ ∀ ys, SqS K H b k' ys → ys[i]? = some y,
    fun i H => ∃ xs ys : List V, SqS K H a k xs ∧ SqS K H b k' ys ∧ min xs.length ys.length = i⟩
theorem turn_zipM {P : Program} {w : World} {K : PySem.W.Frag} {elts : List Expr} {kk : Nat} {tpos : Pos} {a b z TI TO i1 i2 : Addr} {k k' : Bool} (S : ZipSep2 z TI TO i1 i2 [i1, a] [i2, b]) (n1 : a ≠ i1) (n2 : b ≠ i2) :
    Turn P w K (.Tuple elts kk tpos) (ItM K a k b k') [z, TI, TO, i1, i2] z (fun i h => IsZip h z TI TO .none ∧ IsTupOf2 h TI (.ref i1) (.ref i2) ∧ (∃ x y, IsTupOf2 h TO x y) ∧ ItAt h i1 a k i ∧ ItAt h i2 b k' i) where
  mem := by simp
  obj := fun i h st c hc => by
    obtain ⟨hz, hTI, ⟨x, y, hTO⟩, h1, h2⟩ := st
    have e' : c = z ∨ c = TI ∨ c = TO ∨ c = i1 ∨ c = i2 := by simpa using hc
    rcases e' with q | q | q | q | q
    · rw [q]; exact ⟨_, hz, fun v q => nomatch q⟩
    · rw [q]; exact ⟨_, hTI, fun v q => nomatch q⟩
    · rw [q]; exact ⟨_, hTO, fun v q => nomatch q⟩
    · rw [q]; exact itAt_obj h1
    · rw [q]; exact itAt_obj h2
  keep := fun i h h' st kp => by
    obtain ⟨hz, hTI, ⟨x, y, hTO⟩, h1, h2⟩ := st
    exact ⟨kp z (by simp) _ hz, kp TI (by simp) _ hTI, ⟨x, y, kp TO (by simp) _ hTO⟩, itAt_at h1 fun o q => kp i1 (by simp) o q, itAt_at h2 fun o q => kp i2 (by simp) o q⟩
  item := by
    intro X hP hw hK hc i pins s σ H E I hf st hg
    subst hP hw hK
    obtain ⟨hz, hTI, hTO, h1, h2⟩ := st
    obtain ⟨xs, ys, x, y, hqx, hqy, hx, hy⟩ := hg
    obtain ⟨its, rv, p, _⟩ := src_of I hqx
    obtain ⟨its2, rv2, p2, _⟩ := src_of I hqy
    obtain ⟨u, hu, ru⟩ := rv.get hx
    obtain ⟨u2, hu2, ru2⟩ := rv2.get hy
    have hd := I.ok.hd hc
    have D1 := draws_src (prog := X.prog) (w := X.w) (A := X.A.in1) hd i1 a k n1 its.toArray
    have D2 := draws_src (prog := X.prog) (w := X.w) (A := X.A.in1) hd i2 b k' n2 its2.toArray
    have W := GoesN.zip2 (elts := elts) (x1 := kk) (pos := tpos) S D1 D2
    have hi1 : i < its.toArray.size := by
      have := (List.getElem?_eq_some_iff.mp hu).1
      simpa using this
    have hi2 : i < its2.toArray.size := by
      have := (List.getElem?_eq_some_iff.mp hu2).1
      simpa using this
    refine thn (W.goes i s (fun v s2 => ∃ x H', Inv X pins σ H' s2 ∧ RelV x v ∧ (ItM X.K a k b k').yld i H x H' ∧ (IsZip s2.heap z TI TO .none ∧ IsTupOf2 s2.heap TI (.ref i1) (.ref i2) ∧ (∃ x y, IsTupOf2 s2.heap TO x y) ∧ ItAt s2.heap i1 a k (i + 1) ∧ ItAt s2.heap i2 b k' (i + 1)) ∧ ∀ c ∈ [z, TI, TO, i1, i2], H' c = none) E (by omega) ⟨hz, hTI, hTO, ⟨h1, p⟩, h2, p2⟩ fun v h' tk Y st' keep _ => ?_) fun r s1 q => q
    obtain ⟨T, u', u2', rfl, hT, e1, e2, hTup⟩ := Y
    have eu : u' = u := by
      have q : its.toArray[i]? = some u := by simpa using hu
      rw [q] at e1; exact (Option.some.inj e1).symm
    have eu2 : u2' = u2 := by
      have q : its2.toArray[i]? = some u2 := by simpa using hu2
      rw [q] at e2; exact (Option.some.inj e2).symm
    subst eu; subst eu2
    have new : ObjOk X.prog X.w (upd H T (.tup [x, y])) h' T (.tup [x, y]) := ⟨by show 2 ≤ sizeLine; decide, [u', u2'], .cons ru (.cons ru2 .nil), hTup⟩
    have I1 : Inv X pins σ (upd H T (.tup [x, y])) { s with heap := h', toks := tk } :=
      I.turnedNew (t' := tk) (ch := [z, TI, TO, i1, i2]) (fun c o hb q => keep c o (fun q' => hb (by
        have e' : c = z ∨ c = TO ∨ c = i1 ∨ c = i2 := by simpa using q'
        rcases e' with e' | e' | e' | e' <;> simp [e'])) q) hf hT new
    refine ⟨.ref T, _, I1, rfl, ⟨T, x, y, rfl, I.hok.fresh hT, rfl, fun l hl => by rw [src_inj I hl hqx]; exact hx, fun l hl => by rw [src_inj I hl hqy]; exact hy⟩, ⟨st'.1, st'.2.1, st'.2.2.1, st'.2.2.2.1.1, st'.2.2.2.2.1⟩, fun c hcm => ?_⟩
    have hlt : c < s.heap.objs.size := by
      have e' : c = z ∨ c = TI ∨ c = TO ∨ c = i1 ∨ c = i2 := by simpa using hcm
      rcases e' with q | q | q | q | q
      · rw [q]; exact Heap.lt_size hz
      · rw [q]; exact Heap.lt_size hTI
      · rw [q]; obtain ⟨_, _, q⟩ := hTO; exact Heap.lt_size q
      · rw [q]; obtain ⟨_, e1, _⟩ := itAt_obj h1; exact Heap.lt_size e1
      · rw [q]; obtain ⟨_, e2, _⟩ := itAt_obj h2; exact Heap.lt_size e2
    rw [upd_ne (Nat.ne_of_lt (Nat.lt_of_lt_of_le hlt hT))]
    exact (hf c hcm).1
  done := by
    intro X hP hw hK hc i pins s σ H E I hf st hg
    subst hP hw hK
    obtain ⟨hz, hTI, hTO, h1, h2⟩ := st
    obtain ⟨xs, ys, hqx, hqy, hend⟩ := hg
    obtain ⟨its, rv, p, _⟩ := src_of I hqx
    obtain ⟨its2, rv2, p2, _⟩ := src_of I hqy
    have hd := I.ok.hd hc
    have D1 := draws_src (prog := X.prog) (w := X.w) (A := X.A.in1) hd i1 a k n1 its.toArray
    have D2 := draws_src (prog := X.prog) (w := X.w) (A := X.A.in1) hd i2 b k' n2 its2.toArray
    have W := GoesN.zip2 (elts := elts) (x1 := kk) (pos := tpos) S D1 D2
    have en : min its.toArray.size its2.toArray.size = i := by
      rw [List.size_toArray, List.size_toArray, ← rv.length, ← rv2.length]; exact hend
    rw [← en] at h1 h2
    refine W.stops s (fun s1 => Inv X pins σ H s1) E ⟨hz, hTI, hTO, ⟨h1, p⟩, h2, p2⟩ fun h' tk keep _ => ?_
    exact I.turnedL (t' := tk) (ch := [z, TI, TO, i1, i2]) (fun c o hb q => keep c o (fun q' => hb (by
        have e' : c = z ∨ c = TO ∨ c = i1 ∨ c = i2 := by simpa using q'
        rcases e' with e' | e' | e' | e' <;> simp [e'])) q) hf
  self := fun A i s Q E st h => wpAny_pyIter_zip st.1 h
/-- counted from 0 -/
def ItN (K : PySem.W.Frag) (a : Addr) (k : Bool) : It :=
  ⟨fun i H => ∃ (xs : List V) (x : V), SqS K H a k xs ∧ xs[i]? = some x,
    fun i H v H' => ∃ T x, v = .ref T ∧ H T = none ∧ H' = upd H T (.tup [.int (i : Nat), x]) ∧ ∀ xs, SqS K H a k xs → xs[i]? = some x,
    fun i H => ∃ xs : List V, SqS K H a k xs ∧ xs.length = i⟩
theorem turn_enumM {P : Program} {w : World} {K : PySem.W.Frag} {elts : List Expr} {kk : Nat} {tpos : Pos} {a e it : Addr} {k : Bool} (n1 : a ≠ it) (n2 : e ≠ it) (n3 : e ≠ a) :
    Turn P w K (.Tuple elts kk tpos) (ItN K a k) [e, it] e (fun i h => (∃ old, IsEnum h e it ((0 : Int) + (i : Int)) old) ∧ ItAt h it a k i) where
  mem := by simp
  obj := fun i h st c hc => by
    obtain ⟨⟨old, he⟩, h1⟩ := st
    have e' : c = e ∨ c = it := by simpa using hc
    rcases e' with q | q
    · rw [q]; exact ⟨_, he, fun v q => nomatch q⟩
    · rw [q]; exact itAt_obj h1
  keep := fun i h h' st kp => by
    obtain ⟨⟨old, he⟩, h1⟩ := st
    exact ⟨⟨old, kp e (by simp) _ he⟩, itAt_at h1 fun o q => kp it (by simp) o q⟩
  item := by
    intro X hP hw hK hc i pins s σ H E I hf st hg
    subst hP hw hK
    obtain ⟨he, h1⟩ := st
    obtain ⟨xs, x, hqx, hx⟩ := hg
    obtain ⟨its, rv, p, _⟩ := src_of I hqx
    obtain ⟨u, hu, ru⟩ := rv.get hx
    have hd := I.ok.hd hc
    have D1 := draws_src (prog := X.prog) (w := X.w) (A := X.A.in1) hd it a k n1 its.toArray
    have W := GoesN.enumFrom (elts := elts) (x1 := kk) (pos := tpos) 0 D1 e n2 (by simp [n2, n3]) (by simp)
    have hi1 : i < its.toArray.size := by
      have := (List.getElem?_eq_some_iff.mp hu).1
      simpa using this
    refine thn (W.goes i s (fun v s2 => ∃ x H', Inv X pins σ H' s2 ∧ RelV x v ∧ (ItN X.K a k).yld i H x H' ∧ ((∃ old, IsEnum s2.heap e it ((0 : Int) + ((i + 1 : Nat) : Int)) old) ∧ ItAt s2.heap it a k (i + 1)) ∧ ∀ c ∈ [e, it], H' c = none) E hi1 ⟨he, h1, p⟩ fun v h' tk Y st' keep _ => ?_) fun r s1 q => q
    obtain ⟨T, t', u', rfl, hT, e1, hTup⟩ := Y
    have eu : u' = u := by
      have q : its.toArray[i]? = some u := by simpa using hu
      rw [q] at e1; exact (Option.some.inj e1).symm
    subst eu
    have e0 : (0 : Int) + (i : Int) = (i : Int) := by omega
    rw [e0] at hTup
    have new : ObjOk X.prog X.w (upd H T (.tup [.int (i : Nat), x])) h' T (.tup [.int (i : Nat), x]) := ⟨by show 2 ≤ sizeLine; decide, [.int i t', u'], .cons ⟨t', rfl⟩ (.cons ru .nil), hTup⟩
    have I1 : Inv X pins σ (upd H T (.tup [.int (i : Nat), x])) { s with heap := h', toks := tk } :=
      I.turnedNew (t' := tk) (ch := [e, it]) (fun c o hb q => keep c o hb q) hf hT new
    refine ⟨.ref T, _, I1, rfl, ⟨T, x, rfl, I.hok.fresh hT, rfl, fun l hl => by rw [src_inj I hl hqx]; exact hx⟩, ⟨st'.1, st'.2.1⟩, fun c hcm => ?_⟩
    have hlt : c < s.heap.objs.size := by
      have e' : c = e ∨ c = it := by simpa using hcm
      rcases e' with q | q
      · rw [q]; obtain ⟨_, q⟩ := he; exact Heap.lt_size q
      · rw [q]; obtain ⟨_, e1, _⟩ := itAt_obj h1; exact Heap.lt_size e1
    rw [upd_ne (Nat.ne_of_lt (Nat.lt_of_lt_of_le hlt hT))]
    exact (hf c hcm).1
  done := by
    intro X hP hw hK hc i pins s σ H E I hf st hg
    subst hP hw hK
    obtain ⟨he, h1⟩ := st
    obtain ⟨xs, hqx, hend⟩ := hg
    obtain ⟨its, rv, p, _⟩ := src_of I hqx
    have hd := I.ok.hd hc
    have D1 := draws_src (prog := X.prog) (w := X.w) (A := X.A.in1) hd it a k n1 its.toArray
    have W := GoesN.enumFrom (elts := elts) (x1 := kk) (pos := tpos) 0 D1 e n2 (by simp [n2, n3]) (by simp)
    have en : its.toArray.size = i := by
      rw [List.size_toArray, ← rv.length]; exact hend
    rw [← en] at h1 he
    refine W.stops s (fun s1 => Inv X pins σ H s1) E ⟨he, h1, p⟩ fun h' tk keep _ => ?_
    exact I.turnedL (t' := tk) (ch := [e, it]) (fun c o hb q => keep c o hb q) hf
  self := fun A i s Q E st h => by
    obtain ⟨⟨old, he⟩, _⟩ := st
    exact wpAny_pyIter_enum he h
def iZipM (K : PySem.W.Frag) (ta : TA) : TI := fun σ H R => ta σ H fun vs H1 => ∃ a b k k' xs ys, vs = [.ref a, .ref b] ∧ SqS K H1 a k xs ∧ SqS K H1 b k' ys ∧ R (ItM K a k b k') H1
theorem pi_zipM {X : Cx} {e e2 : Expr} {ta : TA} {p pos tpos : Pos} {elts : List Expr} {kk : Nat} (hg : Gl X "zip") (hm : X.mg "zip" = none) (ha : PA X [e, e2] ta)
    (hs : starEach [e, e2] X.env = (false, eval e X.env) :: starEach [e2] X.env) (hpl : (backTo pos (starEach [e2] X.env)).any (·.1) = false) :
    PI X (.Tuple elts kk tpos) (.Call (.Name "zip" p) [e, e2] [] pos) (iZipM X.K ta) := by
  refine ⟨fun pins s σ H R I h => ?_⟩
  refine PyProof.Rows.Call_ (ld_blt I hg hm PyProof.Rows.boot_zip (PyProof.Rows.callWith_type1 (thn (ha.run pos pins s σ H _ I h) fun us s1 ⟨vs, H1, I1, r1, q1⟩ => ?_) hs hpl))
  obtain ⟨a, b, k, k', xs, ys, ex, hqx, hqy, q⟩ := q1
  subst ex
  cases r1 with
  | cons r rr =>
    cases rr with
    | cons r' rr =>
      cases rr
      cases r
      cases r'
      obtain ⟨its, rv, p1, l1⟩ := src_of I1 hqx
      obtain ⟨its2, rv2, p2, l2⟩ := src_of I1 hqy
      refine zip_begins2 (begins_src a k its.toArray) (begins_src b k' its2.toArray) p1 p2 fun h' hz hTI hTO g1 g2 hsz hk => wpAny_pyIter_zip hz ?_
      have I2 : Inv X pins σ H1 { s1 with heap := h' } := I1.kept (t' := s1.toks) hk
      have n1 : a ≠ s1.heap.objs.size := Nat.ne_of_lt l1
      have n2 : b ≠ s1.heap.objs.size + 1 := Nat.ne_of_lt (Nat.lt_succ_of_lt l2)
      refine ⟨s1.heap.objs.size + 4, [s1.heap.objs.size + 4, s1.heap.objs.size + 2, s1.heap.objs.size + 3, s1.heap.objs.size, s1.heap.objs.size + 1], _, _, H1, rfl, I2,
        turn_zipM (zip_sep2 (N := s1.heap.objs.size) (fp1 := [a]) (fp2 := [b]) (by simpa using l1) (by simpa using l2)) n1 n2, ⟨hz, hTI, ⟨_, _, hTO⟩, itAt_new g1, itAt_new g2⟩, fun c hcm => ?_, q⟩
      have e' : c = s1.heap.objs.size + 4 ∨ c = s1.heap.objs.size + 2 ∨ c = s1.heap.objs.size + 3 ∨ c = s1.heap.objs.size ∨ c = s1.heap.objs.size + 1 := by simpa using hcm
      have hle : s1.heap.objs.size ≤ c := by
        rcases e' with z | z | z | z | z
        · rw [z]; exact Nat.le_add_right _ _
        · rw [z]; exact Nat.le_add_right _ _
        · rw [z]; exact Nat.le_add_right _ _
        · rw [z]; exact Nat.le_refl _
        · rw [z]; exact Nat.le_add_right _ _
      exact I1.fpOk hle (I1.hok.fresh hle)
def iEnumM (K : PySem.W.Frag) (ta : TA) : TI := fun σ H R => ta σ H fun vs H1 => ∃ a k xs, vs = [.ref a] ∧ SqS K H1 a k xs ∧ R (ItN K a k) H1
theorem pi_enumM {X : Cx} {e : Expr} {ta : TA} {p pos tpos : Pos} {elts : List Expr} {kk : Nat} (hg : Gl X "enumerate") (hm : X.mg "enumerate" = none) (ha : PA X [e] ta)
    (hs : starEach [e] X.env = [(false, eval e X.env)]) : PI X (.Tuple elts kk tpos) (.Call (.Name "enumerate" p) [e] [] pos) (iEnumM X.K ta) := by
  refine ⟨fun pins s σ H R I h => ?_⟩
  refine PyProof.Rows.Call_ (ld_blt I hg hm PyProof.Rows.boot_enumerate (PyProof.Rows.callWith_type1 (thn (ha.run pos pins s σ H _ I h) fun us s1 ⟨vs, H1, I1, r1, q1⟩ => ?_) hs rfl))
  obtain ⟨a, k, xs, ex, hq, q⟩ := q1
  subst ex
  cases r1 with
  | cons r rr =>
    cases rr
    cases r
    obtain ⟨its, rv, p1, l1⟩ := src_of I1 hq
    refine enum_begins1 (begins_src a k its.toArray) p1 fun h' he g1 hsz hk => wpAny_pyIter_enum he ?_
    have I2 : Inv X pins σ H1 { s1 with heap := h' } := I1.kept (t' := s1.toks) hk
    have n1 : a ≠ s1.heap.objs.size := Nat.ne_of_lt l1
    have n3 : s1.heap.objs.size + 1 ≠ a := Nat.ne_of_gt (Nat.lt_succ_of_lt l1)
    refine ⟨s1.heap.objs.size + 1, [s1.heap.objs.size + 1, s1.heap.objs.size], _, _, H1, rfl, I2, turn_enumM n1 (Nat.succ_ne_self _) n3, ⟨⟨_, he⟩, itAt_new g1⟩, fun c hcm => ?_, q⟩
    have e' : c = s1.heap.objs.size + 1 ∨ c = s1.heap.objs.size := by simpa using hcm
    have hle : s1.heap.objs.size ≤ c := by
      rcases e' with z | z
      · rw [z]; exact Nat.le_add_right _ _
      · rw [z]; exact Nat.le_refl _
    exact I1.fpOk hle (I1.hok.fresh hle)
end Ev

set_option linter.all false
set_option maxRecDepth 100000
set_option maxHeartbeats 1000000
/-! Ev.H: contexts, names, arguments, targets, calls -/
namespace Ev
open PySem PySem.Spec L2
/-- a def's promise: what the evaluator says of it -/
def spEv (G : Env1) (xr : XR) (Φ : Orc) (n : Nat) : Sp := fun vs H Q E => ∃ P ρ st args, Rel G.K G.fa P ρ ⟨[], st⟩ [] H ∧ RVs G.K G.fa ρ (cut H ρ) args vs ∧
  match Φ n args st with
  | .ok r st' => ∀ ρ' H' V, Rel G.K G.fa P ρ' ⟨[], st'⟩ [] H' → Ext ρ H ρ' H' → RER G.K G.fa ρ' [] H' r V → Q V H'
  | .exc x st' => ∀ ρ' H' cls d, Rel G.K G.fa P ρ' ⟨[], st'⟩ [] H' → Ext ρ H ρ' H' → xr x cls d H' → E cls d H'
  | .bad => False
/-- the names that the evaluator treats as built-in -/
def biNames : List Str := ["len", "all", "any", "sum", "abs", "tuple", "list", "int", "max", "min", "isinstance", "bool", "str", "range", "zip", "enumerate", "repr", "sorted", "set"]
structure GlobOk (G : Env1) (C : CC) (Φ : Orc) (xr : XR) (X : Cx) : Prop where
  const : ∀ x v, C.glob.lookup x = some (.const v) → ∃ u V, X.mg x = some u ∧ RelV V u ∧ ∀ ρ T, RV G.K G.fa ρ T v V
  fn : ∀ x n, C.glob.lookup x = some (.fn n) → X.mg x = some (.ref (G.fa n)) ∧ ∃ k fd ps, FnG X.prog X.w X.K X.mg X.base (L2.CX X.prog X.w) k (G.fa n) fd ps (spEv G xr Φ n) ∧ RoomG k X.A ∧ PySem.W.keepIn X.K (.ref (G.fa n)) = true ∧ Binds X.K fd ps []
  bi : ∀ x, x ∈ biNames → C.glob.lookup x = none → X.mg x = none
  dbg : ∀ x g, C.glob.lookup x = some g → (x == ("__debug__" : Str)) = false
  loc : ∀ x i, C.N.idxOf? x = some i → (x == ("__debug__" : Str)) = false ∧ (x == ("__classdict__" : Str)) = false
structure CxE (G : Env1) (C : CC) (Φ : Orc) (xr : XR) (sc wr : Scope) (X : Cx) (W : WX) : Prop where
  hK : X.K = G.K
  hN : X.N = C.N
  nd : X.N.Nodup
  hsc : X.env.scope = sc
  calm : X.calm = true
  units : X.A.units + 64 < cLine
  gd : X.A.guards = some [] ∧ X.A.units + 70 < cLine
  g : GlobOk G C Φ xr X
  tk : Takes X W
  wr : ∀ x, isLoc wr x = true → Loc sc x ∧ (X.fn x = true ∨ sc.names.lookup x = some .local)
theorem takesF {X : Cx} : Takes X (fun _ _ _ _ => False) := fun _ _ x => by
  obtain ⟨_, _, _, _, _, _, _, _, _, _, _, _, _, _, _, _, z⟩ := x
  exact z.elim
theorem isLoc_iff {sc : Scope} {x : Str} (h : isLoc sc x = true) : sc.names.lookup x = some .local ∨ sc.names.lookup x = some .cell := by
  unfold isLoc at h
  split at h
  · exact .inl (by assumption)
  · exact .inr (by assumption)
  · cases h
theorem isVis_iff {sc : Scope} {x : Str} (h : isVis sc x = true) : Vis sc x := by
  unfold isVis at h
  split at h
  · exact .inl (by assumption)
  · exact .inr (.inl (by assumption))
  · exact .inr (.inr (by assumption))
  · cases h
theorem isGl_iff {sc : Scope} {x : Str} (h : isGl sc x = true) : sc.names.lookup x = some .globalImplicit := by
  unfold isGl at h
  split at h
  · assumption
  · cases h
theorem idx_get {N : List Str} {x : Str} {i : Nat} (h : N.idxOf? x = some i) : N[i]? = some x := by
  rw [List.idxOf?_eq_some_iff] at h
  obtain ⟨h1, h2, _⟩ := h
  rw [List.getElem?_eq_getElem h1]
  exact congrArg some (by simpa using h2)
section
variable {G : Env1} {C : CC} {Φ : Orc} {xr : XR} {sc wr : Scope} {X : Cx} {W : WX} {P : Hp}
theorem CxE.gl (c : CxE G C Φ xr sc wr X W) {x : Str} (h : isGl sc x = true) : Gl X x := by
  unfold Gl
  show X.env.scope.names.lookup x = _
  rw [c.hsc]; exact isGl_iff h
abbrev rdE (G : Env1) (xr : XR) (P : Hp) (W : WX) (m : M RE) : TE := rd G xr P (RER G.K G.fa) W m
abbrev rdT (G : Env1) (xr : XR) (P : Hp) (W : WX) (m : M Bool) : TT := rd G xr P (fun _ _ _ a b => a = b) W m
abbrev rdA (G : Env1) (xr : XR) (P : Hp) (W : WX) (m : M (List RE)) : TA := rd G xr P (RERs G.K G.fa) W m

/-! ### names, constants -/
theorem rdSlot_ok {i : Nat} {σ : St} {H : Hp} {Q : VK} (h : rdE G xr P W (rdSlot i) σ H Q) : tVar i σ H Q := by
  obtain ⟨ρ, s, R0, h⟩ := h
  unfold rdSlot at h
  have q := R0.slot i
  split at h
  · rename_i v e
    rw [e] at q
    obtain ⟨_, V, h2, h3⟩ := q
    exact ⟨V, h2, rdRet R0 h h3⟩
  · rename_i c e
    rw [e] at q
    obtain ⟨a, h1, h2, h3⟩ := q
    exact ⟨.ref a, h2, rdRet R0 h h2⟩
  · exact h.elim
theorem name_ok (c : CxE G C Φ xr sc wr X W) {x : Str} {p : Pos} : PE X (.Name x p) (rdE G xr P W (nameM C sc x)) := by
  unfold nameM
  by_cases h1 : isVis sc x = true
  · rw [if_pos h1]
    split
    · rename_i i hi
      obtain ⟨d1, d2⟩ := c.g.loc x i hi
      exact (pe_var (i := i) (by rw [c.hN]; exact idx_get hi) (by rw [c.hsc]; exact isVis_iff h1) d1 d2).imp fun σ H Q h => rdSlot_ok h
    · exact ⟨fun pins s σ H Q I h => by obtain ⟨_, _, _, h⟩ := h; exact h.elim⟩
  · rw [if_neg h1]
    by_cases h2 : isGl sc x = true
    · rw [if_pos h2]
      split
      · rename_i v e
        obtain ⟨u, V, m1, m2, m3⟩ := c.g.const x v e
        exact (pe_glob (c.gl h2) m1 m2 (c.g.dbg x _ e)).imp fun σ H Q ⟨ρ, s, R0, h⟩ => rdRet R0 h (m3 ρ _)
      · rename_i n e
        exact (pe_glob (v := .ref (G.fa n)) (c.gl h2) (c.g.fn x n e).1 rfl (c.g.dbg x _ e)).imp fun σ H Q ⟨ρ, s, R0, h⟩ => rdRet R0 h (.fn n)
      · exact ⟨fun pins s σ H Q I h => by obtain ⟨_, _, _, h⟩ := h; exact h.elim⟩
    · rw [if_neg h2]
      exact ⟨fun pins s σ H Q I h => by obtain ⟨_, _, _, h⟩ := h; exact h.elim⟩
theorem bad_ok {e : Expr} : PE X e (rdE G xr P W bad) := ⟨fun pins s σ H Q I h => by obtain ⟨_, _, _, h⟩ := h; exact h.elim⟩
theorem badT_ok {e : Expr} : PT X e (rdT G xr P W bad) := ⟨fun pins s σ H Q I h => by obtain ⟨_, _, _, h⟩ := h; exact h.elim⟩
theorem const_ok {k : Const} {j : Nat} {p : Pos} : PE X (.Constant k j p) (rdE G xr P W (constM k)) := by
  cases k <;> first | exact bad_ok | skip
  · exact pe_non.imp fun σ H Q ⟨ρ, s, R0, h⟩ => rdRet R0 h .non
  · exact pe_bl.imp fun σ H Q ⟨ρ, s, R0, h⟩ => rdRet R0 h (.bl _)
  · exact pe_int.imp fun σ H Q ⟨ρ, s, R0, h⟩ => rdRet R0 h (.int _)
  · exact pe_str.imp fun σ H Q ⟨ρ, s, R0, h⟩ => rdRet R0 h (.str _)

/-! ### arguments -/
theorem starEach_plain {e : Expr} {es : List Expr} {env : Env} (h : notStar e = true) : starEach (e :: es) env = (false, eval e env) :: starEach es env := by
  cases e <;> first | rfl | cases h
theorem plain_of {env : Env} {pos : Pos} : ∀ {es : List Expr}, es.all notStar = true → (backTo pos (starEach es env)).any (·.1) = false
  | [], _ => rfl
  | e :: es, h => by
    simp only [List.all_cons, Bool.and_eq_true] at h
    rw [starEach_plain h.1]
    show ((false, _) :: backTo pos (starEach es env)).any (·.1) = false
    rw [List.any_cons]
    exact plain_of h.2
theorem args_ok {f : Expr → M RE} (hf : ∀ e, PE X e (rdE G xr P W (f e))) : ∀ {es : List Expr}, PA X es (rdA G xr P W (evList f es))
  | [] => pa_nil.imp fun σ H Q ⟨ρ, s, R0, h⟩ => rdRet R0 h (r := []) (b := []) trivial
  | e :: es => by
    unfold evList
    by_cases hn : notStar e = true
    · rw [if_pos hn]
      refine (pa_cons (hf e) (args_ok hf (es := es)) (starEach_plain hn)).imp fun σ H Q ⟨ρ, s, R0, h⟩ => ?_
      refine rd_mono (seq R0 h) ?_
      rintro x H1 ⟨r, ρ1, s1, R1, E1, hx, h1⟩
      obtain ⟨ρ2, R2, E2, hx2⟩ := R1.hold hx
      refine rd_mono (seq R2 (h1.shift E2)) ?_
      rintro xs H3 ⟨rs, ρ3, s3, R3, E3, hxs, h3⟩
      exact rdRet R3 h3 (r := r :: rs) (b := x :: xs) ⟨RER.ext E3 hx2, hxs⟩
    · rw [if_neg hn]
      exact ⟨fun _ pins s σ H Q I h => by obtain ⟨_, _, _, h⟩ := h; exact h.elim⟩
/-! ### handing on -/
theorem share_ok {ρ : Rho} {s s' : ES} {σ : St} {H : Hp} (R0 : Rel G.K G.fa P ρ s σ H) {r : RE} {x : V} {v : PV} (hx : RER G.K G.fa ρ σ H r.norm x) (h : share r s = .ok v s') :
    ∃ ρ', Rel G.K G.fa P ρ' s' σ H ∧ Ext ρ H ρ' H ∧ RV G.K G.fa ρ' (cut H ρ') v x := by
  cases r with
  | val u => cases h; exact ⟨ρ, R0, Ext.refl, hx⟩
  | fresh c => cases h; exact ⟨ρ, R0, Ext.refl, hx⟩
  | pk i =>
    unfold share at h
    have q := R0.slot i
    have hx : σ[i]? = some (some x) := hx
    simp only at h
    split at h
    · rename_i c e
      cases h
      obtain ⟨a, e1, R1, E1, r1⟩ := R0.freeze e
      rw [hx] at e1; cases e1
      exact ⟨_, R1, E1, r1⟩
    · rename_i u e
      cases h
      rw [e] at q
      obtain ⟨_, V, h2, h3⟩ := q
      rw [hx] at h2; cases h2
      exact ⟨ρ, R0, Ext.refl, h3⟩
    · cases h
theorem share_noexc {r : RE} {s s' : ES} {x : Ex} : share r s ≠ .exc x s' := by
  intro h
  cases r with
  | val u => cases h
  | fresh c => cases h
  | pk i =>
    unfold share at h
    simp only at h
    split at h <;> cases h
theorem shares_noexc : ∀ {rs : List RE} {s s' : ES} {x : Ex}, shares rs s ≠ .exc x s'
  | [], _, _, _, h => by cases h
  | r :: rs, s, s', x, h => by
    unfold shares bnd at h
    split at h
    · rename_i v s1 e
      dsimp only at h
      split at h
      · cases h
      · rename_i y s2 e2; cases h; exact shares_noexc e2
      · cases h
    · rename_i y s1 e; cases h; exact share_noexc e
    · cases h
theorem shares_ok {σ : St} {H : Hp} : ∀ {rs : List RE} {ρ : Rho} {s s' : ES} {xs : List V} {vs : List PV}, Rel G.K G.fa P ρ s σ H → RERs G.K G.fa ρ σ H rs xs → shares rs s = .ok vs s' →
    ∃ ρ', Rel G.K G.fa P ρ' s' σ H ∧ Ext ρ H ρ' H ∧ RVs G.K G.fa ρ' (cut H ρ') vs xs
  | [], ρ, s, s', [], vs, R0, _, h => by cases h; exact ⟨ρ, R0, Ext.refl, .nil⟩
  | [], _, _, _, _ :: _, _, _, h, _ => h.elim
  | _ :: _, _, _, _, [], _, _, h, _ => h.elim
  | r :: rs, ρ, s, s', x :: xs, vs, R0, ⟨hx, hxs⟩, h => by
    unfold shares bnd at h
    split at h
    · rename_i v s1 e
      dsimp only at h
      obtain ⟨ρ1, R1, E1, q1⟩ := share_ok R0 hx e
      split at h
      · rename_i us s2 e2
        cases h
        obtain ⟨ρ2, R2, E2, q2⟩ := shares_ok R1 (RERs.ext E1 hxs) e2
        exact ⟨ρ2, R2, E1.trans E2, .cons (q1.mono E2.le E2.box) q2⟩
      · cases h
      · cases h
    · cases h
    · cases h
/-- first the handing on, then f -/
theorem seqShares {α β : Type} {R' : Rho → St → Hp → α → β → Prop} {ρ : Rho} {s : ES} {σ : St} {H : Hp} {rs : List RE} {xs : List V} {f : List PV → M α} {Q : β → Hp → Prop} (R0 : Rel G.K G.fa P ρ s σ H) (hx : RERs G.K G.fa ρ σ H rs xs)
    (h : rdAt G xr P R' W ρ (bnd (shares rs) f s) σ H Q) : ∃ vs s' ρ', Rel G.K G.fa P ρ' s' σ H ∧ Ext ρ H ρ' H ∧ RVs G.K G.fa ρ' (cut H ρ') vs xs ∧ rdAt G xr P R' W ρ' (f vs s') σ H Q := by
  rcases seq0 h with ⟨vs, s', e, h'⟩ | ⟨x, s', e⟩
  · obtain ⟨ρ', R1, E1, q⟩ := shares_ok R0 hx e
    exact ⟨vs, s', ρ', R1, E1, q, h'.shift E1⟩
  · exact absurd e shares_noexc
theorem seqShare {α β : Type} {R' : Rho → St → Hp → α → β → Prop} {ρ : Rho} {s : ES} {σ : St} {H : Hp} {r : RE} {x : V} {f : PV → M α} {Q : β → Hp → Prop} (R0 : Rel G.K G.fa P ρ s σ H) (hx : RER G.K G.fa ρ σ H r.norm x)
    (h : rdAt G xr P R' W ρ (bnd (share r) f s) σ H Q) : ∃ v s' ρ', Rel G.K G.fa P ρ' s' σ H ∧ Ext ρ H ρ' H ∧ RV G.K G.fa ρ' (cut H ρ') v x ∧ rdAt G xr P R' W ρ' (f v s') σ H Q := by
  rcases seq0 h with ⟨v, s', e, h'⟩ | ⟨x, s', e⟩
  · obtain ⟨ρ', R1, E1, q⟩ := share_ok R0 hx e
    exact ⟨v, s', ρ', R1, E1, q, h'.shift E1⟩
  · exact absurd e share_noexc

/-! ### a call of a def -/
open Classical in
/-- what a callee must leave is held -/
noncomputable def enterN (ρ : Rho) : Rho := fun nm => match nm with
  | .box n => ρ (.box n)
  | .held a => if ∃ x, (∀ n, x ≠ .box n) ∧ ρ x = some a then some a else none
  | _ => none
theorem enterN_held {ρ : Rho} {a b : Addr} : enterN ρ (.held a) = some b ↔ b = a ∧ ∃ x, (∀ n, x ≠ .box n) ∧ ρ x = some a := by
  unfold enterN
  simp only
  split
  · rename_i h; exact ⟨fun e => ⟨(Option.some.inj e).symm, h⟩, fun e => by rw [e.1]⟩
  · rename_i h; exact ⟨(fun e => nomatch e), fun e => absurd e.2 h⟩
theorem enterN_sub {ρ : Rho} : ∀ nm a, enterN ρ nm = some a → ∃ nm', ρ nm' = some a := fun nm a h => by
  cases nm with
  | box n => exact ⟨_, h⟩
  | slot i => cases h
  | tmp b => cases h
  | held b => obtain ⟨e, x, _, q⟩ := enterN_held.mp h; subst e; exact ⟨x, q⟩
theorem enterN_sup {ρ : Rho} {nm : Nm} {a : Addr} (h : ρ nm = some a) : ∃ nm', enterN ρ nm' = some a := by
  cases nm with
  | box n => exact ⟨.box n, h⟩
  | slot i => exact ⟨.held a, enterN_held.mpr ⟨rfl, _, by simp, h⟩⟩
  | tmp b => exact ⟨.held a, enterN_held.mpr ⟨rfl, _, by simp, h⟩⟩
  | held b => exact ⟨.held a, enterN_held.mpr ⟨rfl, _, by simp, h⟩⟩
theorem cut_sub {ρ ρ' : Rho} {H : Hp} (h : ∀ nm a, ρ' nm = some a → ∃ nm', ρ nm' = some a) : Le (cut H ρ) (cut H ρ') := fun a o e => by
  obtain ⟨h1, h2⟩ := cut_eq.mp e
  exact cut_eq.mpr ⟨fun nm e' => by obtain ⟨nm', e''⟩ := h nm a e'; exact h1 nm' e'', h2⟩
theorem Rel.enter {ρ : Rho} {s : ES} {σ : St} {H : Hp} (R : Rel G.K G.fa P ρ s σ H) : Rel G.K G.fa (cut H (enterN ρ)) (enterN ρ) ⟨[], s.st⟩ [] H := by
  refine ⟨fun x y a hx hy => ?_, fun _ _ h => h, fun i => ?_, fun n => ?_, (fun a b h => nomatch h), fun a b h => ?_, rfl⟩
  · cases x with
    | slot i => cases hx
    | tmp b => cases hx
    | box n =>
      cases y with
      | slot i => cases hy
      | tmp b => cases hy
      | box m => exact R.inj _ _ a hx hy
      | held b =>
        obtain ⟨e, z, hz, q⟩ := enterN_held.mp hy
        subst e
        exact absurd (R.inj _ _ a hx q).symm (hz n)
    | held b =>
      obtain ⟨e, z, hz, q⟩ := enterN_held.mp hx
      subst e
      cases y with
      | slot i => cases hy
      | tmp b => cases hy
      | box m => exact absurd (R.inj _ _ a hy q).symm (hz m)
      | held c => obtain ⟨e, _⟩ := enterN_held.mp hy; rw [e]
  · show SlotR _ _ _ _ _ i ([] : List Sl)[i]?
    rw [List.getElem?_nil]; rfl
  · exact (R.box n).mono (cut_sub enterN_sub) (fun _ _ h => h) rfl fun _ _ => rfl
  · obtain ⟨e, x, _, q⟩ := enterN_held.mp h
    exact ⟨e, R.mutAt q⟩
/-- a callee's names behind its end -/
def exitN (ρ₀ ρ : Rho) : Rho := fun nm => match nm with
  | .box n => ρ (.box n)
  | .tmp a => ρ (.tmp a)
  | .held a => match ρ₀ (.held a) with
    | some _ => ρ (.held a)
    | none => none
  | .slot _ => none
theorem exitN_sub {ρ₀ ρ : Rho} : ∀ nm a, exitN ρ₀ ρ nm = some a → ρ nm = some a := fun nm a h => by
  cases nm with
  | box n => exact h
  | tmp b => exact h
  | slot i => cases h
  | held b =>
    unfold exitN at h
    simp only at h
    split at h
    · exact h
    · cases h
theorem Rel.exit {ρ₀ ρ : Rho} {s : ES} {σ : St} {H : Hp} (R : Rel G.K G.fa P ρ s σ H) : Rel G.K G.fa P (exitN ρ₀ ρ) ⟨[], s.st⟩ [] H := by
  refine ⟨fun x y a hx hy => R.inj x y a (exitN_sub x a hx) (exitN_sub y a hy), fun a o h => cut_sub (fun nm a h => ⟨nm, exitN_sub nm a h⟩) a o (R.base a o h), fun i => ?_, fun n => ?_, fun a b h => R.tmp a b h, fun a b h => R.held a b (exitN_sub _ _ h), rfl⟩
  · show SlotR _ _ _ _ _ i ([] : List Sl)[i]?
    rw [List.getElem?_nil]; rfl
  · exact (R.box n).mono (cut_sub fun nm a h => ⟨nm, exitN_sub nm a h⟩) (fun _ _ h => h) rfl fun _ _ => rfl
theorem exit_ext {ρ₀ ρ : Rho} {H₀ H : Hp} (E : Ext ρ₀ H₀ ρ H) : Ext ρ₀ H₀ (exitN ρ₀ ρ) H :=
  ⟨fun a o h => cut_sub (fun nm a h => ⟨nm, exitN_sub nm a h⟩) a o (E.le a o h), E.box, fun a h => ⟨by
    show (match ρ₀ (.held a) with | some _ => ρ (.held a) | none => none) = some a
    rw [h]; exact (E.held a h).1, (E.held a h).2⟩⟩
/-- the caller's names over the callee's -/
def overN (ρ ρ' : Rho) : Rho := fun nm => match nm with
  | .box n => ρ' (.box n)
  | .tmp a => ρ' (.tmp a)
  | nm => ρ nm
theorem Rel.back {ρ ρ' : Rho} {s : ES} {st' : List Cell} {σ : St} {H H' : Hp} {P' : Hp} (R : Rel G.K G.fa P ρ s σ H) (R' : Rel G.K G.fa P' ρ' ⟨[], st'⟩ [] H') (E : Ext (enterN ρ) H ρ' H') :
    Rel G.K G.fa P (overN ρ ρ') { s with st := st' } σ H' ∧ Ext ρ H (overN ρ ρ') H' ∧ Le (cut H' ρ') (cut H' (overN ρ ρ')) := by
  have stands : ∀ {nm : Nm} {a : Addr}, (∀ n, nm ≠ .box n) → ρ nm = some a → ρ' (.held a) = some a ∧ H' a = H a := fun {nm a} hn e =>
    E.held a (enterN_held.mpr ⟨rfl, nm, hn, e⟩)
  have sub : ∀ nm a, overN ρ ρ' nm = some a → ∃ nm', ρ' nm' = some a := fun nm a h => by
    cases nm with
    | box n => exact ⟨_, h⟩
    | tmp b => exact ⟨_, h⟩
    | slot i => exact ⟨_, (stands (by simp) h).1⟩
    | held b => exact ⟨_, (stands (by simp) h).1⟩
  have lc : Le (cut H' ρ') (cut H' (overN ρ ρ')) := cut_sub sub
  have le : Le (cut H ρ) (cut H' (overN ρ ρ')) := fun a o h => lc a o (E.le a o (cut_sub enterN_sub a o h))
  have bl : BoxLe ρ (overN ρ ρ') := fun n a h => E.box n a h
  refine ⟨⟨fun x y a hx hy => ?_, fun a o h => le a o (R.base a o h), fun i => (R.slot i).mono le bl rfl (fun a h => (stands (by simp) h).2) rfl, fun n => (R'.box n).mono lc (fun _ _ h => h) rfl fun _ _ => rfl, fun a b h => R'.tmp a b h, fun a b h => ?_, R.len⟩, ⟨le, bl, fun a h => ⟨h, (stands (by simp) h).2⟩⟩, lc⟩
  · have key : ∀ {x y : Nm}, ρ' x = some a → (∀ b, x ≠ .held b) → ρ y = some a → (∀ n, y ≠ .box n) → False := by
      intro x y ex nx ey ny
      exact nx a (R'.inj _ _ a ex (stands ny ey).1)
    cases x <;> cases y <;> first
      | exact R'.inj _ _ a hx hy
      | exact R.inj _ _ a hx hy
      | exact (key hx (fun _ => nofun) hy (fun _ => nofun)).elim
      | exact (key hy (fun _ => nofun) hx (fun _ => nofun)).elim
  · obtain ⟨e, m⟩ := R.held a b h
    subst e
    exact ⟨rfl, by rw [(stands (by simp) h).2]; exact m⟩
/-- a call keeps what the evaluator says of it -/
theorem call_sp {ρ : Rho} {s : ES} {σ : St} {H : Hp} {n : Nat} {vs : List PV} {xs : List V} {Q : VK} (R0 : Rel G.K G.fa P ρ s σ H) (hx : RVs G.K G.fa ρ (cut H ρ) vs xs)
    (h : rdAt G xr P (RER G.K G.fa) W ρ (callM Φ n vs s) σ H Q) : spEv G xr Φ n xs H Q (WE W σ) := by
  have le0 : Le (cut H ρ) (cut H (enterN ρ)) := cut_sub enterN_sub
  refine ⟨_, _, s.st, vs, R0.enter, hx.mono le0 (show BoxLe ρ (enterN ρ) from fun _ _ h => h), ?_⟩
  unfold callM at h
  generalize Φ n vs s.st = o at h ⊢
  cases o with
  | bad => exact h
  | exc x st' =>
    intro ρ' H' cls d R' E' q
    obtain ⟨R1, E1, _⟩ := R0.back R' E'
    exact h _ _ _ _ R1 E1 q
  | ok r st' =>
    intro ρ' H' V R' E' q
    obtain ⟨R1, E1, lc⟩ := R0.back R' E'
    refine h _ _ _ R1 E1 ?_
    cases r with
    | val v => exact RV.mono lc (show BoxLe ρ' (overN ρ ρ') from fun _ _ h => h) q
    | fresh c =>
      obtain ⟨a, e1, e2, e3⟩ := q
      exact ⟨a, e1, e2, e3.mono lc (show BoxLe ρ' (overN ρ ρ') from fun _ _ h => h)⟩
    | pk i =>
      have q : ([] : St)[i]? = some (some V) := q
      simp at q
theorem call_ok (c : CxE G C Φ xr sc wr X W) {f : Expr → M RE} (hf : ∀ e, PE X e (rdE G xr P W (f e))) {x : Str} {n : Nat} {p pos : Pos} {es : List Expr} (hg : isGl sc x = true) (hl : C.glob.lookup x = some (.fn n)) (all : es.all notStar = true) :
    PE X (.Call (.Name x p) es [] pos) (rdE G xr P W (bnd (evList f es) fun rs => bnd (shares rs) fun vs => callM Φ n vs)) := by
  obtain ⟨hm, k, fd, ps, F, hr, hk, hb⟩ := c.g.fn x n hl
  have hdb := c.g.dbg x _ hl
  have args := args_ok (P := P) hf (es := es)
  refine ⟨fun pins s0 σ H Q I h => ?_⟩
  obtain ⟨ρ, s, R0, h⟩ := h
  have ha := rd_mono (seq R0 h) (Q' := fun xs H1 => spEv G xr Φ n xs H1 Q (WE W σ)) (by
    rintro xs H1 ⟨rs, ρ1, s1, R1, E1, hxs, h1⟩
    obtain ⟨vs, s2, ρ2, R2, E2, q2, h2⟩ := seqShares R1 hxs h1
    exact call_sp R2 q2 h2)
  refine wpAny_Call_Name_kw (ld_glob I (c.gl hg) hm ?_ hdb)
  cases es with
  | nil =>
    refine PySem.W.callWith_K0 I.kIn hk ?_
    have sp : spEv G xr Φ n [] H Q (WE W σ) := by
      obtain ⟨ρ, s, R0, h⟩ := ha
      exact h ρ H [] R0 Ext.refl trivial
    exact run_fnG (E := WE W) (us := []) F hr hb (passAt c.tk σ) I .nil sp
  | cons e es =>
    simp only [List.all_cons, Bool.and_eq_true] at all
    refine PySem.W.callWith_K (h₀ := X.base) I.ok.mod.kin hk (thn (args.run pos pins s0 σ H _ I ha) fun us s1 ⟨vs, H1, I1, r, q⟩ => ⟨I1.kIn, ?_⟩) (starEach_plain all.1) (plain_of all.2)
    exact run_fnG (E := WE W) F hr hb (passAt c.tk σ) I1 r q
end
end Ev

set_option linter.all false
set_option maxRecDepth 100000
set_option maxHeartbeats 1000000
/-! Ev.I: what is walked; targets; comprehensions -/
namespace Ev
open PySem PySem.Spec L2
section
variable {G : Env1} {C : CC} {Φ : Orc} {xr : XR} {sc wr : Scope} {X : Cx} {W : WX} {P : Hp}

/-! ### what is walked -/
structure ItOk (G : Env1) (T : Hp) (ρ0 : Rho) (J : It) (xs : List PV) : Prop where
  go : ∀ (i : Nat) (ρ : Rho) (H : Hp), i < xs.length → Le T (cut H ρ) → J.go i H
  stop : ∀ (ρ : Rho) (H : Hp), Le T (cut H ρ) → J.stop xs.length H
  yld : ∀ (i : Nat) (P : Hp) (ρ : Rho) (s : ES) (σ : St) (H : Hp) (x : V) (H' : Hp), i < xs.length → Rel G.K G.fa P ρ s σ H → Le T (cut H ρ) → BoxLe ρ0 ρ → J.yld i H x H' →
    ∃ v, xs[i]? = some v ∧ Rel G.K G.fa P ρ s σ H' ∧ Ext ρ H ρ H' ∧ RV G.K G.fa ρ (cut H' ρ) v x
abbrev rdI (G : Env1) (xr : XR) (P : Hp) (W : WX) (m : M (List PV)) : TI := rd G xr P (fun ρ _ H xs J => ItOk G (cut H ρ) ρ J xs) W m
/-- a list or a tuple -/
def iSeq (K : PySem.W.Frag) (te : TE) : TI := fun σ H R => te σ H fun x H1 => ∃ a, x = .ref a ∧ ((∃ xs, SqL K H1 a xs ∧ R (Itl K a) H1) ∨ ∃ xs, SqT K H1 a xs ∧ R (Itt K a) H1)
theorem pi_seq {tg l : Expr} {tl : TE} (hl : PE X l tl) : PI X tg l (iSeq X.K tl) := by
  refine ⟨fun pins s σ H R I h => ?_⟩
  refine thn (hl.run pins s σ H _ I h) fun v s1 ⟨x, H1, I1, r1, q1⟩ => ?_
  obtain ⟨a, e, q1⟩ := q1
  subst e
  cases r1
  rcases q1 with ⟨xs, hq, q⟩ | ⟨xs, hq, q⟩
  · obtain ⟨its, rv, p, hz⟩ := I1.list hq
    refine wpAny_pyIter_list p.isList ?_
    refine ⟨s1.heap.objs.size, [s1.heap.objs.size], _, _, H1, rfl, I1.kept (t' := s1.toks) fun b o e => Heap.get?_push_of_some _ e, turn_list a _, ⟨_, Heap.get?_push_size _ rfl, rfl, rfl⟩, fun b hb => ?_, q⟩
    have e : b = s1.heap.objs.size := by simpa using hb
    subst e
    exact I1.fpOk (Nat.le_refl _) (I1.hok.fresh (Nat.le_refl _))
  · obtain ⟨its, rv, p, hz⟩ := I1.tuple hq
    refine wpAny_pyIter_tuple (show s1.heap.IsTuple a its.toArray from p) ?_
    refine ⟨s1.heap.objs.size, [s1.heap.objs.size], _, _, H1, rfl, I1.kept (t' := s1.toks) fun b o e => Heap.get?_push_of_some _ e, turn_tuple a _, ⟨_, Heap.get?_push_size _ rfl, rfl, rfl⟩, fun b hb => ?_, q⟩
    have e : b = s1.heap.objs.size := by simpa using hb
    subst e
    exact I1.fpOk (Nat.le_refl _) (I1.hok.fresh (Nat.le_refl _))
/-- a frozen list or tuple, as it is walked -/
theorem seq_of {ρ : Rho} {H : Hp} {v : PV} {x : V} {xs : List PV} (h : RV G.K G.fa ρ (cut H ρ) v x) (e : itemsOf v = some xs) : ∃ a k vs, x = .ref a ∧ SqS G.K (cut H ρ) a k vs ∧ RVs G.K G.fa ρ (cut H ρ) xs vs := by
  cases h with
  | tup h1 h2 => simp only [itemsOf, Option.some.injEq] at e; subst e; exact ⟨_, true, _, rfl, h1, h2⟩
  | lst h1 h2 => simp only [itemsOf, Option.some.injEq] at e; subst e; exact ⟨_, false, _, rfl, SqL.of h1, h2⟩
  | _ => simp [itemsOf] at e
theorem SqS.le {K : PySem.W.Frag} {T T' : Hp} (h : Le T T') {a : Addr} {k : Bool} {vs : List V} (q : SqS K T a k vs) : SqS K T' a k vs := by
  cases k
  · exact SqL.le h q
  · exact SqT.le h q
theorem itOk_list {ρ0 : Rho} {T : Hp} {a : Addr} {xs : List PV} {vs : List V} (h : SqL G.K T a vs) (r : RVs G.K G.fa ρ0 T xs vs) : ItOk G T ρ0 (Itl G.K a) xs where
  go := fun i ρ H hi le => ⟨vs, vs[i]'(by rw [← r.length]; exact hi), SqL.le (fun a o e => cut_le (le a o e)) h, by simp⟩
  stop := fun ρ H le => ⟨vs, SqL.le (fun a o e => cut_le (le a o e)) h, by rw [r.length]; exact Nat.le_refl _⟩
  yld := fun i P ρ s σ H x H' hi R le bl y => by
    obtain ⟨e, y⟩ := y
    subst e
    have hx := y vs (SqL.le (fun a o e => cut_le (le a o e)) h)
    obtain ⟨v, hv⟩ : ∃ v, xs[i]? = some v := ⟨xs[i], by simp [hi]⟩
    obtain ⟨w, hw, rw⟩ := r.get hv
    rw [hw] at hx
    cases hx
    exact ⟨v, hv, R, Ext.refl, rw.mono le bl⟩
theorem itOk_tup {ρ0 : Rho} {T : Hp} {a : Addr} {xs : List PV} {vs : List V} (h : SqT G.K T a vs) (r : RVs G.K G.fa ρ0 T xs vs) : ItOk G T ρ0 (Itt G.K a) xs where
  go := fun i ρ H hi le => ⟨vs, vs[i]'(by rw [← r.length]; exact hi), SqT.le (fun a o e => cut_le (le a o e)) h, by simp⟩
  stop := fun ρ H le => ⟨vs, SqT.le (fun a o e => cut_le (le a o e)) h, by rw [r.length]; exact Nat.le_refl _⟩
  yld := fun i P ρ s σ H x H' hi R le bl y => by
    obtain ⟨e, y⟩ := y
    subst e
    have hx := y vs (SqT.le (fun a o e => cut_le (le a o e)) h)
    obtain ⟨v, hv⟩ : ∃ v, xs[i]? = some v := ⟨xs[i], by simp [hi]⟩
    obtain ⟨w, hw, rw⟩ := r.get hv
    rw [hw] at hx
    cases hx
    exact ⟨v, hv, R, Ext.refl, rw.mono le bl⟩
theorem rngP_length (i j : Int) : (rngP i j).length = (j - i).toNat := by simp [rngP]
theorem itOk_rng {ρ0 : Rho} {T : Hp} {i j : Int} : ItOk G T ρ0 (Itr i (j - i).toNat) (rngP i j) where
  go := fun k ρ H hk _ => by rw [rngP_length] at hk; exact hk
  stop := fun ρ H _ => by rw [rngP_length]; exact Nat.le_refl _
  yld := fun k P ρ s σ H x H' hk R le bl y => by
    obtain ⟨e, y⟩ := y
    subst e; subst y
    rw [rngP_length] at hk
    exact ⟨.int (i + k), by simp [rngP, hk], R, Ext.refl, .int _⟩
theorem zipP_length : ∀ (xs ys : List PV), (zipP xs ys).length = min xs.length ys.length
  | [], _ => by simp [zipP]
  | _ :: _, [] => by simp [zipP]
  | x :: xs, y :: ys => by simp only [zipP, List.length_cons, zipP_length xs ys]; omega
theorem zipP_get : ∀ {xs ys : List PV} {i : Nat} {x y : PV}, xs[i]? = some x → ys[i]? = some y → (zipP xs ys)[i]? = some (.tup [x, y])
  | [], _, _, _, _, h, _ => by simp at h
  | _ :: _, [], _, _, _, _, h => by simp at h
  | x :: xs, y :: ys, 0, _, _, h, h' => by simp at h h'; subst h; subst h'; rfl
  | x :: xs, y :: ys, i + 1, _, _, h, h' => by simpa [zipP] using zipP_get (i := i) (by simpa using h) (by simpa using h')
theorem enumP_length : ∀ (n : Nat) (xs : List PV), (enumP n xs).length = xs.length
  | _, [] => rfl
  | n, x :: xs => by simp only [enumP, List.length_cons, enumP_length (n + 1) xs]
theorem enumP_get : ∀ {xs : List PV} {n i : Nat} {x : PV}, xs[i]? = some x → (enumP n xs)[i]? = some (.tup [.int (n + i : Nat), x])
  | [], _, _, _, h => by simp at h
  | x :: xs, n, 0, _, h => by simp at h; subst h; rfl
  | x :: xs, n, i + 1, y, h => by
    have := enumP_get (n := n + 1) (i := i) (x := y) (by simpa using h)
    simp only [enumP, List.getElem?_cons_succ, this]
    have e : n + 1 + i = n + (i + 1) := by omega
    rw [e]
theorem newPair {ρ ρ0 : Rho} {s : ES} {σ : St} {H : Hp} {T : Hp} {p : Addr} {v w : PV} {x y : V} (R : Rel G.K G.fa P ρ s σ H) (le : Le T (cut H ρ)) (bl : BoxLe ρ0 ρ) (hp : H p = none) (hv : RV G.K G.fa ρ0 T v x) (hw : RV G.K G.fa ρ0 T w y) :
    Rel G.K G.fa P ρ s σ (upd H p (.tup [x, y])) ∧ Ext ρ H ρ (upd H p (.tup [x, y])) ∧ RV G.K G.fa ρ (cut (upd H p (.tup [x, y])) ρ) (.tup [v, w]) (.ref p) := by
  obtain ⟨R1, E1⟩ := R.laid (o := .tup [x, y]) hp
  exact ⟨R1, E1, .tup (SqT.of (R.cutNew hp)) (.cons ((hv.mono le bl).mono E1.le E1.box) (.cons ((hw.mono le bl).mono E1.le E1.box) .nil))⟩
theorem itOk_zip {ρ0 : Rho} {T : Hp} {a b : Addr} {k k' : Bool} {xs ys : List PV} {vs ws : List V} (h : SqS G.K T a k vs) (h' : SqS G.K T b k' ws) (r : RVs G.K G.fa ρ0 T xs vs) (r' : RVs G.K G.fa ρ0 T ys ws) : ItOk G T ρ0 (ItM G.K a k b k') (zipP xs ys) where
  go := fun i ρ H hi le => by
    rw [zipP_length, r.length, r'.length] at hi
    exact ⟨vs, ws, vs[i]'(by omega), ws[i]'(by omega), SqS.le (fun a o e => cut_le (le a o e)) h, SqS.le (fun a o e => cut_le (le a o e)) h', by simp, by simp⟩
  stop := fun ρ H le => ⟨vs, ws, SqS.le (fun a o e => cut_le (le a o e)) h, SqS.le (fun a o e => cut_le (le a o e)) h', by rw [zipP_length, r.length, r'.length]⟩
  yld := fun i P ρ s σ H x H' hi R le bl y => by
    obtain ⟨p, u, w, rfl, hp, rfl, y1, y2⟩ := y
    rw [zipP_length] at hi
    have e1 := y1 vs (SqS.le (fun a o e => cut_le (le a o e)) h)
    have e2 := y2 ws (SqS.le (fun a o e => cut_le (le a o e)) h')
    obtain ⟨v, hv⟩ : ∃ v, xs[i]? = some v := ⟨xs[i]'(by omega), by simp⟩
    obtain ⟨v', hv'⟩ : ∃ v, ys[i]? = some v := ⟨ys[i]'(by omega), by simp⟩
    obtain ⟨z, hz, rz⟩ := r.get hv
    obtain ⟨z', hz', rz'⟩ := r'.get hv'
    rw [hz] at e1; cases e1
    rw [hz'] at e2; cases e2
    obtain ⟨R1, E1, q⟩ := newPair R le bl hp rz rz'
    exact ⟨_, zipP_get hv hv', R1, E1, q⟩
theorem itOk_enum {ρ0 : Rho} {T : Hp} {a : Addr} {k : Bool} {xs : List PV} {vs : List V} (h : SqS G.K T a k vs) (r : RVs G.K G.fa ρ0 T xs vs) : ItOk G T ρ0 (ItN G.K a k) (enumP 0 xs) where
  go := fun i ρ H hi le => by
    rw [enumP_length, r.length] at hi
    exact ⟨vs, vs[i]'(by omega), SqS.le (fun a o e => cut_le (le a o e)) h, by simp⟩
  stop := fun ρ H le => ⟨vs, SqS.le (fun a o e => cut_le (le a o e)) h, by rw [enumP_length, r.length]⟩
  yld := fun i P ρ s σ H x H' hi R le bl y => by
    obtain ⟨p, u, rfl, hp, rfl, y1⟩ := y
    rw [enumP_length] at hi
    have e1 := y1 vs (SqS.le (fun a o e => cut_le (le a o e)) h)
    obtain ⟨v, hv⟩ : ∃ v, xs[i]? = some v := ⟨xs[i]'(by omega), by simp⟩
    obtain ⟨z, hz, rz⟩ := r.get hv
    rw [hz] at e1; cases e1
    obtain ⟨R1, E1, q⟩ := newPair R le bl hp (v := .int (i : Nat)) (x := .int (i : Nat)) (.int _) rz
    have e := enumP_get (n := 0) hv
    rw [Nat.zero_add] at e
    exact ⟨_, e, R1, E1, q⟩
theorem badI {tg it : Expr} : PI X tg it (rdI G xr P W bad) := ⟨fun pins s σ H R I h => by obtain ⟨_, _, _, h⟩ := h; exact h.elim⟩
theorem itemsM_ok {ρ : Rho} {s : ES} {σ : St} {H : Hp} {v : PV} {α β : Type} {R' : Rho → St → Hp → α → β → Prop} {f : List PV → M α} {Q : β → Hp → Prop} (h : rdAt G xr P R' W ρ (bnd (itemsM v) f s) σ H Q) : ∃ xs, itemsOf v = some xs ∧ rdAt G xr P R' W ρ (f xs s) σ H Q := by
  unfold itemsM at h
  split at h
  · rename_i xs e; exact ⟨xs, e, h⟩
  · exact h.elim
theorem itemsM_ok0 {ρ : Rho} {s : ES} {σ : St} {H : Hp} {v : PV} {β : Type} {R' : Rho → St → Hp → List PV → β → Prop} {Q : β → Hp → Prop} (h : rdAt G xr P R' W ρ (itemsM v s) σ H Q) : ∃ xs, itemsOf v = some xs ∧ rdAt G xr P R' W ρ (.ok xs s) σ H Q := by
  unfold itemsM at h
  cases e : itemsOf v with
  | some xs => rw [e] at h; exact ⟨xs, rfl, h⟩
  | none => rw [e] at h; exact h.elim
theorem foldedSet {it : Expr} {env : Env} (h : isSetE it = false) : ∀ x, foldedSetIterable it env x = pure x := by
  intro x
  cases it <;> first | rfl | cases h
theorem iter_ok (c : CxE G C Φ xr sc wr X W) {f : Expr → M RE} (hf : ∀ e, PE X e (rdE G xr P W (f e))) {tg it : Expr} : PI X tg it (rdI G xr P W (evIter C f sc tg it)) := by
  have dflt : PI X tg it (rdI G xr P W (if isSetE it then bad else bnd (f it) fun r => bnd (share r) itemsM)) := by
    by_cases hs : isSetE it = true
    · rw [if_pos hs]; exact badI
    · rw [if_neg hs]
      refine (pi_seq (hf it)).imp fun σ H R ⟨ρ, s, R0, h⟩ => ?_
      refine rd_mono (seq R0 h) ?_
      rintro x H1 ⟨r, ρ1, s1, R1, E1, hx, h1⟩
      obtain ⟨ρ2, R2, E2, hx2⟩ := R1.hold hx
      obtain ⟨v, s3, ρ3, R3, E3, rv, h3⟩ := seqShare R2 hx2 (h1.shift E2)
      obtain ⟨xs, e, h4⟩ := itemsM_ok0 h3
      obtain ⟨a, k, vs, rfl, hq, hr⟩ := seq_of rv e
      refine ⟨a, rfl, ?_⟩
      cases k
      · exact .inl ⟨vs, by rw [c.hK]; exact SqL.le cutLe hq, rdRet R3 h4 (by rw [c.hK]; exact itOk_list hq hr)⟩
      · exact .inr ⟨vs, by rw [c.hK]; exact SqT.le cutLe hq, rdRet R3 h4 (by rw [c.hK]; exact itOk_tup hq hr)⟩
  unfold evIter
  cases it with
  | Call fn es kws pos =>
    cases fn with
    | Name x p =>
      cases kws with
      | nil =>
        dsimp only
        cases hm : callIter C f sc tg x es with
        | none => exact dflt
        | some m =>
          dsimp only
          unfold callIter at hm
          by_cases hb : biC C sc x = true
          · rw [if_pos hb] at hm
            unfold biC at hb
            simp only [Bool.and_eq_true, Option.isNone_iff_eq_none] at hb
            by_cases e : x = ("range" : Str)
            · rw [if_pos e] at hm
              subst e
              have hg : Gl X "range" := c.gl hb.1
              have hmg : X.mg "range" = none := c.g.bi _ (by decide +kernel) hb.2
              rcases es with _ | ⟨a, _ | ⟨b, _ | ⟨d, es⟩⟩⟩
              · cases hm; exact badI
              · cases hm
                by_cases hn : notStar a = true
                · rw [if_pos hn]
                  refine (pi_range1 hg hmg (pa_cons (hf a) pa_nil (starEach_plain hn)) (starEach_plain hn)).imp fun σ H R ⟨ρ, s, R0, h⟩ => ?_
                  refine rd_mono (seq R0 h) ?_
                  rintro x H1 ⟨r, ρ1, s1, R1, E1, hx, h1⟩
                  obtain ⟨ρ2, R2, E2, hx2⟩ := R1.hold hx
                  have h2 := h1.shift E2
                  unfold rng1M at h2
                  split at h2
                  · rename_i j hd
                    split at h2
                    · rename_i ok
                      simp only [rngOk, Bool.and_eq_true, decide_eq_true_eq] at ok
                      cases (R2.peek hx2 hd).int
                      refine ⟨j, rfl, ok.1, ok.2, rdRet R2 h2 ?_⟩
                      have q := itOk_rng (G := G) (ρ0 := ρ2) (T := cut H1 ρ2) (i := 0) (j := j)
                      rw [Int.sub_zero] at q
                      exact q
                    · exact h2.elim
                  · exact h2.elim
                · rw [if_neg hn]; exact badI
              · cases hm
                by_cases hn : (notStar a && notStar b) = true
                · rw [if_pos hn]
                  simp only [Bool.and_eq_true] at hn
                  refine (pi_range2 hg hmg (pa_cons (hf a) (pa_cons (hf b) pa_nil (starEach_plain hn.2)) (starEach_plain hn.1)) (by rw [starEach_plain hn.1, starEach_plain hn.2]; rfl) (starEach_plain hn.2)).imp fun σ H R ⟨ρ, s, R0, h⟩ => ?_
                  refine rd_mono (seq R0 h) ?_
                  rintro x H1 ⟨r, ρ1, s1, R1, E1, hx, h1⟩
                  obtain ⟨ρ2, R2, E2, hx2⟩ := R1.hold hx
                  refine rd_mono (seq R2 (h1.shift E2)) ?_
                  rintro y H3 ⟨r', ρ3, s3, R3, E3, hy, h3⟩
                  obtain ⟨ρ4, R4, E4, hy4⟩ := R3.hold hy
                  have hx4 := RER.ext E4 (RER.ext E3 hx2)
                  have h4 := h3.shift E4
                  unfold rng2M at h4
                  split at h4
                  · rename_i i j hd hd'
                    split at h4
                    · rename_i ok
                      simp only [rngOk, Bool.and_eq_true, decide_eq_true_eq] at ok
                      cases (R4.peek hx4 hd).int
                      cases (R4.peek hy4 hd').int
                      exact ⟨i, j, rfl, ⟨ok.1.1, ok.1.2, ok.2.1, ok.2.2⟩, rdRet R4 h4 itOk_rng⟩
                    · exact h4.elim
                  · exact h4.elim
                · rw [if_neg hn]; exact badI
              · cases hm; exact badI
            · rw [if_neg e] at hm
              by_cases e2 : x = ("zip" : Str)
              · rw [if_pos e2] at hm
                subst e2
                have hg : Gl X "zip" := c.gl hb.1
                have hmg : X.mg "zip" = none := c.g.bi _ (by decide +kernel) hb.2
                rcases es with _ | ⟨a, _ | ⟨b, _ | ⟨d, es⟩⟩⟩
                · cases hm; exact badI
                · cases hm; exact badI
                · cases hm
                  by_cases hn : (notStar a && notStar b && isTupE tg) = true
                  · rw [if_pos hn]
                    simp only [Bool.and_eq_true] at hn
                    cases tg <;> first | (cases hn.2; done) | skip
                    refine (pi_zipM hg hmg (pa_cons (hf a) (pa_cons (hf b) pa_nil (starEach_plain hn.1.2)) (starEach_plain hn.1.1)) (starEach_plain hn.1.1) (plain_of (by simp [hn.1.2]))).imp fun σ H R ⟨ρ, s, R0, h⟩ => ?_
                    refine rd_mono (seq R0 h) ?_
                    rintro x H1 ⟨r, ρ1, s1, R1, E1, hx, h1⟩
                    obtain ⟨ρ2, R2, E2, hx2⟩ := R1.hold hx
                    refine rd_mono (seq R2 (h1.shift E2)) ?_
                    rintro y H3 ⟨r', ρ3, s3, R3, E3, hy, h3⟩
                    obtain ⟨ρ4, R4, E4, hy4⟩ := R3.hold hy
                    have hx4 := RER.ext E4 (RER.ext E3 hx2)
                    obtain ⟨u, s5, ρ5, R5, E5, ru, h5⟩ := seqShare R4 hx4 (h3.shift E4)
                    obtain ⟨v, s6, ρ6, R6, E6, rv, h6⟩ := seqShare R5 (RER.ext E5 hy4) h5
                    obtain ⟨xs, ex, h7⟩ := itemsM_ok h6
                    obtain ⟨ys, ey, h8⟩ := itemsM_ok h7
                    obtain ⟨p1, k1, vs, rfl, hq, hr⟩ := seq_of (ru.mono E6.le E6.box) ex
                    obtain ⟨p2, k2, ws, rfl, hq', hr'⟩ := seq_of rv ey
                    refine ⟨p1, p2, k1, k2, vs, ws, rfl, by rw [c.hK]; exact SqS.le cutLe hq, by rw [c.hK]; exact SqS.le cutLe hq', rdRet R6 h8 ?_⟩
                    rw [c.hK]
                    exact itOk_zip hq hq' hr hr'
                  · rw [if_neg hn]; exact badI
                · cases hm; exact badI
              · rw [if_neg e2] at hm
                by_cases e3 : x = ("enumerate" : Str)
                · rw [if_pos e3] at hm
                  subst e3
                  have hg : Gl X "enumerate" := c.gl hb.1
                  have hmg : X.mg "enumerate" = none := c.g.bi _ (by decide +kernel) hb.2
                  rcases es with _ | ⟨a, _ | ⟨b, es⟩⟩
                  · cases hm; exact badI
                  · cases hm
                    by_cases hn : (notStar a && isTupE tg) = true
                    · rw [if_pos hn]
                      simp only [Bool.and_eq_true] at hn
                      cases tg <;> first | (cases hn.2; done) | skip
                      refine (pi_enumM hg hmg (pa_cons (hf a) pa_nil (starEach_plain hn.1)) (starEach_plain hn.1)).imp fun σ H R ⟨ρ, s, R0, h⟩ => ?_
                      refine rd_mono (seq R0 h) ?_
                      rintro x H1 ⟨r, ρ1, s1, R1, E1, hx, h1⟩
                      obtain ⟨ρ2, R2, E2, hx2⟩ := R1.hold hx
                      obtain ⟨u, s5, ρ5, R5, E5, ru, h5⟩ := seqShare R2 hx2 (h1.shift E2)
                      obtain ⟨xs, ex, h7⟩ := itemsM_ok h5
                      obtain ⟨p1, k1, vs, rfl, hq, hr⟩ := seq_of ru ex
                      refine ⟨p1, k1, vs, rfl, by rw [c.hK]; exact SqS.le cutLe hq, rdRet R5 h7 ?_⟩
                      rw [c.hK]
                      exact itOk_enum hq hr
                    · rw [if_neg hn]; exact badI
                  · cases hm; exact badI
                · rw [if_neg e3] at hm; cases hm
          · rw [if_neg hb] at hm; cases hm
      | cons k ks => exact dflt
    | _ => exact dflt
  | _ => exact dflt
end
end Ev

set_option linter.all false
set_option maxRecDepth 100000
set_option maxHeartbeats 1000000
/-! Ev.J: targets, comprehensions -/
namespace Ev
open PySem PySem.Spec L2
theorem _root_.L2.PG.imp {X : Cx} {e : Expr} {t t' : TG} (h : PG X e t) (i : ∀ v σ H Q, t' v σ H Q → t v σ H Q) : PG X e t' := ⟨fun pins s σ H v u Q I r q => h.run pins s σ H v u Q I r (i v σ H Q q)⟩
theorem _root_.L2.PGs.imp {X : Cx} {e : List Expr} {t t' : TGs} (h : PGs X e t) (i : ∀ v σ H Q, t' v σ H Q → t v σ H Q) : PGs X e t' := ⟨fun pins s σ H v u Q I r q => h.run pins s σ H v u Q I r (i v σ H Q q)⟩
/-- the slots that a target may set -/
def Keep (C : CC) (wr : Scope) (σ σ' : St) : Prop := σ'.length = σ.length ∧ ∀ i, (∀ x, C.N.idxOf? x = some i → isLoc wr x = false) → σ'[i]? = σ[i]?
theorem Keep.refl {C : CC} {wr : Scope} {σ : St} : Keep C wr σ σ := ⟨rfl, fun _ _ => rfl⟩
theorem Keep.trans {C : CC} {wr : Scope} {σ σ' σ'' : St} (a : Keep C wr σ σ') (b : Keep C wr σ' σ'') : Keep C wr σ σ'' := ⟨b.1.trans a.1, fun i h => (b.2 i h).trans (a.2 i h)⟩
section
variable {G : Env1} {C : CC} {Φ : Orc} {xr : XR} {sc wr : Scope} {X : Cx} {W : WX} {P : Hp}
def rdG (G : Env1) (C : CC) (P : Hp) (wr : Scope) (m : PV → M Unit) : TG := fun V σ H Q => ∃ ρ s v s', Rel G.K G.fa P ρ s σ H ∧ RV G.K G.fa ρ (cut H ρ) v V ∧ m v s = .ok () s' ∧
  ∀ ρ' σ', Rel G.K G.fa P ρ' s' σ' H → Ext ρ H ρ' H → Keep C wr σ σ' → Q σ' H
def rdGs (G : Env1) (C : CC) (P : Hp) (wr : Scope) (m : List PV → M Unit) : TGs := fun Vs σ H Q => ∃ ρ s vs s', Rel G.K G.fa P ρ s σ H ∧ RVs G.K G.fa ρ (cut H ρ) vs Vs ∧ m vs s = .ok () s' ∧
  ∀ ρ' σ', Rel G.K G.fa P ρ' s' σ' H → Ext ρ H ρ' H → Keep C wr σ σ' → Q σ' H
theorem setSlot_ok {ρ : Rho} {s s' : ES} {σ : St} {H : Hp} {i : Nat} {v : PV} {V : L2.V} (R : Rel G.K G.fa P ρ s σ H) (hv : RV G.K G.fa ρ (cut H ρ) v V) (e : setSlot i v s = .ok () s') :
    ∃ ρ', Rel G.K G.fa P ρ' s' (σ.set i (some V)) H ∧ Ext ρ H ρ' H := by
  unfold setSlot at e
  split at e
  · rename_i hi
    cases e
    exact ⟨_, R.setVal hv hi⟩
  · cases e
theorem keep_set {σ : St} {i : Nat} {V : Option L2.V} {x : Str} (hi : C.N.idxOf? x = some i) (hx : isLoc wr x = true) : Keep C wr σ (σ.set i V) :=
  ⟨by simp, fun j hj => List.getElem?_set_ne fun e => by subst e; rw [hj x hi] at hx; cases hx⟩
theorem asgN_ok (c : CxE G C Φ xr sc wr X W) {e : Expr} : PG X e (rdG G C P wr (asgN C wr e)) := by
  have no : ∀ {e : Expr}, (∀ v s, asgN C wr e v s = .bad) → PG X e (rdG G C P wr (asgN C wr e)) := fun {e} h => ⟨fun pins s σ H v u Q I r q => by
    obtain ⟨_, s1, v1, _, _, _, e1, _⟩ := q
    rw [h] at e1; cases e1⟩
  cases e with
  | Name x p =>
    by_cases hx : isLoc wr x = true
    · cases hi : C.N.idxOf? x with
      | none => exact no fun v s => by simp [asgN, hx, hi, bad]
      | some i =>
        obtain ⟨l, f⟩ := c.wr x hx
        refine (pg_name (i := i) c.nd (by rw [c.hN]; exact idx_get hi) (by rw [c.hsc]; exact l) (by rw [c.hsc]; exact f)).imp fun V σ H Q ⟨ρ, s, v, s', R, rv, e, k⟩ => ?_
        have e' : setSlot i v s = .ok () s' := by simpa [asgN, hx, hi] using e
        obtain ⟨ρ', R', E'⟩ := setSlot_ok R rv e'
        exact k ρ' _ R' E' (keep_set hi hx)
    · exact no fun v s => by simp [asgN, hx, bad]
  | _ => exact no fun v s => rfl
theorem asgNs_ok (c : CxE G C Φ xr sc wr X W) : ∀ {es : List Expr}, PGs X es (rdGs G C P wr (asgNs C wr es))
  | [] => pgs_nil.imp fun Vs σ H Q ⟨ρ, s, vs, s', R, rv, e, k⟩ => by
    cases vs with
    | nil => cases rv; cases e; exact ⟨rfl, k ρ σ R Ext.refl Keep.refl⟩
    | cons v vs => cases e
  | e :: es => by
    by_cases hn : ∃ x p, e = .Name x p
    · obtain ⟨x, p, rfl⟩ := hn
      refine (pgs_cons (asgN_ok (P := P) c) (asgNs_ok c (es := es))).imp fun Vs σ H Q ⟨ρ, s, vs, s', R, rv, e, k⟩ => ?_
      cases vs with
      | nil => cases e
      | cons v vs =>
        cases rv with
        | cons r1 r2 =>
          refine ⟨_, _, rfl, ?_⟩
          have e2 : bnd (asgN C wr (.Name x p) v) (fun _ => asgNs C wr es vs) s = .ok () s' := e
          unfold bnd at e2
          generalize ho : asgN C wr (.Name x p) v s = o at e2
          cases o with
          | bad => cases e2
          | exc y t => cases e2
          | ok u s1 =>
            exact ⟨ρ, s, v, s1, R, r1, ho, fun ρ1 σ1 R1 E1 k1 => ⟨ρ1, s1, vs, s', R1, r2.mono E1.le E1.box, e2, fun ρ2 σ2 R2 E2 k2 => k ρ2 σ2 R2 (E1.trans E2) (k1.trans k2)⟩⟩
    · refine ⟨fun pins s σ H Vs us Q I r q => ?_⟩
      obtain ⟨_, s1, vs, s', _, _, e1, _⟩ := q
      cases vs with
      | nil => cases e1
      | cons v vs =>
        have e2 : bnd (asgN C wr e v) (fun _ => asgNs C wr es vs) s1 = .ok () s' := e1
        have eb : asgN C wr e v s1 = .bad := by
          cases e <;> first | rfl | exact absurd ⟨_, _, rfl⟩ hn
        unfold bnd at e2
        rw [eb] at e2
        cases e2
theorem names_plain {env : Env} : ∀ {es : List Expr} {vs : List PV} {s s' : ES}, asgNs C wr es vs s = .ok () s' → (assignEach es env).length = es.length ∧ (assignEach es env).findIdx? (·.1) = none ∧ vs.length = es.length
  | [], [], _, _, _ => ⟨rfl, rfl, rfl⟩
  | [], _ :: _, _, _, h => by cases h
  | _ :: _, [], _, _, h => by cases h
  | e :: es, v :: vs, s, s', h => by
    have e2 : bnd (asgN C wr e v) (fun _ => asgNs C wr es vs) s = .ok () s' := h
    unfold bnd at e2
    generalize ho : asgN C wr e v s = o at e2
    cases o with
    | bad => cases e2
    | exc y t => cases e2
    | ok u s1 =>
      obtain ⟨h1, h2, h3⟩ := names_plain (env := env) e2
      cases e with
      | Name x p =>
        refine ⟨by show (assignEach es env).length + 1 = _; rw [h1]; rfl, ?_, by simp [h3]⟩
        show ((false, assign (.Name x p) env) :: assignEach es env).findIdx? (·.1) = none
        rw [List.findIdx?_cons, h2]
        rfl
      | _ => cases ho
theorem asg_ok (c : CxE G C Φ xr sc wr X W) {e : Expr} : PG X e (rdG G C P wr (asgV C wr e)) := by
  cases e with
  | Tuple es k p =>
    by_cases hs : ∃ vs s s', asgNs C wr es vs s = .ok () s'
    · obtain ⟨vs0, s0, s0', h0⟩ := hs
      obtain ⟨h1, h2, _⟩ := names_plain (env := X.env) h0
      refine (pg_tup (n := es.length) c.calm (asgNs_ok (P := P) c) h1 h2).imp fun V σ H Q ⟨ρ, s, v, s', R, rv, e, q⟩ => ?_
      cases rv with
      | tup g1 g2 =>
        have e' : asgNs C wr es _ s = .ok () s' := e
        refine ⟨_, _, rfl, by rw [c.hK]; exact SqT.le cutLe g1, ?_, ρ, s, _, s', R, g2, e', q⟩
        rw [← g2.length]; exact (names_plain (env := X.env) e').2.2
      | _ => cases e
    · refine ⟨fun pins s σ H V u Q I r q => ?_⟩
      obtain ⟨_, s1, v, s', _, _, e1, _⟩ := q
      cases v with
      | tup xs => exact absurd ⟨xs, s1, s', e1⟩ hs
      | _ => cases e1
  | _ => exact asgN_ok c

/-! ### the block's own slots -/
def OldOk (G : Env1) (ρ : Rho) (σ : St) (H : Hp) (i : Nat) : Option Sl → Prop
  | some (.val x) => ∃ V, σ[i]? = some (some V) ∧ RV G.K G.fa ρ (cut H ρ) x V
  | some (.own c) => ∃ V, σ[i]? = some (some V) ∧ RV G.K G.fa ρ (cut H ρ) c.val V
  | _ => True
theorem OldOk.ext {ρ ρ' : Rho} {σ : St} {H H' : Hp} {i : Nat} {o : Option Sl} (le : Le (cut H ρ) (cut H' ρ')) (bl : BoxLe ρ ρ') (h : OldOk G ρ σ H i o) : OldOk G ρ' σ H' i o := by
  unfold OldOk at h ⊢
  split at h
  · obtain ⟨V, h1, h2⟩ := h; exact ⟨V, h1, h2.mono le bl⟩
  · obtain ⟨V, h1, h2⟩ := h; exact ⟨V, h1, h2.mono le bl⟩
  · trivial
theorem wipe_notin {σ : St} : ∀ {vs : List Nat} {i : Nat}, i ∉ vs → (wipe σ vs)[i]? = σ[i]?
  | [], _, _ => rfl
  | v :: vs, i, h => by
    simp only [List.mem_cons, not_or] at h
    unfold wipe
    rw [List.getElem?_set_ne (Ne.symm h.1)]
    exact wipe_notin h.2
theorem wipeE_notin {env : List Sl} : ∀ {vs : List Nat} {i : Nat}, i ∉ vs → (wipeE env vs)[i]? = env[i]?
  | [], _, _ => rfl
  | v :: vs, i, h => by
    simp only [List.mem_cons, not_or] at h
    unfold wipeE
    rw [List.getElem?_set_ne (Ne.symm h.1)]
    exact wipeE_notin h.2
theorem wipe_ok {ρ : Rho} {s : ES} {σ : St} {H : Hp} (R : Rel G.K G.fa P ρ s σ H) : ∀ vs : List Nat, ∃ ρ', Rel G.K G.fa P ρ' { s with env := wipeE s.env vs } (wipe σ vs) H ∧ Ext ρ H ρ' H ∧ ∀ i ∈ vs, OldOk G ρ' σ H i s.env[i]?
  | [] => ⟨ρ, R, Ext.refl, fun i h => nomatch h⟩
  | v :: vs => by
    obtain ⟨ρ1, R1, E1, O1⟩ := wipe_ok R vs
    obtain ⟨R2, E2⟩ := R1.setNone (i := v) (x := none)
    refine ⟨_, R2, E1.trans E2, fun i hi => ?_⟩
    by_cases hv : i ∈ vs
    · exact (O1 i hv).ext E2.le E2.box
    · have e : i = v := by rcases List.mem_cons.mp hi with e | e; exact e; exact absurd e hv
      subst e
      have q := R1.slot i
      rw [show ({ s with env := wipeE s.env vs } : ES).env[i]? = s.env[i]? from wipeE_notin hv] at q
      generalize s.env[i]? = o at q ⊢
      cases o with
      | none => trivial
      | some sl =>
        cases sl with
        | none => trivial
        | val x =>
          obtain ⟨_, V, h2, h3⟩ := q
          rw [wipe_notin hv] at h2
          exact ⟨V, h2, h3.mono E2.le E2.box⟩
        | own cl =>
          obtain ⟨a, h1, h2, h3⟩ := q
          rw [wipe_notin hv] at h2
          exact ⟨_, h2, CellR.frz E2.le E2.box h3 fun o ho => cut_dropped R1.inj h1 ho⟩
def restore (σ' σ : St) : List Nat → St
  | [] => σ'
  | v :: vs => (restore σ' σ vs).set v (σ[v]?.getD none)
theorem restore_length {σ' σ : St} : ∀ vs : List Nat, (restore σ' σ vs).length = σ'.length
  | [] => rfl
  | v :: vs => by unfold restore; rw [List.length_set, restore_length vs]
theorem restore_eq {σ' σ : St} (hl : σ'.length = σ.length) : ∀ vs : List Nat, (∀ i, i ∉ vs → σ'[i]? = σ[i]?) → restore σ' σ vs = σ := by
  intro vs h
  apply List.ext_getElem?
  intro i
  have key : ∀ vs : List Nat, (restore σ' σ vs)[i]? = if i ∈ vs then σ[i]? else σ'[i]? := by
    intro vs
    induction vs with
    | nil => simp [restore]
    | cons v vs ih =>
      unfold restore
      by_cases hv : i = v
      · subst hv
        rw [if_pos List.mem_cons_self]
        by_cases hi : i < σ'.length
        · rw [List.getElem?_set_self (by rw [restore_length]; exact hi)]
          have : i < σ.length := by omega
          rw [List.getElem?_eq_getElem this]; rfl
        · rw [List.getElem?_eq_none (by rw [List.length_set, restore_length]; omega), List.getElem?_eq_none (by omega)]
      · rw [List.getElem?_set_ne (Ne.symm hv), ih]
        simp [hv]
  rw [key vs]
  split
  · rfl
  · exact h i (by assumption)
theorem back_ok {ρ : Rho} {s : ES} {σ' σ : St} {H : Hp} {old : List Sl} (R : Rel G.K G.fa P ρ s σ' H) : ∀ vs : List Nat, (∀ i ∈ vs, OldOk G ρ σ H i old[i]?) → ∃ ρ', Rel G.K G.fa P ρ' { s with env := backE s.env old vs } (restore σ' σ vs) H ∧ Ext ρ H ρ' H
  | [], _ => ⟨ρ, R, Ext.refl⟩
  | v :: vs, h => by
    obtain ⟨ρ1, R1, E1⟩ := back_ok R vs fun i hi => h i (List.mem_cons_of_mem _ hi)
    have o := (h v List.mem_cons_self).ext E1.le E1.box
    show ∃ ρ', Rel G.K G.fa P ρ' { s with env := (backE s.env old vs).set v (match old[v]? with | some (.val x) => .val x | some (.own c) => .val c.val | _ => .none) } ((restore σ' σ vs).set v (σ[v]?.getD none)) H ∧ Ext ρ H ρ' H
    have wr : ∀ {x : PV}, (∃ V, σ[v]? = some (some V) ∧ RV G.K G.fa ρ1 (cut H ρ1) x V) → ∃ ρ', Rel G.K G.fa P ρ' { s with env := (backE s.env old vs).set v (.val x) } ((restore σ' σ vs).set v (σ[v]?.getD none)) H ∧ Ext ρ H ρ' H := by
      rintro x ⟨V, e, r⟩
      by_cases hv : v < (backE s.env old vs).length
      · rw [e]
        obtain ⟨R2, E2⟩ := R1.setVal (i := v) r hv
        exact ⟨_, R2, E1.trans E2⟩
      · rw [List.set_eq_of_length_le (by omega), List.set_eq_of_length_le (by have := R1.len; simp only at this; omega)]
        exact ⟨ρ1, R1, E1⟩
    generalize old[v]? = ov at o ⊢
    cases ov with
    | none =>
      obtain ⟨R2, E2⟩ := R1.setNone (i := v) (x := σ[v]?.getD none)
      exact ⟨_, R2, E1.trans E2⟩
    | some sl =>
      cases sl with
      | none =>
        obtain ⟨R2, E2⟩ := R1.setNone (i := v) (x := σ[v]?.getD none)
        exact ⟨_, R2, E1.trans E2⟩
      | val x => exact wr o
      | own cl => exact wr o
/-! ### comprehensions -/
theorem Rel.newHeld {ρ : Rho} {s : ES} {σ : St} {H : Hp} (R : Rel G.K G.fa P ρ s σ H) {p : Addr} {o : HO} (hp : H p = none) (hm : Mut (some o)) :
    Rel G.K G.fa P (setN ρ (.held p) (some p)) s σ (upd H p o) ∧ Ext ρ H (setN ρ (.held p) (some p)) (upd H p o) := by
  have ne : ∀ {nm : Nm} {a : Addr}, ρ nm = some a → a ≠ p := fun {nm a} e z => by subst z; exact R.notNone hp e
  have le : Le (cut H ρ) (cut (upd H p o) (setN ρ (.held p) (some p))) := fun a u h => by
    obtain ⟨h1, h2⟩ := cut_eq.mp h
    have ha : a ≠ p := fun z => by subst z; rw [hp] at h2; cases h2
    refine cut_eq.mpr ⟨fun nm e => ?_, by rw [upd_ne ha]; exact h2⟩
    by_cases hn : nm = .held p
    · subst hn; rw [setN_same] at e; exact ha (Option.some.inj e).symm
    · rw [setN_ne hn] at e; exact h1 nm e
  have hh : ∀ {a : Addr}, ρ (.held a) = some a → a ≠ p := fun {a} e => ne e
  refine ⟨⟨fun x y a hx hy => ?_, fun a u h => le a u (R.base a u h), fun i => (R.slot i).mono le (fun _ _ h => by rw [setN_ne (by simp)]; exact h) (setN_ne (by simp)) (fun a h => upd_ne (ne h)) rfl,
    fun n => (R.box n).mono le (fun _ _ h => by rw [setN_ne (by simp)]; exact h) (setN_ne (by simp)) fun a h => upd_ne (ne h), fun a b h => ?_, fun a b h => ?_, R.len⟩, le, fun _ _ h => by rw [setN_ne (by simp)]; exact h, fun a h => ⟨by rw [setN_ne (by simp [hh h])]; exact h, upd_ne (ne h)⟩⟩
  · by_cases h1 : x = .held p
    · subst h1
      rw [setN_same] at hx
      cases hx
      by_cases h2 : y = .held p
      · exact h2.symm
      · rw [setN_ne h2] at hy; exact absurd rfl (ne hy)
    · rw [setN_ne h1] at hx
      by_cases h2 : y = .held p
      · subst h2; rw [setN_same] at hy; cases hy; exact absurd rfl (ne hx)
      · rw [setN_ne h2] at hy; exact R.inj x y a hx hy
  · rw [setN_ne (by simp)] at h
    obtain ⟨e, m⟩ := R.tmp a b h
    subst e
    exact ⟨rfl, by rw [upd_ne (ne h)]; exact m⟩
  · by_cases h1 : a = p
    · subst h1; rw [setN_same] at h; cases h; exact ⟨rfl, by rw [upd_same]; exact hm⟩
    · rw [setN_ne (by simp [h1])] at h
      obtain ⟨e, m⟩ := R.held a b h
      subst e
      exact ⟨rfl, by rw [upd_ne h1]; exact m⟩
/-- a held cell becomes a result -/
theorem Rel.heldTmp {ρ : Rho} {s : ES} {σ : St} {H : Hp} (R : Rel G.K G.fa P ρ s σ H) {a : Addr} (ha : ρ (.held a) = some a) :
    Rel G.K G.fa P (setN (setN ρ (.held a) none) (.tmp a) (some a)) s σ H ∧ Le (cut H ρ) (cut H (setN (setN ρ (.held a) none) (.tmp a) (some a))) ∧ BoxLe ρ (setN (setN ρ (.held a) none) (.tmp a) (some a)) ∧
      ∀ b, b ≠ a → ρ (.held b) = some b → setN (setN ρ (.held a) none) (.tmp a) (some a) (.held b) = some b := by
  have bl : BoxLe ρ (setN (setN ρ (.held a) none) (.tmp a) (some a)) := fun _ _ h => by rw [setN_ne (by simp), setN_ne (by simp)]; exact h
  have le : Le (cut H ρ) (cut H (setN (setN ρ (.held a) none) (.tmp a) (some a))) := cut_move ha
  refine ⟨⟨inj_move R.inj ha, fun b u h => le b u (R.base b u h), fun j => (R.slot j).mono le bl (by rw [setN_ne (by simp), setN_ne (by simp)]) (fun _ _ => rfl) rfl, fun n => (R.box n).mono le bl (by rw [setN_ne (by simp), setN_ne (by simp)]) fun _ _ => rfl, fun b c h => ?_, fun b c h => ?_, R.len⟩, le, bl, fun b hb h => ?_⟩
  · by_cases hb : b = a
    · subst hb; rw [setN_same] at h; cases h; exact ⟨rfl, R.mutAt ha⟩
    · rw [setN_ne (by simp [hb]), setN_ne (by simp)] at h; exact R.tmp b c h
  · rw [setN_ne (by simp)] at h
    by_cases hb : b = a
    · subst hb; rw [setN_same] at h; cases h
    · rw [setN_ne (by simp [hb])] at h; exact R.held b c h
  · rw [setN_ne (by simp), setN_ne (by simp [hb])]; exact h
theorem own_slots {scope : Scope} {x : Str} {i : Nat} (hi : C.N.idxOf? x = some i) (hx : isLoc scope x = true) : i ∈ (ownOf C scope).map (·.2) := by
  have h := isLoc_iff hx
  have hm : ∃ k, (x, k) ∈ scope.names ∧ (k = .local ∨ k = .cell) := by
    rcases h with h | h
    · exact ⟨_, PySem.mem_of_lookup h, .inl rfl⟩
    · exact ⟨_, PySem.mem_of_lookup h, .inr rfl⟩
  obtain ⟨k, hk, hkk⟩ := hm
  refine List.mem_map.mpr ⟨(x, i), List.mem_filterMap.mpr ⟨(x, k), hk, ?_⟩, rfl⟩
  rcases hkk with e | e <;> subst e <;> simp [hi]
theorem keep_wipe {scope : Scope} {σ σ' : St} (k : Keep C scope (wipe σ ((ownOf C scope).map (·.2))) σ') : wipe σ' ((ownOf C scope).map (·.2)) = wipe σ ((ownOf C scope).map (·.2)) := by
  apply List.ext_getElem?
  intro i
  have wl : ∀ (τ : St) (vs : List Nat) (j : Nat), j ∈ vs → (wipe τ vs)[j]? = if j < τ.length then some none else none := by
    intro τ vs
    induction vs with
    | nil => intro j h; cases h
    | cons v vs ih =>
      intro j h
      unfold wipe
      by_cases hv : j = v
      · subst hv
        by_cases hl : j < τ.length
        · rw [List.getElem?_set_self (by rw [wipe_length]; exact hl), if_pos hl]
        · rw [List.getElem?_eq_none (by rw [List.length_set, wipe_length]; omega), if_neg hl]
      · rw [List.getElem?_set_ne (Ne.symm hv)]
        exact ih j (by rcases List.mem_cons.mp h with e | e; exact absurd e hv; exact e)
  have hl : σ'.length = σ.length := by rw [k.1, wipe_length]
  by_cases hi : i ∈ (ownOf C scope).map (·.2)
  · rw [wl _ _ _ hi, wl _ _ _ hi, hl]
  · rw [wipe_notin hi, wipe_notin hi, k.2 i fun x hx => ?_, wipe_notin hi]
    cases hb : isLoc scope x with
    | false => rfl
    | true => exact absurd (own_slots hx hb) hi
theorem ownOf_ix {scope : Scope} : ∀ p ∈ ownOf C scope, C.N[p.2]? = some p.1 := by
  intro p hp
  obtain ⟨y, _, e⟩ := List.mem_filterMap.mp hp
  have : (C.N.idxOf? y.1).map (fun i => (y.1, i)) = some p := by
    split at e
    · exact e
    · exact e
    · cases e
  simp only [Option.map_eq_some_iff] at this
  obtain ⟨i, hi, e⟩ := this
  subst e
  exact idx_get hi
/-- a block's context -/
theorem CxE.blk (c : CxE G C Φ xr sc wr X W) {s : Shared} {H : Hp} {scope : Scope} {cl : List (Str × Addr)} {A : Addr} {fp : List Addr} :
    CxE G C Φ xr (blkS scope sc) scope (X.blk s H scope (compEnvC scope cl A X.env) fp) (fun _ _ _ _ => False) := by
  have es : (compEnvC scope cl A X.env).scope = blkS scope sc := by
    show _ = L2.relS scope sc
    rw [← c.hsc]
    rfl
  refine ⟨c.hK, c.hN, c.nd, es, c.calm, c.units, c.gd, ⟨c.g.const, c.g.fn, c.g.bi, c.g.dbg, c.g.loc⟩, takesF, fun x hx => ?_⟩
  rcases isLoc_iff hx with h | h
  · have q := L2.lookup_relS_keep (sc := sc) (by decide) h
    exact ⟨.inl q, .inr q⟩
  · have q := L2.lookup_relS_keep (sc := sc) (by decide) h
    exact ⟨.inr q, .inl (by show (scope.names.lookup x == some .cell) = true; rw [h]; rfl)⟩
theorem bnd_ok {α β : Type} {m : M α} {f : α → M β} {s s' : ES} {b : β} (h : bnd m f s = .ok b s') : ∃ a s1, m s = .ok a s1 ∧ f a s1 = .ok b s' := by
  unfold bnd at h
  generalize m s = o at h ⊢
  cases o with
  | ok a s1 => exact ⟨a, s1, rfl, h⟩
  | exc x s1 => cases h
  | bad => cases h
theorem comp_rd {elt : M RE} {et : M Bool} {ei : M (List PV)} {tg : Expr} {scope : Scope} {σ : St} {H : Hp} {Q : VK}
    (h : rdE G xr P W (bnd ei fun xs => compM ((ownOf C scope).map (·.2)) (asgV C scope tg) et elt xs) σ H Q) :
    tLc (rdI G xr P W ei) (rdG G C P scope (asgV C scope tg)) (rdT G xr P (fun _ _ _ _ => False) et) (rdE G xr P (fun _ _ _ _ => False) elt) ((ownOf C scope).map (·.2)) σ H Q := by
  obtain ⟨ρ, s, R0, h⟩ := h
  refine rd_mono (seq R0 h) ?_
  rintro J H1 ⟨xs, ρ1, s1, R1, E1, hJ, h1⟩ D hD
  generalize hown : (ownOf C scope).map (·.2) = own at h1 ⊢
  unfold compM noExc at h1
  cases hgo : compGo own (asgV C scope tg) et elt true xs { s1 with env := wipeE s1.env own } with
  | bad => rw [hgo] at h1; exact h1.elim
  | exc y t => rw [hgo] at h1; exact h1.elim
  | ok tot sE =>
    rw [hgo] at h1
    dsimp only at h1
    by_cases hlim : tot.length ≤ LIM
    rotate_left
    · rw [if_neg hlim] at h1; exact h1.elim
    rw [if_pos hlim] at h1
    obtain ⟨R2, E2⟩ := R1.newHeld (o := .lst []) hD trivial
    obtain ⟨ρw, Rw, Ew, Ow⟩ := wipe_ok R2 own
    have hDw : ρw (.held D) = some D ∧ upd H1 D (.lst []) D = some (.lst []) := ⟨(Ew.held D setN_same).1, upd_same⟩
    refine ⟨fun i m Hc => m = xs.length - i ∧ i ≤ xs.length ∧ ∃ (ρ : Rho) (s : ES) (σc : St) (accP : List PV) (accV : List L2.V) (pvs : List PV),
      Rel G.K G.fa P ρ s σc Hc ∧ wipe σc own = wipe σ own ∧ Le (cut H1 ρ1) (cut Hc ρ) ∧ BoxLe ρ1 ρ ∧ (∀ a, ρ1 (.held a) = some a → ρ (.held a) = some a ∧ Hc a = H1 a) ∧
      ρ (.held D) = some D ∧ Hc D = some (.lst accV) ∧ RVs G.K G.fa ρ (cut Hc ρ) accP accV ∧
      compGo own (asgV C scope tg) et elt true (xs.drop i) s = .ok pvs sE ∧ accP ++ pvs = tot ∧
      ∀ j ∈ own, OldOk G ρ σ Hc j s1.env[j]?, ⟨xs.length, by simp, Nat.zero_le _, ρw, _, _, [], [], tot, Rw, ?_, ?_, ?_, ?_, hDw.1, hDw.2, .nil, hgo, rfl, Ow⟩, ?_⟩
    · apply List.ext_getElem?
      intro i
      have wl : ∀ (τ : St) (vs : List Nat) (j : Nat), j ∈ vs → (wipe τ vs)[j]? = if j < τ.length then some none else none := by
        intro τ vs
        induction vs with
        | nil => intro j h; cases h
        | cons v vs ih =>
          intro j h
          unfold wipe
          by_cases hv : j = v
          · subst hv
            by_cases hl : j < τ.length
            · rw [List.getElem?_set_self (by rw [wipe_length]; exact hl), if_pos hl]
            · rw [List.getElem?_eq_none (by rw [List.length_set, wipe_length]; omega), if_neg hl]
          · rw [List.getElem?_set_ne (Ne.symm hv)]
            exact ih j (by rcases List.mem_cons.mp h with e | e; exact absurd e hv; exact e)
      by_cases hi : i ∈ own
      · rw [wl _ _ _ hi, wl _ _ _ hi, wipe_length]
      · rw [wipe_notin hi]
    · exact fun a o h => Ew.le a o (E2.le a o h)
    · exact fun n a h => Ew.box n a (E2.box n a h)
    · intro a h
      obtain ⟨g1, g2⟩ := E2.held a h
      obtain ⟨g3, g4⟩ := Ew.held a g1
      exact ⟨g3, g2⟩
    rintro i m Hc ⟨rfl, hi, ρc, s, σc, accP, accV, pvs, Rc, hw, le, bl, hh, hD1, hD2, acc, go, htot, old⟩
    by_cases hlt : i < xs.length
    rotate_left
    · have ei : i = xs.length := by omega
      subst ei
      refine .inl ⟨hJ.stop ρc Hc le, ?_⟩
      rw [List.drop_length] at go
      have go' : (Out.ok ([] : List PV) s) = .ok pvs sE := go
      cases go'
      rw [List.append_nil] at htot
      subst htot
      obtain ⟨ρf, Rf, Ef⟩ := back_ok (old := s1.env) Rc own old
      have er : restore σc σ own = σ := restore_eq (by
        have := congrArg List.length hw
        rw [wipe_length, wipe_length] at this; exact this) own fun j hj => by
          have := congrArg (fun l : St => l[j]?) hw
          simp only [wipe_notin hj] at this
          exact this
      rw [er] at Rf
      obtain ⟨Rg, leg, blg, hhg⟩ := Rf.heldTmp (Ef.held D hD1).1
      refine h1 _ _ _ Rg ⟨fun a o h => leg a o (Ef.le a o (le a o h)), fun n a h => blg n a (Ef.box n a (bl n a h)), fun a h => ?_⟩ ?_
      · have hne : a ≠ D := fun z => by subst z; exact R1.notNone hD h
        exact ⟨hhg a hne (Ef.held a (hh a h).1).1, (hh a h).2⟩
      · exact ⟨D, rfl, setN_same, accV, hD2, (acc.mono Ef.le Ef.box).mono leg blg⟩
    · refine .inr ⟨hJ.go i ρc Hc hlt le, fun H' => _, fun H' h => ⟨xs.length - (i + 1), by omega, h⟩, fun V H' y => ?_⟩
      have ed : xs.drop i = xs[i] :: xs.drop (i + 1) := List.drop_eq_getElem_cons hlt
      rw [ed] at go
      unfold compGo at go
      obtain ⟨_, sw, g0, go⟩ := bnd_ok go
      cases g0
      obtain ⟨_, s2, g1, go⟩ := bnd_ok go
      obtain ⟨b, s3, g2, go⟩ := bnd_ok go
      obtain ⟨ρa, Ra, Ea, _⟩ := wipe_ok Rc own
      rw [hw] at Ra
      obtain ⟨v, hv, Rb, Eb, rv⟩ := hJ.yld i P ρa _ _ Hc V H' hlt Ra (fun a o h => Ea.le a o (le a o h)) (fun n a h => Ea.box n a (bl n a h)) y
      have ev : v = xs[i] := by
        rw [List.getElem?_eq_getElem hlt] at hv; exact (Option.some.inj hv).symm
      subst ev
      refine ⟨ρa, _, xs[i], s2, Rb, rv, g1, fun ρb σb Rb' Eb' kb => ?_⟩
      have kw : wipe σb own = wipe σ own := by
        have := keep_wipe (C := C) (scope := scope) (σ := σ) (σ' := σb)
        rw [hown] at this
        exact this kb
      refine ⟨kw, ρb, s2, Rb', ?_⟩
      show rdAt G xr P _ _ ρb (et s2) σb H' _
      rw [g2]
      intro ρd H3 b' Rd Ed eb
      subst eb
      have Ed0 : Ext ρc Hc ρd H3 := ((Ea.trans Eb).trans Eb').trans Ed
      cases b with
      | false =>
        rw [if_neg Bool.false_ne_true]
        rw [if_neg Bool.false_ne_true] at go
        refine ⟨rfl, hlt, ρd, s3, σb, accP, accV, pvs, Rd, kw, fun a o h => Ed0.le a o (le a o h), fun n a h => Ed0.box n a (bl n a h), fun a h => ?_, (Ed0.held D hD1).1, (Ed0.held D hD1).2.trans hD2, acc.mono Ed0.le Ed0.box, go, htot, fun j hj => (old j hj).ext Ed0.le Ed0.box⟩
        obtain ⟨q1, q2⟩ := hh a h
        exact ⟨(Ed0.held a q1).1, (Ed0.held a q1).2.trans q2⟩
      | true =>
        rw [if_pos rfl]
        rw [if_pos rfl] at go
        obtain ⟨r, s4, g3, go⟩ := bnd_ok go
        obtain ⟨u, s5, g4, go⟩ := bnd_ok go
        obtain ⟨us, s6, g5, go⟩ := bnd_ok go
        cases go
        refine ⟨ρd, s3, Rd, ?_⟩
        show rdAt G xr P _ _ ρd (elt s3) σb H3 _
        rw [g3]
        intro ρe H4 Vy Re Ee hy
        obtain ⟨ρf, Rf, Ef, hy2⟩ := Re.hold hy
        obtain ⟨ρg, Rg, Eg, ru⟩ := share_ok Rf hy2 g4
        have E0 : Ext ρc Hc ρg H4 := ((Ed0.trans Ee).trans Ef).trans Eg
        have hD3 := E0.held D hD1
        obtain ⟨Rh, ce, oth⟩ := Rg.updHeld (o := .lst (accV ++ [Vy])) hD3.1 trivial
        refine ⟨accV, hD3.2.trans hD2, ?_, rfl, hlt, ρg, s5, σb, accP ++ [u], accV ++ [Vy], us, Rh, kw, fun a o h => ?_, fun n a h => E0.box n a (bl n a h), fun a h => ?_, hD3.1, upd_same, ?_, g5, ?_, fun j hj => ?_⟩
        · rw [← acc.length, sizeLIM]
          have := congrArg List.length htot
          simp only [List.length_append, List.length_cons] at this
          omega
        · rw [ce]; exact E0.le a o (le a o h)
        · obtain ⟨q1, q2⟩ := hh a h
          have hne : a ≠ D := fun z => by subst z; exact R1.notNone hD h
          exact ⟨(E0.held a q1).1, (oth a hne).trans ((E0.held a q1).2.trans q2)⟩
        · rw [ce]; exact (acc.mono E0.le E0.box).append (.cons ru .nil)
        · rw [List.append_assoc]; exact htot
        · exact (old j hj).ext (fun a o h => by rw [ce]; exact E0.le a o h) E0.box
theorem tests_ok {et : Scope → Expr → M Bool} (c : CxE G C Φ xr sc wr X W)
    (ht : ∀ {sc wr : Scope} {X : Cx} {W : WX}, CxE G C Φ xr sc wr X W → ∀ {P : Hp} (e : Expr), PT X e (rdT G xr P W (et sc e))) {ifs : List Expr} {scope : Scope} :
    ∀ (s : Shared) (H : Hp) (A : Addr) (cl : List (Str × Addr)) (fp : List Addr), PTs (X.blk s H scope (compEnvC scope cl A X.env) fp) ifs (rdT G xr P (fun _ _ _ _ => False) (testsM (et (blkS scope sc)) ifs)) := fun s H A cl fp => by
  match ifs with
  | [] => exact ⟨fun pins s σ H Q I ⟨ρ, t, R0, h⟩ => pts_nil.run pins s σ H Q I (rdRet (b := true) R0 h rfl)⟩
  | [k] => exact pts_one (ht (c.blk (s := s) (H := H) (scope := scope) (cl := cl) (A := A) (fp := fp)) k)
  | _ :: _ :: _ => exact ⟨fun pins s σ H Q I h => by obtain ⟨_, _, _, h⟩ := h; exact h.elim⟩
theorem comp_ok (c : CxE G C Φ xr sc wr X W) {ee : Scope → Expr → M RE} {et : Scope → Expr → M Bool}
    (he : ∀ {sc wr : Scope} {X : Cx} {W : WX}, CxE G C Φ xr sc wr X W → ∀ {P : Hp} (e : Expr), PE X e (rdE G xr P W (ee sc e)))
    (ht : ∀ {sc wr : Scope} {X : Cx} {W : WX}, CxE G C Φ xr sc wr X W → ∀ {P : Hp} (e : Expr), PT X e (rdT G xr P W (et sc e)))
    {elt tg it : Expr} {ifs : List Expr} {scope : Scope} {pos : Pos} (hb : L2.blkC C.N sc scope (ownOf C scope) = true) (hs : isSetE it = false) :
    PE X (.ListComp elt [⟨tg, it, ifs, 0⟩] scope pos) (rdE G xr P W (bnd (evIter C (ee sc) sc tg it) fun xs =>
      compM ((ownOf C scope).map (·.2)) (asgV C scope tg) (testsM (et (blkS scope sc)) ifs) (ee (blkS scope sc) elt) xs)) :=
  (pe_lc (own := ownOf C scope) c.calm c.nd (iter_ok (P := P) c (he c)) (L2.blkOk_by (by rw [c.hN, c.hsc]; exact hb))
    (fun s H A cl fp => asg_ok (P := P) (c.blk (s := s) (H := H) (scope := scope) (cl := cl) (A := A) (fp := fp))) (tests_ok (P := P) c ht (ifs := ifs))
    (fun s H A cl fp => he (c.blk (s := s) (H := H) (scope := scope) (cl := cl) (A := A) (fp := fp)) (P := P) elt) (foldedSet hs)).imp fun σ H Q h => comp_rd h
end
end Ev

set_option linter.all false
set_option maxRecDepth 100000
set_option maxHeartbeats 1000000
/-! Ev.K: every expression and test -/
namespace Ev
open PySem PySem.Spec L2
section
variable {G : Env1} {C : CC} {Φ : Orc} {xr : XR} {sc wr : Scope} {X : Cx} {W : WX} {P : Hp}
theorem truM_ok {ρ ρ' : Rho} {s : ES} {σ : St} {H : Hp} {r : RE} {x : V} {α β : Type} {R' : Rho → St → Hp → α → β → Prop} {f : Bool → M α} {Q : β → Hp → Prop} (R0 : Rel G.K G.fa P ρ' s σ H) (hx : RER G.K G.fa ρ' σ H r.norm x) (hK : X.K = G.K)
    (h : rdAt G xr P R' W ρ (bnd (truM r) f s) σ H Q) : ∃ b, TruV X.K x H b ∧ rdAt G xr P R' W ρ (f b s) σ H Q := by
  unfold bnd truM at h
  split at h
  · rename_i b s' e
    split at e
    · rename_i u hu
      split at e
      · rename_i b' hb
        cases e
        exact ⟨b, tru_pk (R0.peek hx hu) hb hK, h⟩
      · cases e
    · cases e
  · rename_i y s' e
    split at e
    · split at e <;> cases e
    · cases e
  · exact h.elim
/-- a value handed on as it is -/
theorem reRet {ρ : Rho} {s : ES} {σ : St} {H : Hp} {r : RE} {x : V} {Q : VK} (R0 : Rel G.K G.fa P ρ s σ H) (hx : RER G.K G.fa ρ σ H r x) (h : rdAt G xr P (RER G.K G.fa) W ρ (.ok r s) σ H Q) : Q x H := h ρ H x R0 Ext.refl hx
theorem bool_ok (hK : X.K = G.K) {f : Expr → M RE} (hf : ∀ e, PE X e (rdE G xr P W (f e))) {op : BoolOp} {pos : Pos} : ∀ {es : List Expr}, PE X (.BoolOp op es pos) (rdE G xr P W (boolM op f es))
  | [] => bad_ok
  | [e] => pe_one (hf e)
  | e :: e2 :: es => by
    have ih := bool_ok hK hf (op := op) (pos := pos) (es := e2 :: es)
    cases op with
    | And =>
      refine (pe_andT (hf e) ih).imp fun σ H Q ⟨ρ, s, R0, h⟩ => ?_
      refine rd_mono (seq R0 h) ?_
      rintro x H1 ⟨r, ρ1, s1, R1, E1, hx, h1⟩
      obtain ⟨ρ2, R2, E2, hx2⟩ := R1.hold hx
      obtain ⟨b, tb, h2⟩ := truM_ok (X := X) R2 hx2 hK h1
      refine ⟨b, tb, ?_⟩
      cases b with
      | true => rw [if_pos rfl]; exact ⟨ρ2, s1, R2, (show rdAt G xr P _ W ρ1 (boolM .And f (e2 :: es) s1) σ H1 Q from by simpa using h2).shift E2⟩
      | false => rw [if_neg Bool.false_ne_true]; exact reRet R1 hx h2
    | Or =>
      refine (pe_orT (hf e) ih).imp fun σ H Q ⟨ρ, s, R0, h⟩ => ?_
      refine rd_mono (seq R0 h) ?_
      rintro x H1 ⟨r, ρ1, s1, R1, E1, hx, h1⟩
      obtain ⟨ρ2, R2, E2, hx2⟩ := R1.hold hx
      obtain ⟨b, tb, h2⟩ := truM_ok (X := X) R2 hx2 hK h1
      refine ⟨b, tb, ?_⟩
      cases b with
      | false => rw [if_neg Bool.false_ne_true]; exact ⟨ρ2, s1, R2, (show rdAt G xr P _ W ρ1 (boolM .Or f (e2 :: es) s1) σ H1 Q from by simpa using h2).shift E2⟩
      | true => rw [if_pos rfl]; exact reRet R1 hx h2
theorem boolT_ok {f : Expr → M Bool} (hf : ∀ e, PT X e (rdT G xr P W (f e))) {op : BoolOp} {pos : Pos} : ∀ {es : List Expr}, es ≠ [] → PW X (.BoolOp op es pos) (rdT G xr P W (boolT op f es))
  | [], h => absurd rfl h
  | [e], _ => by cases op with | And => exact pw_and1 (hf e) | Or => exact pw_or1 (hf e)
  | e :: e2 :: es, _ => by
    have ih := boolT_ok hf (op := op) (pos := pos) (es := e2 :: es) (by simp)
    cases op with
    | And =>
      refine ⟨fun wh pins s0 σ H Q I h => (pw_and (hf e) ih).run wh pins s0 σ H Q I ?_⟩
      obtain ⟨ρ, s, R0, h⟩ := h
      refine rd_mono (seq R0 h) ?_
      rintro b H1 ⟨r, ρ1, s1, R1, E1, hx, h1⟩
      subst hx
      cases r with
      | true => rw [if_pos rfl]; exact ⟨ρ1, s1, R1, by simpa using h1⟩
      | false => rw [if_neg Bool.false_ne_true]; exact rdRet R1 (by simpa [ret] using h1) rfl
    | Or =>
      refine ⟨fun wh pins s0 σ H Q I h => (pw_or (hf e) ih).run wh pins s0 σ H Q I ?_⟩
      obtain ⟨ρ, s, R0, h⟩ := h
      refine rd_mono (seq R0 h) ?_
      rintro b H1 ⟨r, ρ1, s1, R1, E1, hx, h1⟩
      subst hx
      cases r with
      | false => rw [if_neg Bool.false_ne_true]; exact ⟨ρ1, s1, R1, by simpa using h1⟩
      | true => rw [if_pos rfl]; exact rdRet R1 (by simpa [ret] using h1) rfl
/-- two operands -/
theorem two_ok {ma : M RE} {mb : M RE} {f : PV → PV → Option RE} {r : R2} (K : ∀ {ρ : Rho} {s : ES} {σ : St} {H : Hp} {u v : PV} {z : RE} {x y : V} {Q : VK}, Rel G.K G.fa P ρ s σ H → Pk G.K G.fa ρ H u x → Pk G.K G.fa ρ H v y → f u v = some z →
      rdAt G xr P (RER G.K G.fa) W ρ (.ok z s) σ H Q → r x y H Q) {σ : St} {H : Hp} {Q : VK} (h : rdE G xr P W (bnd ma fun x => bnd mb fun y => lift2 f x y) σ H Q) : tOp r (rdE G xr P W ma) (rdE G xr P W mb) σ H Q := by
  obtain ⟨ρ, s, R0, h⟩ := h
  refine rd_mono (seq R0 h) ?_
  rintro x H1 ⟨ra, ρ1, s1, R1, E1, hx, h1⟩
  obtain ⟨ρ2, R2, E2, hx2⟩ := R1.hold hx
  refine rd_mono (seq R2 (h1.shift E2)) ?_
  rintro y H3 ⟨rb, ρ3, s3, R3, E3, hy, h3⟩
  obtain ⟨ρ4, R4, E4, hy4⟩ := R3.hold hy
  have hx4 := RER.ext E4 (RER.ext E3 hx2)
  obtain ⟨u, v, z, d1, d2, e, h5⟩ := lift2_ok (h3.shift E4)
  exact K R4 (R4.peek hx4 d1) (R4.peek hy4 d2) e h5
theorem sub_ok (hK : X.K = G.K) {ma mb : M RE} {σ : St} {H : Hp} {Q : VK} (h : rdE G xr P W (bnd ma fun x => bnd mb fun y => subM x y) σ H Q) : tOp (rUx X) (rdE G xr P W ma) (rdE G xr P W mb) σ H Q := by
  obtain ⟨ρ, s, R0, h⟩ := h
  refine rd_mono (seq R0 h) ?_
  rintro x H1 ⟨ra, ρ1, s1, R1, E1, hx, h1⟩
  obtain ⟨ρ2, R2, E2, hx2⟩ := R1.hold hx
  refine rd_mono (seq R2 (h1.shift E2)) ?_
  rintro y H3 ⟨rb, ρ3, s3, R3, E3, hy, h3⟩
  obtain ⟨ρ4, R4, E4, hy4⟩ := R3.hold hy
  have hx4 := RER.ext E4 (RER.ext E3 hx2)
  have h5 := h3.shift E4
  unfold subM at h5
  cases e1 : deref s3 ra with
  | none => rw [e1] at h5; exact h5.elim
  | some u =>
    rw [e1] at h5
    cases e2 : deref s3 rb with
    | none => rw [e2] at h5; exact h5.elim
    | some v =>
      rw [e2] at h5
      cases e3 : ixV (unbox s3 u) v with
      | none => simp only [e3] at h5; exact h5.elim
      | some w =>
        simp only [e3] at h5
        exact ix_ok R4 (unbox_pk R4 (R4.peek hx4 e1)) (R4.peek hy4 e2) e3 hK h5
theorem one_ok {ma : M RE} {f : PV → Option RE} {r : V → Hp → VK → Prop} (K : ∀ {ρ : Rho} {s : ES} {σ : St} {H : Hp} {u : PV} {z : RE} {x : V} {Q : VK}, Rel G.K G.fa P ρ s σ H → Pk G.K G.fa ρ H u x → f u = some z →
      rdAt G xr P (RER G.K G.fa) W ρ (.ok z s) σ H Q → r x H Q) {σ : St} {H : Hp} {Q : VK} (h : rdE G xr P W (bnd ma fun x => lift1 f x) σ H Q) : rdE G xr P W ma σ H (fun x H1 => r x H1 Q) := by
  obtain ⟨ρ, s, R0, h⟩ := h
  refine rd_mono (seq R0 h) ?_
  rintro x H1 ⟨ra, ρ1, s1, R1, E1, hx, h1⟩
  obtain ⟨ρ2, R2, E2, hx2⟩ := R1.hold hx
  obtain ⟨u, z, d1, e, h5⟩ := lift1_ok (h1.shift E2)
  exact K R2 (R2.peek hx2 d1) e h5
theorem cmpf {op : CmpOp} {u v : PV} {z : RE} (h : ((cmpV op u v).map fun b => RE.val (.bl b)) = some z) : ∃ b, cmpV op u v = some b ∧ z = .val (.bl b) := by
  simp only [Option.map_eq_some_iff] at h
  obtain ⟨b, h1, h2⟩ := h
  exact ⟨b, h1, h2.symm⟩
theorem cmp1_ok (c : CxE G C Φ xr sc wr X W) {f : Expr → M RE} (hf : ∀ e, PE X e (rdE G xr P W (f e))) {a b : Expr} {op : CmpOp} {pos : Pos} (hm : behindInMarks op b = false) :
    PE X (.Compare a [op] [b] pos) (rdE G xr P W (bnd (f a) fun r => bnd (f b) fun r' => cmpM op r r')) :=
  (pe_cmpR (op_U (f := compareOp op)) (hf a) (hf b) hm).imp fun σ H Q h => two_ok (f := fun u v => (cmpV op u v).map fun b => .val (.bl b)) (fun R0 hu hv e h => by
    obtain ⟨b, e1, e2⟩ := cmpf e
    subst e2
    exact cmp_ok R0 hu hv e1 c.hK c.units (fin R0 h (.bl b))) h
theorem asBool_ok {ρ : Rho} {s : ES} {σ : St} {H : Hp} {r : RE} {α β : Type} {R' : Rho → St → Hp → α → β → Prop} {f : Bool → M α} {Q : β → Hp → Prop} (h : rdAt G xr P R' W ρ (bnd (asBool r) f s) σ H Q) : ∃ b, r = .val (.bl b) ∧ rdAt G xr P R' W ρ (f b s) σ H Q := by
  unfold bnd asBool at h
  split at h
  · rename_i b s' e
    split at e
    · cases e; exact ⟨b, rfl, h⟩
    · cases e
  · rename_i y s' e
    split at e <;> cases e
  · exact h.elim
theorem chain_rd (c : CxE G C Φ xr sc wr X W) {ma mb md : M RE} {op op' : CmpOp} {σ : St} {H : Hp} {Q : VK}
    (h : rdE G xr P W (bnd ma fun r => bnd mb fun r' => bnd (cmpM op r r') fun x => bnd (asBool x) fun k => if k then bnd md fun r'' => cmpM op' r' r'' else ret (.val (.bl false))) σ H Q) :
    tChain (rU X (compareOp op)) (rU X (compareOp op')) (rdE G xr P W ma) (rdE G xr P W mb) (rdE G xr P W md) σ H Q := by
  obtain ⟨ρ, s, R0, h⟩ := h
  refine rd_mono (seq R0 h) ?_
  rintro x H1 ⟨ra, ρ1, s1, R1, E1, hx, h1⟩
  obtain ⟨ρ2, R2, E2, hx2⟩ := R1.hold hx
  refine rd_mono (seq R2 (h1.shift E2)) ?_
  rintro y H3 ⟨rb, ρ3, s3, R3, E3, hy, h3⟩
  obtain ⟨ρ4, R4, E4, hy4⟩ := R3.hold hy
  have hx4 := RER.ext E4 (RER.ext E3 hx2)
  have h4 := h3.shift E4
  rcases seq0 h4 with ⟨z, s5, ez, h5⟩ | ⟨z, s5, ez⟩
  rotate_left
  · unfold cmpM lift2 at ez
    split at ez
    · split at ez
      · split at ez <;> cases ez
      · cases ez
    · cases ez
  unfold cmpM lift2 at ez
  split at ez
  rotate_left
  · cases ez
  rename_i u hu
  split at ez
  rotate_left
  · cases ez
  rename_i v hv
  split at ez
  rotate_left
  · cases ez
  rename_i w hw
  obtain ⟨b1, e1, e2⟩ := cmpf hw
  subst e2
  cases ez
  obtain ⟨b2, e3, h6⟩ := asBool_ok h5
  cases e3
  refine cmp_ok R4 (R4.peek hx4 hu) (R4.peek hy4 hv) e1 c.hK c.units ⟨b1, rfl, ?_⟩
  cases b1 with
  | false =>
    rw [if_neg Bool.false_ne_true]
    rw [if_neg Bool.false_ne_true] at h6
    exact fin R4 h6 (.bl false)
  | true =>
    rw [if_pos rfl]
    rw [if_pos rfl] at h6
    refine rd_mono (seq R4 h6) ?_
    rintro y' H7 ⟨rc, ρ7, s7, R7, E7, hy7, h7⟩
    obtain ⟨ρ8, R8, E8, hy8⟩ := R7.hold hy7
    have hb8 := RER.ext E8 (RER.ext E7 hy4)
    unfold cmpM at h7
    obtain ⟨u', v', z', d1, d2, e, h9⟩ := lift2_ok (h7.shift E8)
    obtain ⟨b9, e9, e10⟩ := cmpf e
    subst e10
    exact cmp_ok R8 (R8.peek hb8 d1) (R8.peek hy8 d2) e9 c.hK c.units (fin R8 h9 (.bl b9))
theorem chain_ok (c : CxE G C Φ xr sc wr X W) {f : Expr → M RE} (hf : ∀ e, PE X e (rdE G xr P W (f e))) {a b d : Expr} {op op' : CmpOp} {pos : Pos} (hm : lastMarks [op, op'] [b, d] = false) :
    PE X (.Compare a [op, op'] [b, d] pos) (rdE G xr P W (bnd (f a) fun r => bnd (f b) fun r' => bnd (cmpM op r r') fun x => bnd (asBool x) fun k => if k then bnd (f d) fun r'' => cmpM op' r' r'' else ret (.val (.bl false)))) :=
  (pe_chain (op_U (f := compareOp op)) (op_U (f := compareOp op')) (hf a) (hf b) (hf d) hm).imp fun σ H Q h => chain_rd c h
theorem cmp1_rd (c : CxE G C Φ xr sc wr X W) {ma mb : M RE} {op : CmpOp} {σ : St} {H : Hp} {Q : VK} (h : rdE G xr P W (bnd ma fun r => bnd mb fun r' => cmpM op r r') σ H Q) :
    tOp (rU X (compareOp op)) (rdE G xr P W ma) (rdE G xr P W mb) σ H Q := two_ok (f := fun u v => (cmpV op u v).map fun b => .val (.bl b)) (fun R0 hu hv e h => by
    obtain ⟨b, e1, e2⟩ := cmpf e
    subst e2
    exact cmp_ok R0 hu hv e1 c.hK c.units (fin R0 h (.bl b))) h
/-! ### displays -/
theorem tup_ok {f : Expr → M RE} (hf : ∀ e, PE X e (rdE G xr P W (f e))) {es : List Expr} {k : Nat} {pos : Pos} :
    PE X (.Tuple es k pos) (rdE G xr P W (bnd (evList f es) fun rs => bnd (shares rs) fun vs => if vs.length ≤ LIM then ret (.val (.tup vs)) else bad)) := by
  refine (pe_tup (args_ok (P := P) hf)).imp fun σ H Q ⟨ρ, s, R0, h⟩ => ?_
  refine rd_mono (seq R0 h) ?_
  rintro xs H1 ⟨rs, ρ1, s1, R1, E1, hx, h1⟩
  obtain ⟨vs, s2, ρ2, R2, E2, q2, h2⟩ := seqShares R1 hx h1
  split at h2
  · rename_i hl
    exact ⟨by rw [sizeLIM, ← q2.length]; exact hl, fun p hp => finT R2 h2 q2 hp⟩
  · exact h2.elim
theorem lst_ok {f : Expr → M RE} (hf : ∀ e, PE X e (rdE G xr P W (f e))) {es : List Expr} {pos : Pos} :
    PE X (.List es pos) (rdE G xr P W (bnd (evList f es) fun rs => bnd (shares rs) fun vs => if vs.length ≤ LIM then ret (.fresh (.lst vs)) else bad)) := by
  refine (pe_lst (args_ok (P := P) hf)).imp fun σ H Q ⟨ρ, s, R0, h⟩ => ?_
  refine rd_mono (seq R0 h) ?_
  rintro xs H1 ⟨rs, ρ1, s1, R1, E1, hx, h1⟩
  obtain ⟨vs, s2, ρ2, R2, E2, q2, h2⟩ := seqShares R1 hx h1
  split at h2
  · rename_i hl
    exact ⟨by rw [sizeLIM, ← q2.length]; exact hl, fun p hp => finL R2 h2 q2 hp⟩
  · exact h2.elim
/-! ### slices -/
theorem part_ok {f : Expr → M RE} (hf : ∀ e, PE X e (rdE G xr P W (f e))) : ∀ {o : Option Expr}, PO X o (rd G xr P (fun _ _ _ a b => a = b) W (partM f o))
  | none => ⟨fun pins s0 σ H Q I ⟨ρ, s, R0, h⟩ => po_none.run pins s0 σ H Q I (rdRet R0 h rfl)⟩
  | some e => ⟨fun pins s0 σ H Q I ⟨ρ, s, R0, h⟩ => (po_some (hf e)).run pins s0 σ H Q I (by
    refine rd_mono (seq R0 h) ?_
    rintro x H1 ⟨r, ρ1, s1, R1, E1, hx, h1⟩
    obtain ⟨ρ2, R2, E2, hx2⟩ := R1.hold hx
    have h2 := h1.shift E2
    split at h2
    · rename_i i hd
      cases (R2.peek hx2 hd).int
      exact ⟨i, rfl, rdRet R2 h2 rfl⟩
    · exact h2.elim)⟩
theorem slice_ok (c : CxE G C Φ xr sc wr X W) {f : Expr → M RE} (hf : ∀ e, PE X e (rdE G xr P W (f e))) {a : Expr} {lo hi : Option Expr} {p2 pos : Pos} :
    PE X (.Subscript a (.Slice lo hi none p2) pos) (rdE G xr P W (bnd (f a) fun r => bnd (partM f lo) fun l => bnd (partM f hi) fun h => lift1 (fun v => slV v l h) r)) := by
  refine (pe_slice sl_U (hf a) (part_ok (P := P) hf) (part_ok (P := P) hf)).imp fun σ H Q ⟨ρ, s, R0, h⟩ => ?_
  refine rd_mono (seq R0 h) ?_
  rintro x H1 ⟨r, ρ1, s1, R1, E1, hx, h1⟩
  obtain ⟨ρ2, R2, E2, hx2⟩ := R1.hold hx
  refine rd_mono (seq R2 (h1.shift E2)) ?_
  rintro l H3 ⟨l', ρ3, s3, R3, E3, e3, h3⟩
  subst e3
  refine rd_mono (seq R3 h3) ?_
  rintro u H4 ⟨u', ρ4, s4, R4, E4, e4, h4⟩
  subst e4
  obtain ⟨v, z, d, e, h5⟩ := lift1_ok h4
  exact sl_ok R4 (R4.peek (RER.ext E4 (RER.ext E3 hx2)) d) e c.hK h5
theorem plainIx {b : Expr} (h : isSliceN b = false) : PlainIx b := by
  intro o i
  cases b <;> first | rfl | cases h
/-! ### built-in functions -/
theorem derefs_ok {ρ : Rho} {s : ES} {σ : St} {H : Hp} (R0 : Rel G.K G.fa P ρ s σ H) : ∀ {rs : List RE} {xs : List V} {us : List PV}, RERs G.K G.fa ρ σ H rs xs → derefs s rs = some us → Pks G.K G.fa ρ H us xs
  | [], [], us, _, h => by cases h; trivial
  | [], _ :: _, _, h, _ => h.elim
  | _ :: _, [], _, h, _ => h.elim
  | r :: rs, x :: xs, us, ⟨hx, hxs⟩, h => by
    unfold derefs at h
    split at h
    · cases h
    · rename_i v hv
      simp only [Option.map_eq_some_iff] at h
      obtain ⟨ws, e1, e2⟩ := h
      subst e2
      exact ⟨R0.peek hx hv, derefs_ok R0 hxs e1⟩
theorem biOf_ok {x : Str} {b : Bi} (h : biOf x = some b) : bootBuiltins x = some b.value ∧ x ∈ biNames ∧ x ≠ "__name__" ∧ (x == ("__debug__" : Str)) = false := by
  unfold biOf at h
  repeat (split at h; (rename_i e; subst e; cases h; decide +kernel))
  cases h
theorem bi_call (c : CxE G C Φ xr sc wr X W) {f : Expr → M RE} (hf : ∀ e, PE X e (rdE G xr P W (f e))) {x : Str} {b : Bi} {p pos : Pos} {e : Expr} {es : List Expr} (hg : isGl sc x = true) (hl : C.glob.lookup x = none) (hb : biOf x = some b) (all : (e :: es).all notStar = true) :
    PE X (.Call (.Name x p) (e :: es) [] pos) (rdE G xr P W (bnd (evList f (e :: es)) fun rs => liftN (biV b) rs)) := by
  obtain ⟨h1, h2, h3, h4⟩ := biOf_ok hb
  have hm := c.g.bi x h2 hl
  simp only [List.all_cons, Bool.and_eq_true] at all
  have body : ∀ {σ : St} {H : Hp} {Q : VK}, rdE G xr P W (bnd (evList f (e :: es)) fun rs => liftN (biV b) rs) σ H Q → rdA G xr P W (evList f (e :: es)) σ H (fun xs H1 => rUc X b.value xs H1 Q) := fun {σ H Q} ⟨ρ, s, R0, h⟩ => by
    refine rd_mono (seq R0 h) ?_
    rintro xs H1 ⟨rs, ρ1, s1, R1, E1, hx, h1⟩
    unfold liftN at h1
    split at h1
    · rename_i us hu
      split at h1
      · rename_i z hz
        exact bi_ok R1 (derefs_ok R1 hx hu) hz c.hK c.calm c.gd h1
      · exact h1.elim
    · exact h1.elim
  cases hty : b.isTy with
  | true =>
    have hv : b.value = .type b.nm := by unfold Bi.value; rw [hty]; rfl
    refine (pe_callTy (T := b.nm) (call_U (f := .type b.nm)) (c.gl hg) hm (by rw [h1, hv]) (args_ok (P := P) hf) h3 h4 (starEach_plain all.1) (plain_of all.2)).imp fun σ H Q h => ?_
    have := body h
    rw [hv] at this
    exact this
  | false =>
    have hv : b.value = .builtin b.nm := by unfold Bi.value; rw [hty]; rfl
    refine (pe_callB (id := b.nm) (call_U (f := .builtin b.nm)) (c.gl hg) hm (by rw [h1, hv]) (args_ok (P := P) hf) h3 h4 (starEach_plain all.1) (plain_of all.2)).imp fun σ H Q h => ?_
    have := body h
    rw [hv] at this
    exact this
theorem instTy_ok {t : Str} (h : instTy t = true) : (∃ n : String, bootBuiltins t = some (.type n)) ∧ t ∈ biNames ∧ t ≠ "__name__" ∧ (t == ("__debug__" : Str)) = false := by
  unfold instTy at h
  simp only [Bool.or_eq_true, decide_eq_true_eq] at h
  rcases h with (((h | h) | h) | h) | h <;> subst h
  · exact ⟨⟨"int", by decide +kernel⟩, by decide +kernel⟩
  · exact ⟨⟨"bool", by decide +kernel⟩, by decide +kernel⟩
  · exact ⟨⟨"tuple", by decide +kernel⟩, by decide +kernel⟩
  · exact ⟨⟨"str", by decide +kernel⟩, by decide +kernel⟩
  · exact ⟨⟨"list", by decide +kernel⟩, by decide +kernel⟩
theorem isi_call (c : CxE G C Φ xr sc wr X W) {f : Expr → M RE} (hf : ∀ e, PE X e (rdE G xr P W (f e))) {a : Expr} {t : Str} {p p2 pos : Pos} (hg : isGl sc ("isinstance" : Str) = true) (hl : C.glob.lookup ("isinstance" : Str) = none) (hn : notStar a = true) (hit : instTy t = true) (hgt : isGl sc t = true) (hlt : C.glob.lookup t = none) :
    PE X (.Call (.Name "isinstance" p) [a, .Name t p2] [] pos) (rdE G xr P W (bnd (f a) fun r => lift1 (fun v => (isInst v t).map fun b => .val (.bl b)) r)) := by
  obtain ⟨⟨n, hn1⟩, n1, n2, n3⟩ := instTy_ok hit
  have hm := c.g.bi ("isinstance" : Str) (by decide +kernel) hl
  have hmt := c.g.bi t n1 hlt
  refine (pe_callB (id := "isinstance") call_U (c.gl hg) hm (by decide +kernel) (pa_cons (hf a) (pa_cons (pe_bltn (v := .ty n) (c.gl hgt) hmt hn1 rfl n2 n3) pa_nil) (starEach_plain hn)) (by decide +kernel) (by decide +kernel) (starEach_plain hn) (plain_of rfl)).imp fun σ H Q h => ?_
  exact one_ok (r := fun x H Q => rUc X (.builtin "isinstance") [x, .ty n] H Q) (fun {ρ s σ H u z x Q} R0 hu e h => by
      simp only [Option.map_eq_some_iff] at e
      obtain ⟨b, e1, e2⟩ := e
      subst e2
      obtain ⟨n', q1, q2⟩ := isi_ok (X := X) R0 hu e1 c.hK (fin R0 h (.bl b))
      rw [hn1] at q1
      cases q1
      exact q2) h
/-- sorted(set(a)) -/
theorem sset_call (c : CxE G C Φ xr sc wr X W) {f : Expr → M RE} (hf : ∀ e, PE X e (rdE G xr P W (f e))) {a : Expr} {p p2 q pos : Pos} (hg : isGl sc ("sorted" : Str) = true) (hl : C.glob.lookup ("sorted" : Str) = none) (hg2 : isGl sc ("set" : Str) = true) (hl2 : C.glob.lookup ("set" : Str) = none) (hn : notStar a = true) :
    PE X (.Call (.Name "sorted" p) [.Call (.Name "set" p2) [a] [] q] [] pos) (rdE G xr P W (bnd (f a) fun r => lift1 sortSetV r)) := by
  refine (EvU.pe_sortedSet c.calm (c.gl hg) (c.g.bi _ (by decide +kernel) hl) (c.gl hg2) (c.g.bi _ (by decide +kernel) hl2) (hf a) (starEach_plain hn)).imp fun σ H Q h => ?_
  refine one_ok (r := fun x H1 Q => ∃ (l : Addr) (ns : List Int), x = V.ref l ∧ SqL X.K H1 l (ns.map V.int) ∧ ns.length < 64 ∧ ∀ (ms : List Int) (p : Addr), ms.Pairwise (· < ·) → (∀ k, k ∈ ms ↔ k ∈ ns) → H1 p = none → Q (.ref p) (upd H1 p (.lst (ms.map V.int)))) (fun {ρ s σ H u z x Q} R0 hu e h => ?_) h
  unfold sortSetV at e
  split at e
  · rename_i xs
    rw [Option.bind_eq_some_iff] at e
    obtain ⟨ns, e1, e2⟩ := e
    by_cases hlt : ns.length < 64
    · rw [if_pos hlt] at e2
      cases e2
      cases intsOf_eq e1
      obtain ⟨a, vs, rfl, ha, ra⟩ := hu.lst
      cases ra.of_ints
      refine ⟨a, ns, rfl, SqL.of ha, hlt, fun ms p h1 h2 hp => ?_⟩
      obtain ⟨s1, s2⟩ := sortU_spec ns
      have em : ms = sortU ns := asc_uniq h1 s1 fun k => (h2 k).trans (s2 k).symm
      subst em
      exact finL R0 h (RVs.ints _) hp
    · rw [if_neg hlt] at e2
      cases e2
  · cases e
theorem dflt_fin {lo : Bool} {ρ : Rho} {s : ES} {σ : St} {H : Hp} {u : PV} {z : RE} {x : V} {Q : VK} (R0 : Rel G.K G.fa P ρ s σ H) (hu : Pk G.K G.fa ρ H u x) (e : mmD lo u = some z) (h : rdAt G xr P (RER G.K G.fa) W ρ (.ok z s) σ H Q) : EvU.rMinD lo X.K [x] [V.non] H Q := by
  unfold mmD at e
  split at e
  · rename_i xs
    rw [Option.map_eq_some_iff] at e
    obtain ⟨ns, e1, e2⟩ := e
    subst e2
    cases intsOf_eq e1
    obtain ⟨a, vs, rfl, ha, ra⟩ := hu.lst
    cases ra.of_ints
    refine ⟨a, ns, rfl, rfl, SqL.of ha, fun e0 => ?_, fun m h1 h2 => ?_⟩
    · subst e0
      cases lo
      · exact fin R0 h .non
      · exact fin R0 h .non
    · cases lo with
      | true =>
        cases hm : minI ns with
        | none =>
          cases ns with
          | nil => cases h1
          | cons n ns => cases hm
        | some m' =>
          obtain ⟨g1, g2⟩ := minI_spec hm
          have em : m = m' := Int.le_antisymm (by simpa using h2 _ g1) (g2 _ h1)
          subst em
          rw [if_pos rfl, hm] at h
          exact fin R0 h (.int _)
      | false =>
        cases hm : maxI ns with
        | none =>
          cases ns with
          | nil => cases h1
          | cons n ns => cases hm
        | some m' =>
          obtain ⟨g1, g2⟩ := maxI_spec hm
          have em : m = m' := Int.le_antisymm (g2 _ h1) (by simpa using h2 _ g1)
          subst em
          rw [if_neg (by decide), hm] at h
          exact fin R0 h (.int _)
  · cases e
/-- min(a, default=None), max(a, default=None) -/
theorem dflt_call (c : CxE G C Φ xr sc wr X W) {f : Expr → M RE} (hf : ∀ e, PE X e (rdE G xr P W (f e))) {x : Str} {lo : Bool} (hx : (x = ("min" : Str) ∧ lo = true) ∨ (x = ("max" : Str) ∧ lo = false)) {a : Expr} {p kp cp pos : Pos} {k : Nat} (hg : isGl sc x = true) (hl : C.glob.lookup x = none) (hn : notStar a = true) :
    PE X (.Call (.Name x p) [a] [⟨some ("default" : Str), .Constant .none k cp, kp⟩] pos) (rdE G xr P W (bnd (f a) fun r => lift1 (mmD lo) r)) := by
  have he : backTo pos (starEach [a] X.env) = (false, eval a X.env) :: backTo pos (starEach [] X.env) := by rw [starEach_plain hn]; rfl
  have hpl : (backTo pos (starEach [a] X.env)).any (·.1) = false := plain_of (by rw [List.all_cons, hn]; rfl)
  rcases hx with ⟨rfl, rfl⟩ | ⟨rfl, rfl⟩
  · refine (pe_callBK (id := "min") (EvU.cr_minD c.calm c.gd.2) (c.gl hg) (c.g.bi _ (by decide +kernel) hl) (by decide +kernel) (pa_cons (hf a) pa_nil (starEach_plain hn)) (pk_cons pe_non pk_nil) (by decide) (by decide) he hpl).imp fun σ H Q h => ?_
    exact one_ok (r := fun x H1 Q => EvU.rMinD true X.K [x] [V.non] H1 Q) (fun {ρ s σ H u z x Q} R0 hu e h => dflt_fin R0 hu e h) h
  · refine (pe_callBK (id := "max") (EvU.cr_maxD c.calm c.gd.2) (c.gl hg) (c.g.bi _ (by decide +kernel) hl) (by decide +kernel) (pa_cons (hf a) pa_nil (starEach_plain hn)) (pk_cons pe_non pk_nil) (by decide) (by decide) he hpl).imp fun σ H Q h => ?_
    exact one_ok (r := fun x H1 Q => EvU.rMinD false X.K [x] [V.non] H1 Q) (fun {ρ s σ H u z x Q} R0 hu e h => dflt_fin R0 hu e h) h
/-! ### methods of an own list -/
theorem own_at {ρ : Rho} {s : ES} {σ : St} {H : Hp} {i : Nat} {xs : List PV} (R0 : Rel G.K G.fa P ρ s σ H) (h : s.env[i]? = some (.own (.lst xs))) :
    ∃ a vs, ρ (.slot i) = some a ∧ σ[i]? = some (some (V.ref a)) ∧ H a = some (.lst vs) ∧ RVs G.K G.fa ρ (cut H ρ) xs vs := by
  have q := R0.slot i
  rw [h] at q
  obtain ⟨a, h1, h2, vs, h3, h4⟩ := q
  exact ⟨a, vs, h1, h2, h3, h4⟩
theorem chkL_ok {ρ : Rho} {s : ES} {σ : St} {H : Hp} {i : Nat} {α β : Type} {R' : Rho → St → Hp → α → β → Prop} {f : Unit → M α} {Q : β → Hp → Prop} (h : rdAt G xr P R' W ρ (bnd (chkL i) f s) σ H Q) : (∃ xs, s.env[i]? = some (.own (.lst xs))) ∧ rdAt G xr P R' W ρ (f () s) σ H Q := by
  unfold bnd chkL at h
  split at h
  · rename_i u s' e
    split at e
    · rename_i xs hx
      cases e
      exact ⟨⟨xs, hx⟩, h⟩
    · cases e
  · rename_i y s' e
    split at e <;> cases e
  · exact h.elim
theorem append_ok (c : CxE G C Φ xr sc wr X W) {f : Expr → M RE} (hf : ∀ e, PE X e (rdE G xr P W (f e))) {x : Str} {i : Nat} {p apos pos : Pos} {e : Expr} (hv : isVis sc x = true) (hi : C.N.idxOf? x = some i) (hn : notStar e = true) (hline : (apos.endLine == pos.line) = true) :
    PE X (.Call (.Attribute (.Name x p) "append" apos) [e] [] pos) (rdE G xr P W (bnd (chkL i) fun _ => bnd (f e) fun r => bnd (share r) fun v => appendM i v)) := by
  obtain ⟨d1, d2⟩ := c.g.loc x i hi
  refine (pe_bm PySem.F.plainAttrs_list PySem.F.slot_list_append PySem.F.type_list_append mt_append (pe_var (i := i) (by rw [c.hN]; exact idx_get hi) (by rw [c.hsc]; exact isVis_iff hv) d1 d2) (pa_cons (hf e) pa_nil (starEach_plain hn)) rfl (by rw [starEach_plain hn]; rfl) hline (starEach_plain hn) (plain_of rfl)).imp fun σ H Q ⟨ρ, s, R0, h⟩ => ?_
  obtain ⟨⟨xs, hx⟩, h1⟩ := chkL_ok h
  obtain ⟨a, vs, e1, e2, e3, e4⟩ := own_at R0 hx
  refine ⟨_, e2, .inl ⟨rfl, _, SqL.of e3⟩, ?_⟩
  refine rd_mono (seq R0 h1) ?_
  rintro y H1 ⟨r, ρ1, s1, R1, E1, hy, h2⟩
  obtain ⟨ρ2, R2, E2, hy2⟩ := R1.hold hy
  obtain ⟨v, s3, ρ3, R3, E3, rv, h3⟩ := seqShare R2 hy2 (h2.shift E2)
  unfold appendM at h3
  split at h3
  · rename_i ys hys
    split at h3
    · rename_i hlim
      obtain ⟨b, ws, b1, b2, b3, b4⟩ := own_at R3 hys
      rw [e2] at b2
      cases b2
      obtain ⟨R4, E4⟩ := R3.updOwn (c' := .lst (ys ++ [v])) (o := .lst (ws ++ [y])) b1 e2 ⟨_, rfl, b4.append (.cons rv .nil)⟩
      exact ⟨a, ws, y, rfl, rfl, b3, by rw [sizeLIM, ← b4.length]; exact hlim, h3 _ _ _ R4 E4 .non⟩
    · exact h3.elim
  · exact h3.elim
theorem pop_ok (c : CxE G C Φ xr sc wr X W) {x : Str} {i : Nat} {p apos pos : Pos} (hv : isVis sc x = true) (hi : C.N.idxOf? x = some i) (hline : (apos.endLine == pos.line) = true) :
    PE X (.Call (.Attribute (.Name x p) "pop" apos) [] [] pos) (rdE G xr P W (popM i)) := by
  obtain ⟨d1, d2⟩ := c.g.loc x i hi
  refine (pe_bm0 PySem.F.plainAttrs_list PySem.F.slot_list_pop PySem.F.type_list_pop mt_pop (pe_var (i := i) (by rw [c.hN]; exact idx_get hi) (by rw [c.hsc]; exact isVis_iff hv) d1 d2) rfl hline).imp fun σ H Q ⟨ρ, s, R0, h⟩ => ?_
  unfold popM at h
  split at h
  · rename_i ys hys
    obtain ⟨a, ws, b1, b2, b3, b4⟩ := own_at R0 hys
    split at h
    · rename_i v hv
      obtain ⟨y, hy, ry⟩ := b4.get hv
      have hd : RVs G.K G.fa ρ (cut H ρ) ys.dropLast ws.dropLast := by
        rw [List.dropLast_eq_take, List.dropLast_eq_take, ← b4.length]
        exact b4.take _
      obtain ⟨R4, E4⟩ := R0.updOwn (c' := .lst ys.dropLast) (o := .lst ws.dropLast) b1 b2 ⟨_, rfl, hd⟩
      exact ⟨_, b2, .inl ⟨rfl, _, SqL.of b3⟩, a, ws, y, rfl, rfl, b3, by rw [← b4.length]; exact hy, h _ _ _ R4 E4 (ry.mono E4.le E4.box)⟩
    · exact h.elim
  · exact h.elim
theorem RVs.eraseIdx {T : Hp} {ρ : Rho} : ∀ {xs : List PV} {vs : List V} (i : Nat), RVs G.K G.fa ρ T xs vs → RVs G.K G.fa ρ T (xs.eraseIdx i) (vs.eraseIdx i)
  | _, _, _, .nil => .nil
  | _, _, 0, .cons _ t => t
  | _, _, i + 1, .cons h t => .cons h (RVs.eraseIdx i t)
theorem popAt_ok (c : CxE G C Φ xr sc wr X W) {f : Expr → M RE} (hf : ∀ e, PE X e (rdE G xr P W (f e))) {x : Str} {i : Nat} {p apos pos : Pos} {e : Expr} (hv : isVis sc x = true) (hi : C.N.idxOf? x = some i) (hn : notStar e = true) (hline : (apos.endLine == pos.line) = true) :
    PE X (.Call (.Attribute (.Name x p) "pop" apos) [e] [] pos) (rdE G xr P W (bnd (chkL i) fun _ => bnd (f e) fun r => popAtM i r)) := by
  obtain ⟨d1, d2⟩ := c.g.loc x i hi
  refine (pe_bm PySem.F.plainAttrs_list PySem.F.slot_list_pop PySem.F.type_list_pop mt_popAt (pe_var (i := i) (by rw [c.hN]; exact idx_get hi) (by rw [c.hsc]; exact isVis_iff hv) d1 d2) (pa_cons (hf e) pa_nil (starEach_plain hn)) rfl (by rw [starEach_plain hn]; rfl) hline (starEach_plain hn) (plain_of rfl)).imp fun σ H Q ⟨ρ, s, R0, h⟩ => ?_
  obtain ⟨⟨xs, hx⟩, h1⟩ := chkL_ok h
  obtain ⟨a, vs, e1, e2, e3, e4⟩ := own_at R0 hx
  refine ⟨_, e2, .inl ⟨rfl, _, SqL.of e3⟩, ?_⟩
  refine rd_mono (seq R0 h1) ?_
  rintro y H1 ⟨r, ρ1, s1, R1, E1, hy, h2⟩
  obtain ⟨ρ2, R2, E2, hy2⟩ := R1.hold hy
  have h3 := h2.shift E2
  unfold popAtM at h3
  split at h3
  · rename_i ys hys
    split at h3
    · rename_i k hk
      split at h3
      · rename_i hb
        simp only [Bool.and_eq_true, decide_eq_true_eq] at hb
        split at h3
        · rename_i j hj
          split at h3
          · rename_i v hv'
            obtain ⟨b, ws, b1, b2, b3, b4⟩ := own_at R2 hys
            rw [e2] at b2
            cases b2
            cases (R2.peek hy2 hk).int
            obtain ⟨z, hz, rz⟩ := b4.get hv'
            obtain ⟨R4, E4⟩ := R2.updOwn (c' := .lst (ys.eraseIdx j)) (o := .lst (ws.eraseIdx j)) b1 e2 ⟨_, rfl, RVs.eraseIdx j b4⟩
            exact ⟨a, ws, k, j, z, rfl, rfl, b3, hb.1, hb.2, by rw [← b4.length]; exact hj, hz, h3 _ _ _ R4 E4 (rz.mono E4.le E4.box)⟩
          · exact h3.elim
        · exact h3.elim
      · exact h3.elim
    · exact h3.elim
  · exact h3.elim
end
end Ev

set_option linter.all false
set_option maxRecDepth 100000
set_option maxHeartbeats 1000000
/-! Ev.L: the step, and by induction every expression and test -/
namespace Ev
open PySem PySem.Spec L2
section
variable {G : Env1} {C : CC} {Φ : Orc} {xr : XR} {sc wr : Scope} {X : Cx} {W : WX} {P : Hp}
abbrev SoundE (G : Env1) (C : CC) (Φ : Orc) (xr : XR) (ee : Scope → Expr → M RE) : Prop := ∀ {sc wr : Scope} {X : Cx} {W : WX}, CxE G C Φ xr sc wr X W → ∀ {P : Hp} (e : Expr), PE X e (rdE G xr P W (ee sc e))
abbrev SoundT (G : Env1) (C : CC) (Φ : Orc) (xr : XR) (et : Scope → Expr → M Bool) : Prop := ∀ {sc wr : Scope} {X : Cx} {W : WX}, CxE G C Φ xr sc wr X W → ∀ {P : Hp} (e : Expr), PT X e (rdT G xr P W (et sc e))
theorem callE_ok (c : CxE G C Φ xr sc wr X W) {f : Expr → M RE} (hf : ∀ e, PE X e (rdE G xr P W (f e))) {x : Str} {p pos : Pos} {es : List Expr} : PE X (.Call (.Name x p) es [] pos) (rdE G xr P W (callE C Φ f sc x es)) := by
  unfold callE
  by_cases hg : isGl sc x = true
  · rw [if_pos hg]
    cases hl : C.glob.lookup x with
    | some g =>
      cases g with
      | const v => exact bad_ok
      | fn n =>
        dsimp only
        by_cases ha : es.all notStar = true
        · rw [if_pos ha]; exact call_ok c hf hg hl ha
        · rw [if_neg ha]; exact bad_ok
    | none =>
      dsimp only
      by_cases hi : x = ("isinstance" : Str)
      · rw [if_pos hi]
        subst hi
        split
        · rename_i a t p2
          by_cases hc : (notStar a && instTy t && isGl sc t && (C.glob.lookup t).isNone) = true
          · rw [if_pos hc]
            simp only [Bool.and_eq_true, Option.isNone_iff_eq_none] at hc
            exact isi_call c hf hg hl hc.1.1.1 hc.1.1.2 hc.1.2 hc.2
          · rw [if_neg hc]; exact bad_ok
        · exact bad_ok
      · rw [if_neg hi]
        cases hset : setArg C sc x es with
        | some a =>
          dsimp only
          unfold setArg at hset
          split at hset
          · rename_i y p2 a' q
            split at hset
            · rename_i hc
              cases hset
              simp only [Bool.and_eq_true, decide_eq_true_eq, Option.isNone_iff_eq_none] at hc
              obtain ⟨⟨⟨⟨rfl, rfl⟩, c3⟩, c4⟩, c5⟩ := hc
              exact sset_call c hf hg hl c3 c4 c5
            · cases hset
          · cases hset
        | none =>
        dsimp only
        cases hb : biOf x with
        | none => exact bad_ok
        | some b =>
          dsimp only
          cases es with
          | nil => exact bad_ok
          | cons e es =>
            dsimp only
            by_cases ha : (e :: es).all notStar = true
            · rw [if_pos ha]; exact bi_call c hf hg hl hb ha
            · rw [if_neg ha]; exact bad_ok
  · rw [if_neg hg]; exact bad_ok
theorem methE_ok (c : CxE G C Φ xr sc wr X W) {f : Expr → M RE} (hf : ∀ e, PE X e (rdE G xr P W (f e))) {x m : Str} {p apos pos : Pos} {es : List Expr} :
    PE X (.Call (.Attribute (.Name x p) m apos) es [] pos) (rdE G xr P W (methE C f sc x m es (apos.endLine == pos.line))) := by
  unfold methE
  by_cases h : ((apos.endLine == pos.line) && isVis sc x) = true
  · rw [if_pos h]
    simp only [Bool.and_eq_true] at h
    cases hi : C.N.idxOf? x with
    | none => exact bad_ok
    | some i =>
      dsimp only
      by_cases h1 : m = ("append" : Str)
      · rw [if_pos h1]
        subst h1
        rcases es with _ | ⟨a, _ | ⟨b, es⟩⟩
        · exact bad_ok
        · dsimp only
          by_cases hn : notStar a = true
          · rw [if_pos hn]; exact append_ok c hf h.2 hi hn h.1
          · rw [if_neg hn]; exact bad_ok
        · exact bad_ok
      · rw [if_neg h1]
        by_cases h2 : m = ("pop" : Str)
        · rw [if_pos h2]
          subst h2
          rcases es with _ | ⟨a, _ | ⟨b, es⟩⟩
          · exact pop_ok c h.2 hi h.1
          · dsimp only
            by_cases hn : notStar a = true
            · rw [if_pos hn]; exact popAt_ok c hf h.2 hi hn h.1
            · rw [if_neg hn]; exact bad_ok
          · exact bad_ok
        · rw [if_neg h2]; exact bad_ok
  · rw [if_neg h]; exact bad_ok
theorem neg_ok {ρ : Rho} {s : ES} {σ : St} {H : Hp} {u : PV} {z : RE} {x : V} {Q : VK} (R0 : Rel G.K G.fa P ρ s σ H) (hu : Pk G.K G.fa ρ H u x) (hf : negV u = some z) (h : rdAt G xr P (RER G.K G.fa) W ρ (.ok z s) σ H Q) : L2.rU (fun i => V.int (-i)) x H Q := by
  unfold negV at hf
  split at hf
  · cases hf; cases hu.int; exact ⟨_, rfl, fin R0 h (.int _)⟩
  · cases hf
theorem stepE_ok {ee : Scope → Expr → M RE} {et : Scope → Expr → M Bool} (he : SoundE G C Φ xr ee) (ht : SoundT G C Φ xr et) : SoundE G C Φ xr (stepE C Φ ee et) := by
  intro sc wr X W c P e
  have hf : ∀ e, PE X e (rdE G xr P W (ee sc e)) := fun e => he c e
  have hg : ∀ e, PT X e (rdT G xr P W (et sc e)) := fun e => ht c e
  cases e with
  | Constant k j p => exact const_ok
  | Name x p => exact name_ok c
  | BinOp a op b p =>
    exact (pe_op (op_U (f := binaryOp op)) (hf a) (hf b)).imp fun σ H Q h => two_ok (fun R0 hu hv e h => bin_ok R0 hu hv e c.hK h) h
  | UnaryOp op a p =>
    cases op with
    | USub => exact (pe_un un_neg (hf a)).imp fun σ H Q h => one_ok (fun R0 hu e h => neg_ok R0 hu e h) h
    | Not =>
      refine (pe_notT (hf a)).imp fun σ H Q ⟨ρ, s, R0, h⟩ => ?_
      refine rd_mono (seq R0 h) ?_
      rintro x H1 ⟨r, ρ1, s1, R1, E1, hx, h1⟩
      obtain ⟨ρ2, R2, E2, hx2⟩ := R1.hold hx
      obtain ⟨b, tb, h2⟩ := truM_ok (X := X) R2 hx2 c.hK h1
      exact ⟨b, tb, fin R1 h2 (.bl _)⟩
    | _ => exact bad_ok
  | BoolOp op vs p => exact bool_ok c.hK hf
  | IfExp t a b p =>
    refine (pe_ifExp (hg t) (hf a) (hf b)).imp fun σ H Q ⟨ρ, s, R0, h⟩ => ?_
    refine rd_mono (seq R0 h) ?_
    rintro k H1 ⟨k', ρ1, s1, R1, E1, ek, h1⟩
    subst ek
    cases k' with
    | true => rw [if_pos rfl]; exact ⟨ρ1, s1, R1, by simpa using h1⟩
    | false => rw [if_neg Bool.false_ne_true]; exact ⟨ρ1, s1, R1, by simpa using h1⟩
  | Tuple es k p => exact tup_ok hf
  | List es p => exact lst_ok hf
  | Compare a ops bs p =>
    rcases ops with _ | ⟨op, _ | ⟨op', _ | ⟨o3, ops⟩⟩⟩
    · exact bad_ok
    · rcases bs with _ | ⟨b, _ | ⟨d, bs⟩⟩
      · exact bad_ok
      · show PE X _ (rdE G xr P W (if marks op b then bad else _))
        by_cases hm : marks op b = true
        · rw [if_pos hm]; exact bad_ok
        · rw [if_neg hm]; exact cmp1_ok c hf (Bool.eq_false_iff.mpr hm)
      · exact bad_ok
    · rcases bs with _ | ⟨b, _ | ⟨d, _ | ⟨d2, bs⟩⟩⟩
      · exact bad_ok
      · exact bad_ok
      · show PE X _ (rdE G xr P W (if lastMarks [op, op'] [b, d] then bad else _))
        by_cases hm : lastMarks [op, op'] [b, d] = true
        · rw [if_pos hm]; exact bad_ok
        · rw [if_neg hm]; exact chain_ok c hf (Bool.eq_false_iff.mpr hm)
      · exact bad_ok
    · exact bad_ok
  | Subscript a b p =>
    by_cases hb : isSliceN b = true
    · cases b with
      | Slice lo hi st p2 =>
        cases st with
        | none => exact slice_ok c hf
        | some st =>
          show PE X _ (rdE G xr P W (if isRev lo hi (some st) then bnd (ee sc a) fun r => lift1 revV r else bad))
          by_cases hr : isRev lo hi (some st) = true
          · rw [if_pos hr]
            unfold isRev at hr
            split at hr
            · rename_i e3
              cases e3
              exact (pe_rev (hf a)).imp fun σ H Q h => one_ok (r := rRev X.K) (fun R0 hu e h => rev_ok R0 hu e c.hK h) h
            · cases hr
          · rw [if_neg hr]; exact bad_ok
      | _ => cases hb
    · have hb' : isSliceN b = false := Bool.eq_false_iff.mpr hb
      have e1 : stepE C Φ ee et sc (.Subscript a b p) = bnd (ee sc a) fun r => bnd (ee sc b) fun r' => subM r r' := by
        cases b <;> first | rfl | cases hb'
      rw [e1]
      exact (pe_ix ix_U (hf a) (hf b) (plainIx hb')).imp fun σ H Q h => sub_ok c.hK h
  | ListComp e gens scope p =>
    rcases gens with _ | ⟨⟨tg, it, ifs, isa⟩, _ | ⟨g2, gens⟩⟩
    · exact bad_ok
    · show PE X _ (rdE G xr P W (if isa == 0 && L2.blkC C.N sc scope (ownOf C scope) then _ else bad))
      by_cases hc : (isa == 0 && L2.blkC C.N sc scope (ownOf C scope)) = true
      · rw [if_pos hc]
        simp only [Bool.and_eq_true, beq_iff_eq] at hc
        obtain ⟨hz, hb⟩ := hc
        subst hz
        cases hs : isSetE it with
        | false => exact comp_ok c he ht hb hs
        | true =>
          have eb : evIter C (ee sc) sc tg it = bad := by
            cases it <;> first | (cases hs; done) | skip
            rfl
          rw [eb]
          exact bad_ok
      · rw [if_neg hc]; exact bad_ok
    · exact bad_ok
  | Call fn es kws p =>
    cases kws with
    | nil =>
      cases fn with
      | Name x q => exact callE_ok c hf
      | Attribute o m apos =>
        cases o with
        | Name x q => exact methE_ok c hf
        | _ => exact bad_ok
      | _ => exact bad_ok
    | cons k ks =>
      cases fn with
      | Name x q =>
        dsimp only [stepE]
        cases hd : dfltArg C sc x es (k :: ks) with
        | none => exact bad_ok
        | some al =>
          obtain ⟨a, lo⟩ := al
          dsimp only
          unfold dfltArg at hd
          split at hd
          · rename_i a' ky i cp kp hks
            split at hd
            · rename_i hc
              cases hd
              simp only [Bool.and_eq_true, Bool.or_eq_true, decide_eq_true_eq, Option.isNone_iff_eq_none] at hc
              obtain ⟨⟨⟨⟨c1, rfl⟩, c3⟩, c4⟩, c5⟩ := hc
              cases hks
              refine dflt_call c hf ?_ c3 c4 c5
              rcases c1 with rfl | rfl
              · exact .inl ⟨rfl, by decide⟩
              · exact .inr ⟨rfl, by decide⟩
            · cases hd
          · cases hd
      | _ => exact bad_ok
  | _ => exact bad_ok
/-- a value's truth as a test -/
theorem pt_of (hK : X.K = G.K) {e : Expr} {m : M RE} (h : PE X e (rdE G xr P W m)) (hp : ∀ whole, isTrue e X.env whole = (do let v ← whole; standAt e.pos; holding [v] (truthy v))) : PT X e (rdT G xr P W (bnd m truM)) := by
  refine (pt_truth h hp).imp fun σ H Q ⟨ρ, s, R0, h⟩ => ?_
  refine rd_mono (seq R0 h) ?_
  rintro x H1 ⟨r, ρ1, s1, R1, E1, hx, h1⟩
  obtain ⟨ρ2, R2, E2, hx2⟩ := R1.hold hx
  unfold truM at h1
  split at h1
  · rename_i u hu
    split at h1
    · rename_i b hb
      exact ⟨b, tru_pk (R2.peek hx2 hu) hb hK, rdRet R1 h1 rfl⟩
    · exact h1.elim
  · exact h1.elim
theorem rdBool {σ : St} {H : Hp} {m : M RE} {Q : Bool → Hp → Prop} (h : rdT G xr P W (bnd m asBool) σ H Q) : rdE G xr P W m σ H (fun x H1 => ∃ k, x = .bl k ∧ Q k H1) := by
  obtain ⟨ρ, s, R0, h⟩ := h
  refine rd_mono (seq R0 h) ?_
  rintro x H1 ⟨r, ρ1, s1, R1, E1, hx, h1⟩
  unfold asBool at h1
  split at h1
  · have hx' : RV G.K G.fa ρ1 (cut H1 ρ1) _ x := hx
    cases hx'
    exact ⟨_, rfl, rdRet R1 h1 rfl⟩
  · exact h1.elim
theorem pt_ifE {c a b : Expr} {pos : Pos} {tc ta tb : TT} (hc : PT X c tc) (ha : PT X a ta) (hb : PT X b tb) : PT X (.IfExp c a b pos) (fun σ H Q => tc σ H fun k H1 => if k = true then ta σ H1 Q else tb σ H1 Q) := by
  refine ⟨fun pins s σ H Q I h => ?_⟩
  rw [PySem.arm_isTrue_IfExp]
  refine wpAny_bind (thn (hc.run pins s σ H _ I h) fun d s1 ⟨H1, I1, q1⟩ => ?_)
  cases d with
  | true =>
    rw [if_pos rfl] at q1
    exact wpAny_ite_true rfl (ha.run pins s1 σ H1 Q I1 q1)
  | false =>
    rw [if_neg (by decide)] at q1
    exact wpAny_ite_false (by decide) (hb.run pins s1 σ H1 Q I1 q1)
theorem stepT_ok {ee : Scope → Expr → M RE} {et : Scope → Expr → M Bool} (he : SoundE G C Φ xr ee) (ht : SoundT G C Φ xr et) : SoundT G C Φ xr (stepT C Φ ee et) := by
  intro sc wr X W c P e
  have hf : ∀ e, PE X e (rdE G xr P W (ee sc e)) := fun e => he c e
  have hg : ∀ e, PT X e (rdT G xr P W (et sc e)) := fun e => ht c e
  have hs := stepE_ok he ht c (P := P) e
  cases e with
  | UnaryOp op a p =>
    cases op with
    | Not =>
      refine (pt_not (hg a)).imp fun σ H Q ⟨ρ, s, R0, h⟩ => ?_
      refine rd_mono (seq R0 h) ?_
      rintro b H1 ⟨b', ρ1, s1, R1, E1, eb, h1⟩
      subst eb
      exact rdRet R1 h1 rfl
    | _ => exact badT_ok
  | BoolOp op vs p =>
    cases vs with
    | nil => exact badT_ok
    | cons v vs => exact (boolT_ok hg (by simp)).pt
  | Compare a ops bs p =>
    rcases ops with _ | ⟨op, _ | ⟨op', _ | ⟨o3, ops⟩⟩⟩
    · exact badT_ok
    · rcases bs with _ | ⟨b, _ | ⟨d, bs⟩⟩
      · exact badT_ok
      · show PT X _ (rdT G xr P W (bnd (if marks op b then bad else _) asBool))
        by_cases hm : marks op b = true
        · rw [if_pos hm]; exact badT_ok
        · rw [if_neg hm]
          exact (pt_cmpR (op_U (f := compareOp op)) (hf a) (hf b) (Bool.eq_false_iff.mpr hm)).imp fun σ H Q h => cmp1_rd c (rdBool h)
      · exact badT_ok
    · rcases bs with _ | ⟨b, _ | ⟨d, _ | ⟨d2, bs⟩⟩⟩
      · exact badT_ok
      · exact badT_ok
      · show PT X _ (rdT G xr P W (bnd (if lastMarks [op, op'] [b, d] then bad else _) asBool))
        by_cases hm : lastMarks [op, op'] [b, d] = true
        · rw [if_pos hm]; exact badT_ok
        · rw [if_neg hm]
          exact (pt_chain (op_U (f := compareOp op)) (op_U (f := compareOp op')) (hf a) (hf b) (hf d) (Bool.eq_false_iff.mpr hm)).imp fun σ H Q h => chain_rd c (rdBool h)
      · exact badT_ok
    · exact badT_ok
  | IfExp t a b p =>
    refine (pt_ifE (hg t) (hg a) (hg b)).imp fun σ H Q ⟨ρ, s, R0, h⟩ => ?_
    refine rd_mono (seq R0 h) ?_
    rintro k H1 ⟨k', ρ1, s1, R1, E1, eb, h1⟩
    subst eb
    cases k' with
    | true => rw [if_pos rfl]; exact ⟨ρ1, s1, R1, by simpa using h1⟩
    | false => rw [if_neg Bool.false_ne_true]; exact ⟨ρ1, s1, R1, by simpa using h1⟩
  | Name x p => exact pt_of c.hK hs fun _ => rfl
  | Call fn es kws p => exact pt_of c.hK hs fun _ => rfl
  | Subscript a b p => exact pt_of c.hK hs fun _ => rfl
  | Constant k j p => exact pt_of c.hK hs fun _ => rfl
  | _ => exact badT_ok
theorem evET_ok : ∀ n, SoundE G C Φ xr (evET C Φ n).1 ∧ SoundT G C Φ xr (evET C Φ n).2
  | 0 => ⟨fun _ _ _ => bad_ok, fun _ _ _ => badT_ok⟩
  | n + 1 => ⟨stepE_ok (evET_ok n).1 (evET_ok n).2, stepT_ok (evET_ok n).1 (evET_ok n).2⟩
end
end Ev

set_option linter.all false
set_option maxRecDepth 100000
set_option maxHeartbeats 1000000
/-! Ev.M: statements -/
namespace Ev
open PySem PySem.Spec L2
theorem _root_.L2.PS.imp {X : Cx} {e : Stmt} {t t' : TS} (h : PS X e t) (i : ∀ D σ H, t' D σ H → t D σ H) : PS X e t' := ⟨fun pins s σ H D I q => h.run pins s σ H D I (i D σ H q)⟩
theorem _root_.L2.PSs.imp {X : Cx} {e : List Stmt} {t t' : TS} (h : PSs X e t) (i : ∀ D σ H, t' D σ H → t D σ H) : PSs X e t' := ⟨fun pins s σ H D I q => h.run pins s σ H D I (i D σ H q)⟩
def FlR (G : Env1) (D : Ends) (ρ : Rho) (σ : St) (H : Hp) : Fl → Prop
  | .nx => D.nx σ H
  | .bk => D.bk σ H
  | .ct => D.ct σ H
  | .rt r => ∀ V, RER G.K G.fa ρ σ H r V → D.rt V H
def rdSAt (G : Env1) (xr : XR) (P : Hp) (W : WX) (ρ : Rho) (o : Out Fl) (D : Ends) (σ : St) (H : Hp) : Prop :=
  match o with
  | .ok f s' => ∀ ρ' σ' H', Rel G.K G.fa P ρ' s' σ' H' → Ext ρ H ρ' H' → FlR G D ρ' σ' H' f
  | .exc x s' => ∀ ρ' σ' H' cls d, Rel G.K G.fa P ρ' s' σ' H' → Ext ρ H ρ' H' → xr x cls d H' → W cls d σ' H'
  | .bad => False
def rdS (G : Env1) (xr : XR) (P : Hp) (W : WX) (m : M Fl) : TS := fun D σ H => ∃ ρ s, Rel G.K G.fa P ρ s σ H ∧ rdSAt G xr P W ρ (m s) D σ H
/-- an exception's relation: own classes without anything more -/
def ExF (K : PySem.W.Frag) (X : Cx) (x : Str) (a : Addr) : Prop := X.mg x = some (.ref a) ∧ (x == ("__debug__" : Str)) = false ∧ PySem.W.excIn X.K a [.type "ValueError", .type "Exception", .type "BaseException", .type "object"] "ValueError.__new__" = true ∧
  PySem.W.keepIn X.K (.ref a) = true ∧ Raises X (.ref a)
/-- what a clause asks of a class: one is, or is not, under another -/
def SubF (K : PySem.W.Frag) (ea : Str → Option Addr) (mg : Str → Option Value) (x y : Str) (b : Bool) : Prop := ∃ ax ay, ea x = some ax ∧ mg y = some (.ref ay) ∧ (y == ("__debug__" : Str)) = false ∧
  PySem.W.exmOne K (.ref ax) (.ref ay) = some b ∧ PySem.W.kitOne K (.ref ax) (.ref ay) = some b ∧ ExcC K ax
structure CxS (G : Env1) (C : CC) (Φ : Orc) (xr : XR) (sc wd : Scope) (X : Cx) (W : WX) : Prop extends CxE G C Φ xr sc wd X W where
  po : PassesOwn (model X.prog X.w) X.A X.env X.xe
  ex : ∀ x, x ∈ C.excs → ∃ a, ExF G.K X x a ∧ ∀ H, xr ⟨x, []⟩ (.ref a) none H
  wrs : wd = sc
  xrd : ∀ x cls d H, xr x cls d H → ∃ a, G.ea x.cls = some a ∧ cls = .ref a ∧ d = none
  sub : ∀ x y b, ((x, y), b) ∈ C.subs → SubF X.K G.ea X.mg x y b
  stk : X.stack = X.env :: X.outer
  frm : X.env.frame = some X.env.locals
section
variable {G : Env1} {C : CC} {Φ : Orc} {xr : XR} {sc wr : Scope} {X : Cx} {W : WX} {P : Hp}
theorem rdSAt.shift {ρ ρ1 : Rho} {σ σ1 : St} {H H1 : Hp} (e : Ext ρ H ρ1 H1) {m : Out Fl} {D : Ends} (h : rdSAt G xr P W ρ m D σ H) : rdSAt G xr P W ρ1 m D σ1 H1 := by
  cases m with
  | ok r s' => exact fun ρ' σ' H' r1 e1 => h ρ' σ' H' r1 (e.trans e1)
  | exc x s' => exact fun ρ' σ' H' cls d r1 e1 rr => h ρ' σ' H' cls d r1 (e.trans e1) rr
  | bad => exact h
theorem rdSAt.mono {ρ : Rho} {σ : St} {H : Hp} {m : Out Fl} {D D' : Ends} (h : rdSAt G xr P W ρ m D σ H) (hn : ∀ σ H, D.nx σ H → D'.nx σ H) (hr : D'.rt = D.rt) (hb : ∀ σ H, D.bk σ H → D'.bk σ H) (hc : ∀ σ H, D.ct σ H → D'.ct σ H) : rdSAt G xr P W ρ m D' σ H := by
  cases m with
  | ok r s' =>
    intro ρ' σ' H' r1 e1
    have q := h ρ' σ' H' r1 e1
    cases r with
    | nx => exact hn _ _ q
    | bk => exact hb _ _ q
    | ct => exact hc _ _ q
    | rt r => intro V hv; rw [hr]; exact q V hv
  | exc x s' => exact h
  | bad => exact h
theorem seqS {α β : Type} {R : Rho → St → Hp → α → β → Prop} {ρ : Rho} {s : ES} {σ : St} {H : Hp} {m : M α} {f : α → M Fl} {D : Ends} (R0 : Rel G.K G.fa P ρ s σ H) (h : rdSAt G xr P W ρ (bnd m f s) D σ H) :
    rd G xr P R W m σ H (fun b H1 => ∃ r ρ1 s1, Rel G.K G.fa P ρ1 s1 σ H1 ∧ Ext ρ H ρ1 H1 ∧ R ρ1 σ H1 r b ∧ rdSAt G xr P W ρ1 (f r s1) D σ H1) := by
  refine ⟨ρ, s, R0, ?_⟩
  unfold bnd at h
  generalize m s = o at h ⊢
  cases o with
  | ok r s' => exact fun ρ' H' b r1 e1 rr => ⟨r, ρ', s', r1, e1, rr, h.shift e1⟩
  | exc x s' => exact fun ρ' H' cls d r1 e1 rr => h ρ' σ H' cls d r1 e1 rr
  | bad => exact h
theorem seqS0 {α : Type} {ρ : Rho} {s : ES} {σ : St} {H : Hp} {m : M α} {f : α → M Fl} {D : Ends} (h : rdSAt G xr P W ρ (bnd m f s) D σ H) :
    (∃ r s', m s = .ok r s' ∧ rdSAt G xr P W ρ (f r s') D σ H) ∨ ∃ x s', m s = .exc x s' := by
  unfold bnd at h
  generalize m s = o at h ⊢
  cases o with
  | ok r s' => exact .inl ⟨r, s', rfl, h⟩
  | exc x s' => exact .inr ⟨x, s', rfl⟩
  | bad => exact h.elim
theorem doneS {ρ ρ' : Rho} {s' : ES} {σ σ' : St} {H H' : Hp} {D : Ends} (h : rdSAt G xr P W ρ (.ok .nx s') D σ H) (R : Rel G.K G.fa P ρ' s' σ' H') (E : Ext ρ H ρ' H') : D.nx σ' H' := h ρ' σ' H' R E
theorem badS {e : Stmt} : PS X e (rdS G xr P W bad) := ⟨fun pins s σ H D I h => by obtain ⟨_, _, _, h⟩ := h; exact h.elim⟩
/-- statement after statement -/
theorem then_ok {st : Stmt} {r : List Stmt} {m m' : M Fl} (h : PS X st (rdS G xr P W m)) (h' : PSs X r (rdS G xr P W m')) : PSs X (st :: r) (rdS G xr P W (thenM m m')) :=
  (pss_cons h h').imp fun D σ H ⟨ρ, s, R0, q⟩ => by
    refine ⟨ρ, s, R0, ?_⟩
    unfold thenM bnd at q
    generalize m s = o at q ⊢
    cases o with
    | bad => exact q
    | exc x s' => exact q
    | ok f s' =>
      intro ρ' σ' H' R' E'
      cases f with
      | nx => exact ⟨ρ', s', R', q.shift E'⟩
      | bk => exact q ρ' σ' H' R' E'
      | ct => exact q ρ' σ' H' R' E'
      | rt r => exact q ρ' σ' H' R' E'
theorem block_ok {f : Stmt → M Fl} (h : ∀ st, PS X st (rdS G xr P W (f st))) : ∀ {l : List Stmt}, PSs X l (rdS G xr P W (blockM f l))
  | [] => pss_nil.imp fun D σ H ⟨ρ, s, R0, q⟩ => doneS q R0 Ext.refl
  | [st] => pss_one (h st)
  | st :: st2 :: r => then_ok (h st) (block_ok h (l := st2 :: r))

/-! ### a name takes an outcome -/
theorem asgR_ok {ρ : Rho} {s s' : ES} {σ : St} {H : Hp} {i : Nat} {bx : Bool} {r : RE} {V : L2.V} (R : Rel G.K G.fa P ρ s σ H) (hr : RER G.K G.fa ρ σ H r V) (e : asgR i bx r s = .ok () s') :
    ∃ ρ', Rel G.K G.fa P ρ' s' (σ.set i (some V)) H ∧ Ext ρ H ρ' H := by
  cases r with
  | val v => exact setSlot_ok R hr e
  | pk k =>
    obtain ⟨v, s1, e1, e2⟩ := bnd_ok e
    obtain ⟨ρ1, R1, E1, rv⟩ := share_ok R (r := .pk k) hr e1
    obtain ⟨ρ2, R2, E2⟩ := setSlot_ok R1 rv e2
    exact ⟨ρ2, R2, E1.trans E2⟩
  | fresh c =>
    obtain ⟨a, rfl, ht, hc⟩ := hr
    cases bx with
    | false =>
      have e' : setOwn i c s = .ok () s' := e
      unfold setOwn at e'
      split at e'
      · rename_i hi
        cases e'
        exact ⟨_, R.setFresh ht hc hi⟩
      · cases e'
    | true =>
      have e' : setBox i c s = .ok () s' := e
      unfold setBox at e'
      split at e'
      · rename_i hi
        cases e'
        obtain ⟨ρ1, R1, E1, hb⟩ := R.newBox ht hc
        obtain ⟨R2, E2⟩ := R1.setVal (i := i) (.box hb) hi
        exact ⟨_, R2, E1.trans E2⟩
      · cases e'
theorem setSlot_noexc {i : Nat} {v : PV} {s s' : ES} {x : Ex} : setSlot i v s ≠ .exc x s' := by
  intro h; unfold setSlot at h; split at h <;> cases h
theorem bnd_noexc {α β : Type} {m : M α} {f : α → M β} (hm : ∀ s x s', m s ≠ .exc x s') (hf : ∀ a s x s', f a s ≠ .exc x s') : ∀ s x s', bnd m f s ≠ .exc x s' := by
  intro s x s' h
  unfold bnd at h
  generalize ho : m s = o at h
  cases o with
  | ok a s1 => exact hf a s1 x s' h
  | exc y s1 => exact hm s y s1 ho
  | bad => cases h
theorem asgR_noexc {i : Nat} {bx : Bool} {r : RE} : ∀ s x s', asgR i bx r s ≠ .exc x s' := by
  intro s x s' h
  cases r with
  | val v => exact setSlot_noexc h
  | pk k => exact bnd_noexc (fun _ _ _ => share_noexc) (fun _ _ _ _ => setSlot_noexc) s x s' h
  | fresh c =>
    cases bx with
    | false => have h' : setOwn i c s = .exc x s' := h; unfold setOwn at h'; split at h' <;> cases h'
    | true => have h' : setBox i c s = .exc x s' := h; unfold setBox at h'; split at h' <;> cases h'
theorem asgN_noexc {e : Expr} {v : PV} : ∀ s x s', asgN C wr e v s ≠ .exc x s' := by
  intro s x s' h
  cases e with
  | Name y p =>
    by_cases hl : isLoc wr y = true
    · cases hi : C.N.idxOf? y with
      | none => simp [asgN, hl, hi, bad] at h
      | some i => simp only [asgN, hl, hi, if_true] at h; exact setSlot_noexc h
    · simp [asgN, hl, bad] at h
  | _ => cases h
theorem asgNs_noexc : ∀ {es : List Expr} {vs : List PV}, ∀ s x s', asgNs C wr es vs s ≠ .exc x s'
  | [], [], s, x, s', h => by cases h
  | [], _ :: _, s, x, s', h => by cases h
  | _ :: _, [], s, x, s', h => by cases h
  | e :: es, v :: vs, s, x, s', h => bnd_noexc (fun s x s' => asgN_noexc s x s') (fun _ s x s' => asgNs_noexc (es := es) (vs := vs) s x s') s x s' h
theorem asgV_eq {e : Expr} {v : PV} (h : isTupE e = false) : asgV C wr e v = asgN C wr e v := by
  cases e <;> first | rfl | cases h
theorem asgV_noexc {e : Expr} {v : PV} : ∀ s x s', asgV C wr e v s ≠ .exc x s' := by
  intro s x s' h
  cases ht : isTupE e with
  | false => rw [asgV_eq ht] at h; exact asgN_noexc s x s' h
  | true =>
    cases e with
    | Tuple es k p =>
      cases v with
      | tup xs => exact asgNs_noexc s x s' h
      | _ => cases h
    | _ => cases ht
theorem seqSn {α : Type} {ρ : Rho} {s : ES} {σ : St} {H : Hp} {m : M α} {f : α → M Fl} {D : Ends} (hm : ∀ s x s', m s ≠ .exc x s') (h : rdSAt G xr P W ρ (bnd m f s) D σ H) : ∃ r s', m s = .ok r s' ∧ rdSAt G xr P W ρ (f r s') D σ H := by
  rcases seqS0 h with q | ⟨x, s', e⟩
  · exact q
  · exact absurd e (hm _ _ _)
theorem nameOf_ok (c : CxS G C Φ xr sc wr X W) {x : Str} {i : Nat} (h : nameOf C sc x = some i) : X.N[i]? = some x ∧ Loc X.env.scope x ∧ (X.fn x = true ∨ X.env.scope.names.lookup x = some .local) ∧ isLoc sc x = true := by
  unfold nameOf at h
  split at h
  · rename_i hl
    have hl' : isLoc wr x = true := by rw [c.wrs]; exact hl
    obtain ⟨h1, h2⟩ := c.wr x hl'
    exact ⟨by rw [c.hN]; exact idx_get h, by rw [c.hsc]; exact h1, by rw [c.hsc]; exact h2, hl⟩
  · cases h
/-- behind the value of an assignment to a name -/
theorem asg_fin {te : TE} {m : M RE} {i : Nat} {bx : Bool} (K : ∀ {σ H Q}, rdE G xr P W m σ H Q → te σ H Q) {D : Ends} {σ : St} {H : Hp} (h : rdS G xr P W (bnd m fun r => bnd (asgR i bx r) fun _ => ret .nx) D σ H) : tAsg te (gName i) D σ H := by
  obtain ⟨ρ, s, R0, h⟩ := h
  refine K (rd_mono (seqS R0 h) ?_)
  rintro V H1 ⟨r, ρ1, s1, R1, E1, hr, h1⟩
  obtain ⟨_, s2, e2, h2⟩ := seqSn asgR_noexc h1
  obtain ⟨ρ2, R2, E2⟩ := asgR_ok R1 hr e2
  exact doneS h2 R2 E2
theorem swaps_no {e : Expr} {t : Option Expr} {l : Nat} {env : Env} (h : isComp e = false) : swapsWith e t l env = pure false := by
  cases e <;> first | rfl | cases h
theorem swaps_tup {e : Expr} {ts : List Expr} {k : Nat} {p : Pos} {l : Nat} {env : Env} : swapsWithSole [.Tuple ts k p] e l env = pure false := by
  cases e <;> rfl
theorem swaps_sub {e : Expr} {a b : Expr} {p : Pos} {l : Nat} {env : Env} : swapsWithSole [.Subscript a b p] e l env = pure false := by
  cases e <;> rfl
end
end Ev

set_option linter.all false
set_option maxRecDepth 100000
set_option maxHeartbeats 1000000
/-! Ev.T: try -/
namespace Ev
open PySem PySem.Spec L2
theorem lookup_in {α β : Type} [BEq α] [LawfulBEq α] {x : α} {y : β} : ∀ {l : List (α × β)}, l.lookup x = some y → (x, y) ∈ l
  | [], h => by cases h
  | (a, b) :: l, h => by
    rw [List.lookup_cons] at h
    cases e : x == a with
    | true =>
      rw [e] at h
      cases h
      rw [beq_iff_eq] at e
      subst e
      exact List.mem_cons_self ..
    | false =>
      rw [e] at h
      exact List.mem_cons_of_mem _ (lookup_in h)
section
variable {G : Env1} {C : CC} {Φ : Orc} {xr : XR} {sc wr : Scope} {X : Cx} {W W' : WX} {P : Hp}
theorem CxS.tr (c : CxS G C Φ xr sc wr X W) {pn : List (Addr × Obj)} {xe : Value → Shared → Prop} (tk : Takes (X.tr pn xe) W') (po : PassesOwn (model X.prog X.w) X.A X.env xe) : CxS G C Φ xr sc wr (X.tr pn xe) W' :=
  ⟨⟨c.hK, c.hN, c.nd, c.hsc, c.calm, c.units, c.gd, ⟨c.g.const, c.g.fn, c.g.bi, c.g.dbg, c.g.loc⟩, tk, c.wr⟩, po, c.ex, c.wrs, c.xrd, c.sub, c.stk, c.frm⟩
def fV : PV → V
  | .bl b => .bl b
  | .int i => .int i
  | .str x => .str x
  | _ => .non
theorem hE_flat {nm : Option Str} {x : Str} : ∀ (n : Nat) (e : Expr) (v : PV), hE C sc nm x n e = some v → ∀ {K : PySem.W.Frag} {fa : Nat → Addr} {ρ : Rho} {T : Hp}, RV K fa ρ T v (fV v) := by
  intro n
  induction n with
  | zero => intro e v h; cases h
  | succ n ih =>
    intro e v h K fa ρ T
    unfold hE at h
    split at h
    · rename_i c _ _
      cases c <;> simp only [flatC, reduceCtorEq, Option.some.injEq] at h <;> subst h
      · exact .non
      · exact .bl _
      · exact .int _
      · exact .str _
    · split at h
      · rw [Option.map_eq_some_iff] at h
        obtain ⟨b, _, rfl⟩ := h
        exact .bl _
      · cases h
    · split at h
      · split at h
        · exact ih _ v h
        · exact ih _ v h
        · cases h
      · cases h
    · cases h
/-- what is wished of a clause's value -/
def tH (G : Env1) (C : CC) (sc : Scope) (nm : Option Str) (a : Addr) (cls : Value) (d : Option Addr) (n : Nat) (e : Expr) : TE := fun σ H Q => ∃ x v ax, G.ea x = some ax ∧ cls = .ref ax ∧ d = none ∧ hE C sc nm x n e = some v ∧
  (∀ en i, nm = some en → C.N.idxOf? en = some i → σ[i]? = some (some (.ref a))) ∧ Q (fV v) H
theorem hE_ok (c : CxS G C Φ xr sc wr X W) {nm : Option Str} {a : Addr} {oe : Obj} {cls : Value} {d : Option Addr} {pn : List (Addr × Obj)} (hz : Zc cls d oe) (hf : ∃ vs, oe.data = .fields vs) : ∀ (n : Nat) (e : Expr), PE (X.suite a ((a, oe) :: pn)) e (tH G C sc nm a cls d n e) := by
  intro n
  induction n with
  | zero => exact fun e => ⟨fun pins s σ H Q I h => by obtain ⟨_, _, _, _, _, _, h, _⟩ := h; cases h⟩
  | succ n ih =>
    intro e
    refine ⟨fun pins s σ H Q I h => ?_⟩
    obtain ⟨x, v, ax, h1, h2, h3, h4, h5, q⟩ := h
    unfold hE at h4
    split at h4
    · rename_i k _ _
      cases k <;> simp only [flatC, reduceCtorEq, Option.some.injEq] at h4 <;> subst h4
      · exact pe_non.run pins s σ H Q I q
      · exact pe_bl.run pins s σ H Q I q
      · exact pe_int.run pins s σ H Q I q
      · exact pe_str.run pins s σ H Q I q
    · rename_i f p e1 p1 y p2 pos
      split at h4
      · rename_i hok
        rw [Option.map_eq_some_iff] at h4
        obtain ⟨b, hb, rfl⟩ := h4
        simp only [isiOk, Bool.and_eq_true, decide_eq_true_eq] at hok
        obtain ⟨⟨⟨⟨⟨⟨e0, e2⟩, e3⟩, e4⟩, e5⟩, e6⟩, e7⟩ := hok
        subst e0
        obtain ⟨i, hi⟩ := Option.isSome_iff_exists.mp e7
        obtain ⟨ax', ay, g1, g2, g3, g4, g5, g6⟩ := c.sub x y b (lookup_in hb)
        rw [h1] at g1
        cases g1
        subst h2 h3
        have hm := c.g.bi ("isinstance" : Str) (by decide +kernel) (by simpa using e5)
        obtain ⟨d1, d2⟩ := c.g.loc e1 i hi
        have vis : Vis (X.suite a ((a, oe) :: pn)).env.scope e1 := by
          show Vis X.env.scope e1
          rw [c.hsc]
          exact .inl e6
        refine (pe_callB (id := "isinstance") (call_isE (X := X) (pn := pn) g6 hz hf) (c.gl e3) hm (by decide +kernel) (pa_cons (pe_var (i := i) (by show X.N[i]? = _; rw [c.hN]; exact idx_get hi) vis d1 d2) (pa_cons (pe_glob (v := .ref ay) (c.gl e4) g2 rfl g3) pa_nil) (starEach_plain rfl)) (by decide +kernel) (by decide +kernel) (starEach_plain rfl) (plain_of rfl)).run pins s σ H Q I ?_
        refine ⟨.ref a, h5 e1 i e2 hi, .ref ay, .ref ay, b, rfl, fun u hu => ?_, g5, q⟩
        cases hu
        rfl
      · cases h4
    · rename_i t a1 b1 p
      split at h4
      · have ht := pt_val (ih (.Call ‹_› ‹_› ‹_› ‹_›)) (fun _ => rfl)
        split at h4
        · rename_i hh
          refine (pe_ifExp ht (ih a1) (ih b1)).run pins s σ H Q I ⟨x, .bl true, ax, h1, h2, h3, hh, h5, true, rfl, ?_⟩
          show tH G C sc nm a cls d n a1 σ H Q
          exact ⟨x, v, ax, h1, h2, h3, h4, h5, q⟩
        · rename_i hh
          refine (pe_ifExp ht (ih a1) (ih b1)).run pins s σ H Q I ⟨x, .bl false, ax, h1, h2, h3, hh, h5, false, rfl, ?_⟩
          show tH G C sc nm a cls d n b1 σ H Q
          exact ⟨x, v, ax, h1, h2, h3, h4, h5, q⟩
        · cases h4
      · cases h4
    · cases h4
theorem oneCl_eq {h : ExceptHandler} {y : Str} {nm : Option Str} {e : Expr} (q : oneCl h = some (y, nm, e)) : ∃ np rp pos, h = .ExceptHandler (some (.Name y np)) nm [.Return (some e) rp] pos := by
  unfold oneCl at q
  split at q
  · cases q
    exact ⟨_, _, _, rfl⟩
  · cases q
theorem known_names (c : CxS G C Φ xr sc wr X W) {y : Str} (h : known C sc y = true) : ∃ ay, Names X y (.ref ay) := by
  unfold known at h
  rw [Bool.and_eq_true] at h
  obtain ⟨h1, h2⟩ := h
  split at h2
  · rename_i x l hx
    obtain ⟨b, hb⟩ := Option.isSome_iff_exists.mp h2
    obtain ⟨_, ay, _, g2, g3, _⟩ := c.sub x y b (lookup_in hb)
    exact ⟨ay, c.gl h1, g3, .inl g2⟩
  · cases h2
theorem lookup_map {f : Str → Option (Option PV)} {x : Str} {v : Option PV} : ∀ {l : List Str}, ((l.map fun x => (x, f x)).lookup x).getD none = some v → f x = some v
  | [], h => by cases h
  | a :: l, h => by
    rw [List.map_cons, List.lookup_cons] at h
    cases e : x == a with
    | true =>
      rw [e] at h
      rw [beq_iff_eq] at e
      subst e
      exact h
    | false =>
      rw [e] at h
      exact lookup_map h
theorem tryG_run {n : Option Nat} {m : M Fl} {tab : List (Str × Option (Option PV))} {s : ES} {ρ : Rho} {D : Ends} {σ : St} {H : Hp} (h : rdSAt G xr P W ρ (tryG n m tab s) D σ H) (k : ∀ x s', m s = .exc x s' →
    (∀ i, n = some i → i < s'.env.length) → ((∃ v, (tab.lookup x.cls).getD none = some (some v) ∧ rdSAt G xr P W ρ (.ok (.rt (.val v)) s') D σ H) ∨ ((tab.lookup x.cls).getD none = some none ∧ rdSAt G xr P W ρ (.exc x s') D σ H)) → rdSAt G xr P W' ρ (.exc x s') D σ H) :
    rdSAt G xr P W' ρ (m s) D σ H := by
  unfold tryG at h
  cases e : m s with
  | ok f s' => rw [e] at h; exact h
  | bad => rw [e] at h; exact h
  | exc x s' =>
    rw [e] at h
    dsimp only at h
    split at h
    · by_cases hl : lenOk s' n = true
      · rw [if_pos hl] at h
        have hn : ∀ i, n = some i → i < s'.env.length := fun i hi => by
          subst hi
          simpa [lenOk] using hl
        split at h
        · rename_i v hv
          exact k x s' e hn (.inl ⟨v, hv, h⟩)
        · rename_i hv
          exact k x s' e hn (.inr ⟨hv, h⟩)
        · exact h.elim
      · rw [if_neg hl] at h
        exact h.elim
    · exact h.elim
/-- try, one clause with a name -/
theorem try_as_ok (c : CxS G C Φ xr sc wr X W) {body : List Stmt} {m : M Fl} (hb : ∀ (W' : WX) (pn : List (Addr × Obj)) (xe : Value → Shared → Prop), CxS G C Φ xr sc wr (X.tr pn xe) W' → PSs (X.tr pn xe) body (rdS G xr P W' m)) {h0 : ExceptHandler} {p : Pos} (ho : clAs C sc h0 = true) :
    PS X (.Try body [h0] [] [] p) (rdS G xr P W (tryM C sc m [h0])) := by
  unfold clAs at ho
  split at ho
  · rename_i y n e hq
    obtain ⟨np, rp, pos, rfl⟩ := oneCl_eq hq
    simp only [Bool.and_eq_true, decide_eq_true_eq] at ho
    obtain ⟨⟨k1, k2⟩, k3⟩ := ho
    obtain ⟨ay, hay⟩ := known_names c k1
    obtain ⟨i, hi⟩ := Option.isSome_iff_exists.mp k3
    refine (ps_try_as (i := i) (ts := fun a cls d => tRet (tH G C sc (some n) a cls d 12 e)) c.stk c.frm c.nd (by rw [c.hN]; exact idx_get hi) (by show X.env.scope.names.lookup n = _; rw [c.hsc]; exact k2) hay c.tk (fun W' pn xe tk po => hb W' pn xe (c.tr tk po)) (fun a oe cls d pn hz hf => pss_one (ps_ret (hE_ok c hz hf 12 e)))).imp fun D σ H ⟨ρ, s, R0, h⟩ => ⟨ρ, s, R0, ?_⟩
    refine tryG_run h fun x s' _ hn hk => ?_
    intro ρ' σ' H' cls d R' E' hx
    obtain ⟨ax, x1, x2, x3⟩ := c.xrd _ _ _ _ hx
    have hlen : i < σ'.length := by
      have := hn i hi
      rw [R'.len] at this
      exact this
    have row : ∀ {w : Option PV}, clauseV C sc x.cls [.ExceptHandler (some (.Name y np)) (some n) [.Return (some e) rp] pos] = some w → (C.subs.lookup (x.cls, y) = some true ∧ (hE C sc (some n) x.cls 12 e).map some = some w) ∨ (C.subs.lookup (x.cls, y) = some false ∧ w = none) := fun {w} hw => by
      unfold clauseV at hw
      rw [hq] at hw
      dsimp only at hw
      split at hw
      · exact .inl ⟨by assumption, hw⟩
      · refine .inr ⟨by assumption, ?_⟩
        unfold clauseV at hw
        exact (Option.some.inj hw).symm
      · cases hw
    have exm : ∀ b, C.subs.lookup (x.cls, y) = some b → PySem.W.exmOne X.K cls (.ref ay) = some b := fun b hb => by
      obtain ⟨ax', ay', g1, g2, _, g4, _, _⟩ := c.sub _ _ _ (lookup_in hb)
      rw [x1] at g1
      cases g1
      have : ay' = ay := by
        rcases hay.2.2 with z | ⟨z, _⟩
        · rw [g2] at z; cases z; rfl
        · rw [g2] at z; cases z
      subst this x2
      exact g4
    rcases hk with ⟨v, hv, hr⟩ | ⟨hv, hr⟩
    · rcases row (lookup_map hv) with ⟨b1, b2⟩ | ⟨_, b2⟩
      · rw [Option.map_eq_some_iff] at b2
        obtain ⟨v', b3, b4⟩ := b2
        cases b4
        refine ⟨true, exm _ b1, fun _ a na => ?_, fun z => nomatch z⟩
        refine ⟨x.cls, v, ax, x1, x2, x3, b3, fun en j e1 e2 => ?_, ?_⟩
        · cases e1
          rw [hi] at e2
          cases e2
          rw [List.getElem?_set_self hlen]
        · exact hr ρ' σ' H' R' E' (fV v) (hE_flat 12 e v b3)
      · cases b2
    · rcases row (lookup_map hv) with ⟨_, b2⟩ | ⟨b1, _⟩
      · rw [Option.map_eq_some_iff] at b2
        obtain ⟨_, _, b4⟩ := b2
        cases b4
      · exact ⟨false, exm _ b1, fun z => (by cases z), fun _ => hr ρ' σ' H' cls d R' E' hx⟩
  · cases ho
/-- try, clauses without names -/
theorem hds_ok (c : CxS G C Φ xr sc wr X W) {D : Ends} : ∀ (hs : List ExceptHandler), hs.all (clOk C sc) = true → ∃ l, HdsOk X hs l ∧ ∀ (D : Ends) (x : Str) (ax : Addr) (σ : St) (H : Hp) (w : Option PV), G.ea x = some ax → clauseV C sc x hs = some w →
    (match w with | some v => D.rt (fV v) H | none => W (.ref ax) none σ H) → wMany X.K W D l (.ref ax) none σ H
  | [], _ => ⟨[], .nil, fun D x ax σ H w _ hw h => by
    unfold clauseV at hw
    cases hw
    exact h⟩
  | h0 :: hs, ho => by
    rw [List.all_cons, Bool.and_eq_true] at ho
    obtain ⟨o1, o2⟩ := ho
    obtain ⟨l, l1, l2⟩ := hds_ok c (D := D) hs o2
    unfold clOk at o1
    split at o1
    · rename_i y e hq
      obtain ⟨np, rp, pos, rfl⟩ := oneCl_eq hq
      obtain ⟨ay, hay⟩ := known_names c o1
      refine ⟨(.ref ay, fun a cls d => tRet (tH G C sc none a cls d 12 e)) :: l, .cons hay (fun a oe cls d pn hz hf => pss_one (ps_ret (hE_ok c hz hf 12 e))) l1, fun D x ax σ H w hx hw h => ?_⟩
      have exm : ∀ b, C.subs.lookup (x, y) = some b → PySem.W.exmOne X.K (.ref ax) (.ref ay) = some b := fun b hb => by
        obtain ⟨ax', ay', g1, g2, _, g4, _, _⟩ := c.sub _ _ _ (lookup_in hb)
        rw [hx] at g1
        cases g1
        have : ay' = ay := by
          rcases hay.2.2 with z | ⟨z, _⟩
          · rw [g2] at z; cases z; rfl
          · rw [g2] at z; cases z
        subst this
        exact g4
      unfold clauseV at hw
      rw [hq] at hw
      dsimp only at hw
      split at hw
      · rename_i hb
        rw [Option.map_eq_some_iff] at hw
        obtain ⟨v, b3, rfl⟩ := hw
        exact ⟨true, exm _ hb, fun _ a na => ⟨x, v, ax, hx, rfl, rfl, b3, fun en j e1 => (by cases e1), h⟩, fun z => nomatch z⟩
      · rename_i hb
        exact ⟨false, exm _ hb, fun z => (by cases z), fun _ => l2 D x ax σ H w hx hw h⟩
      · cases hw
    · cases o1
theorem try_many_ok (c : CxS G C Φ xr sc wr X W) {body : List Stmt} {m : M Fl} (hb : ∀ (W' : WX) (pn : List (Addr × Obj)) (xe : Value → Shared → Prop), CxS G C Φ xr sc wr (X.tr pn xe) W' → PSs (X.tr pn xe) body (rdS G xr P W' m)) {h0 : ExceptHandler} {hs : List ExceptHandler} {p : Pos} (ho : (h0 :: hs).all (clOk C sc) = true) :
    PS X (.Try body (h0 :: hs) [] [] p) (rdS G xr P W (tryM C sc m (h0 :: hs))) := by
  obtain ⟨l, l1, l2⟩ := hds_ok c (D := ⟨fun _ _ => True, fun _ _ => True, fun _ _ => True, fun _ _ => True⟩) (h0 :: hs) ho
  refine (ps_try_many c.stk c.frm c.tk (fun W' pn xe tk po => hb W' pn xe (c.tr tk po)) l1).imp fun D σ H ⟨ρ, s, R0, h⟩ => ⟨ρ, s, R0, ?_⟩
  refine tryG_run h fun x s' _ hn hk => ?_
  intro ρ' σ' H' cls d R' E' hx
  obtain ⟨ax, x1, rfl, rfl⟩ := c.xrd _ _ _ _ hx
  rcases hk with ⟨v, hv, hr⟩ | ⟨hv, hr⟩
  · have cv := lookup_map hv
    refine l2 D x.cls ax σ' H' (some v) x1 cv ?_
    have flat : ∃ e, ∃ nm, hE C sc nm x.cls 12 e = some v := by
      clear l1 l2 h hr hv hb
      generalize h0 :: hs = L at cv
      induction L with
      | nil => unfold clauseV at cv; cases cv
      | cons a L ih =>
        unfold clauseV at cv
        split at cv
        · split at cv
          · rw [Option.map_eq_some_iff] at cv
            obtain ⟨v', b3, b4⟩ := cv
            cases b4
            exact ⟨_, _, b3⟩
          · exact ih cv
          · cases cv
        · cases cv
    obtain ⟨e, nm, he⟩ := flat
    exact hr ρ' σ' H' R' E' (fV v) (hE_flat 12 e v he)
  · exact l2 D x.cls ax σ' H' none x1 (lookup_map hv) (hr ρ' σ' H' _ _ R' E' hx)
theorem try_ok (c : CxS G C Φ xr sc wr X W) {body : List Stmt} {m : M Fl} (hb : ∀ (W' : WX) (pn : List (Addr × Obj)) (xe : Value → Shared → Prop), CxS G C Φ xr sc wr (X.tr pn xe) W' → PSs (X.tr pn xe) body (rdS G xr P W' m)) {hs : List ExceptHandler} {p : Pos} (ho : clsOk C sc hs = true) :
    PS X (.Try body hs [] [] p) (rdS G xr P W (tryM C sc m hs)) := by
  cases hs with
  | nil => cases ho
  | cons h0 hs =>
    unfold clsOk at ho
    rw [Bool.or_eq_true, Bool.and_eq_true] at ho
    rcases ho with ⟨o1, o2⟩ | ho
    · cases hs with
      | nil => exact try_as_ok c hb o2
      | cons a b => cases o1
    · exact try_many_ok c hb ho
end
end Ev

set_option linter.all false
set_option maxRecDepth 100000
set_option maxHeartbeats 2000000
/-! Ev.N: every statement -/
namespace Ev
open PySem PySem.Spec L2
section
variable {G : Env1} {C : CC} {Φ : Orc} {xr : XR} {sc wr : Scope} {X : Cx} {W : WX} {P : Hp}
/-! ### return -/
theorem ret_ok {e : Expr} {m : M RE} {p : Pos} (h : PE X e (rdE G xr P W m)) : PS X (.Return (some e) p) (rdS G xr P W (bnd m retM)) :=
  (ps_ret h).imp fun D σ H ⟨ρ, s, R0, q⟩ => by
    refine rd_mono (seqS R0 q) ?_
    rintro V H1 ⟨r, ρ1, s1, R1, E1, hr, h1⟩
    cases r with
    | val v => exact h1 ρ1 σ H1 R1 Ext.refl V hr
    | fresh c => exact h1 ρ1 σ H1 R1 Ext.refl V hr
    | pk i =>
      have hr : σ[i]? = some (some V) := hr
      unfold retM at h1
      dsimp only at h1
      have q1 := R1.slot i
      split at h1
      · rename_i c e1
        rw [e1] at q1
        obtain ⟨a, g1, g2, g3⟩ := q1
        rw [hr] at g2; cases g2
        have key : ∃ ρ2, Rel G.K G.fa P ρ2 { s1 with env := s1.env.set i .none } (σ.set i none) H1 ∧ Ext ρ1 H1 ρ2 H1 ∧ ρ2 (.tmp a) = some a ∧ Le (cut H1 ρ1) (cut H1 ρ2) ∧ BoxLe ρ1 ρ2 := by
          have bl : BoxLe ρ1 (setN (setN ρ1 (.slot i) none) (.tmp a) (some a)) := fun _ _ h => by rw [setN_ne (by simp), setN_ne (by simp)]; exact h
          have le : Le (cut H1 ρ1) (cut H1 (setN (setN ρ1 (.slot i) none) (.tmp a) (some a))) := cut_move g1
          refine ⟨_, ⟨inj_move R1.inj g1, fun b u h => le b u (R1.base b u h), fun j => ?_, fun n => (R1.box n).mono le bl (by rw [setN_ne (by simp), setN_ne (by simp)]) fun _ _ => rfl, fun b c h => ?_, fun b c h => ?_, by simpa using R1.len⟩, ⟨le, bl, fun b h => ⟨by rw [setN_ne (by simp), setN_ne (by simp)]; exact h, rfl⟩⟩, setN_same, le, bl⟩
          · show SlotR _ _ _ _ _ j (s1.env.set i .none)[j]?
            by_cases hj : j = i
            · subst hj
              have hl : j < s1.env.length := (List.getElem?_eq_some_iff.mp e1).1
              rw [List.getElem?_set_self hl]
              show setN (setN ρ1 (.slot j) none) (.tmp a) (some a) (.slot j) = none
              rw [setN_ne (by simp), setN_same]
            · rw [List.getElem?_set_ne (Ne.symm hj)]
              exact (R1.slot j).mono le bl (by rw [setN_ne (by simp), setN_ne (by simp [hj])]) (fun _ _ => rfl) (List.getElem?_set_ne (Ne.symm hj))
          · by_cases hb : b = a
            · subst hb; rw [setN_same] at h; cases h; exact ⟨rfl, g3.mut⟩
            · rw [setN_ne (by simp [hb]), setN_ne (by simp)] at h; exact R1.tmp b c h
          · rw [setN_ne (by simp), setN_ne (by simp)] at h; exact R1.held b c h
        obtain ⟨ρ2, R2, E2, t2, le2, bl2⟩ := key
        exact h1 ρ2 _ H1 R2 E2 _ ⟨a, rfl, t2, g3.mono le2 bl2⟩
      · rename_i u e1
        rw [e1] at q1
        obtain ⟨_, V', g2, g3⟩ := q1
        rw [hr] at g2; cases g2
        exact h1 ρ1 σ H1 R1 Ext.refl V g3
      · exact h1.elim
theorem retN_ok {p : Pos} : PS X (.Return none p) (rdS G xr P W (ret (.rt (.val .non)))) :=
  ps_retN.imp fun D σ H ⟨ρ, s, R0, q⟩ => q ρ σ H R0 Ext.refl .non .non
theorem if_ok {c : Expr} {a b : List Stmt} {p : Pos} {mc : M Bool} {ma mb : M Fl} (hc : PT X c (rdT G xr P W mc)) (ha : PSs X a (rdS G xr P W ma)) (hb : PSs X b (rdS G xr P W mb)) :
    PS X (.If c a b p) (rdS G xr P W (bnd mc fun k => if k then ma else mb)) :=
  (ps_if hc ha hb).imp fun D σ H ⟨ρ, s, R0, q⟩ => by
    refine rd_mono (seqS R0 q) ?_
    rintro k H1 ⟨k', ρ1, s1, R1, E1, ek, h1⟩
    subst ek
    cases k' with
    | true => rw [if_pos rfl]; exact ⟨ρ1, s1, R1, by simpa using h1⟩
    | false => rw [if_neg Bool.false_ne_true]; exact ⟨ρ1, s1, R1, by simpa using h1⟩
theorem while_ok (c : CxS G C Φ xr sc wr X W) {t : Expr} {body : List Stmt} {p : Pos} {mc : M Bool} {mb : M Fl} (hc : PT X t (rdT G xr P W mc)) (hb : PSs X body (rdS G xr P W mb)) {n : Nat} :
    PS X (.While t body [] p) (rdS G xr P W (whileM n mc mb)) :=
  (ps_while c.po hc hb).imp fun D σ H ⟨ρ, s, R0, q⟩ => by
    refine ⟨fun m σ H => ∃ ρ s, Rel G.K G.fa P ρ s σ H ∧ rdSAt G xr P W ρ (whileM m mc mb s) D σ H, ⟨n, ρ, s, R0, q⟩, ?_⟩
    rintro m σ1 H1 ⟨ρ1, s1, R1, h1⟩
    cases m with
    | zero => exact ⟨ρ1, s1, R1, h1.elim⟩
    | succ m =>
      unfold whileM at h1
      refine rd_mono (seqS R1 h1) ?_
      rintro k H2 ⟨k', ρ2, s2, R2, E2, ek, h2⟩
      subst ek
      cases k' with
      | false =>
        rw [if_neg Bool.false_ne_true]
        rw [if_neg Bool.false_ne_true] at h2
        exact doneS h2 R2 Ext.refl
      | true =>
        rw [if_pos rfl]
        rw [if_pos rfl] at h2
        refine ⟨fun σ' H' => ∃ ρ s, Rel G.K G.fa P ρ s σ' H' ∧ rdSAt G xr P W ρ (whileM m mc mb s) D σ' H', fun σ' H' h => ⟨m, Nat.lt_succ_self m, h⟩, ρ2, s2, R2, ?_⟩
        unfold bnd at h2
        generalize mb s2 = o at h2 ⊢
        cases o with
        | bad => exact h2
        | exc x s' => exact h2
        | ok f s' =>
          intro ρ' σ' H' R' E'
          cases f with
          | nx => exact ⟨ρ', s', R', h2.shift E'⟩
          | ct => exact ⟨ρ', s', R', h2.shift E'⟩
          | bk => exact h2 ρ' σ' H' R' E'
          | rt r => exact h2 ρ' σ' H' R' E'
theorem for_ok (c : CxS G C Φ xr sc wr X W) {tg it : Expr} {body : List Stmt} {p : Pos} {f : Expr → M RE} (hf : ∀ e, PE X e (rdE G xr P W (f e))) {mb : M Fl} (hb : PSs X body (rdS G xr P W mb)) :
    PS X (.For tg it body [] p) (rdS G xr P W (bnd (evIter C f sc tg it) fun xs => forM (asgV C sc tg) mb xs)) := by
  by_cases hs : isSetE it = true
  · have eb : evIter C f sc tg it = bad := by
      cases it <;> first | (cases hs; done) | skip
      rfl
    rw [eb]
    exact badS
  have cw : CxE G C Φ xr sc sc X W := by
    have := c.toCxE
    rw [c.wrs] at this
    exact this
  refine (ps_for c.po c.calm (iter_ok (P := P) c.toCxE hf) (asg_ok (P := P) cw) hb (foldedSet (Bool.eq_false_iff.mpr hs))).imp fun D σ H ⟨ρ, s, R0, q⟩ => ?_
  refine rd_mono (seqS R0 q) ?_
  rintro J H1 ⟨xs, ρ1, s1, R1, E1, hJ, h1⟩
  refine ⟨fun i m σ Hc => m = xs.length - i ∧ i ≤ xs.length ∧ ∃ ρ s, Rel G.K G.fa P ρ s σ Hc ∧ Le (cut H1 ρ1) (cut Hc ρ) ∧ BoxLe ρ1 ρ ∧ rdSAt G xr P W ρ (forM (asgV C sc tg) mb (xs.drop i) s) D σ Hc, ⟨xs.length, by simp, Nat.zero_le _, ρ1, s1, R1, fun _ _ h => h, fun _ _ h => h, h1⟩, ?_⟩
  rintro i m σc Hc ⟨rfl, hi, ρc, sc', Rc, le, bl, hc⟩
  by_cases hlt : i < xs.length
  rotate_left
  · have ei : i = xs.length := by omega
    subst ei
    rw [List.drop_length] at hc
    exact .inl ⟨hJ.stop ρc Hc le, doneS hc Rc Ext.refl⟩
  · refine .inr ⟨hJ.go i ρc Hc hlt le, fun σ' H' => _, fun σ' H' h => ⟨xs.length - (i + 1), by omega, h⟩, fun V H' y => ?_⟩
    have ed : xs.drop i = xs[i] :: xs.drop (i + 1) := List.drop_eq_getElem_cons hlt
    rw [ed] at hc
    unfold forM at hc
    obtain ⟨_, s2, g1, h2⟩ := seqSn asgV_noexc hc
    obtain ⟨v, hv, Rb, Eb, rv⟩ := hJ.yld i P ρc _ _ Hc V H' hlt Rc le bl y
    have ev : v = xs[i] := by
      rw [List.getElem?_eq_getElem hlt] at hv; exact (Option.some.inj hv).symm
    subst ev
    refine ⟨ρc, _, xs[i], s2, Rb, rv, g1, fun ρd σd Rd Ed _ => ⟨ρd, s2, Rd, ?_⟩⟩
    unfold bnd at h2
    generalize mb s2 = o at h2 ⊢
    cases o with
    | bad => exact h2
    | exc x s' => exact rdSAt.shift (σ := σc) (Eb.trans Ed) h2
    | ok f s' =>
      intro ρ' σ' H'' R' E'
      have E0 : Ext ρc Hc ρ' H'' := (Eb.trans Ed).trans E'
      cases f with
      | nx => exact ⟨rfl, hlt, ρ', s', R', fun a o h => E0.le a o (le a o h), fun n a h => E0.box n a (bl n a h), h2.shift E0⟩
      | ct => exact ⟨rfl, hlt, ρ', s', R', fun a o h => E0.le a o (le a o h), fun n a h => E0.box n a (bl n a h), h2.shift E0⟩
      | bk => exact h2 ρ' σ' H'' R' E0
      | rt r => exact h2 ρ' σ' H'' R' E0

/-! ### a tuple of targets -/
theorem shr_noexc {r : RE} : ∀ s x s', shr r s ≠ .exc x s' := by
  intro s x s' h
  cases r with
  | pk i => exact bnd_noexc (fun _ _ _ => share_noexc) (fun _ _ _ _ h => by cases h) s x s' h
  | _ => cases h
theorem unp_fin {te : TE} {m : M RE} {tg : Expr} (K : ∀ {σ H Q}, rdE G xr P W m σ H Q → te σ H Q) {D : Ends} {σ : St} {H : Hp} (h : rdS G xr P W (bnd m fun r => bnd (share r) fun v => bnd (asgV C sc tg v) fun _ => ret .nx) D σ H) :
    tAsg te (rdG G C P sc (asgV C sc tg)) D σ H := by
  obtain ⟨ρ, s, R0, h⟩ := h
  refine K (rd_mono (seqS R0 h) ?_)
  rintro V H1 ⟨r, ρ1, s1, R1, E1, hr, h1⟩
  obtain ⟨ρ2, R2, E2, hr2⟩ := R1.hold hr
  obtain ⟨v, s3, e3, h3⟩ := seqSn (fun _ _ _ => share_noexc) h1
  obtain ⟨ρ3, R3, E3, rv⟩ := share_ok R2 hr2 e3
  obtain ⟨_, s4, e4, h4⟩ := seqSn asgV_noexc h3
  exact ⟨ρ3, s3, v, s4, R3, rv, e4, fun ρ' σ' R' E' _ => doneS h4 R' ((E2.trans E3).trans E')⟩
/-- a new cell waits -/
theorem Rel.tmpHeld {ρ : Rho} {s : ES} {σ : St} {H : Hp} (R : Rel G.K G.fa P ρ s σ H) {a : Addr} (ha : ρ (.tmp a) = some a) :
    Rel G.K G.fa P (setN (setN ρ (.tmp a) none) (.held a) (some a)) s σ H ∧ Ext ρ H (setN (setN ρ (.tmp a) none) (.held a) (some a)) H := by
  have bl : BoxLe ρ (setN (setN ρ (.tmp a) none) (.held a) (some a)) := fun _ _ h => by rw [setN_ne (by simp), setN_ne (by simp)]; exact h
  have le : Le (cut H ρ) (cut H (setN (setN ρ (.tmp a) none) (.held a) (some a))) := cut_move ha
  refine ⟨⟨inj_move R.inj ha, fun b u h => le b u (R.base b u h), fun j => (R.slot j).mono le bl (by rw [setN_ne (by simp), setN_ne (by simp)]) (fun _ _ => rfl) rfl, fun n => (R.box n).mono le bl (by rw [setN_ne (by simp), setN_ne (by simp)]) fun _ _ => rfl, fun b c h => ?_, fun b c h => ?_, R.len⟩, le, bl, fun b h => ⟨?_, rfl⟩⟩
  · rw [setN_ne (by simp)] at h
    by_cases hb : b = a
    · subst hb; rw [setN_same] at h; cases h
    · rw [setN_ne (by simp [hb])] at h; exact R.tmp b c h
  · by_cases hb : b = a
    · subst hb; rw [setN_same] at h; cases h; exact ⟨rfl, R.mutAt ha⟩
    · rw [setN_ne (by simp [hb]), setN_ne (by simp)] at h; exact R.held b c h
  · have hb : b ≠ a := fun z => by subst z; cases R.inj _ _ b ha h
    rw [setN_ne (by simp [hb]), setN_ne (by simp)]; exact h
/-- an outcome that waits -/
def Wait (G : Env1) (ρ : Rho) (σ : St) (H : Hp) (r : RE) (V : L2.V) : Prop := match r with
  | .val v => RV G.K G.fa ρ (cut H ρ) v V
  | .fresh c => ∃ a, V = .ref a ∧ ρ (.held a) = some a ∧ CellR G.K G.fa ρ (cut H ρ) c (H a)
  | .pk i => σ[i]? = some (some V)
theorem Rel.wait {ρ : Rho} {s : ES} {σ : St} {H : Hp} (R : Rel G.K G.fa P ρ s σ H) {r : RE} {V : L2.V} (h : RER G.K G.fa ρ σ H r V) : ∃ ρ', Rel G.K G.fa P ρ' s σ H ∧ Ext ρ H ρ' H ∧ Wait G ρ' σ H r V := by
  cases r with
  | val v => exact ⟨ρ, R, Ext.refl, h⟩
  | pk i => exact ⟨ρ, R, Ext.refl, h⟩
  | fresh c =>
    obtain ⟨a, e, ht, hc⟩ := h
    obtain ⟨R', E'⟩ := R.tmpHeld ht
    exact ⟨_, R', E', a, e, setN_same, hc.mono E'.le E'.box⟩
theorem Wait.ext {ρ ρ' : Rho} {σ : St} {H H' : Hp} (e : Ext ρ H ρ' H') {r : RE} {V : L2.V} (h : Wait G ρ σ H r V) : Wait G ρ' σ H' r V := by
  cases r with
  | val v => exact RV.mono e.le e.box h
  | pk i => exact h
  | fresh c =>
    obtain ⟨a, e1, e2, e3⟩ := h
    obtain ⟨t1, t2⟩ := e.held a e2
    exact ⟨a, e1, t1, by rw [t2]; exact e3.mono e.le e.box⟩
/-- sharing one outcome while another is new -/
theorem shrW_ok {ρ : Rho} {s s' : ES} {σ : St} {H : Hp} {r r1 : RE} {V : L2.V} (R : Rel G.K G.fa P ρ s σ H) (h : Wait G ρ σ H r V) (e : shr r s = .ok r1 s') :
    ∃ ρ', Rel G.K G.fa P ρ' s' σ H ∧ Ext ρ H ρ' H ∧ Wait G ρ' σ H r1 V ∧ (∀ i, r1 ≠ .pk i) ∧ ∀ b, ρ (.tmp b) = some b → ρ' (.tmp b) = some b := by
  cases r with
  | val v => cases e; exact ⟨ρ, R, Ext.refl, h, by simp, fun _ h => h⟩
  | fresh c => cases e; exact ⟨ρ, R, Ext.refl, h, by simp, fun _ h => h⟩
  | pk i =>
    obtain ⟨v, s1, e1, e2⟩ := bnd_ok e
    cases e2
    have hx : σ[i]? = some (some V) := h
    unfold share at e1
    have q := R.slot i
    simp only at e1
    split at e1
    · rename_i c e3
      cases e1
      obtain ⟨a, g1, R1, E1, r1⟩ := R.freeze e3
      rw [hx] at g1; cases g1
      exact ⟨_, R1, E1, r1, by simp, fun b hb => by rw [setN_ne (by simp)]; exact hb⟩
    · rename_i u e3
      cases e1
      rw [e3] at q
      obtain ⟨_, V', h2, h3⟩ := q
      rw [hx] at h2; cases h2
      exact ⟨ρ, R, Ext.refl, h3, by simp, fun _ h => h⟩
    · cases e1
/-- a waiting cell goes to a slot -/
theorem Rel.setHeld {ρ : Rho} {s : ES} {σ : St} {H : Hp} (R : Rel G.K G.fa P ρ s σ H) {i : Nat} {c : Cell} {a : Addr} (ht : ρ (.held a) = some a) (hc : CellR G.K G.fa ρ (cut H ρ) c (H a)) (hi : i < s.env.length) :
    Rel G.K G.fa P (setN (setN ρ (.held a) none) (.slot i) (some a)) { s with env := s.env.set i (.own c) } (σ.set i (some (V.ref a))) H ∧ Le (cut H ρ) (cut H (setN (setN ρ (.held a) none) (.slot i) (some a))) ∧ BoxLe ρ (setN (setN ρ (.held a) none) (.slot i) (some a)) ∧
      (∀ b, b ≠ a → ρ (.held b) = some b → setN (setN ρ (.held a) none) (.slot i) (some a) (.held b) = some b) ∧ ∀ b, ρ (.tmp b) = some b → setN (setN ρ (.held a) none) (.slot i) (some a) (.tmp b) = some b := by
  have bl : BoxLe ρ (setN (setN ρ (.held a) none) (.slot i) (some a)) := fun _ _ h => by rw [setN_ne (by simp), setN_ne (by simp)]; exact h
  have le : Le (cut H ρ) (cut H (setN (setN ρ (.held a) none) (.slot i) (some a))) := cut_move ht
  have hl : i < σ.length := by rw [← R.len]; exact hi
  refine ⟨⟨inj_move R.inj ht, fun b u h => le b u (R.base b u h), fun j => ?_, fun n => (R.box n).mono le bl (by rw [setN_ne (by simp), setN_ne (by simp)]) fun _ _ => rfl, fun b c h => ?_, fun b c h => ?_, by simpa using R.len⟩, le, bl, fun b hb h => ?_, fun b h => ?_⟩
  · show SlotR _ _ _ _ _ j (s.env.set i (.own c))[j]?
    by_cases hj : j = i
    · subst hj
      rw [List.getElem?_set_self hi]
      exact ⟨a, setN_same, List.getElem?_set_self hl, hc.mono le bl⟩
    · rw [List.getElem?_set_ne (Ne.symm hj)]
      exact (R.slot j).mono le bl (by rw [setN_ne (by simp [hj]), setN_ne (by simp)]) (fun _ _ => rfl) (List.getElem?_set_ne (Ne.symm hj))
  · rw [setN_ne (by simp), setN_ne (by simp)] at h; exact R.tmp b c h
  · rw [setN_ne (by simp)] at h
    by_cases hb : b = a
    · subst hb; rw [setN_same] at h; cases h
    · rw [setN_ne (by simp [hb])] at h; exact R.held b c h
  · rw [setN_ne (by simp), setN_ne (by simp [hb])]; exact h
  · rw [setN_ne (by simp), setN_ne (by simp)]; exact h
/-- seqS from a ground that stays -/
theorem seqSb {α β : Type} {R : Rho → St → Hp → α → β → Prop} {ρb ρ : Rho} {s : ES} {σb σ : St} {Hb H : Hp} {m : M α} {f : α → M Fl} {D : Ends} (Eb : Ext ρb Hb ρ H) (R0 : Rel G.K G.fa P ρ s σ H) (h : rdSAt G xr P W ρb (bnd m f s) D σb Hb) :
    rd G xr P R W m σ H (fun b H1 => ∃ r ρ1 s1, Rel G.K G.fa P ρ1 s1 σ H1 ∧ Ext ρ H ρ1 H1 ∧ R ρ1 σ H1 r b ∧ rdSAt G xr P W ρb (f r s1) D σb Hb) := by
  refine ⟨ρ, s, R0, ?_⟩
  unfold bnd at h
  generalize m s = o at h ⊢
  cases o with
  | ok r s' => exact fun ρ' H' b r1 e1 rr => ⟨r, ρ', s', r1, e1, rr, h⟩
  | exc x s' => exact fun ρ' H' cls d r1 e1 rr => h ρ' σ H' cls d r1 (Eb.trans e1) rr
  | bad => exact h
theorem par_ok (c : CxS G C Φ xr sc wr X W) {f : Expr → M RE} (hf : ∀ e, PE X e (rdE G xr P W (f e))) {x y : Str} {px py tp : Pos} {kt k2 : Nat} {vp p : Pos} {a b : Expr} {i j : Nat}
    (hx : sc.names.lookup x = some .local) (hy : sc.names.lookup y = some .local) (hi : C.N.idxOf? x = some i) (hj : C.N.idxOf? y = some j) (hij : i ≠ j) (na : notStar a = true) (nb : notStar b = true)
    (hw : swappedStores [.Tuple [.Name x px, .Name y py] kt tp] (.Tuple [a, b] k2 vp) X.env = pure (some [x, y])) :
    PS X (.Assign [.Tuple [.Name x px, .Name y py] kt tp] (.Tuple [a, b] k2 vp) p) (rdS G xr P W (bnd (parM i j false false (f a) (f b)) fun _ => ret .nx)) := by
  refine (ps_par c.calm c.nd (by rw [c.hN]; exact idx_get hi) (by rw [c.hN]; exact idx_get hj) hij (by rw [c.hsc]; exact hx) (by rw [c.hsc]; exact hy) (pa_cons (hf a) (pa_cons (hf b) pa_nil (starEach_plain nb)) (starEach_plain na)) hw rfl).imp fun D σ H ⟨ρ, s, R0, h⟩ => ?_
  have hq : rdSAt G xr P W ρ (bnd (f a) (fun ra => bnd (f b) fun rb => bnd (shr ra) fun ra => bnd (shr rb) fun rb => bnd (asgR i false ra) fun _ => bnd (asgR j false rb) fun _ => ret .nx) s) D σ H := by
    have e : ∀ t, bnd (parM i j false false (f a) (f b)) (fun _ => ret Fl.nx) t = bnd (f a) (fun ra => bnd (f b) fun rb => bnd (shr ra) fun ra => bnd (shr rb) fun rb => bnd (asgR i false ra) fun _ => bnd (asgR j false rb) fun _ => ret .nx) t := by
      intro t
      have as : ∀ {α β γ : Type} (m : M α) (g : α → M β) (k : β → M γ) (t : ES), bnd (bnd m g) k t = bnd m (fun x => bnd (g x) k) t := by
        intro α β γ m g k t
        unfold bnd
        generalize m t = o
        cases o <;> rfl
      unfold parM
      rw [as]
      congr 1; funext ra; funext t1
      rw [as]
      congr 1; funext rb; funext t2
      rw [as]
      congr 1; funext ra'; funext t3
      rw [as]
      congr 1; funext rb'; funext t4
      rw [as]
    rw [e] at h
    exact h
  clear h
  refine rd_mono (seqS R0 hq) ?_
  rintro V1 H1 ⟨ra, ρ1, s1, R1, E1, hra, h1⟩
  obtain ⟨ρ2, R2, E2, w2⟩ := R1.wait hra
  refine rd_mono (seqSb E2 R2 h1) ?_
  rintro V2 H3 ⟨rb, ρ3, s3, R3, E3, hrb, h3⟩
  have w3 := w2.ext E3
  obtain ⟨ra', s4, e4, h4⟩ := seqSn shr_noexc h3
  -- the second one: its new cell stays a result
  have key : ∃ ρ4, Rel G.K G.fa P ρ4 s4 σ H3 ∧ Ext ρ3 H3 ρ4 H3 ∧ Wait G ρ4 σ H3 ra' V1 ∧ (∀ i, ra' ≠ .pk i) ∧ RER G.K G.fa ρ4 σ H3 rb V2 := by
    obtain ⟨ρ4, R4, E4, w4, n4, t4⟩ := shrW_ok R3 w3 e4
    refine ⟨ρ4, R4, E4, w4, n4, ?_⟩
    cases rb with
    | val v => exact RV.mono E4.le E4.box hrb
    | pk k => exact hrb
    | fresh c' =>
      obtain ⟨a', q1, q2, q3⟩ := hrb
      exact ⟨a', q1, t4 a' q2, q3.mono E4.le E4.box⟩
  obtain ⟨ρ4, R4, E4, w4, n4, hrb4⟩ := key
  obtain ⟨rb', s5, e5, h5⟩ := seqSn shr_noexc h4
  have key2 : ∃ ρ5, Rel G.K G.fa P ρ5 s5 σ H3 ∧ Ext ρ4 H3 ρ5 H3 ∧ Wait G ρ5 σ H3 ra' V1 ∧ RER G.K G.fa ρ5 σ H3 rb' V2 ∧ ∀ i, rb' ≠ .pk i := by
    cases rb with
    | val v => cases e5; exact ⟨ρ4, R4, Ext.refl, w4, hrb4, by simp⟩
    | fresh c' => cases e5; exact ⟨ρ4, R4, Ext.refl, w4, hrb4, by simp⟩
    | pk k =>
      obtain ⟨v, s6, e6, e7⟩ := bnd_ok e5
      cases e7
      obtain ⟨ρ5, R5, E5, rv⟩ := share_ok R4 (r := .pk k) hrb4 e6
      exact ⟨ρ5, R5, E5, w4.ext E5, rv, by simp⟩
  obtain ⟨ρ5, R5, E5, w5, hrb5, nb5⟩ := key2
  obtain ⟨_, s6, e6, h6⟩ := seqSn asgR_noexc h5
  have E15 : Ext ρ1 H1 ρ5 H3 := ((E2.trans E3).trans E4).trans E5
  have key3 : ∃ ρ6, Rel G.K G.fa P ρ6 s6 (σ.set i (some V1)) H3 ∧ Ext ρ1 H1 ρ6 H3 ∧ RER G.K G.fa ρ6 (σ.set i (some V1)) H3 rb' V2 := by
    cases ra' with
    | pk k => exact absurd rfl (n4 k)
    | val v =>
      have e6' : setSlot i v s5 = .ok () s6 := e6
      unfold setSlot at e6'
      split at e6'
      · rename_i hl
        cases e6'
        obtain ⟨R6, E6⟩ := R5.setVal (i := i) (V := V1) w5 hl
        refine ⟨_, R6, E15.trans E6, ?_⟩
        cases rb' with
        | val u => exact RV.mono E6.le E6.box hrb5
        | pk k => exact absurd rfl (nb5 k)
        | fresh c' =>
          obtain ⟨a', q1, q2, q3⟩ := hrb5
          exact ⟨a', q1, by rw [setN_ne (by simp)]; exact q2, q3.mono E6.le E6.box⟩
      · cases e6'
    | fresh c' =>
      obtain ⟨a', rfl, q2, q3⟩ := w5
      have e6' : setOwn i c' s5 = .ok () s6 := e6
      unfold setOwn at e6'
      split at e6'
      · rename_i hl
        cases e6'
        obtain ⟨R6, le6, bl6, hh6, tt6⟩ := R5.setHeld (i := i) q2 q3 hl
        have nh : ∀ b, ρ1 (.held b) = some b → b ≠ a' := by
          intro b hb z
          subst z
          cases ra with
          | val v => cases e4
          | pk k =>
            obtain ⟨u, s8, g1, g2⟩ := bnd_ok e4
            cases g2
          | fresh c1 =>
            obtain ⟨a1, z1, z2, _⟩ := hra
            cases z1
            cases R1.inj _ _ _ z2 hb
        refine ⟨_, R6, ⟨fun b o h => le6 b o (E15.le b o h), fun n b h => bl6 n b (E15.box n b h), fun b h => ⟨hh6 b (nh b h) (E15.held b h).1, (E15.held b h).2⟩⟩, ?_⟩
        cases rb' with
        | val u => exact RV.mono le6 bl6 hrb5
        | pk k => exact absurd rfl (nb5 k)
        | fresh c2 =>
          obtain ⟨a2, g1, g2, g3⟩ := hrb5
          exact ⟨a2, g1, tt6 a2 g2, g3.mono le6 bl6⟩
      · cases e6'
  obtain ⟨ρ6, R6, E6, hrb6⟩ := key3
  obtain ⟨_, s7, e7, h7⟩ := seqSn asgR_noexc h6
  obtain ⟨ρ7, R7, E7⟩ := asgR_ok R6 hrb6 e7
  exact ⟨V1, V2, rfl, doneS h7 R7 (E6.trans E7)⟩
theorem shv_noexc {r : RE} : ∀ s x s', shv r s ≠ .exc x s' := by
  intro s x s'
  cases r with
  | val v => intro h; cases h
  | fresh c => intro h; cases h
  | pk i => exact fun h => share_noexc (show share (.pk i) s = .exc x s' from h)
theorem shv_ok {ρ : Rho} {s s' : ES} {σ : St} {H : Hp} {r : RE} {v : PV} {V : L2.V} (R : Rel G.K G.fa P ρ s σ H) (h : Wait G ρ σ H r V) (e : shv r s = .ok v s') :
    ∃ ρ', Rel G.K G.fa P ρ' s' σ H ∧ Ext ρ H ρ' H ∧ RV G.K G.fa ρ' (cut H ρ') v V ∧ ∀ b, ρ (.tmp b) = some b → ρ' (.tmp b) = some b := by
  cases r with
  | val u => cases e; exact ⟨ρ, R, Ext.refl, h, fun _ h => h⟩
  | fresh c => cases e
  | pk i =>
    have e' : shr (.pk i) s = .ok (.val v) s' := by
      unfold shr bnd
      have e1 : share (.pk i) s = .ok v s' := e
      dsimp only
      rw [e1]
      rfl
    obtain ⟨ρ', R', E', w, _, t⟩ := shrW_ok R h e'
    exact ⟨ρ', R', E', w, t⟩
theorem rer_keep {ρ ρ' : Rho} {σ σ' : St} {H : Hp} {r : RE} {V : L2.V} (E : Le (cut H ρ) (cut H ρ') ∧ BoxLe ρ ρ') (t : ∀ b, ρ (.tmp b) = some b → ρ' (.tmp b) = some b) (np : ∀ i, r ≠ .pk i) (h : RER G.K G.fa ρ σ H r V) : RER G.K G.fa ρ' σ' H r V := by
  cases r with
  | val v => exact RV.mono E.1 E.2 h
  | pk k => exact absurd rfl (np k)
  | fresh c =>
    obtain ⟨a, q1, q2, q3⟩ := h
    exact ⟨a, q1, t a q2, q3.mono E.1 E.2⟩
theorem par3_ok (c : CxS G C Φ xr sc wr X W) {f : Expr → M RE} (hf : ∀ e, PE X e (rdE G xr P W (f e))) {x y z : Str} {px py pz tp : Pos} {kt k2 : Nat} {vp p : Pos} {a b d : Expr} {i j l : Nat}
    (hx : sc.names.lookup x = some .local) (hy : sc.names.lookup y = some .local) (hz : sc.names.lookup z = some .local) (hi : C.N.idxOf? x = some i) (hj : C.N.idxOf? y = some j) (hl : C.N.idxOf? z = some l) (hij : i ≠ j) (hil : i ≠ l) (hjl : j ≠ l) (na : notStar a = true) (nb : notStar b = true) (nd : notStar d = true)
    (hw : swappedStores [.Tuple [.Name x px, .Name y py, .Name z pz] kt tp] (.Tuple [a, b, d] k2 vp) X.env = pure (some [x, y, z])) :
    PS X (.Assign [.Tuple [.Name x px, .Name y py, .Name z pz] kt tp] (.Tuple [a, b, d] k2 vp) p) (rdS G xr P W (bnd (parM3 i j l (f a) (f b) (f d)) fun _ => ret .nx)) := by
  refine (ps_par3 c.calm c.nd (by rw [c.hN]; exact idx_get hi) (by rw [c.hN]; exact idx_get hj) (by rw [c.hN]; exact idx_get hl) hij hil hjl (by rw [c.hsc]; exact hx) (by rw [c.hsc]; exact hy) (by rw [c.hsc]; exact hz) (pa_cons (hf a) (pa_cons (hf b) (pa_cons (hf d) pa_nil (starEach_plain nd)) (starEach_plain nb)) (starEach_plain na)) hw rfl).imp fun D σ H ⟨ρ, s, R0, h⟩ => ?_
  have hq : rdSAt G xr P W ρ (bnd (f a) (fun ra => bnd (f b) fun rb => bnd (f d) fun rc => bnd (shv ra) fun va => bnd (shv rb) fun vb => bnd (shr rc) fun rc => bnd (setSlot i va) fun _ => bnd (setSlot j vb) fun _ => bnd (asgR l false rc) fun _ => ret .nx) s) D σ H := by
    have e : ∀ t, bnd (parM3 i j l (f a) (f b) (f d)) (fun _ => ret Fl.nx) t = bnd (f a) (fun ra => bnd (f b) fun rb => bnd (f d) fun rc => bnd (shv ra) fun va => bnd (shv rb) fun vb => bnd (shr rc) fun rc => bnd (setSlot i va) fun _ => bnd (setSlot j vb) fun _ => bnd (asgR l false rc) fun _ => ret .nx) t := by
      intro t
      have as : ∀ {α β γ : Type} (m : M α) (g : α → M β) (k : β → M γ) (t : ES), bnd (bnd m g) k t = bnd m (fun x => bnd (g x) k) t := by
        intro α β γ m g k t
        unfold bnd
        generalize m t = o
        cases o <;> rfl
      unfold parM3
      rw [as]
      congr 1; funext ra; funext t1
      rw [as]
      congr 1; funext rb; funext t2
      rw [as]
      congr 1; funext rc; funext t3
      rw [as]
      congr 1; funext va; funext t4
      rw [as]
      congr 1; funext vb; funext t5
      rw [as]
      congr 1; funext rc'; funext t6
      rw [as]
      congr 1; funext u1; funext t7
      rw [as]
    rw [e] at h
    exact h
  clear h
  refine rd_mono (seqS R0 hq) ?_
  rintro V1 H1 ⟨ra, ρ1, s1, R1, E1, hra, h1⟩
  obtain ⟨ρ2, R2, E2, w2⟩ := R1.wait hra
  refine rd_mono (seqSb E2 R2 h1) ?_
  rintro V2 H3 ⟨rb, ρ3, s3, R3, E3, hrb, h3⟩
  obtain ⟨ρ4, R4, E4, w4⟩ := R3.wait hrb
  refine rd_mono (seqSb ((E2.trans E3).trans E4) R4 h3) ?_
  rintro V3 H5 ⟨rc, ρ5, s5, R5, E5, hrc, h5⟩
  have wa := ((w2.ext E3).ext E4).ext E5
  have wb := w4.ext E5
  have E15 : Ext ρ1 H1 ρ5 H5 := ((E2.trans E3).trans E4).trans E5
  obtain ⟨va, s6, e6, h6⟩ := seqSn shv_noexc h5
  obtain ⟨ρ6, R6, E6, rva, t6⟩ := shv_ok R5 wa e6
  obtain ⟨vb, s7, e7, h7⟩ := seqSn shv_noexc h6
  obtain ⟨ρ7, R7, E7, rvb, t7⟩ := shv_ok R6 (wb.ext E6) e7
  have hrc7 : RER G.K G.fa ρ7 σ H5 rc V3 := by
    cases rc with
    | val v => exact RV.mono E7.le E7.box (RV.mono E6.le E6.box hrc)
    | pk k => exact hrc
    | fresh c' =>
      obtain ⟨a', q1, q2, q3⟩ := hrc
      exact ⟨a', q1, t7 a' (t6 a' q2), (q3.mono E6.le E6.box).mono E7.le E7.box⟩
  obtain ⟨rc', s8, e8, h8⟩ := seqSn shr_noexc h7
  have key2 : ∃ ρ8, Rel G.K G.fa P ρ8 s8 σ H5 ∧ Ext ρ7 H5 ρ8 H5 ∧ RER G.K G.fa ρ8 σ H5 rc' V3 ∧ ∀ i, rc' ≠ .pk i := by
    cases rc with
    | val v => cases e8; exact ⟨ρ7, R7, Ext.refl, hrc7, by simp⟩
    | fresh c' => cases e8; exact ⟨ρ7, R7, Ext.refl, hrc7, by simp⟩
    | pk k =>
      obtain ⟨v, s9, e9, e10⟩ := bnd_ok e8
      cases e10
      obtain ⟨ρ8, R8, E8, rv⟩ := share_ok R7 (r := .pk k) hrc7 e9
      exact ⟨ρ8, R8, E8, rv, by simp⟩
  obtain ⟨ρ8, R8, E8, hrc8, np⟩ := key2
  have rva8 := RV.mono E8.le E8.box (RV.mono E7.le E7.box rva)
  have rvb8 := RV.mono E8.le E8.box rvb
  have E18 : Ext ρ1 H1 ρ8 H5 := ((E15.trans E6).trans E7).trans E8
  obtain ⟨_, s9, e9, h9⟩ := seqSn (fun _ _ _ => setSlot_noexc) h8
  unfold setSlot at e9
  split at e9
  · rename_i hl1
    cases e9
    obtain ⟨R9, E9⟩ := R8.setVal (i := i) (V := V1) rva8 hl1
    have hrc9 := rer_keep (σ' := σ.set i (some V1)) ⟨E9.le, E9.box⟩ (fun b hb => by rw [setN_ne (by simp)]; exact hb) np hrc8
    have rvb9 := RV.mono E9.le E9.box rvb8
    obtain ⟨_, s10, e10, h10⟩ := seqSn (fun _ _ _ => setSlot_noexc) h9
    unfold setSlot at e10
    split at e10
    · rename_i hl2
      cases e10
      obtain ⟨R10, E10⟩ := R9.setVal (i := j) (V := V2) rvb9 hl2
      have hrc10 := rer_keep (σ' := (σ.set i (some V1)).set j (some V2)) ⟨E10.le, E10.box⟩ (fun b hb => by rw [setN_ne (by simp)]; exact hb) np hrc9
      obtain ⟨_, s11, e11, h11⟩ := seqSn asgR_noexc h10
      obtain ⟨ρ11, R11, E11⟩ := asgR_ok R10 hrc10 e11
      exact ⟨V1, V2, V3, rfl, doneS h11 R11 (((E18.trans E9).trans E10).trans E11)⟩
    · cases e10
  · cases e9
theorem fm_len {α β : Type} (f : α → Option β) : ∀ l : List α, (l.filterMap f).length ≤ l.length ∧ (l.any (fun t => (f t).isNone) = true → (l.filterMap f).length < l.length)
  | [] => ⟨Nat.le_refl _, fun h => by cases h⟩
  | a :: l => by
    obtain ⟨h1, h2⟩ := fm_len f l
    cases ha : f a with
    | none => rw [List.filterMap_cons, ha]; exact ⟨Nat.le_succ_of_le h1, fun _ => Nat.lt_succ_of_le h1⟩
    | some b =>
      rw [List.filterMap_cons, ha]
      refine ⟨Nat.succ_le_succ h1, fun h => Nat.succ_lt_succ (h2 ?_)⟩
      simpa [ha] using h
theorem folded_none {ts vs : List Expr} {k k2 : Nat} {tp vp : Pos} {env : Env} (h : vs.all (foldedForSure 8) = true ∨ offRoad env.scope ts = true ∨ vs.length ≠ ts.length) : swappedStores [.Tuple ts k tp] (.Tuple vs k2 vp) env = pure none := by
  unfold swappedStores
  dsimp only
  split
  · rfl
  · rename_i h1
    split
    · rfl
    · split
      · rfl
      · split
        · rfl
        · rename_i h4
          rename_i h3
          rcases h with h | h | h
          · exact absurd h h4
          · exfalso
            refine h3 ?_
            have q : ∀ (g : Expr → Option Str), (∀ t, (match t with | .Name x _ => !(env.scope.names.lookup x == some .local) | _ => true) = true → g t = none) → (ts.filterMap g).length ≠ ts.length := fun g hg => by
              refine Nat.ne_of_lt ((fm_len g ts).2 ?_)
              unfold offRoad at h
              rw [List.any_eq_true] at h ⊢
              obtain ⟨t, ht, h⟩ := h
              exact ⟨t, ht, by rw [hg t h]; rfl⟩
            rw [Bool.or_eq_true]
            left
            rw [bne_iff_ne]
            refine q _ fun t ht => ?_
            cases t <;> first | rfl | skip
            rename_i x px
            have ht : (!(env.kindOf x == some .local)) = true := ht
            rw [Bool.not_eq_true'] at ht
            dsimp only
            rw [ht]
            rfl
          · simp at h1; have := h1.1.2
            omega
theorem swapped_no {ts : List Expr} {k : Nat} {tp : Pos} {e : Expr} {env : Env} (h : isTupE e = false) : swappedStores [.Tuple ts k tp] e env = pure none := by
  cases e <;> first | rfl | cases h
theorem par_road {x y : Str} {px py tp vp : Pos} {kt k2 : Nat} {a b : Expr} {env : Env} (hk : env.scope.kind = .function) (hx : env.scope.names.lookup x = some .local) (hy : env.scope.names.lookup y = some .local) (hxy : x ≠ y) (hl : (px.line == py.line) = true) (na : notStar a = true) (nb : notStar b = true)
    (nf : [a, b].all (foldedForSure 8) = false) (nc : [a, b].all (constantsAlone 8) = false) : swappedStores [.Tuple [.Name x px, .Name y py] kt tp] (.Tuple [a, b] k2 vp) env = pure (some [x, y]) := by
  have hb : env.blockKind = .function := by unfold Env.blockKind; rw [hk]; rfl
  have kx : env.kindOf x = some .local := hx
  have ky : env.kindOf y = some .local := hy
  have hl' : (py.line == px.line) = true := by
    rw [beq_iff_eq] at hl ⊢; exact hl.symm
  unfold swappedStores
  dsimp only
  rw [hb]
  split
  · rename_i h1; exact absurd h1 (by simp)
  · split
    · rename_i h2
      exfalso
      revert h2
      cases a <;> cases b <;> first | (cases na; done) | (cases nb; done) | (intro h2; simp at h2)
    · have en : (List.filterMap (fun (e : Expr) => match e with | .Name id pos => if (env.kindOf id == some NameKind.local && pos.line == (Option.map (fun x => x.pos.line) [Expr.Name x px, Expr.Name y py].head?).getD 0) = true then some id else none | _ => none) [Expr.Name x px, Expr.Name y py]) = [x, y] := by
        simp [kx, ky, Expr.pos, beq_iff_eq.mp hl']
      have ed : ([x, y] : List Str).eraseDups.length = 2 := by
        have : (y == x) = false := beq_eq_false_iff_ne.mpr (Ne.symm hxy)
        simp [List.eraseDups_cons, this]
      split
      · rename_i h3
        exfalso
        have h3' : (([x, y] : List Str).length != 2 || ([x, y] : List Str).eraseDups.length != ([x, y] : List Str).length) = true := by
          rw [← en]; exact h3
        rw [ed] at h3'
        simp at h3'
      · rw [if_neg (by rw [nf]; decide), if_neg (by rw [nc]; decide)]
        exact congrArg (fun l => (pure (some l) : Sem (Option (List Str)))) en

theorem trip_road {x y z : Str} {px py pz tp vp : Pos} {kt k2 : Nat} {a b c : Expr} {env : Env} (hk : env.scope.kind = .function) (hx : env.scope.names.lookup x = some .local) (hy : env.scope.names.lookup y = some .local) (hz : env.scope.names.lookup z = some .local) (hxy : x ≠ y) (hxz : x ≠ z) (hyz : y ≠ z) (hl : (px.line == py.line) = true) (hl2 : (px.line == pz.line) = true) (na : notStar a = true) (nb : notStar b = true) (nd : notStar c = true)
    (nf : [a, b, c].all (foldedForSure 8) = false) (nc : [a, b, c].all (constantsAlone 8) = false) : swappedStores [.Tuple [.Name x px, .Name y py, .Name z pz] kt tp] (.Tuple [a, b, c] k2 vp) env = pure (some [x, y, z]) := by
  have hb : env.blockKind = .function := by unfold Env.blockKind; rw [hk]; rfl
  have kx : env.kindOf x = some .local := hx
  have ky : env.kindOf y = some .local := hy
  have kz : env.kindOf z = some .local := hz
  have hl' : (py.line == px.line) = true := by
    rw [beq_iff_eq] at hl ⊢; exact hl.symm
  have hl2' : (pz.line == px.line) = true := by
    rw [beq_iff_eq] at hl2 ⊢; exact hl2.symm
  unfold swappedStores
  dsimp only
  rw [hb]
  split
  · rename_i h1; exact absurd h1 (by simp)
  · split
    · rename_i h2
      exfalso
      revert h2
      intro h2
      simp only [List.any_cons, List.any_nil, Bool.or_false, Bool.or_eq_true] at h2
      rcases h2 with h2 | h2 | h2
      · cases a <;> first | (cases na; done) | (cases h2; done)
      · cases b <;> first | (cases nb; done) | (cases h2; done)
      · cases c <;> first | (cases nd; done) | (cases h2; done)
    · have en : (List.filterMap (fun (e : Expr) => match e with | .Name id pos => if (env.kindOf id == some NameKind.local && pos.line == (Option.map (fun x => x.pos.line) [Expr.Name x px, Expr.Name y py, Expr.Name z pz].head?).getD 0) = true then some id else none | _ => none) [Expr.Name x px, Expr.Name y py, Expr.Name z pz]) = [x, y, z] := by
        simp [kx, ky, kz, Expr.pos, beq_iff_eq.mp hl', beq_iff_eq.mp hl2']
      have ed : ([x, y, z] : List Str).eraseDups.length = 3 := by
        have h1 : (y == x) = false := beq_eq_false_iff_ne.mpr (Ne.symm hxy)
        have h2 : (z == x) = false := beq_eq_false_iff_ne.mpr (Ne.symm hxz)
        have h3 : (z == y) = false := beq_eq_false_iff_ne.mpr (Ne.symm hyz)
        simp [List.eraseDups_cons, h1, h2, h3]
      split
      · rename_i h3
        exfalso
        have h3' : (([x, y, z] : List Str).length != 3 || ([x, y, z] : List Str).eraseDups.length != ([x, y, z] : List Str).length) = true := by
          rw [← en]; exact h3
        rw [ed] at h3'
        simp at h3'
      · rw [if_neg (by rw [nf]; decide), if_neg (by rw [nc]; decide)]
        exact congrArg (fun l => (pure (some l) : Sem (Option (List Str)))) en
theorem trip_some {ts vs : List Expr} {i j l : Nat} {a b d : Expr} (h : tripOf C sc ts vs = some (i, j, l, a, b, d)) : ∃ x px y py z pz, ts = [.Name x px, .Name y py, .Name z pz] ∧ vs = [a, b, d] ∧ tripOk C sc x px y py z pz a b d = true ∧ i = (C.N.idxOf? x).getD 0 ∧ j = (C.N.idxOf? y).getD 0 ∧ l = (C.N.idxOf? z).getD 0 := by
  unfold tripOf at h
  split at h
  · split at h
    · cases h
      exact ⟨_, _, _, _, _, _, rfl, rfl, by assumption, rfl, rfl, rfl⟩
    · cases h
  · cases h
theorem road_plain {ts vs : List Expr} (h : roadOf C sc ts vs = .plain) : vs.all (foldedForSure 8) = true ∨ offRoad sc ts = true ∨ vs.length ≠ ts.length := by
  by_cases hv : vs.all (foldedForSure 8) = true
  · exact .inl hv
  by_cases ho : offRoad sc ts = true
  · exact .inr (.inl ho)
  refine .inr (.inr fun hl => ?_)
  unfold roadOf at h
  split at h
  · rw [if_neg hv, if_neg ho] at h
    split at h
    · cases h
    · split at h <;> cases h
  · rw [if_pos (by simp only [hl, decide_true, Bool.true_and, Bool.and_eq_true, Bool.not_eq_true']; exact ⟨Bool.eq_false_iff.mpr hv, Bool.eq_false_iff.mpr ho⟩)] at h
    cases h
theorem road_par {ts vs : List Expr} {i j : Nat} (h : roadOf C sc ts vs = .par i j) : ∃ x px y py a b, ts = [.Name x px, .Name y py] ∧ vs = [a, b] ∧ parOk C sc x px y py a b = true ∧ i = (C.N.idxOf? x).getD 0 ∧ j = (C.N.idxOf? y).getD 0 ∧
    vs.all (foldedForSure 8) = false ∧ vs.all (constantsAlone 8) = false := by
  unfold roadOf at h
  split at h
  · rename_i x px y py a b hp
    unfold pairOf at hp
    split at hp
    · cases hp
      split at h
      · cases h
      · split at h
        · cases h
        · split at h
          · cases h
          · split at h
            · rename_i h1 h0 h2 h3
              cases h
              exact ⟨_, _, _, _, _, _, rfl, rfl, h3, rfl, rfl, Bool.eq_false_iff.mpr h1, Bool.eq_false_iff.mpr h2⟩
            · cases h
    · cases hp
  · split at h <;> cases h
theorem raiseOf_some {ex cause : Option Expr} {x : Str} (h : raiseOf ex cause = some x) : ∃ p1 m j p2 p3, ex = some (.Call (.Name x p1) [.Constant (.str m) j p2] [] p3) ∧ cause = none := by
  unfold raiseOf at h
  split at h
  · cases h; exact ⟨_, _, _, _, _, rfl, rfl⟩
  · cases h
/-! ### x[k] = e, x += e -/
theorem assignSub {o i : Expr} {p : Pos} {env : Env} (h : isSliceN i = false) : ∀ v, assign (.Subscript o i p) env v = (do
      let ov ← holding [v] (eval o env)
      let iv ← holding [v, ov] (eval i env)
      standAt p
      holding [v, ov, iv] (setItem ov iv v)
      release [v, ov, iv] []) := by
  intro v
  cases i <;> first | rfl | cases h
theorem storeM_noexc {i : Nat} {v : PV} {k : RE} : ∀ s x s', storeM i v k s ≠ .exc x s' := by
  intro s x s' h
  unfold storeM at h
  repeat (first | cases h | split at h)
theorem chkS_ok {ρ : Rho} {s s' : ES} {σ : St} {H : Hp} {i : Nat} (R : Rel G.K G.fa P ρ s σ H) (h : chkS i s = .ok () s') : s' = s ∧ ∃ V, σ[i]? = some (some V) := by
  have q := R.slot i
  unfold chkS at h
  split at h
  · rename_i c e
    cases h
    rw [e] at q
    obtain ⟨a, _, h2, _⟩ := q
    exact ⟨rfl, _, h2⟩
  · rename_i v e
    cases h
    rw [e] at q
    obtain ⟨_, V, h2, _⟩ := q
    exact ⟨rfl, _, h2⟩
  · cases h
theorem chkS_noexc {i : Nat} : ∀ s x s', chkS i s ≠ .exc x s' := by
  intro s x s' h
  unfold chkS at h
  split at h <;> cases h
theorem store_ok (c : CxS G C Φ xr sc wr X W) {f : Expr → M RE} (hf : ∀ e, PE X e (rdE G xr P W (f e))) {x : Str} {px p2 p : Pos} {k e : Expr} {i : Nat} (hk : isSliceN k = false) (hv : isVis sc x = true) (hi : C.N.idxOf? x = some i) :
    PS X (.Assign [.Subscript (.Name x px) k p2] e p) (rdS G xr P W (bnd (f e) fun r => bnd (share r) fun v => bnd (chkS i) fun _ => bnd (f k) fun rk => bnd (storeM i v rk) fun _ => ret .nx)) := by
  obtain ⟨d1, d2⟩ := c.g.loc x i hi
  by_cases hsw : swapsWith e (some (.Subscript (.Name x px) k p2)) p.line X.env = pure false
  · refine (ps_asg (hf e) (pg_sub (pe_var (i := i) (by rw [c.hN]; exact idx_get hi) (by rw [c.hsc]; exact isVis_iff hv) d1 d2) (hf k) set_list (assignSub hk)) swaps_sub (by cases e <;> rfl) rfl).imp fun D σ H ⟨ρ, s, R0, h⟩ => ?_
    refine rd_mono (seqS R0 h) ?_
    rintro V H1 ⟨r, ρ1, s1, R1, E1, hr, h1⟩
    obtain ⟨ρ2, R2, E2, hr2⟩ := R1.hold hr
    obtain ⟨v, s3, e3, h3⟩ := seqSn (fun _ _ _ => share_noexc) h1
    obtain ⟨ρ3, R3, E3, rv⟩ := share_ok R2 hr2 e3
    obtain ⟨_, s4, e4, h4⟩ := seqSn chkS_noexc h3
    obtain ⟨es, O, hO⟩ := chkS_ok R3 e4
    subst es
    refine ⟨O, hO, ?_⟩
    refine rd_mono (seqSb (E2.trans E3) R3 h4) ?_
    rintro kV H5 ⟨rk, ρ5, s5, R5, E5, hk5, h5⟩
    obtain ⟨ρ6, R6, E6, hk6⟩ := R5.hold hk5
    obtain ⟨_, s7, e7, h7⟩ := seqSn storeM_noexc h5
    have rv6 := (rv.mono E5.le E5.box).mono E6.le E6.box
    have E16 : Ext ρ1 H1 ρ6 H5 := ((E2.trans E3).trans E5).trans E6
    unfold storeM at e7
    split at e7
    · rename_i kk hd
      cases (R6.peek hk6 hd).int
      split at e7
      · rename_i xs hx
        split at e7
        · rename_i j hj
          cases e7
          obtain ⟨a, vs, b1, b2, b3, b4⟩ := own_at R6 hx
          rw [hO] at b2; cases b2
          obtain ⟨R8, E8⟩ := R6.updOwn (c' := .lst (xs.set j v)) (o := .lst (vs.set j V)) b1 hO ⟨_, rfl, b4.set rv6 j⟩
          exact ⟨a, vs, kk, j, rfl, rfl, b3, by rw [← b4.length]; exact hj, doneS h7 R8 (E16.trans E8)⟩
        · cases e7
      · rename_i n hx
        have q := R6.slot i
        rw [hx] at q
        obtain ⟨_, O', g2, g3⟩ := q
        rw [hO] at g2; cases g2
        split at e7
        · rename_i xs hst
          split at e7
          · rename_i j hj
            cases e7
            have qb := R6.box n
            rw [hst] at qb
            obtain ⟨a, b1, vs, b3, b4⟩ := qb
            cases g3 with
            | box g4 =>
              rw [b1] at g4; cases g4
              obtain ⟨R8, E8⟩ := R6.updBox (c' := .lst (xs.set j v)) (o := .lst (vs.set j V)) b1 ⟨_, rfl, b4.set rv6 j⟩
              exact ⟨a, vs, kk, j, rfl, rfl, b3, by rw [← b4.length]; exact hj, doneS h7 R8 (E16.trans E8)⟩
          · cases e7
        · cases e7
      · cases e7
    · cases e7
  · exact absurd (by cases e <;> rfl) hsw
def uIp (X : Cx) (op : Operator) : TIp := fun x y H Q => ∀ (pins : List (Addr × Obj)) (s : Shared) (σ : St) (v u : Value), Inv X pins σ H s → RelV x v → RelV y u → wpAny (model X.prog X.w) X.A (inplaceOp op v u) (EP X pins σ Q) X.xe s
theorem ip_U {X : Cx} {op : Operator} : PIp X op (uIp X op) := fun pins s σ H x y v u Q I rx ry h => h pins s σ v u I rx ry
theorem uIp.of {X : Cx} {op : Operator} {r : R2} (h : OpR X (inplaceOp op) r) {x y : V} {H : Hp} {Q : VK} (q : r x y H Q) : uIp X op x y H Q := fun pins s σ v u I rx ry => h pins s σ H x y v u Q I rx ry q
theorem augM_noexc {op : Operator} {i : Nat} {r : RE} : ∀ s x s', augM op i r s ≠ .exc x s' := by
  intro s x s' h
  unfold augM at h
  repeat (first | cases h | split at h)
theorem set_same {σ : St} {i : Nat} {x : Option V} (h : σ[i]? = some x) : σ.set i x = σ := by
  apply List.ext_getElem?
  intro j
  by_cases hj : j = i
  · subst hj
    rw [List.getElem?_set_self (List.getElem?_eq_some_iff.mp h).1, h]
  · rw [List.getElem?_set_ne (Ne.symm hj)]
theorem aug_ok (c : CxS G C Φ xr sc wr X W) {f : Expr → M RE} (hf : ∀ e, PE X e (rdE G xr P W (f e))) {x : Str} {px p : Pos} {op : Operator} {e : Expr} {i : Nat} (hi : nameOf C sc x = some i) :
    PS X (.AugAssign (.Name x px) op e p) (rdS G xr P W (bnd (chkS i) fun _ => bnd (f e) fun r => bnd (augM op i r) fun _ => ret .nx)) := by
  obtain ⟨n1, n2, n3, _⟩ := nameOf_ok c hi
  refine (ps_aug c.nd n1 n2 (hf e) ip_U n3).imp fun D σ H ⟨ρ, s, R0, h⟩ => ?_
  obtain ⟨_, s4, e4, h4⟩ := seqSn chkS_noexc h
  obtain ⟨es, O, hO⟩ := chkS_ok R0 e4
  subst es
  refine ⟨O, hO, rd_mono (seqS R0 h4) ?_⟩
  rintro V H1 ⟨r, ρ1, s1, R1, E1, hr, h1⟩
  obtain ⟨ρ2, R2, E2, hr2⟩ := R1.hold hr
  obtain ⟨_, s3, e3, h3⟩ := seqSn augM_noexc h1
  unfold augM at e3
  split at e3
  · split at e3
    · rename_i a ha
      split at e3
      · rename_i b hb
        cases e3
        have q := R2.slot i
        rw [ha] at q
        obtain ⟨_, O', g2, g3⟩ := q
        rw [hO] at g2; cases g2
        cases g3
        cases (R2.peek hr2 hb).int
        have hl : i < s1.env.length := (List.getElem?_eq_some_iff.mp ha).1
        obtain ⟨R3, E3⟩ := R2.setVal (i := i) (V := .int (a + b)) (.int (a + b)) hl
        exact .of iop_add ⟨_, _, rfl, rfl, doneS h3 R3 (E2.trans E3)⟩
      · cases e3
    · rename_i xs ha
      split at e3
      · rename_i ys hb
        split at e3
        · cases e3
        · split at e3
          · rename_i hl
            cases e3
            obtain ⟨a, vs, b1, b2, b3, b4⟩ := own_at R2 ha
            rw [hO] at b2; cases b2
            obtain ⟨b, ws, rfl, d1, d2⟩ := (R2.peek hr2 hb).lst
            obtain ⟨R3, E3⟩ := R2.updOwn (c' := .lst (xs ++ ys)) (o := .lst (vs ++ ws)) b1 hO ⟨_, rfl, b4.append d2⟩
            exact .of iop_ext ⟨a, b, vs, ws, rfl, rfl, b3, d1, by rw [sizeLIM, ← b4.length, ← d2.length]; exact hl, by show D.nx (σ.set i (some (V.ref a))) _; rw [set_same hO]; exact doneS h3 R3 (E2.trans E3)⟩
          · cases e3
      · cases e3
    · cases e3
  · cases e3
/-! ### raise -/
theorem raise_ok (c : CxS G C Φ xr sc wr X W) {x m : Str} {j : Nat} {p p1 p2 p3 : Pos} (hx : x ∈ C.excs) (hg : isGl sc x = true) : PS X (.Raise (some (.Call (.Name x p1) [.Constant (.str m) j p2] [] p3)) none p) (rdS G xr P W (raiseM x)) := by
  obtain ⟨a, ⟨gC, hd, xP, kC, rz⟩, hxr⟩ := c.ex x hx
  exact (ps_raise c.calm c.tk (pmk_own PySem.F.excBase_ValueError xP gC kC rz (c.gl hg) hd)).imp fun D σ H ⟨ρ, s, R0, h⟩ => h ρ σ H _ _ R0 Ext.refl (hxr H)
/-! ### the step -/
theorem nx_ok {st : Stmt} {p : TS} (h : PS X st p) (q : ∀ D σ H, D.nx σ H → p D σ H) : PS X st (rdS G xr P W (ret .nx)) := h.imp fun D σ H ⟨ρ, s, R0, h⟩ => q D σ H (doneS h R0 Ext.refl)
theorem stepS_ok (c : CxS G C Φ xr sc wr X W) {ee : Scope → Expr → M RE} {et : Scope → Expr → M Bool} (he : SoundE G C Φ xr ee) (ht : SoundT G C Φ xr et) {rs : List Stmt → M Fl} (hr : ∀ l, PSs X l (rdS G xr P W (rs l))) (hr' : ∀ (W' : WX) (pn : List (Addr × Obj)) (xe : Value → Shared → Prop), CxS G C Φ xr sc wr (X.tr pn xe) W' → ∀ l, PSs (X.tr pn xe) l (rdS G xr P W' (rs l))) (st : Stmt) :
    PS X st (rdS G xr P W (stepS C (stepE C Φ ee et sc) (stepT C Φ ee et sc) sc rs st)) := by
  have hf : ∀ e, PE X e (rdE G xr P W (stepE C Φ ee et sc e)) := fun e => stepE_ok he ht c.toCxE e
  have hg : ∀ e, PT X e (rdT G xr P W (stepT C Φ ee et sc e)) := fun e => stepT_ok he ht c.toCxE e
  cases st with
  | Expr e p =>
    show PS X _ (rdS G xr P W (if isComp e then bad else _))
    cases hc : isComp e with
    | true => exact badS
    | false =>
      exact (ps_expr (hf e) (swaps_no hc)).imp fun D σ H ⟨ρ, s, R0, h⟩ => by
        refine rd_mono (seqS R0 h) ?_
        rintro V H1 ⟨r, ρ1, s1, R1, E1, hr, h1⟩
        obtain ⟨ρ2, R2, E2, _⟩ := R1.hold hr
        exact doneS h1 R2 E2
  | Return v p =>
    cases v with
    | none => exact retN_ok
    | some e => exact ret_ok (hf e)
  | If t a b p => exact if_ok (hg t) (hr a) (hr b)
  | While t b els p =>
    cases els with
    | nil => exact while_ok c (hg t) (hr b)
    | cons _ _ => exact badS
  | For tg it b els p =>
    cases els with
    | nil => exact for_ok c hf (hr b)
    | cons _ _ => exact badS
  | Assign tgs e p =>
    rcases tgs with _ | ⟨tg, _ | ⟨tg2, tgs⟩⟩
    · exact badS
    · cases tg with
      | Name x px =>
        show PS X _ (rdS G xr P W (match nameOf C sc x with | some i => _ | none => bad))
        cases hi : nameOf C sc x with
        | none => exact badS
        | some i =>
          obtain ⟨n1, n2, n3, n4⟩ := nameOf_ok c hi
          dsimp only
          cases hc : isComp e with
          | false => exact (ps_set c.nd n1 n2 (hf e) (swaps_no hc) n3).imp fun D σ H h => asg_fin (fun h => h) h
          | true =>
            by_cases hsw : swapsWith e (some (.Name x px)) p.line X.env = pure false
            · exact (ps_set c.nd n1 n2 (hf e) hsw n3).imp fun D σ H h => asg_fin (fun h => h) h
            · cases e with
              | ListComp elt gens scope p2 =>
                have hb : ∃ b, swapsWith (.ListComp elt gens scope p2) (some (.Name x px)) p.line X.env = pure b ∧ (b = true → X.env.kindOf x = some .local) := ⟨_, rfl, fun q => by
                  simp only [Bool.and_eq_true, beq_iff_eq] at q; exact q.1.1.2⟩
                obtain ⟨b, hb, hk⟩ := hb
                cases b with
                | false => exact absurd hb hsw
                | true =>
                  rcases gens with _ | ⟨⟨tg, it, ifs, isa⟩, _ | ⟨g2, gens⟩⟩
                  · exact badS
                  · show PS X _ (rdS G xr P W (bnd (if isa == 0 && L2.blkC C.N sc scope (ownOf C scope) then _ else bad) _))
                    by_cases hcc : (isa == 0 && L2.blkC C.N sc scope (ownOf C scope)) = true
                    · rw [if_pos hcc]
                      simp only [Bool.and_eq_true, beq_iff_eq] at hcc
                      obtain ⟨hz, hbl⟩ := hcc
                      subst hz
                      cases hs : isSetE it with
                      | true =>
                        have eb : evIter C (ee sc) sc tg it = bad := by
                          cases it <;> first | (cases hs; done) | skip
                          rfl
                        rw [eb]
                        exact badS
                      | false =>
                        exact (ps_setLc c.calm c.nd n1 (hk rfl) hb (iter_ok (P := P) c.toCxE (fun e => he c.toCxE e)) (L2.blkOk_by (by rw [c.hN, c.hsc]; exact hbl))
                          (fun s H A cl fp => asg_ok (P := P) (c.toCxE.blk (s := s) (H := H) (scope := scope) (cl := cl) (A := A) (fp := fp))) (tests_ok (P := P) c.toCxE ht (ifs := ifs))
                          (fun s H A cl fp => he (c.toCxE.blk (s := s) (H := H) (scope := scope) (cl := cl) (A := A) (fp := fp)) (P := P) elt) (foldedSet hs)).imp fun D σ H h => asg_fin (fun h => comp_rd h) h
                    · rw [if_neg hcc]; exact badS
                  · exact badS
              | SetComp _ _ _ _ => exact badS
              | DictComp _ _ _ _ _ => exact badS
              | _ => cases hc
      | Tuple ts k tp =>
        have cw : CxE G C Φ xr sc sc X W := by
          have := c.toCxE
          rw [c.wrs] at this
          exact this
        cases hte : isTupE e with
        | false =>
          have es : stepS C (stepE C Φ ee et sc) (stepT C Φ ee et sc) sc rs (.Assign [.Tuple ts k tp] e p) = bnd (stepE C Φ ee et sc e) fun r => bnd (share r) fun v => bnd (asgV C sc (.Tuple ts k tp) v) fun _ => ret .nx := by
            cases e <;> first | rfl | cases hte
          rw [es]
          exact (ps_asg (hf e) (asg_ok (P := P) cw) swaps_tup (swapped_no hte) rfl).imp fun D σ H h => unp_fin (fun h => h) h
        | true =>
          cases e with
          | Tuple vs k2 vp =>
            have plain : (vs.all (foldedForSure 8) = true ∨ offRoad sc ts = true ∨ vs.length ≠ ts.length) → PS X (.Assign [.Tuple ts k tp] (.Tuple vs k2 vp) p) (rdS G xr P W (bnd (stepE C Φ ee et sc (.Tuple vs k2 vp)) fun r => bnd (share r) fun v => bnd (asgV C sc (.Tuple ts k tp) v) fun _ => ret .nx)) := fun hpl =>
              (ps_asg (hf _) (asg_ok (P := P) cw) swaps_tup (folded_none (by rw [c.hsc]; exact hpl)) rfl).imp fun D σ H h => unp_fin (fun h => h) h
            show PS X _ (rdS G xr P W (match tripOf C sc ts vs with | some (i, j, l, a, b, d) => _ | none => match roadOf C sc ts vs with | .par i j => _ | .plain => _ | .stuck => bad))
            cases htr : tripOf C sc ts vs with
            | some q =>
              obtain ⟨i, j, l, a, b, d⟩ := q
              obtain ⟨x, px, y, py, z, pz, rfl, rfl, hcond, rfl, rfl, rfl⟩ := trip_some htr
              unfold tripOk loc3 at hcond
              simp only [Bool.and_eq_true, decide_eq_true_eq, Option.isSome_iff_exists, Bool.not_eq_true'] at hcond
              obtain ⟨⟨⟨⟨⟨⟨⟨⟨⟨⟨⟨⟨⟨na, nb⟩, nd⟩, hl⟩, hl2⟩, ⟨hx, ⟨i, hi⟩⟩⟩, ⟨hy, ⟨j, hj⟩⟩⟩, ⟨hz, ⟨l, hll⟩⟩⟩, hk⟩, hij⟩, hil⟩, hjl⟩, nf⟩, nc⟩ := hcond
              have hkk : X.env.scope.kind = .function := by rw [c.hsc]; exact hk
              have hxy : x ≠ y := fun z => by subst z; exact hij rfl
              have hxz : x ≠ z := fun w => by subst w; exact hil rfl
              have hyz : y ≠ z := fun w => by subst w; exact hjl rfl
              have hij' : i ≠ j := fun z => by subst z; rw [hi, hj] at hij; exact hij rfl
              have hil' : i ≠ l := fun z => by subst z; rw [hi, hll] at hil; exact hil rfl
              have hjl' : j ≠ l := fun z => by subst z; rw [hj, hll] at hjl; exact hjl rfl
              dsimp only
              rw [hi, hj, hll]
              exact par3_ok c hf hx hy hz hi hj hll hij' hil' hjl' na nb nd (trip_road hkk (by rw [c.hsc]; exact hx) (by rw [c.hsc]; exact hy) (by rw [c.hsc]; exact hz) hxy hxz hyz hl hl2 na nb nd nf nc)
            | none =>
            dsimp only
            cases hro : roadOf C sc ts vs with
            | stuck => exact badS
            | plain => exact plain (road_plain hro)
            | par i j =>
              obtain ⟨x, px, y, py, a, b, rfl, rfl, hcond, rfl, rfl, nf, nc⟩ := road_par hro
              unfold parOk at hcond
              simp only [Bool.and_eq_true, decide_eq_true_eq, Option.isSome_iff_exists] at hcond
              obtain ⟨⟨⟨⟨⟨⟨⟨⟨na, nb⟩, hl⟩, hx⟩, hy⟩, hk⟩, ⟨i, hi⟩⟩, ⟨j, hj⟩⟩, hij⟩ := hcond
              have hkk : X.env.scope.kind = .function := by rw [c.hsc]; exact hk
              have hxy : x ≠ y := fun z => by subst z; exact hij rfl
              have hij' : i ≠ j := fun z => by subst z; rw [hi, hj] at hij; exact hij rfl
              rw [hi, hj]
              exact par_ok c hf hx hy hi hj hij' na nb (par_road hkk (by rw [c.hsc]; exact hx) (by rw [c.hsc]; exact hy) hxy hl na nb nf nc)
          | _ => cases hte
      | Subscript o k p2 =>
        cases o with
        | Name x px =>
          show PS X _ (rdS G xr P W (if isSliceN k || !isVis sc x then bad else match C.N.idxOf? x with | some i => _ | none => bad))
          cases hk : isSliceN k with
          | true => exact badS
          | false =>
            cases hv : isVis sc x with
            | false => exact badS
            | true =>
              cases hi : C.N.idxOf? x with
              | none => exact badS
              | some i => exact store_ok c hf hk hv hi
        | _ => exact badS
      | _ => exact badS
    · cases tg <;> first | exact badS | (rename_i o _ _; cases o <;> exact badS)
  | AugAssign tg op e p =>
    cases tg with
    | Name x px =>
      show PS X _ (rdS G xr P W (match nameOf C sc x with | some i => _ | none => bad))
      cases hi : nameOf C sc x with
      | none => exact badS
      | some i => exact aug_ok c hf hi
    | _ => exact badS
  | Raise ex cause p =>
    show PS X _ (rdS G xr P W (match raiseOf ex cause with | some x => _ | none => bad))
    cases hro : raiseOf ex cause with
    | none => exact badS
    | some x =>
      obtain ⟨p1, m, j, p2, p3, rfl, rfl⟩ := raiseOf_some hro
      dsimp only
      by_cases hc : (C.excs.contains x && isGl sc x) = true
      · rw [if_pos hc]
        simp only [Bool.and_eq_true, List.contains_iff_mem] at hc
        exact raise_ok c hc.1 hc.2
      · rw [if_neg hc]; exact badS
  | Try body hs els fin p =>
    cases els with
    | cons _ _ => exact badS
    | nil =>
      cases fin with
      | cons _ _ => exact badS
      | nil =>
        show PS X _ (rdS G xr P W (if clsOk C sc hs then _ else bad))
        by_cases hc : clsOk C sc hs = true
        · rw [if_pos hc]
          exact try_ok c (fun W' pn xe c' => hr' W' pn xe c' body) hc
        · rw [if_neg hc]; exact badS
  | Pass p => exact nx_ok ps_pass fun _ _ _ h => h
  | Break p => exact ps_break.imp fun D σ H ⟨ρ, s, R0, h⟩ => h ρ σ H R0 Ext.refl
  | Continue p => exact ps_continue.imp fun D σ H ⟨ρ, s, R0, h⟩ => h ρ σ H R0 Ext.refl
  | _ => exact badS
theorem evB_all {n : Nat} : ∀ (m : Nat) {X : Cx} {W : WX}, CxS G C Φ xr sc wr X W → ∀ l, PSs X l (rdS G xr P W (evB C Φ n sc m l))
  | 0, X, W, c, l => ⟨fun pins s σ H D I h => by obtain ⟨_, _, _, h⟩ := h; exact h.elim⟩
  | m + 1, X, W, c, l => block_ok (stepS_ok c (evET_ok n).1 (evET_ok n).2 (evB_all m c) fun W' pn xe c' => evB_all m c')
theorem evB_ok (c : CxS G C Φ xr sc wr X W) {n : Nat} (m : Nat) (l : List Stmt) : PSs X l (rdS G xr P W (evB C Φ n sc m l)) := evB_all m c l
end
end Ev

set_option linter.all false
set_option maxRecDepth 100000
set_option maxHeartbeats 2000000
/-! Ev.O: defs, calls of any depth below a bound, the end -/
namespace Ev
open PySem PySem.Spec L2
/-- what the evaluator's table says of a def -/
structure DefT where
  name : Str
  st : Stmt
  C : CC
  ps : List Str
def DefT.e (d : DefT) : DefE := ⟨d.C, defScope d.st, d.ps.length, defBody d.st⟩
def ExK (K : PySem.W.Frag) (mg : Str → Option Value) (x : Str) (a : Addr) : Prop := mg x = some (.ref a) ∧ (x == ("__debug__" : Str)) = false ∧ PySem.W.excIn K a [.type "ValueError", .type "Exception", .type "BaseException", .type "object"] "ValueError.__new__" = true ∧
  PySem.W.keepIn K (.ref a) = true ∧ PySem.W.subIn K (.ref a) (.type "BaseException") = some true ∧ PySem.W.typeIn K (.ref a) = some (.type "type")
/-- how an exception lies: its class by its name -/
def exR (ea : Str → Option Addr) : XR := fun x cls d _ => ∃ a, ea x.cls = some a ∧ cls = .ref a ∧ d = none
structure TabOk (G : Env1) (tab : List DefT) (mg : Str → Option Value) (fd : Nat → FuncData) : Prop where
  fn : ∀ (n : Nat) (d : DefT), tab[n]? = some d → L2.Fun G.K d.name d.name d.st (G.fa n) (fd n) ∧ FnScope d.C.N d.ps (defScope d.st) ∧ Binds G.K (fd n) d.ps []
  const : ∀ (n : Nat) (d : DefT), tab[n]? = some d → ∀ (x : Str) (v : PV), d.C.glob.lookup x = some (GV.const v) → ∃ u V, mg x = some u ∧ RelV V u ∧ ∀ ρ T, RV G.K G.fa ρ T v V
  call : ∀ (n : Nat) (d : DefT), tab[n]? = some d → ∀ (x : Str) (m : Nat), d.C.glob.lookup x = some (GV.fn m) → mg x = some (.ref (G.fa m)) ∧ ∃ d', tab[m]? = some d'
  bi : ∀ (n : Nat) (d : DefT), tab[n]? = some d → ∀ x : Str, x ∈ biNames → d.C.glob.lookup x = none → mg x = none
  dbg : ∀ (n : Nat) (d : DefT), tab[n]? = some d → ∀ (x : Str) (g : GV), d.C.glob.lookup x = some g → (x == ("__debug__" : Str)) = false
  loc : ∀ (n : Nat) (d : DefT), tab[n]? = some d → ∀ (x : Str) (i : Nat), d.C.N.idxOf? x = some i → (x == ("__debug__" : Str)) = false ∧ (x == ("__classdict__" : Str)) = false
  exc : ∀ (n : Nat) (d : DefT), tab[n]? = some d → ∀ x : Str, x ∈ d.C.excs → ∃ a, G.ea x = some a ∧ ExK G.K mg x a
  sub : ∀ (n : Nat) (d : DefT), tab[n]? = some d → ∀ (x y : Str) (b : Bool), ((x, y), b) ∈ d.C.subs → SubF G.K G.ea mg x y b
section
variable {G : Env1} {tab : List DefT} {mg : Str → Option Value} {fd : Nat → FuncData} {prog : Program} {w : World} {base : Heap} {P : Hp}
theorem _root_.Ev.RoomG.gd {k : Nat} {A : Around} (q : RoomG k A) : A.guards = some [] ∧ A.units + 70 < cLine := ⟨q.g, by have := q.r.un; omega⟩
theorem start_rel {ρ : Rho} {st : List Cell} {H : Hp} {args : List PV} {vs : List V} {N : List Str} (R : Rel G.K G.fa P ρ ⟨[], st⟩ [] H) (r : RVs G.K G.fa ρ (cut H ρ) args vs) (hl : vs.length ≤ N.length) :
    Rel G.K G.fa P ρ ⟨args.map .val ++ List.replicate (N.length - args.length) .none, st⟩ (L2.start N vs) H := by
  have hn : ∀ i, ρ (.slot i) = none := fun i => by
    have q := R.slot i
    rw [show (⟨[], st⟩ : ES).env[i]? = none from rfl] at q
    exact q
  have el := r.length
  refine ⟨R.inj, R.base, fun i => ?_, R.box, R.tmp, R.held, ?_⟩
  · show SlotR _ _ _ _ _ i (args.map Sl.val ++ List.replicate (N.length - args.length) Sl.none)[i]?
    by_cases hi : i < args.length
    · rw [List.getElem?_append_left (by simpa using hi), List.getElem?_map, List.getElem?_eq_getElem hi]
      obtain ⟨V, h1, h2⟩ := r.get (i := i) (List.getElem?_eq_getElem hi)
      refine ⟨hn i, V, ?_, h2⟩
      unfold L2.start
      rw [List.getElem?_append_left (by simp; omega), List.getElem?_map, h1]
      rfl
    · rw [List.getElem?_append_right (by simp; omega), List.getElem?_replicate]
      split
      · exact hn i
      · exact hn i
  · unfold L2.start
    simp only [List.length_append, List.length_map, List.length_replicate]
    omega
theorem fn_ok (T : TabOk G tab mg fd) {Φ : Orc} {k n : Nat} {d : DefT} (hd : tab[n]? = some d)
    (ih : ∀ m d', tab[m]? = some d' → FnG prog w G.K mg base (L2.CX prog w) k (G.fa m) (fd m) d'.ps (spEv G (exR G.ea) Φ m)) {Φ' : Orc} (hΦ : ∀ args st, Φ' n args st = evFn d.e Φ args st) :
    FnG prog w G.K mg base (L2.CX prog w) (k + 1) (G.fa n) (fd n) d.ps (spEv G (exR G.ea) Φ' n) := by
  obtain ⟨F, S, B⟩ := T.fn n d hd
  have hpl : d.ps.length ≤ d.C.N.length := by have := congrArg List.length S.pre; rw [List.length_take] at this; omega
  have alen : ∀ {args : List PV} {st : List Cell}, evFn d.e Φ args st ≠ .bad → args.length = d.ps.length := fun {args st} h => by
    unfold evFn at h
    by_cases e : args.length = d.e.np
    · exact e
    · rw [if_neg e] at h; exact absurd rfl h
  refine okG F S (fun vs H Q E h => ?_) fun cdv A outer s H vs Q E hr h => ?_
  · obtain ⟨P, ρ, st, args, R, r, h⟩ := h
    rw [← r.length]
    refine alen (st := st) fun z => ?_
    rw [hΦ, z] at h
    exact h
  · obtain ⟨P, ρ, st, args, R, r, h⟩ := h
    rw [hΦ] at h
    have al : args.length = d.ps.length := alen (st := st) fun z => by rw [z] at h; exact h
    refine ⟨rdS G (exR G.ea) P (fun cls d _ H => E cls d H) (evB d.C Φ 40 (defScope d.st) 20 (defBody d.st)), ?_, ?_⟩
    · refine evB_ok (C := d.C) (Φ := Φ) (sc := defScope d.st) (wr := defScope d.st) ⟨⟨rfl, rfl, S.nd, rfl, rfl, hr.r.units, hr.gd, ⟨T.const n d hd, fun x m hx => ?_, T.bi n d hd, T.dbg n d hd, T.loc n d hd⟩, takes_of rfl rfl rfl rfl, fun x hx => ⟨?_, .inl rfl⟩⟩, passes_of rfl, fun x hx => ?_, rfl, fun _ _ _ _ h => h, T.sub n d hd, rfl, rfl⟩ 20 _
      · obtain ⟨h1, d', h2⟩ := T.call n d hd x m hx
        obtain ⟨F', _, B'⟩ := T.fn m d' h2
        exact ⟨h1, k, fd m, d'.ps, ih m d' h2, hr, F'.kp, B'⟩
      · rcases isLoc_iff hx with q | q
        · exact .inl q
        · exact .inr q
      · obtain ⟨a, ha, e1, e2, e3, e4, e5, e6⟩ := T.exc n d hd x hx
        exact ⟨a, ⟨e1, e2, e3, e4, raises_own e5 e6⟩, fun H => ⟨a, ha, rfl, rfl⟩⟩
    · refine ⟨ρ, _, start_rel (N := d.C.N) R r (by rw [← r.length, al]; exact hpl), ?_⟩
      have e : evFn d.e Φ args st = (match evB d.C Φ 40 (defScope d.st) 20 (defBody d.st) ⟨args.map .val ++ List.replicate (d.C.N.length - args.length) .none, st⟩ with
        | .ok f s => match f with
          | .nx => FOut.ok (.val .non) s.st
          | .rt (.val v) => .ok (.val v) s.st
          | .rt (.fresh c) => .ok (.fresh c) s.st
          | _ => .bad
        | .exc x s => .exc x s.st
        | .bad => .bad) := by
        unfold evFn
        rw [if_pos (show args.length = d.e.np from al)]
        rfl
      rw [e] at h
      generalize evB d.C Φ 40 (defScope d.st) 20 (defBody d.st) ⟨args.map .val ++ List.replicate (d.C.N.length - args.length) .none, st⟩ = o at h ⊢
      cases o with
      | bad => exact h
      | exc x s' =>
        intro ρ' σ' H' cls dd R' E' q
        exact h _ H' cls dd (R'.exit (ρ₀ := ρ)) (exit_ext E') q
      | ok f s' =>
        intro ρ' σ' H' R' E'
        have lc : Le (cut H' ρ') (cut H' (exitN ρ ρ')) := cut_sub fun nm a h => ⟨nm, exitN_sub nm a h⟩
        cases f with
        | nx => exact h _ H' .non (R'.exit (ρ₀ := ρ)) (exit_ext E') .non
        | bk => exact h.elim
        | ct => exact h.elim
        | rt r =>
          intro V hV
          cases r with
          | val v =>
            refine h _ H' V (R'.exit (ρ₀ := ρ)) (exit_ext E') ?_
            exact RV.mono lc (show BoxLe ρ' (exitN ρ ρ') from fun _ _ h => h) hV
          | fresh c =>
            refine h _ H' V (R'.exit (ρ₀ := ρ)) (exit_ext E') ?_
            obtain ⟨a, e1, e2, e3⟩ := hV
            exact ⟨a, e1, e2, e3.mono lc (show BoxLe ρ' (exitN ρ ρ') from fun _ _ h => h)⟩
          | pk i => exact h.elim
theorem tab_ok (T : TabOk G tab mg fd) : ∀ k n d, tab[n]? = some d → FnG prog w G.K mg base (L2.CX prog w) k (G.fa n) (fd n) d.ps (spEv G (exR G.ea) (evP (tab.map DefT.e) k) n)
  | 0, n, d, _ => by
    have no : ∀ vs H Q E, ¬ spEv G (exR G.ea) (evP (tab.map DefT.e) 0) n vs H Q E := fun vs H Q E h => by
      obtain ⟨P, ρ, st, args, R, r, h⟩ := h
      exact h
    exact ⟨fun vs H Q E h => absurd h (no vs H Q E), fun A outer s H args us vs Q E _ _ _ _ h => absurd h (no vs H Q E)⟩
  | k + 1, n, d, hd => fn_ok T hd (tab_ok T k) fun args st => by
    show (match (tab.map DefT.e)[n]? with | some D => evFn D (evP (tab.map DefT.e) k) args st | none => .bad) = _
    rw [List.getElem?_map, hd]
    rfl
/-- what a script's list is -/
theorem law_sp {Φ : Orc} {n : Nat} {H : Hp} {a : Addr} {ns : List Int} (hS : SqL G.K H a (ns.map V.int)) (h : ∃ st, Φ n [.scr ns] [] = .ok (.val (.bl true)) st) :
    spEv G (exR G.ea) Φ n [.ref a] H (fun v _ => v = .bl true) fun _ _ _ => False := by
  obtain ⟨st, h⟩ := h
  have ce : cut H (fun _ => none) = H := by
    funext b
    unfold cut
    rw [if_neg (by simp)]
  refine ⟨H, fun _ => none, [], [.scr ns], ⟨(fun _ _ _ h => nomatch h), fun b o h => by rw [ce]; exact h, fun i => ?_, fun i => ?_, (fun _ _ h => nomatch h), (fun _ _ h => nomatch h), rfl⟩, .cons (.scr (by rw [ce]; exact hS)) .nil, ?_⟩
  · show SlotR _ _ _ _ _ i ([] : List Sl)[i]?
    rw [List.getElem?_nil]; rfl
  · show BoxR _ _ _ _ i ([] : List Cell)[i]?
    rw [List.getElem?_nil]; rfl
  · rw [h]
    intro ρ' H' V _ _ hV
    have hV : RV _ _ _ _ _ _ := hV
    cases hV
    rfl
end
example : Room 200 callerA := ⟨by decide, by decide, by decide⟩
end Ev

set_option linter.all false
set_option maxRecDepth 100000
set_option maxHeartbeats 1000000
/-! Ev.P: from the top's facts to a law's promise -/
namespace Ev
open PySem PySem.Spec L2
structure DefF (K : PySem.W.Frag) (d : DefT) (f : Addr) : Prop where
  ns : PySem.W.nsIn K mainGlobals d.name = some (some (.ref f))
  ex : ∃ fd, L2.Fun K d.name d.name d.st f fd ∧ ∀ us : List Value, us.length = d.ps.length → bindArgs fd ⟨us, []⟩ = pure (d.ps.zip us)
theorem defF_mk {K : PySem.W.Frag} {d : DefT} {nm : Str} {st : Stmt} {f : Addr} {oc kV dc pm cd ct : Value} {od an : Option Addr} {sl : Array (Option Value)} (hn : d.name = nm) (hs : d.st = st) (a : PySem.W.nsIn K mainGlobals nm = some (some (.ref f)))
    (l : K.lookup f = some ⟨oc, od, .func (PySem.W.fnOf nm nm (defArgs st) (defBody st) (defScope st) .none kV dc pm an cd ct), sl⟩) (c : PySem.W.codeIn K cd nm = true) (k : PySem.W.keepIn K (.ref f) = true)
    (b : ∀ (kV dc pm : Value) (an : Option Addr) (cd ct : Value) (us : List Value), us.length = d.ps.length → bindArgs (PySem.W.fnOf nm nm (defArgs st) (defBody st) (defScope st) .none kV dc pm an cd ct) ⟨us, []⟩ = pure (d.ps.zip us)) : DefF K d f := by
  subst hn hs
  exact ⟨a, _, fun_mk l c k, b _ _ _ _ _ _⟩
def CstOk (K : PySem.W.Frag) (mg : Str → Option Value) (x : Str) (v : PV) : Prop := ∃ u V, mg x = some u ∧ RelV V u ∧ ∀ fa ρ T, RV K fa ρ T v V
theorem cst_int {K : PySem.W.Frag} {h : Heap} {mg : Str → Option Value} {x : Str} {i : Int} {t : Tok} (X : K.In h) (N : h.Ns mainGlobals mg) (a : PySem.W.nsIn K mainGlobals x = some (some (.int i t))) : CstOk K mg x (.int i) :=
  ⟨_, .int i, PySem.W.mg_of X N a, ⟨t, rfl⟩, fun _ _ _ => .int i⟩
theorem cst_str {K : PySem.W.Frag} {h : Heap} {mg : Str → Option Value} {x y : Str} {t : Tok} (X : K.In h) (N : h.Ns mainGlobals mg) (a : PySem.W.nsIn K mainGlobals x = some (some (.str y t))) : CstOk K mg x (.str y) :=
  ⟨_, .str y, PySem.W.mg_of X N a, ⟨t, rfl⟩, fun _ _ _ => .str y⟩
def flatAll : List PV → Bool
  | [] => true
  | .int _ :: r => flatAll r
  | .str _ :: r => flatAll r
  | .bl _ :: r => flatAll r
  | .non :: r => flatAll r
  | _ => false
theorem flat_rvs {K : PySem.W.Frag} {fa : Nat → Addr} {ρ : Rho} {T : Hp} : ∀ (vs : List PV), flatAll vs = true → RVs K fa ρ T vs (vs.map fV)
  | [], _ => .nil
  | .int i :: r, h => .cons (.int i) (flat_rvs r h)
  | .str i :: r, h => .cons (.str i) (flat_rvs r h)
  | .bl i :: r, h => .cons (.bl i) (flat_rvs r h)
  | .non :: r, h => .cons .non (flat_rvs r h)
theorem cst_tup {K : PySem.W.Frag} {h : Heap} {mg : Str → Option Value} {x : Str} {a : Addr} {od : Option Addr} {its : Array Value} {n : Nat} {sl : Array (Option Value)} {vs : List PV} (X : K.In h) (N : h.Ns mainGlobals mg) (q : PySem.W.nsIn K mainGlobals x = some (some (.ref a)))
    (l : K.lookup a = some ⟨.type "tuple", od, .seq its n, sl⟩) (hv : Vals (vs.map fV) its.toList) (hs : (vs.length : Nat) ≤ 1000) (hf : flatAll vs = true) : CstOk K mg x (.tup vs) :=
  ⟨_, .ref a, PySem.W.mg_of X N q, rfl, fun fa ρ T => .tup (.inr ⟨_, its, n, l, rfl, rfl, by rw [sizeLine_eq]; have := hv.length; rw [List.length_map] at this; simp at this; omega, hv⟩) (flat_rvs vs hf)⟩
theorem lookup_mem {β : Type} {x : Str} {y : β} : ∀ {l : List (Str × β)}, l.lookup x = some y → (x, y) ∈ l
  | [], h => by cases h
  | (a, b) :: l, h => by
    rw [List.lookup_cons] at h
    cases e : x == a with
    | true =>
      rw [e] at h
      cases h
      rw [beq_iff_eq] at e
      subst e
      exact List.mem_cons_self ..
    | false =>
      rw [e] at h
      exact List.mem_cons_of_mem _ (lookup_mem h)
/-- what law(script) promises -/
def spLawE (K : PySem.W.Frag) (okS : List Int → Prop) : Sp := fun vs H Q _ => ∃ (a : Addr) (ns : List Int), vs = [.ref a] ∧ SqL K H a (ns.map V.int) ∧ okS ns ∧ ∀ H', Q (.bl true) H'
theorem law_spE {G : Env1} {Φ : Orc} {n : Nat} {okS : List Int → Prop} (math : ∀ ns, okS ns → ∃ st, Φ n [.scr ns] [] = .ok (.val (.bl true)) st) : ∀ vs H Q E, spLawE G.K okS vs H Q E → spEv G (exR G.ea) Φ n vs H Q E := by
  rintro vs H Q E ⟨a, ns, rfl, hS, hk, q⟩
  obtain ⟨st, h⟩ := math ns hk
  have ce : cut H (fun _ => none) = H := by
    funext b
    unfold cut
    rw [if_neg (by simp)]
  refine ⟨H, fun _ => none, [], [.scr ns], ⟨(fun _ _ _ h => nomatch h), fun b o h => by rw [ce]; exact h, fun i => ?_, fun i => ?_, (fun _ _ h => nomatch h), (fun _ _ h => nomatch h), rfl⟩, .cons (.scr (by rw [ce]; exact hS)) .nil, ?_⟩
  · show SlotR _ _ _ _ _ i ([] : List Sl)[i]?
    rw [List.getElem?_nil]; rfl
  · show BoxR _ _ _ _ i ([] : List Cell)[i]?
    rw [List.getElem?_nil]; rfl
  · rw [h]
    intro ρ' H' V _ _ hV
    have hV : RV _ _ _ _ _ _ := hV
    cases hV
    exact q H'
/-- what the top must say of two classes -/
def SubK (K : PySem.W.Frag) (mg : Str → Option Value) (EX : List Str) (p : (Str × Str) × Bool) : Prop := ∃ ax ay, p.1.1 ∈ EX ∧ mg p.1.1 = some (.ref ax) ∧ mg p.1.2 = some (.ref ay) ∧ (p.1.2 == ("__debug__" : Str)) = false ∧
  PySem.W.exmOne K (.ref ax) (.ref ay) = some p.2 ∧ PySem.W.kitOne K (.ref ax) (.ref ay) = some p.2 ∧ ExcC K ax
def eaOf (mg : Str → Option Value) (EX : List Str) (x : Str) : Option Addr := match mg x with
  | some (.ref a) => if EX.contains x then some a else none
  | _ => none
theorem eaOf_in {mg : Str → Option Value} {EX : List Str} {x : Str} {a : Addr} (h : x ∈ EX) (m : mg x = some (.ref a)) : eaOf mg EX x = some a := by
  unfold eaOf
  rw [m]
  dsimp only
  rw [if_pos (by simpa using h)]
theorem exk_mk {K : PySem.W.Frag} {h : Heap} {mg : Str → Option Value} {x : Str} {a : Addr} (X : K.In h) (N : h.Ns mainGlobals mg) (q : PySem.W.nsIn K mainGlobals x = some (some (.ref a))) (d : (x == ("__debug__" : Str)) = false)
    (e : PySem.W.excIn K a [.type "ValueError", .type "Exception", .type "BaseException", .type "object"] "ValueError.__new__" = true) (k : PySem.W.keepIn K (.ref a) = true) (s : PySem.W.subIn K (.ref a) (.type "BaseException") = some true) (t : PySem.W.typeIn K (.ref a) = some (.type "type")) : ∃ a, ExK K mg x a :=
  ⟨a, PySem.W.mg_of X N q, d, e, k, s, t⟩
theorem subk_mk {K : PySem.W.Frag} {h : Heap} {mg : Str → Option Value} {EX : List Str} {x y : Str} {b : Bool} {ax ay : Addr} (X : K.In h) (N : h.Ns mainGlobals mg) (m : x ∈ EX) (q : PySem.W.nsIn K mainGlobals x = some (some (.ref ax))) (q' : PySem.W.nsIn K mainGlobals y = some (some (.ref ay))) (d : (y == ("__debug__" : Str)) = false)
    (e : PySem.W.exmOne K (.ref ax) (.ref ay) = some b) (k : PySem.W.kitOne K (.ref ax) (.ref ay) = some b) (C : ExcC K ax) : SubK K mg EX ((x, y), b) :=
  ⟨ax, ay, m, PySem.W.mg_of X N q, PySem.W.mg_of X N q', d, e, k, C⟩
open Classical in
theorem finishL {prog : Program} {w : World} {K : PySem.W.Frag} {h : Heap} {mg : Str → Option Value} {fa0 : Addr} {tab : List DefT} {GL : List (Str × GV)} {EX : List Str} {SB : List ((Str × Str) × Bool)} {KK nL : Nat} {dL : DefT} {okS : List Int → Prop} (X : K.In h) (N : h.Ns mainGlobals mg) (hfa : mg "law" = some (.ref fa0))
    (hD : ∀ d ∈ tab, ∃ f, DefF K d f) (hS : ∀ d ∈ tab, FnScope d.C.N d.ps (defScope d.st)) (hL : tab[nL]? = some dL) (hn : dL.name = "law") (hps : dL.ps = ([("script" : Str)] : List Str)) (hgl : ∀ d ∈ tab, d.C.glob = GL ∧ d.C.excs = EX ∧ d.C.subs = SB) (hX : ∀ x ∈ EX, ∃ a, ExK K mg x a) (hB : ∀ p ∈ SB, SubK K mg EX p)
    (hF : ∀ (x : Str) (m : Nat), (x, GV.fn m) ∈ GL → ∃ d, tab[m]? = some d ∧ d.name = x) (hC : ∀ (x : Str) (v : PV), (x, GV.const v) ∈ GL → CstOk K mg x v)
    (hbi : ∀ x : Str, x ∈ biNames → GL.lookup x = none → mg x = none) (hdbg : GL.all (fun p => !(p.1 == ("__debug__" : Str))) = true)
    (hloc : tab.all (fun d => d.C.N.all fun x => !(x == ("__debug__" : Str)) && !(x == ("__classdict__" : Str))) = true)
    (math : ∀ ns, okS ns → ∃ st, evP (tab.map DefT.e) KK nL [.scr ns] [] = .ok (.val (.bl true)) st) :
    ∃ fd : FuncData, (∀ (s : Shared) (v : Value), BindsTo s fd ⟨[v], []⟩ [("script", v)]) ∧ ∀ base : Heap, K.In base → base.Ns mainGlobals mg → FnG prog w K mg base (L2.CX prog w) KK fa0 fd ["script"] (spLawE K okS) := by
  have mem : ∀ {n d}, tab[n]? = some d → d ∈ tab := fun e => List.mem_of_getElem? e
  have hP : ∀ n : Nat, ∃ q : Addr × FuncData, ∀ d, tab[n]? = some d → PySem.W.nsIn K mainGlobals d.name = some (some (.ref q.1)) ∧ L2.Fun K d.name d.name d.st q.1 q.2 ∧ ∀ us : List Value, us.length = d.ps.length → bindArgs q.2 ⟨us, []⟩ = pure (d.ps.zip us) := by
    intro n
    cases e : tab[n]? with
    | none =>
      obtain ⟨f, D⟩ := hD dL (mem hL)
      obtain ⟨fd, _⟩ := D.ex
      exact ⟨(f, fd), fun d h => nomatch h⟩
    | some d =>
      obtain ⟨f, D⟩ := hD d (mem e)
      obtain ⟨fd, h1, h2⟩ := D.ex
      exact ⟨(f, fd), fun d' h => by cases h; exact ⟨D.ns, h1, h2⟩⟩
  let pk := fun n => Classical.choose (hP n)
  have hpk : ∀ n d, tab[n]? = some d → _ := fun n => Classical.choose_spec (hP n)
  let G : Env1 := ⟨K, fun n => (pk n).1, eaOf mg EX⟩
  have T : TabOk G tab mg (fun n => (pk n).2) := by
    refine ⟨fun n d hd => ⟨(hpk n d hd).2.1, hS d (mem hd), .all (hpk n d hd).2.2⟩, fun n d hd x v hx => ?_, fun n d hd x m hx => ?_, fun n d hd x hx hz => ?_, fun n d hd x g hx => ?_, fun n d hd x i hx => ?_, fun n d hd x hx => ?_, fun n d hd x y b hx => ?_⟩
    · rw [(hgl d (mem hd)).1] at hx
      obtain ⟨u, V, h1, h2, h3⟩ := hC x v (lookup_mem hx)
      exact ⟨u, V, h1, h2, h3 _⟩
    · rw [(hgl d (mem hd)).1] at hx
      obtain ⟨d', h1, rfl⟩ := hF x m (lookup_mem hx)
      exact ⟨PySem.W.mg_of X N (hpk m d' h1).1, d', h1⟩
    · rw [(hgl d (mem hd)).1] at hz
      exact hbi x hx hz
    · rw [(hgl d (mem hd)).1] at hx
      have := List.all_eq_true.mp hdbg _ (lookup_mem hx)
      simpa using this
    · have h1 := List.all_eq_true.mp hloc d (mem hd)
      have h2 := List.all_eq_true.mp h1 x (List.mem_of_getElem? (idx_get hx))
      simpa using h2
    · rw [(hgl d (mem hd)).2.1] at hx
      obtain ⟨a, ha⟩ := hX x hx
      exact ⟨a, eaOf_in hx ha.1, ha⟩
    · rw [(hgl d (mem hd)).2.2] at hx
      obtain ⟨ax, ay, h1, h2, h3, h4, h5, h6, h7⟩ := hB _ hx
      exact ⟨ax, ay, eaOf_in h1 h2, h3, h4, h5, h6, h7⟩
  have ef := PySem.W.mg_of X N (hpk nL dL hL).1
  rw [hn, hfa] at ef
  cases ef
  refine ⟨(pk nL).2, fun s v => ?_, fun base _ _ => ?_⟩
  · have b := (hpk nL dL hL).2.2 [v] (by rw [hps]; rfl)
    rw [hps] at b
    exact .of_eq b
  · have F := tab_ok (prog := prog) (w := w) (base := base) T KK nL dL hL
    rw [hps] at F
    exact ⟨fun vs H Q E h => F.len vs H Q E (law_spE (G := G) math _ _ _ _ h), fun B outer s H args us xs Q E r e0 hb hv h => F.run B outer s H args us xs Q E r e0 hb hv (law_spE (G := G) math _ _ _ _ h)⟩
theorem cxE {prog : Program} {w : World} {H : Hp} {s : Shared} {e : Value} {s' : Shared} (h : L2.CX prog w [] H s (fun _ _ _ => False) e s') : False := by
  obtain ⟨_, _, _, _, _, _, _, _, _, _, _, _, z⟩ := h
  exact z.elim
/-- the end: the walk of a law row -/
theorem walkE {l : PySem.W.OpenLaw} {q : Program} {loose : List Str} {XP : (Str → Option Value) → Heap → Prop} {YP : World → Heap → Prop} {d : DefRec} {K : Params → PySem.W.Frag} (hn : l.most = some 63) (hdf : d.params.defaults = [])
    (hY : ∀ (w : World) (h : Heap), YP w h → (K w.params).In h)
    (F : ∀ (w : World) (mg : Str → Option Value) (fa : Addr) (h : Heap), (K w.params).In h → h.Ns mainGlobals mg → mg d.name = some (.ref fa) →
      ∃ fd : FuncData, (∀ (s : Shared) (u : Value), BindsTo s fd ⟨[u], []⟩ [("script", u)]) ∧ ∀ base : Heap, (K w.params).In base → base.Ns mainGlobals mg → FnG l.prog w (K w.params) mg base (L2.CX l.prog w) 150 fa fd ["script"] (spLawE (K w.params) fun ns => ns.length ≤ 63 ∧ ∀ z ∈ ns, Builtin.Int.intBits z ≤ 1048576)) :
    PySem.W.WalkO q loose XP YP l.row.toRowW d [] (fun f vs => PySem.call f vs) :=
  walk_ofG (n := 63) (k := 150) (x := "script") (CXq := fun w => L2.CX l.prog w) (spp := fun w => spLawE (K w.params) _) hn (by decide) hdf ⟨rfl, by decide, by decide⟩ hY F (fun _ _ a ns hl hb _ hS => ⟨a, ns, rfl, hS, ⟨hl, hb⟩, fun _ => rfl⟩) fun _ _ _ _ _ z => cxE z
theorem all_nil {α : Type} {P : α → Prop} : ∀ d ∈ ([] : List α), P d := fun _ h => nomatch h
theorem all_cons {α : Type} {P : α → Prop} {a : α} {l : List α} (h : P a) (t : ∀ d ∈ l, P d) : ∀ d ∈ a :: l, P d := fun d hd => by
  rcases List.mem_cons.mp hd with e | e
  · subst e; exact h
  · exact t d e
def fnsOk (tab : List DefT) (GL : List (Str × GV)) : Bool := GL.all fun p => match p.2 with
  | .fn m => (match tab[m]? with | some d => d.name == p.1 | none => false)
  | .const _ => true
theorem fns_of {tab : List DefT} {GL : List (Str × GV)} (h : fnsOk tab GL = true) (x : Str) (m : Nat) (hm : (x, GV.fn m) ∈ GL) : ∃ d, tab[m]? = some d ∧ d.name = x := by
  have q := List.all_eq_true.mp h _ hm
  cases e : tab[m]? with
  | none => simp only [e] at q; cases q
  | some d => simp only [e] at q; exact ⟨d, rfl, by simpa using q⟩
def constsOf (GL : List (Str × GV)) : List (Str × PV) := GL.filterMap fun p => match p.2 with
  | .const v => some (p.1, v)
  | .fn _ => none
theorem consts_of {GL : List (Str × GV)} {P : Str × PV → Prop} (h : ∀ p ∈ constsOf GL, P p) (x : Str) (v : PV) (hm : (x, GV.const v) ∈ GL) : P (x, v) :=
  h (x, v) (List.mem_filterMap.mpr ⟨_, hm, rfl⟩)
end Ev

set_option linter.all false
set_option maxRecDepth 100000
set_option maxHeartbeats 1000000
/-! Ev.Q: the evaluator's steps as short words (what a def's text comes to) -/
namespace Ev
open PySem PySem.Spec L2
def seqM : List (M RE) → M (List RE)
  | [] => ret []
  | m :: ms => bnd m fun r => bnd (seqM ms) fun rs => ret (r :: rs)
def xBin (op : Operator) (a b : M RE) : M RE := bnd a fun r => bnd b fun r' => lift2 (binV op) r r'
def xCmp (op : CmpOp) (a b : M RE) : M RE := bnd a fun r => bnd b fun r' => cmpM op r r'
def xCmp2 (op op' : CmpOp) (a b c : M RE) : M RE := bnd a fun r => bnd b fun r' => bnd (cmpM op r r') fun x => bnd (asBool x) fun k => if k then bnd c fun r'' => cmpM op' r' r'' else ret (.val (.bl false))
def xSub (a b : M RE) : M RE := bnd a fun r => bnd b fun r' => subM r r'
def xNeg (a : M RE) : M RE := bnd a fun r => lift1 negV r
def xNot (a : M RE) : M RE := bnd a fun r => bnd (truM r) fun b => ret (.val (.bl (!b)))
def xIf (t : M Bool) (a b : M RE) : M RE := bnd t fun c => if c then a else b
def xTup (ms : List (M RE)) : M RE := bnd (seqM ms) fun rs => bnd (shares rs) fun vs => if vs.length ≤ LIM then ret (.val (.tup vs)) else bad
def xLst (ms : List (M RE)) : M RE := bnd (seqM ms) fun rs => bnd (shares rs) fun vs => if vs.length ≤ LIM then ret (.fresh (.lst vs)) else bad
def xCall (Φ : Orc) (n : Nat) (ms : List (M RE)) : M RE := bnd (seqM ms) fun rs => bnd (shares rs) fun vs => callM Φ n vs
def xBi (b : Bi) (ms : List (M RE)) : M RE := bnd (seqM ms) fun rs => liftN (biV b) rs
def xIsi (t : Str) (a : M RE) : M RE := bnd a fun r => lift1 (fun v => (isInst v t).map fun b => .val (.bl b)) r
def xBool (op : BoolOp) : List (M RE) → M RE
  | [] => bad
  | [m] => m
  | m :: ms => bnd m fun r => bnd (truM r) fun b => match op with
    | .And => if b then xBool op ms else ret r
    | .Or => if b then ret r else xBool op ms
def tBool (op : BoolOp) : List (M Bool) → M Bool
  | [] => bad
  | [m] => m
  | m :: ms => bnd m fun b => match op with
    | .And => if b then tBool op ms else ret false
    | .Or => if b then ret true else tBool op ms
def tNot (t : M Bool) : M Bool := bnd t fun b => ret (!b)
def xPart : Option (M RE) → M (Option Int)
  | none => ret none
  | some m => bnd m fun r s => match deref s r with
    | some (.int i) => .ok (some i) s
    | _ => .bad
def xSl (a : M RE) (lo hi : Option (M RE)) : M RE := bnd a fun r => bnd (xPart lo) fun l => bnd (xPart hi) fun h => lift1 (fun v => slV v l h) r
def xRev (a : M RE) : M RE := bnd a fun r => lift1 revV r
def xComp (own : List Nat) (tgt : PV → M Unit) (tst : M Bool) (elt : M RE) (it : M (List PV)) : M RE := bnd it fun xs => compM own tgt tst elt xs
def xApp (i : Nat) (a : M RE) : M RE := bnd (chkL i) fun _ => bnd a fun r => bnd (share r) fun v => appendM i v
def xPopAt (i : Nat) (a : M RE) : M RE := bnd (chkL i) fun _ => bnd a fun r => popAtM i r
def xSset (a : M RE) : M RE := bnd a fun r => lift1 sortSetV r
def xMmD (lo : Bool) (a : M RE) : M RE := bnd a fun r => lift1 (mmD lo) r
def iOf (a : M RE) : M (List PV) := bnd a fun r => bnd (share r) itemsM
def iRng1 (a : M RE) : M (List PV) := bnd a rng1M
def iRng2 (a b : M RE) : M (List PV) := bnd a fun r => bnd b fun r' => rng2M r r'
def iZip (a b : M RE) : M (List PV) := bnd a fun r => bnd b fun r' => bnd (share r) fun u => bnd (share r') fun v => bnd (itemsM u) fun xs => bnd (itemsM v) fun ys => ret (zipP xs ys)
def iEnum (a : M RE) : M (List PV) := bnd a fun r => bnd (share r) fun u => bnd (itemsM u) fun xs => ret (enumP 0 xs)
def setSlots : List Nat → List PV → M Unit
  | [], [] => ret ()
  | i :: is, v :: vs => bnd (setSlot i v) fun _ => setSlots is vs
  | _, _ => bad
def tupAsg (is : List Nat) (v : PV) : M Unit := match v with
  | .tup xs => setSlots is xs
  | _ => bad
def seqB : List (M Fl) → M Fl
  | [] => ret .nx
  | [m] => m
  | m :: r => thenM m (seqB r)
def sEx (e : M RE) : M Fl := bnd e fun _ => ret .nx
def sRet (e : M RE) : M Fl := bnd e retM
def sIf (t : M Bool) (a b : M Fl) : M Fl := bnd t fun k => if k then a else b
def sFor (asg : PV → M Unit) (body : M Fl) (it : M (List PV)) : M Fl := bnd it fun xs => forM asg body xs
def sSet (i : Nat) (bx : Bool) (e : M RE) : M Fl := bnd e fun r => bnd (asgR i bx r) fun _ => ret .nx
def sUn (asg : PV → M Unit) (e : M RE) : M Fl := bnd e fun r => bnd (share r) fun v => bnd (asg v) fun _ => ret .nx
def sPar (i j : Nat) (a b : M RE) : M Fl := bnd (parM i j false false a b) fun _ => ret .nx
def sPar3 (i j l : Nat) (a b c : M RE) : M Fl := bnd (parM3 i j l a b c) fun _ => ret .nx
def tIfE (t a b : M Bool) : M Bool := bnd t fun c => if c then a else b
def sSto (i : Nat) (e k : M RE) : M Fl := bnd e fun r => bnd (share r) fun v => bnd (chkS i) fun _ => bnd k fun rk => bnd (storeM i v rk) fun _ => ret .nx
def sAug (op : Operator) (i : Nat) (e : M RE) : M Fl := bnd (chkS i) fun _ => bnd e fun r => bnd (augM op i r) fun _ => ret .nx
/-- a def's run: its slots, then its body -/
def runD (np nN : Nat) (m : M Fl) (args : List PV) (st : List Cell) : FOut := if args.length = np then match m ⟨args.map .val ++ List.replicate (nN - args.length) .none, st⟩ with
    | .ok f s => match f with
      | .nx => .ok (.val .non) s.st
      | .rt (.val v) => .ok (.val v) s.st
      | .rt (.fresh c) => .ok (.fresh c) s.st
      | _ => .bad
    | .exc x s => .exc x s.st
    | .bad => .bad
  else .bad
theorem run_eq {tab : List DefE} {k n : Nat} {D : DefE} {m : M Fl} (hD : tab[n]? = some D) (e : evB D.C (evP tab k) 40 D.sc 20 D.body = m) : evP tab (k + 1) n = runD D.np D.C.N.length m := by
  funext args st
  show (match tab[n]? with | some D => evFn D (evP tab k) args st | none => .bad) = _
  rw [hD]
  show evFn D (evP tab k) args st = _
  unfold evFn runD
  rw [e]
  first | done | rfl
end Ev

set_option linter.all false
set_option maxRecDepth 100000
set_option maxHeartbeats 1000000
set_option exponentiation.threshold 10000
/-! Ev.X: how the short words run (rules for simp) -/
namespace Ev
open PySem PySem.Spec L2
def Out.bind {α β : Type} (o : Out α) (f : α → M β) : Out β := match o with
  | .ok a s => f a s
  | .exc x s => .exc x s
  | .bad => .bad
@[simp] theorem bnd_run {α β : Type} (m : M α) (f : α → M β) (s : ES) : bnd m f s = (m s).bind f := rfl
@[simp] theorem bind_ok {α β : Type} (a : α) (s : ES) (f : α → M β) : (Out.ok a s).bind f = f a s := rfl
@[simp] theorem bind_exc {α β : Type} (x : Ex) (s : ES) (f : α → M β) : (Out.exc x s : Out α).bind f = .exc x s := rfl
@[simp] theorem bind_bad {α β : Type} (f : α → M β) : (Out.bad : Out α).bind f = .bad := rfl
@[simp] theorem ret_run {α : Type} (a : α) (s : ES) : ret a s = .ok a s := rfl
@[simp] theorem bad_run {α : Type} (s : ES) : (bad : M α) s = .bad := rfl
@[simp] theorem rdSlot_run (i : Nat) (env : List Sl) (st : List Cell) : rdSlot i ⟨env, st⟩ = (match env[i]? with
  | some (.val v) => .ok (.val v) ⟨env, st⟩
  | some (.own _) => .ok (.pk i) ⟨env, st⟩
  | _ => .bad) := rfl
@[simp] theorem deref_val (s : ES) (v : PV) : deref s (.val v) = some v := rfl
@[simp] theorem deref_fresh (s : ES) (c : Cell) : deref s (.fresh c) = some c.val := rfl
@[simp] theorem deref_pk (env : List Sl) (st : List Cell) (i : Nat) : deref ⟨env, st⟩ (.pk i) = (match env[i]? with
  | some (.own c) => some c.val
  | some (.val v) => some v
  | _ => none) := rfl
def optO (o : Option RE) (s : ES) : Out RE := match o with
  | some x => .ok x s
  | none => .bad
@[simp] theorem optO_some (x : RE) (s : ES) : optO (some x) s = .ok x s := rfl
@[simp] theorem optO_ite (c : Prop) [Decidable c] (x y : Option RE) (s : ES) : optO (if c then x else y) s = if c then optO x s else optO y s := by split <;> rfl
@[simp] theorem optO_none (s : ES) : optO none s = .bad := rfl
@[simp] theorem lift1_run (f : PV → Option RE) (r : RE) (s : ES) : lift1 f r s = (match deref s r with | some u => optO (f u) s | none => .bad) := by
  unfold lift1 optO
  cases deref s r <;> rfl
@[simp] theorem lift2_run (f : PV → PV → Option RE) (r r' : RE) (s : ES) : lift2 f r r' s = (match deref s r, deref s r' with | some u, some v => optO (f u v) s | _, _ => .bad) := by
  unfold lift2 optO
  cases deref s r <;> cases deref s r' <;> rfl
@[simp] theorem cmpM_run (op : CmpOp) (r r' : RE) (s : ES) : cmpM op r r' s = (match deref s r, deref s r' with | some u, some v => optO ((cmpV op u v).map fun b => .val (.bl b)) s | _, _ => .bad) := lift2_run _ r r' s
@[simp] theorem subM_run (r r' : RE) (s : ES) : subM r r' s = (match deref s r, deref s r' with | some u, some v => optO ((ixV (unbox s u) v).map RE.val) s | _, _ => .bad) := by
  unfold subM optO
  cases deref s r with
  | none => rfl
  | some u =>
    cases deref s r' with
    | none => rfl
    | some v => dsimp only; cases ixV (unbox s u) v <;> rfl
@[simp] theorem unbox_box (env : List Sl) (st : List Cell) (n : Nat) : unbox ⟨env, st⟩ (.box n) = (match st[n]? with | some c => c.val | none => .box n) := rfl
@[simp] theorem unbox_tup (s : ES) (xs : List PV) : unbox s (.tup xs) = .tup xs := rfl
@[simp] theorem unbox_lst (s : ES) (xs : List PV) : unbox s (.lst xs) = .lst xs := rfl
@[simp] theorem cval_lst (xs : List PV) : (Cell.lst xs).val = .lst xs := rfl
@[simp] theorem truM_run (r : RE) (s : ES) : truM r s = (match deref s r with | some u => (match truV u with | some b => .ok b s | none => .bad) | none => .bad) := rfl
@[simp] theorem asBool_run (b : Bool) (s : ES) : asBool (.val (.bl b)) s = .ok b s := rfl
@[simp] theorem share_val (v : PV) (s : ES) : share (.val v) s = .ok v s := rfl
@[simp] theorem share_fresh (c : Cell) (s : ES) : share (.fresh c) s = .ok c.val s := rfl
@[simp] theorem share_pk (i : Nat) (env : List Sl) (st : List Cell) : share (.pk i) ⟨env, st⟩ = (match env[i]? with
    | some (.own c) => .ok c.val ⟨env.set i (.val c.val), st⟩
    | some (.val v) => .ok v ⟨env, st⟩
    | _ => .bad) := rfl
@[simp] theorem setSlot_run (i : Nat) (v : PV) (env : List Sl) (st : List Cell) : setSlot i v ⟨env, st⟩ = if i < env.length then .ok () ⟨env.set i (.val v), st⟩ else .bad := rfl
@[simp] theorem setOwn_run (i : Nat) (c : Cell) (env : List Sl) (st : List Cell) : setOwn i c ⟨env, st⟩ = if i < env.length then .ok () ⟨env.set i (.own c), st⟩ else .bad := rfl
@[simp] theorem setBox_run (i : Nat) (c : Cell) (env : List Sl) (st : List Cell) : setBox i c ⟨env, st⟩ = if i < env.length then .ok () ⟨env.set i (.val (.box st.length)), st ++ [c]⟩ else .bad := rfl
@[simp] theorem ite_run {α : Type} (c : Prop) [Decidable c] (a b : M α) (s : ES) : (if c then a else b) s = if c then a s else b s := by split <;> rfl
@[simp] theorem ite_bind {α β : Type} (c : Prop) [Decidable c] (a b : Out α) (f : α → M β) : (if c then a else b).bind f = if c then a.bind f else b.bind f := by split <;> rfl
@[simp] theorem thenM_run (m m' : M Fl) (s : ES) : thenM m m' s = (m s).bind fun f => match f with | .nx => m' | f => ret f := rfl
@[simp] theorem seqB_nil (s : ES) : seqB [] s = .ok .nx s := rfl
@[simp] theorem seqB_one (m : M Fl) (s : ES) : seqB [m] s = m s := rfl
@[simp] theorem seqB_cons (m m' : M Fl) (r : List (M Fl)) (s : ES) : seqB (m :: m' :: r) s = (m s).bind fun f => match f with | .nx => seqB (m' :: r) | f => ret f := rfl
@[simp] theorem seqM_nil (s : ES) : seqM [] s = .ok [] s := rfl
@[simp] theorem seqM_cons (m : M RE) (ms : List (M RE)) (s : ES) : seqM (m :: ms) s = (m s).bind fun r => bnd (seqM ms) fun rs => ret (r :: rs) := rfl
@[simp] theorem shares_nil (s : ES) : shares [] s = .ok [] s := rfl
@[simp] theorem shares_cons (r : RE) (rs : List RE) (s : ES) : shares (r :: rs) s = (share r s).bind fun v => bnd (shares rs) fun vs => ret (v :: vs) := rfl
@[simp] theorem derefs_nil (s : ES) : derefs s [] = some [] := rfl
@[simp] theorem derefs_cons (s : ES) (r : RE) (rs : List RE) : derefs s (r :: rs) = (match deref s r with | none => none | some v => (derefs s rs).map (v :: ·)) := rfl
@[simp] theorem liftN_run (f : List PV → Option RE) (rs : List RE) (s : ES) : liftN f rs s = (match derefs s rs with | some us => optO (f us) s | none => .bad) := by
  unfold liftN optO
  cases derefs s rs <;> rfl
@[simp] theorem xBin_run (op : Operator) (a b : M RE) (s : ES) : xBin op a b s = (a s).bind fun r => bnd b fun r' => lift2 (binV op) r r' := rfl
@[simp] theorem xCmp_run (op : CmpOp) (a b : M RE) (s : ES) : xCmp op a b s = (a s).bind fun r => bnd b fun r' => cmpM op r r' := rfl
@[simp] theorem xCmp2_run (op op' : CmpOp) (a b c : M RE) (s : ES) : xCmp2 op op' a b c s = (a s).bind fun r => bnd b fun r' => bnd (cmpM op r r') fun x => bnd (asBool x) fun k => if k then bnd c fun r'' => cmpM op' r' r'' else ret (.val (.bl false)) := rfl
@[simp] theorem xSub_run (a b : M RE) (s : ES) : xSub a b s = (a s).bind fun r => bnd b fun r' => subM r r' := rfl
@[simp] theorem xNeg_run (a : M RE) (s : ES) : xNeg a s = (a s).bind fun r => lift1 negV r := rfl
@[simp] theorem xNot_run (a : M RE) (s : ES) : xNot a s = (a s).bind fun r => bnd (truM r) fun b => ret (.val (.bl (!b))) := rfl
@[simp] theorem xIf_run (t : M Bool) (a b : M RE) (s : ES) : xIf t a b s = (t s).bind fun c => if c then a else b := rfl
@[simp] theorem xTup_run (ms : List (M RE)) (s : ES) : xTup ms s = (seqM ms s).bind fun rs => bnd (shares rs) fun vs => if vs.length ≤ LIM then ret (.val (.tup vs)) else bad := rfl
@[simp] theorem xLst_run (ms : List (M RE)) (s : ES) : xLst ms s = (seqM ms s).bind fun rs => bnd (shares rs) fun vs => if vs.length ≤ LIM then ret (.fresh (.lst vs)) else bad := rfl
@[simp] theorem xCall_run (Φ : Orc) (n : Nat) (ms : List (M RE)) (s : ES) : xCall Φ n ms s = (seqM ms s).bind fun rs => bnd (shares rs) fun vs => callM Φ n vs := rfl
def callO (o : FOut) (env : List Sl) : Out RE := match o with
  | .ok r st => .ok r ⟨env, st⟩
  | .exc x st => .exc x ⟨env, st⟩
  | .bad => .bad
@[simp] theorem callO_ok (r : RE) (st : List Cell) (env : List Sl) : callO (.ok r st) env = .ok r ⟨env, st⟩ := rfl
@[simp] theorem callO_exc (x : Ex) (st : List Cell) (env : List Sl) : callO (.exc x st) env = .exc x ⟨env, st⟩ := rfl
@[simp] theorem callM_run (Φ : Orc) (n : Nat) (vs : List PV) (env : List Sl) (st : List Cell) : callM Φ n vs ⟨env, st⟩ = callO (Φ n vs st) env := rfl
@[simp] theorem xBi_run (b : Bi) (ms : List (M RE)) (s : ES) : xBi b ms s = (seqM ms s).bind fun rs => liftN (biV b) rs := rfl
@[simp] theorem xIsi_run (t : Str) (a : M RE) (s : ES) : xIsi t a s = (a s).bind fun r => lift1 (fun v => (isInst v t).map fun b => .val (.bl b)) r := rfl
@[simp] theorem xBool_one (op : BoolOp) (m : M RE) (s : ES) : xBool op [m] s = m s := rfl
@[simp] theorem xBool_and (m m' : M RE) (ms : List (M RE)) (s : ES) : xBool .And (m :: m' :: ms) s = (m s).bind fun r => bnd (truM r) fun b => if b then xBool .And (m' :: ms) else ret r := rfl
@[simp] theorem xBool_or (m m' : M RE) (ms : List (M RE)) (s : ES) : xBool .Or (m :: m' :: ms) s = (m s).bind fun r => bnd (truM r) fun b => if b then ret r else xBool .Or (m' :: ms) := rfl
@[simp] theorem tBool_one (op : BoolOp) (m : M Bool) (s : ES) : tBool op [m] s = m s := rfl
@[simp] theorem tBool_and (m m' : M Bool) (ms : List (M Bool)) (s : ES) : tBool .And (m :: m' :: ms) s = (m s).bind fun b => if b then tBool .And (m' :: ms) else ret false := rfl
@[simp] theorem tBool_or (m m' : M Bool) (ms : List (M Bool)) (s : ES) : tBool .Or (m :: m' :: ms) s = (m s).bind fun b => if b then ret true else tBool .Or (m' :: ms) := rfl
@[simp] theorem tNot_run (t : M Bool) (s : ES) : tNot t s = (t s).bind fun b => ret (!b) := rfl
@[simp] theorem xRev_run (a : M RE) (s : ES) : xRev a s = (a s).bind fun r => lift1 revV r := rfl
@[simp] theorem xComp_run (own : List Nat) (tgt : PV → M Unit) (tst : M Bool) (elt : M RE) (it : M (List PV)) (s : ES) : xComp own tgt tst elt it s = (it s).bind fun xs => compM own tgt tst elt xs := rfl
@[simp] theorem compM_run (own : List Nat) (tgt : PV → M Unit) (tst : M Bool) (elt : M RE) (xs : List PV) (env : List Sl) (st : List Cell) :
    compM own tgt tst elt xs ⟨env, st⟩ = (match compGo own tgt tst elt true xs ⟨wipeE env own, st⟩ with
      | .ok vs s' => if vs.length ≤ LIM then .ok (.fresh (.lst vs)) ⟨backE s'.env env own, s'.st⟩ else .bad
      | _ => .bad) := by
  unfold compM noExc
  dsimp only
  cases compGo own tgt tst elt true xs ⟨wipeE env own, st⟩ <;> rfl
@[simp] theorem compGo_nil (own : List Nat) (tgt : PV → M Unit) (tst : M Bool) (elt : M RE) (s : ES) : compGo own tgt tst elt true [] s = .ok [] s := rfl
@[simp] theorem compGo_cons (own : List Nat) (tgt : PV → M Unit) (tst : M Bool) (elt : M RE) (x : PV) (xs : List PV) (env : List Sl) (st : List Cell) :
    compGo own tgt tst elt true (x :: xs) ⟨env, st⟩ = (tgt x ⟨wipeE env own, st⟩).bind fun _ => bnd tst fun b => if b then bnd elt fun r => bnd (share r) fun v => bnd (compGo own tgt tst elt true xs) fun vs => ret (v :: vs) else compGo own tgt tst elt true xs := rfl
@[simp] theorem wipeE_nil (env : List Sl) : wipeE env [] = env := rfl
@[simp] theorem wipeE_cons (env : List Sl) (v : Nat) (vs : List Nat) : wipeE env (v :: vs) = (wipeE env vs).set v .none := rfl
def backS (o : Option Sl) : Sl := match o with
  | some (.val x) => .val x
  | some (.own c) => .val c.val
  | _ => .none
@[simp] theorem backE_nil (env old : List Sl) : backE env old [] = env := rfl
@[simp] theorem backE_cons (env old : List Sl) (v : Nat) (vs : List Nat) : backE env old (v :: vs) = (backE env old vs).set v (backS old[v]?) := rfl
@[simp] theorem backS_val (x : PV) : backS (some (.val x)) = .val x := rfl
@[simp] theorem backS_own (c : Cell) : backS (some (.own c)) = .val c.val := rfl
@[simp] theorem backS_none : backS (some .none) = .none := rfl
@[simp] theorem tupAsg_tup (is : List Nat) (xs : List PV) : tupAsg is (.tup xs) = setSlots is xs := rfl
@[simp] theorem setSlots_nil (s : ES) : setSlots [] [] s = .ok () s := rfl
@[simp] theorem setSlots_cons (i : Nat) (is : List Nat) (v : PV) (vs : List PV) (s : ES) : setSlots (i :: is) (v :: vs) s = (setSlot i v s).bind fun _ => setSlots is vs := rfl
@[simp] theorem xApp_run (i : Nat) (a : M RE) (s : ES) : xApp i a s = (chkL i s).bind fun _ => bnd a fun r => bnd (share r) fun v => appendM i v := rfl
@[simp] theorem chkL_run (i : Nat) (env : List Sl) (st : List Cell) : chkL i ⟨env, st⟩ = (match env[i]? with | some (.own (.lst _)) => .ok () ⟨env, st⟩ | _ => .bad) := rfl
@[simp] theorem appendM_run (i : Nat) (v : PV) (env : List Sl) (st : List Cell) : appendM i v ⟨env, st⟩ = (match env[i]? with
  | some (.own (.lst xs)) => if xs.length < LIM then .ok (.val .non) ⟨env.set i (.own (.lst (xs ++ [v]))), st⟩ else .bad
  | _ => .bad) := rfl
@[simp] theorem xSset_run (a : M RE) (s : ES) : xSset a s = (a s).bind fun r => lift1 sortSetV r := rfl
@[simp] theorem xMmD_run (lo : Bool) (a : M RE) (s : ES) : xMmD lo a s = (a s).bind fun r => lift1 (mmD lo) r := rfl
@[simp] theorem iOf_run (a : M RE) (s : ES) : iOf a s = (a s).bind fun r => bnd (share r) itemsM := rfl
@[simp] theorem iRng1_run (a : M RE) (s : ES) : iRng1 a s = (a s).bind rng1M := rfl
@[simp] theorem rng1M_run (j : Int) (s : ES) : rng1M (.val (.int j)) s = if rngOk j then .ok (rngP 0 j) s else .bad := rfl
@[simp] theorem iZip_run (a b : M RE) (s : ES) : iZip a b s = (a s).bind fun r => bnd b fun r' => bnd (share r) fun u => bnd (share r') fun v => bnd (itemsM u) fun xs => bnd (itemsM v) fun ys => ret (zipP xs ys) := rfl
@[simp] theorem iEnum_run (a : M RE) (s : ES) : iEnum a s = (a s).bind fun r => bnd (share r) fun u => bnd (itemsM u) fun xs => ret (enumP 0 xs) := rfl
@[simp] theorem itemsM_tup (xs : List PV) (s : ES) : itemsM (.tup xs) s = .ok xs s := rfl
@[simp] theorem itemsM_lst (xs : List PV) (s : ES) : itemsM (.lst xs) s = .ok xs s := rfl
@[simp] theorem sEx_run (e : M RE) (s : ES) : sEx e s = (e s).bind fun _ => ret .nx := rfl
@[simp] theorem sRet_run (e : M RE) (s : ES) : sRet e s = (e s).bind retM := rfl
@[simp] theorem retM_val (v : PV) (s : ES) : retM (.val v) s = .ok (.rt (.val v)) s := rfl
@[simp] theorem retM_fresh (c : Cell) (s : ES) : retM (.fresh c) s = .ok (.rt (.fresh c)) s := rfl
@[simp] theorem retM_pk (i : Nat) (env : List Sl) (st : List Cell) : retM (.pk i) ⟨env, st⟩ = (match env[i]? with
    | some (.own c) => .ok (.rt (.fresh c)) ⟨env.set i .none, st⟩
    | some (.val v) => .ok (.rt (.val v)) ⟨env, st⟩
    | _ => .bad) := rfl
@[simp] theorem sIf_run (t : M Bool) (a b : M Fl) (s : ES) : sIf t a b s = (t s).bind fun k => if k then a else b := rfl
@[simp] theorem sFor_run (asg : PV → M Unit) (body : M Fl) (it : M (List PV)) (s : ES) : sFor asg body it s = (it s).bind fun xs => forM asg body xs := rfl
@[simp] theorem forM_nil (asg : PV → M Unit) (body : M Fl) (s : ES) : forM asg body [] s = .ok .nx s := rfl
def forK (asg : PV → M Unit) (body : M Fl) (xs : List PV) : Fl → M Fl
  | .nx => forM asg body xs
  | .ct => forM asg body xs
  | .bk => ret .nx
  | .rt r => ret (.rt r)
theorem forK_eq (asg : PV → M Unit) (body : M Fl) (xs : List PV) : (fun f : Fl => match f with
      | .nx => forM asg body xs
      | .ct => forM asg body xs
      | .bk => ret .nx
      | .rt r => ret (.rt r)) = forK asg body xs := by
  funext f
  cases f <;> rfl
@[simp] theorem forM_cons (asg : PV → M Unit) (body : M Fl) (x : PV) (xs : List PV) (s : ES) : forM asg body (x :: xs) s = (asg x s).bind fun _ => bnd body (forK asg body xs) := by
  rw [← forK_eq]
  rfl
@[simp] theorem forK_nx (asg : PV → M Unit) (body : M Fl) (xs : List PV) (s : ES) : forK asg body xs .nx s = forM asg body xs s := rfl
@[simp] theorem forK_ct (asg : PV → M Unit) (body : M Fl) (xs : List PV) (s : ES) : forK asg body xs .ct s = forM asg body xs s := rfl
@[simp] theorem forK_bk (asg : PV → M Unit) (body : M Fl) (xs : List PV) (s : ES) : forK asg body xs .bk s = .ok .nx s := rfl
@[simp] theorem forK_rt (asg : PV → M Unit) (body : M Fl) (xs : List PV) (r : RE) (s : ES) : forK asg body xs (.rt r) s = .ok (.rt r) s := rfl
def whileK (n : Nat) (c : M Bool) (body : M Fl) : Fl → M Fl
  | .nx => whileM n c body
  | .ct => whileM n c body
  | .bk => ret .nx
  | .rt r => ret (.rt r)
theorem whileK_eq (n : Nat) (c : M Bool) (body : M Fl) : (fun f : Fl => match f with
      | .nx => whileM n c body
      | .ct => whileM n c body
      | .bk => ret .nx
      | .rt r => ret (.rt r)) = whileK n c body := by
  funext f
  cases f <;> rfl
theorem whileM_succ (n : Nat) (c : M Bool) (body : M Fl) (s : ES) : whileM (n + 1) c body s = (c s).bind fun b => if b then bnd body (whileK n c body) else ret .nx := by
  rw [← whileK_eq]
  rfl
@[simp] theorem whileK_nx (n : Nat) (c : M Bool) (body : M Fl) (s : ES) : whileK n c body .nx s = whileM n c body s := rfl
@[simp] theorem sSet_run (i : Nat) (bx : Bool) (e : M RE) (s : ES) : sSet i bx e s = (e s).bind fun r => bnd (asgR i bx r) fun _ => ret .nx := rfl
@[simp] theorem asgR_val (i : Nat) (bx : Bool) (v : PV) (s : ES) : asgR i bx (.val v) s = setSlot i v s := rfl
@[simp] theorem asgR_fresh (i : Nat) (c : Cell) (s : ES) : asgR i false (.fresh c) s = setOwn i c s := rfl
@[simp] theorem asgR_box (i : Nat) (c : Cell) (s : ES) : asgR i true (.fresh c) s = setBox i c s := rfl
@[simp] theorem asgR_pk (i j : Nat) (bx : Bool) (s : ES) : asgR i bx (.pk j) s = (share (.pk j) s).bind (setSlot i) := rfl
@[simp] theorem sUn_run (asg : PV → M Unit) (e : M RE) (s : ES) : sUn asg e s = (e s).bind fun r => bnd (share r) fun v => bnd (asg v) fun _ => ret .nx := rfl
@[simp] theorem sPar_run (i j : Nat) (a b : M RE) (s : ES) : sPar i j a b s = (parM i j false false a b s).bind fun _ => ret .nx := rfl
@[simp] theorem parM_run (i j : Nat) (a b : M RE) (s : ES) : parM i j false false a b s = (a s).bind fun ra => bnd b fun rb => bnd (shr ra) fun ra => bnd (shr rb) fun rb => bnd (asgR i false ra) fun _ => asgR j false rb := rfl
@[simp] theorem shr_val (v : PV) (s : ES) : shr (.val v) s = .ok (.val v) s := rfl
@[simp] theorem shr_fresh (c : Cell) (s : ES) : shr (.fresh c) s = .ok (.fresh c) s := rfl
@[simp] theorem shr_pk (i : Nat) (s : ES) : shr (.pk i) s = (share (.pk i) s).bind fun v => ret (.val v) := rfl
@[simp] theorem sSto_run (i : Nat) (e k : M RE) (s : ES) : sSto i e k s = (e s).bind fun r => bnd (share r) fun v => bnd (chkS i) fun _ => bnd k fun rk => bnd (storeM i v rk) fun _ => ret .nx := rfl
@[simp] theorem chkS_run (i : Nat) (env : List Sl) (st : List Cell) : chkS i ⟨env, st⟩ = (match env[i]? with | some (.own _) => .ok () ⟨env, st⟩ | some (.val _) => .ok () ⟨env, st⟩ | _ => .bad) := rfl
@[simp] theorem storeM_run (i : Nat) (v : PV) (k : Int) (env : List Sl) (st : List Cell) : storeM i v (.val (.int k)) ⟨env, st⟩ = (match env[i]? with
    | some (.own (.lst xs)) => match L2.ixN xs.length k with
      | some j => .ok () ⟨env.set i (.own (.lst (xs.set j v))), st⟩
      | none => .bad
    | some (.val (.box n)) => match st[n]? with
      | some (.lst xs) => match L2.ixN xs.length k with
        | some j => .ok () ⟨env, st.set n (.lst (xs.set j v))⟩
        | none => .bad
      | none => .bad
    | _ => .bad) := rfl
def finO (o : Out Fl) : FOut := match o with
    | .ok f s => match f with
      | .nx => .ok (.val .non) s.st
      | .rt (.val v) => .ok (.val v) s.st
      | .rt (.fresh c) => .ok (.fresh c) s.st
      | _ => .bad
    | .exc x s => .exc x s.st
    | .bad => .bad
@[simp] theorem finO_nx (s : ES) : finO (.ok .nx s) = .ok (.val .non) s.st := rfl
@[simp] theorem finO_val (v : PV) (s : ES) : finO (.ok (.rt (.val v)) s) = .ok (.val v) s.st := rfl
@[simp] theorem finO_fresh (c : Cell) (s : ES) : finO (.ok (.rt (.fresh c)) s) = .ok (.fresh c) s.st := rfl
@[simp] theorem finO_ite (c : Prop) [Decidable c] (a b : Out Fl) : finO (if c then a else b) = if c then finO a else finO b := by split <;> rfl
theorem runD_run {np nN : Nat} {m : M Fl} {args : List PV} {st : List Cell} (h : args.length = np) : runD np nN m args st = finO (m ⟨args.map .val ++ List.replicate (nN - args.length) .none, st⟩) := by
  unfold runD
  rw [if_pos h]
  rfl
/-! values -/
@[simp] theorem bin_add (i j : Int) : binV .Add (.int i) (.int j) = some (.val (.int (i + j))) := rfl
@[simp] theorem bin_sub (i j : Int) : binV .Sub (.int i) (.int j) = some (.val (.int (i - j))) := rfl
@[simp] theorem bin_mul (i j : Int) : binV .Mult (.int i) (.int j) = if mulOk i j then some (.val (.int (i * j))) else none := rfl
@[simp] theorem bin_div (i j : Int) : binV .FloorDiv (.int i) (.int j) = if divOk j then some (.val (.int (i.fdiv j))) else none := rfl
@[simp] theorem bin_mod (i j : Int) : binV .Mod (.int i) (.int j) = if j = 0 then none else some (.val (.int (i.fmod j))) := rfl
@[simp] theorem bin_pow (i j : Int) : binV .Pow (.int i) (.int j) = if powOk i j then some (.val (.int (i ^ j.toNat))) else none := rfl
@[simp] theorem bin_shl (i j : Int) : binV .LShift (.int i) (.int j) = if shlOk i j then some (.val (.int (i * 2 ^ j.toNat))) else none := rfl
@[simp] theorem bin_addT (xs ys : List PV) : binV .Add (.tup xs) (.tup ys) = if xs.length + ys.length ≤ LIM then some (.val (.tup (xs ++ ys))) else none := rfl
@[simp] theorem bin_addL (xs ys : List PV) : binV .Add (.lst xs) (.lst ys) = if xs.length + ys.length ≤ LIM then some (.fresh (.lst (xs ++ ys))) else none := rfl
@[simp] theorem bin_repL (xs : List PV) (k : Int) : binV .Mult (.lst xs) (.int k) = if repOk xs.length k then some (.fresh (.lst (List.replicate k.toNat xs).flatten)) else none := rfl
@[simp] theorem bin_repT (xs : List PV) (k : Int) : binV .Mult (.tup xs) (.int k) = if repTOk xs.length k then some (.val (.tup (List.replicate k.toNat xs).flatten)) else none := rfl
@[simp] theorem cmp_lt (i j : Int) : cmpV .Lt (.int i) (.int j) = some (decide (i < j)) := rfl
@[simp] theorem cmp_le (i j : Int) : cmpV .LtE (.int i) (.int j) = some (decide (i ≤ j)) := rfl
@[simp] theorem cmp_gt (i j : Int) : cmpV .Gt (.int i) (.int j) = some (decide (j < i)) := rfl
@[simp] theorem cmp_ge (i j : Int) : cmpV .GtE (.int i) (.int j) = some (decide (j ≤ i)) := rfl
@[simp] theorem cmp_eq (u v : PV) : cmpV .Eq u v = eqPV u v := rfl
@[simp] theorem cmp_ne (u v : PV) : cmpV .NotEq u v = (eqPV u v).map (!·) := rfl
@[simp] theorem eq_int (i j : Int) : eqPV (.int i) (.int j) = some (decide (i = j)) := rfl
@[simp] theorem eq_str (i j : Str) : eqPV (.str i) (.str j) = some (decide (i = j)) := rfl
@[simp] theorem eq_bl (i j : Bool) : eqPV (.bl i) (.bl j) = some (decide (i = j)) := rfl
@[simp] theorem cmp_inT (u : PV) (xs : List PV) : cmpV .In u (.tup xs) = inV u xs := rfl
@[simp] theorem cmp_ninT (u : PV) (xs : List PV) : cmpV .NotIn u (.tup xs) = (inV u xs).map (!·) := rfl
@[simp] theorem in_ints (i a b : Int) : inV (.int i) [.int a, .int b] = some ((i == a) || (i == b)) := by
  unfold inV
  rw [if_pos (by rfl)]
  show some ((a == i) || ((b == i) || false)) = _
  rw [Bool.or_false, Bool.beq_comm (a := a), Bool.beq_comm (a := b)]
@[simp] theorem neg_int (i : Int) : negV (.int i) = some (.val (.int (-i))) := rfl
@[simp] theorem rev_tup (xs : List PV) : revV (.tup xs) = some (.val (.tup xs.reverse)) := rfl
@[simp] theorem ix_tup' (xs : List PV) (i : Int) : ixV (.tup xs) (.int i) = L2.atI xs i := rfl
@[simp] theorem ix_lst' (xs : List PV) (i : Int) : ixV (.lst xs) (.int i) = L2.atI xs i := rfl
@[simp] theorem tru_bl (b : Bool) : truV (.bl b) = some b := rfl
@[simp] theorem bi_len_t (xs : List PV) : biV .len [.tup xs] = some (.val (.int (xs.length : Nat))) := rfl
@[simp] theorem bi_len_l (xs : List PV) : biV .len [.lst xs] = some (.val (.int (xs.length : Nat))) := rfl
@[simp] theorem bi_int (i : Int) : biV .int [.int i] = some (.val (.int i)) := rfl
@[simp] theorem bi_abs (i : Int) : biV .abs [.int i] = some (.val (.int (if i < 0 then -i else i))) := rfl
@[simp] theorem bi_tup_l (xs : List PV) : biV .tuple [.lst xs] = some (.val (.tup xs)) := rfl
@[simp] theorem bi_tup_t (xs : List PV) : biV .tuple [.tup xs] = some (.val (.tup xs)) := rfl
@[simp] theorem bi_list_s (ns : List Int) : biV .list [.scr ns] = some (.fresh (.lst (ns.map .int))) := rfl
@[simp] theorem bi_all (xs : List PV) : biV .all [.lst xs] = (boolsOf xs).map fun bs => .val (.bl (bs.all id)) := rfl
@[simp] theorem bi_any (xs : List PV) : biV .any [.lst xs] = (boolsOf xs).map fun bs => .val (.bl (bs.any id)) := rfl
@[simp] theorem bi_sum (xs : List PV) : biV .sum [.lst xs] = (intsOf xs).map fun ns => .val (.int ns.sum) := rfl
@[simp] theorem bi_repr (v : PV) : biV .repr [v] = (toPy v).bind fun d => if showOk d then some (.val (.str d.shown)) else none := rfl
@[simp] theorem boolsOf_nil : boolsOf [] = some [] := rfl
@[simp] theorem boolsOf_cons (b : Bool) (r : List PV) : boolsOf (.bl b :: r) = (boolsOf r).map (b :: ·) := rfl
@[simp] theorem intsOf_nil : intsOf [] = some [] := rfl
@[simp] theorem intsOf_cons (b : Int) (r : List PV) : intsOf (.int b :: r) = (intsOf r).map (b :: ·) := rfl
@[simp] theorem isi_int_int (i : Int) : isInst (.int i) "int" = some true := rfl
@[simp] theorem isi_int_bool (i : Int) : isInst (.int i) "bool" = some false := rfl
@[simp] theorem isi_tup (xs : List PV) : isInst (.tup xs) "tuple" = some true := rfl
theorem mulOk_r {i j : Int} (h : -(2 ^ 64) < j) (h' : j < 2 ^ 64) : mulOk i j = true := by
  unfold mulOk
  rw [decide_eq_true h, decide_eq_true h', Bool.and_self, Bool.or_true, Bool.true_or]
theorem mulOk_l {i j : Int} (h : -(2 ^ 64) < i) (h' : i < 2 ^ 64) : mulOk i j = true := by
  unfold mulOk
  rw [decide_eq_true h, decide_eq_true h', Bool.and_self, Bool.true_or, Bool.true_or]
@[simp] theorem LIM_eq : LIM = 16777216 := rfl
@[simp] theorem divOk_pos (j : Int) (h : 0 < j) (h' : j < 18446744073709551616) : divOk j = true := by
  unfold divOk
  have a : j.natAbs.log2 < 9000 := by
    rcases Nat.eq_zero_or_pos j.natAbs with z | z
    · rw [z]; decide
    · rw [Nat.log2_lt (by omega)]
      exact Nat.lt_of_lt_of_le (show j.natAbs < 2 ^ 64 by omega) (Nat.pow_le_pow_right (by decide) (by decide))
  rw [decide_eq_true (show j ≠ 0 by omega), decide_eq_true h, decide_eq_true a]
  simp
@[simp] theorem mulOk_rs (i j : Int) (h : -18446744073709551616 < j) (h' : j < 18446744073709551616) : mulOk i j = true := mulOk_r h h'
@[simp] theorem mulOk_ls (i j : Int) (h : -18446744073709551616 < i) (h' : i < 18446744073709551616) : mulOk i j = true := mulOk_l h h'
@[simp] theorem rngOk_s (j : Int) (h : -4611686018427387904 ≤ j) (h' : j < 4611686018427387904) : rngOk j = true := by
  unfold rngOk
  rw [decide_eq_true (show -(2 ^ 62 : Int) ≤ j from h), decide_eq_true (show j < 2 ^ 62 from h')]
  rfl
@[simp] theorem powOk_s (i j : Int) (h : 0 ≤ j) (h' : j ≤ 1000000) (h2 : -18446744073709551616 < i) (h3 : i < 18446744073709551616) : powOk i j = true := by
  unfold powOk
  rw [decide_eq_true h, decide_eq_true h', decide_eq_true (show i.natAbs < 2 ^ 64 by omega)]
  rfl
@[simp] theorem fdiv_lit (i j : Int) (h : 0 ≤ j) : i.fdiv j = i / j := Int.fdiv_eq_ediv_of_nonneg i h
@[simp] theorem fmod_lit (i j : Int) (h : 0 ≤ j) : i.fmod j = i % j := Int.fmod_eq_emod_of_nonneg i h
@[simp] theorem rng0 : rngP 0 0 = [] := rfl
@[simp] theorem rng1 : rngP 0 1 = [.int 0] := rfl
@[simp] theorem rng2 : rngP 0 2 = [.int 0, .int 1] := rfl
@[simp] theorem rng3 : rngP 0 3 = [.int 0, .int 1, .int 2] := rfl
@[simp] theorem rng8 : rngP 0 8 = [.int 0, .int 1, .int 2, .int 3, .int 4, .int 5, .int 6, .int 7] := rfl
@[simp] theorem zipP_nil (ys : List PV) : zipP [] ys = [] := by cases ys <;> rfl
@[simp] theorem zipP_cons (x y : PV) (xs ys : List PV) : zipP (x :: xs) (y :: ys) = .tup [x, y] :: zipP xs ys := rfl
@[simp] theorem enumP_nil (n : Nat) : enumP n [] = [] := rfl
@[simp] theorem enumP_cons (n : Nat) (x : PV) (xs : List PV) : enumP n (x :: xs) = .tup [.int n, x] :: enumP (n + 1) xs := rfl
@[simp] theorem atI_0 {α : Type} (a : α) (l : List α) : L2.atI (a :: l) 0 = some a := L2.atI_nat (j := 0) rfl
@[simp] theorem atI_1 {α : Type} (a b : α) (l : List α) : L2.atI (a :: b :: l) 1 = some b := L2.atI_nat (j := 1) rfl
@[simp] theorem atI_2 {α : Type} (a b c : α) (l : List α) : L2.atI (a :: b :: c :: l) 2 = some c := L2.atI_nat (j := 2) rfl
@[simp] theorem atI_3 {α : Type} (a b c d : α) (l : List α) : L2.atI (a :: b :: c :: d :: l) 3 = some d := L2.atI_nat (j := 3) rfl
@[simp] theorem ixN_20 : L2.ixN 2 0 = some 0 := rfl
@[simp] theorem ixN_21 : L2.ixN 2 1 = some 1 := rfl
@[simp] theorem tryG_apply (n : Option Nat) (m : M Fl) (tab : List (Str × Option (Option PV))) (s : ES) : tryG n m tab s = match m s with
  | .exc x s' => match x.args with
    | [] => if lenOk s' n then match (tab.lookup x.cls).getD none with
      | some (some v) => .ok (.rt (.val v)) s'
      | some none => .exc x s'
      | none => .bad else .bad
    | _ => .bad
  | o => o := rfl
@[simp] theorem sPar3_run (i j l : Nat) (a b c : M RE) (s : ES) : sPar3 i j l a b c s = ((a s).bind fun ra => bnd b fun rb => bnd c fun rc => bnd (shv ra) fun va => bnd (shv rb) fun vb => bnd (shr rc) fun rc => bnd (setSlot i va) fun _ => bnd (setSlot j vb) fun _ => asgR l false rc).bind fun _ => ret .nx := rfl
@[simp] theorem shv_val (v : PV) : shv (.val v) = ret v := rfl
@[simp] theorem shv_pk (i : Nat) : shv (.pk i) = share (.pk i) := rfl
@[simp] theorem tIfE_run (t a b : M Bool) (s : ES) : tIfE t a b s = (t s).bind fun c => if c then a else b := rfl
@[simp] theorem raiseM_run (x : Str) (s : ES) : raiseM x s = .exc ⟨x, []⟩ s := rfl
end Ev

set_option linter.all false
set_option maxRecDepth 100000
set_option maxHeartbeats 1000000
/-! Ev.Y: comprehensions over lists of any length -/
namespace Ev
open PySem PySem.Spec L2
/-- one turn of a comprehension -/
def oneM (tgt : PV → M Unit) (tst : M Bool) (elt : M RE) (x : PV) : M PV := bnd (tgt x) fun _ => bnd tst fun b => if b then bnd elt share else bad
theorem bind_eq {α β : Type} {o : Out α} {f : α → M β} {b : β} {s : ES} (h : o.bind f = .ok b s) : ∃ a s1, o = .ok a s1 ∧ f a s1 = .ok b s := by
  cases o with
  | ok a s1 => exact ⟨a, s1, rfl, h⟩
  | exc x s1 => cases h
  | bad => cases h
theorem oneM_eq {tgt : PV → M Unit} {tst : M Bool} {elt : M RE} {x v : PV} {s s' : ES} (h : oneM tgt tst elt x s = .ok v s') : ∃ s1 s2 s3 r, tgt x s = .ok () s1 ∧ tst s1 = .ok true s2 ∧ elt s2 = .ok r s3 ∧ share r s3 = .ok v s' := by
  unfold oneM at h
  rw [bnd_run] at h
  obtain ⟨_, s1, h1, h2⟩ := bind_eq h
  rw [bnd_run] at h2
  obtain ⟨b, s2, h3, h4⟩ := bind_eq h2
  cases b with
  | false => cases h4
  | true =>
    rw [if_pos rfl, bnd_run] at h4
    obtain ⟨r, s3, h5, h6⟩ := bind_eq h4
    exact ⟨s1, s2, s3, r, h1, h3, h5, h6⟩
theorem compGo_ex {own : List Nat} {tgt : PV → M Unit} {tst : M Bool} {elt : M RE} (I : ES → Prop) (Pv : PV → Prop) : ∀ (xs : List PV), (∀ x ∈ xs, ∀ s, I s → ∃ v s', oneM tgt tst elt x ⟨wipeE s.env own, s.st⟩ = .ok v s' ∧ I s' ∧ Pv v) →
    ∀ s, I s → ∃ vs s', compGo own tgt tst elt true xs s = .ok vs s' ∧ I s' ∧ vs.length = xs.length ∧ ∀ v ∈ vs, Pv v
  | [], _, s, hs => ⟨[], s, rfl, hs, rfl, fun _ h => nomatch h⟩
  | x :: xs, h, s, hs => by
    obtain ⟨v, s', h1, h2, h3⟩ := h x (List.mem_cons_self ..) s hs
    obtain ⟨s1, s2, s3, r, e1, e2, e3, e4⟩ := oneM_eq h1
    obtain ⟨vs, s'', g1, g2, g3, g4⟩ := compGo_ex I Pv xs (fun x hx => h x (List.mem_cons_of_mem _ hx)) s' h2
    refine ⟨v :: vs, s'', ?_, g2, by simp [g3], fun w hw => ?_⟩
    · obtain ⟨env, st⟩ := s
      rw [compGo_cons, e1, bind_ok, bnd_run, e2, bind_ok, if_pos rfl, bnd_run, e3, bind_ok, bnd_run, e4, bind_ok, bnd_run, g1, bind_ok]
      rfl
    · rcases List.mem_cons.mp hw with e | e
      · subst e; exact h3
      · exact g4 w e
/-- a comprehension of values known ahead -/
theorem compGo_map {own : List Nat} {tgt : PV → M Unit} {tst : M Bool} {elt : M RE} (I : ES → Prop) (g : PV → PV) : ∀ (xs : List PV), (∀ x ∈ xs, ∀ s, I s → ∃ s', oneM tgt tst elt x ⟨wipeE s.env own, s.st⟩ = .ok (g x) s' ∧ I s') →
    ∀ s, I s → ∃ s', compGo own tgt tst elt true xs s = .ok (xs.map g) s' ∧ I s'
  | [], _, s, hs => ⟨s, rfl, hs⟩
  | x :: xs, h, s, hs => by
    obtain ⟨s', h1, h2⟩ := h x (List.mem_cons_self ..) s hs
    obtain ⟨s1, s2, s3, r, e1, e2, e3, e4⟩ := oneM_eq h1
    obtain ⟨s'', g1, g2⟩ := compGo_map I g xs (fun x hx => h x (List.mem_cons_of_mem _ hx)) s' h2
    refine ⟨s'', ?_, g2⟩
    obtain ⟨env, st⟩ := s
    rw [compGo_cons, e1, bind_ok, bnd_run, e2, bind_ok, if_pos rfl, bnd_run, e3, bind_ok, bnd_run, e4, bind_ok, bnd_run, g1, bind_ok]
    rfl
@[simp] theorem oneM_run (tgt : PV → M Unit) (tst : M Bool) (elt : M RE) (x : PV) (s : ES) : oneM tgt tst elt x s = (tgt x s).bind fun _ => bnd tst fun b => if b then bnd elt share else bad := rfl
/-- as compGo_map, over what stands for the items -/
theorem compGo_f {α : Type} {own : List Nat} {tgt : PV → M Unit} {tst : M Bool} {elt : M RE} (I : ES → Prop) (f g : α → PV) : ∀ (xs : List α), (∀ x ∈ xs, ∀ s, I s → ∃ s', oneM tgt tst elt (f x) ⟨wipeE s.env own, s.st⟩ = .ok (g x) s' ∧ I s') →
    ∀ s, I s → ∃ s', compGo own tgt tst elt true (xs.map f) s = .ok (xs.map g) s' ∧ I s'
  | [], _, s, hs => ⟨s, rfl, hs⟩
  | x :: xs, h, s, hs => by
    obtain ⟨s', h1, h2⟩ := h x (List.mem_cons_self ..) s hs
    obtain ⟨s1, s2, s3, r, e1, e2, e3, e4⟩ := oneM_eq h1
    obtain ⟨s'', g1, g2⟩ := compGo_f I f g xs (fun x hx => h x (List.mem_cons_of_mem _ hx)) s' h2
    refine ⟨s'', ?_, g2⟩
    obtain ⟨env, st⟩ := s
    rw [List.map_cons, compGo_cons, e1, bind_ok, bnd_run, e2, bind_ok, if_pos rfl, bnd_run, e3, bind_ok, bnd_run, e4, bind_ok, bnd_run, g1, bind_ok]
    rfl
/-- a comprehension with a test -/
theorem compGo_flt {own : List Nat} {tgt : PV → M Unit} {tst : M Bool} {elt : M RE} (I : ES → Prop) (c : PV → Bool) (g : PV → PV) : ∀ (xs : List PV),
    (∀ x ∈ xs, ∀ s, I s → ∃ s1 s2, tgt x ⟨wipeE s.env own, s.st⟩ = .ok () s1 ∧ tst s1 = .ok (c x) s2 ∧ (c x = true → ∃ r s3 s4, elt s2 = .ok r s3 ∧ share r s3 = .ok (g x) s4 ∧ I s4) ∧ (c x = false → I s2)) →
    ∀ s, I s → ∃ s', compGo own tgt tst elt true xs s = .ok ((xs.filter c).map g) s' ∧ I s'
  | [], _, s, hs => ⟨s, rfl, hs⟩
  | x :: xs, h, s, hs => by
    obtain ⟨s1, s2, e1, e2, e3, e4⟩ := h x (List.mem_cons_self ..) s hs
    have ih := compGo_flt I c g xs fun x hx => h x (List.mem_cons_of_mem _ hx)
    obtain ⟨env, st⟩ := s
    cases hc : c x with
    | false =>
      obtain ⟨s', g1, g2⟩ := ih s2 (e4 hc)
      refine ⟨s', ?_, g2⟩
      rw [hc] at e2
      rw [compGo_cons, e1, bind_ok, bnd_run, e2, bind_ok, if_neg (by decide), g1, List.filter_cons_of_neg (by rw [hc]; decide)]
    | true =>
      obtain ⟨r, s3, s4, e5, e6, e7⟩ := e3 hc
      obtain ⟨s', g1, g2⟩ := ih s4 e7
      refine ⟨s', ?_, g2⟩
      rw [hc] at e2
      rw [compGo_cons, e1, bind_ok, bnd_run, e2, bind_ok, if_pos rfl, bnd_run, e5, bind_ok, bnd_run, e6, bind_ok, bnd_run, g1, bind_ok, List.filter_cons_of_pos hc]
      rfl
/-! whole numbers as data -/
theorem toPys_ints : ∀ ns : List Int, toPys (ns.map .int) = some (ns.map PyData.int)
  | [] => rfl
  | n :: ns => by
    show (match toPy (.int n) with | none => none | some d => (toPys (ns.map .int)).map (d :: ·)) = _
    rw [toPys_ints ns]
    rfl
@[simp] theorem toPy_tup (xs : List PV) : toPy (.tup xs) = (toPys xs).map .tuple := by simp [toPy]
@[simp] theorem toPy_lst (xs : List PV) : toPy (.lst xs) = (toPys xs).map .list := by simp [toPy]
theorem toPy_intsT (ns : List Int) : toPy (.tup (ns.map .int)) = some (.tuple (ns.map PyData.int)) := by rw [toPy_tup, toPys_ints]; rfl
theorem toPy_intsL (ns : List Int) : toPy (.lst (ns.map .int)) = some (.list (ns.map PyData.int)) := by rw [toPy_lst, toPys_ints]; rfl
theorem lay_ints : ∀ ns : List Int, PyData.canLayAll0 (ns.map PyData.int) = true
  | [] => by simp [PyData.canLayAll0]
  | n :: ns => by simp [PyData.canLayAll0, PyData.canLay0, lay_ints ns]
theorem depth_ints : ∀ ns : List Int, PyData.depthAll (ns.map PyData.int) = 0
  | [] => by simp [PyData.depthAll]
  | n :: ns => by simp [PyData.depthAll, PyData.depth, depth_ints ns]
theorem shaped_intsT (ns : List Int) : SeqAt.shaped (.tuple (ns.map PyData.int)) = true := by
  show (PyData.canLay0 _ && decide (PyData.depth _ ≤ 64)) = true
  simp [PyData.canLay0, PyData.depth, lay_ints, depth_ints]
theorem shaped_intsL (ns : List Int) : SeqAt.shaped (.list (ns.map PyData.int)) = true := by
  show (PyData.canLay0 _ && decide (PyData.depth _ ≤ 64)) = true
  simp [PyData.canLay0, PyData.depth, lay_ints, depth_ints]
theorem eqvAll_ints : ∀ ms ns : List Int, PyData.eqvAll (ms.map PyData.int) (ns.map PyData.int) = decide (ms = ns)
  | [], [] => by simp [PyData.eqvAll]
  | [], n :: ns => by simp [PyData.eqvAll]
  | m :: ms, [] => by simp [PyData.eqvAll]
  | m :: ms, n :: ns => by
    rw [List.map_cons, List.map_cons]
    simp only [PyData.eqvAll, PyData.eqv, eqvAll_ints ms ns]
    by_cases h : m = n <;> simp [h]
theorem eq_intsT (ms ns : List Int) : eqPV (.tup (ms.map .int)) (.tup (ns.map .int)) = some (decide (ms = ns)) := by
  unfold eqPV
  rw [toPy_intsT, toPy_intsT]
  dsimp only
  rw [shaped_intsT, shaped_intsT, if_pos (by rfl)]
  simp only [PyData.eqv, eqvAll_ints]
theorem eq_intsL (ms ns : List Int) : eqPV (.lst (ms.map .int)) (.lst (ns.map .int)) = some (decide (ms = ns)) := by
  unfold eqPV
  rw [toPy_intsL, toPy_intsL]
  dsimp only
  rw [shaped_intsL, shaped_intsL, if_pos (by rfl)]
  simp only [PyData.eqv, eqvAll_ints]
@[simp] theorem mulOk_mod2 (i z : Int) : mulOk i (z % 2) = true := mulOk_r (by omega) (by omega)
def Sm (x : Int) : Prop := -999999999999 ≤ x ∧ x ≤ 999999999999
theorem leaf_int {x : Int} (h : Sm x) : PyData.leavesShort 13 (.int x) = true := by
  simp only [PyData.leavesShort, decide_eq_true_eq]
  exact PyData.shown_int_le2 h.1 h.2
theorem show_int {x : Int} (h : Sm x) : PyData.showable (.int x) = true := by
  have a : x.natAbs.log2 < 1920 := by
    rcases Nat.eq_zero_or_pos x.natAbs with z | z
    · rw [z]; decide
    · rw [Nat.log2_lt (by omega)]
      refine Nat.lt_of_lt_of_le (show x.natAbs < 2 ^ 64 by have := h.1; have := h.2; omega) (Nat.pow_le_pow_right (by decide) (by decide))
  simp only [PyData.showable, decide_eq_true_eq]
  exact a
theorem leaves_ints : ∀ ns : List Int, (∀ x ∈ ns, Sm x) → PyData.leavesShortAll 13 (ns.map PyData.int) = true
  | [], _ => by simp [PyData.leavesShortAll]
  | n :: ns, h => by
    rw [List.map_cons]
    simp only [PyData.leavesShortAll, leaf_int (h n (List.mem_cons_self ..)), leaves_ints ns fun x hx => h x (List.mem_cons_of_mem _ hx), Bool.and_self]
theorem shows_ints : ∀ ns : List Int, (∀ x ∈ ns, Sm x) → PyData.showableAll (ns.map PyData.int) = true
  | [], _ => by simp [PyData.showableAll]
  | n :: ns, h => by
    rw [List.map_cons]
    simp only [PyData.showableAll, show_int (h n (List.mem_cons_self ..)), shows_ints ns fun x hx => h x (List.mem_cons_of_mem _ hx), Bool.and_self]
theorem bulk_ints : ∀ ns : List Int, PyData.bulkAll (ns.map PyData.int) = ns.length
  | [] => by simp [PyData.bulkAll]
  | n :: ns => by
    rw [List.map_cons]
    simp only [PyData.bulkAll, PyData.bulk, bulk_ints ns, List.length_cons]
    omega
theorem showOk_intsT {ns : List Int} (h : ∀ x ∈ ns, Sm x) (hl : ns.length ≤ 1000) : showOk (.tuple (ns.map PyData.int)) = true := by
  unfold showOk
  rw [shaped_intsT]
  simp only [PyData.showable, PyData.leavesShort, PyData.bulk, shows_ints ns h, leaves_ints ns h, bulk_ints]
  rw [decide_eq_true (show ns.length ≤ 2 ^ 20 by omega)]
  simp
theorem showOk_pair {ns : List Int} {e : Int} (h : ∀ x ∈ ns, Sm x) (he : Sm e) (hl : ns.length ≤ 1000) : showOk (.tuple [.tuple (ns.map PyData.int), .int e]) = true := by
  unfold showOk
  have sh : SeqAt.shaped (.tuple [.tuple (ns.map PyData.int), .int e]) = true := by
    show (PyData.canLay0 _ && decide (PyData.depth _ ≤ 64)) = true
    simp [PyData.canLay0, PyData.canLayAll0, PyData.depth, PyData.depthAll, lay_ints, depth_ints]
  rw [sh]
  have l1 := leaf_int he
  have l2 := show_int he
  simp only [PyData.showable, PyData.showableAll, PyData.leavesShort, PyData.leavesShortAll, PyData.bulk, PyData.bulkAll, shows_ints ns h, leaves_ints ns h, bulk_ints] at l1 l2 ⊢
  rw [l1, l2, decide_eq_true (show ns.length + 1 + (0 + 1 + 0) ≤ 2 ^ 20 by omega)]
  simp
theorem repr_intsT {ns : List Int} (h : ∀ x ∈ ns, Sm x) (hl : ns.length ≤ 1000) : biV .repr [.tup (ns.map .int)] = some (.val (.str (PyData.shown (.tuple (ns.map PyData.int))))) := by
  rw [bi_repr, toPy_intsT]
  show (if showOk _ = true then _ else _) = _
  rw [if_pos (showOk_intsT h hl)]
theorem repr_pair {ns : List Int} {e : Int} (h : ∀ x ∈ ns, Sm x) (he : Sm e) (hl : ns.length ≤ 1000) : biV .repr [.tup [.tup (ns.map .int), .int e]] = some (.val (.str (PyData.shown (.tuple [.tuple (ns.map PyData.int), .int e])))) := by
  have t : toPy (.tup [.tup (ns.map .int), .int e]) = some (.tuple [.tuple (ns.map PyData.int), .int e]) := by
    rw [toPy_tup]
    show (match toPy (.tup (ns.map .int)) with | none => none | some d => (toPys [.int e]).map (d :: ·)).map PyData.tuple = _
    rw [toPy_intsT]
    rfl
  rw [bi_repr, t]
  show (if showOk _ = true then _ else _) = _
  rw [if_pos (showOk_pair h he hl)]
end Ev

set_option linter.all false
set_option maxRecDepth 100000
set_option maxHeartbeats 0
namespace Ev
open PySem PySem.Spec L2
abbrev top (i : Nat) : Stmt := PySem.Challenge.pw_countrealm_k40_what_goes_with_an_integer.main.body.getD i (.Pass ⟨0, 0, 0, 0⟩)
def GL : List (Str × GV) := [(("LETTERS" : Str), GV.const (.int (3))), (("SIZE" : Str), GV.const (.int (1000000000))), (("NUMBER" : Str), GV.const (.int (1000000000000))), (("DIVISOR" : Str), GV.const (.int (1000000))), (("NESTED" : Str), GV.const (.int (12))), (("PARTS" : Str), GV.const (.int (4000))), (("LEAVES" : Str), GV.const (.int (6))), (("DEEP" : Str), GV.const (.int (6))), (("TELLS" : Str), GV.const (.tup [(.str "some"), (.str "all")])), (("LEAD" : Str), GV.const (.int (3))), (("OTHER" : Str), GV.const (.int (1))), (("CONSTANT" : Str), GV.const (.int (20))), (("HIGHEST" : Str), GV.const (.int (6))), (("MULTIPLE" : Str), GV.const (.int (6))), (("ENDLESS" : Str), GV.const (.str "endless")), (("is_whole" : Str), GV.fn 0), (("is_tuple_of" : Str), GV.fn 1), (("fits_row" : Str), GV.fn 2), (("fits_leaf" : Str), GV.fn 3), (("parts_of" : Str), GV.fn 4), (("fits_knot" : Str), GV.fn 5), (("fits_test" : Str), GV.fn 6), (("leaves_of" : Str), GV.fn 7), (("sum_at" : Str), GV.fn 8), (("leaf_at" : Str), GV.fn 9), (("test_at" : Str), GV.fn 10), (("common_divisor" : Str), GV.fn 11), (("common_multiple" : Str), GV.fn 12), (("divisors_in" : Str), GV.fn 13), (("period_of" : Str), GV.fn 14), (("row_of" : Str), GV.fn 15), (("is_small_leaf" : Str), GV.fn 16), (("height_of" : Str), GV.fn 17), (("fits_formula" : Str), GV.fn 18), (("need_integer" : Str), GV.fn 19), (("need_two" : Str), GV.fn 20), (("need_counted" : Str), GV.fn 21), (("cells_of" : Str), GV.fn 22), (("first_member" : Str), GV.fn 23), (("last_member" : Str), GV.fn 24), (("flips_of" : Str), GV.fn 25), (("true_cells" : Str), GV.fn 26), (("count_last" : Str), GV.fn 27), (("least_last" : Str), GV.fn 28), (("greatest_last" : Str), GV.fn 29), (("nearest_last" : Str), GV.fn 30), (("breaks_of" : Str), GV.fn 31), (("class_sum" : Str), GV.fn 32), (("count_pairs" : Str), GV.fn 33), (("count_by" : Str), GV.fn 34), (("count_at" : Str), GV.fn 35), (("least_at" : Str), GV.fn 36), (("greatest_at" : Str), GV.fn 37), (("nearest_at" : Str), GV.fn 38), (("_law_cup" : Str), GV.fn 39), (("_law_roll" : Str), GV.fn 40), (("_law_some" : Str), GV.fn 41), (("_law_leaves" : Str), GV.fn 42), (("_law_sum" : Str), GV.fn 43), (("_law_test_at" : Str), GV.fn 44), (("_law_period" : Str), GV.fn 45), (("_law_leaf" : Str), GV.fn 46), (("_law_test" : Str), GV.fn 47), (("_law_formula" : Str), GV.fn 48), (("_law_plain" : Str), GV.fn 49), (("_law_deep" : Str), GV.fn 50), (("_law_joined" : Str), GV.fn 51), (("_law_any_formula" : Str), GV.fn 52), (("law" : Str), GV.fn 53)]
def EXC : List Str := []
def SUB : List ((Str × Str) × Bool) := []
def N0 : List Str := [("value" : Str), ("low" : Str), ("high" : Str)]
def C0 : CC := ⟨N0, GL, [("cup" : Str)], EXC, SUB⟩
def d0 : DefT := ⟨"is_whole", top 11, C0, [("value" : Str), ("low" : Str), ("high" : Str)]⟩
def N1 : List Str := [("value" : Str), ("low" : Str), ("high" : Str)]
def C1 : CC := ⟨N1, GL, [("cup" : Str)], EXC, SUB⟩
def d1 : DefT := ⟨"is_tuple_of", top 12, C1, [("value" : Str), ("low" : Str), ("high" : Str)]⟩
def N2 : List Str := [("letters" : Str), ("value" : Str), (".0" : Str), ("one" : Str)]
def C2 : CC := ⟨N2, GL, [("cup" : Str)], EXC, SUB⟩
def d2 : DefT := ⟨"fits_row", top 13, C2, [("letters" : Str), ("value" : Str)]⟩
def N3 : List Str := [("letters" : Str), ("value" : Str)]
def C3 : CC := ⟨N3, GL, [("cup" : Str)], EXC, SUB⟩
def d3 : DefT := ⟨"fits_leaf", top 14, C3, [("letters" : Str), ("value" : Str)]⟩
def N4 : List Str := [("value" : Str)]
def C4 : CC := ⟨N4, GL, [("cup" : Str)], EXC, SUB⟩
def d4 : DefT := ⟨"parts_of", top 15, C4, [("value" : Str)]⟩
def N5 : List Str := [("value" : Str)]
def C5 : CC := ⟨N5, GL, [("cup" : Str)], EXC, SUB⟩
def d5 : DefT := ⟨"fits_knot", top 16, C5, [("value" : Str)]⟩
def N6 : List Str := [("letters" : Str), ("value" : Str), ("line" : Str), ("many" : Str), ("one" : Str), ("deep" : Str), (".0" : Str), ("part" : Str)]
def C6 : CC := ⟨N6, GL, [("cup" : Str)], EXC, SUB⟩
def d6 : DefT := ⟨"fits_test", top 17, C6, [("letters" : Str), ("value" : Str)]⟩
def N7 : List Str := [("test" : Str), ("found" : Str), ("line" : Str), ("one" : Str)]
def C7 : CC := ⟨N7, GL, [("cup" : Str)], EXC, SUB⟩
def d7 : DefT := ⟨"leaves_of", top 18, C7, [("test" : Str)]⟩
def N8 : List Str := [("row" : Str), ("point" : Str), (".0" : Str), ("one" : Str), ("other" : Str)]
def C8 : CC := ⟨N8, GL, [("cup" : Str)], EXC, SUB⟩
def d8 : DefT := ⟨"sum_at", top 19, C8, [("row" : Str), ("point" : Str)]⟩
def N9 : List Str := [("leaf" : Str), ("point" : Str)]
def C9 : CC := ⟨N9, GL, [("cup" : Str)], EXC, SUB⟩
def d9 : DefT := ⟨"leaf_at", top 20, C9, [("leaf" : Str), ("point" : Str)]⟩
def N10 : List Str := [("test" : Str), ("point" : Str), (".0" : Str), ("part" : Str)]
def C10 : CC := ⟨N10, GL, [("cup" : Str)], EXC, SUB⟩
def d10 : DefT := ⟨"test_at", top 21, C10, [("test" : Str), ("point" : Str)]⟩
def N11 : List Str := [("one" : Str), ("other" : Str)]
def C11 : CC := ⟨N11, GL, [("cup" : Str)], EXC, SUB⟩
def d11 : DefT := ⟨"common_divisor", top 31, C11, [("one" : Str), ("other" : Str)]⟩
def N12 : List Str := [("numbers" : Str), ("found" : Str), ("number" : Str)]
def C12 : CC := ⟨N12, GL, [("cup" : Str)], EXC, SUB⟩
def d12 : DefT := ⟨"common_multiple", top 32, C12, [("numbers" : Str)]⟩
def N13 : List Str := [("test" : Str), (".0" : Str), ("leaf" : Str)]
def C13 : CC := ⟨N13, GL, [("cup" : Str)], EXC, SUB⟩
def d13 : DefT := ⟨"divisors_in", top 33, C13, [("test" : Str)]⟩
def N14 : List Str := [("test" : Str)]
def C14 : CC := ⟨N14, GL, [("cup" : Str)], EXC, SUB⟩
def d14 : DefT := ⟨"period_of", top 34, C14, [("test" : Str)]⟩
def N15 : List Str := [("leaf" : Str)]
def C15 : CC := ⟨N15, GL, [("cup" : Str)], EXC, SUB⟩
def d15 : DefT := ⟨"row_of", top 35, C15, [("leaf" : Str)]⟩
def N16 : List Str := [("leaf" : Str), ("row" : Str), (".0" : Str), ("one" : Str)]
def C16 : CC := ⟨N16, GL, [("cup" : Str)], EXC, SUB⟩
def d16 : DefT := ⟨"is_small_leaf", top 36, C16, [("leaf" : Str)]⟩
def N17 : List Str := [("test" : Str), ("parts" : Str), (".0" : Str), ("part" : Str)]
def C17 : CC := ⟨N17, GL, [("cup" : Str)], EXC, SUB⟩
def d17 : DefT := ⟨"height_of", top 37, C17, [("test" : Str)]⟩
def N18 : List Str := [("value" : Str), ("letters" : Str), ("leaves" : Str), (".0" : Str), ("one" : Str), ("leaf" : Str)]
def C18 : CC := ⟨N18, GL, [("cup" : Str)], EXC, SUB⟩
def d18 : DefT := ⟨"fits_formula", top 38, C18, [("value" : Str)]⟩
def N19 : List Str := [("value" : Str)]
def C19 : CC := ⟨N19, GL, [("cup" : Str)], EXC, SUB⟩
def d19 : DefT := ⟨"need_integer", top 41, C19, [("value" : Str)]⟩
def N20 : List Str := [("value" : Str)]
def C20 : CC := ⟨N20, GL, [("cup" : Str)], EXC, SUB⟩
def d20 : DefT := ⟨"need_two", top 43, C20, [("value" : Str)]⟩
def N21 : List Str := [("value" : Str)]
def C21 : CC := ⟨N21, GL, [("cup" : Str)], EXC, SUB⟩
def d21 : DefT := ⟨"need_counted", top 44, C21, [("value" : Str)]⟩
def N22 : List Str := [("places" : Str), ("ends" : Str), (".0" : Str), ("low" : Str), ("high" : Str)]
def C22 : CC := ⟨N22, GL, [("cup" : Str)], EXC, SUB⟩
def d22 : DefT := ⟨"cells_of", top 45, C22, [("places" : Str)]⟩
def N23 : List Str := [("low" : Str), ("high" : Str), ("residue" : Str), ("period" : Str), ("found" : Str)]
def C23 : CC := ⟨N23, GL, [("cup" : Str)], EXC, SUB⟩
def d23 : DefT := ⟨"first_member", top 46, C23, [("low" : Str), ("high" : Str), ("residue" : Str), ("period" : Str)]⟩
def N24 : List Str := [("low" : Str), ("high" : Str), ("residue" : Str), ("period" : Str), ("found" : Str)]
def C24 : CC := ⟨N24, GL, [("cup" : Str)], EXC, SUB⟩
def d24 : DefT := ⟨"last_member", top 47, C24, [("low" : Str), ("high" : Str), ("residue" : Str), ("period" : Str)]⟩
def N25 : List Str := [("test" : Str), ("point" : Str), ("found" : Str), ("leaf" : Str), ("row" : Str), ("rest" : Str)]
def C25 : CC := ⟨N25, GL, [("cup" : Str)], EXC, SUB⟩
def d25 : DefT := ⟨"flips_of", top 48, C25, [("test" : Str), ("point" : Str)]⟩
def N26 : List Str := [("test" : Str), ("point" : Str), ("period" : Str), ("found" : Str), ("low" : Str), ("high" : Str), ("residue" : Str), ("one" : Str)]
def C26 : CC := ⟨N26, GL, [("cup" : Str)], EXC, SUB⟩
def d26 : DefT := ⟨"true_cells", top 49, C26, [("test" : Str), ("point" : Str)]⟩
def N27 : List Str := [("test" : Str), ("point" : Str), ("period" : Str), ("total" : Str), ("low" : Str), ("high" : Str), ("residue" : Str)]
def C27 : CC := ⟨N27, GL, [("cup" : Str)], EXC, SUB⟩
def d27 : DefT := ⟨"count_last", top 50, C27, [("test" : Str), ("point" : Str)]⟩
def N28 : List Str := [("test" : Str), ("point" : Str), ("period" : Str), ("found" : Str), (".0" : Str), ("low" : Str), ("high" : Str), ("residue" : Str)]
def C28 : CC := ⟨N28, GL, [("cup" : Str)], EXC, SUB⟩
def d28 : DefT := ⟨"least_last", top 51, C28, [("test" : Str), ("point" : Str)]⟩
def N29 : List Str := [("test" : Str), ("point" : Str), ("period" : Str), ("found" : Str), (".0" : Str), ("low" : Str), ("high" : Str), ("residue" : Str)]
def C29 : CC := ⟨N29, GL, [("cup" : Str)], EXC, SUB⟩
def d29 : DefT := ⟨"greatest_last", top 52, C29, [("test" : Str), ("point" : Str)]⟩
def N30 : List Str := [("test" : Str), ("point" : Str), ("period" : Str), ("found" : Str), ("low" : Str), ("high" : Str), ("residue" : Str), ("one" : Str), ("size" : Str), (".0" : Str)]
def C30 : CC := ⟨N30, GL, [("cup" : Str)], EXC, SUB⟩
def d30 : DefT := ⟨"nearest_last", top 53, C30, [("test" : Str), ("point" : Str)]⟩
def N31 : List Str := [("test" : Str), ("n" : Str), ("found" : Str), ("lines" : Str), ("leaf" : Str), ("row" : Str), ("rest" : Str), ("slope" : Str), ("place" : Str), ("other" : Str), ("more" : Str)]
def C31 : CC := ⟨N31, GL, [("cup" : Str)], EXC, SUB⟩
def d31 : DefT := ⟨"breaks_of", top 54, C31, [("test" : Str), ("n" : Str)]⟩
def N32 : List Str := [("test" : Str), ("n" : Str), ("low" : Str), ("high" : Str), ("residue" : Str), ("period" : Str), ("first" : Str), ("last" : Str), ("one" : Str), ("other" : Str)]
def C32 : CC := ⟨N32, GL, [("cup" : Str)], EXC, SUB⟩
def d32 : DefT := ⟨"class_sum", top 55, C32, [("test" : Str), ("n" : Str), ("low" : Str), ("high" : Str), ("residue" : Str)]⟩
def N33 : List Str := [("test" : Str), ("n" : Str), ("total" : Str), ("low" : Str), ("high" : Str), ("residue" : Str), ("more" : Str)]
def C33 : CC := ⟨N33, GL, [("cup" : Str)], EXC, SUB⟩
def d33 : DefT := ⟨"count_pairs", top 56, C33, [("test" : Str), ("n" : Str)]⟩
def N34 : List Str := [("formula" : Str), ("n" : Str)]
def C34 : CC := ⟨N34, GL, [("cup" : Str)], EXC, SUB⟩
def d34 : DefT := ⟨"count_by", top 57, C34, [("formula" : Str), ("n" : Str)]⟩
def N35 : List Str := [("formula" : Str), ("n" : Str)]
def C35 : CC := ⟨N35, GL, [("cup" : Str)], EXC, SUB⟩
def d35 : DefT := ⟨"count_at", top 58, C35, [("formula" : Str), ("n" : Str)]⟩
def N36 : List Str := [("formula" : Str), ("n" : Str)]
def C36 : CC := ⟨N36, GL, [("cup" : Str)], EXC, SUB⟩
def d36 : DefT := ⟨"least_at", top 59, C36, [("formula" : Str), ("n" : Str)]⟩
def N37 : List Str := [("formula" : Str), ("n" : Str)]
def C37 : CC := ⟨N37, GL, [("cup" : Str)], EXC, SUB⟩
def d37 : DefT := ⟨"greatest_at", top 60, C37, [("formula" : Str), ("n" : Str)]⟩
def N38 : List Str := [("formula" : Str), ("n" : Str)]
def C38 : CC := ⟨N38, GL, [("cup" : Str)], EXC, SUB⟩
def d38 : DefT := ⟨"nearest_at", top 61, C38, [("formula" : Str), ("n" : Str)]⟩
def N39 : List Str := [("script" : Str), ("cell" : Str)]
def C39 : CC := ⟨N39, GL, [("cup" : Str)], EXC, SUB⟩
def d39 : DefT := ⟨"_law_cup", top 63, C39, [("script" : Str)]⟩
def N40 : List Str := [("cup" : Str), ("many" : Str), ("found" : Str), ("deep" : Str)]
def C40 : CC := ⟨N40, GL, [("cup" : Str)], EXC, SUB⟩
def d40 : DefT := ⟨"_law_roll", top 64, C40, [("cup" : Str), ("many" : Str)]⟩
def N41 : List Str := [("cup" : Str), ("things" : Str)]
def C41 : CC := ⟨N41, GL, [("cup" : Str)], EXC, SUB⟩
def d41 : DefT := ⟨"_law_some", top 65, C41, [("cup" : Str), ("things" : Str)]⟩
def N42 : List Str := [("test" : Str), ("found" : Str), ("part" : Str)]
def C42 : CC := ⟨N42, GL, [("cup" : Str)], EXC, SUB⟩
def d42 : DefT := ⟨"_law_leaves", top 66, C42, [("test" : Str)]⟩
def N43 : List Str := [("row" : Str), ("point" : Str), (".0" : Str), ("one" : Str), ("other" : Str)]
def C43 : CC := ⟨N43, GL, [("cup" : Str)], EXC, SUB⟩
def d43 : DefT := ⟨"_law_sum", top 67, C43, [("row" : Str), ("point" : Str)]⟩
def N44 : List Str := [("test" : Str), ("point" : Str), ("told" : Str), (".0" : Str), ("part" : Str)]
def C44 : CC := ⟨N44, GL, [("cup" : Str)], EXC, SUB⟩
def d44 : DefT := ⟨"_law_test_at", top 68, C44, [("test" : Str), ("point" : Str)]⟩
def N45 : List Str := [("test" : Str), ("found" : Str), (".0" : Str), ("number" : Str), ("leaf" : Str)]
def C45 : CC := ⟨N45, GL, [("cup" : Str)], EXC, SUB⟩
def d45 : DefT := ⟨"_law_period", top 69, C45, [("test" : Str)]⟩
def N46 : List Str := [("cup" : Str), ("letters" : Str), ("lead" : Str), ("most" : Str), ("divisors" : Str), ("row" : Str), ("number" : Str), (".0" : Str), ("at" : Str)]
def C46 : CC := ⟨N46, GL, [("cup" : Str)], EXC, SUB⟩
def d46 : DefT := ⟨"_law_leaf", top 70, C46, [("cup" : Str), ("letters" : Str), ("lead" : Str), ("most" : Str), ("divisors" : Str)]⟩
def N47 : List Str := [("cup" : Str), ("letters" : Str), ("leaves" : Str), ("lead" : Str), ("most" : Str), ("divisors" : Str), ("leaf" : Str), ("first" : Str), ("parts" : Str), ("joined" : Str)]
def C47 : CC := ⟨N47, GL, [("cup" : Str)], EXC, SUB⟩
def d47 : DefT := ⟨"_law_test", top 71, C47, [("cup" : Str), ("letters" : Str), ("leaves" : Str), ("lead" : Str), ("most" : Str), ("divisors" : Str)]⟩
def N48 : List Str := [("cup" : Str), ("free" : Str), ("told" : Str), ("words" : Str), ("divisors" : Str), ("leaves" : Str), (".0" : Str), ("turn" : Str)]
def C48 : CC := ⟨N48, GL, [("cup" : Str)], EXC, SUB⟩
def d48 : DefT := ⟨"_law_formula", top 72, C48, [("cup" : Str), ("free" : Str), ("told" : Str)]⟩
def N49 : List Str := [("test" : Str), ("n" : Str), ("period" : Str), ("far" : Str), ("found" : Str), ("up" : Str), ("down" : Str), ("nearest" : Str), ("least" : Str), ("greatest" : Str), (".0" : Str), ("leaf" : Str), ("x" : Str)]
def C49 : CC := ⟨N49, GL, [("cup" : Str)], EXC, SUB⟩
def d49 : DefT := ⟨"_law_plain", top 73, C49, [("test" : Str), ("n" : Str)]⟩
def N50 : List Str := [("test" : Str), (".0" : Str), ("part" : Str)]
def C50 : CC := ⟨N50, GL, [("cup" : Str)], EXC, SUB⟩
def d50 : DefT := ⟨"_law_deep", top 74, C50, [("test" : Str)]⟩
def N51 : List Str := [("cup" : Str), ("test" : Str), ("empty" : Str), ("some" : Str), ("found" : Str)]
def C51 : CC := ⟨N51, GL, [("cup" : Str)], EXC, SUB⟩
def d51 : DefT := ⟨"_law_joined", top 75, C51, [("cup" : Str), ("test" : Str)]⟩
def N52 : List Str := [("cup" : Str), ("free" : Str), ("formula" : Str), ("divisors" : Str), ("lead" : Str), ("most" : Str), ("parts" : Str), ("joined" : Str), (".0" : Str), ("turn" : Str), ("leaf" : Str)]
def C52 : CC := ⟨N52, GL, [("cup" : Str)], EXC, SUB⟩
def d52 : DefT := ⟨"_law_any_formula", top 76, C52, [("cup" : Str), ("free" : Str)]⟩
def N53 : List Str := [("script" : Str), ("cup" : Str), ("formula" : Str), ("turn" : Str), ("n" : Str), ("told" : Str)]
def C53 : CC := ⟨N53, GL, [("cup" : Str)], EXC, SUB⟩
def d53 : DefT := ⟨"law", top 77, C53, [("script" : Str)]⟩
def TAB : List DefT := [d0, d1, d2, d3, d4, d5, d6, d7, d8, d9, d10, d11, d12, d13, d14, d15, d16, d17, d18, d19, d20, d21, d22, d23, d24, d25, d26, d27, d28, d29, d30, d31, d32, d33, d34, d35, d36, d37, d38, d39, d40, d41, d42, d43, d44, d45, d46, d47, d48, d49, d50, d51, d52, d53]
/-- is_whole 0 value, 1 low, 2 high -/
def m0 (Φ : Orc) : M Fl := (seqB [(sRet (xBool .And [(xIsi "int" (rdSlot 0)), (xNot (xIsi "bool" (rdSlot 0))), (xCmp2 .LtE .LtE (rdSlot 1) (rdSlot 0) (rdSlot 2))]))])
theorem e0 (Φ : Orc) : evB C0 Φ 40 (defScope (top 11)) 20 (defBody (top 11)) = m0 Φ := by kernel_rfl
/-- is_tuple_of 0 value, 1 low, 2 high -/
def m1 (Φ : Orc) : M Fl := (seqB [(sRet (xBool .And [(xIsi "tuple" (rdSlot 0)), (xCmp2 .LtE .LtE (rdSlot 1) (xBi .len [(rdSlot 0)]) (rdSlot 2))]))])
theorem e1 (Φ : Orc) : evB C1 Φ 40 (defScope (top 12)) 20 (defBody (top 12)) = m1 Φ := by kernel_rfl
/-- fits_row 0 letters, 1 value, 2 .0, 3 one -/
def m2 (Φ : Orc) : M Fl := (seqB [(sRet (xBool .And [(xCall Φ 1 [(rdSlot 1), (rdSlot 0), (rdSlot 0)]), (xBi .all [(xComp [2, 3] (setSlot 3) (ret true) (xCall Φ 0 [(rdSlot 3), (xNeg (ret (.val (.int (1000000000))))), (ret (.val (.int (1000000000))))]) (iOf (rdSlot 1)))])]))])
theorem e2 (Φ : Orc) : evB C2 Φ 40 (defScope (top 13)) 20 (defBody (top 13)) = m2 Φ := by kernel_rfl
/-- fits_leaf 0 letters, 1 value -/
def m3 (Φ : Orc) : M Fl := (seqB [(sIf (bnd (xCmp .Eq (xSub (rdSlot 1) (ret (.val (.int (0))))) (ret (.val (.str "most")))) asBool) (seqB [(sRet (xBool .And [(xCmp .Eq (xBi .len [(rdSlot 1)]) (ret (.val (.int (3))))), (xCall Φ 2 [(rdSlot 0), (xSub (rdSlot 1) (ret (.val (.int (1)))))]), (xCall Φ 0 [(xSub (rdSlot 1) (ret (.val (.int (2))))), (xNeg (ret (.val (.int (1000000000000))))), (ret (.val (.int (1000000000000))))])]))]) (seqB [])),
    (sIf (tBool .Or [(bnd (xCmp .NotEq (xBi .len [(rdSlot 1)]) (ret (.val (.int (4))))) asBool), (tNot (bnd (xCall Φ 0 [(xSub (rdSlot 1) (ret (.val (.int (1))))), (ret (.val (.int (1)))), (ret (.val (.int (1000000))))]) truM))]) (seqB [(sRet (ret (.val (.bl false))))]) (seqB [])),
    (sRet (xBool .And [(xCall Φ 2 [(rdSlot 0), (xSub (rdSlot 1) (ret (.val (.int (2)))))]), (xCall Φ 0 [(xSub (rdSlot 1) (ret (.val (.int (3))))), (xNeg (ret (.val (.int (1000000000000))))), (ret (.val (.int (1000000000000))))])]))])
theorem e3 (Φ : Orc) : evB C3 Φ 40 (defScope (top 14)) 20 (defBody (top 14)) = m3 Φ := by kernel_rfl
/-- parts_of 0 value -/
def m4 (Φ : Orc) : M Fl := (seqB [(sRet (xIf (bnd (xCmp .Eq (xSub (rdSlot 0) (ret (.val (.int (0))))) (ret (.val (.str "not")))) asBool) (xSl (rdSlot 0) (some (ret (.val (.int (1))))) none) (xSub (rdSlot 0) (ret (.val (.int (1)))))))])
theorem e4 (Φ : Orc) : evB C4 Φ 40 (defScope (top 15)) 20 (defBody (top 15)) = m4 Φ := by kernel_rfl
/-- fits_knot 0 value -/
def m5 (Φ : Orc) : M Fl := (seqB [(sIf (bnd (xCmp .Eq (xSub (rdSlot 0) (ret (.val (.int (0))))) (ret (.val (.str "not")))) asBool) (seqB [(sRet (xCmp .Eq (xBi .len [(rdSlot 0)]) (ret (.val (.int (2))))))]) (seqB [])),
    (sRet (xBool .And [(xCmp .In (xSub (rdSlot 0) (ret (.val (.int (0))))) (xTup [(ret (.val (.str "and"))), (ret (.val (.str "or")))])), (xCmp .Eq (xBi .len [(rdSlot 0)]) (ret (.val (.int (2))))), (xCall Φ 1 [(xSub (rdSlot 0) (ret (.val (.int (1))))), (ret (.val (.int (0)))), (ret (.val (.int (4000))))])]))])
theorem e5 (Φ : Orc) : evB C5 Φ 40 (defScope (top 16)) 20 (defBody (top 16)) = m5 Φ := by kernel_rfl
/-- fits_test 0 letters, 1 value, 2 line, 3 many, 4 one, 5 deep, 6 .0, 7 part -/
def m6 (Φ : Orc) : M Fl := (seqB [(sPar 2 3 (xLst [(xTup [(rdSlot 1), (ret (.val (.int (1))))])]) (ret (.val (.int (0))))),
    (whileM WF (bnd (xCmp .NotEq (rdSlot 2) (xLst [])) asBool) (seqB [(sUn (tupAsg [4, 5]) (popM 2)),
    (sSet 3 false (xBin .Add (rdSlot 3) (ret (.val (.int (1)))))),
    (sIf (tBool .Or [(bnd (xCmp .Gt (rdSlot 3) (ret (.val (.int (4000))))) asBool), (bnd (xCmp .Gt (rdSlot 5) (ret (.val (.int (12))))) asBool), (tNot (bnd (xCall Φ 1 [(rdSlot 4), (ret (.val (.int (2)))), (ret (.val (.int (4))))]) truM)), (tNot (bnd (xIsi "str" (xSub (rdSlot 4) (ret (.val (.int (0)))))) truM))]) (seqB [(sRet (ret (.val (.bl false))))]) (seqB [])),
    (sIf (bnd (xCmp .In (xSub (rdSlot 4) (ret (.val (.int (0))))) (xTup [(ret (.val (.str "most"))), (ret (.val (.str "div")))])) asBool) (seqB [(sIf (tNot (bnd (xCall Φ 3 [(rdSlot 0), (rdSlot 4)]) truM)) (seqB [(sRet (ret (.val (.bl false))))]) (seqB []))]) (seqB [(sIf (bnd (xCall Φ 5 [(rdSlot 4)]) truM) (seqB [(sAug .Add 2 (xComp [6, 7] (setSlot 7) (ret true) (xTup [(rdSlot 7), (xBin .Add (rdSlot 5) (ret (.val (.int (1)))))]) (iOf (xCall Φ 4 [(rdSlot 4)]))))]) (seqB [(sRet (ret (.val (.bl false))))]))]))])),
    (sRet (ret (.val (.bl true))))])
theorem e6 (Φ : Orc) : evB C6 Φ 40 (defScope (top 17)) 20 (defBody (top 17)) = m6 Φ := by kernel_rfl
/-- leaves_of 0 test, 1 found, 2 line, 3 one -/
def m7 (Φ : Orc) : M Fl := (seqB [(sPar 1 2 (xLst []) (xLst [(rdSlot 0)])),
    (whileM WF (bnd (xCmp .NotEq (rdSlot 2) (xLst [])) asBool) (seqB [(sSet 3 false (xPopAt 2 (ret (.val (.int (0)))))),
    (sIf (bnd (xCmp .In (xSub (rdSlot 3) (ret (.val (.int (0))))) (xTup [(ret (.val (.str "most"))), (ret (.val (.str "div")))])) asBool) (seqB [(sEx (xApp 1 (rdSlot 3)))]) (seqB [(sSet 2 false (xBin .Add (xBi .list [(xCall Φ 4 [(rdSlot 3)])]) (rdSlot 2)))]))])),
    (sRet (rdSlot 1))])
theorem e7 (Φ : Orc) : evB C7 Φ 40 (defScope (top 18)) 20 (defBody (top 18)) = m7 Φ := by kernel_rfl
/-- sum_at 0 row, 1 point, 2 .0, 3 one, 4 other -/
def m8 (Φ : Orc) : M Fl := (seqB [(sRet (xBi .sum [(xComp [2, 3, 4] (tupAsg [3, 4]) (ret true) (xBin .Mult (rdSlot 3) (rdSlot 4)) (iZip (rdSlot 0) (rdSlot 1)))]))])
theorem e8 (Φ : Orc) : evB C8 Φ 40 (defScope (top 19)) 20 (defBody (top 19)) = m8 Φ := by kernel_rfl
/-- leaf_at 0 leaf, 1 point -/
def m9 (Φ : Orc) : M Fl := (seqB [(sIf (bnd (xCmp .Eq (xSub (rdSlot 0) (ret (.val (.int (0))))) (ret (.val (.str "most")))) asBool) (seqB [(sRet (xCmp .LtE (xCall Φ 8 [(xSub (rdSlot 0) (ret (.val (.int (1))))), (rdSlot 1)]) (xSub (rdSlot 0) (ret (.val (.int (2)))))))]) (seqB [])),
    (sRet (xCmp .Eq (xBin .Mod (xBin .Add (xCall Φ 8 [(xSub (rdSlot 0) (ret (.val (.int (2))))), (rdSlot 1)]) (xSub (rdSlot 0) (ret (.val (.int (3)))))) (xSub (rdSlot 0) (ret (.val (.int (1)))))) (ret (.val (.int (0))))))])
theorem e9 (Φ : Orc) : evB C9 Φ 40 (defScope (top 20)) 20 (defBody (top 20)) = m9 Φ := by kernel_rfl
/-- test_at 0 test, 1 point, 2 .0, 3 part -/
def m10 (Φ : Orc) : M Fl := (seqB [(sIf (bnd (xCmp .In (xSub (rdSlot 0) (ret (.val (.int (0))))) (xTup [(ret (.val (.str "most"))), (ret (.val (.str "div")))])) asBool) (seqB [(sRet (xCall Φ 9 [(rdSlot 0), (rdSlot 1)]))]) (seqB [])),
    (sIf (bnd (xCmp .Eq (xSub (rdSlot 0) (ret (.val (.int (0))))) (ret (.val (.str "not")))) asBool) (seqB [(sRet (xNot (xCall Φ 10 [(xSub (rdSlot 0) (ret (.val (.int (1))))), (rdSlot 1)])))]) (seqB [])),
    (sIf (bnd (xCmp .Eq (xSub (rdSlot 0) (ret (.val (.int (0))))) (ret (.val (.str "and")))) asBool) (seqB [(sRet (xBi .all [(xComp [2, 3] (setSlot 3) (ret true) (xCall Φ 10 [(rdSlot 3), (rdSlot 1)]) (iOf (xSub (rdSlot 0) (ret (.val (.int (1)))))))]))]) (seqB [])),
    (sRet (xBi .any [(xComp [2, 3] (setSlot 3) (ret true) (xCall Φ 10 [(rdSlot 3), (rdSlot 1)]) (iOf (xSub (rdSlot 0) (ret (.val (.int (1)))))))]))])
theorem e10 (Φ : Orc) : evB C10 Φ 40 (defScope (top 21)) 20 (defBody (top 21)) = m10 Φ := by kernel_rfl
/-- common_divisor 0 one, 1 other -/
def m11 (Φ : Orc) : M Fl := (seqB [(whileM WF (bnd (xCmp .NotEq (rdSlot 1) (ret (.val (.int (0))))) asBool) (seqB [(sPar 0 1 (rdSlot 1) (xBin .Mod (rdSlot 0) (rdSlot 1)))])),
    (sRet (xBi .abs [(rdSlot 0)]))])
theorem e11 (Φ : Orc) : evB C11 Φ 40 (defScope (top 31)) 20 (defBody (top 31)) = m11 Φ := by kernel_rfl
/-- common_multiple 0 numbers, 1 found, 2 number -/
def m12 (Φ : Orc) : M Fl := (seqB [(sSet 1 false (ret (.val (.int (1))))),
    (sFor (setSlot 2) (seqB [(sSet 1 false (xBin .FloorDiv (xBin .Mult (rdSlot 1) (rdSlot 2)) (xCall Φ 11 [(rdSlot 1), (rdSlot 2)])))]) (iOf (rdSlot 0))),
    (sRet (rdSlot 1))])
theorem e12 (Φ : Orc) : evB C12 Φ 40 (defScope (top 32)) 20 (defBody (top 32)) = m12 Φ := by kernel_rfl
/-- divisors_in 0 test, 1 .0, 2 leaf -/
def m13 (Φ : Orc) : M Fl := (seqB [(sRet (xComp [1, 2] (setSlot 2) (bnd (xCmp .Eq (xSub (rdSlot 2) (ret (.val (.int (0))))) (ret (.val (.str "div")))) asBool) (xSub (rdSlot 2) (ret (.val (.int (1))))) (iOf (xCall Φ 7 [(rdSlot 0)]))))])
theorem e13 (Φ : Orc) : evB C13 Φ 40 (defScope (top 33)) 20 (defBody (top 33)) = m13 Φ := by kernel_rfl
/-- period_of 0 test -/
def m14 (Φ : Orc) : M Fl := (seqB [(sRet (xCall Φ 12 [(xCall Φ 13 [(rdSlot 0)])]))])
theorem e14 (Φ : Orc) : evB C14 Φ 40 (defScope (top 34)) 20 (defBody (top 34)) = m14 Φ := by kernel_rfl
/-- row_of 0 leaf -/
def m15 (Φ : Orc) : M Fl := (seqB [(sRet (xIf (bnd (xCmp .Eq (xSub (rdSlot 0) (ret (.val (.int (0))))) (ret (.val (.str "most")))) asBool) (xSub (rdSlot 0) (ret (.val (.int (1))))) (xSub (rdSlot 0) (ret (.val (.int (2)))))))])
theorem e15 (Φ : Orc) : evB C15 Φ 40 (defScope (top 35)) 20 (defBody (top 35)) = m15 Φ := by kernel_rfl
/-- is_small_leaf 0 leaf, 1 row, 2 .0, 3 one -/
def m16 (Φ : Orc) : M Fl := (seqB [(sSet 1 false (xCall Φ 15 [(rdSlot 0)])),
    (sIf (tBool .Or [(tNot (bnd (xBi .all [(xComp [2, 3] (setSlot 3) (ret true) (xCmp2 .LtE .LtE (xNeg (ret (.val (.int (3))))) (rdSlot 3) (ret (.val (.int (3))))) (iOf (xSl (rdSlot 1) none (some (ret (.val (.int (1))))))))]) truM)), (tNot (bnd (xBi .all [(xComp [2, 3] (setSlot 3) (ret true) (xCmp2 .LtE .LtE (xNeg (ret (.val (.int (1))))) (rdSlot 3) (ret (.val (.int (1))))) (iOf (xSl (rdSlot 1) (some (ret (.val (.int (1))))) none)))]) truM))]) (seqB [(sRet (ret (.val (.bl false))))]) (seqB [])),
    (sRet (xBool .And [(xCmp2 .LtE .LtE (xNeg (ret (.val (.int (20))))) (xSub (rdSlot 0) (xNeg (ret (.val (.int (1)))))) (ret (.val (.int (20))))), (xBool .Or [(xCmp .Eq (xSub (rdSlot 0) (ret (.val (.int (0))))) (ret (.val (.str "most")))), (xCmp2 .LtE .LtE (ret (.val (.int (2)))) (xSub (rdSlot 0) (ret (.val (.int (1))))) (ret (.val (.int (6)))))])]))])
theorem e16 (Φ : Orc) : evB C16 Φ 40 (defScope (top 36)) 20 (defBody (top 36)) = m16 Φ := by kernel_rfl
/-- height_of 0 test, 1 parts, 2 .0, 3 part -/
def m17 (Φ : Orc) : M Fl := (seqB [(sIf (bnd (xCmp .In (xSub (rdSlot 0) (ret (.val (.int (0))))) (xTup [(ret (.val (.str "most"))), (ret (.val (.str "div")))])) asBool) (seqB [(sRet (ret (.val (.int (1)))))]) (seqB [])),
    (sSet 1 false (xIf (bnd (xCmp .Eq (xSub (rdSlot 0) (ret (.val (.int (0))))) (ret (.val (.str "not")))) asBool) (xSl (rdSlot 0) (some (ret (.val (.int (1))))) none) (xSub (rdSlot 0) (ret (.val (.int (1))))))),
    (sRet (xBin .Add (ret (.val (.int (1)))) (xBi .max [(xBin .Add (xLst [(ret (.val (.int (0))))]) (xComp [2, 3] (setSlot 3) (ret true) (xCall Φ 17 [(rdSlot 3)]) (iOf (rdSlot 1))))])))])
theorem e17 (Φ : Orc) : evB C17 Φ 40 (defScope (top 37)) 20 (defBody (top 37)) = m17 Φ := by kernel_rfl
/-- fits_formula 0 value, 1 letters, 2 leaves, 3 .0, 4 one, 5 leaf -/
def m18 (Φ : Orc) : M Fl := (seqB [(sIf (tBool .Or [(tNot (bnd (xCall Φ 1 [(rdSlot 0), (ret (.val (.int (3)))), (ret (.val (.int (3))))]) truM)), (tNot (bnd (xCall Φ 0 [(xSub (rdSlot 0) (ret (.val (.int (0))))), (ret (.val (.int (0)))), (ret (.val (.int (3))))]) truM)), (tNot (bnd (xCall Φ 1 [(xSub (rdSlot 0) (ret (.val (.int (1))))), (ret (.val (.int (0)))), (ret (.val (.int (2))))]) truM))]) (seqB [(sRet (ret (.val (.bl false))))]) (seqB [])),
    (sSet 1 false (xBin .Add (xSub (rdSlot 0) (ret (.val (.int (0))))) (xBi .len [(xSub (rdSlot 0) (ret (.val (.int (1)))))]))),
    (sIf (tBool .Or [(bnd (xCmp .Gt (rdSlot 1) (ret (.val (.int (3))))) asBool), (tNot (bnd (xBi .all [(xComp [3, 4] (setSlot 4) (ret true) (xBool .And [(xIsi "str" (rdSlot 4)), (xCmp .In (rdSlot 4) (ret (.val (.tup [(.str "some"), (.str "all")]))))]) (iOf (xSub (rdSlot 0) (ret (.val (.int (1)))))))]) truM))]) (seqB [(sRet (ret (.val (.bl false))))]) (seqB [])),
    (sIf (tBool .Or [(tNot (bnd (xCall Φ 6 [(rdSlot 1), (xSub (rdSlot 0) (ret (.val (.int (2)))))]) truM)), (bnd (xCmp .Gt (xCall Φ 17 [(xSub (rdSlot 0) (ret (.val (.int (2)))))]) (ret (.val (.int (6))))) asBool)]) (seqB [(sRet (ret (.val (.bl false))))]) (seqB [])),
    (sSet 2 false (xCall Φ 7 [(xSub (rdSlot 0) (ret (.val (.int (2)))))])),
    (sIf (tBool .Or [(bnd (xCmp .Gt (xBi .len [(rdSlot 2)]) (ret (.val (.int (6))))) asBool), (tNot (bnd (xBi .all [(xComp [3, 5] (setSlot 5) (ret true) (xCall Φ 16 [(rdSlot 5)]) (iOf (rdSlot 2)))]) truM))]) (seqB [(sRet (ret (.val (.bl false))))]) (seqB [])),
    (sRet (xCmp .LtE (xCall Φ 14 [(xSub (rdSlot 0) (ret (.val (.int (2)))))]) (ret (.val (.int (6))))))])
theorem e18 (Φ : Orc) : evB C18 Φ 40 (defScope (top 38)) 20 (defBody (top 38)) = m18 Φ := by kernel_rfl
/-- need_integer 0 value -/
def m19 (Φ : Orc) : M Fl := (seqB [(sIf (tNot (bnd (xCall Φ 0 [(rdSlot 0), (xNeg (ret (.val (.int (1000000000))))), (ret (.val (.int (1000000000))))]) truM)) (seqB [bad]) (seqB []))])
theorem e19 (Φ : Orc) : evB C19 Φ 40 (defScope (top 41)) 20 (defBody (top 41)) = m19 Φ := by kernel_rfl
/-- need_two 0 value -/
def m20 (Φ : Orc) : M Fl := (seqB [(sIf (tBool .Or [(tNot (bnd (xCall Φ 18 [(rdSlot 0)]) truM)), (bnd (xCmp .NotEq (xSub (rdSlot 0) (ret (.val (.int (0))))) (ret (.val (.int (2))))) asBool), (bnd (xCmp .NotEq (xSub (rdSlot 0) (ret (.val (.int (1))))) (xTup [])) asBool)]) (seqB [bad]) (seqB []))])
theorem e20 (Φ : Orc) : evB C20 Φ 40 (defScope (top 43)) 20 (defBody (top 43)) = m20 Φ := by kernel_rfl
/-- need_counted 0 value -/
def m21 (Φ : Orc) : M Fl := (seqB [(sIf (tBool .Or [(tNot (bnd (xCall Φ 18 [(rdSlot 0)]) truM)), (bnd (xCmp .NotIn (xSub (rdSlot 0) (ret (.val (.int (0))))) (xTup [(ret (.val (.int (2)))), (ret (.val (.int (3))))])) asBool), (bnd (xCmp .NotEq (xSub (rdSlot 0) (ret (.val (.int (1))))) (xTup [])) asBool)]) (seqB [bad]) (seqB []))])
theorem e21 (Φ : Orc) : evB C21 Φ 40 (defScope (top 44)) 20 (defBody (top 44)) = m21 Φ := by kernel_rfl
/-- cells_of 0 places, 1 ends, 2 .0, 3 low, 4 high -/
def m22 (Φ : Orc) : M Fl := (seqB [(sSet 1 false (xSset (rdSlot 0))),
    (sIf (bnd (xCmp .Eq (rdSlot 1) (xLst [])) asBool) (seqB [(sRet (xLst [(xTup [(ret (.val .non)), (ret (.val .non))])]))]) (seqB [])),
    (sRet (xBin .Add (xBin .Add (xLst [(xTup [(ret (.val .non)), (xSub (rdSlot 1) (ret (.val (.int (0)))))])]) (xComp [2, 3, 4] (tupAsg [3, 4]) (ret true) (xTup [(rdSlot 3), (rdSlot 4)]) (iZip (rdSlot 1) (xSl (rdSlot 1) (some (ret (.val (.int (1))))) none)))) (xLst [(xTup [(xSub (rdSlot 1) (xNeg (ret (.val (.int (1)))))), (ret (.val .non))])])))])
theorem e22 (Φ : Orc) : evB C22 Φ 40 (defScope (top 45)) 20 (defBody (top 45)) = m22 Φ := by kernel_rfl
/-- first_member 0 low, 1 high, 2 residue, 3 period, 4 found -/
def m23 (Φ : Orc) : M Fl := (seqB [(sIf (bnd (xCmp .IsNot (rdSlot 0) (ret (.val .non))) asBool) (seqB [(sSet 4 false (xBin .Add (xBin .Add (rdSlot 0) (ret (.val (.int (1))))) (xBin .Mod (xBin .Sub (xBin .Sub (rdSlot 2) (rdSlot 0)) (ret (.val (.int (1))))) (rdSlot 3)))),
    (sRet (xIf (tBool .Or [(bnd (xCmp .Is (rdSlot 1) (ret (.val .non))) asBool), (bnd (xCmp .LtE (rdSlot 4) (rdSlot 1)) asBool)]) (rdSlot 4) (ret (.val .non))))]) (seqB [])),
    (sRet (xIf (bnd (xCmp .Is (rdSlot 1) (ret (.val .non))) asBool) (rdSlot 2) (xBin .Sub (rdSlot 1) (xBin .Mod (xBin .Sub (rdSlot 1) (rdSlot 2)) (rdSlot 3)))))])
theorem e23 (Φ : Orc) : evB C23 Φ 40 (defScope (top 46)) 20 (defBody (top 46)) = m23 Φ := by kernel_rfl
/-- last_member 0 low, 1 high, 2 residue, 3 period, 4 found -/
def m24 (Φ : Orc) : M Fl := (seqB [(sIf (bnd (xCmp .IsNot (rdSlot 1) (ret (.val .non))) asBool) (seqB [(sSet 4 false (xBin .Sub (rdSlot 1) (xBin .Mod (xBin .Sub (rdSlot 1) (rdSlot 2)) (rdSlot 3)))),
    (sRet (xIf (tBool .Or [(bnd (xCmp .Is (rdSlot 0) (ret (.val .non))) asBool), (bnd (xCmp .Gt (rdSlot 4) (rdSlot 0)) asBool)]) (rdSlot 4) (ret (.val .non))))]) (seqB [])),
    (sRet (xCall Φ 23 [(rdSlot 0), (rdSlot 1), (rdSlot 2), (rdSlot 3)]))])
theorem e24 (Φ : Orc) : evB C24 Φ 40 (defScope (top 47)) 20 (defBody (top 47)) = m24 Φ := by kernel_rfl
/-- flips_of 0 test, 1 point, 2 found, 3 leaf, 4 row, 5 rest -/
def m25 (Φ : Orc) : M Fl := (seqB [(sSet 2 false (xLst [])),
    (sFor (setSlot 3) (seqB [(sSet 4 false (xCall Φ 15 [(rdSlot 3)])),
    (sIf (tBool .And [(bnd (xCmp .Eq (xSub (rdSlot 3) (ret (.val (.int (0))))) (ret (.val (.str "most")))) asBool), (bnd (xCmp .NotEq (xSub (rdSlot 4) (xBi .len [(rdSlot 1)])) (ret (.val (.int (0))))) asBool)]) (seqB [(sSet 5 false (xBin .Sub (xSub (rdSlot 3) (ret (.val (.int (2))))) (xCall Φ 8 [(rdSlot 4), (rdSlot 1)]))),
    (sEx (xApp 2 (xIf (bnd (xCmp .Gt (xSub (rdSlot 4) (xBi .len [(rdSlot 1)])) (ret (.val (.int (0))))) asBool) (rdSlot 5) (xBin .Sub (xNeg (rdSlot 5)) (ret (.val (.int (1))))))))]) (seqB []))]) (iOf (xCall Φ 7 [(rdSlot 0)]))),
    (sRet (rdSlot 2))])
theorem e25 (Φ : Orc) : evB C25 Φ 40 (defScope (top 48)) 20 (defBody (top 48)) = m25 Φ := by kernel_rfl
/-- true_cells 0 test, 1 point, 2 period, 3 found, 4 low, 5 high, 6 residue, 7 one -/
def m26 (Φ : Orc) : M Fl := (seqB [(sPar 2 3 (xCall Φ 14 [(rdSlot 0)]) (xLst [])),
    (sFor (tupAsg [4, 5]) (seqB [(sFor (setSlot 6) (seqB [(sSet 7 false (xCall Φ 23 [(rdSlot 4), (rdSlot 5), (rdSlot 6), (rdSlot 2)])),
    (sIf (tBool .And [(bnd (xCmp .IsNot (rdSlot 7) (ret (.val .non))) asBool), (bnd (xCall Φ 10 [(rdSlot 0), (xBin .Add (rdSlot 1) (xTup [(rdSlot 7)]))]) truM)]) (seqB [(sEx (xApp 3 (xTup [(rdSlot 4), (rdSlot 5), (rdSlot 6)])))]) (seqB []))]) (iRng1 (rdSlot 2)))]) (iOf (xCall Φ 22 [(xCall Φ 25 [(rdSlot 0), (rdSlot 1)])]))),
    (sRet (rdSlot 3))])
theorem e26 (Φ : Orc) : evB C26 Φ 40 (defScope (top 49)) 20 (defBody (top 49)) = m26 Φ := by kernel_rfl
/-- count_last 0 test, 1 point, 2 period, 3 total, 4 low, 5 high, 6 residue -/
def m27 (Φ : Orc) : M Fl := (seqB [(sPar 2 3 (xCall Φ 14 [(rdSlot 0)]) (ret (.val (.int (0))))),
    (sFor (tupAsg [4, 5, 6]) (seqB [(sIf (tBool .Or [(bnd (xCmp .Is (rdSlot 4) (ret (.val .non))) asBool), (bnd (xCmp .Is (rdSlot 5) (ret (.val .non))) asBool)]) (seqB [(sRet (ret (.val (.str "endless"))))]) (seqB [])),
    (sAug .Add 3 (xBin .Add (xBin .FloorDiv (xBin .Sub (rdSlot 5) (xCall Φ 23 [(rdSlot 4), (rdSlot 5), (rdSlot 6), (rdSlot 2)])) (rdSlot 2)) (ret (.val (.int (1))))))]) (iOf (xCall Φ 26 [(rdSlot 0), (rdSlot 1)]))),
    (sRet (rdSlot 3))])
theorem e27 (Φ : Orc) : evB C27 Φ 40 (defScope (top 50)) 20 (defBody (top 50)) = m27 Φ := by kernel_rfl
/-- least_last 0 test, 1 point, 2 period, 3 found, 4 .0, 5 low, 6 high, 7 residue -/
def m28 (Φ : Orc) : M Fl := (seqB [(sUn (tupAsg [2, 3]) (xTup [(xCall Φ 14 [(rdSlot 0)]), (xCall Φ 26 [(rdSlot 0), (rdSlot 1)])])),
    (sIf (bnd (xBi .any [(xComp [4, 5, 6, 7] (tupAsg [5, 6, 7]) (ret true) (xCmp .Is (rdSlot 5) (ret (.val .non))) (iOf (rdSlot 3)))]) truM) (seqB [(sRet (ret (.val (.str "endless"))))]) (seqB [])),
    (sRet (xMmD true (xComp [4, 5, 6, 7] (tupAsg [5, 6, 7]) (ret true) (xCall Φ 23 [(rdSlot 5), (rdSlot 6), (rdSlot 7), (rdSlot 2)]) (iOf (rdSlot 3)))))])
theorem e28 (Φ : Orc) : evB C28 Φ 40 (defScope (top 51)) 20 (defBody (top 51)) = m28 Φ := by kernel_rfl
/-- greatest_last 0 test, 1 point, 2 period, 3 found, 4 .0, 5 low, 6 high, 7 residue -/
def m29 (Φ : Orc) : M Fl := (seqB [(sUn (tupAsg [2, 3]) (xTup [(xCall Φ 14 [(rdSlot 0)]), (xCall Φ 26 [(rdSlot 0), (rdSlot 1)])])),
    (sIf (bnd (xBi .any [(xComp [4, 5, 6, 7] (tupAsg [5, 6, 7]) (ret true) (xCmp .Is (rdSlot 6) (ret (.val .non))) (iOf (rdSlot 3)))]) truM) (seqB [(sRet (ret (.val (.str "endless"))))]) (seqB [])),
    (sRet (xMmD false (xComp [4, 5, 6, 7] (tupAsg [5, 6, 7]) (ret true) (xCall Φ 24 [(rdSlot 5), (rdSlot 6), (rdSlot 7), (rdSlot 2)]) (iOf (rdSlot 3)))))])
theorem e29 (Φ : Orc) : evB C29 Φ 40 (defScope (top 52)) 20 (defBody (top 52)) = m29 Φ := by kernel_rfl
/-- nearest_last 0 test, 1 point, 2 period, 3 found, 4 low, 5 high, 6 residue, 7 one, 8 size, 9 .0 -/
def m30 (Φ : Orc) : M Fl := (seqB [(sPar 2 3 (xCall Φ 14 [(rdSlot 0)]) (xLst [])),
    (sFor (tupAsg [4, 5, 6]) (seqB [(sIf (tBool .Or [(bnd (xCmp .Is (rdSlot 5) (ret (.val .non))) asBool), (bnd (xCmp .GtE (rdSlot 5) (ret (.val (.int (0))))) asBool)]) (seqB [(sSet 7 false (xCall Φ 23 [(xIf (bnd (xCmp .Is (rdSlot 4) (ret (.val .non))) asBool) (xNeg (ret (.val (.int (1))))) (xBi .max [(rdSlot 4), (xNeg (ret (.val (.int (1)))))])), (rdSlot 5), (rdSlot 6), (rdSlot 2)])),
    (sAug .Add 3 (xIf (bnd (xCmp .IsNot (rdSlot 7) (ret (.val .non))) asBool) (xLst [(rdSlot 7)]) (xLst [])))]) (seqB [])),
    (sIf (tBool .Or [(bnd (xCmp .Is (rdSlot 4) (ret (.val .non))) asBool), (bnd (xCmp .Lt (rdSlot 4) (xNeg (ret (.val (.int (1)))))) asBool)]) (seqB [(sSet 7 false (xCall Φ 24 [(rdSlot 4), (xIf (bnd (xCmp .Is (rdSlot 5) (ret (.val .non))) asBool) (xNeg (ret (.val (.int (1))))) (xBi .min [(rdSlot 5), (xNeg (ret (.val (.int (1)))))])), (rdSlot 6), (rdSlot 2)])),
    (sAug .Add 3 (xIf (bnd (xCmp .IsNot (rdSlot 7) (ret (.val .non))) asBool) (xLst [(rdSlot 7)]) (xLst [])))]) (seqB []))]) (iOf (xCall Φ 26 [(rdSlot 0), (rdSlot 1)]))),
    (sIf (bnd (xCmp .Eq (rdSlot 3) (xLst [])) asBool) (seqB [(sRet (ret (.val .non)))]) (seqB [])),
    (sSet 8 false (xBi .min [(xComp [9, 7] (setSlot 7) (ret true) (xBi .abs [(rdSlot 7)]) (iOf (rdSlot 3)))])),
    (sRet (xIf (bnd (xCmp .In (rdSlot 8) (rdSlot 3)) asBool) (rdSlot 8) (xNeg (rdSlot 8))))])
theorem e30 (Φ : Orc) : evB C30 Φ 40 (defScope (top 53)) 20 (defBody (top 53)) = m30 Φ := by kernel_rfl
/-- breaks_of 0 test, 1 n, 2 found, 3 lines, 4 leaf, 5 row, 6 rest, 7 slope, 8 place, 9 other, 10 more -/
def m31 (Φ : Orc) : M Fl := (seqB [(sPar 2 3 (xLst []) (xLst [])),
    (sFor (setSlot 4) (seqB [(sSet 5 false (xCall Φ 15 [(rdSlot 4)])),
    (sIf (bnd (xCmp .Eq (xSub (rdSlot 4) (ret (.val (.int (0))))) (ret (.val (.str "most")))) asBool) (seqB [(sSet 6 false (xBin .Sub (xSub (rdSlot 4) (ret (.val (.int (2))))) (xBin .Mult (xSub (rdSlot 5) (ret (.val (.int (0))))) (rdSlot 1)))),
    (sIf (bnd (xCmp .NotEq (xSub (rdSlot 5) (ret (.val (.int (2))))) (ret (.val (.int (0))))) asBool) (seqB [(sEx (xApp 3 (xTup [(xBin .Mult (xNeg (xSub (rdSlot 5) (ret (.val (.int (1)))))) (xSub (rdSlot 5) (ret (.val (.int (2)))))), (xIf (bnd (xCmp .Gt (xSub (rdSlot 5) (ret (.val (.int (2))))) (ret (.val (.int (0))))) asBool) (rdSlot 6) (xBin .Sub (xNeg (rdSlot 6)) (ret (.val (.int (1))))))])))]) (seqB [(sIf (bnd (xCmp .NotEq (xSub (rdSlot 5) (ret (.val (.int (1))))) (ret (.val (.int (0))))) asBool) (seqB [(sEx (xApp 2 (xIf (bnd (xCmp .Gt (xSub (rdSlot 5) (ret (.val (.int (1))))) (ret (.val (.int (0))))) asBool) (rdSlot 6) (xBin .Sub (xNeg (rdSlot 6)) (ret (.val (.int (1))))))))]) (seqB []))]))]) (seqB []))]) (iOf (xCall Φ 7 [(rdSlot 0)]))),
    (sFor (tupAsg [7, 8]) (seqB [(sFor (tupAsg [9, 10]) (seqB [(sIf (bnd (xCmp .Gt (rdSlot 7) (rdSlot 9)) asBool) (seqB [(sEx (xApp 2 (xBin .FloorDiv (xBin .Sub (rdSlot 10) (rdSlot 8)) (xBin .Sub (rdSlot 7) (rdSlot 9))))),
    (sEx (xApp 2 (xBin .Sub (xNeg (xBin .FloorDiv (xBin .Sub (rdSlot 8) (rdSlot 10)) (xBin .Sub (rdSlot 7) (rdSlot 9)))) (ret (.val (.int (1)))))))]) (seqB []))]) (iOf (rdSlot 3)))]) (iOf (rdSlot 3))),
    (sRet (rdSlot 2))])
theorem e31 (Φ : Orc) : evB C31 Φ 40 (defScope (top 54)) 20 (defBody (top 54)) = m31 Φ := by kernel_rfl
/-- class_sum 0 test, 1 n, 2 low, 3 high, 4 residue, 5 period, 6 first, 7 last, 8 one, 9 other -/
def m32 (Φ : Orc) : M Fl := (seqB [(sSet 5 false (xCall Φ 14 [(rdSlot 0)])),
    (sPar 6 7 (xCall Φ 23 [(rdSlot 2), (rdSlot 3), (rdSlot 4), (rdSlot 5)]) (xCall Φ 24 [(rdSlot 2), (rdSlot 3), (rdSlot 4), (rdSlot 5)])),
    (sIf (bnd (xCmp .Is (rdSlot 6) (ret (.val .non))) asBool) (seqB [(sRet (ret (.val (.int (0)))))]) (seqB [])),
    (sIf (tBool .Or [(bnd (xCmp .Is (rdSlot 2) (ret (.val .non))) asBool), (bnd (xCmp .Is (rdSlot 3) (ret (.val .non))) asBool)]) (seqB [(sSet 7 false (xIf (bnd (xCmp .Is (rdSlot 2) (ret (.val .non))) asBool) (xBin .Sub (rdSlot 6) (rdSlot 5)) (xBin .Add (rdSlot 6) (rdSlot 5))))]) (seqB [])),
    (sPar 8 9 (xCall Φ 27 [(rdSlot 0), (xTup [(rdSlot 1), (rdSlot 6)])]) (xCall Φ 27 [(rdSlot 0), (xTup [(rdSlot 1), (rdSlot 7)])])),
    (sIf (tBool .Or [(bnd (xCmp .Eq (rdSlot 8) (ret (.val (.str "endless")))) asBool), (bnd (xCmp .Eq (rdSlot 9) (ret (.val (.str "endless")))) asBool)]) (seqB [(sRet (ret (.val (.str "endless"))))]) (seqB [])),
    (sIf (tBool .Or [(bnd (xCmp .Is (rdSlot 2) (ret (.val .non))) asBool), (bnd (xCmp .Is (rdSlot 3) (ret (.val .non))) asBool)]) (seqB [(sRet (xIf (tBool .And [(bnd (xCmp .Eq (rdSlot 8) (ret (.val (.int (0))))) asBool), (bnd (xCmp .Eq (rdSlot 9) (ret (.val (.int (0))))) asBool)]) (ret (.val (.int (0)))) (ret (.val (.str "endless")))))]) (seqB [])),
    (sRet (xBin .FloorDiv (xBin .Mult (xBin .Add (xBin .FloorDiv (xBin .Sub (rdSlot 7) (rdSlot 6)) (rdSlot 5)) (ret (.val (.int (1))))) (xBin .Add (rdSlot 8) (rdSlot 9))) (ret (.val (.int (2))))))])
theorem e32 (Φ : Orc) : evB C32 Φ 40 (defScope (top 55)) 20 (defBody (top 55)) = m32 Φ := by kernel_rfl
/-- count_pairs 0 test, 1 n, 2 total, 3 low, 4 high, 5 residue, 6 more -/
def m33 (Φ : Orc) : M Fl := (seqB [(sSet 2 false (ret (.val (.int (0))))),
    (sFor (tupAsg [3, 4]) (seqB [(sFor (setSlot 5) (seqB [(sSet 6 false (xCall Φ 32 [(rdSlot 0), (rdSlot 1), (rdSlot 3), (rdSlot 4), (rdSlot 5)])),
    (sIf (bnd (xCmp .Eq (rdSlot 6) (ret (.val (.str "endless")))) asBool) (seqB [(sRet (ret (.val (.str "endless"))))]) (seqB [])),
    (sAug .Add 2 (rdSlot 6))]) (iRng1 (xCall Φ 14 [(rdSlot 0)])))]) (iOf (xCall Φ 22 [(xCall Φ 31 [(rdSlot 0), (rdSlot 1)])]))),
    (sRet (rdSlot 2))])
theorem e33 (Φ : Orc) : evB C33 Φ 40 (defScope (top 56)) 20 (defBody (top 56)) = m33 Φ := by kernel_rfl
/-- count_by 0 formula, 1 n -/
def m34 (Φ : Orc) : M Fl := (seqB [(sRet (xIf (bnd (xCmp .Eq (xSub (rdSlot 0) (ret (.val (.int (0))))) (ret (.val (.int (2))))) asBool) (xCall Φ 27 [(xSub (rdSlot 0) (ret (.val (.int (2))))), (xTup [(rdSlot 1)])]) (xCall Φ 33 [(xSub (rdSlot 0) (ret (.val (.int (2))))), (rdSlot 1)])))])
theorem e34 (Φ : Orc) : evB C34 Φ 40 (defScope (top 57)) 20 (defBody (top 57)) = m34 Φ := by kernel_rfl
/-- count_at 0 formula, 1 n -/
def m35 (Φ : Orc) : M Fl := (seqB [(sEx (xCall Φ 21 [(rdSlot 0)])),
    (sEx (xCall Φ 19 [(rdSlot 1)])),
    (sRet (xCall Φ 34 [(rdSlot 0), (rdSlot 1)]))])
theorem e35 (Φ : Orc) : evB C35 Φ 40 (defScope (top 58)) 20 (defBody (top 58)) = m35 Φ := by kernel_rfl
/-- least_at 0 formula, 1 n -/
def m36 (Φ : Orc) : M Fl := (seqB [(sEx (xCall Φ 20 [(rdSlot 0)])),
    (sEx (xCall Φ 19 [(rdSlot 1)])),
    (sRet (xCall Φ 28 [(xSub (rdSlot 0) (ret (.val (.int (2))))), (xTup [(rdSlot 1)])]))])
theorem e36 (Φ : Orc) : evB C36 Φ 40 (defScope (top 59)) 20 (defBody (top 59)) = m36 Φ := by kernel_rfl
/-- greatest_at 0 formula, 1 n -/
def m37 (Φ : Orc) : M Fl := (seqB [(sEx (xCall Φ 20 [(rdSlot 0)])),
    (sEx (xCall Φ 19 [(rdSlot 1)])),
    (sRet (xCall Φ 29 [(xSub (rdSlot 0) (ret (.val (.int (2))))), (xTup [(rdSlot 1)])]))])
theorem e37 (Φ : Orc) : evB C37 Φ 40 (defScope (top 60)) 20 (defBody (top 60)) = m37 Φ := by kernel_rfl
/-- nearest_at 0 formula, 1 n -/
def m38 (Φ : Orc) : M Fl := (seqB [(sEx (xCall Φ 20 [(rdSlot 0)])),
    (sEx (xCall Φ 19 [(rdSlot 1)])),
    (sRet (xCall Φ 30 [(xSub (rdSlot 0) (ret (.val (.int (2))))), (xTup [(rdSlot 1)])]))])
theorem e38 (Φ : Orc) : evB C38 Φ 40 (defScope (top 61)) 20 (defBody (top 61)) = m38 Φ := by kernel_rfl
/-- _law_cup 0 script, 1 cell -/
def m39 (Φ : Orc) : M Fl := (seqB [(sSet 1 false (xBi .abs [(xSub (xBin .Add (xBi .list [(rdSlot 0)]) (xLst [(ret (.val (.int (0))))])) (ret (.val (.int (0)))))])),
    (sRet (xLst [(xIf (bnd (xCmp .GtE (rdSlot 1) (xBin .Pow (ret (.val (.int (10)))) (ret (.val (.int (18)))))) asBool) (xBin .FloorDiv (rdSlot 1) (ret (.val (.int (79))))) (ret (.val (.int (0))))), (xBin .Add (xBin .Mod (xBi .int [(xBin .Add (xBin .Mult (rdSlot 1) (ret (.val (.int (293))))) (ret (.val (.int (2903)))))]) (ret (.val (.int (2077503127))))) (ret (.val (.int (179)))))]))])
theorem e39 (Φ : Orc) : evB C39 Φ 40 (defScope (top 63)) 20 (defBody (top 63)) = m39 Φ := by kernel_rfl
/-- _law_roll 0 cup, 1 many, 2 found, 3 deep -/
def m40 (Φ : Orc) : M Fl := (seqB [(sIf (bnd (xCmp .Gt (xSub (rdSlot 0) (ret (.val (.int (0))))) (ret (.val (.int (0))))) asBool) (seqB [(sSet 2 false (xBin .Mod (xBi .int [(xSub (rdSlot 0) (ret (.val (.int (0)))))]) (rdSlot 1))),
    (sSto 0 (xBin .FloorDiv (xSub (rdSlot 0) (ret (.val (.int (0))))) (rdSlot 1)) (ret (.val (.int (0))))),
    (sRet (rdSlot 2))]) (seqB [])),
    (sSto 0 (xBin .Mod (xBi .int [(xBin .Add (xBin .Mult (xSub (rdSlot 0) (ret (.val (.int (1))))) (ret (.val (.int (31069))))) (ret (.val (.int (8017)))))]) (ret (.val (.int (2147483489))))) (ret (.val (.int (1))))),
    (sSet 3 false (xBin .Mod (xBi .int [(xBin .Mult (xSub (rdSlot 0) (ret (.val (.int (1))))) (xBin .Add (xSub (rdSlot 0) (ret (.val (.int (1))))) (ret (.val (.int (241))))))]) (ret (.val (.int (2147483587)))))),
    (sRet (xBin .Mod (xBi .int [(xBin .FloorDiv (rdSlot 3) (ret (.val (.int (829)))))]) (rdSlot 1)))])
theorem e40 (Φ : Orc) : evB C40 Φ 40 (defScope (top 64)) 20 (defBody (top 64)) = m40 Φ := by kernel_rfl
/-- _law_some 0 cup, 1 things -/
def m41 (Φ : Orc) : M Fl := (seqB [(sRet (xSub (rdSlot 1) (xCall Φ 40 [(rdSlot 0), (xBi .len [(rdSlot 1)])])))])
theorem e41 (Φ : Orc) : evB C41 Φ 40 (defScope (top 65)) 20 (defBody (top 65)) = m41 Φ := by kernel_rfl
/-- _law_leaves 0 test, 1 found, 2 part -/
def m42 (Φ : Orc) : M Fl := (seqB [(sIf (bnd (xCmp .In (xSub (rdSlot 0) (ret (.val (.int (0))))) (xTup [(ret (.val (.str "most"))), (ret (.val (.str "div")))])) asBool) (seqB [(sRet (xLst [(rdSlot 0)]))]) (seqB [])),
    (sSet 1 false (xLst [])),
    (sFor (setSlot 2) (seqB [(sSet 1 false (xBin .Add (rdSlot 1) (xCall Φ 42 [(rdSlot 2)])))]) (iOf (xIf (bnd (xCmp .Eq (xSub (rdSlot 0) (ret (.val (.int (0))))) (ret (.val (.str "not")))) asBool) (xSl (rdSlot 0) (some (ret (.val (.int (1))))) none) (xSub (rdSlot 0) (ret (.val (.int (1)))))))),
    (sRet (rdSlot 1))])
theorem e42 (Φ : Orc) : evB C42 Φ 40 (defScope (top 66)) 20 (defBody (top 66)) = m42 Φ := by kernel_rfl
/-- _law_sum 0 row, 1 point, 2 .0, 3 one, 4 other -/
def m43 (Φ : Orc) : M Fl := (seqB [(sRet (xBi .sum [(xComp [2, 3, 4] (tupAsg [3, 4]) (ret true) (xBin .Mult (rdSlot 3) (rdSlot 4)) (iZip (rdSlot 0) (rdSlot 1)))]))])
theorem e43 (Φ : Orc) : evB C43 Φ 40 (defScope (top 67)) 20 (defBody (top 67)) = m43 Φ := by kernel_rfl
/-- _law_test_at 0 test, 1 point, 2 told, 3 .0, 4 part -/
def m44 (Φ : Orc) : M Fl := (seqB [(sIf (bnd (xCmp .Eq (xSub (rdSlot 0) (ret (.val (.int (0))))) (ret (.val (.str "most")))) asBool) (seqB [(sRet (xCmp .LtE (xCall Φ 43 [(xSub (rdSlot 0) (ret (.val (.int (1))))), (rdSlot 1)]) (xSub (rdSlot 0) (ret (.val (.int (2)))))))]) (seqB [])),
    (sIf (bnd (xCmp .Eq (xSub (rdSlot 0) (ret (.val (.int (0))))) (ret (.val (.str "div")))) asBool) (seqB [(sRet (xCmp .Eq (xBin .Mod (xBi .int [(xBin .Add (xCall Φ 43 [(xSub (rdSlot 0) (ret (.val (.int (2))))), (rdSlot 1)]) (xSub (rdSlot 0) (ret (.val (.int (3))))))]) (xSub (rdSlot 0) (ret (.val (.int (1)))))) (ret (.val (.int (0))))))]) (seqB [])),
    (sIf (bnd (xCmp .Eq (xSub (rdSlot 0) (ret (.val (.int (0))))) (ret (.val (.str "not")))) asBool) (seqB [(sRet (xNot (xCall Φ 44 [(xSub (rdSlot 0) (ret (.val (.int (1))))), (rdSlot 1)])))]) (seqB [])),
    (sSet 2 false (xComp [3, 4] (setSlot 4) (ret true) (xCall Φ 44 [(rdSlot 4), (rdSlot 1)]) (iOf (xSub (rdSlot 0) (ret (.val (.int (1)))))))),
    (sRet (xIf (bnd (xCmp .Eq (xSub (rdSlot 0) (ret (.val (.int (0))))) (ret (.val (.str "and")))) asBool) (xCmp .NotIn (ret (.val (.bl false))) (rdSlot 2)) (xCmp .In (ret (.val (.bl true))) (rdSlot 2))))])
theorem e44 (Φ : Orc) : evB C44 Φ 40 (defScope (top 68)) 20 (defBody (top 68)) = m44 Φ := by kernel_rfl
/-- _law_period 0 test, 1 found, 2 .0, 3 number, 4 leaf -/
def m45 (Φ : Orc) : M Fl := (seqB [(sSet 1 false (xComp [2, 3] (setSlot 3) (bnd (xCmp .Eq (xComp [2, 4] (setSlot 4) (tBool .And [(bnd (xCmp .Eq (xSub (rdSlot 4) (ret (.val (.int (0))))) (ret (.val (.str "div")))) asBool), (bnd (xCmp .NotEq (xBin .Mod (xBi .int [(rdSlot 3)]) (xSub (rdSlot 4) (ret (.val (.int (1)))))) (ret (.val (.int (0))))) asBool)]) (rdSlot 4) (iOf (xCall Φ 42 [(rdSlot 0)]))) (xLst [])) asBool) (rdSlot 3) (iRng2 (ret (.val (.int (1)))) (ret (.val (.int (13))))))),
    (sRet (xSub (rdSlot 1) (ret (.val (.int (0))))))])
theorem e45 (Φ : Orc) : evB C45 Φ 40 (defScope (top 69)) 20 (defBody (top 69)) = m45 Φ := by kernel_rfl
/-- _law_leaf 0 cup, 1 letters, 2 lead, 3 most, 4 divisors, 5 row, 6 number, 7 .0, 8 at -/
def m46 (Φ : Orc) : M Fl := (seqB [(sSet 5 false (xBi .tuple [(xComp [7, 8] (setSlot 8) (ret true) (xIf (bnd (xCmp .Eq (rdSlot 8) (ret (.val (.int (0))))) asBool) (xBin .Sub (xCall Φ 40 [(rdSlot 0), (xBin .Add (xBin .Mult (ret (.val (.int (2)))) (rdSlot 2)) (ret (.val (.int (1)))))]) (rdSlot 2)) (xCall Φ 41 [(rdSlot 0), (xLst [(xNeg (ret (.val (.int (1))))), (ret (.val (.int (0)))), (ret (.val (.int (1)))), (xNeg (ret (.val (.int (1))))), (ret (.val (.int (1))))])])) (iRng1 (rdSlot 1)))])),
    (sSet 6 false (xBin .Sub (xCall Φ 40 [(rdSlot 0), (xBin .Add (xBin .Mult (ret (.val (.int (2)))) (rdSlot 3)) (ret (.val (.int (1)))))]) (rdSlot 3))),
    (sIf (tBool .And [(bnd (xCmp .NotEq (rdSlot 4) (xLst [])) asBool), (bnd (xCmp .Eq (xCall Φ 40 [(rdSlot 0), (ret (.val (.int (3))))]) (ret (.val (.int (0))))) asBool)]) (seqB [(sRet (xTup [(ret (.val (.str "div"))), (xCall Φ 41 [(rdSlot 0), (rdSlot 4)]), (rdSlot 5), (rdSlot 6)]))]) (seqB [])),
    (sRet (xTup [(ret (.val (.str "most"))), (rdSlot 5), (rdSlot 6)]))])
theorem e46 (Φ : Orc) : evB C46 Φ 40 (defScope (top 70)) 20 (defBody (top 70)) = m46 Φ := by kernel_rfl
/-- _law_test 0 cup, 1 letters, 2 leaves, 3 lead, 4 most, 5 divisors, 6 leaf, 7 first, 8 parts, 9 joined -/
def m47 (Φ : Orc) : M Fl := (seqB [(sIf (tBool .Or [(bnd (xCmp .Lt (rdSlot 2) (ret (.val (.int (2))))) asBool), (bnd (xCmp .Eq (xCall Φ 40 [(rdSlot 0), (ret (.val (.int (6))))]) (ret (.val (.int (0))))) asBool)]) (seqB [(sSet 6 false (xCall Φ 46 [(rdSlot 0), (rdSlot 1), (rdSlot 3), (rdSlot 4), (rdSlot 5)])),
    (sRet (xIf (bnd (xCmp .Eq (xCall Φ 40 [(rdSlot 0), (ret (.val (.int (5))))]) (ret (.val (.int (0))))) asBool) (xTup [(ret (.val (.str "not"))), (rdSlot 6)]) (rdSlot 6)))]) (seqB [])),
    (sSet 7 false (xBin .Add (ret (.val (.int (1)))) (xCall Φ 40 [(rdSlot 0), (xBin .Sub (rdSlot 2) (ret (.val (.int (1)))))]))),
    (sSet 8 false (xTup [(xCall Φ 47 [(rdSlot 0), (rdSlot 1), (rdSlot 7), (rdSlot 3), (rdSlot 4), (rdSlot 5)]), (xCall Φ 47 [(rdSlot 0), (rdSlot 1), (xBin .Sub (rdSlot 2) (rdSlot 7)), (rdSlot 3), (rdSlot 4), (rdSlot 5)])])),
    (sSet 9 false (xTup [(xCall Φ 41 [(rdSlot 0), (xLst [(ret (.val (.str "and"))), (ret (.val (.str "and"))), (ret (.val (.str "or")))])]), (rdSlot 8)])),
    (sRet (xIf (tBool .And [(bnd (xCmp .Lt (rdSlot 2) (ret (.val (.int (3))))) asBool), (bnd (xCmp .Eq (xCall Φ 40 [(rdSlot 0), (ret (.val (.int (8))))]) (ret (.val (.int (0))))) asBool)]) (xTup [(ret (.val (.str "not"))), (rdSlot 9)]) (rdSlot 9)))])
theorem e47 (Φ : Orc) : evB C47 Φ 40 (defScope (top 71)) 20 (defBody (top 71)) = m47 Φ := by kernel_rfl
/-- _law_formula 0 cup, 1 free, 2 told, 3 words, 4 divisors, 5 leaves, 6 .0, 7 turn -/
def m48 (Φ : Orc) : M Fl := (seqB [(sSet 3 false (xBi .tuple [(xComp [6, 7] (setSlot 7) (ret true) (xCall Φ 41 [(rdSlot 0), (xLst [(ret (.val (.str "some"))), (ret (.val (.str "all")))])]) (iRng1 (rdSlot 2)))])),
    (sSet 4 false (xIf (bnd (xCmp .Lt (rdSlot 2) (ret (.val (.int (2))))) asBool) (xCall Φ 41 [(rdSlot 0), (xLst [(xLst []), (xLst [(ret (.val (.int (2))))]), (xLst [(ret (.val (.int (3))))]), (xLst [(ret (.val (.int (2)))), (ret (.val (.int (3))))])])]) (xCall Φ 41 [(rdSlot 0), (xLst [(xLst []), (xLst [(ret (.val (.int (2))))]), (xLst [(ret (.val (.int (3))))])])]))),
    (sSet 5 false (xIf (bnd (xCmp .Lt (rdSlot 2) (ret (.val (.int (2))))) asBool) (xBin .Add (ret (.val (.int (2)))) (xCall Φ 40 [(rdSlot 0), (ret (.val (.int (3))))])) (xBin .Add (ret (.val (.int (2)))) (xCall Φ 40 [(rdSlot 0), (ret (.val (.int (2))))])))),
    (sRet (xTup [(rdSlot 1), (rdSlot 3), (xCall Φ 47 [(rdSlot 0), (xBin .Add (rdSlot 1) (rdSlot 2)), (rdSlot 5), (xCall Φ 41 [(rdSlot 0), (xLst [(ret (.val (.int (1)))), (ret (.val (.int (2)))), (ret (.val (.int (3))))])]), (xIf (bnd (xCmp .Gt (rdSlot 2) (ret (.val (.int (1))))) asBool) (ret (.val (.int (3)))) (ret (.val (.int (6))))), (rdSlot 4)])]))])
theorem e48 (Φ : Orc) : evB C48 Φ 40 (defScope (top 72)) 20 (defBody (top 72)) = m48 Φ := by kernel_rfl
/-- _law_plain 0 test, 1 n, 2 period, 3 far, 4 found, 5 up, 6 down, 7 nearest, 8 least, 9 greatest, 10 .0, 11 leaf, 12 x -/
def m49 (Φ : Orc) : M Fl := (seqB [(sSet 2 false (xCall Φ 45 [(rdSlot 0)])),
    (sSet 3 false (xBin .Add (xBin .Add (xBi .max [(xBin .Add (xLst [(ret (.val (.int (0))))]) (xComp [10, 11] (setSlot 11) (bnd (xCmp .Eq (xSub (rdSlot 11) (ret (.val (.int (0))))) (ret (.val (.str "most")))) asBool) (xBi .abs [(xBin .Sub (xSub (rdSlot 11) (ret (.val (.int (2))))) (xCall Φ 43 [(xSub (rdSlot 11) (ret (.val (.int (1))))), (xTup [(rdSlot 1)])]))]) (iOf (xCall Φ 42 [(rdSlot 0)]))))]) (xBin .Mult (ret (.val (.int (2)))) (rdSlot 2))) (ret (.val (.int (3)))))),
    (sSet 4 false (xComp [10, 12] (setSlot 12) (bnd (xCall Φ 44 [(rdSlot 0), (xTup [(rdSlot 1), (rdSlot 12)])]) truM) (rdSlot 12) (iRng2 (xNeg (rdSlot 3)) (xBin .Add (rdSlot 3) (ret (.val (.int (1)))))))),
    (sPar 5 6 (xCmp .NotEq (xComp [10, 12] (setSlot 12) (bnd (xCmp .Gt (rdSlot 12) (xBin .Sub (rdSlot 3) (rdSlot 2))) asBool) (rdSlot 12) (iOf (rdSlot 4))) (xLst [])) (xCmp .NotEq (xComp [10, 12] (setSlot 12) (bnd (xCmp .Lt (rdSlot 12) (xBin .Sub (rdSlot 2) (rdSlot 3))) asBool) (rdSlot 12) (iOf (rdSlot 4))) (xLst []))),
    (sSet 7 false (xIf (bnd (xCmp .NotEq (rdSlot 4) (xLst [])) asBool) (xSub (xSub (xBi .sorted [(xComp [10, 12] (setSlot 12) (ret true) (xTup [(xBi .abs [(rdSlot 12)]), (xNeg (rdSlot 12)), (rdSlot 12)]) (iOf (rdSlot 4)))]) (ret (.val (.int (0))))) (ret (.val (.int (2))))) (ret (.val .non)))),
    (sSet 8 false (xIf (bnd (rdSlot 6) truM) (ret (.val (.str "endless"))) (xIf (bnd (xCmp .NotEq (rdSlot 4) (xLst [])) asBool) (xSub (rdSlot 4) (ret (.val (.int (0))))) (ret (.val .non))))),
    (sSet 9 false (xIf (bnd (rdSlot 5) truM) (ret (.val (.str "endless"))) (xIf (bnd (xCmp .NotEq (rdSlot 4) (xLst [])) asBool) (xSub (rdSlot 4) (xNeg (ret (.val (.int (1)))))) (ret (.val .non))))),
    (sRet (xTup [(xIf (tBool .Or [(bnd (rdSlot 5) truM), (bnd (rdSlot 6) truM)]) (ret (.val (.str "endless"))) (xBi .len [(rdSlot 4)])), (rdSlot 8), (rdSlot 9), (rdSlot 7)]))])
theorem e49 (Φ : Orc) : evB C49 Φ 40 (defScope (top 73)) 20 (defBody (top 73)) = m49 Φ := by kernel_rfl
/-- _law_deep 0 test, 1 .0, 2 part -/
def m50 (Φ : Orc) : M Fl := (seqB [(sIf (bnd (xCmp .In (xSub (rdSlot 0) (ret (.val (.int (0))))) (xTup [(ret (.val (.str "most"))), (ret (.val (.str "div")))])) asBool) (seqB [(sRet (ret (.val (.int (1)))))]) (seqB [])),
    (sRet (xBin .Add (ret (.val (.int (1)))) (xBi .max [(xBin .Add (xLst [(ret (.val (.int (0))))]) (xComp [1, 2] (setSlot 2) (ret true) (xCall Φ 50 [(rdSlot 2)]) (iOf (xIf (bnd (xCmp .Eq (xSub (rdSlot 0) (ret (.val (.int (0))))) (ret (.val (.str "not")))) asBool) (xSl (rdSlot 0) (some (ret (.val (.int (1))))) none) (xSub (rdSlot 0) (ret (.val (.int (1)))))))))])))])
theorem e50 (Φ : Orc) : evB C50 Φ 40 (defScope (top 74)) 20 (defBody (top 74)) = m50 Φ := by kernel_rfl
/-- _law_joined 0 cup, 1 test, 2 empty, 3 some, 4 found -/
def m51 (Φ : Orc) : M Fl := (seqB [(sSet 2 false (xTup [(xCall Φ 41 [(rdSlot 0), (xLst [(ret (.val (.str "and"))), (ret (.val (.str "or")))])]), (xTup [])])),
    (sSet 3 false (xLst [(xTup [(ret (.val (.str "and"))), (xTup [(rdSlot 1)])]), (xTup [(ret (.val (.str "or"))), (xTup [(rdSlot 1)])]), (xTup [(ret (.val (.str "or"))), (xTup [(rdSlot 1), (rdSlot 2)])]), (xTup [(ret (.val (.str "and"))), (xTup [(rdSlot 2), (rdSlot 1), (rdSlot 2)])]), (xTup [(ret (.val (.str "not"))), (rdSlot 1)]), (xTup [(ret (.val (.str "or"))), (xTup [(rdSlot 2), (xTup [(ret (.val (.str "not"))), (rdSlot 1)])])]), (rdSlot 2)])),
    (sSet 4 false (xCall Φ 41 [(rdSlot 0), (xBin .Add (xBin .Mult (xLst [(rdSlot 1)]) (ret (.val (.int (10))))) (rdSlot 3))])),
    (sRet (xIf (bnd (xCmp .Lt (xCall Φ 50 [(rdSlot 4)]) (ret (.val (.int (7))))) asBool) (rdSlot 4) (rdSlot 1)))])
theorem e51 (Φ : Orc) : evB C51 Φ 40 (defScope (top 75)) 20 (defBody (top 75)) = m51 Φ := by kernel_rfl
/-- _law_any_formula 0 cup, 1 free, 2 formula, 3 divisors, 4 lead, 5 most, 6 parts, 7 joined, 8 .0, 9 turn, 10 leaf -/
def m52 (Φ : Orc) : M Fl := (seqB [(sIf (bnd (xCmp .Eq (xCall Φ 40 [(rdSlot 0), (ret (.val (.int (2))))]) (ret (.val (.int (0))))) asBool) (seqB [(sSet 2 false (xCall Φ 48 [(rdSlot 0), (rdSlot 1), (ret (.val (.int (0))))])),
    (sRet (xBin .Add (xSl (rdSlot 2) none (some (ret (.val (.int (2)))))) (xTup [(xCall Φ 51 [(rdSlot 0), (xSub (rdSlot 2) (ret (.val (.int (2)))))])])))]) (seqB [])),
    (sUn (tupAsg [3, 4, 5]) (xTup [(xCall Φ 41 [(rdSlot 0), (xLst [(xLst []), (xLst [(ret (.val (.int (3))))]), (xLst [(ret (.val (.int (4))))]), (xLst [(ret (.val (.int (5))))]), (xLst [(ret (.val (.int (6))))]), (xLst [(ret (.val (.int (2)))), (ret (.val (.int (4))))]), (xLst [(ret (.val (.int (2)))), (ret (.val (.int (3)))), (ret (.val (.int (6))))])])]), (xCall Φ 41 [(rdSlot 0), (xLst [(ret (.val (.int (1)))), (ret (.val (.int (2)))), (ret (.val (.int (3))))])]), (xCall Φ 41 [(rdSlot 0), (xLst [(ret (.val (.int (6)))), (ret (.val (.int (20)))), (ret (.val (.int (20))))])])])),
    (sIf (bnd (xCmp .Eq (xCall Φ 40 [(rdSlot 0), (ret (.val (.int (2))))]) (ret (.val (.int (0))))) asBool) (seqB [(sRet (xTup [(rdSlot 1), (xTup []), (xCall Φ 51 [(rdSlot 0), (xCall Φ 47 [(rdSlot 0), (rdSlot 1), (xBin .Add (ret (.val (.int (2)))) (xCall Φ 40 [(rdSlot 0), (ret (.val (.int (3))))])), (rdSlot 4), (rdSlot 5), (rdSlot 3)])])]))]) (seqB [])),
    (sSet 6 false (xComp [8, 9] (setSlot 9) (ret true) (xCall Φ 46 [(rdSlot 0), (rdSlot 1), (rdSlot 4), (rdSlot 5), (rdSlot 3)]) (iRng1 (xBin .Add (ret (.val (.int (3)))) (xCall Φ 40 [(rdSlot 0), (ret (.val (.int (4))))]))))),
    (sSet 7 false (xTup [(xCall Φ 41 [(rdSlot 0), (xLst [(ret (.val (.str "and"))), (ret (.val (.str "and"))), (ret (.val (.str "or")))])]), (xBi .tuple [(xComp [8, 10] (setSlot 10) (ret true) (xIf (bnd (xCmp .Eq (xCall Φ 40 [(rdSlot 0), (ret (.val (.int (6))))]) (ret (.val (.int (0))))) asBool) (xTup [(ret (.val (.str "not"))), (rdSlot 10)]) (rdSlot 10)) (iOf (rdSlot 6)))])])),
    (sRet (xTup [(rdSlot 1), (xTup []), (xCall Φ 51 [(rdSlot 0), (rdSlot 7)])]))])
theorem e52 (Φ : Orc) : evB C52 Φ 40 (defScope (top 76)) 20 (defBody (top 76)) = m52 Φ := by kernel_rfl
/-- law 0 script, 1 cup, 2 formula, 3 turn, 4 n, 5 told -/
def m53 (Φ : Orc) : M Fl := (seqB [(sSet 1 true (xCall Φ 39 [(rdSlot 0)])),
    (sSet 2 false (xCall Φ 52 [(rdSlot 1), (ret (.val (.int (2))))])),
    (sFor (setSlot 3) (seqB [(sSet 4 false (xBin .Sub (xCall Φ 40 [(rdSlot 1), (ret (.val (.int (19))))]) (ret (.val (.int (9)))))),
    (sSet 5 false (xTup [(xCall Φ 35 [(rdSlot 2), (rdSlot 4)]), (xCall Φ 36 [(rdSlot 2), (rdSlot 4)]), (xCall Φ 37 [(rdSlot 2), (rdSlot 4)]), (xCall Φ 38 [(rdSlot 2), (rdSlot 4)])])),
    (sIf (bnd (xCmp .NotEq (xBi .repr [(rdSlot 5)]) (xBi .repr [(xCall Φ 49 [(xSub (rdSlot 2) (ret (.val (.int (2))))), (rdSlot 4)])])) asBool) (seqB [(sRet (ret (.val (.bl false))))]) (seqB []))]) (iRng1 (ret (.val (.int (5)))))),
    (sRet (ret (.val (.bl true))))])
theorem e53 (Φ : Orc) : evB C53 Φ 40 (defScope (top 77)) 20 (defBody (top 77)) = m53 Φ := by kernel_rfl
def TT : List DefE := TAB.map DefT.e
theorem p0 (k : Nat) (x0 : PV) (x1 : PV) (x2 : PV) (st : List Cell) : evP TT (k + 1) 0 [x0, x1, x2] st = finO (m0 (evP TT k) ⟨[.val x0, .val x1, .val x2], st⟩) := (congrFun (congrFun (run_eq (D := d0.e) rfl (e0 _)) _) _).trans (runD_run rfl)
theorem p1 (k : Nat) (x0 : PV) (x1 : PV) (x2 : PV) (st : List Cell) : evP TT (k + 1) 1 [x0, x1, x2] st = finO (m1 (evP TT k) ⟨[.val x0, .val x1, .val x2], st⟩) := (congrFun (congrFun (run_eq (D := d1.e) rfl (e1 _)) _) _).trans (runD_run rfl)
theorem p2 (k : Nat) (x0 : PV) (x1 : PV) (st : List Cell) : evP TT (k + 1) 2 [x0, x1] st = finO (m2 (evP TT k) ⟨[.val x0, .val x1, .none, .none], st⟩) := (congrFun (congrFun (run_eq (D := d2.e) rfl (e2 _)) _) _).trans (runD_run rfl)
theorem p3 (k : Nat) (x0 : PV) (x1 : PV) (st : List Cell) : evP TT (k + 1) 3 [x0, x1] st = finO (m3 (evP TT k) ⟨[.val x0, .val x1], st⟩) := (congrFun (congrFun (run_eq (D := d3.e) rfl (e3 _)) _) _).trans (runD_run rfl)
theorem p4 (k : Nat) (x0 : PV) (st : List Cell) : evP TT (k + 1) 4 [x0] st = finO (m4 (evP TT k) ⟨[.val x0], st⟩) := (congrFun (congrFun (run_eq (D := d4.e) rfl (e4 _)) _) _).trans (runD_run rfl)
theorem p5 (k : Nat) (x0 : PV) (st : List Cell) : evP TT (k + 1) 5 [x0] st = finO (m5 (evP TT k) ⟨[.val x0], st⟩) := (congrFun (congrFun (run_eq (D := d5.e) rfl (e5 _)) _) _).trans (runD_run rfl)
theorem p6 (k : Nat) (x0 : PV) (x1 : PV) (st : List Cell) : evP TT (k + 1) 6 [x0, x1] st = finO (m6 (evP TT k) ⟨[.val x0, .val x1, .none, .none, .none, .none, .none, .none], st⟩) := (congrFun (congrFun (run_eq (D := d6.e) rfl (e6 _)) _) _).trans (runD_run rfl)
theorem p7 (k : Nat) (x0 : PV) (st : List Cell) : evP TT (k + 1) 7 [x0] st = finO (m7 (evP TT k) ⟨[.val x0, .none, .none, .none], st⟩) := (congrFun (congrFun (run_eq (D := d7.e) rfl (e7 _)) _) _).trans (runD_run rfl)
theorem p8 (k : Nat) (x0 : PV) (x1 : PV) (st : List Cell) : evP TT (k + 1) 8 [x0, x1] st = finO (m8 (evP TT k) ⟨[.val x0, .val x1, .none, .none, .none], st⟩) := (congrFun (congrFun (run_eq (D := d8.e) rfl (e8 _)) _) _).trans (runD_run rfl)
theorem p9 (k : Nat) (x0 : PV) (x1 : PV) (st : List Cell) : evP TT (k + 1) 9 [x0, x1] st = finO (m9 (evP TT k) ⟨[.val x0, .val x1], st⟩) := (congrFun (congrFun (run_eq (D := d9.e) rfl (e9 _)) _) _).trans (runD_run rfl)
theorem p10 (k : Nat) (x0 : PV) (x1 : PV) (st : List Cell) : evP TT (k + 1) 10 [x0, x1] st = finO (m10 (evP TT k) ⟨[.val x0, .val x1, .none, .none], st⟩) := (congrFun (congrFun (run_eq (D := d10.e) rfl (e10 _)) _) _).trans (runD_run rfl)
theorem p11 (k : Nat) (x0 : PV) (x1 : PV) (st : List Cell) : evP TT (k + 1) 11 [x0, x1] st = finO (m11 (evP TT k) ⟨[.val x0, .val x1], st⟩) := (congrFun (congrFun (run_eq (D := d11.e) rfl (e11 _)) _) _).trans (runD_run rfl)
theorem p12 (k : Nat) (x0 : PV) (st : List Cell) : evP TT (k + 1) 12 [x0] st = finO (m12 (evP TT k) ⟨[.val x0, .none, .none], st⟩) := (congrFun (congrFun (run_eq (D := d12.e) rfl (e12 _)) _) _).trans (runD_run rfl)
theorem p13 (k : Nat) (x0 : PV) (st : List Cell) : evP TT (k + 1) 13 [x0] st = finO (m13 (evP TT k) ⟨[.val x0, .none, .none], st⟩) := (congrFun (congrFun (run_eq (D := d13.e) rfl (e13 _)) _) _).trans (runD_run rfl)
theorem p14 (k : Nat) (x0 : PV) (st : List Cell) : evP TT (k + 1) 14 [x0] st = finO (m14 (evP TT k) ⟨[.val x0], st⟩) := (congrFun (congrFun (run_eq (D := d14.e) rfl (e14 _)) _) _).trans (runD_run rfl)
theorem p15 (k : Nat) (x0 : PV) (st : List Cell) : evP TT (k + 1) 15 [x0] st = finO (m15 (evP TT k) ⟨[.val x0], st⟩) := (congrFun (congrFun (run_eq (D := d15.e) rfl (e15 _)) _) _).trans (runD_run rfl)
theorem p16 (k : Nat) (x0 : PV) (st : List Cell) : evP TT (k + 1) 16 [x0] st = finO (m16 (evP TT k) ⟨[.val x0, .none, .none, .none], st⟩) := (congrFun (congrFun (run_eq (D := d16.e) rfl (e16 _)) _) _).trans (runD_run rfl)
theorem p17 (k : Nat) (x0 : PV) (st : List Cell) : evP TT (k + 1) 17 [x0] st = finO (m17 (evP TT k) ⟨[.val x0, .none, .none, .none], st⟩) := (congrFun (congrFun (run_eq (D := d17.e) rfl (e17 _)) _) _).trans (runD_run rfl)
theorem p18 (k : Nat) (x0 : PV) (st : List Cell) : evP TT (k + 1) 18 [x0] st = finO (m18 (evP TT k) ⟨[.val x0, .none, .none, .none, .none, .none], st⟩) := (congrFun (congrFun (run_eq (D := d18.e) rfl (e18 _)) _) _).trans (runD_run rfl)
theorem p19 (k : Nat) (x0 : PV) (st : List Cell) : evP TT (k + 1) 19 [x0] st = finO (m19 (evP TT k) ⟨[.val x0], st⟩) := (congrFun (congrFun (run_eq (D := d19.e) rfl (e19 _)) _) _).trans (runD_run rfl)
theorem p20 (k : Nat) (x0 : PV) (st : List Cell) : evP TT (k + 1) 20 [x0] st = finO (m20 (evP TT k) ⟨[.val x0], st⟩) := (congrFun (congrFun (run_eq (D := d20.e) rfl (e20 _)) _) _).trans (runD_run rfl)
theorem p21 (k : Nat) (x0 : PV) (st : List Cell) : evP TT (k + 1) 21 [x0] st = finO (m21 (evP TT k) ⟨[.val x0], st⟩) := (congrFun (congrFun (run_eq (D := d21.e) rfl (e21 _)) _) _).trans (runD_run rfl)
theorem p22 (k : Nat) (x0 : PV) (st : List Cell) : evP TT (k + 1) 22 [x0] st = finO (m22 (evP TT k) ⟨[.val x0, .none, .none, .none, .none], st⟩) := (congrFun (congrFun (run_eq (D := d22.e) rfl (e22 _)) _) _).trans (runD_run rfl)
theorem p23 (k : Nat) (x0 : PV) (x1 : PV) (x2 : PV) (x3 : PV) (st : List Cell) : evP TT (k + 1) 23 [x0, x1, x2, x3] st = finO (m23 (evP TT k) ⟨[.val x0, .val x1, .val x2, .val x3, .none], st⟩) := (congrFun (congrFun (run_eq (D := d23.e) rfl (e23 _)) _) _).trans (runD_run rfl)
theorem p24 (k : Nat) (x0 : PV) (x1 : PV) (x2 : PV) (x3 : PV) (st : List Cell) : evP TT (k + 1) 24 [x0, x1, x2, x3] st = finO (m24 (evP TT k) ⟨[.val x0, .val x1, .val x2, .val x3, .none], st⟩) := (congrFun (congrFun (run_eq (D := d24.e) rfl (e24 _)) _) _).trans (runD_run rfl)
theorem p25 (k : Nat) (x0 : PV) (x1 : PV) (st : List Cell) : evP TT (k + 1) 25 [x0, x1] st = finO (m25 (evP TT k) ⟨[.val x0, .val x1, .none, .none, .none, .none], st⟩) := (congrFun (congrFun (run_eq (D := d25.e) rfl (e25 _)) _) _).trans (runD_run rfl)
theorem p26 (k : Nat) (x0 : PV) (x1 : PV) (st : List Cell) : evP TT (k + 1) 26 [x0, x1] st = finO (m26 (evP TT k) ⟨[.val x0, .val x1, .none, .none, .none, .none, .none, .none], st⟩) := (congrFun (congrFun (run_eq (D := d26.e) rfl (e26 _)) _) _).trans (runD_run rfl)
theorem p27 (k : Nat) (x0 : PV) (x1 : PV) (st : List Cell) : evP TT (k + 1) 27 [x0, x1] st = finO (m27 (evP TT k) ⟨[.val x0, .val x1, .none, .none, .none, .none, .none], st⟩) := (congrFun (congrFun (run_eq (D := d27.e) rfl (e27 _)) _) _).trans (runD_run rfl)
theorem p28 (k : Nat) (x0 : PV) (x1 : PV) (st : List Cell) : evP TT (k + 1) 28 [x0, x1] st = finO (m28 (evP TT k) ⟨[.val x0, .val x1, .none, .none, .none, .none, .none, .none], st⟩) := (congrFun (congrFun (run_eq (D := d28.e) rfl (e28 _)) _) _).trans (runD_run rfl)
theorem p29 (k : Nat) (x0 : PV) (x1 : PV) (st : List Cell) : evP TT (k + 1) 29 [x0, x1] st = finO (m29 (evP TT k) ⟨[.val x0, .val x1, .none, .none, .none, .none, .none, .none], st⟩) := (congrFun (congrFun (run_eq (D := d29.e) rfl (e29 _)) _) _).trans (runD_run rfl)
theorem p30 (k : Nat) (x0 : PV) (x1 : PV) (st : List Cell) : evP TT (k + 1) 30 [x0, x1] st = finO (m30 (evP TT k) ⟨[.val x0, .val x1, .none, .none, .none, .none, .none, .none, .none, .none], st⟩) := (congrFun (congrFun (run_eq (D := d30.e) rfl (e30 _)) _) _).trans (runD_run rfl)
theorem p31 (k : Nat) (x0 : PV) (x1 : PV) (st : List Cell) : evP TT (k + 1) 31 [x0, x1] st = finO (m31 (evP TT k) ⟨[.val x0, .val x1, .none, .none, .none, .none, .none, .none, .none, .none, .none], st⟩) := (congrFun (congrFun (run_eq (D := d31.e) rfl (e31 _)) _) _).trans (runD_run rfl)
theorem p32 (k : Nat) (x0 : PV) (x1 : PV) (x2 : PV) (x3 : PV) (x4 : PV) (st : List Cell) : evP TT (k + 1) 32 [x0, x1, x2, x3, x4] st = finO (m32 (evP TT k) ⟨[.val x0, .val x1, .val x2, .val x3, .val x4, .none, .none, .none, .none, .none], st⟩) := (congrFun (congrFun (run_eq (D := d32.e) rfl (e32 _)) _) _).trans (runD_run rfl)
theorem p33 (k : Nat) (x0 : PV) (x1 : PV) (st : List Cell) : evP TT (k + 1) 33 [x0, x1] st = finO (m33 (evP TT k) ⟨[.val x0, .val x1, .none, .none, .none, .none, .none], st⟩) := (congrFun (congrFun (run_eq (D := d33.e) rfl (e33 _)) _) _).trans (runD_run rfl)
theorem p34 (k : Nat) (x0 : PV) (x1 : PV) (st : List Cell) : evP TT (k + 1) 34 [x0, x1] st = finO (m34 (evP TT k) ⟨[.val x0, .val x1], st⟩) := (congrFun (congrFun (run_eq (D := d34.e) rfl (e34 _)) _) _).trans (runD_run rfl)
theorem p35 (k : Nat) (x0 : PV) (x1 : PV) (st : List Cell) : evP TT (k + 1) 35 [x0, x1] st = finO (m35 (evP TT k) ⟨[.val x0, .val x1], st⟩) := (congrFun (congrFun (run_eq (D := d35.e) rfl (e35 _)) _) _).trans (runD_run rfl)
theorem p36 (k : Nat) (x0 : PV) (x1 : PV) (st : List Cell) : evP TT (k + 1) 36 [x0, x1] st = finO (m36 (evP TT k) ⟨[.val x0, .val x1], st⟩) := (congrFun (congrFun (run_eq (D := d36.e) rfl (e36 _)) _) _).trans (runD_run rfl)
theorem p37 (k : Nat) (x0 : PV) (x1 : PV) (st : List Cell) : evP TT (k + 1) 37 [x0, x1] st = finO (m37 (evP TT k) ⟨[.val x0, .val x1], st⟩) := (congrFun (congrFun (run_eq (D := d37.e) rfl (e37 _)) _) _).trans (runD_run rfl)
theorem p38 (k : Nat) (x0 : PV) (x1 : PV) (st : List Cell) : evP TT (k + 1) 38 [x0, x1] st = finO (m38 (evP TT k) ⟨[.val x0, .val x1], st⟩) := (congrFun (congrFun (run_eq (D := d38.e) rfl (e38 _)) _) _).trans (runD_run rfl)
theorem p39 (k : Nat) (x0 : PV) (st : List Cell) : evP TT (k + 1) 39 [x0] st = finO (m39 (evP TT k) ⟨[.val x0, .none], st⟩) := (congrFun (congrFun (run_eq (D := d39.e) rfl (e39 _)) _) _).trans (runD_run rfl)
theorem p40 (k : Nat) (x0 : PV) (x1 : PV) (st : List Cell) : evP TT (k + 1) 40 [x0, x1] st = finO (m40 (evP TT k) ⟨[.val x0, .val x1, .none, .none], st⟩) := (congrFun (congrFun (run_eq (D := d40.e) rfl (e40 _)) _) _).trans (runD_run rfl)
theorem p41 (k : Nat) (x0 : PV) (x1 : PV) (st : List Cell) : evP TT (k + 1) 41 [x0, x1] st = finO (m41 (evP TT k) ⟨[.val x0, .val x1], st⟩) := (congrFun (congrFun (run_eq (D := d41.e) rfl (e41 _)) _) _).trans (runD_run rfl)
theorem p42 (k : Nat) (x0 : PV) (st : List Cell) : evP TT (k + 1) 42 [x0] st = finO (m42 (evP TT k) ⟨[.val x0, .none, .none], st⟩) := (congrFun (congrFun (run_eq (D := d42.e) rfl (e42 _)) _) _).trans (runD_run rfl)
theorem p43 (k : Nat) (x0 : PV) (x1 : PV) (st : List Cell) : evP TT (k + 1) 43 [x0, x1] st = finO (m43 (evP TT k) ⟨[.val x0, .val x1, .none, .none, .none], st⟩) := (congrFun (congrFun (run_eq (D := d43.e) rfl (e43 _)) _) _).trans (runD_run rfl)
theorem p44 (k : Nat) (x0 : PV) (x1 : PV) (st : List Cell) : evP TT (k + 1) 44 [x0, x1] st = finO (m44 (evP TT k) ⟨[.val x0, .val x1, .none, .none, .none], st⟩) := (congrFun (congrFun (run_eq (D := d44.e) rfl (e44 _)) _) _).trans (runD_run rfl)
theorem p45 (k : Nat) (x0 : PV) (st : List Cell) : evP TT (k + 1) 45 [x0] st = finO (m45 (evP TT k) ⟨[.val x0, .none, .none, .none, .none], st⟩) := (congrFun (congrFun (run_eq (D := d45.e) rfl (e45 _)) _) _).trans (runD_run rfl)
theorem p46 (k : Nat) (x0 : PV) (x1 : PV) (x2 : PV) (x3 : PV) (x4 : PV) (st : List Cell) : evP TT (k + 1) 46 [x0, x1, x2, x3, x4] st = finO (m46 (evP TT k) ⟨[.val x0, .val x1, .val x2, .val x3, .val x4, .none, .none, .none, .none], st⟩) := (congrFun (congrFun (run_eq (D := d46.e) rfl (e46 _)) _) _).trans (runD_run rfl)
theorem p47 (k : Nat) (x0 : PV) (x1 : PV) (x2 : PV) (x3 : PV) (x4 : PV) (x5 : PV) (st : List Cell) : evP TT (k + 1) 47 [x0, x1, x2, x3, x4, x5] st = finO (m47 (evP TT k) ⟨[.val x0, .val x1, .val x2, .val x3, .val x4, .val x5, .none, .none, .none, .none], st⟩) := (congrFun (congrFun (run_eq (D := d47.e) rfl (e47 _)) _) _).trans (runD_run rfl)
theorem p48 (k : Nat) (x0 : PV) (x1 : PV) (x2 : PV) (st : List Cell) : evP TT (k + 1) 48 [x0, x1, x2] st = finO (m48 (evP TT k) ⟨[.val x0, .val x1, .val x2, .none, .none, .none, .none, .none], st⟩) := (congrFun (congrFun (run_eq (D := d48.e) rfl (e48 _)) _) _).trans (runD_run rfl)
theorem p49 (k : Nat) (x0 : PV) (x1 : PV) (st : List Cell) : evP TT (k + 1) 49 [x0, x1] st = finO (m49 (evP TT k) ⟨[.val x0, .val x1, .none, .none, .none, .none, .none, .none, .none, .none, .none, .none, .none], st⟩) := (congrFun (congrFun (run_eq (D := d49.e) rfl (e49 _)) _) _).trans (runD_run rfl)
theorem p50 (k : Nat) (x0 : PV) (st : List Cell) : evP TT (k + 1) 50 [x0] st = finO (m50 (evP TT k) ⟨[.val x0, .none, .none], st⟩) := (congrFun (congrFun (run_eq (D := d50.e) rfl (e50 _)) _) _).trans (runD_run rfl)
theorem p51 (k : Nat) (x0 : PV) (x1 : PV) (st : List Cell) : evP TT (k + 1) 51 [x0, x1] st = finO (m51 (evP TT k) ⟨[.val x0, .val x1, .none, .none, .none], st⟩) := (congrFun (congrFun (run_eq (D := d51.e) rfl (e51 _)) _) _).trans (runD_run rfl)
theorem p52 (k : Nat) (x0 : PV) (x1 : PV) (st : List Cell) : evP TT (k + 1) 52 [x0, x1] st = finO (m52 (evP TT k) ⟨[.val x0, .val x1, .none, .none, .none, .none, .none, .none, .none, .none, .none], st⟩) := (congrFun (congrFun (run_eq (D := d52.e) rfl (e52 _)) _) _).trans (runD_run rfl)
theorem p53 (k : Nat) (x0 : PV) (st : List Cell) : evP TT (k + 1) 53 [x0] st = finO (m53 (evP TT k) ⟨[.val x0, .none, .none, .none, .none, .none], st⟩) := (congrFun (congrFun (run_eq (D := d53.e) rfl (e53 _)) _) _).trans (runD_run rfl)end Ev

set_option linter.all false
set_option maxRecDepth 100000
set_option maxHeartbeats 1000000
namespace Ev
open PySem PySem.Spec L2
abbrev PL (ps : List Int) : PV := .tup (ps.map .int)
/-! ### the cup -/
def Cups (st : List Cell) : Prop := ∃ a b : Int, st = [.lst [.int a, .int b]] ∧ 0 ≤ a ∧ 0 ≤ b ∧ b < 4294967296
theorem froll (k : Nat) (m : Int) (hm : 0 < m) (hm' : m < 18446744073709551616) (st : List Cell) (hc : Cups st) : ∃ (r : Int) (st' : List Cell), evP TT (k + 1) 40 [.box 0, .int m] st = .ok (.val (.int r)) st' ∧ 0 ≤ r ∧ r < m ∧ Cups st' := by
  obtain ⟨a, b, rfl, ha, hb, hb'⟩ := hc
  have hm0 : m ≠ 0 := by omega
  have hm1 : 0 ≤ m := by omega
  by_cases h : 0 < a
  · refine ⟨a % m, [.lst [.int (a / m), .int b]], ?_, Int.emod_nonneg _ hm0, Int.emod_lt_of_pos _ hm, a / m, b, rfl, Int.ediv_nonneg ha hm1, hb, hb'⟩
    rw [p40]; unfold m40
    simp [h, hm0, hm1, hm, hm']
  · refine ⟨((((b * 31069 + 8017) % 2147483489) * (((b * 31069 + 8017) % 2147483489) + 241) % 2147483587) / 829) % m, [.lst [.int a, .int ((b * 31069 + 8017) % 2147483489)]], ?_, Int.emod_nonneg _ hm0, Int.emod_lt_of_pos _ hm, a, _, rfl, ha, by omega, by omega⟩
    have q1 : -18446744073709551616 < (b * 31069 + 8017) % 2147483489 := by omega
    have q2 : (b * 31069 + 8017) % 2147483489 < 18446744073709551616 := by omega
    rw [p40]; unfold m40
    simp [h, hm0, hm1, hm, hm', q1, q2]
theorem fcup (k : Nat) (ns : List Int) (st : List Cell) (hl : ns.length ≤ 63) : ∃ a b : Int, evP TT (k + 1) 39 [.scr ns] st = .ok (.fresh (.lst [.int a, .int b])) st ∧ 0 ≤ a ∧ 0 ≤ b ∧ b < 4294967296 := by
  obtain ⟨c, r, e⟩ : ∃ c r, ns.map PV.int ++ [PV.int 0] = PV.int c :: r := by
    cases ns with
    | nil => exact ⟨0, [], rfl⟩
    | cons c r => exact ⟨c, _, rfl⟩
  have hz : ns.length + 1 ≤ 16777216 := by omega
  have h0 : 0 ≤ (if c < 0 then -c else c) := by split <;> omega
  by_cases h : 1000000000000000000 ≤ (if c < 0 then -c else c)
  · refine ⟨(if c < 0 then -c else c) / 79, ((if c < 0 then -c else c) * 293 + 2903) % 2077503127 + 179, ?_, by omega, by omega, by omega⟩
    rw [p39]; unfold m39
    simp [hz, e, h]
  · refine ⟨0, ((if c < 0 then -c else c) * 293 + 2903) % 2077503127 + 179, ?_, by omega, by omega, by omega⟩
    rw [p39]; unfold m39
    simp [hz, e, h]
theorem fsome (k : Nat) (xs : List PV) (hx : 0 < xs.length) (hx' : xs.length ≤ 1000) (st : List Cell) (hc : Cups st) : ∃ (v : PV) (st' : List Cell), evP TT (k + 2) 41 [.box 0, .lst xs] st = .ok (.val v) st' ∧ v ∈ xs ∧ Cups st' := by
  obtain ⟨r, st', e, r0, r1, c'⟩ := froll k xs.length (by omega) (by omega) st hc
  have hr : r.toNat < xs.length := by omega
  have ea : L2.atI xs r = some xs[r.toNat] := by
    have q := L2.atI_nat (xs := xs) (j := r.toNat) (v := xs[r.toNat]) (List.getElem?_eq_getElem hr)
    rwa [Int.toNat_of_nonneg r0] at q
  refine ⟨xs[r.toNat], st', ?_, List.getElem_mem hr, c'⟩
  rw [p41]; unfold m41
  simp [e, ea]
/-! ### tests -/
inductive Tst where
  | most (row : List Int) (n : Int) | div (d : Int) (row : List Int) (n : Int) | not (t : Tst) | knot (a : Bool) (ts : List Tst)
mutual
def tv : Tst → PV
  | .most r n => .tup [.str "most", PL r, .int n]
  | .div d r n => .tup [.str "div", .int d, PL r, .int n]
  | .not t => .tup [.str "not", tv t]
  | .knot a ts => .tup [.str (if a then "and" else "or"), .tup (tvs ts)]
def tvs : List Tst → List PV
  | [] => []
  | t :: ts => tv t :: tvs ts
end
def dot : List Int → List Int → Int
  | x :: xs, y :: ys => x * y + dot xs ys
  | _, _ => 0
mutual
def tat (p : List Int) : Tst → Bool
  | .most r n => decide (dot r p ≤ n)
  | .div d r n => decide ((dot r p + n) % d = 0)
  | .not t => !tat p t
  | .knot a ts => if a then allat p ts else anyat p ts
def allat (p : List Int) : List Tst → Bool
  | [] => true
  | t :: ts => tat p t && allat p ts
def anyat (p : List Int) : List Tst → Bool
  | [] => false
  | t :: ts => tat p t || anyat p ts
end
def addr (xs : List Int) (a : Int) (ys : List Int) : List Int := List.zipWith (fun x y => x + a * y) xs ys
mutual
def ws (row : List Int) (c : Int) : Tst → Tst
  | .most r n => .most (addr r.dropLast (r.getLast?.getD 0) row) (n - r.getLast?.getD 0 * c)
  | .div d r n => .div d (addr r.dropLast (r.getLast?.getD 0) row) (n + r.getLast?.getD 0 * c)
  | .not t => .not (ws row c t)
  | .knot a ts => .knot a (wss row c ts)
def wss (row : List Int) (c : Int) : List Tst → List Tst
  | [] => []
  | t :: ts => ws row c t :: wss row c ts
end
theorem f0 (k : Nat) (v lo hi : Int) (st : List Cell) : evP TT (k + 1) 0 [.int v, .int lo, .int hi] st = .ok (.val (.bl (decide (lo ≤ v) && decide (v ≤ hi)))) st := by
  rw [p0]; unfold m0
  by_cases h : lo ≤ v <;> simp [h]
theorem f1 (k : Nat) (xs : List PV) (lo hi : Int) (st : List Cell) : evP TT (k + 1) 1 [.tup xs, .int lo, .int hi] st = .ok (.val (.bl (decide (lo ≤ (xs.length : Int)) && decide ((xs.length : Int) ≤ hi)))) st := by
  rw [p1]; unfold m1
  by_cases h : lo ≤ (xs.length : Int) <;> simp [h]
end Ev

set_option linter.all false
set_option maxRecDepth 100000
set_option maxHeartbeats 1000000
namespace Ev
open PySem PySem.Spec L2
def B64 (r : List Int) : Prop := ∀ x ∈ r, -18446744073709551616 < x ∧ x < 18446744073709551616
def prodV : PV → PV
  | .tup [.int a, .int b] => .int (a * b)
  | _ => .non
def sumV (a : Int) : PV → PV
  | .tup [.int x, .int y] => .int (x + a * y)
  | _ => .non
theorem zip_mem : ∀ (r p : List Int) (v : PV), v ∈ zipP (r.map .int) (p.map .int) → ∃ x y, x ∈ r ∧ y ∈ p ∧ v = .tup [.int x, .int y]
  | [], p, v, h => by simp at h
  | x :: r, [], v, h => by simp [zipP] at h
  | x :: r, y :: p, v, h => by
    simp only [List.map_cons, zipP_cons, List.mem_cons] at h
    rcases h with rfl | h
    · exact ⟨x, y, by simp, by simp, rfl⟩
    · obtain ⟨a, b, h1, h2, h3⟩ := zip_mem r p v h
      exact ⟨a, b, by simp [h1], by simp [h2], h3⟩
theorem zip_dot : ∀ (r p : List Int), ∃ q : List Int, (zipP (r.map .int) (p.map .int)).map prodV = q.map PV.int ∧ q.sum = dot r p ∧ q.length ≤ r.length
  | [], p => ⟨[], by simp, by simp [dot], by simp⟩
  | x :: r, [] => ⟨[], by simp [zipP], by simp [dot], by simp⟩
  | x :: r, y :: p => by
    obtain ⟨q, h1, h2, h3⟩ := zip_dot r p
    exact ⟨x * y :: q, by simp [prodV, h1], by simp [dot, h2], by simp; exact h3⟩
theorem zip_add (a : Int) : ∀ (r p : List Int), (zipP (r.map .int) (p.map .int)).map (sumV a) = (addr r a p).map PV.int
  | [], p => by simp [addr]
  | x :: r, [] => by simp [addr, zipP]
  | x :: r, y :: p => by
    have := zip_add a r p
    simp only [addr] at this
    simp [sumV, addr, this]
theorem intsOf_map : ∀ q : List Int, intsOf (q.map .int) = some q
  | [] => rfl
  | x :: q => by rw [List.map_cons, intsOf_cons, intsOf_map q]; rfl
theorem dot_comp (r p : List Int) (hr : B64 r) (st : List Cell) : ∃ a b c, compGo [2, 3, 4] (tupAsg [3, 4]) (ret true) (xBin .Mult (rdSlot 3) (rdSlot 4)) true (zipP (r.map .int) (p.map .int)) ⟨[.val (PL r), .val (PL p), .none, .none, .none], st⟩ = .ok ((zipP (r.map .int) (p.map .int)).map prodV) ⟨[.val (PL r), .val (PL p), a, b, c], st⟩ := by
  obtain ⟨s', c1, c2, a, b, c, c3⟩ := compGo_map (own := [2, 3, 4]) (tgt := tupAsg [3, 4]) (tst := ret true) (elt := xBin .Mult (rdSlot 3) (rdSlot 4))
    (I := fun s => s.st = st ∧ ∃ a b c, s.env = [.val (PL r), .val (PL p), a, b, c]) (g := prodV) (zipP (r.map .int) (p.map .int)) (fun v hv s ⟨h1, a, b, c, h2⟩ => by
      obtain ⟨x, y, hx, hy, rfl⟩ := zip_mem r p v hv
      obtain ⟨env, st'⟩ := s
      cases h1; cases h2
      have hm := mulOk_l (i := x) (j := y) (hr x hx).1 (hr x hx).2
      generalize PL r = R
      generalize PL p = P
      refine ⟨⟨[.val R, .val P, .none, .val (.int x), .val (.int y)], st'⟩, ?_, rfl, _, _, _, rfl⟩
      simp [hm, prodV]) ⟨[.val (PL r), .val (PL p), .none, .none, .none], st⟩ ⟨rfl, _, _, _, rfl⟩
  obtain ⟨env, st'⟩ := s'
  cases c2; cases c3
  exact ⟨a, b, c, c1⟩
theorem dot_run {R P : PV} {rs ps : List PV} {q : List Int} {zs : List PV} {a b c : Sl} {st : List Cell} (hR : R = .tup rs) (hP : P = .tup ps) (h1 : compGo [2, 3, 4] (tupAsg [3, 4]) (ret true) (xBin .Mult (rdSlot 3) (rdSlot 4)) true (zipP rs ps) ⟨[.val R, .val P, .none, .none, .none], st⟩ = .ok zs ⟨[.val R, .val P, a, b, c], st⟩) (h2 : intsOf zs = some q) (hl : zs.length ≤ 16777216) :
    finO (seqB [(sRet (xBi .sum [(xComp [2, 3, 4] (tupAsg [3, 4]) (ret true) (xBin .Mult (rdSlot 3) (rdSlot 4)) (iZip (rdSlot 0) (rdSlot 1)))]))] ⟨[.val R, .val P, .none, .none, .none], st⟩) = .ok (.val (.int q.sum)) st := by
  subst hR hP
  simp [h1, h2, hl]
theorem f8 (k : Nat) (r p : List Int) (hr : B64 r) (hl : r.length ≤ 1000) (st : List Cell) : evP TT (k + 1) 8 [PL r, PL p] st = .ok (.val (.int (dot r p))) st := by
  rw [p8]; unfold m8
  obtain ⟨q, h1, h2, h3⟩ := zip_dot r p
  obtain ⟨a, b, c, e⟩ := dot_comp r p hr st
  rw [h1] at e
  rw [← h2]
  exact dot_run rfl rfl e (intsOf_map q) (by simp; omega)
theorem f43 (k : Nat) (r p : List Int) (hr : B64 r) (hl : r.length ≤ 1000) (st : List Cell) : evP TT (k + 1) 43 [PL r, PL p] st = .ok (.val (.int (dot r p))) st := by
  rw [p43]; unfold m43
  obtain ⟨q, h1, h2, h3⟩ := zip_dot r p
  obtain ⟨a, b, c, e⟩ := dot_comp r p hr st
  rw [h1] at e
  rw [← h2]
  exact dot_run rfl rfl e (intsOf_map q) (by simp; omega)
end Ev

set_option linter.all false
set_option maxRecDepth 100000
set_option maxHeartbeats 1000000
namespace Ev
open PySem PySem.Spec L2
theorem tvs_map : ∀ ts : List Tst, tvs ts = ts.map tv
  | [] => by simp [tvs]
  | t :: ts => by simp [tvs, tvs_map ts]
mutual
def dep : Tst → Nat
  | .most _ _ => 1
  | .div _ _ _ => 1
  | .not t => dep t + 1
  | .knot _ ts => deps ts + 1
def deps : List Tst → Nat
  | [] => 0
  | t :: ts => max (dep t) (deps ts)
end
mutual
def cnt : Tst → Nat
  | .most _ _ => 1
  | .div _ _ _ => 1
  | .not t => cnt t + 1
  | .knot _ ts => cnts ts + 1
def cnts : List Tst → Nat
  | [] => 0
  | t :: ts => cnt t + cnts ts
end
mutual
def Ok (n : Nat) (R B : Int) : Tst → Prop
  | .most r m => r.length = n ∧ (∀ x ∈ r, -R ≤ x ∧ x ≤ R) ∧ -B ≤ m ∧ m ≤ B
  | .div d r m => r.length = n ∧ (∀ x ∈ r, -R ≤ x ∧ x ≤ R) ∧ (-B ≤ m ∧ m ≤ B) ∧ 1 ≤ d ∧ d ≤ 1000000
  | .not t => Ok n R B t
  | .knot _ ts => Oks n R B ts
def Oks (n : Nat) (R B : Int) : List Tst → Prop
  | [] => True
  | t :: ts => Ok n R B t ∧ Oks n R B ts
end
theorem oks_mem {n : Nat} {R B : Int} : ∀ {ts : List Tst}, Oks n R B ts → ∀ t ∈ ts, Ok n R B t
  | t :: ts, h, u, hu => by
    simp only [Oks] at h
    rcases List.mem_cons.mp hu with rfl | hu
    · exact h.1
    · exact oks_mem h.2 u hu
theorem dep_mem : ∀ {ts : List Tst} {t : Tst}, t ∈ ts → dep t ≤ deps ts
  | a :: ts, t, h => by
    simp only [deps]
    rcases List.mem_cons.mp h with rfl | h
    · exact Nat.le_max_left _ _
    · exact Nat.le_trans (dep_mem h) (Nat.le_max_right _ _)
theorem cnt_len : ∀ ts : List Tst, ts.length ≤ cnts ts
  | [] => Nat.le_refl _
  | t :: ts => by
    have h := cnt_len ts
    have : 1 ≤ cnt t := by cases t <;> simp [cnt]
    simp only [cnts, List.length_cons]
    omega
@[simp] theorem in_strs (u a b : Str) : inV (.str u) [.str a, .str b] = some ((a == u) || (b == u)) := by
  unfold inV
  rw [if_pos (by rfl)]
  show some ((a == u) || ((b == u) || false)) = _
  rw [Bool.or_false]
theorem s1 : ("most" : Str) ≠ "not" := by decide +kernel
theorem s2 : ("div" : Str) ≠ "not" := by decide +kernel
theorem s3 : ("and" : Str) ≠ "not" := by decide +kernel
theorem s4 : ("or" : Str) ≠ "not" := by decide +kernel
theorem s5 : ("div" : Str) ≠ "most" := by decide +kernel
theorem s6 : ("not" : Str) ≠ "most" := by decide +kernel
theorem s7 : ("and" : Str) ≠ "most" := by decide +kernel
theorem s8 : ("or" : Str) ≠ "most" := by decide +kernel
theorem s9 : ("not" : Str) ≠ "div" := by decide +kernel
theorem s10 : ("and" : Str) ≠ "div" := by decide +kernel
theorem s11 : ("or" : Str) ≠ "div" := by decide +kernel
theorem s12 : ("or" : Str) ≠ "and" := by decide +kernel
theorem s13 : ("not" : Str) ≠ "and" := by decide +kernel
theorem s14 : ("most" : Str) ≠ "div" := by decide +kernel
/-- test_at at a leaf -/
theorem f9m (k : Nat) (r : List Int) (m : Int) (p : List Int) (hr : B64 r) (hl : r.length ≤ 1000) (st : List Cell) : evP TT (k + 2) 9 [tv (.most r m), PL p] st = .ok (.val (.bl (tat p (.most r m)))) st := by
  rw [p9]; unfold m9
  have g := f8 k r p hr hl st
  simp only [tv, tat]
  generalize evP TT (k + 1) = Φ at g ⊢
  generalize PL r = RR at g ⊢
  generalize PL p = PP at g ⊢
  simp [g]
theorem f9d (k : Nat) (d : Int) (r : List Int) (m : Int) (p : List Int) (hd : 0 < d) (hr : B64 r) (hl : r.length ≤ 1000) (st : List Cell) : evP TT (k + 2) 9 [tv (.div d r m), PL p] st = .ok (.val (.bl (tat p (.div d r m)))) st := by
  rw [p9]; unfold m9
  have g := f8 k r p hr hl st
  have h0 : d ≠ 0 := by omega
  have h1 : 0 ≤ d := by omega
  simp only [tv, tat]
  generalize evP TT (k + 1) = Φ at g ⊢
  generalize PL r = RR at g ⊢
  generalize PL p = PP at g ⊢
  simp [g, s5, h0, h1]
end Ev

set_option linter.all false
set_option maxRecDepth 100000
set_option maxHeartbeats 1000000
namespace Ev
open PySem PySem.Spec L2
@[simp] theorem z1 : (("most" : Str) == "not") = false := by decide +kernel
@[simp] theorem z2 : (("div" : Str) == "not") = false := by decide +kernel
@[simp] theorem z3 : (("most" : Str) == "and") = false := by decide +kernel
@[simp] theorem z4 : (("div" : Str) == "and") = false := by decide +kernel
@[simp] theorem z5 : (("most" : Str) == "or") = false := by decide +kernel
@[simp] theorem z6 : (("div" : Str) == "or") = false := by decide +kernel
section
variable {Φ : Orc} {R P : PV} {b : Bool} {st : List Cell} {vs zs : List PV} {bs : List Bool} {x y : Sl}
theorem r10m {a c : PV} (h : Φ 9 [.tup [.str "most", a, c], P] st = .ok (.val (.bl b)) st) : finO (m10 Φ ⟨[.val (.tup [.str "most", a, c]), .val P, .none, .none], st⟩) = .ok (.val (.bl b)) st := by
  unfold m10
  simp [h]
theorem r10d {a c d : PV} (h : Φ 9 [.tup [.str "div", d, a, c], P] st = .ok (.val (.bl b)) st) : finO (m10 Φ ⟨[.val (.tup [.str "div", d, a, c]), .val P, .none, .none], st⟩) = .ok (.val (.bl b)) st := by
  unfold m10
  simp [h]
theorem r10n (h : Φ 10 [R, P] st = .ok (.val (.bl b)) st) : finO (m10 Φ ⟨[.val (.tup [.str "not", R]), .val P, .none, .none], st⟩) = .ok (.val (.bl (!b))) st := by
  unfold m10
  simp [h]
theorem r10a (h : compGo [2, 3] (setSlot 3) (ret true) (xCall Φ 10 [(rdSlot 3), (rdSlot 1)]) true vs ⟨[.val (.tup [.str "and", .tup vs]), .val P, .none, .none], st⟩ = .ok zs ⟨[.val (.tup [.str "and", .tup vs]), .val P, x, y], st⟩) (hb : boolsOf zs = some bs) (hl : zs.length ≤ 16777216) :
    finO (m10 Φ ⟨[.val (.tup [.str "and", .tup vs]), .val P, .none, .none], st⟩) = .ok (.val (.bl (bs.all id))) st := by
  unfold m10
  simp [h, hb, hl, s3]
theorem r10o (h : compGo [2, 3] (setSlot 3) (ret true) (xCall Φ 10 [(rdSlot 3), (rdSlot 1)]) true vs ⟨[.val (.tup [.str "or", .tup vs]), .val P, .none, .none], st⟩ = .ok zs ⟨[.val (.tup [.str "or", .tup vs]), .val P, x, y], st⟩) (hb : boolsOf zs = some bs) (hl : zs.length ≤ 16777216) :
    finO (m10 Φ ⟨[.val (.tup [.str "or", .tup vs]), .val P, .none, .none], st⟩) = .ok (.val (.bl (bs.any id))) st := by
  unfold m10
  simp [h, hb, hl, s4, s12]
end
theorem boolsOf_map {α : Type} (f : α → Bool) : ∀ l : List α, boolsOf (l.map fun x => PV.bl (f x)) = some (l.map f)
  | [] => rfl
  | x :: l => by rw [List.map_cons, boolsOf_cons, boolsOf_map f l]; rfl
theorem allat_eq (p : List Int) : ∀ ts : List Tst, (ts.map (tat p)).all id = allat p ts
  | [] => by simp [allat]
  | t :: ts => by simp [allat, ← allat_eq p ts]
theorem anyat_eq (p : List Int) : ∀ ts : List Tst, (ts.map (tat p)).any id = anyat p ts
  | [] => by simp [anyat]
  | t :: ts => by simp [anyat, ← anyat_eq p ts]
theorem cnt_mem : ∀ {ts : List Tst} {t : Tst}, t ∈ ts → cnt t ≤ cnts ts
  | a :: ts, t, h => by
    simp only [cnts]
    rcases List.mem_cons.mp h with rfl | h
    · exact Nat.le_add_right _ _
    · exact Nat.le_trans (cnt_mem h) (Nat.le_add_left _ _)
theorem rowB {R : Int} {r : List Int} (hR : R ≤ 1000000000000) (h : ∀ x ∈ r, -R ≤ x ∧ x ≤ R) : B64 r := fun x hx => by
  have := h x hx
  omega
/-- test_at is the truth of a test -/
theorem f10 (n : Nat) (R B : Int) (hn : n ≤ 1000) (hR : R ≤ 1000000000000) (p : List Int) : ∀ (k : Nat) (t : Tst), Ok n R B t → dep t ≤ k → cnt t ≤ 100000 → ∀ st, evP TT (k + 3) 10 [tv t, PL p] st = .ok (.val (.bl (tat p t))) st := by
  intro k
  induction k with
  | zero => intro t _ h; cases t <;> simp [dep] at h
  | succ k ih =>
    intro t ho hd hc st
    rw [p10]
    cases t with
    | most r m =>
      simp only [Ok] at ho
      have g := f9m (k + 1) r m p (rowB hR ho.2.1) (by omega) st
      simp only [tv] at g ⊢
      exact r10m g
    | div d r m =>
      simp only [Ok] at ho
      have g := f9d (k + 1) d r m p (by omega) (rowB hR ho.2.1) (by omega) st
      simp only [tv] at g ⊢
      exact r10d g
    | not t =>
      simp only [Ok] at ho
      simp only [dep] at hd
      simp only [cnt] at hc
      have g := ih t ho (by omega) (by omega) st
      simp only [tv, tat]
      exact r10n g
    | knot a ts =>
      simp only [Ok] at ho
      simp only [dep] at hd
      simp only [cnt] at hc
      have hl := cnt_len ts
      have comp : ∀ T : PV, ∃ x y, compGo [2, 3] (setSlot 3) (ret true) (xCall (evP TT (k + 3)) 10 [(rdSlot 3), (rdSlot 1)]) true (ts.map tv) ⟨[.val T, .val (PL p), .none, .none], st⟩ = .ok (ts.map fun t => PV.bl (tat p t)) ⟨[.val T, .val (PL p), x, y], st⟩ := fun T => by
        obtain ⟨s', c1, c2, x, y, c3⟩ := compGo_f (own := [2, 3]) (tgt := setSlot 3) (tst := ret true) (elt := xCall (evP TT (k + 3)) 10 [(rdSlot 3), (rdSlot 1)])
          (I := fun s => s.st = st ∧ ∃ x y, s.env = [.val T, .val (PL p), x, y]) (f := tv) (g := fun t => PV.bl (tat p t)) ts (fun t ht s ⟨h1, x, y, h2⟩ => by
            obtain ⟨env, st'⟩ := s
            cases h1; cases h2
            have g := ih t (oks_mem ho t ht) (by have := dep_mem ht; omega) (by have := cnt_mem ht; omega) st'
            generalize evP TT (k + 3) = Φ at g ⊢
            generalize PL p = P at g ⊢
            generalize tat p t = bb at g ⊢
            generalize tv t = V at g ⊢
            refine ⟨⟨[.val T, .val P, .none, .val V], st'⟩, ?_, rfl, _, _, rfl⟩
            simp [g]) ⟨[.val T, .val (PL p), .none, .none], st⟩ ⟨rfl, _, _, rfl⟩
        obtain ⟨env, st'⟩ := s'
        cases c2; cases c3
        exact ⟨x, y, c1⟩
      simp only [tv, tat, tvs_map]
      cases a with
      | true =>
        obtain ⟨x, y, c⟩ := comp (.tup [.str "and", .tup (ts.map tv)])
        rw [if_pos rfl, if_pos rfl, ← allat_eq]
        exact r10a c (boolsOf_map _ ts) (by simp; omega)
      | false =>
        obtain ⟨x, y, c⟩ := comp (.tup [.str "or", .tup (ts.map tv)])
        rw [if_neg (by decide), if_neg (by decide), ← anyat_eq]
        exact r10o c (boolsOf_map _ ts) (by simp; omega)
end Ev

set_option linter.all false
set_option maxRecDepth 100000
set_option maxHeartbeats 1000000
namespace Ev
open PySem PySem.Spec L2
theorem any_bl (b : Bool) : ∀ bs : List Bool, ((bs.map PV.bl).any fun y => eqF y (.bl b)) = bs.contains b
  | [] => rfl
  | c :: bs => by
    rw [List.map_cons, List.any_cons, any_bl b bs, List.contains_cons]
    show ((c == b) || _) = _
    rw [Bool.beq_comm]
theorem in_bl (b : Bool) (bs : List Bool) : inV (.bl b) (bs.map .bl) = some (bs.contains b) := by
  unfold inV
  have h : (bs.map PV.bl).all flatP = true := by
    rw [List.all_eq_true]
    intro x hx
    obtain ⟨y, _, rfl⟩ := List.mem_map.mp hx
    rfl
  rw [h, if_pos (by rfl), any_bl]
section
variable {Φ : Orc} {R P : PV} {b : Bool} {w m d : Int} {st : List Cell} {vs : List PV} {bs : List Bool} {x y : Sl}
theorem r44m {a : PV} (h : Φ 43 [a, P] st = .ok (.val (.int w)) st) : finO (m44 Φ ⟨[.val (.tup [.str "most", a, .int m]), .val P, .none, .none, .none], st⟩) = .ok (.val (.bl (decide (w ≤ m)))) st := by
  unfold m44
  simp [h]
theorem r44d {a : PV} (hd : 0 < d) (h : Φ 43 [a, P] st = .ok (.val (.int w)) st) : finO (m44 Φ ⟨[.val (.tup [.str "div", .int d, a, .int m]), .val P, .none, .none, .none], st⟩) = .ok (.val (.bl (decide ((w + m) % d = 0)))) st := by
  have h0 : d ≠ 0 := by omega
  have h1 : 0 ≤ d := by omega
  unfold m44
  simp [h, s5, h0, h1]
theorem r44n (h : Φ 44 [R, P] st = .ok (.val (.bl b)) st) : finO (m44 Φ ⟨[.val (.tup [.str "not", R]), .val P, .none, .none, .none], st⟩) = .ok (.val (.bl (!b))) st := by
  unfold m44
  simp [h, s6, s9]
theorem r44a (h : compGo [3, 4] (setSlot 4) (ret true) (xCall Φ 44 [(rdSlot 4), (rdSlot 1)]) true vs ⟨[.val (.tup [.str "and", .tup vs]), .val P, .none, .none, .none], st⟩ = .ok (bs.map .bl) ⟨[.val (.tup [.str "and", .tup vs]), .val P, .none, x, y], st⟩) (hl : bs.length ≤ 16777216) :
    finO (m44 Φ ⟨[.val (.tup [.str "and", .tup vs]), .val P, .none, .none, .none], st⟩) = .ok (.val (.bl (!bs.contains false))) st := by
  have q := in_bl false bs
  have e : ∀ u : PV, cmpV .NotIn u (.lst (bs.map .bl)) = (inV u (bs.map .bl)).map (!·) := fun _ => rfl
  have hl' : (bs.map PV.bl).length ≤ 16777216 := by rw [List.length_map]; exact hl
  generalize bs.map PV.bl = zs at h q e hl'
  unfold m44
  simp [h, hl', s3, s7, s10, e, q]
theorem r44o (h : compGo [3, 4] (setSlot 4) (ret true) (xCall Φ 44 [(rdSlot 4), (rdSlot 1)]) true vs ⟨[.val (.tup [.str "or", .tup vs]), .val P, .none, .none, .none], st⟩ = .ok (bs.map .bl) ⟨[.val (.tup [.str "or", .tup vs]), .val P, .none, x, y], st⟩) (hl : bs.length ≤ 16777216) :
    finO (m44 Φ ⟨[.val (.tup [.str "or", .tup vs]), .val P, .none, .none, .none], st⟩) = .ok (.val (.bl (bs.contains true))) st := by
  have q := in_bl true bs
  have e : ∀ u : PV, cmpV .In u (.lst (bs.map .bl)) = inV u (bs.map .bl) := fun _ => rfl
  have hl' : (bs.map PV.bl).length ≤ 16777216 := by rw [List.length_map]; exact hl
  generalize bs.map PV.bl = zs at h q e hl'
  unfold m44
  simp [h, hl', s4, s8, s11, s12, e, q]
end
theorem all_con (bs : List Bool) : bs.all id = !bs.contains false := by
  induction bs with
  | nil => rfl
  | cons b bs ih => cases b <;> simp_all
theorem any_con (bs : List Bool) : bs.any id = bs.contains true := by
  induction bs with
  | nil => rfl
  | cons b bs ih => cases b <;> simp_all
/-- the law's own truth of a test -/
theorem f44 (n : Nat) (R B : Int) (hn : n ≤ 1000) (hR : R ≤ 1000000000000) (p : List Int) : ∀ (k : Nat) (t : Tst), Ok n R B t → dep t ≤ k → cnt t ≤ 100000 → ∀ st, evP TT (k + 1) 44 [tv t, PL p] st = .ok (.val (.bl (tat p t))) st := by
  intro k
  induction k with
  | zero => intro t _ h; cases t <;> simp [dep] at h
  | succ k ih =>
    intro t ho hd hc st
    rw [p44]
    cases t with
    | most r m =>
      simp only [Ok] at ho
      have g := f43 k r p (rowB hR ho.2.1) (by omega) st
      simp only [tv, tat]
      exact r44m g
    | div d r m =>
      simp only [Ok] at ho
      have g := f43 k r p (rowB hR ho.2.1) (by omega) st
      simp only [tv, tat]
      exact r44d (by omega) g
    | not t =>
      simp only [Ok] at ho
      simp only [dep] at hd
      simp only [cnt] at hc
      have g := ih t ho (by omega) (by omega) st
      simp only [tv, tat]
      exact r44n g
    | knot a ts =>
      simp only [Ok] at ho
      simp only [dep] at hd
      simp only [cnt] at hc
      have hl := cnt_len ts
      have comp : ∀ T : PV, ∃ x y, compGo [3, 4] (setSlot 4) (ret true) (xCall (evP TT (k + 1)) 44 [(rdSlot 4), (rdSlot 1)]) true (ts.map tv) ⟨[.val T, .val (PL p), .none, .none, .none], st⟩ = .ok ((ts.map (tat p)).map PV.bl) ⟨[.val T, .val (PL p), .none, x, y], st⟩ := fun T => by
        obtain ⟨s', c1, c2, x, y, c3⟩ := compGo_f (own := [3, 4]) (tgt := setSlot 4) (tst := ret true) (elt := xCall (evP TT (k + 1)) 44 [(rdSlot 4), (rdSlot 1)])
          (I := fun s => s.st = st ∧ ∃ x y, s.env = [.val T, .val (PL p), .none, x, y]) (f := tv) (g := fun t => PV.bl (tat p t)) ts (fun t ht s ⟨h1, x, y, h2⟩ => by
            obtain ⟨env, st'⟩ := s
            cases h1; cases h2
            have g := ih t (oks_mem ho t ht) (by have := dep_mem ht; omega) (by have := cnt_mem ht; omega) st'
            generalize evP TT (k + 1) = Φ at g ⊢
            generalize PL p = P at g ⊢
            generalize tat p t = bb at g ⊢
            generalize tv t = V at g ⊢
            refine ⟨⟨[.val T, .val P, .none, .none, .val V], st'⟩, ?_, rfl, _, _, rfl⟩
            simp [g]) ⟨[.val T, .val (PL p), .none, .none, .none], st⟩ ⟨rfl, _, _, rfl⟩
        obtain ⟨env, st'⟩ := s'
        cases c2; cases c3
        refine ⟨x, y, ?_⟩
        rw [c1, List.map_map]
        rfl
      simp only [tv, tat, tvs_map]
      cases a with
      | true =>
        obtain ⟨x, y, c⟩ := comp (.tup [.str "and", .tup (ts.map tv)])
        rw [if_pos rfl, if_pos rfl, ← allat_eq, all_con]
        exact r44a c (by simp; omega)
      | false =>
        obtain ⟨x, y, c⟩ := comp (.tup [.str "or", .tup (ts.map tv)])
        rw [if_neg (by decide), if_neg (by decide), ← anyat_eq, any_con]
        exact r44o c (by simp; omega)
end Ev

set_option linter.all false
set_option maxRecDepth 100000
set_option maxHeartbeats 1000000
namespace Ev
open PySem PySem.Spec L2
@[simp] theorem xSl_run (a : M RE) (lo hi : Option (M RE)) (s : ES) : xSl a lo hi s = (a s).bind fun r => bnd (xPart lo) fun l => bnd (xPart hi) fun h => lift1 (fun v => slV v l h) r := rfl
@[simp] theorem xPart_none (s : ES) : xPart none s = .ok none s := rfl
@[simp] theorem xPart_some (m : M RE) (s : ES) : xPart (some m) s = (m s).bind fun r s => match deref s r with
    | some (.int i) => .ok (some i) s
    | _ => .bad := rfl
@[simp] theorem slV_tup (xs : List PV) (lo hi : Option Int) : slV (.tup xs) lo hi = some (.val (.tup (cutP xs lo hi))) := rfl
theorem cut_init (xs : List PV) : cutP xs none (some (-1)) = xs.dropLast := by
  unfold cutP HT.sIx
  simp
  rw [List.dropLast_eq_take]
  congr 1
  omega
theorem cut_tail (xs : List PV) : cutP xs (some 1) none = xs.drop 1 := by
  unfold cutP HT.sIx
  cases xs with
  | nil => simp
  | cons x xs => simp
theorem atI_last {xs : List PV} {v : PV} (h : xs.getLast? = some v) : L2.atI xs (-1) = some v := by
  unfold L2.atI L2.ixN
  have hl : 0 < xs.length := by
    cases xs with
    | nil => cases h
    | cons => simp
  rw [if_neg (by omega), if_pos (by omega)]
  show xs[(-1 + (xs.length : Int)).toNat]? = some v
  rw [List.getLast?_eq_getElem?] at h
  rw [← h]
  congr 1
  omega
section
variable {Φ : Orc} {R P ROW Z W V : PV} {a c m : Int} {st : List Cell} {rs cs vs zs us : List PV} {x y z : Sl}
theorem r4n : finO (m4 Φ ⟨[.val (.tup [.str "not", R])], st⟩) = .ok (.val (.tup [R])) st := by
  unfold m4
  simp [cut_tail]
theorem r4a : finO (m4 Φ ⟨[.val (.tup [.str "and", R])], st⟩) = .ok (.val R) st := by
  unfold m4
  simp [s3]
theorem r4o : finO (m4 Φ ⟨[.val (.tup [.str "or", R])], st⟩) = .ok (.val R) st := by
  unfold m4
  simp [s4]
end
end Ev

set_option linter.all false
set_option maxRecDepth 100000
set_option maxHeartbeats 1000000
namespace Ev
open PySem PySem.Spec L2
mutual
def td : Tst → PyData
  | .most r n => .tuple [.str "most", .tuple (r.map .int), .int n]
  | .div d r n => .tuple [.str "div", .int d, .tuple (r.map .int), .int n]
  | .not t => .tuple [.str "not", td t]
  | .knot a ts => .tuple [.str (if a then "and" else "or"), .tuple (tds ts)]
def tds : List Tst → List PyData
  | [] => []
  | t :: ts => td t :: tds ts
end
theorem toPys_nil : toPys [] = some [] := by simp [toPys]
theorem toPys_cons (x : PV) (xs : List PV) : toPys (x :: xs) = match toPy x with
  | none => none
  | some d => (toPys xs).map (d :: ·) := by cases h : toPy x <;> simp [toPys, h]
theorem toPy_str (x : Str) : toPy (.str x) = some (.str x) := by simp [toPy]
theorem toPy_int (x : Int) : toPy (.int x) = some (.int x) := by simp [toPy]
mutual
theorem toPy_tv : ∀ t : Tst, toPy (tv t) = some (td t)
  | .most r n => by simp only [tv, td, toPy_tup, toPys_cons, toPys_nil, toPy_str, toPy_int, toPys_ints]; rfl
  | .div d r n => by simp only [tv, td, toPy_tup, toPys_cons, toPys_nil, toPy_str, toPy_int, toPys_ints]; rfl
  | .not t => by simp only [tv, td, toPy_tup, toPys_cons, toPys_nil, toPy_str, toPy_tv t]; rfl
  | .knot a ts => by simp only [tv, td, toPy_tup, toPys_cons, toPys_nil, toPy_str, toPys_tvs ts]; rfl
theorem toPys_tvs : ∀ ts : List Tst, toPys (tvs ts) = some (tds ts)
  | [] => by simp [tvs, tds, toPys_nil]
  | t :: ts => by simp only [tvs, tds, toPys_cons, toPy_tv t, toPys_tvs ts]; rfl
end
theorem o1 : PyData.strOk "most" = true := by decide +kernel
theorem o2 : PyData.strOk "div" = true := by decide +kernel
theorem o3 : PyData.strOk "not" = true := by decide +kernel
theorem o4 : PyData.strOk "and" = true := by decide +kernel
theorem o5 : PyData.strOk "or" = true := by decide +kernel
mutual
theorem lay_td : ∀ t : Tst, (td t).canLay0 = true
  | .most r n => by simp [td, PyData.canLay0, PyData.canLayAll0, lay_ints, o1]
  | .div d r n => by simp [td, PyData.canLay0, PyData.canLayAll0, lay_ints, o2]
  | .not t => by simp [td, PyData.canLay0, PyData.canLayAll0, lay_td t, o3]
  | .knot a ts => by cases a <;> simp [td, PyData.canLay0, PyData.canLayAll0, lay_tds ts, o4, o5]
theorem lay_tds : ∀ ts : List Tst, PyData.canLayAll0 (tds ts) = true
  | [] => by simp [tds, PyData.canLayAll0]
  | t :: ts => by simp [tds, PyData.canLayAll0, lay_td t, lay_tds ts]
end
mutual
theorem depth_td : ∀ t : Tst, (td t).depth ≤ 2 * dep t
  | .most r n => by simp [td, PyData.depth, PyData.depthAll, depth_ints, dep]
  | .div d r n => by simp [td, PyData.depth, PyData.depthAll, depth_ints, dep]
  | .not t => by
    have h := depth_td t
    simp [td, PyData.depth, PyData.depthAll, dep]
    omega
  | .knot a ts => by
    have h := depth_tds ts
    simp [td, PyData.depth, PyData.depthAll, dep]
    omega
theorem depth_tds : ∀ ts : List Tst, PyData.depthAll (tds ts) ≤ 2 * deps ts
  | [] => by simp [tds, PyData.depthAll]
  | t :: ts => by
    have h := depth_td t
    have h2 := depth_tds ts
    simp only [tds, PyData.depthAll, deps]
    omega
end
def Sm13 (x : Int) : Prop := -1000000000000 ≤ x ∧ x ≤ 1000000000000
theorem leaf64 {x : Int} (h : Sm13 x) : PyData.leavesShort 64 (.int x) = true := by
  simp only [PyData.leavesShort, decide_eq_true_eq]
  have e := int_text_length_le10 (a := x) (k := 13) (by decide) (by have := h.1; have := h.2; omega)
  show (Str.ofString (toString x)).length ≤ 64
  rw [ofString_length]
  omega
theorem show13 {x : Int} (h : Sm13 x) : PyData.showable (.int x) = true := by
  have a : x.natAbs.log2 < 1920 := by
    rcases Nat.eq_zero_or_pos x.natAbs with z | z
    · rw [z]; decide
    · rw [Nat.log2_lt (by omega)]
      refine Nat.lt_of_lt_of_le (show x.natAbs < 2 ^ 64 by have := h.1; have := h.2; omega) (Nat.pow_le_pow_right (by decide) (by decide))
  simp only [PyData.showable, decide_eq_true_eq]
  exact a
theorem leaves64 : ∀ ns : List Int, (∀ x ∈ ns, Sm13 x) → PyData.leavesShortAll 64 (ns.map PyData.int) = true
  | [], _ => by simp [PyData.leavesShortAll]
  | n :: ns, h => by
    rw [List.map_cons]
    simp only [PyData.leavesShortAll, leaf64 (h n (List.mem_cons_self ..)), leaves64 ns fun x hx => h x (List.mem_cons_of_mem _ hx), Bool.and_self]
theorem shows13 : ∀ ns : List Int, (∀ x ∈ ns, Sm13 x) → PyData.showableAll (ns.map PyData.int) = true
  | [], _ => by simp [PyData.showableAll]
  | n :: ns, h => by
    rw [List.map_cons]
    simp only [PyData.showableAll, show13 (h n (List.mem_cons_self ..)), shows13 ns fun x hx => h x (List.mem_cons_of_mem _ hx), Bool.and_self]
theorem str_short (x : Str) (h : x = "most" ∨ x = "div" ∨ x = "not" ∨ x = "and" ∨ x = "or") : PyData.leavesShort 64 (.str x) = true ∧ x.cps.size ≤ 4 := by
  rcases h with rfl | rfl | rfl | rfl | rfl <;> exact ⟨by decide +kernel, by decide +kernel⟩
theorem rowSm {R : Int} {r : List Int} (hR : R ≤ 1000000000000) (h : ∀ x ∈ r, -R ≤ x ∧ x ≤ R) : ∀ x ∈ r, Sm13 x := fun x hx => by
  have := h x hx
  unfold Sm13
  omega
mutual
theorem show_td {n : Nat} {R B : Int} (hn : n ≤ 3) (hR : R ≤ 1000000000000) (hB : B ≤ 1000000000000) : ∀ t : Tst, Ok n R B t → (td t).showable = true ∧ PyData.leavesShort 64 (td t) = true ∧ (td t).bulk + 1 ≤ 12 * cnt t
  | .most r m, h => by
    simp only [Ok] at h
    have hm : Sm13 m := ⟨by omega, by omega⟩
    have e := str_short "most" (by simp)
    have a1 := shows13 r (rowSm hR h.2.1)
    have a2 := leaves64 r (rowSm hR h.2.1)
    have a3 := bulk_ints r
    have b1 := show13 hm
    have b2 := leaf64 hm
    refine ⟨?_, ?_, ?_⟩
    · simp only [td, PyData.showable, PyData.showableAll, a1] at b1 ⊢; simp [b1]
    · have e1 := e.1
      simp only [td, PyData.leavesShort, PyData.leavesShortAll, a2] at b2 e1 ⊢; simp [b2, e1]
    · have e2 := e.2
      simp only [td, PyData.bulk, PyData.bulkAll, a3, cnt]; omega
  | .div d r m, h => by
    simp only [Ok] at h
    have hm : Sm13 m := ⟨by omega, by omega⟩
    have hd : Sm13 d := ⟨by omega, by omega⟩
    have e := str_short "div" (by simp)
    have a1 := shows13 r (rowSm hR h.2.1)
    have a2 := leaves64 r (rowSm hR h.2.1)
    have a3 := bulk_ints r
    have b1 := show13 hm
    have b2 := leaf64 hm
    have c1 := show13 hd
    have c2 := leaf64 hd
    refine ⟨?_, ?_, ?_⟩
    · simp only [td, PyData.showable, PyData.showableAll, a1] at b1 c1 ⊢; simp [b1, c1]
    · have e1 := e.1
      simp only [td, PyData.leavesShort, PyData.leavesShortAll, a2] at b2 c2 e1 ⊢; simp [b2, c2, e1]
    · have e2 := e.2
      simp only [td, PyData.bulk, PyData.bulkAll, a3, cnt]; omega
  | .not t, h => by
    simp only [Ok] at h
    obtain ⟨q1, q2, q3⟩ := show_td hn hR hB t h
    have e := str_short "not" (by simp)
    refine ⟨?_, ?_, ?_⟩
    · simp only [td, PyData.showable, PyData.showableAll, q1]; simp
    · have e1 := e.1
      simp only [td, PyData.leavesShort, PyData.leavesShortAll, q2] at e1 ⊢; simp [e1]
    · have e2 := e.2
      simp only [td, PyData.bulk, PyData.bulkAll, cnt]; omega
  | .knot a ts, h => by
    simp only [Ok] at h
    obtain ⟨q1, q2, q3⟩ := show_tds hn hR hB ts h
    have e : PyData.leavesShort 64 (.str (if a then "and" else "or")) = true ∧ (if a then ("and" : Str) else "or").cps.size ≤ 4 := str_short _ (by cases a <;> simp)
    refine ⟨?_, ?_, ?_⟩
    · simp only [td, PyData.showable, PyData.showableAll, q1]; simp
    · have e1 := e.1
      simp only [td, PyData.leavesShort, PyData.leavesShortAll, q2] at e1 ⊢; simp [e1]
    · have e2 := e.2
      simp only [td, PyData.bulk, PyData.bulkAll, cnt]; omega
theorem show_tds {n : Nat} {R B : Int} (hn : n ≤ 3) (hR : R ≤ 1000000000000) (hB : B ≤ 1000000000000) : ∀ ts : List Tst, Oks n R B ts → PyData.showableAll (tds ts) = true ∧ PyData.leavesShortAll 64 (tds ts) = true ∧ PyData.bulkAll (tds ts) ≤ 12 * cnts ts
  | [], _ => by simp [tds, PyData.showableAll, PyData.leavesShortAll, PyData.bulkAll]
  | t :: ts, h => by
    simp only [Oks] at h
    obtain ⟨q1, q2, q3⟩ := show_td hn hR hB t h.1
    obtain ⟨p1, p2, p3⟩ := show_tds hn hR hB ts h.2
    refine ⟨?_, ?_, ?_⟩
    · simp only [tds, PyData.showableAll, q1, p1, Bool.and_self]
    · simp only [tds, PyData.leavesShortAll, q2, p2, Bool.and_self]
    · simp only [tds, PyData.bulkAll, cnts]; omega
end
theorem td_tup : ∀ t : Tst, ∃ xs, td t = .tuple xs
  | .most r n => ⟨[.str "most", .tuple (r.map .int), .int n], by rw [td]⟩
  | .div d r n => ⟨[.str "div", .int d, .tuple (r.map .int), .int n], by rw [td]⟩
  | .not t => ⟨[.str "not", td t], by rw [td]⟩
  | .knot a ts => ⟨[.str (if a then "and" else "or"), .tuple (tds ts)], by rw [td]⟩
theorem repr_tv {n : Nat} {R B : Int} (hn : n ≤ 3) (hR : R ≤ 1000000000000) (hB : B ≤ 1000000000000) {t : Tst} (h : Ok n R B t) (hd : dep t ≤ 30) (hc : cnt t ≤ 10000) : biV .repr [tv t] = some (.val (.str (td t).shown)) := by
  obtain ⟨q1, q2, q3⟩ := show_td hn hR hB t h
  have sh : SeqAt.shaped (td t) = true := by
    show ((td t).canLay0 && decide ((td t).depth ≤ 64)) = true
    have := depth_td t
    rw [lay_td, decide_eq_true (show (td t).depth ≤ 64 by omega)]
    rfl
  have ok : showOk (td t) = true := by
    have q4 : (td t).bulk ≤ 200000 := by omega
    obtain ⟨xs, e⟩ := td_tup t
    rw [e] at q1 q2 q4 sh ⊢
    unfold showOk
    rw [q1, sh, q2, decide_eq_true q4]
    simp
  rw [bi_repr, toPy_tv]
  show (if showOk _ = true then _ else _) = _
  rw [if_pos ok]
end Ev

set_option linter.all false
set_option maxRecDepth 100000
set_option maxHeartbeats 1000000
namespace Ev
open PySem PySem.Spec L2
/-- fits_row -/
theorem r2 {Φ : Orc} {n : Int} {rs zs : List PV} {bs : List Bool} {R : PV} {x y : Sl} {st : List Cell} (hR : R = .tup rs) (h1 : Φ 1 [R, .int n, .int n] st = .ok (.val (.bl true)) st)
    (h : compGo [2, 3] (setSlot 3) (ret true) (xCall Φ 0 [(rdSlot 3), (xNeg (ret (.val (.int (1000000000))))), (ret (.val (.int (1000000000))))]) true rs ⟨[.val (.int n), .val R, .none, .none], st⟩ = .ok zs ⟨[.val (.int n), .val R, x, y], st⟩) (hb : boolsOf zs = some bs) (ha : bs.all id = true) (hl : zs.length ≤ 16777216) :
    finO (m2 Φ ⟨[.val (.int n), .val R, .none, .none], st⟩) = .ok (.val (.bl true)) st := by
  subst hR
  unfold m2
  simp [h1, h, hb, hl]
  simpa using ha
theorem row_comp (k : Nat) (n : Int) (r : List Int) (hb : ∀ x ∈ r, -1000000000 ≤ x ∧ x ≤ 1000000000) (st : List Cell) : ∃ x y, compGo [2, 3] (setSlot 3) (ret true) (xCall (evP TT (k + 1)) 0 [(rdSlot 3), (xNeg (ret (.val (.int (1000000000))))), (ret (.val (.int (1000000000))))]) true (r.map PV.int) ⟨[.val (.int n), .val (PL r), .none, .none], st⟩ = .ok (r.map fun _ => PV.bl true) ⟨[.val (.int n), .val (PL r), x, y], st⟩ := by
  obtain ⟨s', c1, c2, x, y, c3⟩ := compGo_f (own := [2, 3]) (tgt := setSlot 3) (tst := ret true) (elt := xCall (evP TT (k + 1)) 0 [(rdSlot 3), (xNeg (ret (.val (.int (1000000000))))), (ret (.val (.int (1000000000))))])
    (I := fun s => s.st = st ∧ ∃ x y, s.env = [.val (.int n), .val (PL r), x, y]) (f := PV.int) (g := fun _ => PV.bl true) r (fun v hv s ⟨h1, x, y, h2⟩ => by
      obtain ⟨env, st'⟩ := s
      cases h1; cases h2
      have q := hb v hv
      have g := f0 k v (-1000000000) 1000000000 st'
      simp only [q, decide_true, Bool.and_self] at g
      generalize evP TT (k + 1) = Φ at g ⊢
      generalize PL r = P
      refine ⟨⟨[.val (.int n), .val P, .none, .val (.int v)], st'⟩, ?_, rfl, _, _, rfl⟩
      simp [g]) ⟨[.val (.int n), .val (PL r), .none, .none], st⟩ ⟨rfl, _, _, rfl⟩
  obtain ⟨env, st'⟩ := s'
  cases c2; cases c3
  exact ⟨x, y, c1⟩
theorem f2 (k n : Nat) (r : List Int) (hr : r.length = n) (hn : n ≤ 1000) (hb : ∀ x ∈ r, -1000000000 ≤ x ∧ x ≤ 1000000000) (st : List Cell) : evP TT (k + 2) 2 [.int n, PL r] st = .ok (.val (.bl true)) st := by
  rw [p2]
  obtain ⟨x, y, c⟩ := row_comp k n r hb st
  have g := f1 k (r.map PV.int) n n st
  rw [List.length_map, hr] at g
  simp only [Int.le_refl, decide_true, Bool.and_self] at g
  refine r2 rfl g c (boolsOf_map (fun _ => true) r) ?_ (by simp; omega)
  simp
section
variable {Φ : Orc} {n m d : Int} {R : PV} {st : List Cell}
theorem r3m (h1 : Φ 2 [.int n, R] st = .ok (.val (.bl true)) st) (h2 : Φ 0 [.int m, .int (-1000000000000), .int 1000000000000] st = .ok (.val (.bl true)) st) :
    finO (m3 Φ ⟨[.val (.int n), .val (.tup [.str "most", R, .int m])], st⟩) = .ok (.val (.bl true)) st := by
  unfold m3
  simp [h1, h2]
theorem r3d (h0 : Φ 0 [.int d, .int 1, .int 1000000] st = .ok (.val (.bl true)) st) (h1 : Φ 2 [.int n, R] st = .ok (.val (.bl true)) st) (h2 : Φ 0 [.int m, .int (-1000000000000), .int 1000000000000] st = .ok (.val (.bl true)) st) :
    finO (m3 Φ ⟨[.val (.int n), .val (.tup [.str "div", .int d, R, .int m])], st⟩) = .ok (.val (.bl true)) st := by
  unfold m3
  simp [h0, h1, h2, s5]
theorem r5n : finO (m5 Φ ⟨[.val (.tup [.str "not", R])], st⟩) = .ok (.val (.bl true)) st := by
  unfold m5
  simp
theorem r5a (h : Φ 1 [R, .int 0, .int 4000] st = .ok (.val (.bl true)) st) : finO (m5 Φ ⟨[.val (.tup [.str "and", R])], st⟩) = .ok (.val (.bl true)) st := by
  unfold m5
  simp [h, s3]
theorem r5o (h : Φ 1 [R, .int 0, .int 4000] st = .ok (.val (.bl true)) st) : finO (m5 Φ ⟨[.val (.tup [.str "or", R])], st⟩) = .ok (.val (.bl true)) st := by
  unfold m5
  simp [h, s4, s12]
end
theorem f0t (k : Nat) {v lo hi : Int} (h : lo ≤ v ∧ v ≤ hi) (st : List Cell) : evP TT (k + 1) 0 [.int v, .int lo, .int hi] st = .ok (.val (.bl true)) st := by
  rw [f0]
  simp [h]
/-- fits_leaf -/
theorem f3 (k n : Nat) (hn : n ≤ 1000) (t : Tst) (ht : (∃ r m, t = .most r m) ∨ ∃ d r m, t = .div d r m) (ho : Ok n 1000000000 1000000000000 t) (st : List Cell) : evP TT (k + 3) 3 [.int n, tv t] st = .ok (.val (.bl true)) st := by
  rw [p3]
  rcases ht with ⟨r, m, rfl⟩ | ⟨d, r, m, rfl⟩
  · simp only [Ok] at ho
    simp only [tv]
    exact r3m (f2 k n r ho.1 hn ho.2.1 st) (f0t (k + 1) ⟨ho.2.2.1, ho.2.2.2⟩ st)
  · simp only [Ok] at ho
    simp only [tv]
    exact r3d (f0t (k + 1) ⟨ho.2.2.2.1, ho.2.2.2.2⟩ st) (f2 k n r ho.1 hn ho.2.1 st) (f0t (k + 1) ⟨ho.2.2.1.1, ho.2.2.1.2⟩ st)
end Ev

set_option linter.all false
set_option maxRecDepth 100000
set_option maxHeartbeats 1000000
namespace Ev
open PySem PySem.Spec L2
theorem popM_run (i : Nat) (env : List Sl) (st : List Cell) (xs : List PV) (v : PV) (h : env[i]? = some (.own (.lst (xs ++ [v])))) : popM i ⟨env, st⟩ = .ok (.val v) ⟨env.set i (.own (.lst xs)), st⟩ := by
  unfold popM
  dsimp only
  rw [h]
  dsimp only
  have e : (xs ++ [v])[(xs ++ [v]).length - 1]? = some v := by simp
  rw [e]
  simp [setCell]
@[simp] theorem sAug_run (op : Operator) (i : Nat) (e : M RE) (s : ES) : sAug op i e s = (chkS i s).bind fun _ => bnd e fun r => bnd (augM op i r) fun _ => ret .nx := rfl
theorem augM_lst (i : Nat) (env : List Sl) (st : List Cell) (xs ys : List PV) (h : env[i]? = some (.own (.lst xs))) (hl : xs.length + ys.length ≤ 16777216) : augM .Add i (.fresh (.lst ys)) ⟨env, st⟩ = .ok () ⟨env.set i (.own (.lst (xs ++ ys))), st⟩ := by
  unfold augM
  dsimp only
  rw [h]
  dsimp only [deref, Cell.val]
  rw [if_pos (show xs.length + ys.length ≤ LIM from hl)]
@[simp] theorem isi_str_str (x : Str) : isInst (.str x) "str" = some true := rfl
def sp (e : Tst × Int) : PV := .tup [tv e.1, .int e.2]
def sd (e : Tst × Int) : PyData := .tuple [td e.1, .int e.2]
theorem toPys_sp : ∀ l : List (Tst × Int), toPys (l.map sp) = some (l.map sd)
  | [] => by simp [toPys_nil]
  | e :: l => by
    rw [List.map_cons, toPys_cons, toPys_sp l]
    have : toPy (sp e) = some (sd e) := by
      unfold sp sd
      rw [toPy_tup, toPys_cons, toPy_tv, toPys_cons, toPy_int, toPys_nil]
      rfl
    rw [this]
    rfl
theorem lay_sd : ∀ l : List (Tst × Int), PyData.canLayAll0 (l.map sd) = true
  | [] => by simp [PyData.canLayAll0]
  | e :: l => by simp [PyData.canLayAll0, PyData.canLay0, sd, lay_td, lay_sd l]
theorem depth_sd : ∀ l : List (Tst × Int), (∀ e ∈ l, dep e.1 ≤ 30) → PyData.depthAll (l.map sd) ≤ 61
  | [], _ => by simp [PyData.depthAll]
  | e :: l, h => by
    have h1 := h e (List.mem_cons_self ..)
    have h2 := depth_td e.1
    have h3 := depth_sd l fun x hx => h x (List.mem_cons_of_mem _ hx)
    simp only [List.map_cons, PyData.depthAll, sd, PyData.depth]
    omega
theorem eq_stack (l : List (Tst × Int)) (h : ∀ e ∈ l, dep e.1 ≤ 30) : eqPV (.lst (l.map sp)) (.lst []) = some l.isEmpty := by
  unfold eqPV
  have t1 : toPy (.lst (l.map sp)) = some (.list (l.map sd)) := by rw [toPy_lst, toPys_sp]; rfl
  have t2 : toPy (.lst []) = some (.list []) := by rw [toPy_lst, toPys_nil]; rfl
  rw [t1, t2]
  dsimp only
  have s1 : SeqAt.shaped (.list (l.map sd)) = true := by
    show (PyData.canLay0 _ && decide (PyData.depth _ ≤ 64)) = true
    have d0 := depth_sd l h
    have d1 : PyData.depth (.list (l.map sd)) ≤ 64 := by simp only [PyData.depth]; omega
    have d2 : PyData.canLay0 (.list (l.map sd)) = true := by simp only [PyData.canLay0]; exact lay_sd l
    rw [d2, decide_eq_true d1]
    rfl
  have s2 : SeqAt.shaped (.list []) = true := by decide +kernel
  rw [s1, s2, if_pos (by rfl)]
  cases l with
  | nil => simp [PyData.eqv, PyData.eqvAll]
  | cons e l => simp [PyData.eqv, PyData.eqvAll]
abbrev tTest : M Bool := bnd (xCmp .NotEq (rdSlot 2) (xLst [])) asBool
def bodyF (Φ : Orc) : M Fl := seqB [(sUn (tupAsg [4, 5]) (popM 2)),
    (sSet 3 false (xBin .Add (rdSlot 3) (ret (.val (.int (1)))))),
    (sIf (tBool .Or [(bnd (xCmp .Gt (rdSlot 3) (ret (.val (.int (4000))))) asBool), (bnd (xCmp .Gt (rdSlot 5) (ret (.val (.int (12))))) asBool), (tNot (bnd (xCall Φ 1 [(rdSlot 4), (ret (.val (.int (2)))), (ret (.val (.int (4))))]) truM)), (tNot (bnd (xIsi "str" (xSub (rdSlot 4) (ret (.val (.int (0)))))) truM))]) (seqB [(sRet (ret (.val (.bl false))))]) (seqB [])),
    (sIf (bnd (xCmp .In (xSub (rdSlot 4) (ret (.val (.int (0))))) (xTup [(ret (.val (.str "most"))), (ret (.val (.str "div")))])) asBool) (seqB [(sIf (tNot (bnd (xCall Φ 3 [(rdSlot 0), (rdSlot 4)]) truM)) (seqB [(sRet (ret (.val (.bl false))))]) (seqB []))]) (seqB [(sIf (bnd (xCall Φ 5 [(rdSlot 4)]) truM) (seqB [(sAug .Add 2 (xComp [6, 7] (setSlot 7) (ret true) (xTup [(rdSlot 7), (xBin .Add (rdSlot 5) (ret (.val (.int (1)))))]) (iOf (xCall Φ 4 [(rdSlot 4)]))))]) (seqB [(sRet (ret (.val (.bl false))))]))]))]
theorem m6_eq (Φ : Orc) : m6 Φ = seqB [(sPar 2 3 (xLst [(xTup [(rdSlot 1), (ret (.val (.int (1))))])]) (ret (.val (.int (0))))), whileM WF tTest (bodyF Φ), (sRet (ret (.val (.bl true))))] := rfl
section
variable {Φ : Orc} {N W : Sl} {n many d : Int} {L xs : List PV} {a b c R : PV} {s4 s5 : Sl} {st : List Cell}
theorem test_run {q : Bool} (h : eqPV (.lst L) (.lst []) = some q) : tTest ⟨[N, W, .own (.lst L), .val (.int many), s4, s5, .none, .none], st⟩ = .ok (!q) ⟨[N, W, .own (.lst L), .val (.int many), s4, s5, .none, .none], st⟩ := by
  simp [h]
theorem body_most (hm : many < 4000) (hd : d ≤ 12) (h1 : Φ 1 [.tup [.str "most", a, b], .int 2, .int 4] st = .ok (.val (.bl true)) st) (h3 : Φ 3 [.int n, .tup [.str "most", a, b]] st = .ok (.val (.bl true)) st) :
    bodyF Φ ⟨[.val (.int n), W, .own (.lst (L ++ [.tup [.tup [.str "most", a, b], .int d]])), .val (.int many), s4, s5, .none, .none], st⟩ = .ok .nx ⟨[.val (.int n), W, .own (.lst L), .val (.int (many + 1)), .val (.tup [.str "most", a, b]), .val (.int d), .none, .none], st⟩ := by
  have p := popM_run 2 [.val (.int n), W, .own (.lst (L ++ [.tup [.tup [.str "most", a, b], .int d]])), .val (.int many), s4, s5, .none, .none] st L (.tup [.tup [.str "most", a, b], .int d]) rfl
  have q1 : ¬ 4000 < many + 1 := by omega
  have q2 : ¬ 12 < d := by omega
  unfold bodyF
  simp [p, q1, q2, h1, h3]
theorem body_div (hm : many < 4000) (hd : d ≤ 12) (h1 : Φ 1 [.tup [.str "div", a, b, c], .int 2, .int 4] st = .ok (.val (.bl true)) st) (h3 : Φ 3 [.int n, .tup [.str "div", a, b, c]] st = .ok (.val (.bl true)) st) :
    bodyF Φ ⟨[.val (.int n), W, .own (.lst (L ++ [.tup [.tup [.str "div", a, b, c], .int d]])), .val (.int many), s4, s5, .none, .none], st⟩ = .ok .nx ⟨[.val (.int n), W, .own (.lst L), .val (.int (many + 1)), .val (.tup [.str "div", a, b, c]), .val (.int d), .none, .none], st⟩ := by
  have p := popM_run 2 [.val (.int n), W, .own (.lst (L ++ [.tup [.tup [.str "div", a, b, c], .int d]])), .val (.int many), s4, s5, .none, .none] st L (.tup [.tup [.str "div", a, b, c], .int d]) rfl
  have q1 : ¬ 4000 < many + 1 := by omega
  have q2 : ¬ 12 < d := by omega
  unfold bodyF
  simp [p, q1, q2, h1, h3]
theorem part_comp (T : PV) (vs : List PV) : ∃ x y, compGo [6, 7] (setSlot 7) (ret true) (xTup [(rdSlot 7), (xBin .Add (rdSlot 5) (ret (.val (.int (1)))))]) true vs ⟨[N, W, .own (.lst L), .val (.int many), .val T, .val (.int d), .none, .none], st⟩ = .ok (vs.map fun v => PV.tup [v, .int (d + 1)]) ⟨[N, W, .own (.lst L), .val (.int many), .val T, .val (.int d), x, y], st⟩ := by
  obtain ⟨s', c1, c2, x, y, c3⟩ := compGo_f (own := [6, 7]) (tgt := setSlot 7) (tst := ret true) (elt := xTup [(rdSlot 7), (xBin .Add (rdSlot 5) (ret (.val (.int (1)))))])
    (I := fun s => s.st = st ∧ ∃ x y, s.env = [N, W, .own (.lst L), .val (.int many), .val T, .val (.int d), x, y]) (f := fun v => v) (g := fun v => PV.tup [v, .int (d + 1)]) vs (fun v hv s ⟨h1, x, y, h2⟩ => by
      obtain ⟨env, st'⟩ := s
      cases h1; cases h2
      refine ⟨⟨[N, W, .own (.lst L), .val (.int many), .val T, .val (.int d), .none, .val v], st'⟩, ?_, rfl, _, _, rfl⟩
      simp) ⟨[N, W, .own (.lst L), .val (.int many), .val T, .val (.int d), .none, .none], st⟩ ⟨rfl, _, _, rfl⟩
  obtain ⟨env, st'⟩ := s'
  cases c2; cases c3
  rw [List.map_id'' (fun _ => rfl)] at c1
  exact ⟨x, y, c1⟩
theorem body_knot {nm : Str} {vs : List PV} (hn : (("most" : Str) == nm) = false) (hn2 : (("div" : Str) == nm) = false) (hm : many < 4000) (hd : d ≤ 12) (h1 : Φ 1 [.tup [.str nm, R], .int 2, .int 4] st = .ok (.val (.bl true)) st) (h5 : Φ 5 [.tup [.str nm, R]] st = .ok (.val (.bl true)) st) (h4 : Φ 4 [.tup [.str nm, R]] st = .ok (.val (.tup vs)) st) (hl : L.length + vs.length ≤ 16777216) :
    bodyF Φ ⟨[.val (.int n), W, .own (.lst (L ++ [.tup [.tup [.str nm, R], .int d]])), .val (.int many), s4, s5, .none, .none], st⟩ = .ok .nx ⟨[.val (.int n), W, .own (.lst (L ++ vs.map fun v => PV.tup [v, .int (d + 1)])), .val (.int (many + 1)), .val (.tup [.str nm, R]), .val (.int d), .none, .none], st⟩ := by
  have p := popM_run 2 [.val (.int n), W, .own (.lst (L ++ [.tup [.tup [.str nm, R], .int d]])), .val (.int many), s4, s5, .none, .none] st L (.tup [.tup [.str nm, R], .int d]) rfl
  have q1 : ¬ 4000 < many + 1 := by omega
  have q2 : ¬ 12 < d := by omega
  obtain ⟨x, y, c⟩ := part_comp (N := .val (.int n)) (W := W) (many := many + 1) (d := d) (L := L) (st := st) (.tup [.str nm, R]) vs
  have hz : (vs.map fun v => PV.tup [v, .int (d + 1)]).length ≤ 16777216 := by rw [List.length_map]; omega
  have au := augM_lst 2 [.val (.int n), W, .own (.lst L), .val (.int (many + 1)), .val (.tup [.str nm, R]), .val (.int d), .none, .none] st L (vs.map fun v => PV.tup [v, .int (d + 1)]) rfl (by rw [List.length_map]; omega)
  generalize (vs.map fun v => PV.tup [v, .int (d + 1)]) = zs at c hz au ⊢
  unfold bodyF
  simp [p, q1, q2, hn, hn2, h1, h4, h5, c, hz, au]
end
end Ev

set_option linter.all false
set_option maxRecDepth 100000
set_option maxHeartbeats 1000000
namespace Ev
open PySem PySem.Spec L2
def tot : List (Tst × Int) → Nat
  | [] => 0
  | e :: l => cnt e.1 + tot l
theorem tot_app : ∀ a b : List (Tst × Int), tot (a ++ b) = tot a + tot b
  | [], b => by simp [tot]
  | e :: a, b => by simp [tot, tot_app a b]; omega
theorem tot_map (d : Int) : ∀ ts : List Tst, tot (ts.map fun t => (t, d)) = cnts ts
  | [] => by simp [tot, cnts]
  | t :: ts => by simp [tot, cnts, tot_map d ts]
theorem cnt_pos (t : Tst) : 1 ≤ cnt t := by cases t <;> simp [cnt]
theorem tot_len : ∀ l : List (Tst × Int), l.length ≤ tot l
  | [] => Nat.le_refl _
  | e :: l => by
    have := tot_len l
    have := cnt_pos e.1
    simp only [tot, List.length_cons]
    omega
def Fit (n : Nat) (e : Tst × Int) : Prop := Ok n 1000000000 1000000000000 e.1 ∧ 1 ≤ e.2 ∧ e.2 + dep e.1 ≤ 13
theorem fit_loop (k n : Nat) (hn : n ≤ 1000) (W : Sl) (st : List Cell) : ∀ (N : Nat) (l : List (Tst × Int)) (many : Int) (s4 s5 : Sl) (fuel : Nat), tot l ≤ N → 0 ≤ many → many + N ≤ 4000 → (∀ e ∈ l, Fit n e) → N < fuel → ∃ (many' : Int) (s4' s5' : Sl),
    whileM fuel tTest (bodyF (evP TT (k + 4))) ⟨[.val (.int n), W, .own (.lst (l.map sp)), .val (.int many), s4, s5, .none, .none], st⟩ = .ok .nx ⟨[.val (.int n), W, .own (.lst []), .val (.int many'), s4', s5', .none, .none], st⟩ := by
  intro N
  induction N with
  | zero =>
    intro l many s4 s5 fuel ht h0 hm hf hu
    have hl := tot_len l
    obtain rfl : l = [] := List.length_eq_zero_iff.mp (by omega)
    obtain ⟨f, rfl⟩ : ∃ f, fuel = f + 1 := ⟨fuel - 1, by omega⟩
    refine ⟨many, s4, s5, ?_⟩
    rw [whileM_succ, test_run (eq_stack [] (fun _ h => nomatch h)), bind_ok]
    rfl
  | succ N ih =>
    intro l many s4 s5 fuel ht h0 hm hf hu
    obtain ⟨f, rfl⟩ : ∃ f, fuel = f + 1 := ⟨fuel - 1, by omega⟩
    have hdep : ∀ e ∈ l, dep e.1 ≤ 30 := fun e he => by have := hf e he; unfold Fit at this; omega
    rcases List.eq_nil_or_concat l with rfl | ⟨l0, e, rfl⟩
    · refine ⟨many, s4, s5, ?_⟩
      rw [whileM_succ, test_run (eq_stack [] (fun _ h => nomatch h)), bind_ok]
      rfl
    · rw [List.concat_eq_append] at *
      obtain ⟨t, d⟩ := e
      have ht' : tot l0 + cnt t ≤ N + 1 := by rw [tot_app] at ht; simpa [tot] using ht
      obtain ⟨ho, hd1, hd2⟩ := hf (t, d) (by simp)
      have hf0 : ∀ e ∈ l0, Fit n e := fun e he => hf e (by simp [he])
      have hll := tot_len l0
      have em : (l0 ++ [(t, d)]).map sp = l0.map sp ++ [.tup [tv t, .int d]] := by simp [sp]
      have et := eq_stack (l0 ++ [(t, d)]) hdep
      have ee : (l0 ++ [(t, d)]).isEmpty = false := by simp
      rw [ee, em] at et
      rw [em, whileM_succ, test_run et, bind_ok, if_pos (by rfl), bnd_run]
      have hcp := cnt_pos t
      cases t with
      | most r m =>
        simp only [dep] at hd2
        have g1 := f1 (k + 3) [.str "most", PL r, .int m] 2 4 st
        have g3 := f3 (k + 1) n hn (.most r m) (.inl ⟨r, m, rfl⟩) ho st
        simp only [tv] at g3 ⊢
        rw [body_most (by omega) (by omega) g1 g3, bind_ok, whileK_nx]
        exact ih l0 (many + 1) _ _ f (by omega) (by omega) (by omega) hf0 (by omega)
      | div q r m =>
        simp only [dep] at hd2
        have g1 := f1 (k + 3) [.str "div", .int q, PL r, .int m] 2 4 st
        have g3 := f3 (k + 1) n hn (.div q r m) (.inr ⟨q, r, m, rfl⟩) ho st
        simp only [tv] at g3 ⊢
        rw [body_div (by omega) (by omega) g1 g3, bind_ok, whileK_nx]
        exact ih l0 (many + 1) _ _ f (by omega) (by omega) (by omega) hf0 (by omega)
      | not u =>
        simp only [dep] at hd2
        simp only [cnt] at ht'
        simp only [Ok] at ho
        have g1 := f1 (k + 3) [.str "not", tv u] 2 4 st
        have g5 : evP TT (k + 4) 5 [.tup [.str "not", tv u]] st = .ok (.val (.bl true)) st := by rw [p5]; exact r5n
        have g4 : evP TT (k + 4) 4 [.tup [.str "not", tv u]] st = .ok (.val (.tup [tv u])) st := by rw [p4]; exact r4n
        simp only [tv]
        rw [body_knot (by decide +kernel) (by decide +kernel) (by omega) (by omega) g1 g5 g4 (by simp; omega), bind_ok, whileK_nx]
        have e2 : l0.map sp ++ [tv u].map (fun v => PV.tup [v, .int (d + 1)]) = (l0 ++ [(u, d + 1)]).map sp := by simp [sp]
        rw [e2]
        refine ih (l0 ++ [(u, d + 1)]) (many + 1) _ _ f (by rw [tot_app]; simp [tot]; omega) (by omega) (by omega) (fun e he => ?_) (by omega)
        rcases List.mem_append.mp he with h | h
        · exact hf0 e h
        · rw [List.mem_singleton] at h
          subst h
          exact ⟨ho, by show 1 ≤ d + 1; omega, by show d + 1 + dep u ≤ 13; omega⟩
      | knot a ts =>
        simp only [dep] at hd2
        simp only [cnt] at ht'
        simp only [Ok] at ho
        have hlen := cnt_len ts
        have g0 := f1 (k + 2) (ts.map tv) 0 4000 st
        have z1 : (0 : Int) ≤ ((ts.map tv).length : Int) := by omega
        have z2 : ((ts.map tv).length : Int) ≤ 4000 := by rw [List.length_map]; omega
        rw [decide_eq_true z1, decide_eq_true z2] at g0
        have key : ∀ nm : Str, (("most" : Str) == nm) = false → (("div" : Str) == nm) = false → evP TT (k + 4) 5 [.tup [.str nm, .tup (ts.map tv)]] st = .ok (.val (.bl true)) st → evP TT (k + 4) 4 [.tup [.str nm, .tup (ts.map tv)]] st = .ok (.val (.tup (ts.map tv))) st → ∃ (many' : Int) (s4' s5' : Sl),
            (bodyF (evP TT (k + 4)) ⟨[.val (.int n), W, .own (.lst (l0.map sp ++ [.tup [.tup [.str nm, .tup (ts.map tv)], .int d]])), .val (.int many), s4, s5, .none, .none], st⟩).bind (whileK f tTest (bodyF (evP TT (k + 4)))) = .ok .nx ⟨[.val (.int n), W, .own (.lst []), .val (.int many'), s4', s5', .none, .none], st⟩ := fun nm n1 n2 g5 g4 => by
          have g1 := f1 (k + 3) [.str nm, .tup (ts.map tv)] 2 4 st
          rw [body_knot n1 n2 (by omega) (by omega) g1 g5 g4 (by simp; omega), bind_ok, whileK_nx]
          have e2 : l0.map sp ++ (ts.map tv).map (fun v => PV.tup [v, .int (d + 1)]) = (l0 ++ ts.map fun t => (t, d + 1)).map sp := by simp [sp, Function.comp_def]
          rw [e2]
          refine ih (l0 ++ ts.map fun t => (t, d + 1)) (many + 1) _ _ f (by rw [tot_app, tot_map]; omega) (by omega) (by omega) (fun e he => ?_) (by omega)
          rcases List.mem_append.mp he with h | h
          · exact hf0 e h
          · obtain ⟨u, hu, rfl⟩ := List.mem_map.mp h
            have := dep_mem hu
            exact ⟨oks_mem ho u hu, by show 1 ≤ d + 1; omega, by show d + 1 + dep u ≤ 13; omega⟩
        simp only [tv, tvs_map]
        cases a with
        | true => rw [if_pos rfl]; exact key "and" (by decide +kernel) (by decide +kernel) (by rw [p5]; exact r5a g0) (by rw [p4]; exact r4a)
        | false => rw [if_neg (by decide)]; exact key "or" (by decide +kernel) (by decide +kernel) (by rw [p5]; exact r5o g0) (by rw [p4]; exact r4o)
/-- fits_test -/
theorem f6 (k n : Nat) (hn : n ≤ 1000) (t : Tst) (ho : Ok n 1000000000 1000000000000 t) (hd : dep t ≤ 12) (hc : cnt t ≤ 4000) (st : List Cell) : evP TT (k + 5) 6 [.int n, tv t] st = .ok (.val (.bl true)) st := by
  rw [p6, m6_eq]
  obtain ⟨many', s4, s5, e⟩ := fit_loop k n hn (.val (tv t)) st 4000 [(t, 1)] 0 .none .none WF (by simp [tot]; omega) (by omega) (by omega) (fun e he => by rw [List.mem_singleton] at he; subst he; exact ⟨ho, by show (1 : Int) ≤ 1; omega, by show (1 : Int) + dep t ≤ 13; omega⟩) (by unfold WF; omega)
  have a1 : sPar 2 3 (xLst [(xTup [(rdSlot 1), (ret (.val (.int (1))))])]) (ret (.val (.int (0)))) ⟨[.val (.int n), .val (tv t), .none, .none, .none, .none, .none, .none], st⟩ = .ok .nx ⟨[.val (.int n), .val (tv t), .own (.lst ([(t, 1)].map sp)), .val (.int 0), .none, .none, .none, .none], st⟩ := by
    simp only [List.map_cons, List.map_nil, sp]
    generalize tv t = T
    simp
  rw [seqB_cons, a1, bind_ok]; dsimp only
  rw [seqB_cons, e, bind_ok]
  rfl
end Ev

set_option linter.all false
set_option maxRecDepth 100000
set_option maxHeartbeats 1000000
namespace Ev
open PySem PySem.Spec L2
mutual
theorem ok_mono {n : Nat} {R B R' B' : Int} (hR : R ≤ R') (hB : B ≤ B') : ∀ t : Tst, Ok n R B t → Ok n R' B' t
  | .most r m, h => by
    simp only [Ok] at h ⊢
    exact ⟨h.1, fun x hx => by have := h.2.1 x hx; omega, by omega, by omega⟩
  | .div d r m, h => by
    simp only [Ok] at h ⊢
    exact ⟨h.1, fun x hx => by have := h.2.1 x hx; omega, ⟨by omega, by omega⟩, h.2.2.2⟩
  | .not t, h => by
    simp only [Ok] at h ⊢
    exact ok_mono hR hB t h
  | .knot a ts, h => by
    simp only [Ok] at h ⊢
    exact oks_mono hR hB ts h
theorem oks_mono {n : Nat} {R B R' B' : Int} (hR : R ≤ R') (hB : B ≤ B') : ∀ ts : List Tst, Oks n R B ts → Oks n R' B' ts
  | [], _ => by simp [Oks]
  | t :: ts, h => by
    simp only [Oks] at h ⊢
    exact ⟨ok_mono hR hB t h.1, oks_mono hR hB ts h.2⟩
end
end Ev

set_option linter.all false
set_option maxRecDepth 100000
set_option maxHeartbeats 1000000
namespace Ev
open PySem PySem.Spec L2
theorem ints_of {Q : Int → Prop} : ∀ vs : List PV, (∀ v ∈ vs, ∃ z, v = .int z ∧ Q z) → ∃ p : List Int, vs = p.map .int ∧ ∀ x ∈ p, Q x
  | [], _ => ⟨[], rfl, fun _ h => nomatch h⟩
  | v :: vs, h => by
    obtain ⟨z, rfl, hz⟩ := h v (List.mem_cons_self ..)
    obtain ⟨p, rfl, hp⟩ := ints_of vs fun w hw => h w (List.mem_cons_of_mem _ hw)
    refine ⟨z :: p, rfl, fun x hx => ?_⟩
    rcases List.mem_cons.mp hx with e | e
    · subst e; exact hz
    · exact hp x e
theorem rng_len (n : Nat) : (rngP 0 n).length = n := by
  unfold rngP
  rw [List.length_map, List.length_range]
  omega
section
variable {Φ : Orc} {n r1 r2 r3 : Int} {x v : PV} {a b : Sl} {st st1 st2 st3 st4 : List Cell} {vs : List PV}
end
end Ev

set_option linter.all false
set_option maxRecDepth 100000
set_option maxHeartbeats 1000000
namespace Ev
open PySem PySem.Spec L2
def v1 (Φ : Orc) : M Fl := (sIf (bnd (xCmp .In (xSub (rdSlot 0) (ret (.val (.int (0))))) (xTup [(ret (.val (.str "most"))), (ret (.val (.str "div")))])) asBool) (seqB [(sRet (xLst [(rdSlot 0)]))]) (seqB []))
def v2 (Φ : Orc) : M Fl := (sSet 1 false (xLst []))
def v3b1 (Φ : Orc) : M Fl := (sSet 1 false (xBin .Add (rdSlot 1) (xCall Φ 42 [(rdSlot 2)])))
def v3bB (Φ : Orc) : M Fl := seqB [v3b1 Φ]
def v3 (Φ : Orc) : M Fl := (sFor (setSlot 2) (v3bB Φ) (iOf (xIf (bnd (xCmp .Eq (xSub (rdSlot 0) (ret (.val (.int (0))))) (ret (.val (.str "not")))) asBool) (xSl (rdSlot 0) (some (ret (.val (.int (1))))) none) (xSub (rdSlot 0) (ret (.val (.int (1))))))))
def v4 (Φ : Orc) : M Fl := (sRet (rdSlot 1))
def vB (Φ : Orc) : M Fl := seqB [v1 Φ, v2 Φ, v3 Φ, v4 Φ]
theorem m25_eq (Φ : Orc) : m42 Φ = vB Φ := rfl
/-! the leaves of a test -/
mutual
def lvs : Tst → List Tst
  | .most r n => [.most r n]
  | .div d r n => [.div d r n]
  | .not t => lvs t
  | .knot _ ts => lvss ts
def lvss : List Tst → List Tst
  | [] => []
  | t :: ts => lvs t ++ lvss ts
end
mutual
theorem lvs_len : ∀ t : Tst, (lvs t).length ≤ cnt t
  | .most r n => by simp [lvs, cnt]
  | .div d r n => by simp [lvs, cnt]
  | .not t => by have := lvs_len t; simp only [lvs, cnt]; omega
  | .knot _ ts => by have := lvss_len ts; simp only [lvs, cnt]; omega
theorem lvss_len : ∀ ts : List Tst, (lvss ts).length ≤ cnts ts
  | [] => by simp [lvss]
  | t :: ts => by have := lvs_len t; have := lvss_len ts; simp only [lvss, cnts, List.length_append]; omega
end
section
variable {Φ : Orc} {T R A B D V : PV} {st : List Cell} {vs zs acc : List PV} {x2 : Sl}
theorem r42m : finO (m42 Φ ⟨[.val (.tup [.str "most", A, B]), .none, .none], st⟩) = .ok (.fresh (.lst [.tup [.str "most", A, B]])) st := by
  unfold m42
  simp
theorem r42d : finO (m42 Φ ⟨[.val (.tup [.str "div", D, A, B]), .none, .none], st⟩) = .ok (.fresh (.lst [.tup [.str "div", D, A, B]])) st := by
  unfold m42
  simp
theorem v1r {nm : Str} (hn : (("most" : Str) == nm) = false) (hn2 : (("div" : Str) == nm) = false) : v1 Φ ⟨[.val (.tup [.str nm, R]), .none, .none], st⟩ = .ok .nx ⟨[.val (.tup [.str nm, R]), .none, .none], st⟩ := by
  unfold v1
  simp [hn, hn2]
theorem v2r : v2 Φ ⟨[.val T, .none, .none], st⟩ = .ok .nx ⟨[.val T, .own (.lst []), .none], st⟩ := by
  unfold v2
  simp
theorem v3b1r (h : Φ 42 [V] st = .ok (.fresh (.lst zs)) st) (hl : acc.length + zs.length ≤ 16777216) : v3bB Φ ⟨[.val T, .own (.lst acc), .val V], st⟩ = .ok .nx ⟨[.val T, .own (.lst (acc ++ zs)), .val V], st⟩ := by
  unfold v3bB v3b1
  simp [h, hl]
abbrev itr25 : M (List PV) := (iOf (xIf (bnd (xCmp .Eq (xSub (rdSlot 0) (ret (.val (.int (0))))) (ret (.val (.str "not")))) asBool) (xSl (rdSlot 0) (some (ret (.val (.int (1))))) none) (xSub (rdSlot 0) (ret (.val (.int (1)))))))
theorem itr_n : itr25 ⟨[.val (.tup [.str "not", R]), .own (.lst acc), .none], st⟩ = .ok [R] ⟨[.val (.tup [.str "not", R]), .own (.lst acc), .none], st⟩ := by
  simp [cut_tail]
theorem itr_k {nm : Str} (n3 : nm ≠ "not") : itr25 ⟨[.val (.tup [.str nm, .tup vs]), .own (.lst acc), .none], st⟩ = .ok vs ⟨[.val (.tup [.str nm, .tup vs]), .own (.lst acc), .none], st⟩ := by
  simp [n3]
theorem v4r : v4 Φ ⟨[.val T, .own (.lst acc), x2], st⟩ = .ok (.rt (.fresh (.lst acc))) ⟨[.val T, .none, x2], st⟩ := by
  unfold v4
  simp
theorem v_run {nm : Str} (h1 : v1 Φ ⟨[.val (.tup [.str nm, R]), .none, .none], st⟩ = .ok .nx ⟨[.val (.tup [.str nm, R]), .none, .none], st⟩)
    (h2 : itr25 ⟨[.val (.tup [.str nm, R]), .own (.lst []), .none], st⟩ = .ok vs ⟨[.val (.tup [.str nm, R]), .own (.lst []), .none], st⟩)
    (h3 : forM (setSlot 2) (v3bB Φ) vs ⟨[.val (.tup [.str nm, R]), .own (.lst []), .none], st⟩ = .ok .nx ⟨[.val (.tup [.str nm, R]), .own (.lst acc), x2], st⟩) :
    finO (m42 Φ ⟨[.val (.tup [.str nm, R]), .none, .none], st⟩) = .ok (.fresh (.lst acc)) st := by
  unfold itr25 at h2
  rw [m25_eq]
  unfold vB
  rw [seqB_cons, h1, bind_ok]; dsimp only
  rw [seqB_cons, v2r, bind_ok]; dsimp only
  rw [seqB_cons]
  unfold v3
  rw [sFor_run, h2, bind_ok, h3, bind_ok]; dsimp only
  rw [seqB_one, v4r]
  rfl
end
theorem leaves_loop (Φ : Orc) (T : PV) (st : List Cell) : ∀ (ts : List Tst) (acc : List PV) (x2 : Sl), (∀ t ∈ ts, Φ 42 [tv t] st = .ok (.fresh (.lst ((lvs t).map tv))) st) → acc.length + cnts ts ≤ 16777216 →
    ∃ y2, forM (setSlot 2) (v3bB Φ) (ts.map tv) ⟨[.val T, .own (.lst acc), x2], st⟩ = .ok .nx ⟨[.val T, .own (.lst (acc ++ (lvss ts).map tv)), y2], st⟩
  | [], acc, x2, _, _ => ⟨x2, by simp [lvss] <;> try rfl⟩
  | t :: ts, acc, x2, h, hl => by
    simp only [cnts] at hl
    have l1 := lvs_len t
    obtain ⟨y2, e⟩ := leaves_loop Φ T st ts (acc ++ (lvs t).map tv) (.val (tv t)) (fun u hu => h u (List.mem_cons_of_mem _ hu)) (by rw [List.length_append, List.length_map]; omega)
    refine ⟨y2, ?_⟩
    have g := v3b1r (T := T) (acc := acc) (h t (List.mem_cons_self ..)) (by rw [List.length_map]; omega)
    rw [List.append_assoc, ← List.map_append] at e
    simp only [lvss]
    rw [List.map_cons]
    generalize tv t = V at g e ⊢
    have a1 : setSlot 2 V ⟨[.val T, .own (.lst acc), x2], st⟩ = .ok () ⟨[.val T, .own (.lst acc), .val V], st⟩ := by simp
    rw [forM_cons, a1, bind_ok, bnd_run, g, bind_ok, forK_nx, e]
theorem f42 : ∀ (k : Nat) (t : Tst), dep t ≤ k → cnt t ≤ 100000 → ∀ st, evP TT (k + 1) 42 [tv t] st = .ok (.fresh (.lst ((lvs t).map tv))) st := by
  intro k
  induction k with
  | zero => intro t h; cases t <;> simp [dep] at h
  | succ k ih =>
    intro t hd hc st
    rw [p42]
    cases t with
    | most r m => simp only [lvs, List.map, tv]; exact r42m
    | div d r m => simp only [lvs, List.map, tv]; exact r42d
    | not t =>
      simp only [dep] at hd
      simp only [cnt] at hc
      obtain ⟨y2, e⟩ := leaves_loop (evP TT (k + 1)) (.tup [.str "not", tv t]) st [t] [] .none (fun u hu => by
        rw [List.mem_singleton] at hu; subst hu; exact ih u (by omega) (by omega) st) (by simp [cnts]; omega)
      simp only [lvss, List.append_nil, List.nil_append] at e
      simp only [tv, lvs]
      exact v_run (v1r (by decide +kernel) (by decide +kernel)) itr_n e
    | knot a ts =>
      simp only [dep] at hd
      simp only [cnt] at hc
      have loop := fun T => leaves_loop (evP TT (k + 1)) T st ts [] .none (fun u hu => ih u (by have := dep_mem hu; omega) (by have := cnt_mem hu; omega) st) (by simp; omega)
      simp only [tv, lvs, tvs_map]
      cases a with
      | true =>
        obtain ⟨y2, e⟩ := loop (.tup [.str "and", .tup (ts.map tv)])
        rw [if_pos rfl]
        exact v_run (v1r (by decide +kernel) (by decide +kernel)) (itr_k s3) e
      | false =>
        obtain ⟨y2, e⟩ := loop (.tup [.str "or", .tup (ts.map tv)])
        rw [if_neg (by decide)]
        exact v_run (v1r (by decide +kernel) (by decide +kernel)) (itr_k s4) e
end Ev

set_option linter.all false
set_option maxRecDepth 100000
set_option maxHeartbeats 1000000
namespace Ev
open PySem PySem.Spec L2
/-- a comprehension with a test, over told things -/
theorem compGo_fl {α : Type} {own : List Nat} {tgt : PV → M Unit} {tst : M Bool} {elt : M RE} (I : ES → Prop) (f g : α → PV) (c : α → Bool) : ∀ (xs : List α),
    (∀ x ∈ xs, ∀ s, I s → ∃ s1 s2, tgt (f x) ⟨wipeE s.env own, s.st⟩ = .ok () s1 ∧ tst s1 = .ok (c x) s2 ∧ (c x = true → ∃ r s3 s4, elt s2 = .ok r s3 ∧ share r s3 = .ok (g x) s4 ∧ I s4) ∧ (c x = false → I s2)) →
    ∀ s, I s → ∃ s', compGo own tgt tst elt true (xs.map f) s = .ok ((xs.filter c).map g) s' ∧ I s'
  | [], _, s, hs => ⟨s, rfl, hs⟩
  | x :: xs, h, s, hs => by
    obtain ⟨s1, s2, e1, e2, e3, e4⟩ := h x (List.mem_cons_self ..) s hs
    have ih := compGo_fl I f g c xs fun x hx => h x (List.mem_cons_of_mem _ hx)
    obtain ⟨env, st⟩ := s
    rw [List.map_cons]
    cases hc : c x with
    | false =>
      obtain ⟨s', g1, g2⟩ := ih s2 (e4 hc)
      refine ⟨s', ?_, g2⟩
      rw [hc] at e2
      rw [compGo_cons, e1, bind_ok, bnd_run, e2, bind_ok, if_neg (by decide), g1, List.filter_cons_of_neg (by rw [hc]; decide)]
    | true =>
      obtain ⟨r, s3, s4, e5, e6, e7⟩ := e3 hc
      obtain ⟨s', g1, g2⟩ := ih s4 e7
      refine ⟨s', ?_, g2⟩
      rw [hc] at e2
      rw [compGo_cons, e1, bind_ok, bnd_run, e2, bind_ok, if_pos rfl, bnd_run, e5, bind_ok, bnd_run, e6, bind_ok, bnd_run, g1, bind_ok, List.filter_cons_of_pos hc]
      rfl
mutual
/-- a number that all divisors divide -/
def Dv (N : Int) : Tst → Prop
  | .most _ _ => True
  | .div d _ _ => N % d = 0
  | .not t => Dv N t
  | .knot _ ts => Dvs N ts
def Dvs (N : Int) : List Tst → Prop
  | [] => True
  | t :: ts => Dv N t ∧ Dvs N ts
end
theorem eq_tests (l : List Tst) (h : ∀ t ∈ l, dep t ≤ 30) : eqPV (.lst (l.map tv)) (.lst []) = some l.isEmpty := by
  unfold eqPV
  have t1 : toPy (.lst (l.map tv)) = some (.list (tds l)) := by rw [toPy_lst, ← tvs_map, toPys_tvs]; rfl
  have t2 : toPy (.lst []) = some (.list []) := by rw [toPy_lst, toPys_nil]; rfl
  rw [t1, t2]
  dsimp only
  have dd : ∀ l : List Tst, (∀ t ∈ l, dep t ≤ 30) → deps l ≤ 30 := fun l => by
    induction l with
    | nil => intro _; simp [deps]
    | cons t l ih =>
      intro h
      have := h t (List.mem_cons_self ..)
      have := ih fun u hu => h u (List.mem_cons_of_mem _ hu)
      simp only [deps]; omega
  have s1 : SeqAt.shaped (.list (tds l)) = true := by
    show (PyData.canLay0 _ && decide (PyData.depth _ ≤ 64)) = true
    have d0 := depth_tds l
    have d3 := dd l h
    have d1 : PyData.depth (.list (tds l)) ≤ 64 := by simp only [PyData.depth]; omega
    have d2 : PyData.canLay0 (.list (tds l)) = true := by simp only [PyData.canLay0]; exact lay_tds l
    rw [d2, decide_eq_true d1]
    rfl
  have s2 : SeqAt.shaped (.list []) = true := by decide +kernel
  rw [s1, s2, if_pos (by rfl)]
  cases l with
  | nil => simp [tds, PyData.eqv, PyData.eqvAll]
  | cons e l => simp [tds, PyData.eqv, PyData.eqvAll]
/-- a leaf whose divisor does not go -/
def badl (N : Int) : Tst → Bool
  | .div d _ _ => !decide (N % d = 0)
  | _ => false
def goodb (t : Tst) (N : Int) : Bool := ((lvs t).filter (badl N)).isEmpty
mutual
theorem good_dv (N : Int) : ∀ t : Tst, (lvs t).filter (badl N) = [] ↔ Dv N t
  | .most r n => by simp [lvs, badl, Dv]
  | .div d r n => by simp [lvs, badl, Dv]
  | .not t => by simp only [lvs, Dv]; exact good_dv N t
  | .knot _ ts => by simp only [lvs, Dv]; exact good_dvs N ts
theorem good_dvs (N : Int) : ∀ ts : List Tst, (lvss ts).filter (badl N) = [] ↔ Dvs N ts
  | [] => by simp [lvss, Dvs]
  | t :: ts => by
    have a := good_dv N t
    have b := good_dvs N ts
    rw [lvss, Dvs, List.filter_append, List.append_eq_nil_iff, a, b]
end
theorem goodb_iff (t : Tst) (N : Int) : goodb t N = true ↔ Dv N t := by
  rw [← good_dv]
  exact List.isEmpty_iff
/-- what a leaf is -/
def isLf (R B : Int) (n : Nat) : Tst → Prop
  | .most r m => Ok n R B (.most r m)
  | .div d r m => Ok n R B (.div d r m)
  | _ => False
mutual
theorem lvs_lf {R B : Int} {n : Nat} : ∀ t : Tst, Ok n R B t → ∀ u ∈ lvs t, isLf R B n u
  | .most r m, h => by intro u hu; simp only [lvs, List.mem_singleton] at hu; subst hu; exact h
  | .div d r m, h => by intro u hu; simp only [lvs, List.mem_singleton] at hu; subst hu; exact h
  | .not t, h => by simp only [Ok] at h; simp only [lvs]; exact lvs_lf t h
  | .knot _ ts, h => by simp only [Ok] at h; simp only [lvs]; exact lvss_lf ts h
theorem lvss_lf {R B : Int} {n : Nat} : ∀ ts : List Tst, Oks n R B ts → ∀ u ∈ lvss ts, isLf R B n u
  | [], _ => by simp [lvss]
  | t :: ts, h => by
    simp only [Oks] at h
    intro u hu
    simp only [lvss, List.mem_append] at hu
    rcases hu with hu | hu
    · exact lvs_lf t h.1 u hu
    · exact lvss_lf ts h.2 u hu
end
@[simp] theorem iRng2_run (a b : M RE) (s : ES) : iRng2 a b s = (a s).bind fun r => bnd b fun r' => rng2M r r' := rfl
@[simp] theorem rng2M_run (i j : Int) (s : ES) : rng2M (.val (.int i)) (.val (.int j)) s = if rngOk i && rngOk j then .ok (rngP i j) s else .bad := rfl
abbrev tst28 : M Bool := tBool .And [(bnd (xCmp .Eq (xSub (rdSlot 4) (ret (.val (.int (0))))) (ret (.val (.str "div")))) asBool), (bnd (xCmp .NotEq (xBin .Mod (xBi .int [(rdSlot 3)]) (xSub (rdSlot 4) (ret (.val (.int (1)))))) (ret (.val (.int (0))))) asBool)]
abbrev out28 (Φ : Orc) : M Bool := (bnd (xCmp .Eq (xComp [2, 4] (setSlot 4) tst28 (rdSlot 4) (iOf (xCall Φ 42 [(rdSlot 0)]))) (xLst [])) asBool)
section
variable {Φ : Orc} {T A B : PV} {N d P : Int} {st : List Cell} {vs ws : List PV} {a b : Sl}
theorem tst_m : tst28 ⟨[.val T, .none, .none, .val (.int N), .val (.tup [.str "most", A, B])], st⟩ = .ok false ⟨[.val T, .none, .none, .val (.int N), .val (.tup [.str "most", A, B])], st⟩ := by
  simp [s14]
theorem tst_d (hd : 0 < d) : tst28 ⟨[.val T, .none, .none, .val (.int N), .val (.tup [.str "div", .int d, A, B])], st⟩ = .ok (!decide (N % d = 0)) ⟨[.val T, .none, .none, .val (.int N), .val (.tup [.str "div", .int d, A, B])], st⟩ := by
  have h0 : d ≠ 0 := by omega
  have e := Int.fmod_eq_emod_of_nonneg N (Int.le_of_lt hd)
  simp [hd, h0, e]
theorem out_run {q : Bool} (h : Φ 42 [T] st = .ok (.fresh (.lst vs)) st) (c1 : compGo [2, 4] (setSlot 4) tst28 (rdSlot 4) true vs ⟨[.val T, .none, .none, .val (.int N), .none], st⟩ = .ok ws ⟨[.val T, .none, a, .val (.int N), b], st⟩) (hl : ws.length ≤ 16777216) (he : eqPV (.lst ws) (.lst []) = some q) :
    out28 Φ ⟨[.val T, .none, .none, .val (.int N), .none], st⟩ = .ok q ⟨[.val T, .none, .none, .val (.int N), .none], st⟩ := by
  simp [h, c1, hl, he]
theorem r45 (c1 : compGo [2, 3] (setSlot 3) (out28 Φ) (rdSlot 3) true (rngP 1 13) ⟨[.val T, .none, .none, .none, .none], st⟩ = .ok ws ⟨[.val T, .none, a, b, .none], st⟩) (hl : ws.length ≤ 16777216) (h : L2.atI ws 0 = some (.int P)) :
    finO (m45 Φ ⟨[.val T, .none, .none, .none, .none], st⟩) = .ok (.val (.int P)) st := by
  unfold m45
  simp [c1, hl, h]
end
theorem rng12 : rngP 1 13 = ([1, 2, 3, 4, 5, 6, 7, 8, 9, 10, 11, 12] : List Int).map .int := rfl
/-- the period -/
theorem f45 (k n : Nat) {R B : Int} (t : Tst) (ho : Ok n R B t) (N0 : Int) (hN0 : 1 ≤ N0 ∧ N0 ≤ 12) (hv : Dv N0 t) (hd : dep t ≤ k) (hc : cnt t ≤ 100000) (st : List Cell) : ∃ P : Int, evP TT (k + 2) 45 [tv t] st = .ok (.val (.int P)) st ∧ 1 ≤ P ∧ P ≤ 12 ∧ Dv P t ∧ ∀ Q : Int, 1 ≤ Q → Q ≤ 12 → Dv Q t → P ≤ Q := by
  have g := f42 k t hd hc st
  have gl := lvs_len t
  have inner : ∀ N : Int, out28 (evP TT (k + 1)) ⟨[.val (tv t), .none, .none, .val (.int N), .none], st⟩ = .ok (goodb t N) ⟨[.val (tv t), .none, .none, .val (.int N), .none], st⟩ := fun N => by
    generalize tv t = T at g ⊢
    obtain ⟨s', c1, c2, a, b, c3⟩ := compGo_fl (own := [2, 4]) (tgt := setSlot 4) (tst := tst28) (elt := rdSlot 4)
      (I := fun s => s.st = st ∧ ∃ a b, s.env = [.val T, .none, a, .val (.int N), b]) (f := tv) (g := tv) (c := badl N) (lvs t) (fun u hu s ⟨h1, a, b, h2⟩ => by
        obtain ⟨env, st'⟩ := s
        cases h1; cases h2
        have lf := lvs_lf t ho u hu
        cases u with
        | most r m =>
          refine ⟨⟨[.val T, .none, .none, .val (.int N), .val (tv (.most r m))], st'⟩, ⟨[.val T, .none, .none, .val (.int N), .val (tv (.most r m))], st'⟩, by simp, ?_, fun h => ?_, fun _ => ⟨rfl, _, _, rfl⟩⟩
          · rw [tv]; exact tst_m
          · exact absurd h (by simp [badl])
        | div d r m =>
          have d0 : 0 < d := by
            unfold isLf at lf
            simp only [Ok] at lf
            omega
          refine ⟨⟨[.val T, .none, .none, .val (.int N), .val (tv (.div d r m))], st'⟩, ⟨[.val T, .none, .none, .val (.int N), .val (tv (.div d r m))], st'⟩, by simp, ?_, fun h => ?_, fun _ => ⟨rfl, _, _, rfl⟩⟩
          · rw [tv]; exact tst_d d0
          · exact ⟨.val (tv (.div d r m)), ⟨[.val T, .none, .none, .val (.int N), .val (tv (.div d r m))], st'⟩, ⟨[.val T, .none, .none, .val (.int N), .val (tv (.div d r m))], st'⟩, by simp, rfl, rfl, _, _, rfl⟩
        | not u => exact lf.elim
        | knot a ts => exact lf.elim) ⟨[.val T, .none, .none, .val (.int N), .none], st⟩ ⟨rfl, _, _, rfl⟩
    obtain ⟨env, st'⟩ := s'
    cases c2; cases c3
    have fl := List.length_filter_le (badl N) (lvs t)
    have e := eq_tests ((lvs t).filter (badl N)) (fun u hu => by
      have lf := lvs_lf t ho u (List.mem_filter.mp hu).1
      cases u with
      | most r m => simp [dep]
      | div d r m => simp [dep]
      | not u => exact lf.elim
      | knot a ts => exact lf.elim)
    exact out_run g c1 (by rw [List.length_map]; omega) e
  obtain ⟨s', c1, c2, a, b, c3⟩ := compGo_fl (own := [2, 3]) (tgt := setSlot 3) (tst := out28 (evP TT (k + 1))) (elt := rdSlot 3)
    (I := fun s => s.st = st ∧ ∃ a b, s.env = [.val (tv t), .none, a, b, .none]) (f := .int) (g := .int) (c := goodb t) [1, 2, 3, 4, 5, 6, 7, 8, 9, 10, 11, 12] (fun N hN s ⟨h1, a, b, h2⟩ => by
      obtain ⟨env, st'⟩ := s
      cases h1; cases h2
      have i := inner N
      generalize tv t = T at i ⊢
      refine ⟨⟨[.val T, .none, .none, .val (.int N), .none], st'⟩, ⟨[.val T, .none, .none, .val (.int N), .none], st'⟩, by simp, i, fun h => ?_, fun _ => ⟨rfl, _, _, rfl⟩⟩
      exact ⟨.val (.int N), ⟨[.val T, .none, .none, .val (.int N), .none], st'⟩, ⟨[.val T, .none, .none, .val (.int N), .none], st'⟩, by simp, rfl, rfl, _, _, rfl⟩) ⟨[.val (tv t), .none, .none, .none, .none], st⟩ ⟨rfl, _, _, rfl⟩
  obtain ⟨env, st'⟩ := s'
  cases c2; cases c3
  have m6 : N0 ∈ ([1, 2, 3, 4, 5, 6, 7, 8, 9, 10, 11, 12] : List Int).filter (goodb t) := List.mem_filter.mpr ⟨by simp only [List.mem_cons]; omega, (goodb_iff t N0).mpr hv⟩
  have fl := List.length_filter_le (goodb t) ([1, 2, 3, 4, 5, 6, 7, 8, 9, 10, 11, 12] : List Int)
  have fm : ∀ P ∈ ([1, 2, 3, 4, 5, 6, 7, 8, 9, 10, 11, 12] : List Int).filter (goodb t), 1 ≤ P ∧ P ≤ 12 ∧ Dv P t := fun P h => by
    obtain ⟨q1, q2⟩ := List.mem_filter.mp h
    have : ∀ P ∈ ([1, 2, 3, 4, 5, 6, 7, 8, 9, 10, 11, 12] : List Int), 1 ≤ P ∧ P ≤ 12 := by decide
    exact ⟨(this P q1).1, (this P q1).2, (goodb_iff t P).mp q2⟩
  have pw : ∀ Q : Int, 1 ≤ Q → Q ≤ 12 → Dv Q t → Q ∈ ([1, 2, 3, 4, 5, 6, 7, 8, 9, 10, 11, 12] : List Int).filter (goodb t) := fun Q q1 q2 q3 => List.mem_filter.mpr ⟨by simp only [List.mem_cons]; omega, (goodb_iff t Q).mpr q3⟩
  have srt : (([1, 2, 3, 4, 5, 6, 7, 8, 9, 10, 11, 12] : List Int).filter (goodb t)).Pairwise (· ≤ ·) := List.Pairwise.filter _ (by decide)
  rw [p45]
  generalize ([1, 2, 3, 4, 5, 6, 7, 8, 9, 10, 11, 12] : List Int).filter (goodb t) = F at c1 m6 fl fm pw srt
  cases F with
  | nil => cases m6
  | cons P F =>
    obtain ⟨g1, g2, g3⟩ := fm P (List.mem_cons_self ..)
    refine ⟨P, ?_, g1, g2, g3, fun Q q1 q2 q3 => ?_⟩
    rotate_left
    · rcases List.mem_cons.mp (pw Q q1 q2 q3) with e | e
      · rw [e]; exact Int.le_refl _
      · exact (List.pairwise_cons.mp srt).1 Q e
    rw [← rng12] at c1
    exact r45 c1 (by simp only [List.length_map]; simp only [List.length_cons, List.length_nil] at fl ⊢; omega) (by simp)
end Ev

set_option linter.all false
set_option maxRecDepth 100000
set_option maxHeartbeats 1000000
namespace Ev
open PySem PySem.Spec L2
abbrev elt46 (Φ : Orc) : M RE := xIf (bnd (xCmp .Eq (rdSlot 8) (ret (.val (.int (0))))) asBool) (xBin .Sub (xCall Φ 40 [(rdSlot 0), (xBin .Add (xBin .Mult (ret (.val (.int (2)))) (rdSlot 2)) (ret (.val (.int (1)))))]) (rdSlot 2)) (xCall Φ 41 [(rdSlot 0), (xLst [(xNeg (ret (.val (.int (1))))), (ret (.val (.int (0)))), (ret (.val (.int (1)))), (xNeg (ret (.val (.int (1))))), (ret (.val (.int (1))))])])
section
variable {Φ : Orc} {n lead m r q i : Int} {v D R : PV} {a b x5 x6 : Sl} {st st1 st2 st3 : List Cell} {vs : List PV}
theorem one46a (h : Φ 40 [.box 0, .int (2 * lead + 1)] st = .ok (.val (.int r)) st1) :
    oneM (setSlot 8) (ret true) (elt46 Φ) (.int 0) ⟨wipeE [.val (.box 0), .val (.int n), .val (.int lead), .val (.int m), .val D, .none, .none, a, b] [7, 8], st⟩ = .ok (.int (r - lead)) ⟨[.val (.box 0), .val (.int n), .val (.int lead), .val (.int m), .val D, .none, .none, .none, .val (.int 0)], st1⟩ := by
  simp [h]
theorem one46b (hi : i ≠ 0) (h : Φ 41 [.box 0, .lst [.int (-1), .int 0, .int 1, .int (-1), .int 1]] st = .ok (.val v) st1) :
    oneM (setSlot 8) (ret true) (elt46 Φ) (.int i) ⟨wipeE [.val (.box 0), .val (.int n), .val (.int lead), .val (.int m), .val D, .none, .none, a, b] [7, 8], st⟩ = .ok v ⟨[.val (.box 0), .val (.int n), .val (.int lead), .val (.int m), .val D, .none, .none, .none, .val (.int i)], st1⟩ := by
  simp [hi, h]
end
theorem rng_int (n : Nat) (x : PV) (h : x ∈ rngP 0 n) : ∃ i : Int, x = .int i := by
  unfold rngP at h
  obtain ⟨k, _, rfl⟩ := List.mem_map.mp h
  exact ⟨_, rfl⟩
/-- a comprehension whose outcomes go with what is gone over -/
theorem compGo_fx {own : List Nat} {tgt : PV → M Unit} {tst : M Bool} {elt : M RE} (I : ES → Prop) (Pv : PV → PV → Prop) : ∀ (xs : List PV), (∀ x ∈ xs, ∀ s, I s → ∃ v s', oneM tgt tst elt x ⟨wipeE s.env own, s.st⟩ = .ok v s' ∧ I s' ∧ Pv x v) →
    ∀ s, I s → ∃ vs s', compGo own tgt tst elt true xs s = .ok vs s' ∧ I s' ∧ vs.length = xs.length ∧ ∀ (i : Nat) (x v : PV), xs[i]? = some x → vs[i]? = some v → Pv x v
  | [], _, s, hs => ⟨[], s, rfl, hs, rfl, fun i x v h => by simp at h⟩
  | x :: xs, h, s, hs => by
    obtain ⟨v, s', h1, h2, h3⟩ := h x (List.mem_cons_self ..) s hs
    obtain ⟨s1, s2, s3, r, e1, e2, e3, e4⟩ := oneM_eq h1
    obtain ⟨vs, s'', g1, g2, g3, g4⟩ := compGo_fx I Pv xs (fun x hx => h x (List.mem_cons_of_mem _ hx)) s' h2
    refine ⟨v :: vs, s'', ?_, g2, by rw [List.length_cons, List.length_cons, g3], fun i y w e5 e6 => ?_⟩
    · obtain ⟨env, st⟩ := s
      rw [compGo_cons, e1, bind_ok, bnd_run, e2, bind_ok, if_pos rfl, bnd_run, e3, bind_ok, bnd_run, e4, bind_ok, bnd_run, g1, bind_ok]
      rfl
    · cases i with
      | zero => cases e5; cases e6; exact h3
      | succ i => exact g4 i y w e5 e6
/-- the numbers of a leaf are small -/
def rowS (n : Nat) (r : List Int) (m : Int) : Prop := r.length = n ∧ (∀ x ∈ r.take 1, -3 ≤ x ∧ x ≤ 3) ∧ (∀ x ∈ r.drop 1, -1 ≤ x ∧ x ≤ 1) ∧ -20 ≤ m ∧ m ≤ 20
mutual
def Sml (n : Nat) (D : List Int) : Tst → Prop
  | .most r m => rowS n r m
  | .div d r m => d ∈ D ∧ rowS n r m
  | .not t => Sml n D t
  | .knot _ ts => Smls n D ts
def Smls (n : Nat) (D : List Int) : List Tst → Prop
  | [] => True
  | t :: ts => Sml n D t ∧ Smls n D ts
end
/-- a drawn row -/
theorem row46 (k n : Nat) (lead m : Int) (D : PV) (hl0 : 0 ≤ lead) (hl1 : lead ≤ 3) (st : List Cell) (hc : Cups st) : ∃ (p : List Int) (a b : Sl) (st' : List Cell),
    compGo [7, 8] (setSlot 8) (ret true) (elt46 (evP TT (k + 2))) true (rngP 0 n) ⟨[.val (.box 0), .val (.int n), .val (.int lead), .val (.int m), .val D, .none, .none, .none, .none], st⟩ = .ok (p.map .int) ⟨[.val (.box 0), .val (.int n), .val (.int lead), .val (.int m), .val D, .none, .none, a, b], st'⟩ ∧ (∀ z, -20 ≤ z → z ≤ 20 → rowS n p z) ∧ Cups st' := by
  obtain ⟨vs, s', c1, ⟨⟨a, b, c2⟩, c3⟩, c4, c5⟩ := compGo_fx (own := [7, 8]) (tgt := setSlot 8) (tst := ret true) (elt := elt46 (evP TT (k + 2)))
    (I := fun s => (∃ a b, s.env = [.val (.box 0), .val (.int n), .val (.int lead), .val (.int m), .val D, .none, .none, a, b]) ∧ Cups s.st) (Pv := fun x v => ∃ z, v = .int z ∧ (-3 ≤ z ∧ z ≤ 3) ∧ (x ≠ .int 0 → -1 ≤ z ∧ z ≤ 1)) (rngP 0 n) (fun x hx s ⟨⟨a, b, h1⟩, h2⟩ => by
      obtain ⟨env, st1⟩ := s
      cases h1
      obtain ⟨i, rfl⟩ := rng_int n x hx
      by_cases hi : i = 0
      · subst hi
        obtain ⟨r, t1, e1, x1, y1, hc⟩ := froll (k + 1) (2 * lead + 1) (by omega) (by omega) st1 h2
        exact ⟨_, _, one46a e1, ⟨⟨_, _, rfl⟩, hc⟩, _, rfl, by omega, fun h => absurd rfl h⟩
      · obtain ⟨v, t4, e4, hv, hc⟩ := fsome k [.int (-1), .int 0, .int 1, .int (-1), .int 1] (by simp) (by simp) st1 h2
        refine ⟨v, _, one46b hi e4, ⟨⟨_, _, rfl⟩, hc⟩, ?_⟩
        simp only [List.mem_cons, List.not_mem_nil, or_false] at hv
        rcases hv with rfl | rfl | rfl | rfl | rfl <;> exact ⟨_, rfl, by omega, fun _ => by omega⟩) ⟨[.val (.box 0), .val (.int n), .val (.int lead), .val (.int m), .val D, .none, .none, .none, .none], st⟩ ⟨⟨_, _, rfl⟩, hc⟩
  obtain ⟨env', st'⟩ := s'
  cases c2
  have rg : ∀ i : Nat, i < n → (rngP 0 n)[i]? = some (.int i) := fun i hi => by
    unfold rngP
    rw [List.getElem?_map, List.getElem?_range (by omega)]
    simp
  rw [rng_len] at c4
  have all : ∀ v ∈ vs, ∃ z, v = .int z ∧ True := fun v hv => by
    obtain ⟨i, hi, rfl⟩ := List.getElem_of_mem hv
    obtain ⟨z, hz, _⟩ := c5 i _ _ (rg i (by omega)) (List.getElem?_eq_getElem hi)
    exact ⟨z, hz, trivial⟩
  obtain ⟨p, rfl, _⟩ := ints_of vs all
  rw [List.length_map] at c4
  have at_ : ∀ (i : Nat) (x : Int), p[i]? = some x → (-3 ≤ x ∧ x ≤ 3) ∧ (i ≠ 0 → -1 ≤ x ∧ x ≤ 1) := fun i x h => by
    have hi : i < n := by
      have := (List.getElem?_eq_some_iff.mp h).1
      omega
    obtain ⟨z, hz, h1, h2⟩ := c5 i _ (.int x) (rg i hi) (by rw [List.getElem?_map, h]; rfl)
    cases hz
    exact ⟨h1, fun h => h2 fun e => by cases e; exact h rfl⟩
  refine ⟨p, a, b, st', c1, fun z z0 z1 => ⟨c4, fun x hx => ?_, fun x hx => ?_, z0, z1⟩, c3⟩
  · obtain ⟨i, hi⟩ := List.getElem?_of_mem hx
    have e := List.getElem?_eq_some_iff.mp hi
    have : p[i]? = some x := by
      rw [List.getElem?_take] at hi
      split at hi
      · exact hi
      · cases hi
    exact (at_ i x this).1
  · obtain ⟨i, hi⟩ := List.getElem?_of_mem hx
    rw [List.getElem?_drop] at hi
    exact (at_ (1 + i) x hi).2 (by omega)
end Ev

set_option linter.all false
set_option maxRecDepth 100000
set_option maxHeartbeats 1000000
namespace Ev
open PySem PySem.Spec L2
section
variable {Φ : Orc} {n lead m r q : Int} {v D : PV} {ds : List PV} {a b : Sl} {st st1 st2 st3 st4 : List Cell} {vs : List PV}
theorem r46a (rg : rngOk n = true) (c1 : compGo [7, 8] (setSlot 8) (ret true) (elt46 Φ) true (rngP 0 n) ⟨[.val (.box 0), .val (.int n), .val (.int lead), .val (.int m), .val (.lst ds), .none, .none, .none, .none], st⟩ = .ok vs ⟨[.val (.box 0), .val (.int n), .val (.int lead), .val (.int m), .val (.lst ds), .none, .none, a, b], st1⟩) (hl : vs.length ≤ 16777216)
    (h1 : Φ 40 [.box 0, .int (2 * m + 1)] st1 = .ok (.val (.int r)) st2) (h2 : eqPV (.lst ds) (.lst []) = some true) :
    finO (m46 Φ ⟨[.val (.box 0), .val (.int n), .val (.int lead), .val (.int m), .val (.lst ds), .none, .none, .none, .none], st⟩) = .ok (.val (.tup [.str "most", .tup vs, .int (r - m)])) st2 := by
  unfold m46
  simp [rg, c1, hl, h1, h2]
theorem r46b (rg : rngOk n = true) (c1 : compGo [7, 8] (setSlot 8) (ret true) (elt46 Φ) true (rngP 0 n) ⟨[.val (.box 0), .val (.int n), .val (.int lead), .val (.int m), .val (.lst ds), .none, .none, .none, .none], st⟩ = .ok vs ⟨[.val (.box 0), .val (.int n), .val (.int lead), .val (.int m), .val (.lst ds), .none, .none, a, b], st1⟩) (hl : vs.length ≤ 16777216)
    (h1 : Φ 40 [.box 0, .int (2 * m + 1)] st1 = .ok (.val (.int r)) st2) (h2 : eqPV (.lst ds) (.lst []) = some false) (h3 : Φ 40 [.box 0, .int 3] st2 = .ok (.val (.int q)) st3) (hq : q ≠ 0) :
    finO (m46 Φ ⟨[.val (.box 0), .val (.int n), .val (.int lead), .val (.int m), .val (.lst ds), .none, .none, .none, .none], st⟩) = .ok (.val (.tup [.str "most", .tup vs, .int (r - m)])) st3 := by
  unfold m46
  simp [rg, c1, hl, h1, h2, h3, hq]
theorem r46c (rg : rngOk n = true) (c1 : compGo [7, 8] (setSlot 8) (ret true) (elt46 Φ) true (rngP 0 n) ⟨[.val (.box 0), .val (.int n), .val (.int lead), .val (.int m), .val (.lst ds), .none, .none, .none, .none], st⟩ = .ok vs ⟨[.val (.box 0), .val (.int n), .val (.int lead), .val (.int m), .val (.lst ds), .none, .none, a, b], st1⟩) (hl : vs.length ≤ 16777216)
    (h1 : Φ 40 [.box 0, .int (2 * m + 1)] st1 = .ok (.val (.int r)) st2) (h2 : eqPV (.lst ds) (.lst []) = some false) (h3 : Φ 40 [.box 0, .int 3] st2 = .ok (.val (.int 0)) st3) (h4 : Φ 41 [.box 0, .lst ds] st3 = .ok (.val v) st4) :
    finO (m46 Φ ⟨[.val (.box 0), .val (.int n), .val (.int lead), .val (.int m), .val (.lst ds), .none, .none, .none, .none], st⟩) = .ok (.val (.tup [.str "div", v, .tup vs, .int (r - m)])) st4 := by
  unfold m46
  simp [rg, c1, hl, h1, h2, h3, h4]
end
/-- a drawn leaf -/
theorem f46 (k n : Nat) (hn : n ≤ 3) (lead m : Int) (hl0 : 0 ≤ lead) (hl1 : lead ≤ 3) (hm0 : 0 ≤ m) (hm1 : m ≤ 20) (ds : List Int) (hdl : ds.length ≤ 100) (st : List Cell) (hc : Cups st) :
    ∃ (t : Tst) (st' : List Cell), evP TT (k + 3) 46 [.box 0, .int n, .int lead, .int m, .lst (ds.map .int)] st = .ok (.val (tv t)) st' ∧ Sml n ds t ∧ dep t = 1 ∧ cnt t = 1 ∧ Cups st' := by
  rw [p46]
  obtain ⟨p, a, b, t1, c, ps, hc⟩ := row46 k n lead m (.lst (ds.map .int)) hl0 hl1 st hc
  have hz : (p.map PV.int).length ≤ 16777216 := by rw [List.length_map, (ps 0 (by decide) (by decide)).1]; omega
  have rg : rngOk (n : Int) = true := rngOk_s _ (by omega) (by omega)
  obtain ⟨r, t2, e1, x1, y1, hc⟩ := froll (k + 1) (2 * m + 1) (by omega) (by omega) t1 hc
  have eq := eq_intsL ds []
  rw [List.map_nil] at eq
  cases hds : ds with
  | nil =>
    rw [hds] at eq c
    refine ⟨.most p (r - m), t2, ?_, by simp only [Sml]; exact ps _ (by omega) (by omega), rfl, rfl, hc⟩
    simp only [tv]
    exact r46a rg c hz e1 (by simpa using eq)
  | cons d ds' =>
    rw [hds] at eq c hdl
    have eq' : eqPV (.lst ((d :: ds').map .int)) (.lst []) = some false := by simpa using eq
    obtain ⟨q, t3, e3, x3, y3, hc⟩ := froll (k + 1) 3 (by decide) (by decide) t2 hc
    by_cases hq : q = 0
    · subst hq
      obtain ⟨v, t4, e4, hv, hc⟩ := fsome k ((d :: ds').map .int) (by simp) (by rw [List.length_map]; omega) t3 hc
      obtain ⟨z, hz2, rfl⟩ := List.mem_map.mp hv
      refine ⟨.div z p (r - m), t4, ?_, by simp only [Sml]; exact ⟨hz2, ps _ (by omega) (by omega)⟩, rfl, rfl, hc⟩
      simp only [tv]
      exact r46c rg c hz e1 eq' e3 e4
    · refine ⟨.most p (r - m), t3, ?_, by simp only [Sml]; exact ps _ (by omega) (by omega), rfl, rfl, hc⟩
      simp only [tv]
      exact r46b rg c hz e1 eq' e3 hq
end Ev

set_option linter.all false
set_option maxRecDepth 100000
set_option maxHeartbeats 1000000
namespace Ev
open PySem PySem.Spec L2
section
variable {Φ : Orc} {l q r f : Int} {n lead m D T v A B J : PV} {st st1 st2 st3 st4 st5 : List Cell} {nm : PV}
/-- a leaf is drawn: few leaves -/
theorem r47a (h : l < 2) (h1 : Φ 46 [.box 0, n, lead, m, D] st = .ok (.val T) st1) (h2 : Φ 40 [.box 0, .int 5] st1 = .ok (.val (.int q)) st2) :
    finO (m47 Φ ⟨[.val (.box 0), .val n, .val (.int l), .val lead, .val m, .val D, .none, .none, .none, .none], st⟩) = .ok (.val (if q = 0 then .tup [.str "not", T] else T)) st2 := by
  unfold m47
  by_cases hq : q = 0 <;> simp [h, h1, h2, hq]
theorem r47b (h : ¬ l < 2) (h0 : Φ 40 [.box 0, .int 6] st = .ok (.val (.int 0)) st5) (h1 : Φ 46 [.box 0, n, lead, m, D] st5 = .ok (.val T) st1) (h2 : Φ 40 [.box 0, .int 5] st1 = .ok (.val (.int q)) st2) :
    finO (m47 Φ ⟨[.val (.box 0), .val n, .val (.int l), .val lead, .val m, .val D, .none, .none, .none, .none], st⟩) = .ok (.val (if q = 0 then .tup [.str "not", T] else T)) st2 := by
  unfold m47
  by_cases hq : q = 0 <;> simp [h, h0, h1, h2, hq]
/-- two parts -/
theorem r47c (h : ¬ l < 2) (h0 : Φ 40 [.box 0, .int 6] st = .ok (.val (.int r)) st1) (hr : r ≠ 0) (h1 : Φ 40 [.box 0, .int (l - 1)] st1 = .ok (.val (.int f)) st2) (h2 : Φ 47 [.box 0, n, .int (1 + f), lead, m, D] st2 = .ok (.val A) st3) (h3 : Φ 47 [.box 0, n, .int (l - (1 + f)), lead, m, D] st3 = .ok (.val B) st4)
    (h4 : Φ 41 [.box 0, .lst [.str "and", .str "and", .str "or"]] st4 = .ok (.val nm) st5) (h5 : ¬ l < 3) :
    finO (m47 Φ ⟨[.val (.box 0), .val n, .val (.int l), .val lead, .val m, .val D, .none, .none, .none, .none], st⟩) = .ok (.val (.tup [nm, .tup [A, B]])) st5 := by
  unfold m47
  simp [h, h0, hr, h1, h2, h3, h4, h5]
theorem r47d {st6 : List Cell} (h : ¬ l < 2) (h0 : Φ 40 [.box 0, .int 6] st = .ok (.val (.int r)) st1) (hr : r ≠ 0) (h1 : Φ 40 [.box 0, .int (l - 1)] st1 = .ok (.val (.int f)) st2) (h2 : Φ 47 [.box 0, n, .int (1 + f), lead, m, D] st2 = .ok (.val A) st3) (h3 : Φ 47 [.box 0, n, .int (l - (1 + f)), lead, m, D] st3 = .ok (.val B) st4)
    (h4 : Φ 41 [.box 0, .lst [.str "and", .str "and", .str "or"]] st4 = .ok (.val nm) st5) (h5 : l < 3) (h6 : Φ 40 [.box 0, .int 8] st5 = .ok (.val (.int q)) st6) :
    finO (m47 Φ ⟨[.val (.box 0), .val n, .val (.int l), .val lead, .val m, .val D, .none, .none, .none, .none], st⟩) = .ok (.val (if q = 0 then .tup [.str "not", .tup [nm, .tup [A, B]]] else .tup [nm, .tup [A, B]])) st6 := by
  unfold m47
  by_cases hq : q = 0 <;> simp [h, h0, hr, h1, h2, h3, h4, h5, h6, hq]
end
end Ev

set_option linter.all false
set_option maxRecDepth 100000
set_option maxHeartbeats 1000000
namespace Ev
open PySem PySem.Spec L2
/-- a drawn test -/
theorem f47 (k n : Nat) (hn : n ≤ 3) (lead m : Int) (hl0 : 0 ≤ lead) (hl1 : lead ≤ 3) (hm0 : 0 ≤ m) (hm1 : m ≤ 20) (ds : List Int) (hdl : ds.length ≤ 100) : ∀ (L : Nat) (l : Int) (st : List Cell), 1 ≤ l → l ≤ L → L ≤ 1000 → Cups st →
    ∃ (t : Tst) (st' : List Cell), evP TT (k + L + 3) 47 [.box 0, .int n, .int l, .int lead, .int m, .lst (ds.map .int)] st = .ok (.val (tv t)) st' ∧ Sml n ds t ∧ (dep t : Int) ≤ l + 2 ∧ (l = 1 → dep t ≤ 2) ∧ ((lvs t).length : Int) ≤ l ∧ (cnt t : Int) ≤ 4 * l - 2 ∧ Cups st' := by
  intro L
  induction L with
  | zero => intro l st h1 h2; omega
  | succ L ih =>
    intro l st h1 h2 h3 hc
    show ∃ (t : Tst) (st' : List Cell), evP TT ((k + L + 3) + 1) 47 [.box 0, .int n, .int l, .int lead, .int m, .lst (ds.map .int)] st = .ok (.val (tv t)) st' ∧ _
    rw [p47]
    have leaf : ∀ (t : Tst) (q : Int), dep t = 1 → cnt t = 1 → Sml n ds t → ∃ u : Tst, (if q = 0 then PV.tup [.str "not", tv t] else tv t) = tv u ∧ Sml n ds u ∧ (dep u : Int) ≤ l + 2 ∧ (l = 1 → dep u ≤ 2) ∧ ((lvs u).length : Int) ≤ l ∧ (cnt u : Int) ≤ 4 * l - 2 := fun t q e1 e2 ho => by
      have ln := lvs_len t
      by_cases hq : q = 0
      · exact ⟨.not t, by rw [if_pos hq, tv], by simp only [Sml]; exact ho, by simp only [dep]; omega, by simp only [dep]; omega, by simp only [lvs]; omega, by simp only [cnt]; omega⟩
      · exact ⟨t, by rw [if_neg hq], ho, by omega, by omega, by omega, by omega⟩
    by_cases hlt : l < 2
    · obtain ⟨t, t1, e1, ho, d1, c1, hc⟩ := f46 (k + L) n hn lead m hl0 hl1 hm0 hm1 ds hdl st hc
      obtain ⟨q, t2, e2, _, _, hc⟩ := froll (k + L + 2) 5 (by decide) (by decide) t1 hc
      obtain ⟨u, u1, u2, u3, u4, u5, u6⟩ := leaf t q d1 c1 ho
      refine ⟨u, t2, ?_, u2, u3, u4, u5, u6, hc⟩
      rw [← u1]
      exact r47a hlt e1 e2
    · obtain ⟨r, t0, e0, _, _, hc⟩ := froll (k + L + 2) 6 (by decide) (by decide) st hc
      by_cases hr : r = 0
      · subst hr
        obtain ⟨t, t1, e1, ho, d1, c1, hc⟩ := f46 (k + L) n hn lead m hl0 hl1 hm0 hm1 ds hdl t0 hc
        obtain ⟨q, t2, e2, _, _, hc⟩ := froll (k + L + 2) 5 (by decide) (by decide) t1 hc
        obtain ⟨u, u1, u2, u3, u4, u5, u6⟩ := leaf t q d1 c1 ho
        refine ⟨u, t2, ?_, u2, u3, u4, u5, u6, hc⟩
        rw [← u1]
        exact r47b hlt e0 e1 e2
      · obtain ⟨f, t1, e1, f0, f1, hc⟩ := froll (k + L + 2) (l - 1) (by omega) (by omega) t0 hc
        obtain ⟨a, t2, e2, oa, da, da1, la, ca, hc⟩ := ih (1 + f) t1 (by omega) (by omega) (by omega) hc
        obtain ⟨b, t3, e3, ob, db, db1, lb, cb, hc⟩ := ih (l - (1 + f)) t2 (by omega) (by omega) (by omega) hc
        obtain ⟨nm, t4, e4, hnm, hc⟩ := fsome (k + L + 1) [.str "and", .str "and", .str "or"] (by simp) (by simp) t3 hc
        obtain ⟨g, hg⟩ : ∃ g : Bool, nm = .str (if g then "and" else "or") := by
          simp only [List.mem_cons, List.not_mem_nil, or_false] at hnm
          rcases hnm with rfl | rfl | rfl
          · exact ⟨true, rfl⟩
          · exact ⟨true, rfl⟩
          · exact ⟨false, rfl⟩
        have ej : PV.tup [nm, .tup [tv a, tv b]] = tv (.knot g [a, b]) := by rw [hg]; simp only [tv, tvs]
        have oj : Sml n ds (.knot g [a, b]) := by simp only [Sml, Smls]; exact ⟨oa, ob, trivial⟩
        have dj : dep (.knot g [a, b]) = max (dep a) (max (dep b) 0) + 1 := by simp only [dep, deps]
        have cj : cnt (.knot g [a, b]) = cnt a + (cnt b + 0) + 1 := by simp only [cnt, cnts]
        have lj : (lvs (.knot g [a, b])).length = (lvs a).length + (lvs b).length := by simp [lvs, lvss]
        by_cases h5 : l < 3
        · obtain ⟨q, t5, e5, _, _, hc⟩ := froll (k + L + 2) 8 (by decide) (by decide) t4 hc
          have z := r47d hlt e0 hr e1 e2 e3 e4 h5 e5
          rw [ej] at z
          by_cases hq : q = 0
          · rw [if_pos hq] at z
            exact ⟨.not (.knot g [a, b]), t5, by rw [z, tv], by simp only [Sml] at oj ⊢; exact oj, by simp only [dep] at dj ⊢; omega, by omega, by rw [show lvs (.not (.knot g [a, b])) = lvs (.knot g [a, b]) by rw [lvs]]; omega, by simp only [cnt] at cj ⊢; omega, hc⟩
          · rw [if_neg hq] at z
            exact ⟨.knot g [a, b], t5, z, oj, by omega, by omega, by omega, by omega, hc⟩
        · have z := r47c hlt e0 hr e1 e2 e3 e4 h5
          rw [ej] at z
          exact ⟨.knot g [a, b], t4, z, oj, by omega, by omega, by omega, by omega, hc⟩
end Ev

set_option linter.all false
set_option maxRecDepth 100000
set_option maxHeartbeats 1000000
namespace Ev
open PySem PySem.Spec L2
def wv (b : Bool) : PV := .str (if b then "some" else "all")
def fv (free : Int) (ws : List Bool) (t : Tst) : PV := .tup [.int free, .tup (ws.map wv), tv t]
def Dok (D : List Int) (M : Int) : Prop := (∀ d ∈ D, 2 ≤ d ∧ d ≤ 6 ∧ M % d = 0) ∧ 1 ≤ M ∧ M ≤ 6
end Ev

set_option linter.all false
set_option maxRecDepth 100000
set_option maxHeartbeats 1000000
namespace Ev
open PySem PySem.Spec L2
/-! ### leaves_of -/
theorem popAt0 (i : Nat) (env : List Sl) (st : List Cell) (v : PV) (xs : List PV) (h : env[i]? = some (.own (.lst (v :: xs)))) : popAtM i (.val (.int 0)) ⟨env, st⟩ = .ok (.val v) ⟨env.set i (.own (.lst xs)), st⟩ := by
  unfold popAtM
  dsimp only
  rw [h]
  dsimp only [deref]
  have e : seqIndex? 0 (v :: xs).length = some 0 := by
    unfold seqIndex?
    simp
  rw [e]
  simp [setCell]
@[simp] theorem xPopAt_run (i : Nat) (e : M RE) (s : ES) : xPopAt i e s = (chkL i s).bind fun _ => bnd e fun r => popAtM i r := rfl
@[simp] theorem bi_listT (vs : List PV) : biV .list [.tup vs] = some (.fresh (.lst vs)) := rfl
abbrev tst7 : M Bool := bnd (xCmp .NotEq (rdSlot 2) (xLst [])) asBool
def body7 (Φ : Orc) : M Fl := (seqB [(sSet 3 false (xPopAt 2 (ret (.val (.int (0)))))),
    (sIf (bnd (xCmp .In (xSub (rdSlot 3) (ret (.val (.int (0))))) (xTup [(ret (.val (.str "most"))), (ret (.val (.str "div")))])) asBool) (seqB [(sEx (xApp 1 (rdSlot 3)))]) (seqB [(sSet 2 false (xBin .Add (xBi .list [(xCall Φ 4 [(rdSlot 3)])]) (rdSlot 2)))]))])
theorem m7_eq (Φ : Orc) : m7 Φ = seqB [(sPar 1 2 (xLst []) (xLst [(rdSlot 0)])), whileM WF tst7 (body7 Φ), (sRet (rdSlot 1))] := rfl
section
variable {Φ : Orc} {T : Sl} {A B D R V : PV} {st : List Cell} {acc ls vs : List PV} {x3 : Sl}
theorem t7 {q : Bool} (h : eqPV (.lst ls) (.lst []) = some q) : tst7 ⟨[T, .own (.lst acc), .own (.lst ls), x3], st⟩ = .ok (!q) ⟨[T, .own (.lst acc), .own (.lst ls), x3], st⟩ := by
  simp [h]
theorem pop7 : popAtM 2 (.val (.int 0)) ⟨[T, .own (.lst acc), .own (.lst (V :: ls)), x3], st⟩ = .ok (.val V) ⟨[T, .own (.lst acc), .own (.lst ls), x3], st⟩ := popAt0 _ _ _ _ _ rfl
theorem b7m (hl : acc.length < 16777216) : body7 Φ ⟨[T, .own (.lst acc), .own (.lst (.tup [.str "most", A, B] :: ls)), x3], st⟩ = .ok .nx ⟨[T, .own (.lst (acc ++ [.tup [.str "most", A, B]])), .own (.lst ls), .val (.tup [.str "most", A, B])], st⟩ := by
  unfold body7
  simp [pop7, hl]
theorem b7d (hl : acc.length < 16777216) : body7 Φ ⟨[T, .own (.lst acc), .own (.lst (.tup [.str "div", D, A, B] :: ls)), x3], st⟩ = .ok .nx ⟨[T, .own (.lst (acc ++ [.tup [.str "div", D, A, B]])), .own (.lst ls), .val (.tup [.str "div", D, A, B])], st⟩ := by
  unfold body7
  simp [pop7, hl]
theorem b7k {nm : Str} (hn : (("most" : Str) == nm) = false) (hn2 : (("div" : Str) == nm) = false) (h4 : Φ 4 [.tup [.str nm, R]] st = .ok (.val (.tup vs)) st) (hl : vs.length + ls.length ≤ 16777216) : body7 Φ ⟨[T, .own (.lst acc), .own (.lst (.tup [.str nm, R] :: ls)), x3], st⟩ = .ok .nx ⟨[T, .own (.lst acc), .own (.lst (vs ++ ls)), .val (.tup [.str nm, R])], st⟩ := by
  unfold body7
  simp [pop7, hn, hn2, h4, hl]
theorem st7 : (sPar 1 2 (xLst []) (xLst [(rdSlot 0)])) ⟨[.val V, .none, .none, .none], st⟩ = .ok .nx ⟨[.val V, .own (.lst []), .own (.lst [V]), .none], st⟩ := by
  simp
theorem en7 : (sRet (rdSlot 1)) ⟨[T, .own (.lst acc), .own (.lst ls), x3], st⟩ = .ok (.rt (.fresh (.lst acc))) ⟨[T, .none, .own (.lst ls), x3], st⟩ := by
  simp
end
theorem lvs_loop (k : Nat) (T : Sl) (st : List Cell) : ∀ (N : Nat) (ls : List Tst) (acc : List PV) (x3 : Sl) (fuel : Nat), cnts ls ≤ N → acc.length + N ≤ 100000 → (∀ t ∈ ls, dep t ≤ 30) → N < fuel → ∃ x3',
    whileM fuel tst7 (body7 (evP TT (k + 1))) ⟨[T, .own (.lst acc), .own (.lst (ls.map tv)), x3], st⟩ = .ok .nx ⟨[T, .own (.lst (acc ++ (lvss ls).map tv)), .own (.lst []), x3'], st⟩ := by
  intro N
  induction N with
  | zero =>
    intro ls acc x3 fuel h1 h2 h3 h4
    cases ls with
    | cons t ls => have := cnt_pos t; simp only [cnts] at h1; omega
    | nil =>
      obtain ⟨f, rfl⟩ : ∃ f, fuel = f + 1 := ⟨fuel - 1, by omega⟩
      refine ⟨x3, ?_⟩
      have t := t7 (T := T) (acc := acc) (x3 := x3) (st := st) (eq_tests [] (by simp))
      rw [whileM_succ, t, bind_ok]
      simp [lvss] <;> try rfl
  | succ N ih =>
    intro ls acc x3 fuel h1 h2 h3 h4
    obtain ⟨f, rfl⟩ : ∃ f, fuel = f + 1 := ⟨fuel - 1, by omega⟩
    cases ls with
    | nil =>
      refine ⟨x3, ?_⟩
      have t := t7 (T := T) (acc := acc) (x3 := x3) (st := st) (eq_tests [] (by simp))
      rw [whileM_succ, t, bind_ok]
      simp [lvss] <;> try rfl
    | cons t ls =>
      have tt := t7 (T := T) (acc := acc) (x3 := x3) (st := st) (eq_tests (t :: ls) h3)
      have h3' : ∀ u ∈ ls, dep u ≤ 30 := fun u hu => h3 u (List.mem_cons_of_mem _ hu)
      have ht := h3 t (List.mem_cons_self ..)
      have hll := cnt_len ls
      simp only [cnts] at h1
      have go : ∀ (ls' : List Tst) (acc' : List PV), body7 (evP TT (k + 1)) ⟨[T, .own (.lst acc), .own (.lst ((t :: ls).map tv)), x3], st⟩ = .ok .nx ⟨[T, .own (.lst acc'), .own (.lst (ls'.map tv)), .val (tv t)], st⟩ →
          cnts ls' ≤ N → acc'.length + N ≤ 100000 → (∀ u ∈ ls', dep u ≤ 30) → acc' ++ (lvss ls').map tv = acc ++ (lvss (t :: ls)).map tv → ∃ x3', whileM (f + 1) tst7 (body7 (evP TT (k + 1))) ⟨[T, .own (.lst acc), .own (.lst ((t :: ls).map tv)), x3], st⟩ = .ok .nx ⟨[T, .own (.lst (acc ++ (lvss (t :: ls)).map tv)), .own (.lst []), x3'], st⟩ := fun ls' acc' hb q1 q2 q3 q4 => by
        obtain ⟨x', e⟩ := ih ls' acc' (.val (tv t)) f q1 q2 q3 (by omega)
        refine ⟨x', ?_⟩
        rw [whileM_succ, tt, bind_ok, if_pos (by rfl), bnd_run, hb, bind_ok, whileK_nx, e, q4]
      cases t with
      | most r m =>
        refine go ls (acc ++ [tv (.most r m)]) ?_ (by simp only [cnt] at h1; omega) (by simp; omega) h3' (by simp [lvss, lvs])
        simp only [List.map_cons, tv]
        exact b7m (by omega)
      | div d r m =>
        refine go ls (acc ++ [tv (.div d r m)]) ?_ (by simp only [cnt] at h1; omega) (by simp; omega) h3' (by simp [lvss, lvs])
        simp only [List.map_cons, tv]
        exact b7d (by omega)
      | not u =>
        simp only [dep] at ht
        simp only [cnt] at h1
        refine go (u :: ls) acc ?_ (by simp only [cnts]; omega) (by omega) (fun w hw => ?_) (by simp [lvss, lvs])
        · have g4 : evP TT (k + 1) 4 [.tup [.str "not", tv u]] st = .ok (.val (.tup [tv u])) st := by rw [p4]; exact r4n
          simp only [List.map_cons, tv]
          exact b7k (by decide +kernel) (by decide +kernel) g4 (by simp; omega)
        · rcases List.mem_cons.mp hw with rfl | hw
          · omega
          · exact h3' w hw
      | knot a ts =>
        simp only [dep] at ht
        simp only [cnt] at h1
        have hl2 := cnt_len ts
        have ca : ∀ a b : List Tst, cnts (a ++ b) = cnts a + cnts b := fun a b => by
          induction a with
          | nil => simp [cnts]
          | cons x a ih => simp only [List.cons_append, cnts, ih]; omega
        have la : ∀ a b : List Tst, lvss (a ++ b) = lvss a ++ lvss b := fun a b => by
          induction a with
          | nil => simp [lvss]
          | cons x a ih => simp only [List.cons_append, lvss, ih, List.append_assoc]
        refine go (ts ++ ls) acc ?_ (by rw [ca]; omega) (by omega) (fun w hw => ?_) (by simp only [lvss, lvs, la])
        · simp only [List.map_cons, List.map_append, tv, tvs_map]
          cases a with
          | true =>
            have g4 : evP TT (k + 1) 4 [.tup [.str "and", .tup (ts.map tv)]] st = .ok (.val (.tup (ts.map tv))) st := by rw [p4]; exact r4a
            rw [if_pos rfl]
            exact b7k (by decide +kernel) (by decide +kernel) g4 (by simp; omega)
          | false =>
            have g4 : evP TT (k + 1) 4 [.tup [.str "or", .tup (ts.map tv)]] st = .ok (.val (.tup (ts.map tv))) st := by rw [p4]; exact r4o
            rw [if_neg (by decide)]
            exact b7k (by decide +kernel) (by decide +kernel) g4 (by simp; omega)
        · rcases List.mem_append.mp hw with hw | hw
          · have := dep_mem hw; omega
          · exact h3' w hw
theorem f7 (k : Nat) (t : Tst) (hd : dep t ≤ 30) (hc : cnt t ≤ 10000) (st : List Cell) : evP TT (k + 2) 7 [tv t] st = .ok (.fresh (.lst ((lvs t).map tv))) st := by
  rw [p7, m7_eq]
  obtain ⟨x3, e⟩ := lvs_loop k (.val (tv t)) st (cnt t) [t] [] .none WF (by simp [cnts]) (by simp; omega) (by simpa using hd) (by unfold WF; omega)
  simp only [List.map_cons, List.map_nil, lvss, List.append_nil, List.nil_append] at e
  generalize tv t = V at e ⊢
  rw [seqB_cons, st7, bind_ok]; dsimp only
  rw [seqB_cons, e, bind_ok]; dsimp only
  rw [seqB_one, en7]
  rfl
end Ev

set_option linter.all false
set_option maxRecDepth 100000
set_option maxHeartbeats 1000000
namespace Ev
open PySem PySem.Spec L2
/-! ### common_divisor -/
abbrev tst8 : M Bool := bnd (xCmp .NotEq (rdSlot 1) (ret (.val (.int (0))))) asBool
abbrev body8 : M Fl := (seqB [(sPar 0 1 (rdSlot 1) (xBin .Mod (rdSlot 0) (rdSlot 1)))])
theorem m8_eq (Φ : Orc) : m11 Φ = seqB [whileM WF tst8 body8, (sRet (xBi .abs [(rdSlot 0)]))] := rfl
section
variable {a b : Int} {st : List Cell}
theorem t8 (hb : b ≠ 0) : tst8 ⟨[.val (.int a), .val (.int b)], st⟩ = .ok true ⟨[.val (.int a), .val (.int b)], st⟩ := by
  simp [hb]
theorem t8z : tst8 ⟨[.val (.int a), .val (.int 0)], st⟩ = .ok false ⟨[.val (.int a), .val (.int 0)], st⟩ := by
  simp
theorem b8 (hb : 0 < b) : body8 ⟨[.val (.int a), .val (.int b)], st⟩ = .ok .nx ⟨[.val (.int b), .val (.int (a % b))], st⟩ := by
  have h0 : b ≠ 0 := by omega
  have e := Int.fmod_eq_emod_of_nonneg a (Int.le_of_lt hb)
  simp [h0, e, hb]
theorem en8 (ha : 0 ≤ a) {x : Sl} : (sRet (xBi .abs [(rdSlot 0)])) ⟨[.val (.int a), x], st⟩ = .ok (.rt (.val (.int a))) ⟨[.val (.int a), x], st⟩ := by
  have h : ¬ a < 0 := by omega
  simp [h]
end
theorem gcd_loop (st : List Cell) : ∀ (b a fuel : Nat), b < fuel → whileM fuel tst8 body8 ⟨[.val (.int a), .val (.int b)], st⟩ = .ok .nx ⟨[.val (.int (Nat.gcd a b)), .val (.int 0)], st⟩ := by
  intro b
  induction b using Nat.strongRecOn with
  | ind b ih =>
    intro a fuel hf
    obtain ⟨f, rfl⟩ : ∃ f, fuel = f + 1 := ⟨fuel - 1, by omega⟩
    by_cases h0 : b = 0
    · subst h0
      rw [whileM_succ, show ((0 : Nat) : Int) = 0 from rfl, t8z, bind_ok, Nat.gcd_zero_right]
      rfl
    · have hlt : a % b < b := Nat.mod_lt _ (by omega)
      have g := ih (a % b) hlt b f (by omega)
      rw [whileM_succ, t8 (by omega), bind_ok, if_pos rfl, bnd_run, b8 (by omega), bind_ok, whileK_nx]
      rw [show (a : Int) % (b : Int) = ((a % b : Nat) : Int) from (Int.natCast_emod a b).symm, g]
      rw [Nat.gcd_comm a b, Nat.gcd_rec b a, Nat.gcd_comm]
theorem f11 (k a b : Nat) (hb : b ≤ 1000000) (st : List Cell) : evP TT (k + 1) 11 [.int a, .int b] st = .ok (.val (.int (Nat.gcd a b))) st := by
  rw [p11, m8_eq]
  rw [seqB_cons, gcd_loop st b a WF (by unfold WF; omega), bind_ok]; dsimp only
  rw [seqB_one, en8 (by omega)]
  rfl
def iN (n : Nat) : PV := .int (n : Int)
/-! ### common_multiple -/
def body9 (Φ : Orc) : M Fl := (seqB [(sSet 1 false (xBin .FloorDiv (xBin .Mult (rdSlot 1) (rdSlot 2)) (xCall Φ 11 [(rdSlot 1), (rdSlot 2)])))])
theorem m9_eq (Φ : Orc) : m12 Φ = seqB [(sSet 1 false (ret (.val (.int (1))))), (sFor (setSlot 2) (body9 Φ) (iOf (rdSlot 0))), (sRet (rdSlot 1))] := rfl
theorem b9 {Φ : Orc} {V : Sl} {f n g : Int} {st : List Cell} (h : Φ 11 [.int f, .int n] st = .ok (.val (.int g)) st) (hm : mulOk f n = true) (hg : 0 < g) (hg2 : g < 1073741824) : body9 Φ ⟨[V, .val (.int f), .val (.int n)], st⟩ = .ok .nx ⟨[V, .val (.int (f * n / g)), .val (.int n)], st⟩ := by
  unfold body9
  have h0 : g ≠ 0 := by omega
  have e := Int.fdiv_eq_ediv_of_nonneg (f * n) (Int.le_of_lt hg)
  have dk : divOk g = true := by
    unfold divOk
    rw [decide_eq_true h0, decide_eq_true (show g.natAbs < 1073741824 by omega)]
    rfl
  simp [h, hm, dk, e]
theorem lcm_loop (k : Nat) (V : Sl) (st : List Cell) : ∀ (ns : List Nat) (f : Nat) (x2 : Sl), (∀ n ∈ ns, 1 ≤ n ∧ n ≤ 1000000) → ∃ x2', forM (setSlot 2) (body9 (evP TT (k + 1))) (ns.map iN) ⟨[V, .val (.int f), x2], st⟩ = .ok .nx ⟨[V, .val (.int ((ns.foldl Nat.lcm f : Nat) : Int)), x2'], st⟩
  | [], f, x2, _ => ⟨x2, rfl⟩
  | n :: ns, f, x2, h => by
    obtain ⟨h1, h2⟩ := h n (List.mem_cons_self ..)
    obtain ⟨x2', e⟩ := lcm_loop k V st ns (Nat.lcm f n) (.val (.int n)) fun m hm => h m (List.mem_cons_of_mem _ hm)
    refine ⟨x2', ?_⟩
    have gp : 0 < Nat.gcd f n := Nat.gcd_pos_of_pos_right _ (by omega)
    have gl : Nat.gcd f n ≤ n := Nat.gcd_le_right _ (by omega)
    have g := b9 (V := V) (f11 k f n h2 st) (mulOk_r (by omega) (by omega)) (by omega) (by omega)
    have el : (f : Int) * n / (Nat.gcd f n : Nat) = ((Nat.lcm f n : Nat) : Int) := by
      rw [Nat.lcm, Int.natCast_ediv, Int.natCast_mul]
    rw [el] at g
    have a1 : setSlot 2 (iN n) ⟨[V, .val (.int f), x2], st⟩ = .ok () ⟨[V, .val (.int f), .val (.int n)], st⟩ := by simp [iN]
    rw [List.map_cons, forM_cons, a1, bind_ok, bnd_run, g, bind_ok, forK_nx, e]
    rfl
theorem f12 (k : Nat) (ns : List Nat) (h : ∀ n ∈ ns, 1 ≤ n ∧ n ≤ 1000000) (st : List Cell) : evP TT (k + 2) 12 [.lst (ns.map iN)] st = .ok (.val (.int ((ns.foldl Nat.lcm 1 : Nat) : Int))) st := by
  rw [p12, m9_eq]
  obtain ⟨x2, e⟩ := lcm_loop k (.val (.lst (ns.map iN))) st ns 1 .none h
  generalize (ns.map iN) = vs at e ⊢
  have a0 : (sSet 1 false (ret (.val (.int (1))))) ⟨[.val (.lst vs), .none, .none], st⟩ = .ok .nx ⟨[.val (.lst vs), .val (.int ((1 : Nat) : Int)), .none], st⟩ := by simp
  have a1 : iOf (rdSlot 0) ⟨[.val (.lst vs), .val (.int ((1 : Nat) : Int)), .none], st⟩ = .ok vs ⟨[.val (.lst vs), .val (.int ((1 : Nat) : Int)), .none], st⟩ := by simp
  rw [seqB_cons, a0, bind_ok]; dsimp only
  rw [seqB_cons, sFor_run, a1, bind_ok, e, bind_ok]; dsimp only
  rw [seqB_one]
  generalize ns.foldl Nat.lcm 1 = L
  simp
/-! ### divisors_in, period_of -/
def isD : Tst → Bool
  | .div _ _ _ => true
  | _ => false
def dvr : Tst → Nat
  | .div d _ _ => d.toNat
  | _ => 1
def dvs (t : Tst) : List Nat := ((lvs t).filter isD).map dvr
abbrev tst10 : M Bool := (bnd (xCmp .Eq (xSub (rdSlot 2) (ret (.val (.int (0))))) (ret (.val (.str "div")))) asBool)
section
variable {Φ : Orc} {T A B D : PV} {st : List Cell} {vs ws : List PV} {a b : Sl}
theorem t10m : tst10 ⟨[.val T, .none, .val (.tup [.str "most", A, B])], st⟩ = .ok false ⟨[.val T, .none, .val (.tup [.str "most", A, B])], st⟩ := by
  simp [s14]
theorem t10d : tst10 ⟨[.val T, .none, .val (.tup [.str "div", D, A, B])], st⟩ = .ok true ⟨[.val T, .none, .val (.tup [.str "div", D, A, B])], st⟩ := by
  simp
theorem l10 : (xSub (rdSlot 2) (ret (.val (.int (1))))) ⟨[.val T, .none, .val (.tup [.str "div", D, A, B])], st⟩ = .ok (.val D) ⟨[.val T, .none, .val (.tup [.str "div", D, A, B])], st⟩ := by
  simp
theorem r13 (h : Φ 7 [T] st = .ok (.fresh (.lst vs)) st) (c1 : compGo [1, 2] (setSlot 2) tst10 (xSub (rdSlot 2) (ret (.val (.int (1))))) true vs ⟨[.val T, .none, .none], st⟩ = .ok ws ⟨[.val T, a, b], st⟩) (hl : ws.length ≤ 16777216) :
    finO (m13 Φ ⟨[.val T, .none, .none], st⟩) = .ok (.fresh (.lst ws)) st := by
  unfold m13
  simp [h, c1, hl]
theorem r14 {W : PV} {us : List PV} (h : Φ 13 [T] st = .ok (.fresh (.lst us)) st) (h2 : Φ 12 [.lst us] st = .ok (.val W) st) : finO (m14 Φ ⟨[.val T], st⟩) = .ok (.val W) st := by
  unfold m14
  simp [h, h2]
end
/-- a leaf's divisor is from 1 on -/
def posD : Tst → Prop
  | .most _ _ => True
  | .div d _ _ => 1 ≤ d ∧ d ≤ 1000000
  | _ => False
theorem f13 (k : Nat) (t : Tst) (hp : ∀ u ∈ lvs t, posD u) (hd : dep t ≤ 30) (hc : cnt t ≤ 10000) (st : List Cell) : evP TT (k + 3) 13 [tv t] st = .ok (.fresh (.lst ((dvs t).map iN))) st := by
  rw [p13]
  have g := f7 k t hd hc st
  have gl := lvs_len t
  generalize tv t = T at g ⊢
  obtain ⟨s', c1, c2, a, b, c3⟩ := compGo_fl (own := [1, 2]) (tgt := setSlot 2) (tst := tst10) (elt := xSub (rdSlot 2) (ret (.val (.int (1)))))
    (I := fun s => s.st = st ∧ ∃ a b, s.env = [.val T, a, b]) (f := tv) (g := fun u => .int (dvr u)) (c := isD) (lvs t) (fun u hu s ⟨h1, a, b, h2⟩ => by
      obtain ⟨env, st'⟩ := s
      cases h1; cases h2
      have lf := hp u hu
      cases u with
      | most r m =>
        refine ⟨⟨[.val T, .none, .val (tv (.most r m))], st'⟩, ⟨[.val T, .none, .val (tv (.most r m))], st'⟩, by simp, ?_, (fun h => by cases h), fun _ => ⟨rfl, _, _, rfl⟩⟩
        rw [tv]; exact t10m
      | div d r m =>
        unfold posD at lf
        refine ⟨⟨[.val T, .none, .val (tv (.div d r m))], st'⟩, ⟨[.val T, .none, .val (tv (.div d r m))], st'⟩, by simp, ?_, fun h => ?_, (fun h => by cases h)⟩
        · rw [tv]; exact t10d
        · refine ⟨.val (.int d), ⟨[.val T, .none, .val (tv (.div d r m))], st'⟩, ⟨[.val T, .none, .val (tv (.div d r m))], st'⟩, ?_, ?_, rfl, _, _, rfl⟩
          · rw [tv]; exact l10
          · show Out.ok (PV.int d) _ = Out.ok (PV.int (d.toNat : Nat)) _
            rw [Int.toNat_of_nonneg (by omega)]
      | not u => exact lf.elim
      | knot a ts => exact lf.elim) ⟨[.val T, .none, .none], st⟩ ⟨rfl, _, _, rfl⟩
  obtain ⟨env, st'⟩ := s'
  cases c2; cases c3
  have fl := List.length_filter_le isD (lvs t)
  have := r13 g c1 (by rw [List.length_map]; omega)
  rw [this]
  unfold dvs
  rw [List.map_map]
  rfl
/-- period_of -/
def per (t : Tst) : Nat := (dvs t).foldl Nat.lcm 1
theorem dvs_pos {t : Tst} (hp : ∀ u ∈ lvs t, posD u) : ∀ n ∈ dvs t, 1 ≤ n ∧ n ≤ 1000000 := fun n hn => by
  unfold dvs at hn
  obtain ⟨u, hu, rfl⟩ := List.mem_map.mp hn
  obtain ⟨h1, h2⟩ := List.mem_filter.mp hu
  have := hp u h1
  cases u with
  | div d r m =>
    unfold posD at this
    show 1 ≤ d.toNat ∧ d.toNat ≤ 1000000
    omega
  | most r m => cases h2
  | not u => cases h2
  | knot a ts => cases h2
theorem f14 (k : Nat) (t : Tst) (hp : ∀ u ∈ lvs t, posD u) (hd : dep t ≤ 30) (hc : cnt t ≤ 10000) (st : List Cell) : evP TT (k + 4) 14 [tv t] st = .ok (.val (.int (per t))) st := by
  rw [p14]
  exact r14 (f13 k t hp hd hc st) (f12 (k + 1) (dvs t) (dvs_pos hp) st)
theorem lcm_dvd : ∀ (ns : List Nat) (f : Nat), f ∣ ns.foldl Nat.lcm f ∧ ∀ n ∈ ns, n ∣ ns.foldl Nat.lcm f
  | [], f => ⟨Nat.dvd_refl f, fun _ h => nomatch h⟩
  | n :: ns, f => by
    obtain ⟨h1, h2⟩ := lcm_dvd ns (Nat.lcm f n)
    refine ⟨Nat.dvd_trans (Nat.dvd_lcm_left f n) h1, fun m hm => ?_⟩
    rcases List.mem_cons.mp hm with rfl | hm
    · exact Nat.dvd_trans (Nat.dvd_lcm_right f _) h1
    · exact h2 m hm
theorem lcm_least : ∀ (ns : List Nat) (f M : Nat), f ∣ M → (∀ n ∈ ns, n ∣ M) → ns.foldl Nat.lcm f ∣ M
  | [], f, M, h, _ => h
  | n :: ns, f, M, h, h2 => lcm_least ns (Nat.lcm f n) M (Nat.lcm_dvd h (h2 n (List.mem_cons_self ..))) fun m hm => h2 m (List.mem_cons_of_mem _ hm)
/-- the period is the least common multiple, as the law has it -/
theorem dv_iff {t : Tst} (hp : ∀ u ∈ lvs t, posD u) (N : Nat) : Dv N t ↔ ∀ n ∈ dvs t, n ∣ N := by
  rw [← good_dv, List.filter_eq_nil_iff]
  constructor
  · intro h n hn
    unfold dvs at hn
    obtain ⟨u, hu, rfl⟩ := List.mem_map.mp hn
    obtain ⟨h1, h2⟩ := List.mem_filter.mp hu
    have q := h u h1
    have pq := hp u h1
    cases u with
    | div d r m =>
      unfold posD at pq
      simp only [badl, Bool.not_eq_true', decide_eq_false_iff_not, Decidable.not_not] at q
      have e : (d.toNat : Int) = d := Int.toNat_of_nonneg (by omega)
      show d.toNat ∣ N
      rw [← Int.natCast_dvd_natCast, e]
      exact Int.dvd_of_emod_eq_zero q
    | most r m => cases h2
    | not u => cases h2
    | knot a ts => cases h2
  · intro h u hu
    have pq := hp u hu
    cases u with
    | most r m => simp [badl]
    | div d r m =>
      unfold posD at pq
      have q := h d.toNat (by
        unfold dvs
        exact List.mem_map.mpr ⟨.div d r m, List.mem_filter.mpr ⟨hu, rfl⟩, rfl⟩)
      have e : (d.toNat : Int) = d := Int.toNat_of_nonneg (by omega)
      rw [← Int.natCast_dvd_natCast, e] at q
      simp only [badl, Bool.not_eq_true', decide_eq_false_iff_not, Decidable.not_not]
      exact Int.emod_eq_zero_of_dvd q
    | not u => exact pq.elim
    | knot a ts => exact pq.elim
theorem per_eq {t : Tst} (hp : ∀ u ∈ lvs t, posD u) {M : Int} (hM : 1 ≤ M ∧ M ≤ 6) (hv : Dv M t) {P : Int} (h1 : 1 ≤ P) (h2 : P ≤ 12) (h3 : Dv P t) (h4 : ∀ Q : Int, 1 ≤ Q → Q ≤ 12 → Dv Q t → P ≤ Q) : P = per t ∧ 1 ≤ per t ∧ per t ≤ 6 := by
  obtain ⟨Pn, rfl⟩ : ∃ n : Nat, P = n := ⟨P.toNat, by omega⟩
  obtain ⟨Mn, rfl⟩ : ∃ n : Nat, M = n := ⟨M.toNat, by omega⟩
  have a1 : per t ∣ Mn := lcm_least _ 1 Mn (Nat.one_dvd _) ((dv_iff hp Mn).mp hv)
  have a2 : per t ∣ Pn := lcm_least _ 1 Pn (Nat.one_dvd _) ((dv_iff hp Pn).mp h3)
  have a3 : Dv (per t : Nat) t := (dv_iff hp (per t)).mpr (lcm_dvd (dvs t) 1).2
  have b1 : per t ≤ Mn := Nat.le_of_dvd (by omega) a1
  have b2 : per t ≤ Pn := Nat.le_of_dvd (by omega) a2
  have b3 : 1 ≤ per t := Nat.pos_of_dvd_of_pos a2 (by omega)
  have b4 := h4 (per t) (by omega) (by omega) a3
  exact ⟨by omega, b3, by omega⟩
end Ev

set_option linter.all false
set_option maxRecDepth 100000
set_option maxHeartbeats 1000000
namespace Ev
open PySem PySem.Spec L2
theorem all_tt {α : Type} : ∀ l : List α, (l.map fun _ => true).all id = true
  | [] => rfl
  | x :: l => by rw [List.map_cons, List.all_cons, all_tt l]; rfl
theorem cut_head (xs : List PV) : cutP xs none (some 1) = xs.take 1 := by
  unfold cutP HT.sIx
  cases xs with
  | nil => simp
  | cons x xs => simp
section
variable {Φ : Orc} {L R T A B D : PV} {m d : Int} {st : List Cell} {rs vs za zb : List PV} {ba bb : List Bool} {x y x' y' : Sl}
theorem r15m : finO (m15 Φ ⟨[.val (.tup [.str "most", R, A])], st⟩) = .ok (.val R) st := by
  unfold m15
  simp
theorem r15d : finO (m15 Φ ⟨[.val (.tup [.str "div", D, R, A])], st⟩) = .ok (.val R) st := by
  unfold m15
  simp [s5]
abbrev el13 (b : Int) : M RE := (xCmp2 .LtE .LtE (xNeg (ret (.val (.int b)))) (rdSlot 3) (ret (.val (.int b))))
theorem r16m (h12 : Φ 15 [.tup [.str "most", .tup rs, .int m]] st = .ok (.val (.tup rs)) st)
    (cA : compGo [2, 3] (setSlot 3) (ret true) (el13 3) true (rs.take 1) ⟨[.val (.tup [.str "most", .tup rs, .int m]), .val (.tup rs), .none, .none], st⟩ = .ok za ⟨[.val (.tup [.str "most", .tup rs, .int m]), .val (.tup rs), x, y], st⟩) (la : za.length ≤ 16777216) (ba' : boolsOf za = some ba) (ta : ba.all id = true)
    (cB : compGo [2, 3] (setSlot 3) (ret true) (el13 1) true (rs.drop 1) ⟨[.val (.tup [.str "most", .tup rs, .int m]), .val (.tup rs), .none, .none], st⟩ = .ok zb ⟨[.val (.tup [.str "most", .tup rs, .int m]), .val (.tup rs), x', y'], st⟩) (lb : zb.length ≤ 16777216) (bb' : boolsOf zb = some bb) (tb : bb.all id = true)
    (m0 : -20 ≤ m) (m1 : m ≤ 20) : finO (m16 Φ ⟨[.val (.tup [.str "most", .tup rs, .int m]), .none, .none, .none], st⟩) = .ok (.val (.bl true)) st := by
  unfold m16
  have a1 : L2.atI [PV.str "most", PV.tup rs, PV.int m] (-1) = some (.int m) := rfl
  simp [-List.all_eq_true, -List.drop_one, h12, cut_head, cut_tail, cA, la, ba', ta, cB, lb, bb', tb, m0, m1, a1]
theorem r16d (h12 : Φ 15 [.tup [.str "div", .int d, .tup rs, .int m]] st = .ok (.val (.tup rs)) st)
    (cA : compGo [2, 3] (setSlot 3) (ret true) (el13 3) true (rs.take 1) ⟨[.val (.tup [.str "div", .int d, .tup rs, .int m]), .val (.tup rs), .none, .none], st⟩ = .ok za ⟨[.val (.tup [.str "div", .int d, .tup rs, .int m]), .val (.tup rs), x, y], st⟩) (la : za.length ≤ 16777216) (ba' : boolsOf za = some ba) (ta : ba.all id = true)
    (cB : compGo [2, 3] (setSlot 3) (ret true) (el13 1) true (rs.drop 1) ⟨[.val (.tup [.str "div", .int d, .tup rs, .int m]), .val (.tup rs), .none, .none], st⟩ = .ok zb ⟨[.val (.tup [.str "div", .int d, .tup rs, .int m]), .val (.tup rs), x', y'], st⟩) (lb : zb.length ≤ 16777216) (bb' : boolsOf zb = some bb) (tb : bb.all id = true)
    (m0 : -20 ≤ m) (m1 : m ≤ 20) (d0 : 2 ≤ d) (d1 : d ≤ 6) : finO (m16 Φ ⟨[.val (.tup [.str "div", .int d, .tup rs, .int m]), .none, .none, .none], st⟩) = .ok (.val (.bl true)) st := by
  unfold m16
  have a1 : L2.atI [PV.str "div", PV.int d, PV.tup rs, PV.int m] (-1) = some (.int m) := rfl
  simp [-List.all_eq_true, -List.drop_one, h12, cut_head, cut_tail, cA, la, ba', ta, cB, lb, bb', tb, m0, m1, d0, d1, s5, a1]
theorem r16bad (h12 : Φ 15 [.tup [.str "most", .tup [.int 4], .int 0]] st = .ok (.val (.tup [.int 4])) st) : finO (m16 Φ ⟨[.val (.tup [.str "most", .tup [.int 4], .int 0]), .none, .none, .none], st⟩) = .ok (.val (.bl false)) st := by
  unfold m16
  simp [h12, cut_head, cut_tail]
end
theorem small_comp (L : PV) (R : PV) (b : Int) (st : List Cell) (l : List Int) (h : ∀ x ∈ l, -b ≤ x ∧ x ≤ b) : ∃ x y, compGo [2, 3] (setSlot 3) (ret true) (el13 b) true (l.map .int) ⟨[.val L, .val R, .none, .none], st⟩ = .ok (l.map fun _ => .bl true) ⟨[.val L, .val R, x, y], st⟩ := by
  obtain ⟨s', c1, c2, x, y, c3⟩ := compGo_f (own := [2, 3]) (tgt := setSlot 3) (tst := ret true) (elt := el13 b)
    (I := fun s => s.st = st ∧ ∃ x y, s.env = [.val L, .val R, x, y]) (f := PV.int) (g := fun _ => PV.bl true) l (fun v hv s ⟨h1, x, y, h2⟩ => by
      obtain ⟨env, st'⟩ := s
      cases h1; cases h2
      obtain ⟨q1, q2⟩ := h v hv
      refine ⟨⟨[.val L, .val R, .none, .val (.int v)], st'⟩, ?_, rfl, _, _, rfl⟩
      simp [q1, q2]) ⟨[.val L, .val R, .none, .none], st⟩ ⟨rfl, _, _, rfl⟩
  obtain ⟨env, st'⟩ := s'
  cases c2; cases c3
  exact ⟨x, y, c1⟩
/-- is_small_leaf -/
theorem f16 (k n : Nat) (hn : n ≤ 3) {D : List Int} {M : Int} (hD : Dok D M) (u : Tst) (hu : (∃ r m, u = .most r m) ∨ ∃ d r m, u = .div d r m) (hs : Sml n D u) (st : List Cell) : evP TT (k + 2) 16 [tv u] st = .ok (.val (.bl true)) st := by
  rw [p16]
  have go : ∀ (r : List Int) (m : Int), rowS n r m → r.length ≤ 3 := fun r m h => by rw [h.1]; exact hn
  rcases hu with ⟨r, m, rfl⟩ | ⟨d, r, m, rfl⟩
  · simp only [Sml] at hs
    have hl := go r m hs
    obtain ⟨_, ha, hb, m0, m1⟩ := hs
    obtain ⟨x, y, cA⟩ := small_comp (tv (.most r m)) (PL r) 3 st (r.take 1) ha
    obtain ⟨x', y', cB⟩ := small_comp (tv (.most r m)) (PL r) 1 st (r.drop 1) hb
    have g12 : evP TT (k + 1) 15 [tv (.most r m)] st = .ok (.val (PL r)) st := by rw [p15, tv]; exact r15m
    simp only [tv] at cA cB g12 ⊢
    rw [List.map_take] at cA
    rw [List.map_drop] at cB
    exact r16m g12 cA (by rw [List.length_map, List.length_take]; omega) (boolsOf_map (fun _ => true) _) (all_tt _) cB (by rw [List.length_map, List.length_drop]; omega) (boolsOf_map (fun _ => true) _) (all_tt _) m0 m1
  · simp only [Sml] at hs
    obtain ⟨hd, hs⟩ := hs
    have hl := go r m hs
    obtain ⟨_, ha, hb, m0, m1⟩ := hs
    obtain ⟨d0, d1, _⟩ := hD.1 d hd
    obtain ⟨x, y, cA⟩ := small_comp (tv (.div d r m)) (PL r) 3 st (r.take 1) ha
    obtain ⟨x', y', cB⟩ := small_comp (tv (.div d r m)) (PL r) 1 st (r.drop 1) hb
    have g12 : evP TT (k + 1) 15 [tv (.div d r m)] st = .ok (.val (PL r)) st := by rw [p15, tv]; exact r15d
    simp only [tv] at cA cB g12 ⊢
    rw [List.map_take] at cA
    rw [List.map_drop] at cB
    exact r16d g12 cA (by rw [List.length_map, List.length_take]; omega) (boolsOf_map (fun _ => true) _) (all_tt _) cB (by rw [List.length_map, List.length_drop]; omega) (boolsOf_map (fun _ => true) _) (all_tt _) m0 m1 d0 d1
end Ev

set_option linter.all false
set_option maxRecDepth 100000
set_option maxHeartbeats 1000000
namespace Ev
open PySem PySem.Spec L2
theorem intsOf_all {α : Type} (f : α → Int) : ∀ l : List α, intsOf (l.map fun u => PV.int (f u)) = some (l.map f)
  | [] => rfl
  | x :: l => by rw [List.map_cons, intsOf, intsOf_all f l]; rfl
/-- the greatest of 0 and others -/
def mx (l : List Int) : Int := l.foldl (fun a b => if b > a then b else a) 0
theorem bi_max0 {α : Type} (f : α → Int) (l : List α) : biV .max [.lst (PV.int 0 :: l.map fun u => PV.int (f u))] = some (.val (.int (mx (l.map f)))) := by
  show (match PV.lst (PV.int 0 :: l.map fun u => PV.int (f u)) with | _ => _) = _
  have : intsOf (PV.int 0 :: l.map fun u => PV.int (f u)) = some (0 :: l.map f) := by rw [intsOf, intsOf_all]; rfl
  simp [biV, this, maxI, mx]
theorem mx_bd : ∀ (l : List Int) (a B : Int), 0 ≤ a → a ≤ B → (∀ x ∈ l, x ≤ B) → 0 ≤ l.foldl (fun a b => if b > a then b else a) a ∧ l.foldl (fun a b => if b > a then b else a) a ≤ B
  | [], a, B, h0, h1, _ => ⟨h0, h1⟩
  | x :: l, a, B, h0, h1, h => by
    have hx := h x (List.mem_cons_self ..)
    rw [List.foldl_cons]
    split
    · exact mx_bd l x B (by omega) hx fun y hy => h y (List.mem_cons_of_mem _ hy)
    · exact mx_bd l a B h0 h1 fun y hy => h y (List.mem_cons_of_mem _ hy)
theorem mx_deps : ∀ (ts : List Tst) (a : Nat), (ts.map fun t => (dep t : Int)).foldl (fun a b => if b > a then b else a) (a : Int) = ((max a (deps ts) : Nat) : Int)
  | [], a => by simp [deps]
  | t :: ts, a => by
    rw [List.map_cons, List.foldl_cons]
    simp only [deps]
    split
    · rw [mx_deps ts (dep t)]; congr 1; omega
    · rw [mx_deps ts a]; congr 1; omega
/-! ### height_of -/
section
variable {Φ : Orc} {R A B D : PV} {h : Int} {st : List Cell} {vs zs : List PV} {x y : Sl}
theorem r17m : finO (m17 Φ ⟨[.val (.tup [.str "most", A, B]), .none, .none, .none], st⟩) = .ok (.val (.int 1)) st := by
  unfold m17
  simp
theorem r17d : finO (m17 Φ ⟨[.val (.tup [.str "div", D, A, B]), .none, .none, .none], st⟩) = .ok (.val (.int 1)) st := by
  unfold m17
  simp
theorem r17n (hc : compGo [2, 3] (setSlot 3) (ret true) (xCall Φ 17 [(rdSlot 3)]) true [R] ⟨[.val (.tup [.str "not", R]), .val (.tup [R]), .none, .none], st⟩ = .ok zs ⟨[.val (.tup [.str "not", R]), .val (.tup [R]), x, y], st⟩) (hl : zs.length + 1 ≤ 16777216) (hm : biV .max [.lst (PV.int 0 :: zs)] = some (.val (.int h))) :
    finO (m17 Φ ⟨[.val (.tup [.str "not", R]), .none, .none, .none], st⟩) = .ok (.val (.int (1 + h))) st := by
  unfold m17
  have hl' : 1 + zs.length ≤ 16777216 := by omega
  have hl2 : zs.length ≤ 16777216 := by omega
  simp [cut_tail, hc, hl, hl', hl2, hm]
theorem r17k {nm : Str} (hn : (("most" : Str) == nm) = false) (hn2 : (("div" : Str) == nm) = false) (n3 : nm ≠ "not") (hc : compGo [2, 3] (setSlot 3) (ret true) (xCall Φ 17 [(rdSlot 3)]) true vs ⟨[.val (.tup [.str nm, .tup vs]), .val (.tup vs), .none, .none], st⟩ = .ok zs ⟨[.val (.tup [.str nm, .tup vs]), .val (.tup vs), x, y], st⟩) (hl : zs.length + 1 ≤ 16777216) (hm : biV .max [.lst (PV.int 0 :: zs)] = some (.val (.int h))) :
    finO (m17 Φ ⟨[.val (.tup [.str nm, .tup vs]), .none, .none, .none], st⟩) = .ok (.val (.int (1 + h))) st := by
  unfold m17
  have hl' : 1 + zs.length ≤ 16777216 := by omega
  have hl2 : zs.length ≤ 16777216 := by omega
  simp [hn, hn2, n3, hc, hl, hl', hl2, hm]
end
theorem f17 : ∀ (k : Nat) (t : Tst), dep t ≤ k → cnt t ≤ 100000 → ∀ st, evP TT (k + 1) 17 [tv t] st = .ok (.val (.int (dep t))) st := by
  intro k
  induction k with
  | zero => intro t h; cases t <;> simp [dep] at h
  | succ k ih =>
    intro t hd hc st
    rw [p17]
    have comp : ∀ (T P : PV) (ts : List Tst), (∀ t ∈ ts, dep t ≤ k ∧ cnt t ≤ 100000) → ∃ x y, compGo [2, 3] (setSlot 3) (ret true) (xCall (evP TT (k + 1)) 17 [(rdSlot 3)]) true (ts.map tv) ⟨[.val T, .val P, .none, .none], st⟩ = .ok (ts.map fun t => PV.int (dep t)) ⟨[.val T, .val P, x, y], st⟩ := fun T P ts hts => by
      obtain ⟨s', c1, c2, x, y, c3⟩ := compGo_f (own := [2, 3]) (tgt := setSlot 3) (tst := ret true) (elt := xCall (evP TT (k + 1)) 17 [(rdSlot 3)])
        (I := fun s => s.st = st ∧ ∃ x y, s.env = [.val T, .val P, x, y]) (f := tv) (g := fun t => PV.int (dep t)) ts (fun t ht s ⟨h1, x, y, h2⟩ => by
          obtain ⟨env, st'⟩ := s
          cases h1; cases h2
          obtain ⟨q2, q3⟩ := hts t ht
          have g := ih t q2 q3 st'
          generalize evP TT (k + 1) = Φ at g ⊢
          generalize tv t = V at g ⊢
          refine ⟨⟨[.val T, .val P, .none, .val V], st'⟩, ?_, rfl, _, _, rfl⟩
          simp [g]) ⟨[.val T, .val P, .none, .none], st⟩ ⟨rfl, _, _, rfl⟩
      obtain ⟨env, st'⟩ := s'
      cases c2; cases c3
      exact ⟨x, y, c1⟩
    have eq : ∀ ts : List Tst, 1 + mx (ts.map fun t => (dep t : Int)) = ((deps ts + 1 : Nat) : Int) := fun ts => by
      have := mx_deps ts 0
      unfold mx
      rw [show ((0 : Nat) : Int) = 0 from rfl] at this
      rw [this]
      omega
    cases t with
    | most r m => simp only [tv]; exact r17m
    | div d r m => simp only [tv]; exact r17d
    | not t =>
      simp only [dep] at hd
      simp only [cnt] at hc
      obtain ⟨x, y, e⟩ := comp (.tup [.str "not", tv t]) (.tup [tv t]) [t] (fun u hu => by
        rw [List.mem_singleton] at hu; subst hu; exact ⟨by omega, by omega⟩)
      have q := r17n e (by simp) (bi_max0 (fun t => (dep t : Int)) [t])
      rw [eq] at q
      simp only [tv]
      rw [q]
      simp only [deps, dep]
      rw [Nat.max_zero]
    | knot a ts =>
      simp only [dep] at hd
      simp only [cnt] at hc
      have hl := cnt_len ts
      have cc := fun T P => comp T P ts (fun u hu => ⟨by have := dep_mem hu; omega, by have := cnt_mem hu; omega⟩)
      simp only [tv, dep, tvs_map]
      rw [← eq]
      cases a with
      | true =>
        obtain ⟨x, y, e⟩ := cc (.tup [.str "and", .tup (ts.map tv)]) (.tup (ts.map tv))
        rw [if_pos rfl]
        exact r17k (by decide +kernel) (by decide +kernel) s3 e (by rw [List.length_map]; omega) (bi_max0 (fun t => (dep t : Int)) ts)
      | false =>
        obtain ⟨x, y, e⟩ := cc (.tup [.str "or", .tup (ts.map tv)]) (.tup (ts.map tv))
        rw [if_neg (by decide)]
        exact r17k (by decide +kernel) (by decide +kernel) s4 e (by rw [List.length_map]; omega) (bi_max0 (fun t => (dep t : Int)) ts)
/-! ### greatest_in -/
end Ev

set_option linter.all false
set_option maxRecDepth 100000
set_option maxHeartbeats 1000000
namespace Ev
open PySem PySem.Spec L2
@[simp] theorem finO_exc (x : Ex) (s : ES) : finO (.exc x s) = .exc x s.st := rfl
abbrev elw15 : M RE := (xBool .And [(xIsi "str" (rdSlot 4)), (xCmp .In (rdSlot 4) (ret (.val (.tup [(.str "some"), (.str "all")]))))])
section
variable {Φ : Orc} {T V W : PV} {f n d p : Int} {st : List Cell} {wsv zs vs us : List PV} {bs cs : List Bool} {x y x' y' : Sl}
/-- fits_formula says yes -/
theorem r18 (h1 : Φ 1 [.tup [.int f, .tup wsv, T], .int 3, .int 3] st = .ok (.val (.bl true)) st) (h2 : Φ 0 [.int f, .int 0, .int 3] st = .ok (.val (.bl true)) st) (h3 : Φ 1 [.tup wsv, .int 0, .int 2] st = .ok (.val (.bl true)) st)
    (e : f + (wsv.length : Int) = n) (hn : ¬ 3 < n)
    (c1 : compGo [3, 4] (setSlot 4) (ret true) elw15 true wsv ⟨[.val (.tup [.int f, .tup wsv, T]), .val (.int n), .none, .none, .none, .none], st⟩ = .ok zs ⟨[.val (.tup [.int f, .tup wsv, T]), .val (.int n), .none, x, y, .none], st⟩) (lz : zs.length ≤ 16777216) (bz : boolsOf zs = some bs) (tz : bs.all id = true)
    (h6 : Φ 6 [.int n, T] st = .ok (.val (.bl true)) st) (h14 : Φ 17 [T] st = .ok (.val (.int d)) st) (hd : ¬ 6 < d)
    (h7 : Φ 7 [T] st = .ok (.fresh (.lst vs)) st) (lv : ¬ 6 < (vs.length : Int))
    (c2 : compGo [3, 5] (setSlot 5) (ret true) (xCall Φ 16 [(rdSlot 5)]) true vs ⟨[.val (.tup [.int f, .tup wsv, T]), .val (.int n), .val (.lst vs), .none, .none, .none], st⟩ = .ok us ⟨[.val (.tup [.int f, .tup wsv, T]), .val (.int n), .val (.lst vs), x', .none, y'], st⟩) (lu : us.length ≤ 16777216) (bu : boolsOf us = some cs) (tu : cs.all id = true)
    (h11 : Φ 14 [T] st = .ok (.val (.int p)) st) (hp : p ≤ 6) :
    finO (m18 Φ ⟨[.val (.tup [.int f, .tup wsv, T]), .none, .none, .none, .none, .none], st⟩) = .ok (.val (.bl true)) st := by
  unfold m18
  simp [-List.all_eq_true, h1, h2, h3, e, hn, c1, lz, bz, tz, h6, h14, hd, h7, lv, c2, lu, bu, tu, h11, hp]
theorem r18no (h1 : Φ 1 [V, .int 3, .int 3] st = .ok (.val (.bl false)) st) : finO (m18 Φ ⟨[.val V, .none, .none, .none, .none, .none], st⟩) = .ok (.val (.bl false)) st := by
  unfold m18
  simp [h1]
end
end Ev

set_option linter.all false
set_option maxRecDepth 100000
set_option maxHeartbeats 1000000
namespace Ev
open PySem PySem.Spec L2
/-! ### small tests -/
theorem rowS_bd {n : Nat} {r : List Int} {m : Int} (h : rowS n r m) : r.length = n ∧ (∀ x ∈ r, -3 ≤ x ∧ x ≤ 3) ∧ -20 ≤ m ∧ m ≤ 20 := by
  obtain ⟨h1, h2, h3, h4, h5⟩ := h
  refine ⟨h1, fun x hx => ?_, h4, h5⟩
  cases r with
  | nil => cases hx
  | cons y r =>
    rcases List.mem_cons.mp hx with rfl | hx
    · exact h2 x (by simp)
    · have := h3 x (by simpa using hx); omega
mutual
theorem sml_ok {n : Nat} {D : List Int} {M : Int} (hD : Dok D M) : ∀ t : Tst, Sml n D t → Ok n 3 20 t ∧ Dv M t
  | .most r m, h => by
    simp only [Sml] at h
    obtain ⟨h1, h2, h3, h4⟩ := rowS_bd h
    simp only [Ok, Dv]
    exact ⟨⟨h1, h2, h3, h4⟩, trivial⟩
  | .div d r m, h => by
    simp only [Sml] at h
    obtain ⟨h1, h2, h3, h4⟩ := rowS_bd h.2
    obtain ⟨d1, d2, d3⟩ := hD.1 d h.1
    simp only [Ok, Dv]
    exact ⟨⟨h1, h2, ⟨h3, h4⟩, by omega, by omega⟩, d3⟩
  | .not t, h => by
    simp only [Sml] at h
    simp only [Ok, Dv]
    exact sml_ok hD t h
  | .knot _ ts, h => by
    simp only [Sml] at h
    simp only [Ok, Dv]
    exact smls_ok hD ts h
theorem smls_ok {n : Nat} {D : List Int} {M : Int} (hD : Dok D M) : ∀ ts : List Tst, Smls n D ts → Oks n 3 20 ts ∧ Dvs M ts
  | [], _ => by simp [Oks, Dvs]
  | t :: ts, h => by
    simp only [Smls] at h
    obtain ⟨a1, a2⟩ := sml_ok hD t h.1
    obtain ⟨b1, b2⟩ := smls_ok hD ts h.2
    simp only [Oks, Dvs]
    exact ⟨⟨a1, b1⟩, a2, b2⟩
end
mutual
theorem sml_lvs {n : Nat} {D : List Int} : ∀ t : Tst, Sml n D t → ∀ u ∈ lvs t, Sml n D u ∧ ((∃ r m, u = .most r m) ∨ ∃ d r m, u = .div d r m)
  | .most r m, h => by intro u hu; simp only [lvs, List.mem_singleton] at hu; subst hu; exact ⟨h, .inl ⟨_, _, rfl⟩⟩
  | .div d r m, h => by intro u hu; simp only [lvs, List.mem_singleton] at hu; subst hu; exact ⟨h, .inr ⟨_, _, _, rfl⟩⟩
  | .not t, h => by simp only [Sml] at h; simp only [lvs]; exact sml_lvs t h
  | .knot _ ts, h => by simp only [Sml] at h; simp only [lvs]; exact smls_lvs ts h
theorem smls_lvs {n : Nat} {D : List Int} : ∀ ts : List Tst, Smls n D ts → ∀ u ∈ lvss ts, Sml n D u ∧ ((∃ r m, u = .most r m) ∨ ∃ d r m, u = .div d r m)
  | [], _ => by simp [lvss]
  | t :: ts, h => by
    simp only [Smls] at h
    intro u hu
    simp only [lvss, List.mem_append] at hu
    rcases hu with hu | hu
    · exact sml_lvs t h.1 u hu
    · exact smls_lvs ts h.2 u hu
end
theorem sml_pos {n : Nat} {D : List Int} {M : Int} (hD : Dok D M) {t : Tst} (h : Sml n D t) : ∀ u ∈ lvs t, posD u := fun u hu => by
  obtain ⟨a, b⟩ := sml_lvs t h u hu
  rcases b with ⟨r, m, rfl⟩ | ⟨d, r, m, rfl⟩
  · trivial
  · simp only [Sml] at a
    have := hD.1 d a.1
    unfold posD
    omega
theorem words_comp (F N : PV) (st : List Cell) (ws : List Bool) : ∃ x y, compGo [3, 4] (setSlot 4) (ret true) elw15 true (ws.map wv) ⟨[.val F, .val N, .none, .none, .none, .none], st⟩ = .ok (ws.map fun _ => .bl true) ⟨[.val F, .val N, .none, x, y, .none], st⟩ := by
  obtain ⟨s', c1, c2, x, y, c3⟩ := compGo_f (own := [3, 4]) (tgt := setSlot 4) (tst := ret true) (elt := elw15)
    (I := fun s => s.st = st ∧ ∃ x y, s.env = [.val F, .val N, .none, x, y, .none]) (f := wv) (g := fun _ => PV.bl true) ws (fun v hv s ⟨h1, x, y, h2⟩ => by
      obtain ⟨env, st'⟩ := s
      cases h1; cases h2
      refine ⟨⟨[.val F, .val N, .none, .none, .val (wv v), .none], st'⟩, ?_, rfl, _, _, rfl⟩
      unfold wv
      cases v <;> simp) ⟨[.val F, .val N, .none, .none, .none, .none], st⟩ ⟨rfl, _, _, rfl⟩
  obtain ⟨env, st'⟩ := s'
  cases c2; cases c3
  exact ⟨x, y, c1⟩
/-- fits_formula -/
theorem f18 (k fr : Nat) (ws : List Bool) (t : Tst) {D : List Int} {M : Int} (hD : Dok D M) (h3 : fr + ws.length ≤ 3) (h2 : ws.length ≤ 2) (hs : Sml (fr + ws.length) D t) (hd : dep t ≤ 6) (hl : (lvs t).length ≤ 6) (hc : cnt t ≤ 100) (st : List Cell) : evP TT (k + 20) 18 [fv fr ws t] st = .ok (.val (.bl true)) st := by
  rw [p18]
  obtain ⟨ok, dv⟩ := sml_ok hD t hs
  have pos := sml_pos hD hs
  have g1 := f1 (k + 18) [.int fr, .tup (ws.map wv), tv t] 3 3 st
  have g2 := f0t (k + 18) (v := fr) (lo := 0) (hi := 3) (by omega) st
  have g3 := f1 (k + 18) (ws.map wv) 0 2 st
  rw [List.length_map] at g3
  rw [decide_eq_true (show (0 : Int) ≤ (ws.length : Int) by omega), decide_eq_true (show (ws.length : Int) ≤ 2 by omega)] at g3
  obtain ⟨x, y, c1⟩ := words_comp (fv fr ws t) (.int ((fr + ws.length : Nat) : Int)) st ws
  have g6 := f6 (k + 14) (fr + ws.length) (by omega) t (ok_mono (by decide) (by decide) _ ok) (by omega) (by omega) st
  have g14 := f17 (k + 18) t (by omega) (by omega) st
  have g7 := f7 (k + 17) t (by omega) (by omega) st
  have g11 := f14 (k + 15) t pos (by omega) (by omega) st
  have pe : per t ≤ 6 := by
    have a1 : per t ∣ M.toNat := lcm_least _ 1 _ (Nat.one_dvd _) ((dv_iff pos M.toNat).mp (by rw [Int.toNat_of_nonneg (by have := hD.2; omega)]; exact dv))
    have := Nat.le_of_dvd (by have := hD.2; omega) a1
    have := hD.2
    omega
  have c2 : ∀ (F : PV) (LL : List PV), ∃ x y, compGo [3, 5] (setSlot 5) (ret true) (xCall (evP TT (k + 19)) 16 [(rdSlot 5)]) true ((lvs t).map tv) ⟨[.val F, .val (.int ((fr + ws.length : Nat) : Int)), .val (.lst LL), .none, .none, .none], st⟩ = .ok ((lvs t).map fun _ => .bl true) ⟨[.val F, .val (.int ((fr + ws.length : Nat) : Int)), .val (.lst LL), x, .none, y], st⟩ := fun F LL => by
    obtain ⟨s', c1, c2, x, y, c3⟩ := compGo_f (own := [3, 5]) (tgt := setSlot 5) (tst := ret true) (elt := xCall (evP TT (k + 19)) 16 [(rdSlot 5)])
      (I := fun s => s.st = st ∧ ∃ x y, s.env = [.val F, .val (.int ((fr + ws.length : Nat) : Int)), .val (.lst LL), x, .none, y]) (f := tv) (g := fun _ => PV.bl true) (lvs t) (fun v hv s ⟨h1, x, y, h2⟩ => by
        obtain ⟨env, st'⟩ := s
        cases h1; cases h2
        obtain ⟨a, b⟩ := sml_lvs t hs v hv
        have g := f16 (k + 17) (fr + ws.length) (by omega) hD v b a st'
        generalize evP TT (k + 17 + 2) = Φ at g ⊢
        generalize tv v = V at g ⊢
        refine ⟨⟨[.val F, .val (.int ((fr + ws.length : Nat) : Int)), .val (.lst LL), .none, .none, .val V], st'⟩, ?_, rfl, _, _, rfl⟩
        simp [g]) ⟨[.val F, .val (.int ((fr + ws.length : Nat) : Int)), .val (.lst LL), .none, .none, .none], st⟩ ⟨rfl, _, _, rfl⟩
    obtain ⟨env, st'⟩ := s'
    cases c2; cases c3
    exact ⟨x, y, c1⟩
  obtain ⟨x', y', c2⟩ := c2 (fv fr ws t) ((lvs t).map tv)
  unfold fv at c1 c2 ⊢
  exact r18 g1 g2 g3 (by rw [List.length_map]; omega) (by omega) c1 (by rw [List.length_map]; omega) (boolsOf_map (fun _ => true) ws) (all_tt ws) g6 g14 (by omega) g7 (by rw [List.length_map]; omega) c2 (by rw [List.length_map]; omega) (boolsOf_map (fun _ => true) (lvs t)) (all_tt (lvs t)) g11 (by omega)
end Ev

set_option linter.all false
set_option maxRecDepth 100000
set_option maxHeartbeats 1000000
namespace Ev
open PySem PySem.Spec L2
/-! ### members of a cell -/
def fm (lo hi : Option Int) (r p : Int) : Option Int :=
  match lo with
  | some l => match hi with
    | none => some (l + 1 + (r - l - 1) % p)
    | some h => if l + 1 + (r - l - 1) % p ≤ h then some (l + 1 + (r - l - 1) % p) else none
  | none => match hi with
    | none => some r
    | some h => some (h - (h - r) % p)
def lm (lo hi : Option Int) (r p : Int) : Option Int :=
  match hi with
  | some h => match lo with
    | none => some (h - (h - r) % p)
    | some l => if l < h - (h - r) % p then some (h - (h - r) % p) else none
  | none => fm lo none r p
def loP (lo : Option Int) (x : Int) : Prop := match lo with
  | none => True
  | some l => l < x
def hiP (hi : Option Int) (x : Int) : Prop := match hi with
  | none => True
  | some h => x ≤ h
@[simp] theorem loP_n (x : Int) : loP none x = True := rfl
@[simp] theorem loP_s (l x : Int) : loP (some l) x = (l < x) := rfl
@[simp] theorem hiP_n (x : Int) : hiP none x = True := rfl
@[simp] theorem hiP_s (l x : Int) : hiP (some l) x = (x ≤ l) := rfl
instance (lo : Option Int) (x : Int) : Decidable (loP lo x) := by cases lo <;> simp <;> infer_instance
instance (lo : Option Int) (x : Int) : Decidable (hiP lo x) := by cases lo <;> simp <;> infer_instance
theorem mod_up (l r p : Int) (p0 : 0 < p) (r0 : 0 ≤ r) (r1 : r < p) : (l + 1 + (r - l - 1) % p) % p = r := by
  have e := Int.emod_def (r - l - 1) p
  have e2 : l + 1 + (r - l - 1) % p = r + p * (-((r - l - 1) / p)) := by rw [e, Int.mul_neg]; omega
  rw [e2, Int.add_mul_emod_self_left, Int.emod_eq_of_lt r0 r1]
theorem mod_dn (h r p : Int) (p0 : 0 < p) (r0 : 0 ≤ r) (r1 : r < p) : (h - (h - r) % p) % p = r := by
  have e := Int.emod_def (h - r) p
  have e2 : h - (h - r) % p = r + p * ((h - r) / p) := by rw [e]; omega
  rw [e2, Int.add_mul_emod_self_left, Int.emod_eq_of_lt r0 r1]
theorem mod_gap {x y p : Int} (p0 : 0 < p) (e : x % p = y % p) (h : y < x) : y + p ≤ x := by
  have e2 := Int.emod_eq_emod_iff_emod_sub_eq_zero.mp e
  have := Int.le_of_dvd (by omega) (Int.dvd_of_emod_eq_zero e2)
  omega
theorem fm_some {lo hi : Option Int} {r p x : Int} (p0 : 0 < p) (r0 : 0 ≤ r) (r1 : r < p) (h : fm lo hi r p = some x) : (loP lo x ∧ hiP hi x ∧ x % p = r) ∧ ∀ l, lo = some l → x ≤ l + p ∧ ∀ y, l < y → y % p = r → x ≤ y := by
  have g1 := fun z => Int.emod_nonneg z (show p ≠ 0 by omega)
  have g2 := fun z => Int.emod_lt_of_pos z p0
  unfold fm at h
  cases lo with
  | some l =>
    have key : hiP hi (l + 1 + (r - l - 1) % p) ∧ x = l + 1 + (r - l - 1) % p := by
      cases hi with
      | none => cases h; exact ⟨trivial, rfl⟩
      | some k =>
        dsimp only at h
        split at h
        next q => cases h; exact ⟨q, rfl⟩
        next => cases h
    obtain ⟨k1, rfl⟩ := key
    have a := g1 (r - l - 1)
    have b := g2 (r - l - 1)
    refine ⟨⟨by rw [loP_s]; omega, k1, mod_up l r p p0 r0 r1⟩, fun l' e => ?_⟩
    cases e
    refine ⟨by omega, fun y h1 h2 => ?_⟩
    apply Int.not_lt.mp
    intro h3
    have := mod_gap p0 ((mod_up l r p p0 r0 r1).trans h2.symm) h3
    omega
  | none =>
    refine ⟨?_, fun l e => by cases e⟩
    cases hi with
    | none => cases h; exact ⟨trivial, trivial, Int.emod_eq_of_lt r0 r1⟩
    | some k =>
      cases h
      have a := g1 (k - r)
      exact ⟨trivial, by rw [hiP_s]; omega, mod_dn k r p p0 r0 r1⟩
theorem fm_none {lo hi : Option Int} {r p : Int} (p0 : 0 < p) (r0 : 0 ≤ r) (r1 : r < p) (h : fm lo hi r p = none) (y : Int) (h1 : loP lo y) (h2 : hiP hi y) (h3 : y % p = r) : False := by
  unfold fm at h
  cases lo with
  | none => cases hi <;> cases h
  | some l =>
    cases hi with
    | none => cases h
    | some k =>
      dsimp only at h
      split at h
      next => cases h
      next q =>
        rw [loP_s] at h1
        rw [hiP_s] at h2
        have a := Int.emod_nonneg (r - l - 1) (show p ≠ 0 by omega)
        have b := Int.emod_lt_of_pos (r - l - 1) p0
        have := mod_gap p0 ((mod_up l r p p0 r0 r1).trans h3.symm) (by omega)
        omega
theorem lm_some {lo hi : Option Int} {r p x : Int} (p0 : 0 < p) (r0 : 0 ≤ r) (r1 : r < p) (h : lm lo hi r p = some x) : (loP lo x ∧ hiP hi x ∧ x % p = r) ∧ ∀ k, hi = some k → k - p ≤ x ∧ ∀ y, y ≤ k → y % p = r → y ≤ x := by
  have g1 := fun z => Int.emod_nonneg z (show p ≠ 0 by omega)
  have g2 := fun z => Int.emod_lt_of_pos z p0
  unfold lm at h
  cases hi with
  | some k =>
    have key : loP lo (k - (k - r) % p) ∧ x = k - (k - r) % p := by
      cases lo with
      | none => cases h; exact ⟨trivial, rfl⟩
      | some l =>
        dsimp only at h
        split at h
        next q => cases h; exact ⟨q, rfl⟩
        next => cases h
    obtain ⟨k1, rfl⟩ := key
    have a := g1 (k - r)
    have b := g2 (k - r)
    refine ⟨⟨k1, by rw [hiP_s]; omega, mod_dn k r p p0 r0 r1⟩, fun l' e => ?_⟩
    cases e
    refine ⟨by omega, fun y h1 h2 => ?_⟩
    apply Int.not_lt.mp
    intro h3
    have := mod_gap p0 (h2.trans (mod_dn k r p p0 r0 r1).symm) h3
    omega
  | none =>
    have := fm_some p0 r0 r1 h
    exact ⟨this.1, fun l e => by cases e⟩
theorem lm_none {lo hi : Option Int} {r p : Int} (p0 : 0 < p) (r0 : 0 ≤ r) (r1 : r < p) (h : lm lo hi r p = none) (y : Int) (h1 : loP lo y) (h2 : hiP hi y) (h3 : y % p = r) : False := by
  unfold lm at h
  cases hi with
  | none => exact fm_none p0 r0 r1 h y h1 h2 h3
  | some k =>
    cases lo with
    | none => cases h
    | some l =>
      dsimp only at h
      split at h
      next => cases h
      next q =>
        rw [loP_s] at h1
        rw [hiP_s] at h2
        have a := Int.emod_nonneg (k - r) (show p ≠ 0 by omega)
        have b := Int.emod_lt_of_pos (k - r) p0
        have := mod_gap p0 (h3.trans (mod_dn k r p p0 r0 r1).symm) (by omega)
        omega
/-! ### cells -/
structure Tr where
  lo : Option Int
  hi : Option Int
  r : Int
def midC (a : Int) : List Int → List (Option Int × Option Int)
  | [] => [(some a, none)]
  | b :: fs => (some a, some b) :: midC b fs
def cellsL : List Int → List (Option Int × Option Int)
  | [] => [(none, none)]
  | a :: fs => (none, some a) :: midC a fs
theorem mid_in : ∀ (fs : List Int) (a x : Int), a < x → ∃ c ∈ midC a fs, loP c.1 x ∧ hiP c.2 x
  | [], a, x, h => ⟨_, List.mem_cons_self .., h, trivial⟩
  | b :: fs, a, x, h => by
    by_cases q : x ≤ b
    · exact ⟨_, List.mem_cons_self .., h, q⟩
    · obtain ⟨c, h1, h2⟩ := mid_in fs b x (by omega)
      exact ⟨c, List.mem_cons_of_mem _ h1, h2⟩
theorem cell_in (fs : List Int) (x : Int) : ∃ c ∈ cellsL fs, loP c.1 x ∧ hiP c.2 x := by
  cases fs with
  | nil => exact ⟨_, List.mem_cons_self .., trivial, trivial⟩
  | cons a fs =>
    by_cases q : x ≤ a
    · exact ⟨_, List.mem_cons_self .., trivial, q⟩
    · obtain ⟨c, h1, h2⟩ := mid_in fs a x (by omega)
      exact ⟨c, List.mem_cons_of_mem _ h1, h2⟩
theorem mid_mem : ∀ (fs : List Int) (a : Int) (c : Option Int × Option Int), c ∈ midC a fs → (∀ l, c.1 = some l → l ∈ a :: fs) ∧ (∀ h, c.2 = some h → h ∈ fs)
  | [], a, c, h => by
    rcases List.mem_singleton.mp h with rfl
    exact ⟨(fun l e => by cases e; simp), (fun l e => by cases e)⟩
  | b :: fs, a, c, h => by
    rcases List.mem_cons.mp h with rfl | h
    · exact ⟨(fun l e => by cases e; simp), (fun l e => by cases e; simp)⟩
    · have := mid_mem fs b c h
      exact ⟨fun l e => List.mem_cons_of_mem _ (this.1 l e), fun l e => List.mem_cons_of_mem _ (this.2 l e)⟩
theorem cell_mem (fs : List Int) (c : Option Int × Option Int) (h : c ∈ cellsL fs) : (∀ l, c.1 = some l → l ∈ fs) ∧ (∀ h, c.2 = some h → h ∈ fs) := by
  cases fs with
  | nil =>
    rcases List.mem_singleton.mp h with rfl
    exact ⟨(fun l e => by cases e), (fun l e => by cases e)⟩
  | cons a fs =>
    rcases List.mem_cons.mp h with rfl | h
    · exact ⟨(fun l e => by cases e), (fun l e => by cases e; simp)⟩
    · have := mid_mem fs a c h
      exact ⟨this.1, fun l e => List.mem_cons_of_mem _ (this.2 l e)⟩
theorem mid_gt : ∀ (fs : List Int) (a : Int), (a :: fs).Pairwise (· < ·) → ∀ c ∈ midC a fs, ∀ x, loP c.1 x → a < x
  | [], a, _, c, h, x, hx => by
    rcases List.mem_singleton.mp h with rfl
    exact hx
  | b :: fs, a, hp, c, h, x, hx => by
    rcases List.mem_cons.mp h with rfl | h
    · exact hx
    · have h1 := List.pairwise_cons.mp hp
      have := mid_gt fs b h1.2 c h x hx
      have := h1.1 b (List.mem_cons_self ..)
      omega
theorem mid_same : ∀ (fs : List Int) (a : Int), (a :: fs).Pairwise (· < ·) → ∀ c ∈ midC a fs, ∀ x y, loP c.1 x → hiP c.2 x → loP c.1 y → hiP c.2 y → ∀ f ∈ fs, x ≤ f ↔ y ≤ f
  | [], a, _, c, h, x, y, h1, h2, h3, h4, f, hf => by cases hf
  | b :: fs, a, hp, c, h, x, y, h1, h2, h3, h4, f, hf => by
    have hp1 := List.pairwise_cons.mp hp
    rcases List.mem_cons.mp h with rfl | h
    · have hp2 := List.pairwise_cons.mp hp1.2
      rw [hiP_s] at h2 h4
      have : b ≤ f := by
        rcases List.mem_cons.mp hf with rfl | hf
        · omega
        · have := hp2.1 f hf; omega
      constructor <;> intro _ <;> omega
    · rcases List.mem_cons.mp hf with rfl | hf
      · have a1 := mid_gt fs f hp1.2 c h x h1
        have a2 := mid_gt fs f hp1.2 c h y h3
        constructor <;> intro _ <;> omega
      · exact mid_same fs b hp1.2 c h x y h1 h2 h3 h4 f hf
theorem cell_same (fs : List Int) (hp : fs.Pairwise (· < ·)) (c : Option Int × Option Int) (h : c ∈ cellsL fs) (x y : Int) (h1 : loP c.1 x) (h2 : hiP c.2 x) (h3 : loP c.1 y) (h4 : hiP c.2 y) (f : Int) (hf : f ∈ fs) : x ≤ f ↔ y ≤ f := by
  cases fs with
  | nil => cases hf
  | cons a fs =>
    have hp1 := List.pairwise_cons.mp hp
    rcases List.mem_cons.mp h with rfl | h
    · rw [hiP_s] at h2 h4
      have : a ≤ f := by
        rcases List.mem_cons.mp hf with rfl | hf
        · omega
        · have := hp1.1 f hf; omega
      constructor <;> intro _ <;> omega
    · rcases List.mem_cons.mp hf with rfl | hf
      · have a1 := mid_gt fs f hp c h x h1
        have a2 := mid_gt fs f hp c h y h3
        constructor <;> intro _ <;> omega
      · exact mid_same fs a hp c h x y h1 h2 h3 h4 f hf
theorem mid_sep : ∀ (fs : List Int) (a : Int), (a :: fs).Pairwise (· < ·) → (midC a fs).Pairwise fun c d => ∀ x, hiP c.2 x → loP d.1 x → False
  | [], a, _ => List.pairwise_singleton _ _
  | b :: fs, a, hp => by
    have hp1 := List.pairwise_cons.mp hp
    refine List.pairwise_cons.mpr ⟨fun d hd x h1 h2 => ?_, mid_sep fs b hp1.2⟩
    have := mid_gt fs b hp1.2 d hd x h2
    rw [hiP_s] at h1
    omega
theorem cell_sep (fs : List Int) (hp : fs.Pairwise (· < ·)) : (cellsL fs).Pairwise fun c d => ∀ x, hiP c.2 x → loP d.1 x → False := by
  cases fs with
  | nil => exact List.pairwise_singleton _ _
  | cons a fs =>
    refine List.pairwise_cons.mpr ⟨fun d hd x h1 h2 => ?_, mid_sep fs a hp⟩
    have := mid_gt fs a hp d hd x h2
    rw [hiP_s] at h1
    omega
/-! ### the true cells -/
def rngN (N : Nat) : List Int := (List.range N).map fun (k : Nat) => (k : Int)
theorem mem_rngN {N : Nat} {x : Int} : x ∈ rngN N ↔ 0 ≤ x ∧ x < N := by
  unfold rngN
  rw [List.mem_map]
  constructor
  · rintro ⟨k, hk, rfl⟩
    have := List.mem_range.mp hk
    omega
  · intro h
    exact ⟨x.toNat, List.mem_range.mpr (by omega), by omega⟩
theorem rngN_pw (N : Nat) : (rngN N).Pairwise (· < ·) := by
  unfold rngN
  rw [List.pairwise_map]
  refine List.Pairwise.imp ?_ List.pairwise_lt_range
  intro a b h
  omega
def oneT (tr : Int → Bool) (p : Int) (c : Option Int × Option Int) (r : Int) : List Tr := match fm c.1 c.2 r p with
  | some x => if tr x then [⟨c.1, c.2, r⟩] else []
  | none => []
def cellT (tr : Int → Bool) (p : Int) (c : Option Int × Option Int) : List Tr := (rngN p.toNat).flatMap (oneT tr p c)
def trueL (tr : Int → Bool) (p : Int) (fs : List Int) : List Tr := (cellsL fs).flatMap (cellT tr p)
theorem mem_one {tr : Int → Bool} {p : Int} {c : Option Int × Option Int} {r : Int} {t : Tr} : t ∈ oneT tr p c r ↔ t = ⟨c.1, c.2, r⟩ ∧ ∃ x, fm c.1 c.2 r p = some x ∧ tr x = true := by
  unfold oneT
  cases h : fm c.1 c.2 r p with
  | none => simp
  | some x => by_cases q : tr x = true <;> simp [q]
theorem mem_true {tr : Int → Bool} {p : Int} {fs : List Int} {t : Tr} : t ∈ trueL tr p fs ↔ ∃ c ∈ cellsL fs, (0 ≤ t.r ∧ t.r < p) ∧ t = ⟨c.1, c.2, t.r⟩ ∧ ∃ x, fm c.1 c.2 t.r p = some x ∧ tr x = true := by
  unfold trueL cellT
  simp only [List.mem_flatMap, mem_rngN, mem_one]
  constructor
  · rintro ⟨c, hc, r, hr, rfl, x, hx⟩
    exact ⟨c, hc, ⟨hr.1, by dsimp only; omega⟩, rfl, x, hx⟩
  · rintro ⟨c, hc, hr, e, x, hx⟩
    exact ⟨c, hc, t.r, ⟨hr.1, by omega⟩, e, x, hx⟩
structure Even (tr : Int → Bool) (p : Int) (fs : List Int) : Prop where
  p0 : 0 < p
  pw : fs.Pairwise (· < ·)
  same : ∀ x y, (∀ f ∈ fs, x ≤ f ↔ y ≤ f) → x % p = y % p → tr x = tr y
def inT (p : Int) (t : Tr) (x : Int) : Prop := (loP t.lo x ∧ hiP t.hi x) ∧ x % p = t.r
instance (p : Int) (t : Tr) (x : Int) : Decidable (inT p t x) := by unfold inT; infer_instance
/-- what is known of the true cells -/
structure TL (tr : Int → Bool) (p B : Int) (L : List Tr) : Prop where
  p0 : 0 < p
  rr : ∀ t ∈ L, 0 ≤ t.r ∧ t.r < p
  snd : ∀ t ∈ L, ∀ x, inT p t x → tr x = true
  ex : ∀ t ∈ L, ∃ x, inT p t x
  cmp : ∀ x, tr x = true → ∃ t ∈ L, inT p t x
  sep : L.Pairwise fun s t => ∀ x, inT p s x → inT p t x → False
  bl : ∀ t ∈ L, ∀ l, t.lo = some l → -B ≤ l ∧ l ≤ B
  bh : ∀ t ∈ L, ∀ l, t.hi = some l → -B ≤ l ∧ l ≤ B
theorem trueL_ok {tr : Int → Bool} {p B : Int} {fs : List Int} (h : Even tr p fs) (hB : ∀ f ∈ fs, -B ≤ f ∧ f ≤ B) : TL tr p B (trueL tr p fs) := by
  have p0 := h.p0
  refine ⟨p0, fun t ht => ?_, fun t ht x hx => ?_, fun t ht => ?_, fun x hx => ?_, ?_, fun t ht l e => ?_, fun t ht l e => ?_⟩
  · obtain ⟨c, hc, hr, e, x, hx⟩ := mem_true.mp ht
    exact hr
  · obtain ⟨c, hc, hr, e, y, hy, ty⟩ := mem_true.mp ht
    have g := (fm_some p0 hr.1 hr.2 hy).1
    rw [e] at hx
    obtain ⟨⟨q1, q2⟩, q3⟩ := hx
    dsimp only at q1 q2 q3
    rw [← ty]
    exact h.same x y (fun f hf => cell_same fs h.pw c hc x y q1 q2 g.1 g.2.1 f hf) (q3.trans g.2.2.symm)
  · obtain ⟨c, hc, hr, e, y, hy, ty⟩ := mem_true.mp ht
    have g := (fm_some p0 hr.1 hr.2 hy).1
    refine ⟨y, ?_⟩
    rw [e]
    exact ⟨⟨g.1, g.2.1⟩, g.2.2⟩
  · obtain ⟨c, hc, q1, q2⟩ := cell_in fs x
    have m0 := Int.emod_nonneg x (show p ≠ 0 by omega)
    have m1 := Int.emod_lt_of_pos x p0
    cases e : fm c.1 c.2 (x % p) p with
    | none => exact (fm_none p0 m0 m1 e x q1 q2 rfl).elim
    | some y =>
      have g := (fm_some p0 m0 m1 e).1
      refine ⟨⟨c.1, c.2, x % p⟩, mem_true.mpr ⟨c, hc, ⟨m0, m1⟩, rfl, y, e, ?_⟩, ⟨q1, q2⟩, rfl⟩
      rw [← hx]
      exact h.same y x (fun f hf => cell_same fs h.pw c hc y x g.1 g.2.1 q1 q2 f hf) g.2.2
  · unfold trueL
    rw [List.pairwise_flatMap]
    refine ⟨fun c hc => ?_, ?_⟩
    · unfold cellT
      rw [List.pairwise_flatMap]
      refine ⟨fun r hr => ?_, ?_⟩
      · unfold oneT
        split
        · split
          · exact List.pairwise_singleton _ _
          · exact .nil
        · exact .nil
      · refine (rngN_pw _).imp ?_
        intro a b hab s hs t ht x h1 h2
        have e1 := (mem_one.mp hs).1
        have e2 := (mem_one.mp ht).1
        subst e1 e2
        have a1 := h1.2
        have a2 := h2.2
        dsimp only at a1 a2
        omega
    · refine (cell_sep fs h.pw).imp ?_
      intro c d hcd s hs t ht x h1 h2
      obtain ⟨r, _, hs⟩ := List.mem_flatMap.mp hs
      obtain ⟨r', _, ht⟩ := List.mem_flatMap.mp ht
      have e1 := (mem_one.mp hs).1
      have e2 := (mem_one.mp ht).1
      subst e1 e2
      exact hcd x h1.1.2 h2.1.1
  · obtain ⟨c, hc, hr, e', x, hx⟩ := mem_true.mp ht
    rw [e'] at e
    exact hB l ((cell_mem fs c hc).1 l e)
  · obtain ⟨c, hc, hr, e', x, hx⟩ := mem_true.mp ht
    rw [e'] at e
    exact hB l ((cell_mem fs c hc).2 l e)
end Ev

set_option linter.all false
set_option maxRecDepth 100000
set_option maxHeartbeats 1000000
namespace Ev
open PySem PySem.Spec L2
/-! ### least and greatest of a list -/
theorem foldmin : ∀ (xs : List Int) (a : Int), (xs.foldl (fun a b => if b < a then b else a) a = a ∨ xs.foldl (fun a b => if b < a then b else a) a ∈ xs) ∧ xs.foldl (fun a b => if b < a then b else a) a ≤ a ∧ ∀ y ∈ xs, xs.foldl (fun a b => if b < a then b else a) a ≤ y
  | [], a => ⟨.inl rfl, Int.le_refl _, fun y hy => by cases hy⟩
  | x :: xs, a => by
    obtain ⟨h1, h2, h3⟩ := foldmin xs (if x < a then x else a)
    rw [List.foldl_cons]
    generalize xs.foldl (fun a b => if b < a then b else a) (if x < a then x else a) = m at *
    refine ⟨?_, ?_, fun y hy => ?_⟩
    · rcases h1 with h1 | h1
      · split at h1
        · exact .inr (h1 ▸ List.mem_cons_self ..)
        · exact .inl h1
      · exact .inr (List.mem_cons_of_mem _ h1)
    · split at h2 <;> omega
    · rcases List.mem_cons.mp hy with rfl | hy
      · split at h2 <;> omega
      · exact h3 y hy
theorem minI_some {xs : List Int} {m : Int} (h : minI xs = some m) : m ∈ xs ∧ ∀ y ∈ xs, m ≤ y := by
  cases xs with
  | nil => cases h
  | cons x xs =>
    obtain ⟨h1, h2, h3⟩ := foldmin xs x
    have e : xs.foldl (fun a b => if b < a then b else a) x = m := Option.some.inj h
    rw [e] at h1 h2 h3
    refine ⟨?_, fun y hy => ?_⟩
    · rcases h1 with h1 | h1
      · exact h1 ▸ List.mem_cons_self ..
      · exact List.mem_cons_of_mem _ h1
    · rcases List.mem_cons.mp hy with rfl | hy
      · exact h2
      · exact h3 y hy
theorem foldmax : ∀ (xs : List Int) (a : Int), (xs.foldl (fun a b => if b > a then b else a) a = a ∨ xs.foldl (fun a b => if b > a then b else a) a ∈ xs) ∧ a ≤ xs.foldl (fun a b => if b > a then b else a) a ∧ ∀ y ∈ xs, y ≤ xs.foldl (fun a b => if b > a then b else a) a
  | [], a => ⟨.inl rfl, Int.le_refl _, fun y hy => by cases hy⟩
  | x :: xs, a => by
    obtain ⟨h1, h2, h3⟩ := foldmax xs (if x > a then x else a)
    rw [List.foldl_cons]
    generalize xs.foldl (fun a b => if b > a then b else a) (if x > a then x else a) = m at *
    refine ⟨?_, ?_, fun y hy => ?_⟩
    · rcases h1 with h1 | h1
      · split at h1
        · exact .inr (h1 ▸ List.mem_cons_self ..)
        · exact .inl h1
      · exact .inr (List.mem_cons_of_mem _ h1)
    · split at h2 <;> omega
    · rcases List.mem_cons.mp hy with rfl | hy
      · split at h2 <;> omega
      · exact h3 y hy
theorem maxI_some {xs : List Int} {m : Int} (h : maxI xs = some m) : m ∈ xs ∧ ∀ y ∈ xs, y ≤ m := by
  cases xs with
  | nil => cases h
  | cons x xs =>
    obtain ⟨h1, h2, h3⟩ := foldmax xs x
    have e : xs.foldl (fun a b => if b > a then b else a) x = m := Option.some.inj h
    rw [e] at h1 h2 h3
    refine ⟨?_, fun y hy => ?_⟩
    · rcases h1 with h1 | h1
      · exact h1 ▸ List.mem_cons_self ..
      · exact List.mem_cons_of_mem _ h1
    · rcases List.mem_cons.mp hy with rfl | hy
      · exact h2
      · exact h3 y hy
/-! ### the law's window -/
def winI (i j : Int) : List Int := (List.range (j - i).toNat).map fun (k : Nat) => i + k
theorem mem_winI {i j x : Int} : x ∈ winI i j ↔ i ≤ x ∧ x < j := by
  unfold winI
  rw [List.mem_map]
  constructor
  · rintro ⟨k, hk, rfl⟩
    have := List.mem_range.mp hk
    omega
  · intro h
    exact ⟨(x - i).toNat, List.mem_range.mpr (by omega), by omega⟩
theorem winI_pw (i j : Int) : (winI i j).Pairwise (· < ·) := by
  unfold winI
  rw [List.pairwise_map]
  refine List.Pairwise.imp ?_ List.pairwise_lt_range
  intro a b h
  omega
def foundL (tr : Int → Bool) (F : Int) : List Int := (winI (-F) (F + 1)).filter tr
theorem mem_found {tr : Int → Bool} {F x : Int} : x ∈ foundL tr F ↔ (-F ≤ x ∧ x ≤ F) ∧ tr x = true := by
  unfold foundL
  rw [List.mem_filter, mem_winI]
  constructor <;> intro h <;> refine ⟨?_, h.2⟩ <;> omega
theorem found_pw (tr : Int → Bool) (F : Int) : (foundL tr F).Pairwise (· < ·) := (winI_pw _ _).filter _
def fmV (p : Int) (t : Tr) : Int := (fm t.lo t.hi t.r p).getD 0
def lmV (p : Int) (t : Tr) : Int := (lm t.lo t.hi t.r p).getD 0
section
variable {tr : Int → Bool} {p B F : Int} {L : List Tr}
theorem fm_of (h : TL tr p B L) {t : Tr} (ht : t ∈ L) : fm t.lo t.hi t.r p = some (fmV p t) := by
  obtain ⟨x, ⟨h1, h2⟩, h3⟩ := h.ex t ht
  have hr := h.rr t ht
  unfold fmV
  cases e : fm t.lo t.hi t.r p with
  | none => exact (fm_none h.p0 hr.1 hr.2 e x h1 h2 h3).elim
  | some y => rfl
theorem lm_of (h : TL tr p B L) {t : Tr} (ht : t ∈ L) : lm t.lo t.hi t.r p = some (lmV p t) := by
  obtain ⟨x, ⟨h1, h2⟩, h3⟩ := h.ex t ht
  have hr := h.rr t ht
  unfold lmV
  cases e : lm t.lo t.hi t.r p with
  | none => exact (lm_none h.p0 hr.1 hr.2 e x h1 h2 h3).elim
  | some y => rfl
theorem fmV_in (h : TL tr p B L) {t : Tr} (ht : t ∈ L) : inT p t (fmV p t) := by
  have hr := h.rr t ht
  have g := (fm_some h.p0 hr.1 hr.2 (fm_of h ht)).1
  exact ⟨⟨g.1, g.2.1⟩, g.2.2⟩
theorem lmV_in (h : TL tr p B L) {t : Tr} (ht : t ∈ L) : inT p t (lmV p t) := by
  have hr := h.rr t ht
  have g := (lm_some h.p0 hr.1 hr.2 (lm_of h ht)).1
  exact ⟨⟨g.1, g.2.1⟩, g.2.2⟩
theorem fmV_min (h : TL tr p B L) {t : Tr} (ht : t ∈ L) {l : Int} (e : t.lo = some l) : fmV p t ≤ l + p ∧ ∀ y, inT p t y → fmV p t ≤ y := by
  have hr := h.rr t ht
  have g := (fm_some h.p0 hr.1 hr.2 (fm_of h ht)).2 l e
  refine ⟨g.1, fun y hy => g.2 y ?_ hy.2⟩
  have := hy.1.1
  rw [e] at this
  exact this
theorem lmV_max (h : TL tr p B L) {t : Tr} (ht : t ∈ L) {l : Int} (e : t.hi = some l) : l - p ≤ lmV p t ∧ ∀ y, inT p t y → y ≤ lmV p t := by
  have hr := h.rr t ht
  have g := (lm_some h.p0 hr.1 hr.2 (lm_of h ht)).2 l e
  refine ⟨g.1, fun y hy => g.2 y ?_ hy.2⟩
  have := hy.1.2
  rw [e] at this
  exact this
/-- a number near a bound with a residue -/
theorem near_up {r : Int} (p0 : 0 < p) (r0 : 0 ≤ r) (r1 : r < p) (l : Int) : ∃ x, l < x ∧ x ≤ l + p ∧ x % p = r := by
  have a := Int.emod_nonneg (r - l - 1) (show p ≠ 0 by omega)
  have b := Int.emod_lt_of_pos (r - l - 1) p0
  exact ⟨l + 1 + (r - l - 1) % p, by omega, by omega, mod_up l r p p0 r0 r1⟩
theorem up_eq (h : TL tr p B L) (hB : 0 ≤ B) (hF : B + 2 * p ≤ F) : (foundL tr F).any (fun x => decide (F - p < x)) = L.any fun t => t.hi.isNone := by
  have p0 := h.p0
  rw [Bool.eq_iff_iff, List.any_eq_true, List.any_eq_true]
  constructor
  · rintro ⟨x, hx, hd⟩
    have hd := of_decide_eq_true hd
    obtain ⟨t, ht, hi⟩ := h.cmp x (mem_found.mp hx).2
    refine ⟨t, ht, ?_⟩
    cases e : t.hi with
    | none => rfl
    | some k =>
      have b := h.bh t ht k e
      have := hi.1.2
      rw [e, hiP_s] at this
      omega
  · rintro ⟨t, ht, hn⟩
    have e : t.hi = none := Option.isNone_iff_eq_none.mp hn
    have hr := h.rr t ht
    obtain ⟨x, x1, x2, x3⟩ := near_up p0 hr.1 hr.2 (F - p)
    have hin : inT p t x := by
      refine ⟨⟨?_, by rw [e]; trivial⟩, x3⟩
      cases q : t.lo with
      | none => trivial
      | some l =>
        have b := h.bl t ht l q
        rw [loP_s]; omega
    exact ⟨x, mem_found.mpr ⟨⟨by omega, by omega⟩, h.snd t ht x hin⟩, decide_eq_true x1⟩
theorem near_dn {r : Int} (p0 : 0 < p) (r0 : 0 ≤ r) (r1 : r < p) (l : Int) : ∃ x, l - p < x ∧ x ≤ l ∧ x % p = r := by
  have a := Int.emod_nonneg (l - r) (show p ≠ 0 by omega)
  have b := Int.emod_lt_of_pos (l - r) p0
  exact ⟨l - (l - r) % p, by omega, by omega, mod_dn l r p p0 r0 r1⟩
theorem dn_eq (h : TL tr p B L) (hB : 0 ≤ B) (hF : B + 2 * p ≤ F) : (foundL tr F).any (fun x => decide (x < p - F)) = L.any fun t => t.lo.isNone := by
  have p0 := h.p0
  rw [Bool.eq_iff_iff, List.any_eq_true, List.any_eq_true]
  constructor
  · rintro ⟨x, hx, hd⟩
    have hd := of_decide_eq_true hd
    obtain ⟨t, ht, hi⟩ := h.cmp x (mem_found.mp hx).2
    refine ⟨t, ht, ?_⟩
    cases e : t.lo with
    | none => rfl
    | some k =>
      have b := h.bl t ht k e
      have := hi.1.1
      rw [e, loP_s] at this
      omega
  · rintro ⟨t, ht, hn⟩
    have e : t.lo = none := Option.isNone_iff_eq_none.mp hn
    have hr := h.rr t ht
    obtain ⟨x, x1, x2, x3⟩ := near_dn p0 hr.1 hr.2 (p - F - 1)
    have hin : inT p t x := by
      refine ⟨⟨by rw [e]; trivial, ?_⟩, x3⟩
      cases q : t.hi with
      | none => trivial
      | some l =>
        have b := h.bh t ht l q
        rw [hiP_s]; omega
    exact ⟨x, mem_found.mpr ⟨⟨by omega, by omega⟩, h.snd t ht x hin⟩, decide_eq_true (by omega)⟩
theorem least_eq (h : TL tr p B L) (hB : 0 ≤ B) (hF : B + 2 * p ≤ F) (hn : (L.any fun t => t.lo.isNone) = false) : minI (L.map (fmV p)) = (foundL tr F).head? := by
  have p0 := h.p0
  have lo : ∀ t ∈ L, ∃ l, t.lo = some l := fun t ht => by
    have := List.any_eq_false.mp hn t ht
    cases e : t.lo with
    | none => rw [e] at this; exact absurd rfl this
    | some l => exact ⟨l, rfl⟩
  have win : ∀ t ∈ L, fmV p t ∈ foundL tr F := fun t ht => by
    obtain ⟨l, e⟩ := lo t ht
    have g := fmV_min h ht e
    have i := fmV_in h ht
    have b := h.bl t ht l e
    have i1 := i.1.1
    rw [e, loP_s] at i1
    exact mem_found.mpr ⟨⟨by omega, by omega⟩, h.snd t ht _ i⟩
  have pw := found_pw tr F
  have tru : ∀ x ∈ foundL tr F, tr x = true := fun x hx => (mem_found.mp hx).2
  generalize foundL tr F = fo at *
  cases fo with
  | nil =>
    cases L with
    | nil => rfl
    | cons t L => cases win t (List.mem_cons_self ..)
  | cons x r =>
    obtain ⟨t, ht, hi⟩ := h.cmp x (tru x (List.mem_cons_self ..))
    obtain ⟨l, e⟩ := lo t ht
    have g := (fmV_min h ht e).2 x hi
    cases e2 : minI (L.map (fmV p)) with
    | none =>
      cases L with
      | nil => cases ht
      | cons u L => cases e2
    | some m =>
      obtain ⟨m1, m2⟩ := minI_some e2
      obtain ⟨u, hu, rfl⟩ := List.mem_map.mp m1
      have a := m2 _ (List.mem_map.mpr ⟨t, ht, rfl⟩)
      have b : x ≤ fmV p u := by
        rcases List.mem_cons.mp (win u hu) with q | q
        · omega
        · have := (List.pairwise_cons.mp pw).1 _ q; omega
      rw [List.head?_cons]
      congr 1
      omega
theorem greatest_eq (h : TL tr p B L) (hB : 0 ≤ B) (hF : B + 2 * p ≤ F) (hn : (L.any fun t => t.hi.isNone) = false) : maxI (L.map (lmV p)) = (foundL tr F).getLast? := by
  have p0 := h.p0
  have lo : ∀ t ∈ L, ∃ l, t.hi = some l := fun t ht => by
    have := List.any_eq_false.mp hn t ht
    cases e : t.hi with
    | none => rw [e] at this; exact absurd rfl this
    | some l => exact ⟨l, rfl⟩
  have win : ∀ t ∈ L, lmV p t ∈ foundL tr F := fun t ht => by
    obtain ⟨l, e⟩ := lo t ht
    have g := lmV_max h ht e
    have i := lmV_in h ht
    have b := h.bh t ht l e
    have i1 := i.1.2
    rw [e, hiP_s] at i1
    exact mem_found.mpr ⟨⟨by omega, by omega⟩, h.snd t ht _ i⟩
  have pw := found_pw tr F
  have tru : ∀ x ∈ foundL tr F, tr x = true := fun x hx => (mem_found.mp hx).2
  generalize foundL tr F = fo at *
  rcases List.eq_nil_or_concat fo with rfl | ⟨r, x, rfl⟩
  · cases L with
    | nil => rfl
    | cons t L => cases win t (List.mem_cons_self ..)
  · rw [List.concat_eq_append] at *
    obtain ⟨t, ht, hi⟩ := h.cmp x (tru x (by simp))
    obtain ⟨l, e⟩ := lo t ht
    have g := (lmV_max h ht e).2 x hi
    cases e2 : maxI (L.map (lmV p)) with
    | none =>
      cases L with
      | nil => cases ht
      | cons u L => cases e2
    | some m =>
      obtain ⟨m1, m2⟩ := maxI_some e2
      obtain ⟨u, hu, rfl⟩ := List.mem_map.mp m1
      have a := m2 _ (List.mem_map.mpr ⟨t, ht, rfl⟩)
      have b : lmV p u ≤ x := by
        rcases List.mem_append.mp (win u hu) with q | q
        · have := (List.pairwise_append.mp pw).2.2 _ q x (List.mem_singleton.mpr rfl); omega
        · have := List.mem_singleton.mp q; omega
      rw [List.getLast?_append]
      show _ = some x
      congr 1
      omega
end
/-! ### how many -/
def b01 (b : Bool) : Int := if b then 1 else 0
theorem len_filter (f : Int → Bool) : ∀ xs : List Int, ((xs.filter f).length : Int) = (xs.map fun x => b01 (f x)).sum
  | [] => rfl
  | x :: xs => by
    have ih := len_filter f xs
    rw [List.map_cons, List.sum_cons, ← ih]
    unfold b01
    by_cases q : f x = true
    · rw [List.filter_cons_of_pos q, if_pos q, List.length_cons]; omega
    · rw [List.filter_cons_of_neg q, if_neg q]; omega
theorem sum_swap {α β : Type} (g : α → β → Int) (ys : List β) : ∀ xs : List α, (xs.map fun x => (ys.map (g x)).sum).sum = (ys.map fun y => (xs.map fun x => g x y).sum).sum
  | [] => by
    have : ∀ ys : List β, (ys.map fun y => (([] : List α).map fun x => g x y).sum).sum = 0 := fun ys => by
      induction ys with
      | nil => rfl
      | cons y ys ih => rw [List.map_cons, List.sum_cons, ih]; rfl
    rw [this]; rfl
  | x :: xs => by
    have ih := sum_swap g ys xs
    rw [List.map_cons, List.sum_cons, ih]
    have : ∀ ys : List β, (ys.map (g x)).sum + (ys.map fun y => (xs.map fun x => g x y).sum).sum = (ys.map fun y => ((x :: xs).map fun x => g x y).sum).sum := fun ys => by
      induction ys with
      | nil => rfl
      | cons y ys ih => simp only [List.map_cons, List.sum_cons] at ih ⊢; omega
    exact this ys
theorem sum_disj {p : Int} (x : Int) : ∀ L : List Tr, (L.Pairwise fun s t => ∀ x, inT p s x → inT p t x → False) → (L.map fun t => b01 (decide (inT p t x))).sum = b01 (L.any fun t => decide (inT p t x))
  | [], _ => rfl
  | t :: L, h => by
    have h1 := List.pairwise_cons.mp h
    have ih := sum_disj x L h1.2
    rw [List.map_cons, List.sum_cons, ih, List.any_cons]
    by_cases q : inT p t x
    · have : (L.any fun t => decide (inT p t x)) = false := by
        rw [List.any_eq_false]
        intro u hu hd
        exact h1.1 u hu x q (of_decide_eq_true hd)
      rw [this, decide_eq_true q]; rfl
    · rw [decide_eq_false q, Bool.false_or]
      simp [b01]
theorem div_step {a p : Int} (p0 : 0 < p) : (a + 1) / p = a / p + b01 (decide ((a + 1) % p = 0)) := by
  have e := Int.mul_ediv_add_emod a p
  have m0 := Int.emod_nonneg a (show p ≠ 0 by omega)
  have m1 := Int.emod_lt_of_pos a p0
  have e2 : a + 1 = (a % p + 1) + p * (a / p) := by omega
  have e3 : (a + 1) / p = (a % p + 1) / p + a / p := by
    conv => lhs; rw [e2]
    exact Int.add_mul_ediv_left _ _ (by omega)
  have e4 : (a + 1) % p = (a % p + 1) % p := by
    conv => lhs; rw [e2]
    exact Int.add_mul_emod_self_left _ _ _
  rw [e3, e4]
  by_cases q : a % p + 1 = p
  · rw [q, Int.ediv_self (by omega), Int.emod_self]
    simp [b01]; omega
  · rw [Int.ediv_eq_zero_of_lt (by omega) (by omega), Int.emod_eq_of_lt (by omega) (by omega), decide_eq_false (by omega)]
    simp [b01]
theorem cnt_one {p i f h : Int} {t : Tr} (p0 : 0 < p) (hf : inT p t f) (hm : ∀ y, inT p t y → f ≤ y) (hi : t.hi = some h) (hif : i ≤ f) : ∀ n : Nat, (((List.range n).map fun (k : Nat) => i + k).map fun x => b01 (decide (inT p t x))).sum = if i + n - 1 < f then 0 else ((if h < i + n - 1 then h else i + n - 1) - f) / p + 1
  | 0 => by rw [if_pos (by omega)]; rfl
  | n + 1 => by
    rw [List.range_succ, List.map_append, List.map_append, List.sum_append, cnt_one p0 hf hm hi hif n]
    have fh : f ≤ h := by have := hf.1.2; rw [hi] at this; exact this
    simp only [List.map_cons, List.map_nil, List.sum_cons, List.sum_nil]
    have ex : i + ((n + 1 : Nat) : Int) - 1 = i + n := by omega
    rw [ex]
    generalize hN : i + (n : Int) = N
    have inx : f ≤ N → (inT p t N ↔ N ≤ h ∧ (N - f) % p = 0) := fun hfN => by
      have e : N % p = t.r ↔ (N - f) % p = 0 := by
        rw [← hf.2]
        exact Int.emod_eq_emod_iff_emod_sub_eq_zero
      constructor
      · rintro ⟨⟨h1, h2⟩, h3⟩
        rw [hi, hiP_s] at h2
        exact ⟨h2, e.mp h3⟩
      · rintro ⟨h1, h2⟩
        refine ⟨⟨?_, by rw [hi, hiP_s]; exact h1⟩, e.mpr h2⟩
        have := hf.1.1
        cases q : t.lo with
        | none => trivial
        | some l => rw [q, loP_s] at this; rw [loP_s]; omega
    by_cases c1 : N < f
    · rw [if_pos (by omega), if_pos c1, decide_eq_false (fun hc => by have := hm N hc; omega)]
      rfl
    · by_cases c2 : N = f
      · subst c2
        rw [if_pos (by omega), if_neg (by omega), decide_eq_true hf]
        by_cases c3 : h < N
        · omega
        · rw [if_neg c3, Int.sub_self, Int.zero_ediv]; rfl
      · rw [if_neg (show ¬ N - 1 < f by omega), if_neg c1]
        by_cases c3 : h < N
        · rw [if_pos c3, decide_eq_false (fun hc => by have := ((inx (by omega)).mp hc).1; omega)]
          by_cases c4 : h < N - 1
          · rw [if_pos c4]; simp [b01]
          · rw [if_neg c4]
            have : N - 1 = h := by omega
            rw [this]; simp [b01]
        · rw [if_neg c3, if_neg (show ¬ h < N - 1 by omega)]
          have st := div_step (a := N - 1 - f) p0
          have e : N - 1 - f + 1 = N - f := by omega
          rw [e] at st
          rw [st]
          have : decide (inT p t N) = decide ((N - f) % p = 0) := by
            rw [decide_eq_decide, inx (by omega)]
            exact ⟨fun h => h.2, fun h => ⟨by omega, h⟩⟩
          rw [this]
          omega
def cntT (p : Int) (t : Tr) : Int := (t.hi.getD 0 - fmV p t) / p + 1
theorem count_eq {tr : Int → Bool} {p B F : Int} {L : List Tr} (h : TL tr p B L) (hB : 0 ≤ B) (hF : B + 2 * p ≤ F) (h1 : (L.any fun t => t.lo.isNone) = false) (h2 : (L.any fun t => t.hi.isNone) = false) : ((foundL tr F).length : Int) = (L.map (cntT p)).sum := by
  have p0 := h.p0
  unfold foundL
  rw [len_filter]
  have e1 : ((winI (-F) (F + 1)).map fun x => b01 (tr x)) = (winI (-F) (F + 1)).map fun x => (L.map fun t => b01 (decide (inT p t x))).sum := by
    apply List.map_congr_left
    intro x _
    rw [sum_disj x L h.sep]
    congr 1
    rw [Bool.eq_iff_iff, List.any_eq_true]
    constructor
    · intro hx
      obtain ⟨t, ht, hi⟩ := h.cmp x hx
      exact ⟨t, ht, decide_eq_true hi⟩
    · rintro ⟨t, ht, hi⟩
      exact h.snd t ht x (of_decide_eq_true hi)
  rw [e1, sum_swap (fun x t => b01 (decide (inT p t x))) L]
  congr 1
  apply List.map_congr_left
  intro t ht
  obtain ⟨l, el⟩ : ∃ l, t.lo = some l := by
    have := List.any_eq_false.mp h1 t ht
    cases e : t.lo with
    | none => rw [e] at this; exact absurd rfl this
    | some l => exact ⟨l, rfl⟩
  obtain ⟨k, ek⟩ : ∃ l, t.hi = some l := by
    have := List.any_eq_false.mp h2 t ht
    cases e : t.hi with
    | none => rw [e] at this; exact absurd rfl this
    | some l => exact ⟨l, rfl⟩
  have g := fmV_min h ht el
  have i := fmV_in h ht
  have b := h.bl t ht l el
  have b2 := h.bh t ht k ek
  have i1 := i.1.1
  rw [el, loP_s] at i1
  have c := cnt_one p0 i g.2 ek (show -F ≤ fmV p t by omega) (F + 1 - -F).toNat
  unfold winI
  rw [c, if_neg (by omega), if_pos (by omega)]
  unfold cntT
  rw [ek]; rfl
end Ev

set_option linter.all false
set_option maxRecDepth 100000
set_option maxHeartbeats 1000000
namespace Ev
open PySem PySem.Spec L2
/-! ### the nearest -/
def cLo (lo : Option Int) : Int := match lo with
  | none => -1
  | some l => if -1 > l then -1 else l
def cHi (hi : Option Int) : Int := match hi with
  | none => -1
  | some h => if -1 < h then -1 else h
def hiN (hi : Option Int) : Bool := match hi with
  | none => true
  | some h => decide (0 ≤ h)
def loN (lo : Option Int) : Bool := match lo with
  | none => true
  | some l => decide (l < -1)
def candA (p : Int) (t : Tr) : List Int := if hiN t.hi then (fm (some (cLo t.lo)) t.hi t.r p).toList else []
def candB (p : Int) (t : Tr) : List Int := if loN t.lo then (lm t.lo (some (cHi t.hi)) t.r p).toList else []
def candL (p : Int) (L : List Tr) : List Int := L.flatMap fun t => candA p t ++ candB p t
def abI (x : Int) : Int := if x < 0 then -x else x
theorem c0_le (lo : Option Int) : -1 ≤ cLo lo := by
  unfold cLo
  cases lo with
  | none => exact Int.le_refl _
  | some l => dsimp only; split <;> omega
theorem c1_le (lo : Option Int) : cHi lo ≤ -1 := by
  unfold cHi
  cases lo with
  | none => exact Int.le_refl _
  | some l => dsimp only; split <;> omega
theorem c0_lo {lo : Option Int} {x : Int} : cLo lo < x ↔ loP lo x ∧ 0 ≤ x := by
  unfold cLo
  cases lo with
  | none => simp; omega
  | some l => rw [loP_s]; dsimp only; split <;> constructor <;> intro h <;> omega
theorem c1_hi {lo : Option Int} {x : Int} : x ≤ cHi lo ↔ hiP lo x ∧ x < 0 := by
  unfold cHi
  cases lo with
  | none => simp; omega
  | some l => rw [hiP_s]; dsimp only; split <;> constructor <;> intro h <;> omega
section
variable {tr : Int → Bool} {p B F : Int} {L : List Tr}
theorem candA_snd (h : TL tr p B L) (hB : 0 ≤ B) {t : Tr} (ht : t ∈ L) {y : Int} (hy : y ∈ candA p t) : inT p t y ∧ 0 ≤ y ∧ y ≤ B + p := by
  have hr := h.rr t ht
  unfold candA at hy
  split at hy
  · have e := Option.mem_toList.mp hy
    obtain ⟨⟨g1, g2, g3⟩, g⟩ := fm_some h.p0 hr.1 hr.2 e
    rw [loP_s] at g1
    have q := c0_lo.mp g1
    refine ⟨⟨⟨q.1, g2⟩, g3⟩, q.2, ?_⟩
    have := (g _ rfl).1
    have b : cLo t.lo ≤ B := by
      unfold cLo
      cases e : t.lo with
      | none => dsimp only; omega
      | some l => have := h.bl t ht l e; dsimp only; split <;> omega
    omega
  · cases hy
theorem candB_snd (h : TL tr p B L) (hB : 0 ≤ B) {t : Tr} (ht : t ∈ L) {y : Int} (hy : y ∈ candB p t) : inT p t y ∧ y < 0 ∧ -(B + p + 1) ≤ y := by
  have hr := h.rr t ht
  unfold candB at hy
  split at hy
  · have e := Option.mem_toList.mp hy
    obtain ⟨⟨g1, g2, g3⟩, g⟩ := lm_some h.p0 hr.1 hr.2 e
    rw [hiP_s] at g2
    have q := c1_hi.mp g2
    refine ⟨⟨⟨g1, q.1⟩, g3⟩, q.2, ?_⟩
    have := (g _ rfl).1
    have b : -(B + 1) ≤ cHi t.hi := by
      unfold cHi
      cases e : t.hi with
      | none => dsimp only; omega
      | some l => have := h.bh t ht l e; dsimp only; split <;> omega
    omega
  · cases hy
theorem candA_best (h : TL tr p B L) {t : Tr} (ht : t ∈ L) {x : Int} (hx : inT p t x) (h0 : 0 ≤ x) : ∃ y ∈ candA p t, y ≤ x := by
  have hr := h.rr t ht
  have q : hiN t.hi = true := by
    have := hx.1.2
    unfold hiN
    cases e : t.hi with
    | none => rfl
    | some k => rw [e, hiP_s] at this; exact decide_eq_true (by omega)
  have l := c0_lo.mpr ⟨hx.1.1, h0⟩
  unfold candA
  rw [if_pos q]
  cases e : fm (some (cLo t.lo)) t.hi t.r p with
  | none => exact (fm_none h.p0 hr.1 hr.2 e x l hx.1.2 hx.2).elim
  | some y => exact ⟨y, by simp, ((fm_some h.p0 hr.1 hr.2 e).2 _ rfl).2 x l hx.2⟩
theorem candB_best (h : TL tr p B L) {t : Tr} (ht : t ∈ L) {x : Int} (hx : inT p t x) (h0 : x < 0) : ∃ y ∈ candB p t, x ≤ y := by
  have hr := h.rr t ht
  have q : loN t.lo = true := by
    have := hx.1.1
    unfold loN
    cases e : t.lo with
    | none => rfl
    | some k => rw [e, loP_s] at this; exact decide_eq_true (by omega)
  have l := c1_hi.mpr ⟨hx.1.2, h0⟩
  unfold candB
  rw [if_pos q]
  cases e : lm t.lo (some (cHi t.hi)) t.r p with
  | none => exact (lm_none h.p0 hr.1 hr.2 e x hx.1.1 l hx.2).elim
  | some y => exact ⟨y, by simp, ((lm_some h.p0 hr.1 hr.2 e).2 _ rfl).2 x l hx.2⟩
theorem cand_snd (h : TL tr p B L) (hB : 0 ≤ B) (hF : B + 2 * p ≤ F) {y : Int} (hy : y ∈ candL p L) : y ∈ foundL tr F := by
  have p0 := h.p0
  obtain ⟨t, ht, hy⟩ := List.mem_flatMap.mp hy
  rcases List.mem_append.mp hy with hy | hy
  · have g := candA_snd h hB ht hy
    exact mem_found.mpr ⟨⟨by omega, by omega⟩, h.snd t ht y g.1⟩
  · have g := candB_snd h hB ht hy
    exact mem_found.mpr ⟨⟨by omega, by omega⟩, h.snd t ht y g.1⟩
theorem cand_best (h : TL tr p B L) (hB : 0 ≤ B) {x : Int} (hx : tr x = true) : ∃ y ∈ candL p L, (0 ≤ x → 0 ≤ y ∧ y ≤ x) ∧ (x < 0 → y < 0 ∧ x ≤ y) := by
  obtain ⟨t, ht, hi⟩ := h.cmp x hx
  by_cases q : 0 ≤ x
  · obtain ⟨y, hy, le⟩ := candA_best h ht hi q
    have g := candA_snd h hB ht hy
    exact ⟨y, List.mem_flatMap.mpr ⟨t, ht, List.mem_append_left _ hy⟩, fun _ => ⟨g.2.1, le⟩, fun _ => by omega⟩
  · obtain ⟨y, hy, le⟩ := candB_best h ht hi (by omega)
    have g := candB_snd h hB ht hy
    exact ⟨y, List.mem_flatMap.mpr ⟨t, ht, List.mem_append_right _ hy⟩, fun _ => by omega, fun _ => ⟨g.2.1, le⟩⟩
theorem near_nil (h : TL tr p B L) (hB : 0 ≤ B) (hF : B + 2 * p ≤ F) : candL p L = [] ↔ foundL tr F = [] := by
  constructor
  · intro e
    cases q : foundL tr F with
    | nil => rfl
    | cons x r =>
      have hx : x ∈ foundL tr F := by rw [q]; exact List.mem_cons_self ..
      obtain ⟨y, hy, _⟩ := cand_best h hB (mem_found.mp hx).2
      rw [e] at hy; cases hy
  · intro e
    cases q : candL p L with
    | nil => rfl
    | cons x r =>
      have hx : x ∈ candL p L := by rw [q]; exact List.mem_cons_self ..
      have := cand_snd h hB hF hx
      rw [e] at this; cases this
theorem abI_or (x : Int) : (0 ≤ x ∧ abI x = x) ∨ (x < 0 ∧ abI x = -x) := by
  unfold abI
  by_cases h : x < 0
  · exact .inr ⟨h, if_pos h⟩
  · exact .inl ⟨by omega, if_neg h⟩
theorem near_eq (h : TL tr p B L) (hB : 0 ≤ B) (hF : B + 2 * p ≤ F) {s x0 : Int} (hs : minI ((candL p L).map abI) = some s) (h0 : x0 ∈ foundL tr F) (h1 : ∀ y ∈ foundL tr F, abI x0 < abI y ∨ (abI x0 = abI y ∧ -x0 ≤ -y)) : (if s ∈ candL p L then s else -s) = x0 := by
  obtain ⟨m1, m2⟩ := minI_some hs
  obtain ⟨y0, hy0, e0⟩ := List.mem_map.mp m1
  have a1 := h1 y0 (cand_snd h hB hF hy0)
  obtain ⟨y1, hy1, b1, b2⟩ := cand_best h hB (mem_found.mp h0).2
  have a2 := m2 _ (List.mem_map.mpr ⟨y1, hy1, rfl⟩)
  have A0 := abI_or x0
  have A1 := abI_or y0
  have A2 := abI_or y1
  have A3 := abI_or s
  by_cases q : s ∈ candL p L
  · rw [if_pos q]
    have a4 := h1 s (cand_snd h hB hF q)
    omega
  · rw [if_neg q]
    by_cases z : 0 ≤ x0
    · exfalso
      apply q
      have : s = y1 := by omega
      rw [this]; exact hy1
    · omega
end
end Ev

set_option linter.all false
set_option maxRecDepth 100000
set_option maxHeartbeats 1000000
namespace Ev
open PySem PySem.Spec L2
/-! ### loops that gather -/
theorem forM_acc {α β : Type} {tgt : PV → M Unit} {body : M Fl} (f : α → PV) (stp : β → α → β) (I : β → ES → Prop) : ∀ (xs : List α),
    (∀ a ∈ xs, ∀ b s, I b s → ∃ s1 s2, tgt (f a) s = .ok () s1 ∧ body s1 = .ok .nx s2 ∧ I (stp b a) s2) → ∀ b s, I b s → ∃ s', forM tgt body (xs.map f) s = .ok .nx s' ∧ I (xs.foldl stp b) s'
  | [], _, b, s, hs => ⟨s, rfl, hs⟩
  | x :: xs, h, b, s, hs => by
    obtain ⟨s1, s2, e1, e2, h2⟩ := h x (List.mem_cons_self ..) b s hs
    obtain ⟨s', e3, h3⟩ := forM_acc f stp I xs (fun a ha => h a (List.mem_cons_of_mem _ ha)) (stp b x) s2 h2
    refine ⟨s', ?_, h3⟩
    rw [List.map_cons, forM_cons, e1, bind_ok, bnd_run, e2, bind_ok, forK_nx, e3]
theorem foldl_app {α β : Type} (g : α → List β) : ∀ (xs : List α) (b : List β), xs.foldl (fun b a => b ++ g a) b = b ++ xs.flatMap g
  | [], b => by simp
  | x :: xs, b => by rw [List.foldl_cons, foldl_app g xs, List.flatMap_cons, List.append_assoc]
/-! ### the sorted set -/
theorem memIns {x y : Int} : ∀ {l : List Int}, y ∈ insU x l ↔ y = x ∨ y ∈ l
  | [] => by simp [insU]
  | z :: l => by
    unfold insU
    split
    · simp
    · split
      next h => subst h; simp
      next => rw [List.mem_cons, memIns, List.mem_cons]; constructor <;> rintro (h | h | h) <;> simp [h]
theorem memSort {y : Int} : ∀ {l : List Int}, y ∈ sortU l ↔ y ∈ l
  | [] => by simp [sortU]
  | z :: l => by rw [sortU, memIns, memSort, List.mem_cons]
theorem insPw (x : Int) : ∀ l : List Int, l.Pairwise (· < ·) → (insU x l).Pairwise (· < ·)
  | [], _ => List.pairwise_singleton _ _
  | z :: l, h => by
    have h1 := List.pairwise_cons.mp h
    unfold insU
    split
    next q =>
      refine List.pairwise_cons.mpr ⟨fun y hy => ?_, h⟩
      rcases List.mem_cons.mp hy with rfl | hy
      · exact q
      · have := h1.1 y hy; omega
    next q =>
      split
      · exact h
      next q2 =>
        refine List.pairwise_cons.mpr ⟨fun y hy => ?_, insPw x l h1.2⟩
        rcases memIns.mp hy with rfl | hy
        · omega
        · exact h1.1 y hy
theorem sortPw : ∀ l : List Int, (sortU l).Pairwise (· < ·)
  | [] => .nil
  | z :: l => insPw z _ (sortPw l)
theorem insLen (x : Int) : ∀ l : List Int, (insU x l).length ≤ l.length + 1
  | [] => by simp [insU]
  | z :: l => by
    have := insLen x l
    unfold insU
    split
    · simp
    · split <;> simp <;> omega
theorem sortLen : ∀ l : List Int, (sortU l).length ≤ l.length
  | [] => Nat.le_refl _
  | z :: l => by
    have := sortLen l
    have := insLen z (sortU l)
    rw [sortU, List.length_cons]; omega
/-! ### flips -/
def flO (n : Int) : Tst → Option Int
  | .most r m => if r.getD 1 0 = 0 then none else some (if 0 < r.getD 1 0 then m - dot r [n] else -(m - dot r [n]) - 1)
  | _ => none
theorem flO_most (n : Int) (r : List Int) (m : Int) : flO n (.most r m) = if r.getD 1 0 = 0 then none else some (if 0 < r.getD 1 0 then m - dot r [n] else -(m - dot r [n]) - 1) := rfl
def flL (n : Int) (t : Tst) : List Int := (lvs t).filterMap (flO n)
mutual
theorem tat_congr {p q : List Int} : ∀ t : Tst, (∀ u ∈ lvs t, tat p u = tat q u) → tat p t = tat q t
  | .most r m, h => h _ (by simp [lvs])
  | .div d r m, h => h _ (by simp [lvs])
  | .not t, h => by
    have := tat_congr t (fun u hu => h u (by rw [lvs]; exact hu))
    rw [tat, tat, this]
  | .knot a ts, h => by
    have := tats_congr ts (fun u hu => h u (by rw [lvs]; exact hu))
    rw [tat, tat, this.1, this.2]
theorem tats_congr {p q : List Int} : ∀ ts : List Tst, (∀ u ∈ lvss ts, tat p u = tat q u) → allat p ts = allat q ts ∧ anyat p ts = anyat q ts
  | [], _ => ⟨rfl, rfl⟩
  | t :: ts, h => by
    have h1 := tat_congr t (fun u hu => h u (by rw [lvss]; exact List.mem_append_left _ hu))
    have h2 := tats_congr ts (fun u hu => h u (by rw [lvss]; exact List.mem_append_right _ hu))
    rw [allat, allat, anyat, anyat, h1, h2.1, h2.2]
    exact ⟨rfl, rfl⟩
end
theorem row2 {r : List Int} {m : Int} (h : rowS 2 r m) : ∃ a b, r = [a, b] ∧ (-3 ≤ a ∧ a ≤ 3) ∧ (-1 ≤ b ∧ b ≤ 1) ∧ -20 ≤ m ∧ m ≤ 20 := by
  obtain ⟨h1, h2, h3, h4⟩ := h
  match r, h1 with
  | [a, b], _ => exact ⟨a, b, rfl, h2 a (by simp), h3 b (by simp), h4⟩
theorem dot2 (a b n x : Int) : dot [a, b] [n, x] = a * n + b * x := by
  simp [dot]
theorem dot1 (a b n : Int) : dot [a, b] [n] = a * n := by
  simp [dot]
theorem per_bd {n : Nat} {D : List Int} {M : Int} (hD : Dok D M) {t : Tst} (h : Sml n D t) : 1 ≤ per t ∧ per t ≤ 6 := by
  have hp := sml_pos hD h
  have hv := (sml_ok hD t h).2
  have hM := hD.2
  have e : M = (M.toNat : Int) := by omega
  rw [e] at hv
  have a := lcm_least (dvs t) 1 M.toNat (Nat.one_dvd _) ((dv_iff hp _).mp hv)
  have b := Nat.le_of_dvd (by omega) a
  have c := Nat.pos_of_dvd_of_pos a (by omega)
  unfold per
  omega
theorem per_dv {n : Nat} {D : List Int} {M : Int} (hD : Dok D M) {t : Tst} (h : Sml n D t) : Dv (per t) t := (dv_iff (sml_pos hD h) _).mpr (lcm_dvd (dvs t) 1).2
mutual
theorem dv_lvs {N : Int} : ∀ t : Tst, Dv N t → ∀ u ∈ lvs t, Dv N u
  | .most r m, h, u, hu => by rw [lvs] at hu; rcases List.mem_singleton.mp hu with rfl; exact h
  | .div d r m, h, u, hu => by rw [lvs] at hu; rcases List.mem_singleton.mp hu with rfl; exact h
  | .not t, h, u, hu => by rw [lvs] at hu; rw [Dv] at h; exact dv_lvs t h u hu
  | .knot a ts, h, u, hu => by rw [lvs] at hu; rw [Dv] at h; exact dvs_lvs ts h u hu
theorem dvs_lvs {N : Int} : ∀ ts : List Tst, Dvs N ts → ∀ u ∈ lvss ts, Dv N u
  | [], _, u, hu => by rw [lvss] at hu; cases hu
  | t :: ts, h, u, hu => by
    rw [lvss] at hu; rw [Dvs] at h
    rcases List.mem_append.mp hu with hu | hu
    · exact dv_lvs t h.1 u hu
    · exact dvs_lvs ts h.2 u hu
end
theorem even_t {D : List Int} {M : Int} (hD : Dok D M) {t : Tst} (h : Sml 2 D t) (n : Int) : Even (fun x => tat [n, x] t) (per t) (sortU (flL n t)) := by
  have pb := per_bd hD h
  refine ⟨by omega, sortPw _, fun x y hf hm => tat_congr t fun u hu => ?_⟩
  have hd := dv_lvs t (per_dv hD h) u hu
  obtain ⟨hs, hl⟩ := sml_lvs t h u hu
  rcases hl with ⟨r, m, rfl⟩ | ⟨d, r, m, rfl⟩
  · rw [Sml] at hs
    obtain ⟨a, b, rfl, ha, hb, hm2⟩ := row2 hs
    rw [tat, tat, dot2, dot2]
    have mem : ∀ f, flO n (.most [a, b] m) = some f → f ∈ sortU (flL n t) := fun f e => memSort.mpr (List.mem_filterMap.mpr ⟨_, hu, e⟩)
    have e0 : flO n (.most [a, b] m) = if b = 0 then none else some (if 0 < b then m - a * n else -(m - a * n) - 1) := by
      rw [flO_most, dot1]; rfl
    rw [e0] at mem
    rw [decide_eq_decide]
    generalize a * n = w at *
    have hb3 : b = 0 ∨ b = 1 ∨ b = -1 := by omega
    rcases hb3 with rfl | rfl | rfl
    · omega
    · have := hf _ (mem _ rfl)
      simp at this
      omega
    · have := hf _ (mem _ rfl)
      simp at this
      omega
  · rw [Sml] at hs
    obtain ⟨a, b, rfl, ha, hb, hm2⟩ := row2 hs.2
    rw [tat, tat, dot2, dot2]
    rw [Dv] at hd
    have e2 := Int.emod_eq_emod_iff_emod_sub_eq_zero.mp hm
    obtain ⟨k, hk⟩ := Int.dvd_trans (Int.dvd_of_emod_eq_zero hd) (Int.dvd_of_emod_eq_zero e2)
    have e3 : a * n + b * x + m = a * n + b * y + m + d * (b * k) := by
      have : x = y + d * k := by omega
      rw [this, Int.mul_add, Int.mul_left_comm b d k]
      omega
    rw [e3, Int.add_mul_emod_self_left]
/-- how far the changes of the orders lie -/
def isM : Tst → Bool
  | .most _ _ => true
  | _ => false
def fw (n : Int) : Tst → Int
  | .most r m => if m - dot r [n] < 0 then -(m - dot r [n]) else m - dot r [n]
  | _ => 0
def farW (n : Int) (t : Tst) : Int := mx (((lvs t).filter isM).map (fw n))
theorem mx_ge : ∀ (l : List Int) (a : Int), a ≤ l.foldl (fun a b => if b > a then b else a) a ∧ ∀ x ∈ l, x ≤ l.foldl (fun a b => if b > a then b else a) a := fun l a => ⟨(foldmax l a).2.1, (foldmax l a).2.2⟩
theorem farW_0 (n : Int) (t : Tst) : 0 ≤ farW n t := (mx_ge _ _).1
theorem farW_fl {D : List Int} {t : Tst} (n : Int) (f : Int) (hf : f ∈ sortU (flL n t)) : -(farW n t + 1) ≤ f ∧ f ≤ farW n t + 1 := by
  obtain ⟨u, hu, e⟩ := List.mem_filterMap.mp (memSort.mp hf)
  cases u with
  | most r m =>
    have g := (mx_ge (((lvs t).filter isM).map (fw n)) 0).2 _ (List.mem_map.mpr ⟨_, List.mem_filter.mpr ⟨hu, rfl⟩, rfl⟩)
    change _ ≤ farW n t at g
    change (if m - dot r [n] < 0 then -(m - dot r [n]) else m - dot r [n]) ≤ farW n t at g
    rw [flO_most] at e
    split at e
    · cases e
    · have e := Option.some.inj e
      subst e
      generalize m - dot r [n] = w at *
      split at g <;> split <;> omega
  | div d r m => cases e
  | not t => cases e
  | knot a ts => cases e
theorem tl_t {D : List Int} {M : Int} (hD : Dok D M) {t : Tst} (h : Sml 2 D t) (n : Int) : TL (fun x => tat [n, x] t) (per t) (farW n t + 1) (trueL (fun x => tat [n, x] t) (per t) (sortU (flL n t))) :=
  trueL_ok (even_t hD h n) (farW_fl (D := D) n)
end Ev

set_option linter.all false
set_option maxRecDepth 100000
set_option maxHeartbeats 1000000
namespace Ev
open PySem PySem.Spec L2
def ov : Option Int → PV
  | none => .non
  | some i => .int i
@[simp] theorem is_nn : cmpV .Is .non .non = some true := rfl
@[simp] theorem is_in (i : Int) : cmpV .Is (.int i) .non = some false := rfl
@[simp] theorem isnot_nn : cmpV .IsNot .non .non = some false := rfl
@[simp] theorem isnot_in (i : Int) : cmpV .IsNot (.int i) .non = some true := rfl
@[simp] theorem bi_max2 (i j : Int) : biV .max [.int i, .int j] = some (.val (.int (if j > i then j else i))) := rfl
@[simp] theorem bi_min2 (i j : Int) : biV .min [.int i, .int j] = some (.val (.int (if j < i then j else i))) := rfl
@[simp] theorem slV_lst (xs : List PV) (lo hi : Option Int) : slV (.lst xs) lo hi = some (.fresh (.lst (cutP xs lo hi))) := rfl
theorem intsOf_ints : ∀ ns : List Int, intsOf (ns.map .int) = some ns
  | [] => rfl
  | n :: ns => by rw [List.map_cons, intsOf_cons, intsOf_ints ns]; rfl
/-! ### first_member, last_member -/
theorem f23 (k : Nat) (lo hi : Option Int) (r p : Int) (p0 : 0 < p) (st : List Cell) : evP TT (k + 1) 23 [ov lo, ov hi, .int r, .int p] st = .ok (.val (ov (fm lo hi r p))) st := by
  have h0 : p ≠ 0 := by omega
  have e1 := fun z : Int => Int.fmod_eq_emod_of_nonneg z (Int.le_of_lt p0)
  rw [p23]; unfold m23 fm
  cases lo with
  | none =>
    cases hi with
    | none => simp [ov]
    | some h => simp [ov, h0, e1]
  | some l =>
    cases hi with
    | none => simp [ov, h0, e1]
    | some h => by_cases q : l + 1 + (r - l - 1) % p ≤ h <;> simp [ov, h0, e1, q]
theorem r24n {Φ : Orc} {L R P V : PV} {st : List Cell} (h : Φ 23 [L, .non, R, P] st = .ok (.val V) st) : finO (m24 Φ ⟨[.val L, .val .non, .val R, .val P, .none], st⟩) = .ok (.val V) st := by
  unfold m24; simp [h]
theorem f24 (k : Nat) (lo hi : Option Int) (r p : Int) (p0 : 0 < p) (st : List Cell) : evP TT (k + 2) 24 [ov lo, ov hi, .int r, .int p] st = .ok (.val (ov (lm lo hi r p))) st := by
  have h0 : p ≠ 0 := by omega
  have e1 := fun z : Int => Int.fmod_eq_emod_of_nonneg z (Int.le_of_lt p0)
  rw [p24]
  cases hi with
  | none => exact r24n (f23 k lo none r p p0 st)
  | some h =>
    generalize evP TT (k + 1) = Φ
    unfold m24 lm
    cases lo with
    | none => simp [ov, h0, e1]
    | some l => by_cases q : l < h - (h - r) % p <;> simp [ov, h0, e1, q]
/-! ### cells_of -/
def cvP (c : Option Int × Option Int) : PV := .tup [ov c.1, ov c.2]
def lastI (a : Int) : List Int → Int
  | [] => a
  | b :: fs => lastI b fs
def prP (p : Int × Int) : PV := .tup [.int p.1, .int p.2]
theorem zip_ints : ∀ (a b : List Int), zipP (a.map .int) (b.map .int) = (a.zip b).map prP
  | x :: a, y :: b => by simp [zip_ints a b, prP]
  | [], b => by simp
  | x :: a, [] => by simp [zipP]
theorem mid_zip : ∀ (fs : List Int) (a : Int), (midC a fs).map cvP = ((a :: fs).zip fs).map prP ++ [.tup [.int (lastI a fs), .non]]
  | [], a => rfl
  | b :: fs, a => by
    rw [midC, List.map_cons, mid_zip fs b, List.zip_cons_cons, List.map_cons, lastI]
    rfl
theorem last_get : ∀ (fs : List Int) (a : Int), ((a :: fs).map PV.int).getLast? = some (.int (lastI a fs))
  | [], a => rfl
  | b :: fs, a => by
    have := last_get fs b
    rw [List.map_cons, List.map_cons] at *
    rw [List.getLast?_cons_cons, this]; rfl
theorem sset_ints (ns : List Int) (h : ns.length < 64) : sortSetV (.lst (ns.map .int)) = some (.fresh (.lst ((sortU ns).map .int))) := by
  show (intsOf (ns.map .int)).bind _ = _
  rw [intsOf_ints]
  show (if ns.length < 64 then _ else none) = _
  rw [if_pos h]
section
variable {Φ : Orc} {V A Z : PV} {st : List Cell} {es ds zs ws : List PV} {x y z : Sl}
abbrev elt22 : M RE := (xTup [(rdSlot 3), (rdSlot 4)])
theorem r22e (hs : sortSetV V = some (.fresh (.lst []))) : finO (m22 Φ ⟨[.val V, .none, .none, .none, .none], st⟩) = .ok (.fresh (.lst [.tup [.non, .non]])) st := by
  have e : eqPV (.lst []) (.lst []) = some true := eq_intsL [] []
  unfold m22
  simp [hs, e]
theorem r22 (hs : sortSetV V = some (.fresh (.lst es))) (he : eqPV (.lst es) (.lst []) = some false) (h0 : L2.atI es 0 = some A) (h1 : L2.atI es (-1) = some Z) (hc : cutP es (some 1) none = ds) (hz : zipP es ds = zs)
    (c1 : compGo [2, 3, 4] (tupAsg [3, 4]) (ret true) elt22 true zs ⟨[.val V, .val (.lst es), .none, .none, .none], st⟩ = .ok ws ⟨[.val V, .val (.lst es), x, y, z], st⟩) (hl : ws.length ≤ 1000) :
    finO (m22 Φ ⟨[.val V, .none, .none, .none, .none], st⟩) = .ok (.fresh (.lst (.tup [.non, A] :: (ws ++ [.tup [Z, .non]])))) st := by
  have q0 : ws.length ≤ 16777216 := by omega
  have q1 : 1 + ws.length ≤ 16777216 := by omega
  have q2 : ws.length + 1 ≤ 16777216 := by omega
  have q3 : ws.length ≤ 16777215 := by omega
  have q4 : ws.length ≤ 16777214 := by omega
  have q5 : ws.length + 1 + 1 ≤ 16777216 := by omega
  have q6 : 1 + ws.length + 1 ≤ 16777216 := by omega
  unfold m22
  simp [hs, he, h0, h1, hc, hz, c1, q0, q1, q2, q3, q4, q5, q6]
end
theorem f22 (k : Nat) (ns : List Int) (hl : ns.length < 64) (st : List Cell) : evP TT (k + 1) 22 [.lst (ns.map .int)] st = .ok (.fresh (.lst ((cellsL (sortU ns)).map cvP))) st := by
  rw [p22]
  have hs := sset_ints ns hl
  have hlen := sortLen ns
  generalize sortU ns = us at *
  cases us with
  | nil => exact r22e hs
  | cons a fs =>
    have he : eqPV (.lst ((a :: fs).map .int)) (.lst []) = some false := by
      have := eq_intsL (a :: fs) []
      rw [decide_eq_false (by simp)] at this
      exact this
    have hz := zip_ints (a :: fs) fs
    obtain ⟨s', c1, c2, x, y, c3⟩ := compGo_f (own := [2, 3, 4]) (tgt := tupAsg [3, 4]) (tst := ret true) (elt := elt22)
      (I := fun t => t.st = st ∧ ∃ x y, t.env = [.val (.lst (ns.map .int)), .val (.lst ((a :: fs).map .int)), .none, x, y]) (f := prP) (g := prP) ((a :: fs).zip fs) (fun u hu t ⟨h1, x, y, h2⟩ => by
        obtain ⟨env, st'⟩ := t
        cases h1; cases h2
        generalize ns.map PV.int = Ns
        generalize (a :: fs).map PV.int = As
        refine ⟨⟨[.val (.lst Ns), .val (.lst As), .none, .val (.int u.1), .val (.int u.2)], st'⟩, ?_, rfl, _, _, rfl⟩
        unfold oneM prP
        simp) ⟨[.val (.lst (ns.map .int)), .val (.lst ((a :: fs).map .int)), .none, .none, .none], st⟩ ⟨rfl, _, _, rfl⟩
    obtain ⟨env, st'⟩ := s'
    cases c2; cases c3
    have r := r22 (Φ := evP TT k) hs he (atI_0 _ _) (atI_last (last_get fs a)) (cut_tail _) hz c1 (by rw [List.length_map, List.length_zip]; simp only [List.length_cons] at hlen ⊢; omega)
    rw [r, ← mid_zip]
    rfl
/-! ### flips_of -/
abbrev body25 (Φ : Orc) : M Fl := (seqB [(sSet 4 false (xCall Φ 15 [(rdSlot 3)])),
    (sIf (tBool .And [(bnd (xCmp .Eq (xSub (rdSlot 3) (ret (.val (.int (0))))) (ret (.val (.str "most")))) asBool), (bnd (xCmp .NotEq (xSub (rdSlot 4) (xBi .len [(rdSlot 1)])) (ret (.val (.int (0))))) asBool)]) (seqB [(sSet 5 false (xBin .Sub (xSub (rdSlot 3) (ret (.val (.int (2))))) (xCall Φ 8 [(rdSlot 4), (rdSlot 1)]))),
    (sEx (xApp 2 (xIf (bnd (xCmp .Gt (xSub (rdSlot 4) (xBi .len [(rdSlot 1)])) (ret (.val (.int (0))))) asBool) (rdSlot 5) (xBin .Sub (xNeg (rdSlot 5)) (ret (.val (.int (1))))))))]) (seqB []))])
theorem m25_eq' (Φ : Orc) : m25 Φ = seqB [(sSet 2 false (xLst [])), (sFor (setSlot 3) (body25 Φ) (iOf (xCall Φ 7 [(rdSlot 0)]))), (sRet (rdSlot 2))] := rfl
section
variable {Φ : Orc} {T R D : PV} {a b m n w : Int} {st : List Cell} {acc vs : List PV} {x3 x4 x5 : Sl}
theorem b25m (h15 : Φ 15 [.tup [.str "most", .tup [.int a, .int b], .int m]] st = .ok (.val (.tup [.int a, .int b])) st) (h8 : Φ 8 [.tup [.int a, .int b], .tup [.int n]] st = .ok (.val (.int w)) st) (hl : acc.length < 16777216) : ∃ y4 y5,
    body25 Φ ⟨[.val T, .val (.tup [.int n]), .own (.lst acc), .val (.tup [.str "most", .tup [.int a, .int b], .int m]), x4, x5], st⟩ = .ok .nx ⟨[.val T, .val (.tup [.int n]), .own (.lst (acc ++ (if b = 0 then [] else [.int (if 0 < b then m - w else -(m - w) - 1)]))), .val (.tup [.str "most", .tup [.int a, .int b], .int m]), y4, y5], st⟩ := by
  by_cases q : b = 0
  · subst q
    refine ⟨.val (.tup [.int a, .int 0]), x5, ?_⟩
    simp [h15]
  · refine ⟨.val (.tup [.int a, .int b]), .val (.int (m - w)), ?_⟩
    by_cases q2 : 0 < b <;> simp [h15, h8, q, q2, hl]
theorem b25d (h15 : Φ 15 [.tup [.str "div", D, R, .int m]] st = .ok (.val R) st) :
    body25 Φ ⟨[.val T, .val (.tup [.int n]), .own (.lst acc), .val (.tup [.str "div", D, R, .int m]), x4, x5], st⟩ = .ok .nx ⟨[.val T, .val (.tup [.int n]), .own (.lst acc), .val (.tup [.str "div", D, R, .int m]), .val R, x5], st⟩ := by
  simp [h15, s5]
theorem r25 (h7 : Φ 7 [T] st = .ok (.fresh (.lst vs)) st) (hf : forM (setSlot 3) (body25 Φ) vs ⟨[.val T, .val (.tup [.int n]), .own (.lst []), .none, .none, .none], st⟩ = .ok .nx ⟨[.val T, .val (.tup [.int n]), .own (.lst acc), x3, x4, x5], st⟩) :
    finO (m25 Φ ⟨[.val T, .val (.tup [.int n]), .none, .none, .none, .none], st⟩) = .ok (.fresh (.lst acc)) st := by
  rw [m25_eq']
  have e1 : (sSet 2 false (xLst [])) ⟨[.val T, .val (.tup [.int n]), .none, .none, .none, .none], st⟩ = .ok .nx ⟨[.val T, .val (.tup [.int n]), .own (.lst []), .none, .none, .none], st⟩ := by simp
  have e2 : (iOf (xCall Φ 7 [(rdSlot 0)])) ⟨[.val T, .val (.tup [.int n]), .own (.lst []), .none, .none, .none], st⟩ = .ok vs ⟨[.val T, .val (.tup [.int n]), .own (.lst []), .none, .none, .none], st⟩ := by simp [h7]
  rw [seqB_cons, e1, bind_ok]
  dsimp only
  rw [seqB_cons, sFor_run, e2, bind_ok, hf, bind_ok]
  dsimp only
  simp
end
theorem forM_accn {α β : Type} {tgt : PV → M Unit} {body : M Fl} (f : α → PV) (stp : β → α → β) (I : β → ES → Prop) (sz : β → Nat) (c Lim : Nat) : ∀ (xs : List α), (∀ a ∈ xs, ∀ b, sz (stp b a) ≤ sz b + c) →
    (∀ a ∈ xs, ∀ b s, sz b ≤ Lim → I b s → ∃ s1 s2, tgt (f a) s = .ok () s1 ∧ body s1 = .ok .nx s2 ∧ I (stp b a) s2) → ∀ b s, sz b + c * xs.length ≤ Lim → I b s → ∃ s', forM tgt body (xs.map f) s = .ok .nx s' ∧ I (xs.foldl stp b) s'
  | [], _, _, b, s, _, hs => ⟨s, rfl, hs⟩
  | x :: xs, hz, h, b, s, hl, hs => by
    have hx := hz x (List.mem_cons_self ..) b
    rw [List.length_cons, Nat.mul_succ] at hl
    obtain ⟨s1, s2, e1, e2, h2⟩ := h x (List.mem_cons_self ..) b s (by omega) hs
    obtain ⟨s', e3, h3⟩ := forM_accn f stp I sz c Lim xs (fun a ha => hz a (List.mem_cons_of_mem _ ha)) (fun a ha => h a (List.mem_cons_of_mem _ ha)) (stp b x) s2 (by omega) h2
    refine ⟨s', ?_, h3⟩
    rw [List.map_cons, forM_cons, e1, bind_ok, bnd_run, e2, bind_ok, forK_nx, e3]
def flP (n : Int) (u : Tst) : List PV := (flO n u).toList.map .int
theorem flP_all (n : Int) : ∀ us : List Tst, us.flatMap (flP n) = (us.filterMap (flO n)).map .int
  | [] => rfl
  | u :: us => by
    rw [List.flatMap_cons, flP_all n us, List.filterMap_cons]
    unfold flP
    cases flO n u <;> rfl
theorem f25 (k : Nat) {D : List Int} {M : Int} (hD : Dok D M) {t : Tst} (h : Sml 2 D t) (hd : dep t ≤ 30) (hc : cnt t ≤ 10000) (hl : (lvs t).length ≤ 6) (n : Int) (st : List Cell) : evP TT (k + 3) 25 [tv t, .tup [.int n]] st = .ok (.fresh (.lst ((flL n t).map .int))) st := by
  rw [p25]
  obtain ⟨s', e, acc', x3, x4, x5⟩ := forM_accn (tgt := setSlot 3) (body := body25 (evP TT (k + 2))) tv (fun acc u => acc ++ flP n u)
    (fun acc s => ∃ x3 x4 x5, s = ⟨[.val (tv t), .val (.tup [.int n]), .own (.lst acc), x3, x4, x5], st⟩) List.length 1 1000 (lvs t)
    (fun u hu acc => by
      rw [List.length_append]
      unfold flP
      rw [List.length_map]
      cases flO n u <;> simp)
    (fun u hu acc s hlen ⟨x3, x4, x5, hs⟩ => by
      subst hs
      obtain ⟨hs, hlf⟩ := sml_lvs t h u hu
      rcases hlf with ⟨r, m, rfl⟩ | ⟨d, r, m, rfl⟩
      · rw [Sml] at hs
        obtain ⟨a, b, rfl, ha, hb, hm2⟩ := row2 hs
        have g8 := f8 (k + 1) [a, b] [n] (fun x hx => by
          rcases List.mem_cons.mp hx with rfl | hx
          · omega
          · rcases List.mem_singleton.mp hx with rfl; omega) (by simp) st
        have g15 : evP TT (k + 2) 15 [tv (.most [a, b] m)] st = .ok (.val (PL [a, b])) st := by
          rw [p15]; exact r15m
        obtain ⟨y4, y5, e⟩ := b25m (T := tv t) (x4 := x4) (x5 := x5) g15 g8 (show acc.length < 16777216 by omega)
        refine ⟨_, _, rfl, e, .val (tv (.most [a, b] m)), y4, y5, ?_⟩
        have : (if b = 0 then [] else [PV.int (if 0 < b then m - dot [a, b] [n] else -(m - dot [a, b] [n]) - 1)]) = flP n (.most [a, b] m) := by
          unfold flP flO
          simp only [List.getD_cons_succ, List.getD_cons_zero]
          split <;> rfl
        rw [this]
        rfl
      · have g15 : evP TT (k + 2) 15 [tv (.div d r m)] st = .ok (.val (PL r)) st := by
          rw [p15]; exact r15d
        have e := b25d (T := tv t) (n := n) (acc := acc) (x4 := x4) (x5 := x5) g15
        refine ⟨_, _, rfl, e, .val (tv (.div d r m)), .val (PL r), x5, ?_⟩
        rw [show flP n (.div d r m) = [] from rfl, List.append_nil]
        rfl) [] ⟨[.val (tv t), .val (.tup [.int n]), .own (.lst []), .none, .none, .none], st⟩ (by simp; omega) ⟨_, _, _, rfl⟩
  obtain ⟨rfl⟩ := x5
  rw [foldl_app, List.nil_append, flP_all] at e
  exact r25 (f7 k t hd hc st) e
end Ev

set_option linter.all false
set_option maxRecDepth 100000
set_option maxHeartbeats 1000000
namespace Ev
open PySem PySem.Spec L2
theorem rngP_N (s : Int) : rngP 0 s = (rngN s.toNat).map .int := by
  unfold rngP rngN
  rw [List.map_map, Int.sub_zero]
  apply List.map_congr_left
  intro k _
  simp
theorem rngN_len (N : Nat) : (rngN N).length = N := by simp [rngN]
theorem iRng1_slot (i : Nat) (env : List Sl) (st : List Cell) (p : Int) (h : env[i]? = some (.val (.int p))) (hp : rngOk p = true) : iRng1 (rdSlot i) ⟨env, st⟩ = .ok (rngP 0 p) ⟨env, st⟩ := by
  rw [iRng1_run, rdSlot_run, h]
  dsimp only
  rw [bind_ok, rng1M_run, if_pos hp]
/-! ### true_cells -/
def trP (t : Tr) : PV := .tup [ov t.lo, ov t.hi, .int t.r]
abbrev inner26 (Φ : Orc) : M Fl := (seqB [(sSet 7 false (xCall Φ 23 [(rdSlot 4), (rdSlot 5), (rdSlot 6), (rdSlot 2)])),
    (sIf (tBool .And [(bnd (xCmp .IsNot (rdSlot 7) (ret (.val .non))) asBool), (bnd (xCall Φ 10 [(rdSlot 0), (xBin .Add (rdSlot 1) (xTup [(rdSlot 7)]))]) truM)]) (seqB [(sEx (xApp 3 (xTup [(rdSlot 4), (rdSlot 5), (rdSlot 6)])))]) (seqB []))])
abbrev outer26 (Φ : Orc) : M Fl := (seqB [(sFor (setSlot 6) (inner26 Φ) (iRng1 (rdSlot 2)))])
theorem m26_eq' (Φ : Orc) : m26 Φ = seqB [(sPar 2 3 (xCall Φ 14 [(rdSlot 0)]) (xLst [])), (sFor (tupAsg [4, 5]) (outer26 Φ) (iOf (xCall Φ 22 [(xCall Φ 25 [(rdSlot 0), (rdSlot 1)])]))), (sRet (rdSlot 3))] := rfl
section
variable {Φ : Orc} {T LO HI F : PV} {n r p y : Int} {q : Bool} {st : List Cell} {acc vs fs : List PV} {x4 x5 x6 x7 : Sl}
theorem b26a (h23 : Φ 23 [LO, HI, .int r, .int p] st = .ok (.val .non) st) :
    inner26 Φ ⟨[.val T, .val (.tup [.int n]), .val (.int p), .own (.lst acc), .val LO, .val HI, .val (.int r), x7], st⟩ = .ok .nx ⟨[.val T, .val (.tup [.int n]), .val (.int p), .own (.lst acc), .val LO, .val HI, .val (.int r), .val .non], st⟩ := by
  simp [h23]
theorem b26b (h23 : Φ 23 [LO, HI, .int r, .int p] st = .ok (.val (.int y)) st) (h10 : Φ 10 [T, .tup [.int n, .int y]] st = .ok (.val (.bl q)) st) (hl : acc.length < 16777216) :
    inner26 Φ ⟨[.val T, .val (.tup [.int n]), .val (.int p), .own (.lst acc), .val LO, .val HI, .val (.int r), x7], st⟩ = .ok .nx ⟨[.val T, .val (.tup [.int n]), .val (.int p), .own (.lst (acc ++ if q then [.tup [LO, HI, .int r]] else [])), .val LO, .val HI, .val (.int r), .val (.int y)], st⟩ := by
  cases q <;> simp [h23, h10, hl]
theorem r26 (h14 : Φ 14 [T] st = .ok (.val (.int p)) st) (h25 : Φ 25 [T, .tup [.int n]] st = .ok (.fresh (.lst fs)) st) (h22 : Φ 22 [.lst fs] st = .ok (.fresh (.lst vs)) st)
    (hf : forM (tupAsg [4, 5]) (outer26 Φ) vs ⟨[.val T, .val (.tup [.int n]), .val (.int p), .own (.lst []), .none, .none, .none, .none], st⟩ = .ok .nx ⟨[.val T, .val (.tup [.int n]), .val (.int p), .own (.lst acc), x4, x5, x6, x7], st⟩) :
    finO (m26 Φ ⟨[.val T, .val (.tup [.int n]), .none, .none, .none, .none, .none, .none], st⟩) = .ok (.fresh (.lst acc)) st := by
  rw [m26_eq']
  have e1 : (sPar 2 3 (xCall Φ 14 [(rdSlot 0)]) (xLst [])) ⟨[.val T, .val (.tup [.int n]), .none, .none, .none, .none, .none, .none], st⟩ = .ok .nx ⟨[.val T, .val (.tup [.int n]), .val (.int p), .own (.lst []), .none, .none, .none, .none], st⟩ := by simp [h14]
  have e2 : (iOf (xCall Φ 22 [(xCall Φ 25 [(rdSlot 0), (rdSlot 1)])])) ⟨[.val T, .val (.tup [.int n]), .val (.int p), .own (.lst []), .none, .none, .none, .none], st⟩ = .ok vs ⟨[.val T, .val (.tup [.int n]), .val (.int p), .own (.lst []), .none, .none, .none, .none], st⟩ := by simp [h25, h22]
  rw [seqB_cons, e1, bind_ok]
  dsimp only
  rw [seqB_cons, sFor_run, e2, bind_ok, hf, bind_ok]
  dsimp only
  simp
end
theorem mid_len : ∀ (fs : List Int) (a : Int), (midC a fs).length = fs.length + 1
  | [], _ => rfl
  | b :: fs, a => by rw [midC, List.length_cons, mid_len fs b, List.length_cons]
theorem cells_len (fs : List Int) : (cellsL fs).length = fs.length + 1 := by
  cases fs with
  | nil => rfl
  | cons a fs => rw [cellsL, List.length_cons, mid_len, List.length_cons]
theorem oneT_len (tr : Int → Bool) (p : Int) (c : Option Int × Option Int) (r : Int) : (oneT tr p c r).length ≤ 1 := by
  unfold oneT
  split
  · split <;> simp
  · simp
theorem flat_len {α β : Type} (g : α → List β) (c : Nat) : ∀ xs : List α, (∀ x ∈ xs, (g x).length ≤ c) → (xs.flatMap g).length ≤ c * xs.length
  | [], _ => by simp
  | x :: xs, h => by
    have h1 := h x (List.mem_cons_self ..)
    have h2 := flat_len g c xs fun y hy => h y (List.mem_cons_of_mem _ hy)
    rw [List.flatMap_cons, List.length_append, List.length_cons, Nat.mul_succ]
    omega
theorem cellT_len {tr : Int → Bool} {p : Int} (hp : p ≤ 6) (c : Option Int × Option Int) : (cellT tr p c).length ≤ 6 := by
  have := flat_len (oneT tr p c) 1 (rngN p.toNat) fun r _ => oneT_len tr p c r
  rw [rngN_len] at this
  unfold cellT
  omega
abbrev T40 (n : Int) (t : Tst) : List Tr := trueL (fun x => tat [n, x] t) (per t) (sortU (flL n t))
theorem T40_len {n : Int} {t : Tst} (hp : per t ≤ 6) (hl : (lvs t).length ≤ 6) : (T40 n t).length ≤ 42 := by
  have a := flat_len (cellT (fun x => tat [n, x] t) (per t)) 6 (cellsL (sortU (flL n t))) fun c _ => cellT_len (by omega) c
  rw [cells_len] at a
  have b := sortLen (flL n t)
  have c := List.length_filterMap_le (flO n) (lvs t)
  change (flL n t).length ≤ _ at c
  unfold T40 trueL
  omega
theorem f26 (k : Nat) {D : List Int} {M : Int} (hD : Dok D M) {t : Tst} (h : Sml 2 D t) (hd : dep t ≤ 7) (hc : cnt t ≤ 100) (hl : (lvs t).length ≤ 6) (n : Int) (st : List Cell) : evP TT (k + 11) 26 [tv t, .tup [.int n]] st = .ok (.fresh (.lst ((T40 n t).map trP))) st := by
  rw [p26]
  have hp := sml_pos hD h
  have pb := per_bd hD h
  have g14 := f14 (k + 6) t hp (by omega) (by omega) st
  have g25 := f25 (k + 7) hD h (by omega) (by omega) hl n st
  have c6 := List.length_filterMap_le (flO n) (lvs t)
  change (flL n t).length ≤ _ at c6
  have g22 := f22 (k + 9) (flL n t) (by omega) st
  have ho := (sml_ok hD t h).1
  obtain ⟨s', e, x4, x5, x6, x7, rfl⟩ := forM_accn (tgt := tupAsg [4, 5]) (body := outer26 (evP TT (k + 10))) cvP (fun (acc : List Tr) c => acc ++ cellT (fun x => tat [n, x] t) (per t) c)
    (fun acc s => ∃ x4 x5 x6 x7, s = ⟨[.val (tv t), .val (.tup [.int n]), .val (.int (per t)), .own (.lst (acc.map trP)), x4, x5, x6, x7], st⟩) List.length 6 1000 (cellsL (sortU (flL n t)))
    (fun c hc acc => by
      rw [List.length_append]
      have := cellT_len (tr := fun x => tat [n, x] t) (p := per t) (by omega) c
      omega)
    (fun c hc' acc s hlen ⟨x4, x5, x6, x7, hs⟩ => by
      subst hs
      obtain ⟨s', e, y7, y6, rfl⟩ := forM_accn (tgt := setSlot 6) (body := inner26 (evP TT (k + 10))) PV.int (fun (acc : List Tr) r => acc ++ oneT (fun x => tat [n, x] t) (per t) c r)
        (fun acc s => ∃ x7 x6, s = ⟨[.val (tv t), .val (.tup [.int n]), .val (.int (per t)), .own (.lst (acc.map trP)), .val (ov c.1), .val (ov c.2), x6, x7], st⟩) List.length 1 2000 (rngN ((per t : Nat) : Int).toNat)
        (fun r hr acc => by
          rw [List.length_append]
          have := oneT_len (fun x => tat [n, x] t) (per t) c r
          omega)
        (fun r hr acc s hlen ⟨x7, x6, hs⟩ => by
          subst hs
          have g23 := f23 (k + 9) c.1 c.2 r (per t) (by omega) st
          cases q : fm c.1 c.2 r (per t) with
          | none =>
            rw [q] at g23
            refine ⟨_, _, rfl, b26a g23, .val .non, .val (.int r), ?_⟩
            rw [show oneT (fun x => tat [n, x] t) (per t) c r = [] by unfold oneT; rw [q], List.append_nil]
          | some y =>
            rw [q] at g23
            have g10 := f10 2 3 20 (by decide) (by decide) [n, y] (k + 7) t ho (by omega) (by omega) st
            refine ⟨_, _, rfl, b26b g23 g10 (by rw [List.length_map]; omega), .val (.int y), .val (.int r), ?_⟩
            rw [show oneT (fun x => tat [n, x] t) (per t) c r = if tat [n, y] t then [⟨c.1, c.2, r⟩] else [] by unfold oneT; rw [q], List.map_append]
            congr 6
            split <;> rfl) acc ⟨[.val (tv t), .val (.tup [.int n]), .val (.int (per t)), .own (.lst (acc.map trP)), .val (ov c.1), .val (ov c.2), x6, x7], st⟩ (by rw [rngN_len]; omega) ⟨_, _, rfl⟩
      rw [foldl_app] at e
      refine ⟨⟨[.val (tv t), .val (.tup [.int n]), .val (.int (per t)), .own (.lst (acc.map trP)), .val (ov c.1), .val (ov c.2), x6, x7], st⟩, _, rfl, ?_, .val (ov c.1), .val (ov c.2), y6, y7, rfl⟩
      show (sFor (setSlot 6) (inner26 (evP TT (k + 10))) (iRng1 (rdSlot 2))) _ = _
      rw [sFor_run, iRng1_slot 2 _ st (per t) rfl (rngOk_s _ (by omega) (by omega)), bind_ok, rngP_N, e]
      rfl) [] ⟨[.val (tv t), .val (.tup [.int n]), .val (.int (per t)), .own (.lst []), .none, .none, .none, .none], st⟩ (by
        have b := sortLen (flL n t)
        rw [cells_len]; simp only [List.length_nil]; omega) ⟨_, _, _, _, rfl⟩
  rw [foldl_app, List.nil_append] at e
  exact r26 g14 g25 g22 e
end Ev

set_option linter.all false
set_option maxRecDepth 100000
set_option maxHeartbeats 1000000
namespace Ev
open PySem PySem.Spec L2
/-! ### count_last -/
abbrev body27 (Φ : Orc) : M Fl := (seqB [(sIf (tBool .Or [(bnd (xCmp .Is (rdSlot 4) (ret (.val .non))) asBool), (bnd (xCmp .Is (rdSlot 5) (ret (.val .non))) asBool)]) (seqB [(sRet (ret (.val (.str "endless"))))]) (seqB [])),
    (sAug .Add 3 (xBin .Add (xBin .FloorDiv (xBin .Sub (rdSlot 5) (xCall Φ 23 [(rdSlot 4), (rdSlot 5), (rdSlot 6), (rdSlot 2)])) (rdSlot 2)) (ret (.val (.int (1))))))])
theorem m27_eq' (Φ : Orc) : m27 Φ = seqB [(sPar 2 3 (xCall Φ 14 [(rdSlot 0)]) (ret (.val (.int (0))))), (sFor (tupAsg [4, 5, 6]) (body27 Φ) (iOf (xCall Φ 26 [(rdSlot 0), (rdSlot 1)]))), (sRet (rdSlot 3))] := rfl
theorem augM_int (i : Nat) (env : List Sl) (st : List Cell) (a b : Int) (h : env[i]? = some (.val (.int a))) : augM .Add i (.val (.int b)) ⟨env, st⟩ = .ok () ⟨env.set i (.val (.int (a + b))), st⟩ := by
  unfold augM
  dsimp only
  rw [h]
  rfl
section
variable {Φ : Orc} {T P LO HI W : PV} {n r p y l h tot s : Int} {q : Bool} {st : List Cell} {acc vs fs ts za zb zs : List PV} {ba : List Bool} {w x z w' x' y' z' x3 x4 x5 x6 x7 x8 x9 : Sl} {u : Sl} {L : List Tr} {fl : Fl} {cs : List Int}
theorem b27e (hn : LO = .non ∨ (HI = .non ∧ ∃ l, LO = .int l)) : body27 Φ ⟨[.val T, .val P, .val (.int p), .val (.int tot), .val LO, .val HI, .val (.int r)], st⟩ = .ok (.rt (.val (.str "endless"))) ⟨[.val T, .val P, .val (.int p), .val (.int tot), .val LO, .val HI, .val (.int r)], st⟩ := by
  rcases hn with rfl | ⟨rfl, l, rfl⟩ <;> simp
theorem b27g (h23 : Φ 23 [.int l, .int h, .int r, .int p] st = .ok (.val (.int y)) st) (p0 : 0 < p) (p1 : p ≤ 1000) : body27 Φ ⟨[.val T, .val P, .val (.int p), .val (.int tot), .val (.int l), .val (.int h), .val (.int r)], st⟩ = .ok .nx ⟨[.val T, .val P, .val (.int p), .val (.int (tot + ((h - y) / p + 1))), .val (.int l), .val (.int h), .val (.int r)], st⟩ := by
  have h0 : divOk p = true := divOk_pos p p0 (by omega)
  have e := Int.fdiv_eq_ediv_of_nonneg (h - y) (Int.le_of_lt p0)
  simp [h23, h0, e, augM_int]
theorem r27 (h14 : Φ 14 [T] st = .ok (.val (.int p)) st) (h26 : Φ 26 [T, P] st = .ok (.fresh (.lst ts)) st)
    (hf : forM (tupAsg [4, 5, 6]) (body27 Φ) ts ⟨[.val T, .val P, .val (.int p), .val (.int 0), .none, .none, .none], st⟩ = .ok fl ⟨[.val T, .val P, .val (.int p), .val (.int tot), x4, x5, x6], st⟩) (hfl : fl = .nx ∧ W = .int tot ∨ fl = .rt (.val W)) :
    finO (m27 Φ ⟨[.val T, .val P, .none, .none, .none, .none, .none], st⟩) = .ok (.val W) st := by
  rw [m27_eq']
  have e1 : (sPar 2 3 (xCall Φ 14 [(rdSlot 0)]) (ret (.val (.int (0))))) ⟨[.val T, .val P, .none, .none, .none, .none, .none], st⟩ = .ok .nx ⟨[.val T, .val P, .val (.int p), .val (.int 0), .none, .none, .none], st⟩ := by simp [h14]
  have e2 : (iOf (xCall Φ 26 [(rdSlot 0), (rdSlot 1)])) ⟨[.val T, .val P, .val (.int p), .val (.int 0), .none, .none, .none], st⟩ = .ok ts ⟨[.val T, .val P, .val (.int p), .val (.int 0), .none, .none, .none], st⟩ := by simp [h26]
  rw [seqB_cons, e1, bind_ok]
  dsimp only
  rw [seqB_cons, sFor_run, e2, bind_ok, hf, bind_ok]
  rcases hfl with ⟨rfl, rfl⟩ | rfl
  · dsimp only
    simp
  · rfl
end
def noLo (t : Tr) : Bool := t.lo.isNone
def noHi (t : Tr) : Bool := t.hi.isNone
theorem lp27 {Φ : Orc} {T P : PV} {p : Int} {st : List Cell} (p0 : 0 < p) (p1 : p ≤ 1000) : ∀ (L : List Tr) (tot : Int) (x4 x5 x6 : Sl), (∀ t ∈ L, Φ 23 [ov t.lo, ov t.hi, .int t.r, .int p] st = .ok (.val (.int (fmV p t))) st) → ∃ fl tot' y4 y5 y6,
    forM (tupAsg [4, 5, 6]) (body27 Φ) (L.map trP) ⟨[.val T, .val P, .val (.int p), .val (.int tot), x4, x5, x6], st⟩ = .ok fl ⟨[.val T, .val P, .val (.int p), .val (.int tot'), y4, y5, y6], st⟩ ∧
      if (L.any noLo || L.any noHi) = true then fl = .rt (.val (.str "endless")) else fl = .nx ∧ tot' = tot + (L.map (cntT p)).sum
  | [], tot, x4, x5, x6, _ => ⟨.nx, tot, x4, x5, x6, rfl, by simp⟩
  | t :: L, tot, x4, x5, x6, hΦ => by
    have h23 := hΦ t (List.mem_cons_self ..)
    obtain ⟨lo, hi, r⟩ := t
    have a1 : tupAsg [4, 5, 6] (trP ⟨lo, hi, r⟩) ⟨[.val T, .val P, .val (.int p), .val (.int tot), x4, x5, x6], st⟩ = .ok () ⟨[.val T, .val P, .val (.int p), .val (.int tot), .val (ov lo), .val (ov hi), .val (.int r)], st⟩ := by
      unfold trP; simp
    rw [List.map_cons, forM_cons, a1, bind_ok, bnd_run]
    cases lo with
    | none =>
      refine ⟨.rt (.val (.str "endless")), tot, .val (ov none), .val (ov hi), .val (.int r), ?_, ?_⟩
      · rw [b27e (LO := ov none) (.inl rfl), bind_ok, forK_rt]
      · rw [if_pos (by simp [noLo])]
    | some l =>
      cases hi with
      | none =>
        refine ⟨.rt (.val (.str "endless")), tot, .val (ov (some l)), .val (ov none), .val (.int r), ?_, ?_⟩
        · rw [b27e (LO := ov (some l)) (HI := ov none) (.inr ⟨rfl, l, rfl⟩), bind_ok, forK_rt]
        · rw [if_pos (by simp [noHi])]
      | some h =>
        obtain ⟨fl, tot', y4, y5, y6, e, c⟩ := lp27 p0 p1 (T := T) (P := P) L (tot + ((h - fmV p ⟨some l, some h, r⟩) / p + 1)) (.val (.int l)) (.val (.int h)) (.val (.int r)) fun t ht => hΦ t (List.mem_cons_of_mem _ ht)
        refine ⟨fl, tot', y4, y5, y6, ?_, ?_⟩
        · show ((body27 Φ) ⟨[.val T, .val P, .val (.int p), .val (.int tot), .val (.int l), .val (.int h), .val (.int r)], st⟩).bind _ = _
          rw [b27g h23 p0 p1, bind_ok, forK_nx, e]
        · have e1 : ((⟨some l, some h, r⟩ :: L : List Tr).any noLo || (⟨some l, some h, r⟩ :: L : List Tr).any noHi) = (L.any noLo || L.any noHi) := by
            simp [noLo, noHi]
          rw [e1, List.map_cons, List.sum_cons]
          split at c
          next q => rw [if_pos q]; exact c
          next q =>
            rw [if_neg q]
            refine ⟨c.1, ?_⟩
            rw [c.2]
            show _ + ((h - _) / p + 1) + _ = _ + (((h - _) / p + 1) + _)
            omega
def cntV (p : Int) (L : List Tr) : PV := if (L.any noLo || L.any noHi) = true then .str "endless" else .int (L.map (cntT p)).sum
def lstV (p : Int) (L : List Tr) : PV := if L.any noLo = true then .str "endless" else ov (minI (L.map (fmV p)))
def grtV (p : Int) (L : List Tr) : PV := if L.any noHi = true then .str "endless" else ov (maxI (L.map (lmV p)))
def nearV (p : Int) (L : List Tr) : PV := match minI ((candL p L).map abI) with
  | none => .non
  | some s => .int (if s ∈ candL p L then s else -s)
theorem fm_call (k : Nat) {tr : Int → Bool} {p B : Int} {L : List Tr} (h : TL tr p B L) (st : List Cell) (t : Tr) (ht : t ∈ L) : evP TT (k + 1) 23 [ov t.lo, ov t.hi, .int t.r, .int p] st = .ok (.val (.int (fmV p t))) st := by
  rw [f23 k t.lo t.hi t.r p h.p0 st, fm_of h ht]; rfl
theorem lm_call (k : Nat) {tr : Int → Bool} {p B : Int} {L : List Tr} (h : TL tr p B L) (st : List Cell) (t : Tr) (ht : t ∈ L) : evP TT (k + 2) 24 [ov t.lo, ov t.hi, .int t.r, .int p] st = .ok (.val (.int (lmV p t))) st := by
  rw [f24 k t.lo t.hi t.r p h.p0 st, lm_of h ht]; rfl
theorem f27 (k : Nat) {D : List Int} {M : Int} (hD : Dok D M) {t : Tst} (h : Sml 2 D t) (hd : dep t ≤ 7) (hc : cnt t ≤ 100) (hl : (lvs t).length ≤ 6) (n : Int) (st : List Cell) : evP TT (k + 12) 27 [tv t, .tup [.int n]] st = .ok (.val (cntV (per t) (T40 n t))) st := by
  rw [p27]
  have hp := sml_pos hD h
  have pb := per_bd hD h
  have g14 := f14 (k + 7) t hp (by omega) (by omega) st
  have g26 := f26 k hD h hd hc hl n st
  obtain ⟨fl, tot', y4, y5, y6, e, c⟩ := lp27 (T := tv t) (P := .tup [.int n]) (p := per t) (by omega) (by omega) (T40 n t) 0 .none .none .none (fm_call (k + 10) (tl_t hD h n) st)
  refine r27 g14 g26 e ?_
  unfold cntV
  split at c
  next q => rw [if_pos q]; exact .inr c
  next q => rw [if_neg q]; exact .inl ⟨c.1, by rw [c.2, Int.zero_add]⟩
/-! ### least_last, greatest_last -/
abbrev eltLo : M RE := (xCmp .Is (rdSlot 5) (ret (.val .non)))
abbrev eltHi : M RE := (xCmp .Is (rdSlot 6) (ret (.val .non)))
abbrev eltF (Φ : Orc) : M RE := (xCall Φ 23 [(rdSlot 5), (rdSlot 6), (rdSlot 7), (rdSlot 2)])
abbrev eltL (Φ : Orc) : M RE := (xCall Φ 24 [(rdSlot 5), (rdSlot 6), (rdSlot 7), (rdSlot 2)])
section
variable {Φ : Orc} {T P LO HI W : PV} {n r p y l h tot s : Int} {q : Bool} {st : List Cell} {acc vs fs ts za zb zs : List PV} {ba : List Bool} {a1 a2 a3 a4 b1 b2 b3 b4 x3 x4 x5 x6 x7 x8 x9 : Sl}
theorem r28e (h14 : Φ 14 [T] st = .ok (.val (.int p)) st) (h26 : Φ 26 [T, P] st = .ok (.fresh (.lst ts)) st)
    (cA : compGo [4, 5, 6, 7] (tupAsg [5, 6, 7]) (ret true) eltLo true ts ⟨[.val T, .val P, .val (.int p), .val (.lst ts), .none, .none, .none, .none], st⟩ = .ok za ⟨[.val T, .val P, .val (.int p), .val (.lst ts), a1, a2, a3, a4], st⟩) (la : za.length ≤ 16777216) (hb : biV .any [.lst za] = some (.val (.bl true))) :
    finO (m28 Φ ⟨[.val T, .val P, .none, .none, .none, .none, .none, .none], st⟩) = .ok (.val (.str "endless")) st := by
  unfold m28
  simp [-bi_any, h14, h26, cA, la, hb]
theorem r28 (h14 : Φ 14 [T] st = .ok (.val (.int p)) st) (h26 : Φ 26 [T, P] st = .ok (.fresh (.lst ts)) st)
    (cA : compGo [4, 5, 6, 7] (tupAsg [5, 6, 7]) (ret true) eltLo true ts ⟨[.val T, .val P, .val (.int p), .val (.lst ts), .none, .none, .none, .none], st⟩ = .ok za ⟨[.val T, .val P, .val (.int p), .val (.lst ts), a1, a2, a3, a4], st⟩) (la : za.length ≤ 16777216) (hb : biV .any [.lst za] = some (.val (.bl false)))
    (cB : compGo [4, 5, 6, 7] (tupAsg [5, 6, 7]) (ret true) (eltF Φ) true ts ⟨[.val T, .val P, .val (.int p), .val (.lst ts), .none, .none, .none, .none], st⟩ = .ok zb ⟨[.val T, .val P, .val (.int p), .val (.lst ts), b1, b2, b3, b4], st⟩) (lb : zb.length ≤ 16777216) (hm : mmD true (.lst zb) = some (.val W)) :
    finO (m28 Φ ⟨[.val T, .val P, .none, .none, .none, .none, .none, .none], st⟩) = .ok (.val W) st := by
  unfold m28
  simp [-bi_any, h14, h26, cA, la, hb, cB, lb, hm]
theorem r29e (h14 : Φ 14 [T] st = .ok (.val (.int p)) st) (h26 : Φ 26 [T, P] st = .ok (.fresh (.lst ts)) st)
    (cA : compGo [4, 5, 6, 7] (tupAsg [5, 6, 7]) (ret true) eltHi true ts ⟨[.val T, .val P, .val (.int p), .val (.lst ts), .none, .none, .none, .none], st⟩ = .ok za ⟨[.val T, .val P, .val (.int p), .val (.lst ts), a1, a2, a3, a4], st⟩) (la : za.length ≤ 16777216) (hb : biV .any [.lst za] = some (.val (.bl true))) :
    finO (m29 Φ ⟨[.val T, .val P, .none, .none, .none, .none, .none, .none], st⟩) = .ok (.val (.str "endless")) st := by
  unfold m29
  simp [-bi_any, h14, h26, cA, la, hb]
theorem r29 (h14 : Φ 14 [T] st = .ok (.val (.int p)) st) (h26 : Φ 26 [T, P] st = .ok (.fresh (.lst ts)) st)
    (cA : compGo [4, 5, 6, 7] (tupAsg [5, 6, 7]) (ret true) eltHi true ts ⟨[.val T, .val P, .val (.int p), .val (.lst ts), .none, .none, .none, .none], st⟩ = .ok za ⟨[.val T, .val P, .val (.int p), .val (.lst ts), a1, a2, a3, a4], st⟩) (la : za.length ≤ 16777216) (hb : biV .any [.lst za] = some (.val (.bl false)))
    (cB : compGo [4, 5, 6, 7] (tupAsg [5, 6, 7]) (ret true) (eltL Φ) true ts ⟨[.val T, .val P, .val (.int p), .val (.lst ts), .none, .none, .none, .none], st⟩ = .ok zb ⟨[.val T, .val P, .val (.int p), .val (.lst ts), b1, b2, b3, b4], st⟩) (lb : zb.length ≤ 16777216) (hm : mmD false (.lst zb) = some (.val W)) :
    finO (m29 Φ ⟨[.val T, .val P, .none, .none, .none, .none, .none, .none], st⟩) = .ok (.val W) st := by
  unfold m29
  simp [-bi_any, h14, h26, cA, la, hb, cB, lb, hm]
theorem cmpTr {elt : M RE} {g : Tr → PV} (L : List Tr) (hg : ∀ t ∈ L, ∃ a, elt ⟨[.val T, .val P, .val (.int p), .val (.lst ts), .none, .val (ov t.lo), .val (ov t.hi), .val (.int t.r)], st⟩ = .ok (.val (g t)) ⟨[.val T, .val P, .val (.int p), .val (.lst ts), a, .val (ov t.lo), .val (ov t.hi), .val (.int t.r)], st⟩) : ∃ a1 a2 a3 a4,
    compGo [4, 5, 6, 7] (tupAsg [5, 6, 7]) (ret true) elt true (L.map trP) ⟨[.val T, .val P, .val (.int p), .val (.lst ts), .none, .none, .none, .none], st⟩ = .ok (L.map g) ⟨[.val T, .val P, .val (.int p), .val (.lst ts), a1, a2, a3, a4], st⟩ := by
  obtain ⟨s', c1, c2, a1, a2, a3, a4, c3⟩ := compGo_f (own := [4, 5, 6, 7]) (tgt := tupAsg [5, 6, 7]) (tst := ret true) (elt := elt)
    (I := fun s => s.st = st ∧ ∃ a1 a2 a3 a4, s.env = [.val T, .val P, .val (.int p), .val (.lst ts), a1, a2, a3, a4]) (f := trP) (g := g) L (fun t ht s ⟨h1, a1, a2, a3, a4, h2⟩ => by
      obtain ⟨env, st'⟩ := s
      cases h1; cases h2
      obtain ⟨a, e⟩ := hg t ht
      refine ⟨⟨[.val T, .val P, .val (.int p), .val (.lst ts), a, .val (ov t.lo), .val (ov t.hi), .val (.int t.r)], st'⟩, ?_, rfl, _, _, _, _, rfl⟩
      unfold oneM
      have a1 : tupAsg [5, 6, 7] (trP t) ⟨wipeE [.val T, .val P, .val (.int p), .val (.lst ts), a1, a2, a3, a4] [4, 5, 6, 7], st'⟩ = .ok () ⟨[.val T, .val P, .val (.int p), .val (.lst ts), .none, .val (ov t.lo), .val (ov t.hi), .val (.int t.r)], st'⟩ := by
        unfold trP; simp
      rw [bnd_run, a1, bind_ok, bnd_run, ret_run, bind_ok, if_pos rfl, bnd_run, e, bind_ok, share_val]) ⟨[.val T, .val P, .val (.int p), .val (.lst ts), .none, .none, .none, .none], st⟩ ⟨rfl, _, _, _, _, rfl⟩
  obtain ⟨env, st'⟩ := s'
  cases c2; cases c3
  exact ⟨_, _, _, _, c1⟩
end
theorem any_tr (f : Tr → Bool) (L : List Tr) : biV .any [.lst (L.map fun t => PV.bl (f t))] = some (.val (.bl (L.any f))) := by
  show (boolsOf _).map _ = _
  rw [boolsOf_map]
  show some (RE.val (.bl ((L.map f).any id))) = _
  congr 3
  rw [List.any_map]
  rfl
theorem mmD_tr (lo : Bool) (f : Tr → Int) (L : List Tr) : mmD lo (.lst (L.map fun t => PV.int (f t))) = some (.val (ov (if lo then minI (L.map f) else maxI (L.map f)))) := by
  show (intsOf _).map _ = _
  rw [intsOf_all]
  show some (RE.val _) = _
  congr 2
theorem ov_lo (t : Tr) : cmpV .Is (ov t.lo) .non = some (noLo t) := by
  obtain ⟨lo, hi, r⟩ := t
  cases lo <;> rfl
theorem ov_hi (t : Tr) : cmpV .Is (ov t.hi) .non = some (noHi t) := by
  obtain ⟨lo, hi, r⟩ := t
  cases hi <;> rfl
theorem f28 (k : Nat) {D : List Int} {M : Int} (hD : Dok D M) {t : Tst} (h : Sml 2 D t) (hd : dep t ≤ 7) (hc : cnt t ≤ 100) (hl : (lvs t).length ≤ 6) (n : Int) (st : List Cell) : evP TT (k + 12) 28 [tv t, .tup [.int n]] st = .ok (.val (lstV (per t) (T40 n t))) st := by
  rw [p28]
  have hp := sml_pos hD h
  have pb := per_bd hD h
  have g14 := f14 (k + 7) t hp (by omega) (by omega) st
  have g26 := f26 k hD h hd hc hl n st
  have len := T40_len (n := n) pb.2 hl
  have tl := tl_t hD h n
  obtain ⟨a1, a2, a3, a4, cA⟩ := cmpTr (T := tv t) (P := .tup [.int n]) (p := per t) (ts := (T40 n t).map trP) (st := st) (elt := eltLo) (g := fun u => .bl (noLo u)) (T40 n t) fun u hu => by
    refine ⟨.none, ?_⟩
    have := ov_lo u
    generalize ov u.lo = LO at *
    generalize (T40 n t).map trP = TS at *
    generalize ov u.hi = HI at *
    simp [this]
  obtain ⟨b1, b2, b3, b4, cB⟩ := cmpTr (T := tv t) (P := .tup [.int n]) (p := per t) (ts := (T40 n t).map trP) (st := st) (elt := eltF (evP TT (k + 11))) (g := fun u => .int (fmV (per t) u)) (T40 n t) fun u hu => by
    refine ⟨.none, ?_⟩
    have := fm_call (k + 10) tl st u hu
    generalize ov u.lo = LO at *
    generalize (T40 n t).map trP = TS at *
    generalize ov u.hi = HI at *
    generalize evP TT (k + 10 + 1) = Φ at *
    simp [this]
  have ha := any_tr noLo (T40 n t)
  have hm := mmD_tr true (fmV (per t)) (T40 n t)
  unfold lstV
  by_cases q : (T40 n t).any noLo = true
  · rw [if_pos q]
    rw [q] at ha
    exact r28e g14 g26 cA (by rw [List.length_map]; omega) ha
  · rw [if_neg q]
    rw [Bool.not_eq_true] at q
    rw [q] at ha
    exact r28 g14 g26 cA (by rw [List.length_map]; omega) ha cB (by rw [List.length_map]; omega) hm
theorem f29 (k : Nat) {D : List Int} {M : Int} (hD : Dok D M) {t : Tst} (h : Sml 2 D t) (hd : dep t ≤ 7) (hc : cnt t ≤ 100) (hl : (lvs t).length ≤ 6) (n : Int) (st : List Cell) : evP TT (k + 12) 29 [tv t, .tup [.int n]] st = .ok (.val (grtV (per t) (T40 n t))) st := by
  rw [p29]
  have hp := sml_pos hD h
  have pb := per_bd hD h
  have g14 := f14 (k + 7) t hp (by omega) (by omega) st
  have g26 := f26 k hD h hd hc hl n st
  have len := T40_len (n := n) pb.2 hl
  have tl := tl_t hD h n
  obtain ⟨a1, a2, a3, a4, cA⟩ := cmpTr (T := tv t) (P := .tup [.int n]) (p := per t) (ts := (T40 n t).map trP) (st := st) (elt := eltHi) (g := fun u => .bl (noHi u)) (T40 n t) fun u hu => by
    refine ⟨.none, ?_⟩
    have := ov_hi u
    generalize ov u.lo = LO at *
    generalize (T40 n t).map trP = TS at *
    generalize ov u.hi = HI at *
    simp [this]
  obtain ⟨b1, b2, b3, b4, cB⟩ := cmpTr (T := tv t) (P := .tup [.int n]) (p := per t) (ts := (T40 n t).map trP) (st := st) (elt := eltL (evP TT (k + 11))) (g := fun u => .int (lmV (per t) u)) (T40 n t) fun u hu => by
    refine ⟨.none, ?_⟩
    have := lm_call (k + 9) tl st u hu
    generalize ov u.lo = LO at *
    generalize (T40 n t).map trP = TS at *
    generalize ov u.hi = HI at *
    generalize evP TT (k + 9 + 2) = Φ at *
    simp [this]
  have ha := any_tr noHi (T40 n t)
  have hm := mmD_tr false (lmV (per t)) (T40 n t)
  unfold grtV
  by_cases q : (T40 n t).any noHi = true
  · rw [if_pos q]
    rw [q] at ha
    exact r29e g14 g26 cA (by rw [List.length_map]; omega) ha
  · rw [if_neg q]
    rw [Bool.not_eq_true] at q
    rw [q] at ha
    exact r29 g14 g26 cA (by rw [List.length_map]; omega) ha cB (by rw [List.length_map]; omega) hm
end Ev

set_option linter.all false
set_option maxRecDepth 100000
set_option maxHeartbeats 1000000
namespace Ev
open PySem PySem.Spec L2
/-! ### nearest_last -/
@[simp] theorem cmp_inL (u : PV) (xs : List PV) : cmpV .In u (.lst xs) = inV u xs := rfl
theorem in_intL (s : Int) (ns : List Int) : inV (.int s) (ns.map .int) = some (decide (s ∈ ns)) := by
  have e : (ns.map PV.int).all flatP = true := by
    rw [List.all_map, List.all_eq_true]
    intro x _; rfl
  unfold inV
  rw [e, if_pos (by rfl)]
  congr 1
  rw [List.any_map, Bool.eq_iff_iff, List.any_eq_true, decide_eq_true_eq]
  constructor
  · rintro ⟨x, hx, hd⟩
    have : (x == s) = true := hd
    rw [beq_iff_eq] at this
    exact this ▸ hx
  · intro hx
    exact ⟨s, hx, show (s == s) = true from beq_self_eq_true s⟩
abbrev near1 (Φ : Orc) : M Fl := (sIf (tBool .Or [(bnd (xCmp .Is (rdSlot 5) (ret (.val .non))) asBool), (bnd (xCmp .GtE (rdSlot 5) (ret (.val (.int (0))))) asBool)]) (seqB [(sSet 7 false (xCall Φ 23 [(xIf (bnd (xCmp .Is (rdSlot 4) (ret (.val .non))) asBool) (xNeg (ret (.val (.int (1))))) (xBi .max [(rdSlot 4), (xNeg (ret (.val (.int (1)))))])), (rdSlot 5), (rdSlot 6), (rdSlot 2)])),
    (sAug .Add 3 (xIf (bnd (xCmp .IsNot (rdSlot 7) (ret (.val .non))) asBool) (xLst [(rdSlot 7)]) (xLst [])))]) (seqB []))
abbrev near2 (Φ : Orc) : M Fl := (sIf (tBool .Or [(bnd (xCmp .Is (rdSlot 4) (ret (.val .non))) asBool), (bnd (xCmp .Lt (rdSlot 4) (xNeg (ret (.val (.int (1)))))) asBool)]) (seqB [(sSet 7 false (xCall Φ 24 [(rdSlot 4), (xIf (bnd (xCmp .Is (rdSlot 5) (ret (.val .non))) asBool) (xNeg (ret (.val (.int (1))))) (xBi .min [(rdSlot 5), (xNeg (ret (.val (.int (1)))))])), (rdSlot 6), (rdSlot 2)])),
    (sAug .Add 3 (xIf (bnd (xCmp .IsNot (rdSlot 7) (ret (.val .non))) asBool) (xLst [(rdSlot 7)]) (xLst [])))]) (seqB []))
abbrev near3 : M Fl := (sIf (bnd (xCmp .Eq (rdSlot 3) (xLst [])) asBool) (seqB [(sRet (ret (.val .non)))]) (seqB []))
abbrev near4 : M Fl := (sSet 8 false (xBi .min [(xComp [9, 7] (setSlot 7) (ret true) (xBi .abs [(rdSlot 7)]) (iOf (rdSlot 3)))]))
abbrev near5 : M Fl := (sRet (xIf (bnd (xCmp .In (rdSlot 8) (rdSlot 3)) asBool) (rdSlot 8) (xNeg (rdSlot 8))))
theorem m30_eq' (Φ : Orc) : m30 Φ = seqB [(sPar 2 3 (xCall Φ 14 [(rdSlot 0)]) (xLst [])), (sFor (tupAsg [4, 5, 6]) (seqB [near1 Φ, near2 Φ]) (iOf (xCall Φ 26 [(rdSlot 0), (rdSlot 1)]))), near3, near4, near5] := rfl
section
variable {Φ : Orc} {T P LO HI W : PV} {n r p y l h tot s : Int} {q : Bool} {st : List Cell} {acc vs fs ts za zb zs : List PV} {x4 x5 x6 x7 x8 x9 y9 : Sl} {lo hi o : Option Int}
theorem n1 (h23 : Φ 23 [.int (cLo lo), ov hi, .int r, .int p] st = .ok (.val (ov o)) st) (hl : acc.length ≤ 1000) : ∃ y7, near1 Φ ⟨[.val T, .val P, .val (.int p), .own (.lst acc), .val (ov lo), .val (ov hi), .val (.int r), x7, x8, x9], st⟩ = .ok .nx ⟨[.val T, .val P, .val (.int p), .own (.lst (acc ++ if hiN hi then o.toList.map .int else [])), .val (ov lo), .val (ov hi), .val (.int r), y7, x8, x9], st⟩ := by
  have q0 : acc.length ≤ 16777216 := by omega
  have q1 : acc.length + 1 ≤ 16777216 := by omega
  have q2 : acc.length ≤ 16777215 := by omega
  by_cases c : hiN hi = true
  · refine ⟨.val (ov o), ?_⟩
    rw [if_pos c]
    cases hi with
    | none =>
      cases lo with
      | none =>
        cases o <;> simp [ov, cLo] at h23 ⊢ <;> simp [h23, augM, q0, q1, q2]
      | some l =>
        cases o <;> simp [ov, cLo] at h23 ⊢ <;> simp [h23, augM, q0, q1, q2]
    | some h =>
      have c' : 0 ≤ h := of_decide_eq_true c
      cases lo with
      | none =>
        cases o <;> simp [ov, cLo] at h23 ⊢ <;> simp [h23, augM, q0, q1, q2, c']
      | some l =>
        cases o <;> simp [ov, cLo] at h23 ⊢ <;> simp [h23, augM, q0, q1, q2, c']
  · refine ⟨x7, ?_⟩
    rw [if_neg c]
    cases hi with
    | none => exact absurd rfl c
    | some h =>
      have c' : ¬ 0 ≤ h := fun hc => c (decide_eq_true hc)
      simp [ov, c']
theorem n2 (h24 : Φ 24 [ov lo, .int (cHi hi), .int r, .int p] st = .ok (.val (ov o)) st) (hl : acc.length ≤ 1000) : ∃ y7, near2 Φ ⟨[.val T, .val P, .val (.int p), .own (.lst acc), .val (ov lo), .val (ov hi), .val (.int r), x7, x8, x9], st⟩ = .ok .nx ⟨[.val T, .val P, .val (.int p), .own (.lst (acc ++ if loN lo then o.toList.map .int else [])), .val (ov lo), .val (ov hi), .val (.int r), y7, x8, x9], st⟩ := by
  have q0 : acc.length ≤ 16777216 := by omega
  have q1 : acc.length + 1 ≤ 16777216 := by omega
  have q2 : acc.length ≤ 16777215 := by omega
  by_cases c : loN lo = true
  · refine ⟨.val (ov o), ?_⟩
    rw [if_pos c]
    cases lo with
    | none =>
      cases hi with
      | none =>
        cases o <;> simp [ov, cHi] at h24 ⊢ <;> simp [h24, augM, q0, q1, q2]
      | some l =>
        cases o <;> simp [ov, cHi] at h24 ⊢ <;> simp [h24, augM, q0, q1, q2]
    | some h =>
      have c' : h < -1 := of_decide_eq_true c
      cases hi with
      | none =>
        cases o <;> simp [ov, cHi] at h24 ⊢ <;> simp [h24, augM, q0, q1, q2, c']
      | some l =>
        cases o <;> simp [ov, cHi] at h24 ⊢ <;> simp [h24, augM, q0, q1, q2, c']
  · refine ⟨x7, ?_⟩
    rw [if_neg c]
    cases lo with
    | none => exact absurd rfl c
    | some h =>
      have c' : ¬ h < -1 := fun hc => c (decide_eq_true hc)
      simp [ov, c']
theorem n3 (he : eqPV (.lst acc) (.lst []) = some q) : near3 ⟨[.val T, .val P, .val (.int p), .own (.lst acc), x4, x5, x6, x7, x8, x9], st⟩ = .ok (if q then .rt (.val .non) else .nx) ⟨[.val T, .val P, .val (.int p), .own (.lst acc), x4, x5, x6, x7, x8, x9], st⟩ := by
  cases q <;> simp [he]
theorem n4 (c1 : compGo [9, 7] (setSlot 7) (ret true) (xBi .abs [(rdSlot 7)]) true acc ⟨[.val T, .val P, .val (.int p), .val (.lst acc), x4, x5, x6, .none, x8, .none], st⟩ = .ok zs ⟨[.val T, .val P, .val (.int p), .val (.lst acc), x4, x5, x6, x7, x8, x9], st⟩) (hl : zs.length ≤ 16777216) (hm : biV .min [.lst zs] = some (.val (.int s))) {z7 z9 : Sl} : ∃ y7 y9,
    near4 ⟨[.val T, .val P, .val (.int p), .own (.lst acc), x4, x5, x6, z7, x8, z9], st⟩ = .ok .nx ⟨[.val T, .val P, .val (.int p), .val (.lst acc), x4, x5, x6, y7, .val (.int s), y9], st⟩ := by
  refine ⟨backS (some z7), backS (some z9), ?_⟩
  simp [c1, hl, hm]
theorem n5 (hi : inV (.int s) acc = some q) : near5 ⟨[.val T, .val P, .val (.int p), .val (.lst acc), x4, x5, x6, x7, .val (.int s), x9], st⟩ = .ok (.rt (.val (.int (if q then s else -s)))) ⟨[.val T, .val P, .val (.int p), .val (.lst acc), x4, x5, x6, x7, .val (.int s), x9], st⟩ := by
  cases q <;> simp [hi]
theorem n0 (h14 : Φ 14 [T] st = .ok (.val (.int p)) st) (h26 : Φ 26 [T, P] st = .ok (.fresh (.lst ts)) st) {rest : List (M Fl)}
    (hf : forM (tupAsg [4, 5, 6]) (seqB [near1 Φ, near2 Φ]) ts ⟨[.val T, .val P, .val (.int p), .own (.lst []), .none, .none, .none, .none, .none, .none], st⟩ = .ok .nx ⟨[.val T, .val P, .val (.int p), .own (.lst acc), x4, x5, x6, x7, x8, x9], st⟩) :
    m30 Φ ⟨[.val T, .val P, .none, .none, .none, .none, .none, .none, .none, .none], st⟩ = seqB [near3, near4, near5] ⟨[.val T, .val P, .val (.int p), .own (.lst acc), x4, x5, x6, x7, x8, x9], st⟩ := by
  rw [m30_eq']
  have e1 : (sPar 2 3 (xCall Φ 14 [(rdSlot 0)]) (xLst [])) ⟨[.val T, .val P, .none, .none, .none, .none, .none, .none, .none, .none], st⟩ = .ok .nx ⟨[.val T, .val P, .val (.int p), .own (.lst []), .none, .none, .none, .none, .none, .none], st⟩ := by simp [h14]
  have e2 : (iOf (xCall Φ 26 [(rdSlot 0), (rdSlot 1)])) ⟨[.val T, .val P, .val (.int p), .own (.lst []), .none, .none, .none, .none, .none, .none], st⟩ = .ok ts ⟨[.val T, .val P, .val (.int p), .own (.lst []), .none, .none, .none, .none, .none, .none], st⟩ := by simp [h26]
  rw [seqB_cons, e1, bind_ok]
  dsimp only
  rw [seqB_cons, sFor_run, e2, bind_ok, hf, bind_ok]
end
theorem abs_comp (T P : PV) (p : Int) (A : PV) (x4 x5 x6 x8 : Sl) (st : List Cell) (ns : List Int) : ∃ x7 x9, compGo [9, 7] (setSlot 7) (ret true) (xBi .abs [(rdSlot 7)]) true (ns.map .int) ⟨[.val T, .val P, .val (.int p), .val A, x4, x5, x6, .none, x8, .none], st⟩ = .ok ((ns.map abI).map .int) ⟨[.val T, .val P, .val (.int p), .val A, x4, x5, x6, x7, x8, x9], st⟩ := by
  obtain ⟨s', c1, c2, x7, x9, c3⟩ := compGo_f (own := [9, 7]) (tgt := setSlot 7) (tst := ret true) (elt := xBi .abs [(rdSlot 7)])
    (I := fun s => s.st = st ∧ ∃ x7 x9, s.env = [.val T, .val P, .val (.int p), .val A, x4, x5, x6, x7, x8, x9]) (f := PV.int) (g := fun x => .int (abI x)) ns (fun x hx s ⟨h1, x7, x9, h2⟩ => by
      obtain ⟨env, st'⟩ := s
      cases h1; cases h2
      refine ⟨⟨[.val T, .val P, .val (.int p), .val A, x4, x5, x6, .val (.int x), x8, .none], st'⟩, ?_, rfl, _, _, rfl⟩
      unfold oneM abI
      simp) ⟨[.val T, .val P, .val (.int p), .val A, x4, x5, x6, .none, x8, .none], st⟩ ⟨rfl, _, _, rfl⟩
  obtain ⟨env, st'⟩ := s'
  cases c2; cases c3
  refine ⟨x7, x9, ?_⟩
  rw [List.map_map]
  exact c1
theorem opt_len (o : Option Int) : o.toList.length ≤ 1 := by cases o <;> simp
theorem candA_len (p : Int) (u : Tr) : (candA p u).length ≤ 1 := by
  unfold candA
  split
  · exact opt_len _
  · exact Nat.zero_le _
theorem candB_len (p : Int) (u : Tr) : (candB p u).length ≤ 1 := by
  unfold candB
  split
  · exact opt_len _
  · exact Nat.zero_le _
theorem f30 (k : Nat) {D : List Int} {M : Int} (hD : Dok D M) {t : Tst} (h : Sml 2 D t) (hd : dep t ≤ 7) (hc : cnt t ≤ 100) (hl : (lvs t).length ≤ 6) (n : Int) (st : List Cell) : evP TT (k + 12) 30 [tv t, .tup [.int n]] st = .ok (.val (nearV (per t) (T40 n t))) st := by
  rw [p30]
  have hp := sml_pos hD h
  have pb := per_bd hD h
  have g14 := f14 (k + 7) t hp (by omega) (by omega) st
  have g26 := f26 k hD h hd hc hl n st
  have len := T40_len (n := n) pb.2 hl
  have tl := tl_t hD h n
  obtain ⟨s', e, x4, x5, x6, x7, rfl⟩ := forM_accn (tgt := tupAsg [4, 5, 6]) (body := seqB [near1 (evP TT (k + 11)), near2 (evP TT (k + 11))]) trP (fun (acc : List Int) u => acc ++ (candA (per t) u ++ candB (per t) u))
    (fun acc s => ∃ x4 x5 x6 x7, s = ⟨[.val (tv t), .val (.tup [.int n]), .val (.int (per t)), .own (.lst (acc.map .int)), x4, x5, x6, x7, .none, .none], st⟩) List.length 2 500 (T40 n t)
    (fun u hu acc => by
      have a1 := candA_len (per t) u
      have a2 := candB_len (per t) u
      rw [List.length_append, List.length_append]
      omega)
    (fun u hu acc s hlen ⟨x4, x5, x6, x7, hs⟩ => by
      subst hs
      have g23 := f23 (k + 10) (some (cLo u.lo)) u.hi u.r (per t) tl.p0 st
      have g24 := f24 (k + 9) u.lo (some (cHi u.hi)) u.r (per t) tl.p0 st
      obtain ⟨y7, e1⟩ := n1 (T := tv t) (P := .tup [.int n]) (acc := acc.map .int) (x7 := x7) (x8 := .none) (x9 := .none) g23 (by rw [List.length_map]; omega)
      have a1 := opt_len (fm (some (cLo u.lo)) u.hi u.r (per t))
      obtain ⟨z7, e2⟩ := n2 (T := tv t) (P := .tup [.int n]) (acc := acc.map .int ++ if hiN u.hi then (fm (some (cLo u.lo)) u.hi u.r (per t)).toList.map .int else []) (x7 := y7) (x8 := .none) (x9 := .none) g24 (by
        rw [List.length_append, List.length_map]
        split
        · rw [List.length_map]; omega
        · simp only [List.length_nil]; omega)
      refine ⟨⟨[.val (tv t), .val (.tup [.int n]), .val (.int (per t)), .own (.lst (acc.map .int)), .val (ov u.lo), .val (ov u.hi), .val (.int u.r), x7, .none, .none], st⟩, _, ?_, ?_, .val (ov u.lo), .val (ov u.hi), .val (.int u.r), z7, rfl⟩
      · unfold trP
        generalize tv t = T
        generalize acc.map PV.int = A
        generalize ov u.lo = LO
        generalize ov u.hi = HI
        simp
      · rw [seqB_cons, e1, bind_ok]
        dsimp only
        rw [seqB_one, e2]
        congr 5
        rw [List.map_append, List.map_append, List.append_assoc]
        unfold candA candB
        generalize hiN u.hi = b1
        generalize loN u.lo = b2
        cases b1 <;> cases b2 <;> rfl) [] ⟨[.val (tv t), .val (.tup [.int n]), .val (.int (per t)), .own (.lst []), .none, .none, .none, .none, .none, .none], st⟩ (by simp only [List.length_nil]; omega) ⟨_, _, _, _, rfl⟩
  rw [foldl_app, List.nil_append] at e
  change forM _ _ _ _ = .ok .nx ⟨[.val (tv t), .val (.tup [.int n]), .val (.int (per t)), .own (.lst ((candL (per t) (T40 n t)).map .int)), x4, x5, x6, x7, .none, .none], st⟩ at e
  rw [n0 (rest := []) g14 g26 e]
  have clen : (candL (per t) (T40 n t)).length ≤ 2 * 42 := by
    have := flat_len (fun u => candA (per t) u ++ candB (per t) u) 2 (T40 n t) fun u _ => by
      have a1 := candA_len (per t) u
      have a2 := candB_len (per t) u
      rw [List.length_append]
      omega
    unfold candL
    omega
  unfold nearV
  generalize candL (per t) (T40 n t) = cs at *
  have he := eq_intsL cs []
  have n3' := n3 (T := tv t) (P := .tup [.int n]) (p := per t) (x4 := x4) (x5 := x5) (x6 := x6) (x7 := x7) (x8 := .none) (x9 := .none) (st := st) he
  rw [seqB_cons, n3', bind_ok]
  by_cases q : cs = []
  · subst q
    rfl
  · rw [decide_eq_false q]
    obtain ⟨y7, y9, c1⟩ := abs_comp (tv t) (.tup [.int n]) (per t) (.lst (cs.map .int)) x4 x5 x6 .none st cs
    cases hm : minI (cs.map abI) with
    | none =>
      cases cs with
      | nil => exact absurd rfl q
      | cons c cs => cases hm
    | some s =>
      have hb : biV .min [.lst ((cs.map abI).map .int)] = some (.val (.int s)) := by
        show (intsOf _).bind _ = _
        rw [intsOf_ints]
        show (minI _).map _ = _
        rw [hm]; rfl
      obtain ⟨z7, z9, e4⟩ := n4 (z7 := x7) (z9 := .none) c1 (by rw [List.length_map, List.length_map]; omega) hb
      show finO (seqB [near4, near5] _) = _
      rw [seqB_cons, e4, bind_ok]
      dsimp only
      rw [seqB_one, n5 (in_intL s cs)]
      simp
/-! ### need_integer, need_two, need_counted; the four answers -/
end Ev

set_option linter.all false
set_option maxRecDepth 100000
set_option maxHeartbeats 1000000
namespace Ev
open PySem PySem.Spec L2
section
variable {Φ : Orc} {T V F : PV} {n : Int} {st : List Cell}
theorem r19 (h : Φ 0 [.int n, .int (-1000000000), .int 1000000000] st = .ok (.val (.bl true)) st) : finO (m19 Φ ⟨[.val (.int n)], st⟩) = .ok (.val .non) st := by
  unfold m19
  simp [h]
theorem r20 (h : Φ 18 [.tup [.int 2, .tup [], T]] st = .ok (.val (.bl true)) st) : finO (m20 Φ ⟨[.val (.tup [.int 2, .tup [], T])], st⟩) = .ok (.val .non) st := by
  have e : eqPV (.tup []) (.tup []) = some true := eq_intsT [] []
  unfold m20
  simp [h, e]
theorem r21 (h : Φ 18 [.tup [.int 2, .tup [], T]] st = .ok (.val (.bl true)) st) : finO (m21 Φ ⟨[.val (.tup [.int 2, .tup [], T])], st⟩) = .ok (.val .non) st := by
  have e : eqPV (.tup []) (.tup []) = some true := eq_intsT [] []
  unfold m21
  simp [h, e]
theorem r34 (h : Φ 27 [T, .tup [.int n]] st = .ok (.val V) st) : finO (m34 Φ ⟨[.val (.tup [.int 2, .tup [], T]), .val (.int n)], st⟩) = .ok (.val V) st := by
  unfold m34
  simp [h]
theorem r35 (h1 : Φ 21 [F] st = .ok (.val .non) st) (h2 : Φ 19 [.int n] st = .ok (.val .non) st) (h : Φ 34 [F, .int n] st = .ok (.val V) st) : finO (m35 Φ ⟨[.val F, .val (.int n)], st⟩) = .ok (.val V) st := by
  unfold m35
  simp [h1, h2, h]
theorem r36 (h1 : Φ 20 [.tup [.int 2, .tup [], T]] st = .ok (.val .non) st) (h2 : Φ 19 [.int n] st = .ok (.val .non) st) (h : Φ 28 [T, .tup [.int n]] st = .ok (.val V) st) : finO (m36 Φ ⟨[.val (.tup [.int 2, .tup [], T]), .val (.int n)], st⟩) = .ok (.val V) st := by
  unfold m36
  simp [h1, h2, h]
theorem r37 (h1 : Φ 20 [.tup [.int 2, .tup [], T]] st = .ok (.val .non) st) (h2 : Φ 19 [.int n] st = .ok (.val .non) st) (h : Φ 29 [T, .tup [.int n]] st = .ok (.val V) st) : finO (m37 Φ ⟨[.val (.tup [.int 2, .tup [], T]), .val (.int n)], st⟩) = .ok (.val V) st := by
  unfold m37
  simp [h1, h2, h]
theorem r38 (h1 : Φ 20 [.tup [.int 2, .tup [], T]] st = .ok (.val .non) st) (h2 : Φ 19 [.int n] st = .ok (.val .non) st) (h : Φ 30 [T, .tup [.int n]] st = .ok (.val V) st) : finO (m38 Φ ⟨[.val (.tup [.int 2, .tup [], T]), .val (.int n)], st⟩) = .ok (.val V) st := by
  unfold m38
  simp [h1, h2, h]
end
abbrev F2 (t : Tst) : PV := .tup [.int 2, .tup [], tv t]
/-- what is drawn -/
structure Drw (t : Tst) : Prop where
  ex : ∃ D M, Dok D M ∧ Sml 2 D t
  dep : dep t ≤ 6
  cnt : cnt t ≤ 100
  lvs : (lvs t).length ≤ 6
theorem f19 (k : Nat) (n : Int) (hn : -1000 ≤ n ∧ n ≤ 1000) (st : List Cell) : evP TT (k + 2) 19 [.int n] st = .ok (.val .non) st := by
  have g := f0 k n (-1000000000) 1000000000 st
  rw [decide_eq_true (by omega), decide_eq_true (by omega)] at g
  rw [p19]
  exact r19 g
theorem g18 (k : Nat) {t : Tst} (h : Drw t) (st : List Cell) : evP TT (k + 20) 18 [F2 t] st = .ok (.val (.bl true)) st := by
  obtain ⟨D, M, hD, hs⟩ := h.ex
  exact f18 k 2 [] t hD (by simp) (by simp) hs h.dep h.lvs h.cnt st
theorem f20 (k : Nat) {t : Tst} (h : Drw t) (st : List Cell) : evP TT (k + 21) 20 [F2 t] st = .ok (.val .non) st := by
  rw [p20]
  exact r20 (g18 k h st)
theorem f21 (k : Nat) {t : Tst} (h : Drw t) (st : List Cell) : evP TT (k + 21) 21 [F2 t] st = .ok (.val .non) st := by
  rw [p21]
  exact r21 (g18 k h st)
theorem f35 (k : Nat) {t : Tst} (h : Drw t) (n : Int) (hn : -1000 ≤ n ∧ n ≤ 1000) (st : List Cell) : evP TT (k + 22) 35 [F2 t, .int n] st = .ok (.val (cntV (per t) (T40 n t))) st := by
  obtain ⟨D, M, hD, hs⟩ := h.ex
  have hd := h.dep
  have g27 := f27 (k + 8) hD hs (by omega) h.cnt h.lvs n st
  have g34 : evP TT (k + 21) 34 [F2 t, .int n] st = .ok (.val (cntV (per t) (T40 n t))) st := by
    rw [p34]; exact r34 g27
  rw [p35]
  exact r35 (f21 k h st) (f19 (k + 19) n hn st) g34
theorem f36 (k : Nat) {t : Tst} (h : Drw t) (n : Int) (hn : -1000 ≤ n ∧ n ≤ 1000) (st : List Cell) : evP TT (k + 22) 36 [F2 t, .int n] st = .ok (.val (lstV (per t) (T40 n t))) st := by
  obtain ⟨D, M, hD, hs⟩ := h.ex
  have hd := h.dep
  have g27 := f28 (k + 9) hD hs (by omega) h.cnt h.lvs n st
  rw [p36]
  exact r36 (f20 k h st) (f19 (k + 19) n hn st) g27
theorem f37 (k : Nat) {t : Tst} (h : Drw t) (n : Int) (hn : -1000 ≤ n ∧ n ≤ 1000) (st : List Cell) : evP TT (k + 22) 37 [F2 t, .int n] st = .ok (.val (grtV (per t) (T40 n t))) st := by
  obtain ⟨D, M, hD, hs⟩ := h.ex
  have hd := h.dep
  have g27 := f29 (k + 9) hD hs (by omega) h.cnt h.lvs n st
  rw [p37]
  exact r37 (f20 k h st) (f19 (k + 19) n hn st) g27
theorem f38 (k : Nat) {t : Tst} (h : Drw t) (n : Int) (hn : -1000 ≤ n ∧ n ≤ 1000) (st : List Cell) : evP TT (k + 22) 38 [F2 t, .int n] st = .ok (.val (nearV (per t) (T40 n t))) st := by
  obtain ⟨D, M, hD, hs⟩ := h.ex
  have hd := h.dep
  have g27 := f30 (k + 9) hD hs (by omega) h.cnt h.lvs n st
  rw [p38]
  exact r38 (f20 k h st) (f19 (k + 19) n hn st) g27
end Ev

set_option linter.all false
set_option maxRecDepth 100000
set_option maxHeartbeats 1000000
namespace Ev
open PySem PySem.Spec L2
/-! ### the sorted triples -/
def tri (x : Int) : PV := .tup [.int (abI x), .int (-x), .int x]
def triD (x : Int) : PyData := .tuple [.int (abI x), .int (-x), .int x]
theorem toPy_tri (x : Int) : toPy (tri x) = some (triD x) := toPy_intsT [abI x, -x, x]
theorem toPys_tri : ∀ xs : List Int, toPys (xs.map tri) = some (xs.map triD)
  | [] => by simp [toPys_nil]
  | x :: xs => by
    rw [List.map_cons, toPys_cons, toPys_tri xs, toPy_tri]
    rfl
theorem encP_tri (x : Int) : encP (tri x) = triD x := by
  unfold encP
  rw [toPy_tri]; rfl
def best (a b : Int) : Bool := decide (abI a < abI b ∨ (abI a = abI b ∧ -a ≤ -b))
theorem lt_tri (x y z x' y' z' : Int) : PySem.W.dataLt (.tuple [.int x, .int y, .int z]) (.tuple [.int x', .int y', .int z']) = decide (x < x' ∨ (x = x' ∧ (y < y' ∨ (y = y' ∧ z < z')))) := by
  have al : ∀ a b : Int, PySem.W.alike (.int a) (.int b) = true := fun a b => by simp [PySem.W.alike]
  have e : PyProof.Rows.lexLt PyProof.Rows.itemOrd (PySem.W.keyToksAll []) (PySem.W.keyToksAll []) = false := PyProof.Rows.lex_irrefl _
  rw [PySem.W.dataLt_tuple, PySem.W.dataLt_cons (al _ _), PySem.W.dataLt_cons (al _ _), PySem.W.dataLt_cons (al _ _), e, PySem.W.dataLt_int, PySem.W.dataLt_int, PySem.W.dataLt_int]
  simp only [PyData.eqv, beq_iff_eq]
  by_cases h1 : x = x' <;> by_cases h2 : y = y' <;> by_cases h3 : z = z' <;> simp [h1, h2, h3]
theorem le_tri (a b : Int) : best a b = PySem.W.dataLe false encP (tri a) (tri b) := by
  rw [PySem.W.dataLe_eq]
  show _ = (!PySem.W.dataLt (encP (tri b)) (encP (tri a)))
  rw [encP_tri, encP_tri, triD, triD, lt_tri]
  unfold best
  rw [← decide_not, decide_eq_decide]
  omega
theorem sortOk_tri (xs : List Int) : sortOk (xs.map triD) = true := by
  unfold sortOk alikeB
  have h1 : ((xs.map triD).all fun d => (xs.map triD).all fun d' => PySem.W.alike d d') = true := by
    rw [List.all_map, List.all_eq_true]
    intro x _
    show ((xs.map triD).all fun d' => PySem.W.alike (triD x) d') = true
    rw [List.all_map, List.all_eq_true]
    intro y _
    simp [triD, PySem.W.alike, PySem.W.alikeAll]
  have h2 : (xs.map triD).all tupB1 = true := by
    rw [List.all_map, List.all_eq_true]
    intro x _; rfl
  have h3 : ((xs.map triD).all fun d => decide (d.depth ≤ 64)) = true := by
    rw [List.all_map, List.all_eq_true]
    intro x _
    simp [triD, PyData.depth, PyData.depthAll]
  rw [h1, h2, h3]; rfl
theorem sort_tri (xs : List Int) : sortP (xs.map tri) = some ((xs.mergeSort best).map tri) := by
  unfold sortP
  rw [toPys_tri]
  show (if sortOk (xs.map triD) = true then _ else none) = _
  rw [if_pos (sortOk_tri xs), ← List.map_mergeSort (r := best) (fun a _ b _ => le_tri a b)]
theorem best_first (xs : List Int) (h : xs ≠ []) : ∃ x0 r, xs.mergeSort best = x0 :: r ∧ x0 ∈ xs ∧ ∀ y ∈ xs, abI x0 < abI y ∨ (abI x0 = abI y ∧ -x0 ≤ -y) := by
  have pw := List.pairwise_mergeSort (le := best) (fun a b c h1 h2 => by
    unfold best at *
    rw [decide_eq_true_eq] at *
    omega) (fun a b => by
    unfold best
    rw [Bool.or_eq_true, decide_eq_true_eq, decide_eq_true_eq]
    omega) xs
  have pm := List.mergeSort_perm xs best
  cases e : xs.mergeSort best with
  | nil =>
    rw [e] at pm
    exact absurd pm.symm.eq_nil h
  | cons x0 r =>
    rw [e] at pm pw
    refine ⟨x0, r, rfl, pm.mem_iff.mp (List.mem_cons_self ..), fun y hy => ?_⟩
    rcases List.mem_cons.mp (pm.mem_iff.mpr hy) with rfl | hy
    · exact .inr ⟨rfl, Int.le_refl _⟩
    · exact of_decide_eq_true ((List.pairwise_cons.mp pw).1 y hy)
end Ev

set_option linter.all false
set_option maxRecDepth 100000
set_option maxHeartbeats 1000000
namespace Ev
open PySem PySem.Spec L2
/-! ### _law_plain -/
def pl1 (Φ : Orc) : M Fl := (sSet 2 false (xCall Φ 45 [(rdSlot 0)]))
def pl2 (Φ : Orc) : M Fl := (sSet 3 false (xBin .Add (xBin .Add (xBi .max [(xBin .Add (xLst [(ret (.val (.int (0))))]) (xComp [10, 11] (setSlot 11) (bnd (xCmp .Eq (xSub (rdSlot 11) (ret (.val (.int (0))))) (ret (.val (.str "most")))) asBool) (xBi .abs [(xBin .Sub (xSub (rdSlot 11) (ret (.val (.int (2))))) (xCall Φ 43 [(xSub (rdSlot 11) (ret (.val (.int (1))))), (xTup [(rdSlot 1)])]))]) (iOf (xCall Φ 42 [(rdSlot 0)]))))]) (xBin .Mult (ret (.val (.int (2)))) (rdSlot 2))) (ret (.val (.int (3))))))
def pl3 (Φ : Orc) : M Fl := (sSet 4 false (xComp [10, 12] (setSlot 12) (bnd (xCall Φ 44 [(rdSlot 0), (xTup [(rdSlot 1), (rdSlot 12)])]) truM) (rdSlot 12) (iRng2 (xNeg (rdSlot 3)) (xBin .Add (rdSlot 3) (ret (.val (.int (1))))))))
def pl4 (Φ : Orc) : M Fl := (sPar 5 6 (xCmp .NotEq (xComp [10, 12] (setSlot 12) (bnd (xCmp .Gt (rdSlot 12) (xBin .Sub (rdSlot 3) (rdSlot 2))) asBool) (rdSlot 12) (iOf (rdSlot 4))) (xLst [])) (xCmp .NotEq (xComp [10, 12] (setSlot 12) (bnd (xCmp .Lt (rdSlot 12) (xBin .Sub (rdSlot 2) (rdSlot 3))) asBool) (rdSlot 12) (iOf (rdSlot 4))) (xLst [])))
def pl5 (Φ : Orc) : M Fl := (sSet 7 false (xIf (bnd (xCmp .NotEq (rdSlot 4) (xLst [])) asBool) (xSub (xSub (xBi .sorted [(xComp [10, 12] (setSlot 12) (ret true) (xTup [(xBi .abs [(rdSlot 12)]), (xNeg (rdSlot 12)), (rdSlot 12)]) (iOf (rdSlot 4)))]) (ret (.val (.int (0))))) (ret (.val (.int (2))))) (ret (.val .non))))
def pl6 (Φ : Orc) : M Fl := (sSet 8 false (xIf (bnd (rdSlot 6) truM) (ret (.val (.str "endless"))) (xIf (bnd (xCmp .NotEq (rdSlot 4) (xLst [])) asBool) (xSub (rdSlot 4) (ret (.val (.int (0))))) (ret (.val .non)))))
def pl7 (Φ : Orc) : M Fl := (sSet 9 false (xIf (bnd (rdSlot 5) truM) (ret (.val (.str "endless"))) (xIf (bnd (xCmp .NotEq (rdSlot 4) (xLst [])) asBool) (xSub (rdSlot 4) (xNeg (ret (.val (.int (1)))))) (ret (.val .non)))))
def pl8 (Φ : Orc) : M Fl := (sRet (xTup [(xIf (tBool .Or [(bnd (rdSlot 5) truM), (bnd (rdSlot 6) truM)]) (ret (.val (.str "endless"))) (xBi .len [(rdSlot 4)])), (rdSlot 8), (rdSlot 9), (rdSlot 7)]))
def plB (Φ : Orc) : M Fl := seqB [pl1 Φ, pl2 Φ, pl3 Φ, pl4 Φ, pl5 Φ, pl6 Φ, pl7 Φ, pl8 Φ]
theorem m49_eq (Φ : Orc) : m49 Φ = plB Φ := rfl
abbrev tstM : M Bool := (bnd (xCmp .Eq (xSub (rdSlot 11) (ret (.val (.int (0))))) (ret (.val (.str "most")))) asBool)
abbrev eltM (Φ : Orc) : M RE := (xBi .abs [(xBin .Sub (xSub (rdSlot 11) (ret (.val (.int (2))))) (xCall Φ 43 [(xSub (rdSlot 11) (ret (.val (.int (1))))), (xTup [(rdSlot 1)])]))])
abbrev tst44 (Φ : Orc) : M Bool := (bnd (xCall Φ 44 [(rdSlot 0), (xTup [(rdSlot 1), (rdSlot 12)])]) truM)
abbrev tstUp : M Bool := (bnd (xCmp .Gt (rdSlot 12) (xBin .Sub (rdSlot 3) (rdSlot 2))) asBool)
abbrev tstDn : M Bool := (bnd (xCmp .Lt (rdSlot 12) (xBin .Sub (rdSlot 2) (rdSlot 3))) asBool)
abbrev eltT : M RE := (xTup [(xBi .abs [(rdSlot 12)]), (xNeg (rdSlot 12)), (rdSlot 12)])
section
variable {Φ : Orc} {T A B V W Z G H : PV} {n P F w x0 : Int} {q q1 q2 u d : Bool} {st : List Cell} {vs zs fs us ds ts : List PV} {a b a' b' : Sl}
theorem pl1r (h : Φ 45 [T] st = .ok (.val (.int P)) st) : pl1 Φ ⟨[.val T, .val (.int n), .none, .none, .none, .none, .none, .none, .none, .none, .none, .none, .none], st⟩ = .ok .nx ⟨[.val T, .val (.int n), .val (.int P), .none, .none, .none, .none, .none, .none, .none, .none, .none, .none], st⟩ := by
  unfold pl1; simp [h]
theorem pl2r (h : Φ 42 [T] st = .ok (.fresh (.lst vs)) st) (c1 : compGo [10, 11] (setSlot 11) tstM (eltM Φ) true vs ⟨[.val T, .val (.int n), .val (.int P), .none, .none, .none, .none, .none, .none, .none, .none, .none, .none], st⟩ = .ok zs ⟨[.val T, .val (.int n), .val (.int P), .none, .none, .none, .none, .none, .none, .none, a, b, .none], st⟩) (hl : zs.length ≤ 1000) (hm : biV .max [.lst (.int 0 :: zs)] = some (.val (.int w))) (hF : w + 2 * P + 3 = F) : pl2 Φ ⟨[.val T, .val (.int n), .val (.int P), .none, .none, .none, .none, .none, .none, .none, .none, .none, .none], st⟩ = .ok .nx ⟨[.val T, .val (.int n), .val (.int P), .val (.int F), .none, .none, .none, .none, .none, .none, .none, .none, .none], st⟩ := by
  have q0 : zs.length ≤ 16777216 := by omega
  have q1 : zs.length + 1 ≤ 16777216 := by omega
  have q2 : zs.length ≤ 16777215 := by omega
  have q3 : 1 + zs.length ≤ 16777216 := by omega
  unfold pl2; simp [h, c1, q0, q1, q2, q3, hm, hF]
theorem pl3r (c1 : compGo [10, 12] (setSlot 12) (tst44 Φ) (rdSlot 12) true (rngP (-F) (F + 1)) ⟨[.val T, .val (.int n), .val (.int P), .val (.int F), .none, .none, .none, .none, .none, .none, .none, .none, .none], st⟩ = .ok fs ⟨[.val T, .val (.int n), .val (.int P), .val (.int F), .none, .none, .none, .none, .none, .none, a, .none, b], st⟩) (hl : fs.length ≤ 16777216) (g1 : rngOk (-F) = true) (g2 : rngOk (F + 1) = true) : pl3 Φ ⟨[.val T, .val (.int n), .val (.int P), .val (.int F), .none, .none, .none, .none, .none, .none, .none, .none, .none], st⟩ = .ok .nx ⟨[.val T, .val (.int n), .val (.int P), .val (.int F), .own (.lst fs), .none, .none, .none, .none, .none, .none, .none, .none], st⟩ := by
  unfold pl3; simp [c1, hl, g1, g2]
theorem pl4r (c1 : compGo [10, 12] (setSlot 12) tstUp (rdSlot 12) true fs ⟨[.val T, .val (.int n), .val (.int P), .val (.int F), .val (.lst fs), .none, .none, .none, .none, .none, .none, .none, .none], st⟩ = .ok us ⟨[.val T, .val (.int n), .val (.int P), .val (.int F), .val (.lst fs), .none, .none, .none, .none, .none, a, .none, b], st⟩) (c2 : compGo [10, 12] (setSlot 12) tstDn (rdSlot 12) true fs ⟨[.val T, .val (.int n), .val (.int P), .val (.int F), .val (.lst fs), .none, .none, .none, .none, .none, .none, .none, .none], st⟩ = .ok ds ⟨[.val T, .val (.int n), .val (.int P), .val (.int F), .val (.lst fs), .none, .none, .none, .none, .none, a', .none, b'], st⟩) (hu : us.length ≤ 16777216) (hd : ds.length ≤ 16777216) (e1 : eqPV (.lst us) (.lst []) = some q1) (e2 : eqPV (.lst ds) (.lst []) = some q2) : pl4 Φ ⟨[.val T, .val (.int n), .val (.int P), .val (.int F), .own (.lst fs), .none, .none, .none, .none, .none, .none, .none, .none], st⟩ = .ok .nx ⟨[.val T, .val (.int n), .val (.int P), .val (.int F), .val (.lst fs), .val (.bl (!q1)), .val (.bl (!q2)), .none, .none, .none, .none, .none, .none], st⟩ := by
  unfold pl4; simp [c1, c2, hu, hd, e1, e2]
theorem pl5n (he : eqPV (.lst fs) (.lst []) = some true) : pl5 Φ ⟨[.val T, .val (.int n), .val (.int P), .val (.int F), .val (.lst fs), .val (.bl u), .val (.bl d), .none, .none, .none, .none, .none, .none], st⟩ = .ok .nx ⟨[.val T, .val (.int n), .val (.int P), .val (.int F), .val (.lst fs), .val (.bl u), .val (.bl d), .val .non, .none, .none, .none, .none, .none], st⟩ := by
  unfold pl5; simp [he]
theorem pl5s (he : eqPV (.lst fs) (.lst []) = some false) (c1 : compGo [10, 12] (setSlot 12) (ret true) eltT true fs ⟨[.val T, .val (.int n), .val (.int P), .val (.int F), .val (.lst fs), .val (.bl u), .val (.bl d), .none, .none, .none, .none, .none, .none], st⟩ = .ok ts ⟨[.val T, .val (.int n), .val (.int P), .val (.int F), .val (.lst fs), .val (.bl u), .val (.bl d), .none, .none, .none, a, .none, b], st⟩) (hl : ts.length ≤ 16777216) (hs : biV .sorted [.lst ts] = some (.fresh (.lst (.tup [A, B, W] :: zs)))) : pl5 Φ ⟨[.val T, .val (.int n), .val (.int P), .val (.int F), .val (.lst fs), .val (.bl u), .val (.bl d), .none, .none, .none, .none, .none, .none], st⟩ = .ok .nx ⟨[.val T, .val (.int n), .val (.int P), .val (.int F), .val (.lst fs), .val (.bl u), .val (.bl d), .val W, .none, .none, .none, .none, .none], st⟩ := by
  unfold pl5; simp [he, c1, hl, hs]
theorem pl6d : pl6 Φ ⟨[.val T, .val (.int n), .val (.int P), .val (.int F), .val (.lst fs), .val (.bl u), .val (.bl true), .val W, .none, .none, .none, .none, .none], st⟩ = .ok .nx ⟨[.val T, .val (.int n), .val (.int P), .val (.int F), .val (.lst fs), .val (.bl u), .val (.bl true), .val W, .val (.str "endless"), .none, .none, .none, .none], st⟩ := by
  unfold pl6; simp
theorem pl6n (he : eqPV (.lst fs) (.lst []) = some true) : pl6 Φ ⟨[.val T, .val (.int n), .val (.int P), .val (.int F), .val (.lst fs), .val (.bl u), .val (.bl false), .val W, .none, .none, .none, .none, .none], st⟩ = .ok .nx ⟨[.val T, .val (.int n), .val (.int P), .val (.int F), .val (.lst fs), .val (.bl u), .val (.bl false), .val W, .val .non, .none, .none, .none, .none], st⟩ := by
  unfold pl6; simp [he]
theorem pl6s (he : eqPV (.lst fs) (.lst []) = some false) (hv : L2.atI fs 0 = some V) : pl6 Φ ⟨[.val T, .val (.int n), .val (.int P), .val (.int F), .val (.lst fs), .val (.bl u), .val (.bl false), .val W, .none, .none, .none, .none, .none], st⟩ = .ok .nx ⟨[.val T, .val (.int n), .val (.int P), .val (.int F), .val (.lst fs), .val (.bl u), .val (.bl false), .val W, .val V, .none, .none, .none, .none], st⟩ := by
  unfold pl6; simp [he, hv]
theorem pl7d : pl7 Φ ⟨[.val T, .val (.int n), .val (.int P), .val (.int F), .val (.lst fs), .val (.bl true), .val (.bl d), .val W, .val Z, .none, .none, .none, .none], st⟩ = .ok .nx ⟨[.val T, .val (.int n), .val (.int P), .val (.int F), .val (.lst fs), .val (.bl true), .val (.bl d), .val W, .val Z, .val (.str "endless"), .none, .none, .none], st⟩ := by
  unfold pl7; simp
theorem pl7n (he : eqPV (.lst fs) (.lst []) = some true) : pl7 Φ ⟨[.val T, .val (.int n), .val (.int P), .val (.int F), .val (.lst fs), .val (.bl false), .val (.bl d), .val W, .val Z, .none, .none, .none, .none], st⟩ = .ok .nx ⟨[.val T, .val (.int n), .val (.int P), .val (.int F), .val (.lst fs), .val (.bl false), .val (.bl d), .val W, .val Z, .val .non, .none, .none, .none], st⟩ := by
  unfold pl7; simp [he]
theorem pl7s (he : eqPV (.lst fs) (.lst []) = some false) (hv : L2.atI fs (-1) = some V) : pl7 Φ ⟨[.val T, .val (.int n), .val (.int P), .val (.int F), .val (.lst fs), .val (.bl false), .val (.bl d), .val W, .val Z, .none, .none, .none, .none], st⟩ = .ok .nx ⟨[.val T, .val (.int n), .val (.int P), .val (.int F), .val (.lst fs), .val (.bl false), .val (.bl d), .val W, .val Z, .val V, .none, .none, .none], st⟩ := by
  unfold pl7; simp [he, hv]
theorem pl8r : pl8 Φ ⟨[.val T, .val (.int n), .val (.int P), .val (.int F), .val (.lst fs), .val (.bl u), .val (.bl d), .val W, .val Z, .val G, .none, .none, .none], st⟩ = .ok (.rt (.val (.tup [if (u || d) = true then .str "endless" else .int (fs.length : Nat), Z, G, W]))) ⟨[.val T, .val (.int n), .val (.int P), .val (.int F), .val (.lst fs), .val (.bl u), .val (.bl d), .val W, .val Z, .val G, .none, .none, .none], st⟩ := by
  unfold pl8
  cases u <;> cases d <;> simp
theorem m49_run {r : RE} {s8 : ES} {E1 E2 E3 E4 E5 E6 E7 : ES} {E0 : ES} (h1 : pl1 Φ E0 = .ok .nx E1) (h2 : pl2 Φ E1 = .ok .nx E2) (h3 : pl3 Φ E2 = .ok .nx E3) (h4 : pl4 Φ E3 = .ok .nx E4) (h5 : pl5 Φ E4 = .ok .nx E5) (h6 : pl6 Φ E5 = .ok .nx E6) (h7 : pl7 Φ E6 = .ok .nx E7) (h8 : pl8 Φ E7 = .ok (.rt r) s8) : m49 Φ E0 = .ok (.rt r) s8 := by
  rw [m49_eq]
  unfold plB
  rw [seqB_cons, h1, bind_ok]; dsimp only
  rw [seqB_cons, h2, bind_ok]; dsimp only
  rw [seqB_cons, h3, bind_ok]; dsimp only
  rw [seqB_cons, h4, bind_ok]; dsimp only
  rw [seqB_cons, h5, bind_ok]; dsimp only
  rw [seqB_cons, h6, bind_ok]; dsimp only
  rw [seqB_cons, h7, bind_ok]; dsimp only
  rw [seqB_one, h8]
end
end Ev

set_option linter.all false
set_option maxRecDepth 100000
set_option maxHeartbeats 1000000
namespace Ev
open PySem PySem.Spec L2
section
variable {Φ : Orc} {T A B V W Z G H R : PV} {n P F w x0 m x y : Int} {q q1 q2 u d : Bool} {st : List Cell} {vs zs fs us ds ts : List PV} {x3 x4 x5 x10 x11 x12 a b a' b' : Sl} {fo : List Int}
theorem tm1 : tstM ⟨[.val T, .val (.int n), .val (.int P), .none, .none, .none, .none, .none, .none, .none, .none, .val (.tup [.str "most", R, .int m]), .none], st⟩ = .ok true ⟨[.val T, .val (.int n), .val (.int P), .none, .none, .none, .none, .none, .none, .none, .none, .val (.tup [.str "most", R, .int m]), .none], st⟩ := by simp
theorem tm2 : tstM ⟨[.val T, .val (.int n), .val (.int P), .none, .none, .none, .none, .none, .none, .none, .none, .val (.tup [.str "div", A, R, .int m]), .none], st⟩ = .ok false ⟨[.val T, .val (.int n), .val (.int P), .none, .none, .none, .none, .none, .none, .none, .none, .val (.tup [.str "div", A, R, .int m]), .none], st⟩ := by simp [s5]
theorem em1 (h : Φ 43 [R, .tup [.int n]] st = .ok (.val (.int w)) st) : eltM Φ ⟨[.val T, .val (.int n), .val (.int P), .none, .none, .none, .none, .none, .none, .none, .none, .val (.tup [.str "most", R, .int m]), .none], st⟩ = .ok (.val (.int (if m - w < 0 then -(m - w) else m - w))) ⟨[.val T, .val (.int n), .val (.int P), .none, .none, .none, .none, .none, .none, .none, .none, .val (.tup [.str "most", R, .int m]), .none], st⟩ := by simp [h]
theorem t44 (h : Φ 44 [T, .tup [.int n, .int x]] st = .ok (.val (.bl q)) st) : tst44 Φ ⟨[.val T, .val (.int n), .val (.int P), .val (.int F), .none, .none, .none, .none, .none, .none, .none, .none, .val (.int x)], st⟩ = .ok q ⟨[.val T, .val (.int n), .val (.int P), .val (.int F), .none, .none, .none, .none, .none, .none, .none, .none, .val (.int x)], st⟩ := by simp [h]
theorem el12 : (rdSlot 12) ⟨[.val T, .val (.int n), .val (.int P), .val (.int F), .none, .none, .none, .none, .none, .none, .none, .none, .val (.int x)], st⟩ = .ok (.val (.int x)) ⟨[.val T, .val (.int n), .val (.int P), .val (.int F), .none, .none, .none, .none, .none, .none, .none, .none, .val (.int x)], st⟩ := by simp
theorem tup1 : tstUp ⟨[.val T, .val (.int n), .val (.int P), .val (.int F), .val H, .none, .none, .none, .none, .none, .none, .none, .val (.int x)], st⟩ = .ok (decide (F - P < x)) ⟨[.val T, .val (.int n), .val (.int P), .val (.int F), .val H, .none, .none, .none, .none, .none, .none, .none, .val (.int x)], st⟩ := by simp
theorem tdn1 : tstDn ⟨[.val T, .val (.int n), .val (.int P), .val (.int F), .val H, .none, .none, .none, .none, .none, .none, .none, .val (.int x)], st⟩ = .ok (decide (x < P - F)) ⟨[.val T, .val (.int n), .val (.int P), .val (.int F), .val H, .none, .none, .none, .none, .none, .none, .none, .val (.int x)], st⟩ := by simp
theorem el13x : (rdSlot 12) ⟨[.val T, .val (.int n), .val (.int P), .val (.int F), .val H, .none, .none, .none, .none, .none, .none, .none, .val (.int x)], st⟩ = .ok (.val (.int x)) ⟨[.val T, .val (.int n), .val (.int P), .val (.int F), .val H, .none, .none, .none, .none, .none, .none, .none, .val (.int x)], st⟩ := by simp
theorem el14 : eltT ⟨[.val T, .val (.int n), .val (.int P), .val (.int F), .val H, .val (.bl u), .val (.bl d), .none, .none, .none, .none, .none, .val (.int x)], st⟩ = .ok (.val (tri x)) ⟨[.val T, .val (.int n), .val (.int P), .val (.int F), .val H, .val (.bl u), .val (.bl d), .none, .none, .none, .none, .none, .val (.int x)], st⟩ := by unfold tri abI; simp
end
theorem far_comp (k : Nat) {D : List Int} {M : Int} (hD : Dok D M) {t : Tst} (h : Sml 2 D t) (n P : Int) (hn : -1000 ≤ n ∧ n ≤ 1000) (T : PV) (st : List Cell) : ∃ a b, compGo [10, 11] (setSlot 11) tstM (eltM (evP TT (k + 1))) true ((lvs t).map tv) ⟨[.val T, .val (.int n), .val (.int P), .none, .none, .none, .none, .none, .none, .none, .none, .none, .none], st⟩ = .ok (((lvs t).filter isM).map fun u => .int (fw n u)) ⟨[.val T, .val (.int n), .val (.int P), .none, .none, .none, .none, .none, .none, .none, a, b, .none], st⟩ := by
  obtain ⟨s', c1, c2, a, b, c3⟩ := compGo_fl (own := [10, 11]) (tgt := setSlot 11) (tst := tstM) (elt := eltM (evP TT (k + 1)))
    (fun s => s.st = st ∧ ∃ a b, s.env = [.val T, .val (.int n), .val (.int P), .none, .none, .none, .none, .none, .none, .none, a, b, .none]) tv (fun u => .int (fw n u)) isM (lvs t) (fun u hu s ⟨h1, a, b, h2⟩ => by
      obtain ⟨env, st'⟩ := s
      cases h1; cases h2
      obtain ⟨hs, hlf⟩ := sml_lvs t h u hu
      rcases hlf with ⟨r, m, rfl⟩ | ⟨d, r, m, rfl⟩
      · rw [Sml] at hs
        obtain ⟨a', b', rfl, ha, hb, hm2⟩ := row2 hs
        have g := f43 k [a', b'] [n] (fun x hx => by
          rcases List.mem_cons.mp hx with rfl | hx
          · omega
          · rcases List.mem_singleton.mp hx with rfl; omega) (by simp) st'
        refine ⟨_, _, rfl, tm1 (R := PL [a', b']) (m := m), fun _ => ⟨_, _, _, em1 g, rfl, rfl, _, _, rfl⟩, fun hc => by cases hc⟩
      · exact ⟨_, _, rfl, tm2 (R := PL r) (m := m) (A := .int d), (fun hc => by cases hc), fun _ => ⟨rfl, _, _, rfl⟩⟩) ⟨[.val T, .val (.int n), .val (.int P), .none, .none, .none, .none, .none, .none, .none, .none, .none, .none], st⟩ ⟨rfl, _, _, rfl⟩
  obtain ⟨env, st'⟩ := s'
  cases c2; cases c3
  exact ⟨a, b, c1⟩
theorem rng_win (F : Int) : rngP (-F) (F + 1) = (winI (-F) (F + 1)).map .int := by
  unfold rngP winI
  rw [List.map_map]; rfl
theorem found_comp {Φ : Orc} (tr : Int → Bool) (T : PV) (n P F : Int) (st : List Cell) (h : ∀ x, Φ 44 [T, .tup [.int n, .int x]] st = .ok (.val (.bl (tr x))) st) : ∃ a b, compGo [10, 12] (setSlot 12) (tst44 Φ) (rdSlot 12) true (rngP (-F) (F + 1)) ⟨[.val T, .val (.int n), .val (.int P), .val (.int F), .none, .none, .none, .none, .none, .none, .none, .none, .none], st⟩ = .ok ((foundL tr F).map .int) ⟨[.val T, .val (.int n), .val (.int P), .val (.int F), .none, .none, .none, .none, .none, .none, a, .none, b], st⟩ := by
  rw [rng_win]
  obtain ⟨s', c1, c2, a, b, c3⟩ := compGo_fl (own := [10, 12]) (tgt := setSlot 12) (tst := tst44 Φ) (elt := rdSlot 12)
    (fun s => s.st = st ∧ ∃ a b, s.env = [.val T, .val (.int n), .val (.int P), .val (.int F), .none, .none, .none, .none, .none, .none, a, .none, b]) PV.int PV.int tr (winI (-F) (F + 1)) (fun x hx s ⟨h1, a, b, h2⟩ => by
      obtain ⟨env, st'⟩ := s
      cases h1; cases h2
      exact ⟨_, _, rfl, t44 (h x), fun _ => ⟨_, _, _, el12, rfl, rfl, _, _, rfl⟩, fun _ => ⟨rfl, _, _, rfl⟩⟩) ⟨[.val T, .val (.int n), .val (.int P), .val (.int F), .none, .none, .none, .none, .none, .none, .none, .none, .none], st⟩ ⟨rfl, _, _, rfl⟩
  obtain ⟨env, st'⟩ := s'
  cases c2; cases c3
  exact ⟨a, b, c1⟩
theorem up_comp (T H : PV) (n P F : Int) (fo : List Int) (st : List Cell) : ∃ a b, compGo [10, 12] (setSlot 12) tstUp (rdSlot 12) true (fo.map .int) ⟨[.val T, .val (.int n), .val (.int P), .val (.int F), .val H, .none, .none, .none, .none, .none, .none, .none, .none], st⟩ = .ok ((fo.filter fun x => decide (F - P < x)).map .int) ⟨[.val T, .val (.int n), .val (.int P), .val (.int F), .val H, .none, .none, .none, .none, .none, a, .none, b], st⟩ := by
  obtain ⟨s', c1, c2, a, b, c3⟩ := compGo_fl (own := [10, 12]) (tgt := setSlot 12) (tst := tstUp) (elt := rdSlot 12)
    (fun s => s.st = st ∧ ∃ a b, s.env = [.val T, .val (.int n), .val (.int P), .val (.int F), .val H, .none, .none, .none, .none, .none, a, .none, b]) PV.int PV.int (fun x => decide (F - P < x)) fo (fun x hx s ⟨h1, a, b, h2⟩ => by
      obtain ⟨env, st'⟩ := s
      cases h1; cases h2
      exact ⟨_, _, rfl, tup1, fun _ => ⟨_, _, _, el13x, rfl, rfl, _, _, rfl⟩, fun _ => ⟨rfl, _, _, rfl⟩⟩) ⟨[.val T, .val (.int n), .val (.int P), .val (.int F), .val H, .none, .none, .none, .none, .none, .none, .none, .none], st⟩ ⟨rfl, _, _, rfl⟩
  obtain ⟨env, st'⟩ := s'
  cases c2; cases c3
  exact ⟨a, b, c1⟩
theorem dn_comp (T H : PV) (n P F : Int) (fo : List Int) (st : List Cell) : ∃ a b, compGo [10, 12] (setSlot 12) tstDn (rdSlot 12) true (fo.map .int) ⟨[.val T, .val (.int n), .val (.int P), .val (.int F), .val H, .none, .none, .none, .none, .none, .none, .none, .none], st⟩ = .ok ((fo.filter fun x => decide (x < P - F)).map .int) ⟨[.val T, .val (.int n), .val (.int P), .val (.int F), .val H, .none, .none, .none, .none, .none, a, .none, b], st⟩ := by
  obtain ⟨s', c1, c2, a, b, c3⟩ := compGo_fl (own := [10, 12]) (tgt := setSlot 12) (tst := tstDn) (elt := rdSlot 12)
    (fun s => s.st = st ∧ ∃ a b, s.env = [.val T, .val (.int n), .val (.int P), .val (.int F), .val H, .none, .none, .none, .none, .none, a, .none, b]) PV.int PV.int (fun x => decide (x < P - F)) fo (fun x hx s ⟨h1, a, b, h2⟩ => by
      obtain ⟨env, st'⟩ := s
      cases h1; cases h2
      exact ⟨_, _, rfl, tdn1, fun _ => ⟨_, _, _, el13x, rfl, rfl, _, _, rfl⟩, fun _ => ⟨rfl, _, _, rfl⟩⟩) ⟨[.val T, .val (.int n), .val (.int P), .val (.int F), .val H, .none, .none, .none, .none, .none, .none, .none, .none], st⟩ ⟨rfl, _, _, rfl⟩
  obtain ⟨env, st'⟩ := s'
  cases c2; cases c3
  exact ⟨a, b, c1⟩
theorem tri_comp (T H : PV) (n P F : Int) (u d : Bool) (fo : List Int) (st : List Cell) : ∃ a b, compGo [10, 12] (setSlot 12) (ret true) eltT true (fo.map .int) ⟨[.val T, .val (.int n), .val (.int P), .val (.int F), .val H, .val (.bl u), .val (.bl d), .none, .none, .none, .none, .none, .none], st⟩ = .ok (fo.map tri) ⟨[.val T, .val (.int n), .val (.int P), .val (.int F), .val H, .val (.bl u), .val (.bl d), .none, .none, .none, a, .none, b], st⟩ := by
  obtain ⟨s', c1, c2, a, b, c3⟩ := compGo_f (own := [10, 12]) (tgt := setSlot 12) (tst := ret true) (elt := eltT)
    (I := fun s => s.st = st ∧ ∃ a b, s.env = [.val T, .val (.int n), .val (.int P), .val (.int F), .val H, .val (.bl u), .val (.bl d), .none, .none, .none, a, .none, b]) (f := PV.int) (g := tri) fo (fun x hx s ⟨h1, a, b, h2⟩ => by
      obtain ⟨env, st'⟩ := s
      cases h1; cases h2
      refine ⟨⟨[.val T, .val (.int n), .val (.int P), .val (.int F), .val H, .val (.bl u), .val (.bl d), .none, .none, .none, .none, .none, .val (.int x)], st'⟩, ?_, rfl, _, _, rfl⟩
      show (bnd (ret true) fun b => if b then bnd eltT share else bad) ⟨[.val T, .val (.int n), .val (.int P), .val (.int F), .val H, .val (.bl u), .val (.bl d), .none, .none, .none, .none, .none, .val (.int x)], st'⟩ = _
      rw [bnd_run, ret_run, bind_ok, if_pos rfl, bnd_run, el14, bind_ok, share_val]) ⟨[.val T, .val (.int n), .val (.int P), .val (.int F), .val H, .val (.bl u), .val (.bl d), .none, .none, .none, .none, .none, .none], st⟩ ⟨rfl, _, _, rfl⟩
  obtain ⟨env, st'⟩ := s'
  cases c2; cases c3
  exact ⟨a, b, c1⟩
theorem any_fl (c : Int → Bool) (l : List Int) : (!decide (l.filter c = [])) = l.any c := by
  induction l with
  | nil => rfl
  | cons x l ih =>
    rw [List.any_cons]
    by_cases h : c x = true
    · rw [List.filter_cons_of_pos h, h]; simp
    · rw [List.filter_cons_of_neg h, ih, Bool.not_eq_true] at *
      rw [h, Bool.false_or]
theorem pl5_all {Φ : Orc} {T W : PV} {n P F : Int} {u d : Bool} {fo : List Int} {st : List Cell} (hl : fo.length ≤ 16777216) (h0 : fo = [] → W = .non) (h1 : ∀ x0 ∈ fo, (∀ y ∈ fo, abI x0 < abI y ∨ (abI x0 = abI y ∧ -x0 ≤ -y)) → W = .int x0) : pl5 Φ ⟨[.val T, .val (.int n), .val (.int P), .val (.int F), .val (.lst (fo.map .int)), .val (.bl u), .val (.bl d), .none, .none, .none, .none, .none, .none], st⟩ = .ok .nx ⟨[.val T, .val (.int n), .val (.int P), .val (.int F), .val (.lst (fo.map .int)), .val (.bl u), .val (.bl d), .val W, .none, .none, .none, .none, .none], st⟩ := by
  have he := eq_intsL fo []
  by_cases q : fo = []
  · rw [decide_eq_true q] at he
    rw [h0 q]
    exact pl5n he
  · rw [decide_eq_false q] at he
    obtain ⟨x0, r, e, m0, m1⟩ := best_first fo q
    obtain ⟨a, b, c1⟩ := tri_comp T (.lst (fo.map .int)) n P F u d fo st
    have hs : biV .sorted [.lst (fo.map tri)] = some (.fresh (.lst (.tup [.int (abI x0), .int (-x0), .int x0] :: r.map tri))) := by
      show (sortP (fo.map tri)).map _ = _
      rw [sort_tri, e]; rfl
    rw [h1 x0 m0 m1]
    exact pl5s he c1 (by rw [List.length_map]; exact hl) hs
theorem pl6_all {Φ : Orc} {T W Z : PV} {n P F : Int} {u d : Bool} {fo : List Int} {st : List Cell} (hZ : Z = if d = true then .str "endless" else ov fo.head?) : pl6 Φ ⟨[.val T, .val (.int n), .val (.int P), .val (.int F), .val (.lst (fo.map .int)), .val (.bl u), .val (.bl d), .val W, .none, .none, .none, .none, .none], st⟩ = .ok .nx ⟨[.val T, .val (.int n), .val (.int P), .val (.int F), .val (.lst (fo.map .int)), .val (.bl u), .val (.bl d), .val W, .val Z, .none, .none, .none, .none], st⟩ := by
  subst hZ
  have he := eq_intsL fo []
  cases d with
  | true => exact pl6d
  | false =>
    cases fo with
    | nil => exact pl6n he
    | cons x r =>
      rw [decide_eq_false (by simp)] at he
      exact pl6s he (atI_0 _ _)
theorem pl7_all {Φ : Orc} {T W Z G : PV} {n P F : Int} {u d : Bool} {fo : List Int} {st : List Cell} (hG : G = if u = true then .str "endless" else ov fo.getLast?) : pl7 Φ ⟨[.val T, .val (.int n), .val (.int P), .val (.int F), .val (.lst (fo.map .int)), .val (.bl u), .val (.bl d), .val W, .val Z, .none, .none, .none, .none], st⟩ = .ok .nx ⟨[.val T, .val (.int n), .val (.int P), .val (.int F), .val (.lst (fo.map .int)), .val (.bl u), .val (.bl d), .val W, .val Z, .val G, .none, .none, .none], st⟩ := by
  subst hG
  have he := eq_intsL fo []
  cases u with
  | true => exact pl7d
  | false =>
    cases hq : fo.getLast? with
    | none =>
      have := List.getLast?_eq_none_iff.mp hq
      subst this
      exact pl7n he
    | some x =>
      have ne : fo ≠ [] := fun e => by rw [e] at hq; cases hq
      rw [decide_eq_false ne] at he
      exact pl7s he (atI_last (by rw [List.getLast?_map, hq]; rfl))
theorem farW_bd {D : List Int} {t : Tst} (h : Sml 2 D t) (n : Int) (hn : -1000 ≤ n ∧ n ≤ 1000) : farW n t ≤ 4000 := by
  refine (mx_bd _ 0 4000 (by omega) (by omega) fun x hx => ?_).2
  obtain ⟨u, hu, rfl⟩ := List.mem_map.mp hx
  obtain ⟨hs, hlf⟩ := sml_lvs t h u (List.mem_filter.mp hu).1
  rcases hlf with ⟨r, m, rfl⟩ | ⟨d, r, m, rfl⟩
  · rw [Sml] at hs
    obtain ⟨a, b, rfl, ha, hb, hm2⟩ := row2 hs
    show (if m - dot [a, b] [n] < 0 then -(m - dot [a, b] [n]) else m - dot [a, b] [n]) ≤ 4000
    rw [dot1]
    have : a = -3 ∨ a = -2 ∨ a = -1 ∨ a = 0 ∨ a = 1 ∨ a = 2 ∨ a = 3 := by omega
    rcases this with rfl | rfl | rfl | rfl | rfl | rfl | rfl <;> split <;> omega
  · exact (by decide : (0 : Int) ≤ 4000)
theorem found_len (tr : Int → Bool) (F : Int) : (foundL tr F).length ≤ (F + 1 - -F).toNat := by
  have := List.length_filter_le tr (winI (-F) (F + 1))
  have e : (winI (-F) (F + 1)).length = (F + 1 - -F).toNat := by unfold winI; rw [List.length_map, List.length_range]
  unfold foundL
  omega
def Atm (v : PV) : Prop := v = .non ∨ v = .str "endless" ∨ ∃ i : Int, v = .int i ∧ -1000000 ≤ i ∧ i ≤ 1000000
/-- what the law finds is what the program finds -/
theorem f49 (k : Nat) {D : List Int} {M : Int} (hD : Dok D M) {t : Tst} (h : Sml 2 D t) (hd : dep t ≤ 7) (hc : cnt t ≤ 100) (n : Int) (hn : -1000 ≤ n ∧ n ≤ 1000) (st : List Cell) :
    evP TT (k + 12) 49 [tv t, .int n] st = .ok (.val (.tup [cntV (per t) (T40 n t), lstV (per t) (T40 n t), grtV (per t) (T40 n t), nearV (per t) (T40 n t)])) st ∧ Atm (cntV (per t) (T40 n t)) ∧ Atm (lstV (per t) (T40 n t)) ∧ Atm (grtV (per t) (T40 n t)) ∧ Atm (nearV (per t) (T40 n t)) := by
  rw [p49]
  have hp := sml_pos hD h
  have pb := per_bd hD h
  obtain ⟨ho, hv⟩ := sml_ok hD t h
  have tl := tl_t hD h n
  have w0 := farW_0 n t
  have w1 := farW_bd h n hn
  obtain ⟨P, e45, P1, P12, dv, lst⟩ := f45 (k + 9) 2 t ho M ⟨hD.2.1, by have := hD.2.2; omega⟩ hv (by omega) (by omega) st
  have eP := (per_eq hp hD.2 hv P1 P12 dv lst).1
  have e42 := f42 (k + 10) t (by omega) (by omega) st
  subst eP
  obtain ⟨a1, b1, c1⟩ := far_comp (k + 10) hD h n (per t) hn (tv t) st
  have e44 : ∀ x, evP TT (k + 11) 44 [tv t, .tup [.int n, .int x]] st = .ok (.val (.bl (tat [n, x] t))) st := fun x => f44 2 3 20 (by decide) (by decide) [n, x] (k + 10) t ho (by omega) (by omega) st
  obtain ⟨F, hF⟩ : ∃ F, farW n t + 2 * (per t : Int) + 3 = F := ⟨_, rfl⟩
  obtain ⟨a2, b2, c2⟩ := found_comp (fun x => tat [n, x] t) (tv t) n (per t) F st e44
  have fl := found_len (fun x => tat [n, x] t) F
  have hB : 0 ≤ farW n t + 1 := by omega
  have hBF : farW n t + 1 + 2 * (per t : Int) ≤ F := by omega
  have hll := lvs_len t
  have hfl := List.length_filter_le isM (lvs t)
  have up : _ = (T40 n t).any noHi := up_eq tl hB hBF
  have dn : _ = (T40 n t).any noLo := dn_eq tl hB hBF
  have lq : (T40 n t).any noLo = false → minI ((T40 n t).map (fmV (per t))) = (foundL (fun x => tat [n, x] t) F).head? := least_eq tl hB hBF
  have gq : (T40 n t).any noHi = false → maxI ((T40 n t).map (lmV (per t))) = (foundL (fun x => tat [n, x] t) F).getLast? := greatest_eq tl hB hBF
  have cq : (T40 n t).any noLo = false → (T40 n t).any noHi = false → ((foundL (fun x => tat [n, x] t) F).length : Int) = ((T40 n t).map (cntT (per t))).sum := count_eq tl hB hBF
  have nn : candL (per t) (T40 n t) = [] ↔ foundL (fun x => tat [n, x] t) F = [] := near_nil tl hB hBF
  have nq : ∀ s x0, minI ((candL (per t) (T40 n t)).map abI) = some s → x0 ∈ foundL (fun x => tat [n, x] t) F → _ → (if s ∈ candL (per t) (T40 n t) then s else -s) = x0 := fun s x0 => near_eq (s := s) (x0 := x0) tl hB hBF
  have hb1 : biV .max [.lst (.int 0 :: ((lvs t).filter isM).map fun u => PV.int (fw n u))] = some (.val (.int (farW n t))) := bi_max0 (fw n) _
  have hW0 : foundL (fun x => tat [n, x] t) F = [] → nearV (per t) (T40 n t) = .non := fun e => by
    unfold nearV
    rw [nn.mpr e]; rfl
  have hW1 : ∀ x0 ∈ foundL (fun x => tat [n, x] t) F, (∀ y ∈ foundL (fun x => tat [n, x] t) F, abI x0 < abI y ∨ (abI x0 = abI y ∧ -x0 ≤ -y)) → nearV (per t) (T40 n t) = .int x0 := fun x0 m0 m1 => by
    unfold nearV
    cases hm : minI ((candL (per t) (T40 n t)).map abI) with
    | none =>
      have e : candL (per t) (T40 n t) = [] := by
        cases hc : candL (per t) (T40 n t) with
        | nil => rfl
        | cons x r => rw [hc] at hm; cases hm
      rw [nn.mp e] at m0; cases m0
    | some s =>
      have := nq s x0 hm m0 m1
      show PV.int _ = _
      rw [this]
  have hZ : lstV (per t) (T40 n t) = if (T40 n t).any noLo = true then .str "endless" else ov (foundL (fun x => tat [n, x] t) F).head? := by
    unfold lstV
    by_cases q : (T40 n t).any noLo = true
    · rw [if_pos q, if_pos q]
    · rw [if_neg q, if_neg q, lq (Bool.not_eq_true _ ▸ q)]
  have hG : grtV (per t) (T40 n t) = if (T40 n t).any noHi = true then .str "endless" else ov (foundL (fun x => tat [n, x] t) F).getLast? := by
    unfold grtV
    by_cases q : (T40 n t).any noHi = true
    · rw [if_pos q, if_pos q]
    · rw [if_neg q, if_neg q, gq (Bool.not_eq_true _ ▸ q)]
  have hC : cntV (per t) (T40 n t) = if ((T40 n t).any noHi || (T40 n t).any noLo) = true then .str "endless" else .int (((foundL (fun x => tat [n, x] t) F).map PV.int).length : Nat) := by
    unfold cntV
    rw [Bool.or_comm ((T40 n t).any noHi), List.length_map]
    by_cases q : ((T40 n t).any noLo || (T40 n t).any noHi) = true
    · rw [if_pos q, if_pos q]
    · rw [if_neg q, if_neg q]
      rw [Bool.not_eq_true, Bool.or_eq_false_iff] at q
      rw [cq q.1 q.2]
  obtain ⟨a3, b3, c3⟩ := up_comp (tv t) (.lst ((foundL (fun x => tat [n, x] t) F).map .int)) n (per t) F (foundL (fun x => tat [n, x] t) F) st
  obtain ⟨a4, b4, c4⟩ := dn_comp (tv t) (.lst ((foundL (fun x => tat [n, x] t) F).map .int)) n (per t) F (foundL (fun x => tat [n, x] t) F) st
  have l3 := List.length_filter_le (fun x => decide (F - (per t : Int) < x)) (foundL (fun x => tat [n, x] t) F)
  have l4 := List.length_filter_le (fun x => decide (x < (per t : Int) - F)) (foundL (fun x => tat [n, x] t) F)
  have e4 := pl4r (Φ := evP TT (k + 11)) c3 c4 (by rw [List.length_map]; omega) (by rw [List.length_map]; omega) (eq_intsL _ []) (eq_intsL _ [])
  rw [any_fl, any_fl, up, dn] at e4
  have r := m49_run (pl1r e45) (pl2r e42 c1 (by rw [List.length_map]; omega) hb1 hF) (pl3r c2 (by rw [List.length_map]; omega) (rngOk_s _ (by omega) (by omega)) (rngOk_s _ (by omega) (by omega))) e4 (pl5_all (by omega) hW0 hW1) (pl6_all hZ) (pl7_all hG) pl8r
  rw [← hC] at r
  have mb : ∀ x ∈ foundL (fun x => tat [n, x] t) F, -1000000 ≤ x ∧ x ≤ 1000000 := fun x hx => by
    have := (mem_found.mp hx).1
    omega
  refine ⟨(congrArg finO r).trans rfl, ?_, ?_, ?_, ?_⟩
  · rw [hC]
    split
    · exact .inr (.inl rfl)
    · exact .inr (.inr ⟨_, rfl, by omega, by rw [List.length_map]; omega⟩)
  · rw [hZ]
    split
    · exact .inr (.inl rfl)
    · cases e : (foundL (fun x => tat [n, x] t) F).head? with
      | none => exact .inl rfl
      | some x => exact .inr (.inr ⟨x, rfl, mb x (List.mem_of_mem_head? e)⟩)
  · rw [hG]
    split
    · exact .inr (.inl rfl)
    · cases e : (foundL (fun x => tat [n, x] t) F).getLast? with
      | none => exact .inl rfl
      | some x => exact .inr (.inr ⟨x, rfl, mb x (List.mem_of_getLast? e)⟩)
  · by_cases q : foundL (fun x => tat [n, x] t) F = []
    · rw [hW0 q]; exact .inl rfl
    · obtain ⟨x0, r, e, m0, m1⟩ := best_first _ q
      rw [hW1 x0 m0 m1]
      exact .inr (.inr ⟨x0, rfl, mb x0 m0⟩)
end Ev

set_option linter.all false
set_option maxRecDepth 100000
set_option maxHeartbeats 1000000
namespace Ev
open PySem PySem.Spec L2
/-! ### _law_deep -/
section
variable {Φ : Orc} {R A B D : PV} {h : Int} {st : List Cell} {vs zs : List PV} {x y : Sl}
theorem r50m : finO (m50 Φ ⟨[.val (.tup [.str "most", A, B]), .none, .none], st⟩) = .ok (.val (.int 1)) st := by
  unfold m50
  simp
theorem r50d : finO (m50 Φ ⟨[.val (.tup [.str "div", D, A, B]), .none, .none], st⟩) = .ok (.val (.int 1)) st := by
  unfold m50
  simp
theorem r50n (hc : compGo [1, 2] (setSlot 2) (ret true) (xCall Φ 50 [(rdSlot 2)]) true [R] ⟨[.val (.tup [.str "not", R]), .none, .none], st⟩ = .ok zs ⟨[.val (.tup [.str "not", R]), x, y], st⟩) (hl : zs.length + 1 ≤ 16777216) (hm : biV .max [.lst (PV.int 0 :: zs)] = some (.val (.int h))) :
    finO (m50 Φ ⟨[.val (.tup [.str "not", R]), .none, .none], st⟩) = .ok (.val (.int (1 + h))) st := by
  unfold m50
  have hl' : 1 + zs.length ≤ 16777216 := by omega
  have hl2 : zs.length ≤ 16777216 := by omega
  simp [cut_tail, hc, hl, hl', hl2, hm]
theorem r50k {nm : Str} (hn : (("most" : Str) == nm) = false) (hn2 : (("div" : Str) == nm) = false) (n3 : nm ≠ "not") (hc : compGo [1, 2] (setSlot 2) (ret true) (xCall Φ 50 [(rdSlot 2)]) true vs ⟨[.val (.tup [.str nm, .tup vs]), .none, .none], st⟩ = .ok zs ⟨[.val (.tup [.str nm, .tup vs]), x, y], st⟩) (hl : zs.length + 1 ≤ 16777216) (hm : biV .max [.lst (PV.int 0 :: zs)] = some (.val (.int h))) :
    finO (m50 Φ ⟨[.val (.tup [.str nm, .tup vs]), .none, .none], st⟩) = .ok (.val (.int (1 + h))) st := by
  unfold m50
  have hl' : 1 + zs.length ≤ 16777216 := by omega
  have hl2 : zs.length ≤ 16777216 := by omega
  simp [hn, hn2, n3, hc, hl, hl', hl2, hm]
end
theorem f50 : ∀ (k : Nat) (t : Tst), dep t ≤ k → cnt t ≤ 100000 → ∀ st, evP TT (k + 1) 50 [tv t] st = .ok (.val (.int (dep t))) st := by
  intro k
  induction k with
  | zero => intro t h; cases t <;> simp [dep] at h
  | succ k ih =>
    intro t hd hc st
    rw [p50]
    have comp : ∀ (T P : PV) (ts : List Tst), (∀ t ∈ ts, dep t ≤ k ∧ cnt t ≤ 100000) → ∃ x y, compGo [1, 2] (setSlot 2) (ret true) (xCall (evP TT (k + 1)) 50 [(rdSlot 2)]) true (ts.map tv) ⟨[.val T, .none, .none], st⟩ = .ok (ts.map fun t => PV.int (dep t)) ⟨[.val T, x, y], st⟩ := fun T P ts hts => by
      obtain ⟨s', c1, c2, x, y, c3⟩ := compGo_f (own := [1, 2]) (tgt := setSlot 2) (tst := ret true) (elt := xCall (evP TT (k + 1)) 50 [(rdSlot 2)])
        (I := fun s => s.st = st ∧ ∃ x y, s.env = [.val T, x, y]) (f := tv) (g := fun t => PV.int (dep t)) ts (fun t ht s ⟨h1, x, y, h2⟩ => by
          obtain ⟨env, st'⟩ := s
          cases h1; cases h2
          obtain ⟨q2, q3⟩ := hts t ht
          have g := ih t q2 q3 st'
          generalize evP TT (k + 1) = Φ at g ⊢
          generalize tv t = V at g ⊢
          refine ⟨⟨[.val T, .none, .val V], st'⟩, ?_, rfl, _, _, rfl⟩
          simp [g]) ⟨[.val T, .none, .none], st⟩ ⟨rfl, _, _, rfl⟩
      obtain ⟨env, st'⟩ := s'
      cases c2; cases c3
      exact ⟨x, y, c1⟩
    have eq : ∀ ts : List Tst, 1 + mx (ts.map fun t => (dep t : Int)) = ((deps ts + 1 : Nat) : Int) := fun ts => by
      have := mx_deps ts 0
      unfold mx
      rw [show ((0 : Nat) : Int) = 0 from rfl] at this
      rw [this]
      omega
    cases t with
    | most r m => simp only [tv]; exact r50m
    | div d r m => simp only [tv]; exact r50d
    | not t =>
      simp only [dep] at hd
      simp only [cnt] at hc
      obtain ⟨x, y, e⟩ := comp (.tup [.str "not", tv t]) (.tup [tv t]) [t] (fun u hu => by
        rw [List.mem_singleton] at hu; subst hu; exact ⟨by omega, by omega⟩)
      have q := r50n e (by simp) (bi_max0 (fun t => (dep t : Int)) [t])
      rw [eq] at q
      simp only [tv]
      rw [q]
      simp only [deps, dep]
      rw [Nat.max_zero]
    | knot a ts =>
      simp only [dep] at hd
      simp only [cnt] at hc
      have hl := cnt_len ts
      have cc := fun T P => comp T P ts (fun u hu => ⟨by have := dep_mem hu; omega, by have := cnt_mem hu; omega⟩)
      simp only [tv, dep, tvs_map]
      rw [← eq]
      cases a with
      | true =>
        obtain ⟨x, y, e⟩ := cc (.tup [.str "and", .tup (ts.map tv)]) (.tup (ts.map tv))
        rw [if_pos rfl]
        exact r50k (by decide +kernel) (by decide +kernel) s3 e (by rw [List.length_map]; omega) (bi_max0 (fun t => (dep t : Int)) ts)
      | false =>
        obtain ⟨x, y, e⟩ := cc (.tup [.str "or", .tup (ts.map tv)]) (.tup (ts.map tv))
        rw [if_neg (by decide)]
        exact r50k (by decide +kernel) (by decide +kernel) s4 e (by rw [List.length_map]; omega) (bi_max0 (fun t => (dep t : Int)) ts)
/-! ### greatest_in -/

/-! ### _law_joined -/
section
variable {Φ : Orc} {T U V E D L Mo A B C : PV} {q q2 : Int} {d : Int} {st st1 st2 st3 st4 st5 st6 st7 : List Cell} {vs ws : List PV} {a b a' b' : Sl}
abbrev L17 (T E : PV) : List PV := [T, T, T, T, T, T, T, T, T, T, .tup [.str "and", .tup [T]], .tup [.str "or", .tup [T]], .tup [.str "or", .tup [T, E]], .tup [.str "and", .tup [E, T, E]], .tup [.str "not", T], .tup [.str "or", .tup [E, .tup [.str "not", T]]], E]
theorem r51 (h1 : Φ 41 [.box 0, .lst [.str "and", .str "or"]] st = .ok (.val V) st1) (h2 : Φ 41 [.box 0, .lst (L17 T (.tup [V, .tup []]))] st1 = .ok (.val U) st2) (h3 : Φ 50 [U] st2 = .ok (.val (.int d)) st2) :
    finO (m51 Φ ⟨[.val (.box 0), .val T, .none, .none, .none], st⟩) = .ok (.val (if d < 7 then U else T)) st2 := by
  have e : repOk 1 10 = true := by decide
  unfold m51
  by_cases q : d < 7 <;> simp [h1, h2, h3, e, q]
theorem r48 (h1 : Φ 41 [.box 0, .lst [.lst [], .lst [.int 2], .lst [.int 3], .lst [.int 2, .int 3]]] st = .ok (.val D) st1) (h2 : Φ 40 [.box 0, .int 3] st1 = .ok (.val (.int q)) st2) (h3 : Φ 41 [.box 0, .lst [.int 1, .int 2, .int 3]] st2 = .ok (.val L) st3) (h4 : Φ 47 [.box 0, .int 2, .int (2 + q), L, .int 6, D] st3 = .ok (.val T) st4) :
    finO (m48 Φ ⟨[.val (.box 0), .val (.int 2), .val (.int 0), .none, .none, .none, .none, .none], st⟩) = .ok (.val (.tup [.int 2, .tup [], T])) st4 := by
  unfold m48
  simp [h1, h2, h3, h4]
theorem r52a (h0 : Φ 40 [.box 0, .int 2] st = .ok (.val (.int 0)) st1) (h1 : Φ 48 [.box 0, .int 2, .int 0] st1 = .ok (.val (.tup [.int 2, .tup [], T])) st2) (h2 : Φ 51 [.box 0, T] st2 = .ok (.val U) st3) :
    finO (m52 Φ ⟨[.val (.box 0), .val (.int 2), .none, .none, .none, .none, .none, .none, .none, .none, .none], st⟩) = .ok (.val (.tup [.int 2, .tup [], U])) st3 := by
  have e : cutP [PV.int 2, PV.tup [], T] none (some 2) = [PV.int 2, PV.tup []] := rfl
  unfold m52
  simp [h0, h1, h2, e]
abbrev DD : List PV := [.lst [], .lst [.int 3], .lst [.int 4], .lst [.int 5], .lst [.int 6], .lst [.int 2, .int 4], .lst [.int 2, .int 3, .int 6]]
theorem r52b (h0 : Φ 40 [.box 0, .int 2] st = .ok (.val (.int q)) st1) (hq : q ≠ 0) (h1 : Φ 41 [.box 0, .lst DD] st1 = .ok (.val D) st2) (h2 : Φ 41 [.box 0, .lst [.int 1, .int 2, .int 3]] st2 = .ok (.val L) st3) (h3 : Φ 41 [.box 0, .lst [.int 6, .int 20, .int 20]] st3 = .ok (.val Mo) st4)
    (h4 : Φ 40 [.box 0, .int 2] st4 = .ok (.val (.int 0)) st5) (h5 : Φ 40 [.box 0, .int 3] st5 = .ok (.val (.int q2)) st6) (h6 : Φ 47 [.box 0, .int 2, .int (2 + q2), L, Mo, D] st6 = .ok (.val T) st7) {st8 : List Cell} (h7 : Φ 51 [.box 0, T] st7 = .ok (.val U) st8) :
    finO (m52 Φ ⟨[.val (.box 0), .val (.int 2), .none, .none, .none, .none, .none, .none, .none, .none, .none], st⟩) = .ok (.val (.tup [.int 2, .tup [], U])) st8 := by
  unfold m52
  simp [h0, hq, h1, h2, h3, h4, h5, h6, h7]
abbrev elt46' (Φ : Orc) : M RE := (xCall Φ 46 [(rdSlot 0), (rdSlot 1), (rdSlot 4), (rdSlot 5), (rdSlot 3)])
abbrev eltN (Φ : Orc) : M RE := (xIf (bnd (xCmp .Eq (xCall Φ 40 [(rdSlot 0), (ret (.val (.int (6))))]) (ret (.val (.int (0))))) asBool) (xTup [(ret (.val (.str "not"))), (rdSlot 10)]) (rdSlot 10))
theorem r52c {q3 : Int} {st8 st9 sta : List Cell} (h0 : Φ 40 [.box 0, .int 2] st = .ok (.val (.int q)) st1) (hq : q ≠ 0) (h1 : Φ 41 [.box 0, .lst DD] st1 = .ok (.val D) st2) (h2 : Φ 41 [.box 0, .lst [.int 1, .int 2, .int 3]] st2 = .ok (.val L) st3) (h3 : Φ 41 [.box 0, .lst [.int 6, .int 20, .int 20]] st3 = .ok (.val Mo) st4)
    (h4 : Φ 40 [.box 0, .int 2] st4 = .ok (.val (.int q2)) st5) (hq2 : q2 ≠ 0) (h5 : Φ 40 [.box 0, .int 4] st5 = .ok (.val (.int q3)) st6) (hr : rngOk (3 + q3) = true)
    (c1 : compGo [8, 9] (setSlot 9) (ret true) (elt46' Φ) true (rngP 0 (3 + q3)) ⟨[.val (.box 0), .val (.int 2), .none, .val D, .val L, .val Mo, .none, .none, .none, .none, .none], st6⟩ = .ok vs ⟨[.val (.box 0), .val (.int 2), .none, .val D, .val L, .val Mo, .none, .none, a, b, .none], st7⟩) (hl : vs.length ≤ 16777216)
    (h6 : Φ 41 [.box 0, .lst [.str "and", .str "and", .str "or"]] st7 = .ok (.val V) st8)
    (c2 : compGo [8, 10] (setSlot 10) (ret true) (eltN Φ) true vs ⟨[.val (.box 0), .val (.int 2), .none, .val D, .val L, .val Mo, .val (.lst vs), .none, .none, .none, .none], st8⟩ = .ok ws ⟨[.val (.box 0), .val (.int 2), .none, .val D, .val L, .val Mo, .val (.lst vs), .none, a', .none, b'], st9⟩) (hl2 : ws.length ≤ 16777216)
    (h7 : Φ 51 [.box 0, .tup [V, .tup ws]] st9 = .ok (.val U) sta) :
    finO (m52 Φ ⟨[.val (.box 0), .val (.int 2), .none, .none, .none, .none, .none, .none, .none, .none, .none], st⟩) = .ok (.val (.tup [.int 2, .tup [], U])) sta := by
  unfold m52
  simp [h0, hq, h1, h2, h3, h4, hq2, h5, hr, c1, hl, h6, c2, hl2, h7]
end
end Ev

set_option linter.all false
set_option maxRecDepth 100000
set_option maxHeartbeats 1000000
namespace Ev
open PySem PySem.Spec L2
theorem f51 (k : Nat) {n : Nat} {D : List Int} {t : Tst} (hs : Sml n D t) (hd : dep t ≤ 6) (hl : (lvs t).length ≤ 6) (hc : cnt t ≤ 90) (st : List Cell) (hcu : Cups st) :
    ∃ (u : Tst) (st' : List Cell), evP TT (k + 12) 51 [.box 0, tv t] st = .ok (.val (tv u)) st' ∧ Sml n D u ∧ dep u ≤ 6 ∧ (lvs u).length ≤ 6 ∧ cnt u ≤ 100 ∧ Cups st' := by
  rw [p51]
  obtain ⟨V, t1, e1, hV, hc1⟩ := fsome (k + 9) [.str "and", .str "or"] (by simp) (by simp) st hcu
  obtain ⟨g, rfl⟩ : ∃ g : Bool, V = .str (if g then "and" else "or") := by
    simp only [List.mem_cons, List.not_mem_nil, or_false] at hV
    rcases hV with rfl | rfl
    · exact ⟨true, rfl⟩
    · exact ⟨false, rfl⟩
  have eE : PV.tup [.str (if g then "and" else "or"), .tup []] = tv (.knot g []) := by simp only [tv, tvs]
  obtain ⟨U, t2, e2, hU, hc2⟩ := fsome (k + 9) (L17 (tv t) (.tup [.str (if g then "and" else "or"), .tup []])) (by simp) (by simp) t1 hc1
  have key : ∃ u : Tst, U = tv u ∧ Sml n D u ∧ dep u ≤ 9 ∧ (lvs u).length ≤ 6 ∧ cnt u ≤ 100 := by
    rw [eE] at hU
    have base : ∃ u : Tst, tv t = tv u ∧ Sml n D u ∧ dep u ≤ 9 ∧ (lvs u).length ≤ 6 ∧ cnt u ≤ 100 := ⟨t, rfl, hs, by omega, hl, by omega⟩
    simp only [L17, List.mem_cons, List.not_mem_nil, or_false] at hU
    rcases hU with rfl | rfl | rfl | rfl | rfl | rfl | rfl | rfl | rfl | rfl | rfl | rfl | rfl | rfl | rfl | rfl | rfl
    · exact base
    · exact base
    · exact base
    · exact base
    · exact base
    · exact base
    · exact base
    · exact base
    · exact base
    · exact base
    · exact ⟨.knot true [t], by simp only [tv, tvs]; rfl, by simp only [Sml, Smls]; exact ⟨hs, trivial⟩, by simp only [dep, deps]; omega, by simp only [lvs, lvss, List.length_append, List.length_nil]; omega, by simp only [cnt, cnts]; omega⟩
    · exact ⟨.knot false [t], by simp only [tv, tvs]; rfl, by simp only [Sml, Smls]; exact ⟨hs, trivial⟩, by simp only [dep, deps]; omega, by simp only [lvs, lvss, List.length_append, List.length_nil]; omega, by simp only [cnt, cnts]; omega⟩
    · exact ⟨.knot false [t, .knot g []], by simp only [tv, tvs]; rfl, by simp only [Sml, Smls]; exact ⟨hs, trivial, trivial⟩, by simp only [dep, deps]; omega, by simp only [lvs, lvss, List.length_append, List.length_nil]; omega, by simp only [cnt, cnts]; omega⟩
    · exact ⟨.knot true [.knot g [], t, .knot g []], by simp only [tv, tvs]; rfl, by simp only [Sml, Smls]; exact ⟨trivial, hs, trivial, trivial⟩, by simp only [dep, deps]; omega, by simp only [lvs, lvss, List.length_append, List.length_nil]; omega, by simp only [cnt, cnts]; omega⟩
    · exact ⟨.not t, by simp only [tv], by simp only [Sml]; exact hs, by simp only [dep]; omega, by simp only [lvs]; omega, by simp only [cnt]; omega⟩
    · exact ⟨.knot false [.knot g [], .not t], by simp only [tv, tvs]; rfl, by simp only [Sml, Smls]; exact ⟨trivial, hs, trivial⟩, by simp only [dep, deps]; omega, by simp only [lvs, lvss, List.length_append, List.length_nil]; omega, by simp only [cnt, cnts]; omega⟩
    · exact ⟨.knot g [], rfl, by simp only [Sml, Smls], by simp only [dep, deps]; omega, by simp only [lvs, lvss, List.length_nil]; omega, by simp only [cnt, cnts]; omega⟩
  obtain ⟨u, rfl, hsu, hdu, hlu, hcu'⟩ := key
  have g50 := f50 (k + 10) u (by omega) (by omega) t2
  have r := r51 e1 e2 g50
  by_cases q : (dep u : Int) < 7
  · rw [if_pos q] at r
    exact ⟨u, t2, r, hsu, by omega, hlu, hcu', hc2⟩
  · rw [if_neg q] at r
    exact ⟨t, t2, r, hs, hd, hl, by omega, hc2⟩
theorem f48 (k : Nat) (st : List Cell) (hc : Cups st) : ∃ (t : Tst) (D : List Int) (M : Int) (st' : List Cell), evP TT (k + 9) 48 [.box 0, .int 2, .int 0] st = .ok (.val (F2 t)) st' ∧ Dok D M ∧ Sml 2 D t ∧ dep t ≤ 6 ∧ (lvs t).length ≤ 6 ∧ cnt t ≤ 90 ∧ Cups st' := by
  rw [p48]
  obtain ⟨Dv, t1, e1, hD, hc⟩ := fsome (k + 6) [.lst [], .lst [.int 2], .lst [.int 3], .lst [.int 2, .int 3]] (by simp) (by simp) st hc
  obtain ⟨D, M, rfl, hM, hDl⟩ : ∃ (D : List Int) (M : Int), Dv = .lst (D.map .int) ∧ Dok D M ∧ D.length ≤ 100 := by
    simp only [List.mem_cons, List.not_mem_nil, or_false] at hD
    rcases hD with rfl | rfl | rfl | rfl
    · exact ⟨[], 1, rfl, by unfold Dok; decide, by decide⟩
    · exact ⟨[2], 2, rfl, by unfold Dok; decide, by decide⟩
    · exact ⟨[3], 3, rfl, by unfold Dok; decide, by decide⟩
    · exact ⟨[2, 3], 6, rfl, by unfold Dok; decide, by decide⟩
  obtain ⟨q, t2, e2, q0, q1, hc⟩ := froll (k + 7) 3 (by decide) (by decide) t1 hc
  obtain ⟨L, t3, e3, hL, hc⟩ := fsome (k + 6) [.int 1, .int 2, .int 3] (by simp) (by simp) t2 hc
  obtain ⟨l, rfl, l0, l1⟩ : ∃ z : Int, L = .int z ∧ 0 ≤ z ∧ z ≤ 3 := by
    simp only [List.mem_cons, List.not_mem_nil, or_false] at hL
    rcases hL with rfl | rfl | rfl <;> exact ⟨_, rfl, by decide, by decide⟩
  obtain ⟨t, t4, e4, ho, dd, _, ll, cc, hc⟩ := f47 (k + 1) 2 (by omega) l 6 l0 l1 (by decide) (by decide) D hDl 4 (2 + q) t3 (by omega) (by omega) (by decide) hc
  exact ⟨t, D, M, t4, r48 e1 e2 e3 e4, hM, ho, by omega, by omega, by omega, hc⟩
theorem nots {n : Nat} {D : List Int} : ∀ ws : List PV, (∀ w ∈ ws, ∃ t : Tst, w = tv t ∧ Sml n D t ∧ dep t ≤ 2 ∧ cnt t ≤ 2 ∧ (lvs t).length ≤ 1) → ∃ ts : List Tst, ws = tvs ts ∧ Smls n D ts ∧ deps ts ≤ 2 ∧ cnts ts ≤ 2 * ws.length ∧ (lvss ts).length ≤ ws.length
  | [], _ => ⟨[], by simp only [tvs], by simp only [Smls], by simp only [deps]; omega, by simp only [cnts]; omega, by simp only [lvss]; exact Nat.le_refl _⟩
  | w :: ws, h => by
    obtain ⟨t, rfl, a, b, c, d⟩ := h w (List.mem_cons_self ..)
    obtain ⟨ts, rfl, a', b', c', d'⟩ := nots ws fun x hx => h x (List.mem_cons_of_mem _ hx)
    exact ⟨t :: ts, by simp only [tvs], by simp only [Smls]; exact ⟨a, a'⟩, by simp only [deps]; omega, by simp only [cnts, List.length_cons]; omega, by simp only [lvss, List.length_append, List.length_cons]; omega⟩
/-- a drawn formula -/
theorem f52 (k : Nat) (st : List Cell) (hc : Cups st) : ∃ (u : Tst) (st' : List Cell), evP TT (k + 13) 52 [.box 0, .int 2] st = .ok (.val (F2 u)) st' ∧ Drw u ∧ Cups st' := by
  rw [p52]
  obtain ⟨q, t1, e1, _, _, hc⟩ := froll (k + 11) 2 (by decide) (by decide) st hc
  by_cases hq : q = 0
  · subst hq
    obtain ⟨t, D, M, t2, e2, hM, hs, hd, hl, hn, hc⟩ := f48 (k + 3) t1 hc
    obtain ⟨u, t3, e3, us, ud, ul, un, hc⟩ := f51 k hs hd hl hn t2 hc
    exact ⟨u, t3, r52a e1 e2 e3, ⟨⟨D, M, hM, us⟩, ud, un, ul⟩, hc⟩
  · obtain ⟨Dv, t2, e2, hD, hc⟩ := fsome (k + 10) DD (by simp) (by simp) t1 hc
    obtain ⟨D, M, rfl, hM, hDl⟩ : ∃ (D : List Int) (M : Int), Dv = .lst (D.map .int) ∧ Dok D M ∧ D.length ≤ 100 := by
      simp only [DD, List.mem_cons, List.not_mem_nil, or_false] at hD
      rcases hD with rfl | rfl | rfl | rfl | rfl | rfl | rfl
      · exact ⟨[], 1, rfl, by unfold Dok; decide, by decide⟩
      · exact ⟨[3], 3, rfl, by unfold Dok; decide, by decide⟩
      · exact ⟨[4], 4, rfl, by unfold Dok; decide, by decide⟩
      · exact ⟨[5], 5, rfl, by unfold Dok; decide, by decide⟩
      · exact ⟨[6], 6, rfl, by unfold Dok; decide, by decide⟩
      · exact ⟨[2, 4], 4, rfl, by unfold Dok; decide, by decide⟩
      · exact ⟨[2, 3, 6], 6, rfl, by unfold Dok; decide, by decide⟩
    obtain ⟨L, t3, e3, hL, hc⟩ := fsome (k + 10) [.int 1, .int 2, .int 3] (by simp) (by simp) t2 hc
    obtain ⟨l, rfl, l0, l1⟩ : ∃ z : Int, L = .int z ∧ 0 ≤ z ∧ z ≤ 3 := by
      simp only [List.mem_cons, List.not_mem_nil, or_false] at hL
      rcases hL with rfl | rfl | rfl <;> exact ⟨_, rfl, by decide, by decide⟩
    obtain ⟨Mo, t4, e4, hMo, hc⟩ := fsome (k + 10) [.int 6, .int 20, .int 20] (by simp) (by simp) t3 hc
    obtain ⟨m, rfl, m0, m1⟩ : ∃ z : Int, Mo = .int z ∧ 0 ≤ z ∧ z ≤ 20 := by
      simp only [List.mem_cons, List.not_mem_nil, or_false] at hMo
      rcases hMo with rfl | rfl | rfl <;> exact ⟨_, rfl, by decide, by decide⟩
    obtain ⟨q2, t5, e5, _, _, hc⟩ := froll (k + 11) 2 (by decide) (by decide) t4 hc
    by_cases hq2 : q2 = 0
    · subst hq2
      obtain ⟨q3, t6, e6, q30, q31, hc⟩ := froll (k + 11) 3 (by decide) (by decide) t5 hc
      obtain ⟨t, t7, e7, hs, dd, _, ll, cc, hc⟩ := f47 (k + 5) 2 (by omega) l m l0 l1 m0 m1 D hDl 4 (2 + q3) t6 (by omega) (by omega) (by decide) hc
      obtain ⟨u, t8, e8, us, ud, ul, un, hc⟩ := f51 k hs (by omega) (by omega) (by omega) t7 hc
      exact ⟨u, t8, r52b e1 hq e2 e3 e4 e5 e6 e7 e8, ⟨⟨D, M, hM, us⟩, ud, un, ul⟩, hc⟩
    · obtain ⟨q3, t6, e6, q30, q31, hc⟩ := froll (k + 11) 4 (by decide) (by decide) t5 hc
      obtain ⟨N, hN⟩ : ∃ N : Nat, 3 + q3 = N := ⟨(3 + q3).toNat, by omega⟩
      obtain ⟨vs, s', c1, ⟨⟨a, b, c2⟩, c3⟩, c4, c5⟩ := compGo_ex (own := [8, 9]) (tgt := setSlot 9) (tst := ret true) (elt := elt46' (evP TT (k + 12)))
        (I := fun s => (∃ a b, s.env = [.val (.box 0), .val (.int 2), .none, .val (.lst (D.map .int)), .val (.int l), .val (.int m), .none, .none, a, b, .none]) ∧ Cups s.st) (Pv := fun v => ∃ t : Tst, v = tv t ∧ Sml 2 D t ∧ dep t = 1 ∧ cnt t = 1) (rngP 0 N) (fun x hx s ⟨⟨a, b, h1⟩, h2⟩ => by
          obtain ⟨env, st1⟩ := s
          cases h1
          obtain ⟨t, t9, e9, hs, dd, cc, hc⟩ := f46 (k + 9) 2 (by omega) l m l0 l1 m0 m1 D hDl st1 h2
          refine ⟨tv t, ⟨[.val (.box 0), .val (.int 2), .none, .val (.lst (D.map .int)), .val (.int l), .val (.int m), .none, .none, .none, .val x, .none], t9⟩, ?_, ⟨⟨_, _, rfl⟩, hc⟩, t, rfl, hs, dd, cc⟩
          have e9' : evP TT (k + 12) 46 [.box 0, .int 2, .int l, .int m, .lst (D.map .int)] st1 = .ok (.val (tv t)) t9 := e9
          generalize evP TT (k + 12) = Φ at e9' ⊢
          generalize D.map PV.int = DL at e9' ⊢
          generalize tv t = TV at e9' ⊢
          simp [oneM, e9']) ⟨[.val (.box 0), .val (.int 2), .none, .val (.lst (D.map .int)), .val (.int l), .val (.int m), .none, .none, .none, .none, .none], t6⟩ ⟨⟨_, _, rfl⟩, hc⟩
      obtain ⟨env', t7⟩ := s'
      cases c2
      rw [rng_len] at c4
      obtain ⟨V, t8, e8, hV, hc⟩ := fsome (k + 10) [.str "and", .str "and", .str "or"] (by simp) (by simp) t7 c3
      obtain ⟨g, rfl⟩ : ∃ g : Bool, V = .str (if g then "and" else "or") := by
        simp only [List.mem_cons, List.not_mem_nil, or_false] at hV
        rcases hV with rfl | rfl | rfl
        · exact ⟨true, rfl⟩
        · exact ⟨true, rfl⟩
        · exact ⟨false, rfl⟩
      obtain ⟨ws, s', d1, ⟨⟨a', b', d2⟩, d3⟩, d4, d5⟩ := compGo_ex (own := [8, 10]) (tgt := setSlot 10) (tst := ret true) (elt := eltN (evP TT (k + 12)))
        (I := fun s => (∃ a b, s.env = [.val (.box 0), .val (.int 2), .none, .val (.lst (D.map .int)), .val (.int l), .val (.int m), .val (.lst vs), .none, a, .none, b]) ∧ Cups s.st) (Pv := fun v => ∃ t : Tst, v = tv t ∧ Sml 2 D t ∧ dep t ≤ 2 ∧ cnt t ≤ 2 ∧ (lvs t).length ≤ 1) vs (fun x hx s ⟨⟨a, b, h1⟩, h2⟩ => by
          obtain ⟨env, st1⟩ := s
          cases h1
          obtain ⟨t, rfl, hs, dd, cc⟩ := c5 x hx
          obtain ⟨r, t9, e9, _, _, hc⟩ := froll (k + 11) 6 (by decide) (by decide) st1 h2
          have ln := lvs_len t
          have e9' : evP TT (k + 12) 40 [.box 0, .int 6] st1 = .ok (.val (.int r)) t9 := e9
          refine ⟨if r = 0 then .tup [.str "not", tv t] else tv t, ⟨[.val (.box 0), .val (.int 2), .none, .val (.lst (D.map .int)), .val (.int l), .val (.int m), .val (.lst vs), .none, .none, .none, .val (tv t)], t9⟩, ?_, ⟨⟨_, _, rfl⟩, hc⟩, ?_⟩
          · generalize evP TT (k + 12) = Φ at e9' ⊢
            generalize D.map PV.int = DL at e9' ⊢
            generalize tv t = TV at e9' ⊢
            by_cases hr : r = 0 <;> simp [oneM, e9', hr]
          · by_cases hr : r = 0
            · exact ⟨.not t, by rw [if_pos hr, tv], by simp only [Sml]; exact hs, by simp only [dep]; omega, by simp only [cnt]; omega, by simp only [lvs]; omega⟩
            · exact ⟨t, by rw [if_neg hr], hs, by omega, by omega, by omega⟩) ⟨[.val (.box 0), .val (.int 2), .none, .val (.lst (D.map .int)), .val (.int l), .val (.int m), .val (.lst vs), .none, .none, .none, .none], t8⟩ ⟨⟨_, _, rfl⟩, hc⟩
      obtain ⟨env', t9⟩ := s'
      cases d2
      obtain ⟨ts, rfl, ss, sd, sc, sl⟩ := nots ws d5
      have eT : PV.tup [.str (if g then "and" else "or"), .tup (tvs ts)] = tv (.knot g ts) := by simp only [tv]
      obtain ⟨u, t10, e10, us, ud, ul, un, hc⟩ := f51 k (t := .knot g ts) (n := 2) (D := D) (by simp only [Sml]; exact ss) (by simp only [dep]; omega) (by simp only [lvs]; omega) (by simp only [cnt]; omega) t9 d3
      rw [← eT] at e10
      rw [← hN] at c1
      exact ⟨u, t10, r52c e1 hq e2 e3 e4 e5 hq2 e6 (rngOk_s _ (by omega) (by omega)) c1 (by omega) e8 d1 (by omega) e10, ⟨⟨D, M, hM, us⟩, ud, un, ul⟩, hc⟩
end Ev

set_option linter.all false
set_option maxRecDepth 100000
set_option maxHeartbeats 1000000
namespace Ev
open PySem PySem.Spec L2
/-! ### the repr of four -/
def adt : PV → PyData
  | .str s => .str s
  | .int i => .int i
  | _ => .none
theorem toPy_atm {v : PV} (h : Atm v) : toPy v = some (adt v) := by
  rcases h with rfl | rfl | ⟨i, rfl, _⟩ <;> rfl
theorem atm_ok {v : PV} (h : Atm v) : (adt v).showable = true ∧ PyData.leavesShort 64 (adt v) = true ∧ (adt v).bulk ≤ 7 ∧ (adt v).canLay0 = true ∧ (adt v).depth = 0 := by
  rcases h with rfl | rfl | ⟨i, rfl, h1, h2⟩
  · refine ⟨by simp [adt, PyData.showable], by simp [adt, PyData.leavesShort], by simp [adt, PyData.bulk], by simp [adt, PyData.canLay0], by simp [adt, PyData.depth]⟩
  · have e1 : PyData.leavesShort 64 (.str "endless") = true := by decide +kernel
    have e2 : ("endless" : Str).cps.size = 7 := by decide +kernel
    have e0 : PyData.showable (.str "endless") = true := by decide +kernel
    have e3 : PyData.canLay0 (.str "endless") = true := by decide +kernel
    refine ⟨e0, e1, ?_, e3, by simp [adt, PyData.depth]⟩
    simp only [adt, PyData.bulk]; omega
  · have m : Sm13 i := ⟨by omega, by omega⟩
    exact ⟨show13 m, leaf64 m, by simp [adt, PyData.bulk], by simp [adt, PyData.canLay0], by simp [adt, PyData.depth]⟩
theorem repr_four {a b c d : PV} (ha : Atm a) (hb : Atm b) (hc : Atm c) (hd : Atm d) : ∃ s, biV .repr [.tup [a, b, c, d]] = some (.val (.str s)) := by
  have t : toPy (.tup [a, b, c, d]) = some (.tuple [adt a, adt b, adt c, adt d]) := by
    rw [toPy_tup, toPys_cons, toPys_cons, toPys_cons, toPys_cons, toPys_nil, toPy_atm ha, toPy_atm hb, toPy_atm hc, toPy_atm hd]
    rfl
  obtain ⟨a1, a2, a3, a4, a5⟩ := atm_ok ha
  obtain ⟨b1, b2, b3, b4, b5⟩ := atm_ok hb
  obtain ⟨c1, c2, c3, c4, c5⟩ := atm_ok hc
  obtain ⟨d1, d2, d3, d4, d5⟩ := atm_ok hd
  have sh : SeqAt.shaped (.tuple [adt a, adt b, adt c, adt d]) = true := by
    show (PyData.canLay0 _ && decide (PyData.depth _ ≤ 64)) = true
    simp only [PyData.canLay0, PyData.canLayAll0, PyData.depth, PyData.depthAll, a4, b4, c4, d4, a5, b5, c5, d5]
    rfl
  have ok : showOk (.tuple [adt a, adt b, adt c, adt d]) = true := by
    unfold showOk
    rw [sh]
    have q : PyData.bulk (.tuple [adt a, adt b, adt c, adt d]) ≤ 200000 := by
      simp only [PyData.bulk, PyData.bulkAll]; omega
    rw [decide_eq_true q]
    simp only [PyData.showable, PyData.showableAll, PyData.leavesShort, PyData.leavesShortAll, a1, b1, c1, d1, a2, b2, c2, d2]
    simp
  refine ⟨(PyData.tuple [adt a, adt b, adt c, adt d]).shown, ?_⟩
  rw [bi_repr, t]
  show (if showOk _ = true then _ else _) = _
  rw [if_pos ok]
/-! ### the law -/
def lw1 (Φ : Orc) : M Fl := (sSet 1 true (xCall Φ 39 [(rdSlot 0)]))
def lw2 (Φ : Orc) : M Fl := (sSet 2 false (xCall Φ 52 [(rdSlot 1), (ret (.val (.int (2))))]))
def lw3b1 (Φ : Orc) : M Fl := (sSet 4 false (xBin .Sub (xCall Φ 40 [(rdSlot 1), (ret (.val (.int (19))))]) (ret (.val (.int (9))))))
def lw3b2 (Φ : Orc) : M Fl := (sSet 5 false (xTup [(xCall Φ 35 [(rdSlot 2), (rdSlot 4)]), (xCall Φ 36 [(rdSlot 2), (rdSlot 4)]), (xCall Φ 37 [(rdSlot 2), (rdSlot 4)]), (xCall Φ 38 [(rdSlot 2), (rdSlot 4)])]))
def lw3b3 (Φ : Orc) : M Fl := (sIf (bnd (xCmp .NotEq (xBi .repr [(rdSlot 5)]) (xBi .repr [(xCall Φ 49 [(xSub (rdSlot 2) (ret (.val (.int (2))))), (rdSlot 4)])])) asBool) (seqB [(sRet (ret (.val (.bl false))))]) (seqB []))
def lw3bB (Φ : Orc) : M Fl := seqB [lw3b1 Φ, lw3b2 Φ, lw3b3 Φ]
def lw3 (Φ : Orc) : M Fl := (sFor (setSlot 3) (lw3bB Φ) (iRng1 (ret (.val (.int (5))))))
def lw4 (Φ : Orc) : M Fl := (sRet (ret (.val (.bl true))))
def lwB (Φ : Orc) : M Fl := seqB [lw1 Φ, lw2 Φ, lw3 Φ, lw4 Φ]
theorem m53_eq (Φ : Orc) : m53 Φ = lwB Φ := rfl
section
variable {Φ : Orc} {S T A B C D F V : PV} {r a b : Int} {s : Str} {st st1 st2 : List Cell} {x3 x4 x5 : Sl}
theorem lw1r (h : Φ 39 [S] [] = .ok (.fresh (.lst [.int a, .int b])) []) : lw1 Φ ⟨[.val S, .none, .none, .none, .none, .none], []⟩ = .ok .nx ⟨[.val S, .val (.box 0), .none, .none, .none, .none], [.lst [.int a, .int b]]⟩ := by
  unfold lw1; simp [h]
theorem lw2r (h : Φ 52 [.box 0, .int 2] st = .ok (.val F) st1) : lw2 Φ ⟨[.val S, .val (.box 0), .none, .none, .none, .none], st⟩ = .ok .nx ⟨[.val S, .val (.box 0), .val F, .none, .none, .none], st1⟩ := by
  unfold lw2; simp [h]
theorem lw3br (h1 : Φ 40 [.box 0, .int 19] st = .ok (.val (.int r)) st1) (g1 : Φ 35 [.tup [.int 2, .tup [], T], .int (r - 9)] st1 = .ok (.val A) st1) (g2 : Φ 36 [.tup [.int 2, .tup [], T], .int (r - 9)] st1 = .ok (.val B) st1) (g3 : Φ 37 [.tup [.int 2, .tup [], T], .int (r - 9)] st1 = .ok (.val C) st1) (g4 : Φ 38 [.tup [.int 2, .tup [], T], .int (r - 9)] st1 = .ok (.val D) st1)
    (g5 : Φ 49 [T, .int (r - 9)] st1 = .ok (.val (.tup [A, B, C, D])) st1) (hr : biV .repr [.tup [A, B, C, D]] = some (.val (.str s))) :
    lw3bB Φ ⟨[.val S, .val (.box 0), .val (.tup [.int 2, .tup [], T]), x3, x4, x5], st⟩ = .ok .nx ⟨[.val S, .val (.box 0), .val (.tup [.int 2, .tup [], T]), x3, .val (.int (r - 9)), .val (.tup [A, B, C, D])], st1⟩ := by
  unfold lw3bB lw3b1 lw3b2 lw3b3
  simp [-bi_repr, h1, g1, g2, g3, g4, g5, hr]
end
theorem law40 (k : Nat) (ns : List Int) (hl : ns.length ≤ 63) : ∃ st, evP TT (k + 40) 53 [.scr ns] [] = .ok (.val (.bl true)) st := by
  rw [p53, m53_eq]
  obtain ⟨a, b, e1, ha, hb, hb'⟩ := fcup (k + 38) ns [] hl
  obtain ⟨u, st1, e2, hu, hc⟩ := f52 (k + 26) [.lst [.int a, .int b]] ⟨a, b, rfl, ha, hb, hb'⟩
  obtain ⟨D, M, hD, hs⟩ := hu.ex
  obtain ⟨s', e3, x3, x4, x5, st2, rfl, hc2⟩ := forM_acc (tgt := setSlot 3) (body := lw3bB (evP TT (k + 39))) PV.int (fun (u : Unit) _ => u)
    (fun _ s => ∃ x3 x4 x5 st, s = ⟨[.val (.scr ns), .val (.box 0), .val (F2 u), x3, x4, x5], st⟩ ∧ Cups st) (rngN (5 : Int).toNat)
    (fun x hx _ s ⟨x3, x4, x5, st, hs', hc⟩ => by
      subst hs'
      obtain ⟨r, t1, g0, r0, r1, hc⟩ := froll (k + 38) 19 (by decide) (by decide) st hc
      have hn : -1000 ≤ r - 9 ∧ r - 9 ≤ 1000 := by omega
      have hd := hu.dep
      obtain ⟨g5, A1, A2, A3, A4⟩ := f49 (k + 27) hD hs (by omega) hu.cnt (r - 9) hn t1
      obtain ⟨s, hr⟩ := repr_four A1 A2 A3 A4
      exact ⟨⟨[.val (.scr ns), .val (.box 0), .val (F2 u), .val (.int x), x4, x5], st⟩, _, rfl, lw3br g0 (f35 (k + 17) hu (r - 9) hn t1) (f36 (k + 17) hu (r - 9) hn t1) (f37 (k + 17) hu (r - 9) hn t1) (f38 (k + 17) hu (r - 9) hn t1) g5 hr, .val (.int x), .val (.int (r - 9)), _, t1, rfl, hc⟩) () ⟨[.val (.scr ns), .val (.box 0), .val (F2 u), .none, .none, .none], st1⟩ ⟨_, _, _, _, rfl, hc⟩
  refine ⟨st2, ?_⟩
  unfold lwB
  rw [seqB_cons, lw1r e1, bind_ok]; dsimp only
  rw [seqB_cons, lw2r e2, bind_ok]; dsimp only
  have e4 : lw3 (evP TT (k + 39)) ⟨[.val (.scr ns), .val (.box 0), .val (F2 u), .none, .none, .none], st1⟩ = .ok .nx ⟨[.val (.scr ns), .val (.box 0), .val (F2 u), x3, x4, x5], st2⟩ := by
    unfold lw3
    rw [sFor_run, iRng1_run, ret_run, bind_ok, rng1M_run, if_pos (by rfl), bind_ok, rngP_N]
    exact e3
  rw [seqB_cons, e4, bind_ok]; dsimp only
  rfl
theorem math (ns : List Int) (h : ns.length ≤ 63 ∧ ∀ z ∈ ns, Builtin.Int.intBits z ≤ 1048576) : ∃ st, evP (TAB.map DefT.e) 150 53 [.scr ns] [] = .ok (.val (.bl true)) st := law40 110 ns h.1
end Ev

namespace Ev
open PySem PySem.Spec L2
theorem scope_0 : FnScope N0 d0.ps (defScope (top 11)) := ⟨rfl, rfl, rfl, by decide +kernel, rfl, by decide +kernel, by decide +kernel⟩
theorem binds_0 : ∀ (kV dc pm : Value) (an : Option Addr) (cd ct : Value) (us : List Value), us.length = d0.ps.length → bindArgs (PySem.W.fnOf "is_whole" "is_whole" (defArgs (top 11)) (defBody (top 11)) (defScope (top 11)) .none kV dc pm an cd ct) ⟨us, []⟩ = pure (d0.ps.zip us) := fun _ _ _ _ _ _ us hl => match us, hl with | [_, _, _], _ => rfl
theorem scope_1 : FnScope N1 d1.ps (defScope (top 12)) := ⟨rfl, rfl, rfl, by decide +kernel, rfl, by decide +kernel, by decide +kernel⟩
theorem binds_1 : ∀ (kV dc pm : Value) (an : Option Addr) (cd ct : Value) (us : List Value), us.length = d1.ps.length → bindArgs (PySem.W.fnOf "is_tuple_of" "is_tuple_of" (defArgs (top 12)) (defBody (top 12)) (defScope (top 12)) .none kV dc pm an cd ct) ⟨us, []⟩ = pure (d1.ps.zip us) := fun _ _ _ _ _ _ us hl => match us, hl with | [_, _, _], _ => rfl
theorem scope_2 : FnScope N2 d2.ps (defScope (top 13)) := ⟨rfl, rfl, rfl, by decide +kernel, rfl, by decide +kernel, by decide +kernel⟩
theorem binds_2 : ∀ (kV dc pm : Value) (an : Option Addr) (cd ct : Value) (us : List Value), us.length = d2.ps.length → bindArgs (PySem.W.fnOf "fits_row" "fits_row" (defArgs (top 13)) (defBody (top 13)) (defScope (top 13)) .none kV dc pm an cd ct) ⟨us, []⟩ = pure (d2.ps.zip us) := fun _ _ _ _ _ _ us hl => match us, hl with | [_, _], _ => rfl
theorem scope_3 : FnScope N3 d3.ps (defScope (top 14)) := ⟨rfl, rfl, rfl, by decide +kernel, rfl, by decide +kernel, by decide +kernel⟩
theorem binds_3 : ∀ (kV dc pm : Value) (an : Option Addr) (cd ct : Value) (us : List Value), us.length = d3.ps.length → bindArgs (PySem.W.fnOf "fits_leaf" "fits_leaf" (defArgs (top 14)) (defBody (top 14)) (defScope (top 14)) .none kV dc pm an cd ct) ⟨us, []⟩ = pure (d3.ps.zip us) := fun _ _ _ _ _ _ us hl => match us, hl with | [_, _], _ => rfl
theorem scope_4 : FnScope N4 d4.ps (defScope (top 15)) := ⟨rfl, rfl, rfl, by decide +kernel, rfl, by decide +kernel, by decide +kernel⟩
theorem binds_4 : ∀ (kV dc pm : Value) (an : Option Addr) (cd ct : Value) (us : List Value), us.length = d4.ps.length → bindArgs (PySem.W.fnOf "parts_of" "parts_of" (defArgs (top 15)) (defBody (top 15)) (defScope (top 15)) .none kV dc pm an cd ct) ⟨us, []⟩ = pure (d4.ps.zip us) := fun _ _ _ _ _ _ us hl => match us, hl with | [_], _ => rfl
theorem scope_5 : FnScope N5 d5.ps (defScope (top 16)) := ⟨rfl, rfl, rfl, by decide +kernel, rfl, by decide +kernel, by decide +kernel⟩
theorem binds_5 : ∀ (kV dc pm : Value) (an : Option Addr) (cd ct : Value) (us : List Value), us.length = d5.ps.length → bindArgs (PySem.W.fnOf "fits_knot" "fits_knot" (defArgs (top 16)) (defBody (top 16)) (defScope (top 16)) .none kV dc pm an cd ct) ⟨us, []⟩ = pure (d5.ps.zip us) := fun _ _ _ _ _ _ us hl => match us, hl with | [_], _ => rfl
theorem scope_6 : FnScope N6 d6.ps (defScope (top 17)) := ⟨rfl, rfl, rfl, by decide +kernel, rfl, by decide +kernel, by decide +kernel⟩
theorem binds_6 : ∀ (kV dc pm : Value) (an : Option Addr) (cd ct : Value) (us : List Value), us.length = d6.ps.length → bindArgs (PySem.W.fnOf "fits_test" "fits_test" (defArgs (top 17)) (defBody (top 17)) (defScope (top 17)) .none kV dc pm an cd ct) ⟨us, []⟩ = pure (d6.ps.zip us) := fun _ _ _ _ _ _ us hl => match us, hl with | [_, _], _ => rfl
theorem scope_7 : FnScope N7 d7.ps (defScope (top 18)) := ⟨rfl, rfl, rfl, by decide +kernel, rfl, by decide +kernel, by decide +kernel⟩
theorem binds_7 : ∀ (kV dc pm : Value) (an : Option Addr) (cd ct : Value) (us : List Value), us.length = d7.ps.length → bindArgs (PySem.W.fnOf "leaves_of" "leaves_of" (defArgs (top 18)) (defBody (top 18)) (defScope (top 18)) .none kV dc pm an cd ct) ⟨us, []⟩ = pure (d7.ps.zip us) := fun _ _ _ _ _ _ us hl => match us, hl with | [_], _ => rfl
theorem scope_8 : FnScope N8 d8.ps (defScope (top 19)) := ⟨rfl, rfl, rfl, by decide +kernel, rfl, by decide +kernel, by decide +kernel⟩
theorem binds_8 : ∀ (kV dc pm : Value) (an : Option Addr) (cd ct : Value) (us : List Value), us.length = d8.ps.length → bindArgs (PySem.W.fnOf "sum_at" "sum_at" (defArgs (top 19)) (defBody (top 19)) (defScope (top 19)) .none kV dc pm an cd ct) ⟨us, []⟩ = pure (d8.ps.zip us) := fun _ _ _ _ _ _ us hl => match us, hl with | [_, _], _ => rfl
theorem scope_9 : FnScope N9 d9.ps (defScope (top 20)) := ⟨rfl, rfl, rfl, by decide +kernel, rfl, by decide +kernel, by decide +kernel⟩
theorem binds_9 : ∀ (kV dc pm : Value) (an : Option Addr) (cd ct : Value) (us : List Value), us.length = d9.ps.length → bindArgs (PySem.W.fnOf "leaf_at" "leaf_at" (defArgs (top 20)) (defBody (top 20)) (defScope (top 20)) .none kV dc pm an cd ct) ⟨us, []⟩ = pure (d9.ps.zip us) := fun _ _ _ _ _ _ us hl => match us, hl with | [_, _], _ => rfl
theorem scope_10 : FnScope N10 d10.ps (defScope (top 21)) := ⟨rfl, rfl, rfl, by decide +kernel, rfl, by decide +kernel, by decide +kernel⟩
theorem binds_10 : ∀ (kV dc pm : Value) (an : Option Addr) (cd ct : Value) (us : List Value), us.length = d10.ps.length → bindArgs (PySem.W.fnOf "test_at" "test_at" (defArgs (top 21)) (defBody (top 21)) (defScope (top 21)) .none kV dc pm an cd ct) ⟨us, []⟩ = pure (d10.ps.zip us) := fun _ _ _ _ _ _ us hl => match us, hl with | [_, _], _ => rfl
theorem scope_11 : FnScope N11 d11.ps (defScope (top 31)) := ⟨rfl, rfl, rfl, by decide +kernel, rfl, by decide +kernel, by decide +kernel⟩
theorem binds_11 : ∀ (kV dc pm : Value) (an : Option Addr) (cd ct : Value) (us : List Value), us.length = d11.ps.length → bindArgs (PySem.W.fnOf "common_divisor" "common_divisor" (defArgs (top 31)) (defBody (top 31)) (defScope (top 31)) .none kV dc pm an cd ct) ⟨us, []⟩ = pure (d11.ps.zip us) := fun _ _ _ _ _ _ us hl => match us, hl with | [_, _], _ => rfl
theorem scope_12 : FnScope N12 d12.ps (defScope (top 32)) := ⟨rfl, rfl, rfl, by decide +kernel, rfl, by decide +kernel, by decide +kernel⟩
theorem binds_12 : ∀ (kV dc pm : Value) (an : Option Addr) (cd ct : Value) (us : List Value), us.length = d12.ps.length → bindArgs (PySem.W.fnOf "common_multiple" "common_multiple" (defArgs (top 32)) (defBody (top 32)) (defScope (top 32)) .none kV dc pm an cd ct) ⟨us, []⟩ = pure (d12.ps.zip us) := fun _ _ _ _ _ _ us hl => match us, hl with | [_], _ => rfl
theorem scope_13 : FnScope N13 d13.ps (defScope (top 33)) := ⟨rfl, rfl, rfl, by decide +kernel, rfl, by decide +kernel, by decide +kernel⟩
theorem binds_13 : ∀ (kV dc pm : Value) (an : Option Addr) (cd ct : Value) (us : List Value), us.length = d13.ps.length → bindArgs (PySem.W.fnOf "divisors_in" "divisors_in" (defArgs (top 33)) (defBody (top 33)) (defScope (top 33)) .none kV dc pm an cd ct) ⟨us, []⟩ = pure (d13.ps.zip us) := fun _ _ _ _ _ _ us hl => match us, hl with | [_], _ => rfl
theorem scope_14 : FnScope N14 d14.ps (defScope (top 34)) := ⟨rfl, rfl, rfl, by decide +kernel, rfl, by decide +kernel, by decide +kernel⟩
theorem binds_14 : ∀ (kV dc pm : Value) (an : Option Addr) (cd ct : Value) (us : List Value), us.length = d14.ps.length → bindArgs (PySem.W.fnOf "period_of" "period_of" (defArgs (top 34)) (defBody (top 34)) (defScope (top 34)) .none kV dc pm an cd ct) ⟨us, []⟩ = pure (d14.ps.zip us) := fun _ _ _ _ _ _ us hl => match us, hl with | [_], _ => rfl
theorem scope_15 : FnScope N15 d15.ps (defScope (top 35)) := ⟨rfl, rfl, rfl, by decide +kernel, rfl, by decide +kernel, by decide +kernel⟩
theorem binds_15 : ∀ (kV dc pm : Value) (an : Option Addr) (cd ct : Value) (us : List Value), us.length = d15.ps.length → bindArgs (PySem.W.fnOf "row_of" "row_of" (defArgs (top 35)) (defBody (top 35)) (defScope (top 35)) .none kV dc pm an cd ct) ⟨us, []⟩ = pure (d15.ps.zip us) := fun _ _ _ _ _ _ us hl => match us, hl with | [_], _ => rfl
theorem scope_16 : FnScope N16 d16.ps (defScope (top 36)) := ⟨rfl, rfl, rfl, by decide +kernel, rfl, by decide +kernel, by decide +kernel⟩
theorem binds_16 : ∀ (kV dc pm : Value) (an : Option Addr) (cd ct : Value) (us : List Value), us.length = d16.ps.length → bindArgs (PySem.W.fnOf "is_small_leaf" "is_small_leaf" (defArgs (top 36)) (defBody (top 36)) (defScope (top 36)) .none kV dc pm an cd ct) ⟨us, []⟩ = pure (d16.ps.zip us) := fun _ _ _ _ _ _ us hl => match us, hl with | [_], _ => rfl
theorem scope_17 : FnScope N17 d17.ps (defScope (top 37)) := ⟨rfl, rfl, rfl, by decide +kernel, rfl, by decide +kernel, by decide +kernel⟩
theorem binds_17 : ∀ (kV dc pm : Value) (an : Option Addr) (cd ct : Value) (us : List Value), us.length = d17.ps.length → bindArgs (PySem.W.fnOf "height_of" "height_of" (defArgs (top 37)) (defBody (top 37)) (defScope (top 37)) .none kV dc pm an cd ct) ⟨us, []⟩ = pure (d17.ps.zip us) := fun _ _ _ _ _ _ us hl => match us, hl with | [_], _ => rfl
theorem scope_18 : FnScope N18 d18.ps (defScope (top 38)) := ⟨rfl, rfl, rfl, by decide +kernel, rfl, by decide +kernel, by decide +kernel⟩
theorem binds_18 : ∀ (kV dc pm : Value) (an : Option Addr) (cd ct : Value) (us : List Value), us.length = d18.ps.length → bindArgs (PySem.W.fnOf "fits_formula" "fits_formula" (defArgs (top 38)) (defBody (top 38)) (defScope (top 38)) .none kV dc pm an cd ct) ⟨us, []⟩ = pure (d18.ps.zip us) := fun _ _ _ _ _ _ us hl => match us, hl with | [_], _ => rfl
theorem scope_19 : FnScope N19 d19.ps (defScope (top 41)) := ⟨rfl, rfl, rfl, by decide +kernel, rfl, by decide +kernel, by decide +kernel⟩
theorem binds_19 : ∀ (kV dc pm : Value) (an : Option Addr) (cd ct : Value) (us : List Value), us.length = d19.ps.length → bindArgs (PySem.W.fnOf "need_integer" "need_integer" (defArgs (top 41)) (defBody (top 41)) (defScope (top 41)) .none kV dc pm an cd ct) ⟨us, []⟩ = pure (d19.ps.zip us) := fun _ _ _ _ _ _ us hl => match us, hl with | [_], _ => rfl
theorem scope_20 : FnScope N20 d20.ps (defScope (top 43)) := ⟨rfl, rfl, rfl, by decide +kernel, rfl, by decide +kernel, by decide +kernel⟩
theorem binds_20 : ∀ (kV dc pm : Value) (an : Option Addr) (cd ct : Value) (us : List Value), us.length = d20.ps.length → bindArgs (PySem.W.fnOf "need_two" "need_two" (defArgs (top 43)) (defBody (top 43)) (defScope (top 43)) .none kV dc pm an cd ct) ⟨us, []⟩ = pure (d20.ps.zip us) := fun _ _ _ _ _ _ us hl => match us, hl with | [_], _ => rfl
theorem scope_21 : FnScope N21 d21.ps (defScope (top 44)) := ⟨rfl, rfl, rfl, by decide +kernel, rfl, by decide +kernel, by decide +kernel⟩
theorem binds_21 : ∀ (kV dc pm : Value) (an : Option Addr) (cd ct : Value) (us : List Value), us.length = d21.ps.length → bindArgs (PySem.W.fnOf "need_counted" "need_counted" (defArgs (top 44)) (defBody (top 44)) (defScope (top 44)) .none kV dc pm an cd ct) ⟨us, []⟩ = pure (d21.ps.zip us) := fun _ _ _ _ _ _ us hl => match us, hl with | [_], _ => rfl
theorem scope_22 : FnScope N22 d22.ps (defScope (top 45)) := ⟨rfl, rfl, rfl, by decide +kernel, rfl, by decide +kernel, by decide +kernel⟩
theorem binds_22 : ∀ (kV dc pm : Value) (an : Option Addr) (cd ct : Value) (us : List Value), us.length = d22.ps.length → bindArgs (PySem.W.fnOf "cells_of" "cells_of" (defArgs (top 45)) (defBody (top 45)) (defScope (top 45)) .none kV dc pm an cd ct) ⟨us, []⟩ = pure (d22.ps.zip us) := fun _ _ _ _ _ _ us hl => match us, hl with | [_], _ => rfl
theorem scope_23 : FnScope N23 d23.ps (defScope (top 46)) := ⟨rfl, rfl, rfl, by decide +kernel, rfl, by decide +kernel, by decide +kernel⟩
theorem binds_23 : ∀ (kV dc pm : Value) (an : Option Addr) (cd ct : Value) (us : List Value), us.length = d23.ps.length → bindArgs (PySem.W.fnOf "first_member" "first_member" (defArgs (top 46)) (defBody (top 46)) (defScope (top 46)) .none kV dc pm an cd ct) ⟨us, []⟩ = pure (d23.ps.zip us) := fun _ _ _ _ _ _ us hl => match us, hl with | [_, _, _, _], _ => rfl
theorem scope_24 : FnScope N24 d24.ps (defScope (top 47)) := ⟨rfl, rfl, rfl, by decide +kernel, rfl, by decide +kernel, by decide +kernel⟩
theorem binds_24 : ∀ (kV dc pm : Value) (an : Option Addr) (cd ct : Value) (us : List Value), us.length = d24.ps.length → bindArgs (PySem.W.fnOf "last_member" "last_member" (defArgs (top 47)) (defBody (top 47)) (defScope (top 47)) .none kV dc pm an cd ct) ⟨us, []⟩ = pure (d24.ps.zip us) := fun _ _ _ _ _ _ us hl => match us, hl with | [_, _, _, _], _ => rfl
theorem scope_25 : FnScope N25 d25.ps (defScope (top 48)) := ⟨rfl, rfl, rfl, by decide +kernel, rfl, by decide +kernel, by decide +kernel⟩
theorem binds_25 : ∀ (kV dc pm : Value) (an : Option Addr) (cd ct : Value) (us : List Value), us.length = d25.ps.length → bindArgs (PySem.W.fnOf "flips_of" "flips_of" (defArgs (top 48)) (defBody (top 48)) (defScope (top 48)) .none kV dc pm an cd ct) ⟨us, []⟩ = pure (d25.ps.zip us) := fun _ _ _ _ _ _ us hl => match us, hl with | [_, _], _ => rfl
theorem scope_26 : FnScope N26 d26.ps (defScope (top 49)) := ⟨rfl, rfl, rfl, by decide +kernel, rfl, by decide +kernel, by decide +kernel⟩
theorem binds_26 : ∀ (kV dc pm : Value) (an : Option Addr) (cd ct : Value) (us : List Value), us.length = d26.ps.length → bindArgs (PySem.W.fnOf "true_cells" "true_cells" (defArgs (top 49)) (defBody (top 49)) (defScope (top 49)) .none kV dc pm an cd ct) ⟨us, []⟩ = pure (d26.ps.zip us) := fun _ _ _ _ _ _ us hl => match us, hl with | [_, _], _ => rfl
theorem scope_27 : FnScope N27 d27.ps (defScope (top 50)) := ⟨rfl, rfl, rfl, by decide +kernel, rfl, by decide +kernel, by decide +kernel⟩
theorem binds_27 : ∀ (kV dc pm : Value) (an : Option Addr) (cd ct : Value) (us : List Value), us.length = d27.ps.length → bindArgs (PySem.W.fnOf "count_last" "count_last" (defArgs (top 50)) (defBody (top 50)) (defScope (top 50)) .none kV dc pm an cd ct) ⟨us, []⟩ = pure (d27.ps.zip us) := fun _ _ _ _ _ _ us hl => match us, hl with | [_, _], _ => rfl
theorem scope_28 : FnScope N28 d28.ps (defScope (top 51)) := ⟨rfl, rfl, rfl, by decide +kernel, rfl, by decide +kernel, by decide +kernel⟩
theorem binds_28 : ∀ (kV dc pm : Value) (an : Option Addr) (cd ct : Value) (us : List Value), us.length = d28.ps.length → bindArgs (PySem.W.fnOf "least_last" "least_last" (defArgs (top 51)) (defBody (top 51)) (defScope (top 51)) .none kV dc pm an cd ct) ⟨us, []⟩ = pure (d28.ps.zip us) := fun _ _ _ _ _ _ us hl => match us, hl with | [_, _], _ => rfl
theorem scope_29 : FnScope N29 d29.ps (defScope (top 52)) := ⟨rfl, rfl, rfl, by decide +kernel, rfl, by decide +kernel, by decide +kernel⟩
theorem binds_29 : ∀ (kV dc pm : Value) (an : Option Addr) (cd ct : Value) (us : List Value), us.length = d29.ps.length → bindArgs (PySem.W.fnOf "greatest_last" "greatest_last" (defArgs (top 52)) (defBody (top 52)) (defScope (top 52)) .none kV dc pm an cd ct) ⟨us, []⟩ = pure (d29.ps.zip us) := fun _ _ _ _ _ _ us hl => match us, hl with | [_, _], _ => rfl
theorem scope_30 : FnScope N30 d30.ps (defScope (top 53)) := ⟨rfl, rfl, rfl, by decide +kernel, rfl, by decide +kernel, by decide +kernel⟩
theorem binds_30 : ∀ (kV dc pm : Value) (an : Option Addr) (cd ct : Value) (us : List Value), us.length = d30.ps.length → bindArgs (PySem.W.fnOf "nearest_last" "nearest_last" (defArgs (top 53)) (defBody (top 53)) (defScope (top 53)) .none kV dc pm an cd ct) ⟨us, []⟩ = pure (d30.ps.zip us) := fun _ _ _ _ _ _ us hl => match us, hl with | [_, _], _ => rfl
theorem scope_31 : FnScope N31 d31.ps (defScope (top 54)) := ⟨rfl, rfl, rfl, by decide +kernel, rfl, by decide +kernel, by decide +kernel⟩
theorem binds_31 : ∀ (kV dc pm : Value) (an : Option Addr) (cd ct : Value) (us : List Value), us.length = d31.ps.length → bindArgs (PySem.W.fnOf "breaks_of" "breaks_of" (defArgs (top 54)) (defBody (top 54)) (defScope (top 54)) .none kV dc pm an cd ct) ⟨us, []⟩ = pure (d31.ps.zip us) := fun _ _ _ _ _ _ us hl => match us, hl with | [_, _], _ => rfl
theorem scope_32 : FnScope N32 d32.ps (defScope (top 55)) := ⟨rfl, rfl, rfl, by decide +kernel, rfl, by decide +kernel, by decide +kernel⟩
theorem binds_32 : ∀ (kV dc pm : Value) (an : Option Addr) (cd ct : Value) (us : List Value), us.length = d32.ps.length → bindArgs (PySem.W.fnOf "class_sum" "class_sum" (defArgs (top 55)) (defBody (top 55)) (defScope (top 55)) .none kV dc pm an cd ct) ⟨us, []⟩ = pure (d32.ps.zip us) := fun _ _ _ _ _ _ us hl => match us, hl with | [_, _, _, _, _], _ => rfl
theorem scope_33 : FnScope N33 d33.ps (defScope (top 56)) := ⟨rfl, rfl, rfl, by decide +kernel, rfl, by decide +kernel, by decide +kernel⟩
theorem binds_33 : ∀ (kV dc pm : Value) (an : Option Addr) (cd ct : Value) (us : List Value), us.length = d33.ps.length → bindArgs (PySem.W.fnOf "count_pairs" "count_pairs" (defArgs (top 56)) (defBody (top 56)) (defScope (top 56)) .none kV dc pm an cd ct) ⟨us, []⟩ = pure (d33.ps.zip us) := fun _ _ _ _ _ _ us hl => match us, hl with | [_, _], _ => rfl
theorem scope_34 : FnScope N34 d34.ps (defScope (top 57)) := ⟨rfl, rfl, rfl, by decide +kernel, rfl, by decide +kernel, by decide +kernel⟩
theorem binds_34 : ∀ (kV dc pm : Value) (an : Option Addr) (cd ct : Value) (us : List Value), us.length = d34.ps.length → bindArgs (PySem.W.fnOf "count_by" "count_by" (defArgs (top 57)) (defBody (top 57)) (defScope (top 57)) .none kV dc pm an cd ct) ⟨us, []⟩ = pure (d34.ps.zip us) := fun _ _ _ _ _ _ us hl => match us, hl with | [_, _], _ => rfl
theorem scope_35 : FnScope N35 d35.ps (defScope (top 58)) := ⟨rfl, rfl, rfl, by decide +kernel, rfl, by decide +kernel, by decide +kernel⟩
theorem binds_35 : ∀ (kV dc pm : Value) (an : Option Addr) (cd ct : Value) (us : List Value), us.length = d35.ps.length → bindArgs (PySem.W.fnOf "count_at" "count_at" (defArgs (top 58)) (defBody (top 58)) (defScope (top 58)) .none kV dc pm an cd ct) ⟨us, []⟩ = pure (d35.ps.zip us) := fun _ _ _ _ _ _ us hl => match us, hl with | [_, _], _ => rfl
theorem scope_36 : FnScope N36 d36.ps (defScope (top 59)) := ⟨rfl, rfl, rfl, by decide +kernel, rfl, by decide +kernel, by decide +kernel⟩
theorem binds_36 : ∀ (kV dc pm : Value) (an : Option Addr) (cd ct : Value) (us : List Value), us.length = d36.ps.length → bindArgs (PySem.W.fnOf "least_at" "least_at" (defArgs (top 59)) (defBody (top 59)) (defScope (top 59)) .none kV dc pm an cd ct) ⟨us, []⟩ = pure (d36.ps.zip us) := fun _ _ _ _ _ _ us hl => match us, hl with | [_, _], _ => rfl
theorem scope_37 : FnScope N37 d37.ps (defScope (top 60)) := ⟨rfl, rfl, rfl, by decide +kernel, rfl, by decide +kernel, by decide +kernel⟩
theorem binds_37 : ∀ (kV dc pm : Value) (an : Option Addr) (cd ct : Value) (us : List Value), us.length = d37.ps.length → bindArgs (PySem.W.fnOf "greatest_at" "greatest_at" (defArgs (top 60)) (defBody (top 60)) (defScope (top 60)) .none kV dc pm an cd ct) ⟨us, []⟩ = pure (d37.ps.zip us) := fun _ _ _ _ _ _ us hl => match us, hl with | [_, _], _ => rfl
theorem scope_38 : FnScope N38 d38.ps (defScope (top 61)) := ⟨rfl, rfl, rfl, by decide +kernel, rfl, by decide +kernel, by decide +kernel⟩
theorem binds_38 : ∀ (kV dc pm : Value) (an : Option Addr) (cd ct : Value) (us : List Value), us.length = d38.ps.length → bindArgs (PySem.W.fnOf "nearest_at" "nearest_at" (defArgs (top 61)) (defBody (top 61)) (defScope (top 61)) .none kV dc pm an cd ct) ⟨us, []⟩ = pure (d38.ps.zip us) := fun _ _ _ _ _ _ us hl => match us, hl with | [_, _], _ => rfl
theorem scope_39 : FnScope N39 d39.ps (defScope (top 63)) := ⟨rfl, rfl, rfl, by decide +kernel, rfl, by decide +kernel, by decide +kernel⟩
theorem binds_39 : ∀ (kV dc pm : Value) (an : Option Addr) (cd ct : Value) (us : List Value), us.length = d39.ps.length → bindArgs (PySem.W.fnOf "_law_cup" "_law_cup" (defArgs (top 63)) (defBody (top 63)) (defScope (top 63)) .none kV dc pm an cd ct) ⟨us, []⟩ = pure (d39.ps.zip us) := fun _ _ _ _ _ _ us hl => match us, hl with | [_], _ => rfl
theorem scope_40 : FnScope N40 d40.ps (defScope (top 64)) := ⟨rfl, rfl, rfl, by decide +kernel, rfl, by decide +kernel, by decide +kernel⟩
theorem binds_40 : ∀ (kV dc pm : Value) (an : Option Addr) (cd ct : Value) (us : List Value), us.length = d40.ps.length → bindArgs (PySem.W.fnOf "_law_roll" "_law_roll" (defArgs (top 64)) (defBody (top 64)) (defScope (top 64)) .none kV dc pm an cd ct) ⟨us, []⟩ = pure (d40.ps.zip us) := fun _ _ _ _ _ _ us hl => match us, hl with | [_, _], _ => rfl
theorem scope_41 : FnScope N41 d41.ps (defScope (top 65)) := ⟨rfl, rfl, rfl, by decide +kernel, rfl, by decide +kernel, by decide +kernel⟩
theorem binds_41 : ∀ (kV dc pm : Value) (an : Option Addr) (cd ct : Value) (us : List Value), us.length = d41.ps.length → bindArgs (PySem.W.fnOf "_law_some" "_law_some" (defArgs (top 65)) (defBody (top 65)) (defScope (top 65)) .none kV dc pm an cd ct) ⟨us, []⟩ = pure (d41.ps.zip us) := fun _ _ _ _ _ _ us hl => match us, hl with | [_, _], _ => rfl
theorem scope_42 : FnScope N42 d42.ps (defScope (top 66)) := ⟨rfl, rfl, rfl, by decide +kernel, rfl, by decide +kernel, by decide +kernel⟩
theorem binds_42 : ∀ (kV dc pm : Value) (an : Option Addr) (cd ct : Value) (us : List Value), us.length = d42.ps.length → bindArgs (PySem.W.fnOf "_law_leaves" "_law_leaves" (defArgs (top 66)) (defBody (top 66)) (defScope (top 66)) .none kV dc pm an cd ct) ⟨us, []⟩ = pure (d42.ps.zip us) := fun _ _ _ _ _ _ us hl => match us, hl with | [_], _ => rfl
theorem scope_43 : FnScope N43 d43.ps (defScope (top 67)) := ⟨rfl, rfl, rfl, by decide +kernel, rfl, by decide +kernel, by decide +kernel⟩
theorem binds_43 : ∀ (kV dc pm : Value) (an : Option Addr) (cd ct : Value) (us : List Value), us.length = d43.ps.length → bindArgs (PySem.W.fnOf "_law_sum" "_law_sum" (defArgs (top 67)) (defBody (top 67)) (defScope (top 67)) .none kV dc pm an cd ct) ⟨us, []⟩ = pure (d43.ps.zip us) := fun _ _ _ _ _ _ us hl => match us, hl with | [_, _], _ => rfl
theorem scope_44 : FnScope N44 d44.ps (defScope (top 68)) := ⟨rfl, rfl, rfl, by decide +kernel, rfl, by decide +kernel, by decide +kernel⟩
theorem binds_44 : ∀ (kV dc pm : Value) (an : Option Addr) (cd ct : Value) (us : List Value), us.length = d44.ps.length → bindArgs (PySem.W.fnOf "_law_test_at" "_law_test_at" (defArgs (top 68)) (defBody (top 68)) (defScope (top 68)) .none kV dc pm an cd ct) ⟨us, []⟩ = pure (d44.ps.zip us) := fun _ _ _ _ _ _ us hl => match us, hl with | [_, _], _ => rfl
theorem scope_45 : FnScope N45 d45.ps (defScope (top 69)) := ⟨rfl, rfl, rfl, by decide +kernel, rfl, by decide +kernel, by decide +kernel⟩
theorem binds_45 : ∀ (kV dc pm : Value) (an : Option Addr) (cd ct : Value) (us : List Value), us.length = d45.ps.length → bindArgs (PySem.W.fnOf "_law_period" "_law_period" (defArgs (top 69)) (defBody (top 69)) (defScope (top 69)) .none kV dc pm an cd ct) ⟨us, []⟩ = pure (d45.ps.zip us) := fun _ _ _ _ _ _ us hl => match us, hl with | [_], _ => rfl
theorem scope_46 : FnScope N46 d46.ps (defScope (top 70)) := ⟨rfl, rfl, rfl, by decide +kernel, rfl, by decide +kernel, by decide +kernel⟩
theorem binds_46 : ∀ (kV dc pm : Value) (an : Option Addr) (cd ct : Value) (us : List Value), us.length = d46.ps.length → bindArgs (PySem.W.fnOf "_law_leaf" "_law_leaf" (defArgs (top 70)) (defBody (top 70)) (defScope (top 70)) .none kV dc pm an cd ct) ⟨us, []⟩ = pure (d46.ps.zip us) := fun _ _ _ _ _ _ us hl => match us, hl with | [_, _, _, _, _], _ => rfl
theorem scope_47 : FnScope N47 d47.ps (defScope (top 71)) := ⟨rfl, rfl, rfl, by decide +kernel, rfl, by decide +kernel, by decide +kernel⟩
theorem binds_47 : ∀ (kV dc pm : Value) (an : Option Addr) (cd ct : Value) (us : List Value), us.length = d47.ps.length → bindArgs (PySem.W.fnOf "_law_test" "_law_test" (defArgs (top 71)) (defBody (top 71)) (defScope (top 71)) .none kV dc pm an cd ct) ⟨us, []⟩ = pure (d47.ps.zip us) := fun _ _ _ _ _ _ us hl => match us, hl with | [_, _, _, _, _, _], _ => rfl
theorem scope_48 : FnScope N48 d48.ps (defScope (top 72)) := ⟨rfl, rfl, rfl, by decide +kernel, rfl, by decide +kernel, by decide +kernel⟩
theorem binds_48 : ∀ (kV dc pm : Value) (an : Option Addr) (cd ct : Value) (us : List Value), us.length = d48.ps.length → bindArgs (PySem.W.fnOf "_law_formula" "_law_formula" (defArgs (top 72)) (defBody (top 72)) (defScope (top 72)) .none kV dc pm an cd ct) ⟨us, []⟩ = pure (d48.ps.zip us) := fun _ _ _ _ _ _ us hl => match us, hl with | [_, _, _], _ => rfl
theorem scope_49 : FnScope N49 d49.ps (defScope (top 73)) := ⟨rfl, rfl, rfl, by decide +kernel, rfl, by decide +kernel, by decide +kernel⟩
theorem binds_49 : ∀ (kV dc pm : Value) (an : Option Addr) (cd ct : Value) (us : List Value), us.length = d49.ps.length → bindArgs (PySem.W.fnOf "_law_plain" "_law_plain" (defArgs (top 73)) (defBody (top 73)) (defScope (top 73)) .none kV dc pm an cd ct) ⟨us, []⟩ = pure (d49.ps.zip us) := fun _ _ _ _ _ _ us hl => match us, hl with | [_, _], _ => rfl
theorem scope_50 : FnScope N50 d50.ps (defScope (top 74)) := ⟨rfl, rfl, rfl, by decide +kernel, rfl, by decide +kernel, by decide +kernel⟩
theorem binds_50 : ∀ (kV dc pm : Value) (an : Option Addr) (cd ct : Value) (us : List Value), us.length = d50.ps.length → bindArgs (PySem.W.fnOf "_law_deep" "_law_deep" (defArgs (top 74)) (defBody (top 74)) (defScope (top 74)) .none kV dc pm an cd ct) ⟨us, []⟩ = pure (d50.ps.zip us) := fun _ _ _ _ _ _ us hl => match us, hl with | [_], _ => rfl
theorem scope_51 : FnScope N51 d51.ps (defScope (top 75)) := ⟨rfl, rfl, rfl, by decide +kernel, rfl, by decide +kernel, by decide +kernel⟩
theorem binds_51 : ∀ (kV dc pm : Value) (an : Option Addr) (cd ct : Value) (us : List Value), us.length = d51.ps.length → bindArgs (PySem.W.fnOf "_law_joined" "_law_joined" (defArgs (top 75)) (defBody (top 75)) (defScope (top 75)) .none kV dc pm an cd ct) ⟨us, []⟩ = pure (d51.ps.zip us) := fun _ _ _ _ _ _ us hl => match us, hl with | [_, _], _ => rfl
theorem scope_52 : FnScope N52 d52.ps (defScope (top 76)) := ⟨rfl, rfl, rfl, by decide +kernel, rfl, by decide +kernel, by decide +kernel⟩
theorem binds_52 : ∀ (kV dc pm : Value) (an : Option Addr) (cd ct : Value) (us : List Value), us.length = d52.ps.length → bindArgs (PySem.W.fnOf "_law_any_formula" "_law_any_formula" (defArgs (top 76)) (defBody (top 76)) (defScope (top 76)) .none kV dc pm an cd ct) ⟨us, []⟩ = pure (d52.ps.zip us) := fun _ _ _ _ _ _ us hl => match us, hl with | [_, _], _ => rfl
theorem scope_53 : FnScope N53 d53.ps (defScope (top 77)) := ⟨rfl, rfl, rfl, by decide +kernel, rfl, by decide +kernel, by decide +kernel⟩
theorem binds_53 : ∀ (kV dc pm : Value) (an : Option Addr) (cd ct : Value) (us : List Value), us.length = d53.ps.length → bindArgs (PySem.W.fnOf "law" "law" (defArgs (top 77)) (defBody (top 77)) (defScope (top 77)) .none kV dc pm an cd ct) ⟨us, []⟩ = pure (d53.ps.zip us) := fun _ _ _ _ _ _ us hl => match us, hl with | [_], _ => rfl
theorem all_end {l : PySem.W.OpenLaw} {w : World} {K : PySem.W.Frag} {h : Heap} {mg : Str → Option Value} {fa : Addr} (X : K.In h) (G : h.Ns mainGlobals mg) (hfa : mg "law" = some (.ref fa))
    {f0 : Addr} {od0 an0 : Option Addr} {sl0 : Array (Option Value)} {oc0 kV0 dc0 pm0 cd0 ct0 : Value}
    {f1 : Addr} {od1 an1 : Option Addr} {sl1 : Array (Option Value)} {oc1 kV1 dc1 pm1 cd1 ct1 : Value}
    {f2 : Addr} {od2 an2 : Option Addr} {sl2 : Array (Option Value)} {oc2 kV2 dc2 pm2 cd2 ct2 : Value}
    {f3 : Addr} {od3 an3 : Option Addr} {sl3 : Array (Option Value)} {oc3 kV3 dc3 pm3 cd3 ct3 : Value}
    {f4 : Addr} {od4 an4 : Option Addr} {sl4 : Array (Option Value)} {oc4 kV4 dc4 pm4 cd4 ct4 : Value}
    {f5 : Addr} {od5 an5 : Option Addr} {sl5 : Array (Option Value)} {oc5 kV5 dc5 pm5 cd5 ct5 : Value}
    {f6 : Addr} {od6 an6 : Option Addr} {sl6 : Array (Option Value)} {oc6 kV6 dc6 pm6 cd6 ct6 : Value}
    {f7 : Addr} {od7 an7 : Option Addr} {sl7 : Array (Option Value)} {oc7 kV7 dc7 pm7 cd7 ct7 : Value}
    {f8 : Addr} {od8 an8 : Option Addr} {sl8 : Array (Option Value)} {oc8 kV8 dc8 pm8 cd8 ct8 : Value}
    {f9 : Addr} {od9 an9 : Option Addr} {sl9 : Array (Option Value)} {oc9 kV9 dc9 pm9 cd9 ct9 : Value}
    {f10 : Addr} {od10 an10 : Option Addr} {sl10 : Array (Option Value)} {oc10 kV10 dc10 pm10 cd10 ct10 : Value}
    {f11 : Addr} {od11 an11 : Option Addr} {sl11 : Array (Option Value)} {oc11 kV11 dc11 pm11 cd11 ct11 : Value}
    {f12 : Addr} {od12 an12 : Option Addr} {sl12 : Array (Option Value)} {oc12 kV12 dc12 pm12 cd12 ct12 : Value}
    {f13 : Addr} {od13 an13 : Option Addr} {sl13 : Array (Option Value)} {oc13 kV13 dc13 pm13 cd13 ct13 : Value}
    {f14 : Addr} {od14 an14 : Option Addr} {sl14 : Array (Option Value)} {oc14 kV14 dc14 pm14 cd14 ct14 : Value}
    {f15 : Addr} {od15 an15 : Option Addr} {sl15 : Array (Option Value)} {oc15 kV15 dc15 pm15 cd15 ct15 : Value}
    {f16 : Addr} {od16 an16 : Option Addr} {sl16 : Array (Option Value)} {oc16 kV16 dc16 pm16 cd16 ct16 : Value}
    {f17 : Addr} {od17 an17 : Option Addr} {sl17 : Array (Option Value)} {oc17 kV17 dc17 pm17 cd17 ct17 : Value}
    {f18 : Addr} {od18 an18 : Option Addr} {sl18 : Array (Option Value)} {oc18 kV18 dc18 pm18 cd18 ct18 : Value}
    {f19 : Addr} {od19 an19 : Option Addr} {sl19 : Array (Option Value)} {oc19 kV19 dc19 pm19 cd19 ct19 : Value}
    {f20 : Addr} {od20 an20 : Option Addr} {sl20 : Array (Option Value)} {oc20 kV20 dc20 pm20 cd20 ct20 : Value}
    {f21 : Addr} {od21 an21 : Option Addr} {sl21 : Array (Option Value)} {oc21 kV21 dc21 pm21 cd21 ct21 : Value}
    {f22 : Addr} {od22 an22 : Option Addr} {sl22 : Array (Option Value)} {oc22 kV22 dc22 pm22 cd22 ct22 : Value}
    {f23 : Addr} {od23 an23 : Option Addr} {sl23 : Array (Option Value)} {oc23 kV23 dc23 pm23 cd23 ct23 : Value}
    {f24 : Addr} {od24 an24 : Option Addr} {sl24 : Array (Option Value)} {oc24 kV24 dc24 pm24 cd24 ct24 : Value}
    {f25 : Addr} {od25 an25 : Option Addr} {sl25 : Array (Option Value)} {oc25 kV25 dc25 pm25 cd25 ct25 : Value}
    {f26 : Addr} {od26 an26 : Option Addr} {sl26 : Array (Option Value)} {oc26 kV26 dc26 pm26 cd26 ct26 : Value}
    {f27 : Addr} {od27 an27 : Option Addr} {sl27 : Array (Option Value)} {oc27 kV27 dc27 pm27 cd27 ct27 : Value}
    {f28 : Addr} {od28 an28 : Option Addr} {sl28 : Array (Option Value)} {oc28 kV28 dc28 pm28 cd28 ct28 : Value}
    {f29 : Addr} {od29 an29 : Option Addr} {sl29 : Array (Option Value)} {oc29 kV29 dc29 pm29 cd29 ct29 : Value}
    {f30 : Addr} {od30 an30 : Option Addr} {sl30 : Array (Option Value)} {oc30 kV30 dc30 pm30 cd30 ct30 : Value}
    {f31 : Addr} {od31 an31 : Option Addr} {sl31 : Array (Option Value)} {oc31 kV31 dc31 pm31 cd31 ct31 : Value}
    {f32 : Addr} {od32 an32 : Option Addr} {sl32 : Array (Option Value)} {oc32 kV32 dc32 pm32 cd32 ct32 : Value}
    {f33 : Addr} {od33 an33 : Option Addr} {sl33 : Array (Option Value)} {oc33 kV33 dc33 pm33 cd33 ct33 : Value}
    {f34 : Addr} {od34 an34 : Option Addr} {sl34 : Array (Option Value)} {oc34 kV34 dc34 pm34 cd34 ct34 : Value}
    {f35 : Addr} {od35 an35 : Option Addr} {sl35 : Array (Option Value)} {oc35 kV35 dc35 pm35 cd35 ct35 : Value}
    {f36 : Addr} {od36 an36 : Option Addr} {sl36 : Array (Option Value)} {oc36 kV36 dc36 pm36 cd36 ct36 : Value}
    {f37 : Addr} {od37 an37 : Option Addr} {sl37 : Array (Option Value)} {oc37 kV37 dc37 pm37 cd37 ct37 : Value}
    {f38 : Addr} {od38 an38 : Option Addr} {sl38 : Array (Option Value)} {oc38 kV38 dc38 pm38 cd38 ct38 : Value}
    {f39 : Addr} {od39 an39 : Option Addr} {sl39 : Array (Option Value)} {oc39 kV39 dc39 pm39 cd39 ct39 : Value}
    {f40 : Addr} {od40 an40 : Option Addr} {sl40 : Array (Option Value)} {oc40 kV40 dc40 pm40 cd40 ct40 : Value}
    {f41 : Addr} {od41 an41 : Option Addr} {sl41 : Array (Option Value)} {oc41 kV41 dc41 pm41 cd41 ct41 : Value}
    {f42 : Addr} {od42 an42 : Option Addr} {sl42 : Array (Option Value)} {oc42 kV42 dc42 pm42 cd42 ct42 : Value}
    {f43 : Addr} {od43 an43 : Option Addr} {sl43 : Array (Option Value)} {oc43 kV43 dc43 pm43 cd43 ct43 : Value}
    {f44 : Addr} {od44 an44 : Option Addr} {sl44 : Array (Option Value)} {oc44 kV44 dc44 pm44 cd44 ct44 : Value}
    {f45 : Addr} {od45 an45 : Option Addr} {sl45 : Array (Option Value)} {oc45 kV45 dc45 pm45 cd45 ct45 : Value}
    {f46 : Addr} {od46 an46 : Option Addr} {sl46 : Array (Option Value)} {oc46 kV46 dc46 pm46 cd46 ct46 : Value}
    {f47 : Addr} {od47 an47 : Option Addr} {sl47 : Array (Option Value)} {oc47 kV47 dc47 pm47 cd47 ct47 : Value}
    {f48 : Addr} {od48 an48 : Option Addr} {sl48 : Array (Option Value)} {oc48 kV48 dc48 pm48 cd48 ct48 : Value}
    {f49 : Addr} {od49 an49 : Option Addr} {sl49 : Array (Option Value)} {oc49 kV49 dc49 pm49 cd49 ct49 : Value}
    {f50 : Addr} {od50 an50 : Option Addr} {sl50 : Array (Option Value)} {oc50 kV50 dc50 pm50 cd50 ct50 : Value}
    {f51 : Addr} {od51 an51 : Option Addr} {sl51 : Array (Option Value)} {oc51 kV51 dc51 pm51 cd51 ct51 : Value}
    {f52 : Addr} {od52 an52 : Option Addr} {sl52 : Array (Option Value)} {oc52 kV52 dc52 pm52 cd52 ct52 : Value}
    {f53 : Addr} {od53 an53 : Option Addr} {sl53 : Array (Option Value)} {oc53 kV53 dc53 pm53 cd53 ct53 : Value}
    {t0 : Tok}
    {t1 : Tok}
    {t2 : Tok}
    {t3 : Tok}
    {t4 : Tok}
    {t5 : Tok}
    {t6 : Tok}
    {t7 : Tok}
    {t8k0 : Tok}
    {t8k1 : Tok}
    {t8a : Addr} {t8n : Nat} {t8d : Option Addr} {t8s : Array (Option Value)}
    {t9 : Tok}
    {t10 : Tok}
    {t11 : Tok}
    {t12 : Tok}
    {t13 : Tok}
    {t14 : Tok}
    (a0 : PySem.W.nsIn K mainGlobals "is_whole" = some (some (.ref f0))) (l0 : K.lookup f0 = some ⟨oc0, od0, .func (PySem.W.fnOf "is_whole" "is_whole" (defArgs (top 11)) (defBody (top 11)) (defScope (top 11)) .none kV0 dc0 pm0 an0 cd0 ct0), sl0⟩) (c0 : PySem.W.codeIn K cd0 "is_whole" = true) (k0 : PySem.W.keepIn K (.ref f0) = true)
    (a1 : PySem.W.nsIn K mainGlobals "is_tuple_of" = some (some (.ref f1))) (l1 : K.lookup f1 = some ⟨oc1, od1, .func (PySem.W.fnOf "is_tuple_of" "is_tuple_of" (defArgs (top 12)) (defBody (top 12)) (defScope (top 12)) .none kV1 dc1 pm1 an1 cd1 ct1), sl1⟩) (c1 : PySem.W.codeIn K cd1 "is_tuple_of" = true) (k1 : PySem.W.keepIn K (.ref f1) = true)
    (a2 : PySem.W.nsIn K mainGlobals "fits_row" = some (some (.ref f2))) (l2 : K.lookup f2 = some ⟨oc2, od2, .func (PySem.W.fnOf "fits_row" "fits_row" (defArgs (top 13)) (defBody (top 13)) (defScope (top 13)) .none kV2 dc2 pm2 an2 cd2 ct2), sl2⟩) (c2 : PySem.W.codeIn K cd2 "fits_row" = true) (k2 : PySem.W.keepIn K (.ref f2) = true)
    (a3 : PySem.W.nsIn K mainGlobals "fits_leaf" = some (some (.ref f3))) (l3 : K.lookup f3 = some ⟨oc3, od3, .func (PySem.W.fnOf "fits_leaf" "fits_leaf" (defArgs (top 14)) (defBody (top 14)) (defScope (top 14)) .none kV3 dc3 pm3 an3 cd3 ct3), sl3⟩) (c3 : PySem.W.codeIn K cd3 "fits_leaf" = true) (k3 : PySem.W.keepIn K (.ref f3) = true)
    (a4 : PySem.W.nsIn K mainGlobals "parts_of" = some (some (.ref f4))) (l4 : K.lookup f4 = some ⟨oc4, od4, .func (PySem.W.fnOf "parts_of" "parts_of" (defArgs (top 15)) (defBody (top 15)) (defScope (top 15)) .none kV4 dc4 pm4 an4 cd4 ct4), sl4⟩) (c4 : PySem.W.codeIn K cd4 "parts_of" = true) (k4 : PySem.W.keepIn K (.ref f4) = true)
    (a5 : PySem.W.nsIn K mainGlobals "fits_knot" = some (some (.ref f5))) (l5 : K.lookup f5 = some ⟨oc5, od5, .func (PySem.W.fnOf "fits_knot" "fits_knot" (defArgs (top 16)) (defBody (top 16)) (defScope (top 16)) .none kV5 dc5 pm5 an5 cd5 ct5), sl5⟩) (c5 : PySem.W.codeIn K cd5 "fits_knot" = true) (k5 : PySem.W.keepIn K (.ref f5) = true)
    (a6 : PySem.W.nsIn K mainGlobals "fits_test" = some (some (.ref f6))) (l6 : K.lookup f6 = some ⟨oc6, od6, .func (PySem.W.fnOf "fits_test" "fits_test" (defArgs (top 17)) (defBody (top 17)) (defScope (top 17)) .none kV6 dc6 pm6 an6 cd6 ct6), sl6⟩) (c6 : PySem.W.codeIn K cd6 "fits_test" = true) (k6 : PySem.W.keepIn K (.ref f6) = true)
    (a7 : PySem.W.nsIn K mainGlobals "leaves_of" = some (some (.ref f7))) (l7 : K.lookup f7 = some ⟨oc7, od7, .func (PySem.W.fnOf "leaves_of" "leaves_of" (defArgs (top 18)) (defBody (top 18)) (defScope (top 18)) .none kV7 dc7 pm7 an7 cd7 ct7), sl7⟩) (c7 : PySem.W.codeIn K cd7 "leaves_of" = true) (k7 : PySem.W.keepIn K (.ref f7) = true)
    (a8 : PySem.W.nsIn K mainGlobals "sum_at" = some (some (.ref f8))) (l8 : K.lookup f8 = some ⟨oc8, od8, .func (PySem.W.fnOf "sum_at" "sum_at" (defArgs (top 19)) (defBody (top 19)) (defScope (top 19)) .none kV8 dc8 pm8 an8 cd8 ct8), sl8⟩) (c8 : PySem.W.codeIn K cd8 "sum_at" = true) (k8 : PySem.W.keepIn K (.ref f8) = true)
    (a9 : PySem.W.nsIn K mainGlobals "leaf_at" = some (some (.ref f9))) (l9 : K.lookup f9 = some ⟨oc9, od9, .func (PySem.W.fnOf "leaf_at" "leaf_at" (defArgs (top 20)) (defBody (top 20)) (defScope (top 20)) .none kV9 dc9 pm9 an9 cd9 ct9), sl9⟩) (c9 : PySem.W.codeIn K cd9 "leaf_at" = true) (k9 : PySem.W.keepIn K (.ref f9) = true)
    (a10 : PySem.W.nsIn K mainGlobals "test_at" = some (some (.ref f10))) (l10 : K.lookup f10 = some ⟨oc10, od10, .func (PySem.W.fnOf "test_at" "test_at" (defArgs (top 21)) (defBody (top 21)) (defScope (top 21)) .none kV10 dc10 pm10 an10 cd10 ct10), sl10⟩) (c10 : PySem.W.codeIn K cd10 "test_at" = true) (k10 : PySem.W.keepIn K (.ref f10) = true)
    (a11 : PySem.W.nsIn K mainGlobals "common_divisor" = some (some (.ref f11))) (l11 : K.lookup f11 = some ⟨oc11, od11, .func (PySem.W.fnOf "common_divisor" "common_divisor" (defArgs (top 31)) (defBody (top 31)) (defScope (top 31)) .none kV11 dc11 pm11 an11 cd11 ct11), sl11⟩) (c11 : PySem.W.codeIn K cd11 "common_divisor" = true) (k11 : PySem.W.keepIn K (.ref f11) = true)
    (a12 : PySem.W.nsIn K mainGlobals "common_multiple" = some (some (.ref f12))) (l12 : K.lookup f12 = some ⟨oc12, od12, .func (PySem.W.fnOf "common_multiple" "common_multiple" (defArgs (top 32)) (defBody (top 32)) (defScope (top 32)) .none kV12 dc12 pm12 an12 cd12 ct12), sl12⟩) (c12 : PySem.W.codeIn K cd12 "common_multiple" = true) (k12 : PySem.W.keepIn K (.ref f12) = true)
    (a13 : PySem.W.nsIn K mainGlobals "divisors_in" = some (some (.ref f13))) (l13 : K.lookup f13 = some ⟨oc13, od13, .func (PySem.W.fnOf "divisors_in" "divisors_in" (defArgs (top 33)) (defBody (top 33)) (defScope (top 33)) .none kV13 dc13 pm13 an13 cd13 ct13), sl13⟩) (c13 : PySem.W.codeIn K cd13 "divisors_in" = true) (k13 : PySem.W.keepIn K (.ref f13) = true)
    (a14 : PySem.W.nsIn K mainGlobals "period_of" = some (some (.ref f14))) (l14 : K.lookup f14 = some ⟨oc14, od14, .func (PySem.W.fnOf "period_of" "period_of" (defArgs (top 34)) (defBody (top 34)) (defScope (top 34)) .none kV14 dc14 pm14 an14 cd14 ct14), sl14⟩) (c14 : PySem.W.codeIn K cd14 "period_of" = true) (k14 : PySem.W.keepIn K (.ref f14) = true)
    (a15 : PySem.W.nsIn K mainGlobals "row_of" = some (some (.ref f15))) (l15 : K.lookup f15 = some ⟨oc15, od15, .func (PySem.W.fnOf "row_of" "row_of" (defArgs (top 35)) (defBody (top 35)) (defScope (top 35)) .none kV15 dc15 pm15 an15 cd15 ct15), sl15⟩) (c15 : PySem.W.codeIn K cd15 "row_of" = true) (k15 : PySem.W.keepIn K (.ref f15) = true)
    (a16 : PySem.W.nsIn K mainGlobals "is_small_leaf" = some (some (.ref f16))) (l16 : K.lookup f16 = some ⟨oc16, od16, .func (PySem.W.fnOf "is_small_leaf" "is_small_leaf" (defArgs (top 36)) (defBody (top 36)) (defScope (top 36)) .none kV16 dc16 pm16 an16 cd16 ct16), sl16⟩) (c16 : PySem.W.codeIn K cd16 "is_small_leaf" = true) (k16 : PySem.W.keepIn K (.ref f16) = true)
    (a17 : PySem.W.nsIn K mainGlobals "height_of" = some (some (.ref f17))) (l17 : K.lookup f17 = some ⟨oc17, od17, .func (PySem.W.fnOf "height_of" "height_of" (defArgs (top 37)) (defBody (top 37)) (defScope (top 37)) .none kV17 dc17 pm17 an17 cd17 ct17), sl17⟩) (c17 : PySem.W.codeIn K cd17 "height_of" = true) (k17 : PySem.W.keepIn K (.ref f17) = true)
    (a18 : PySem.W.nsIn K mainGlobals "fits_formula" = some (some (.ref f18))) (l18 : K.lookup f18 = some ⟨oc18, od18, .func (PySem.W.fnOf "fits_formula" "fits_formula" (defArgs (top 38)) (defBody (top 38)) (defScope (top 38)) .none kV18 dc18 pm18 an18 cd18 ct18), sl18⟩) (c18 : PySem.W.codeIn K cd18 "fits_formula" = true) (k18 : PySem.W.keepIn K (.ref f18) = true)
    (a19 : PySem.W.nsIn K mainGlobals "need_integer" = some (some (.ref f19))) (l19 : K.lookup f19 = some ⟨oc19, od19, .func (PySem.W.fnOf "need_integer" "need_integer" (defArgs (top 41)) (defBody (top 41)) (defScope (top 41)) .none kV19 dc19 pm19 an19 cd19 ct19), sl19⟩) (c19 : PySem.W.codeIn K cd19 "need_integer" = true) (k19 : PySem.W.keepIn K (.ref f19) = true)
    (a20 : PySem.W.nsIn K mainGlobals "need_two" = some (some (.ref f20))) (l20 : K.lookup f20 = some ⟨oc20, od20, .func (PySem.W.fnOf "need_two" "need_two" (defArgs (top 43)) (defBody (top 43)) (defScope (top 43)) .none kV20 dc20 pm20 an20 cd20 ct20), sl20⟩) (c20 : PySem.W.codeIn K cd20 "need_two" = true) (k20 : PySem.W.keepIn K (.ref f20) = true)
    (a21 : PySem.W.nsIn K mainGlobals "need_counted" = some (some (.ref f21))) (l21 : K.lookup f21 = some ⟨oc21, od21, .func (PySem.W.fnOf "need_counted" "need_counted" (defArgs (top 44)) (defBody (top 44)) (defScope (top 44)) .none kV21 dc21 pm21 an21 cd21 ct21), sl21⟩) (c21 : PySem.W.codeIn K cd21 "need_counted" = true) (k21 : PySem.W.keepIn K (.ref f21) = true)
    (a22 : PySem.W.nsIn K mainGlobals "cells_of" = some (some (.ref f22))) (l22 : K.lookup f22 = some ⟨oc22, od22, .func (PySem.W.fnOf "cells_of" "cells_of" (defArgs (top 45)) (defBody (top 45)) (defScope (top 45)) .none kV22 dc22 pm22 an22 cd22 ct22), sl22⟩) (c22 : PySem.W.codeIn K cd22 "cells_of" = true) (k22 : PySem.W.keepIn K (.ref f22) = true)
    (a23 : PySem.W.nsIn K mainGlobals "first_member" = some (some (.ref f23))) (l23 : K.lookup f23 = some ⟨oc23, od23, .func (PySem.W.fnOf "first_member" "first_member" (defArgs (top 46)) (defBody (top 46)) (defScope (top 46)) .none kV23 dc23 pm23 an23 cd23 ct23), sl23⟩) (c23 : PySem.W.codeIn K cd23 "first_member" = true) (k23 : PySem.W.keepIn K (.ref f23) = true)
    (a24 : PySem.W.nsIn K mainGlobals "last_member" = some (some (.ref f24))) (l24 : K.lookup f24 = some ⟨oc24, od24, .func (PySem.W.fnOf "last_member" "last_member" (defArgs (top 47)) (defBody (top 47)) (defScope (top 47)) .none kV24 dc24 pm24 an24 cd24 ct24), sl24⟩) (c24 : PySem.W.codeIn K cd24 "last_member" = true) (k24 : PySem.W.keepIn K (.ref f24) = true)
    (a25 : PySem.W.nsIn K mainGlobals "flips_of" = some (some (.ref f25))) (l25 : K.lookup f25 = some ⟨oc25, od25, .func (PySem.W.fnOf "flips_of" "flips_of" (defArgs (top 48)) (defBody (top 48)) (defScope (top 48)) .none kV25 dc25 pm25 an25 cd25 ct25), sl25⟩) (c25 : PySem.W.codeIn K cd25 "flips_of" = true) (k25 : PySem.W.keepIn K (.ref f25) = true)
    (a26 : PySem.W.nsIn K mainGlobals "true_cells" = some (some (.ref f26))) (l26 : K.lookup f26 = some ⟨oc26, od26, .func (PySem.W.fnOf "true_cells" "true_cells" (defArgs (top 49)) (defBody (top 49)) (defScope (top 49)) .none kV26 dc26 pm26 an26 cd26 ct26), sl26⟩) (c26 : PySem.W.codeIn K cd26 "true_cells" = true) (k26 : PySem.W.keepIn K (.ref f26) = true)
    (a27 : PySem.W.nsIn K mainGlobals "count_last" = some (some (.ref f27))) (l27 : K.lookup f27 = some ⟨oc27, od27, .func (PySem.W.fnOf "count_last" "count_last" (defArgs (top 50)) (defBody (top 50)) (defScope (top 50)) .none kV27 dc27 pm27 an27 cd27 ct27), sl27⟩) (c27 : PySem.W.codeIn K cd27 "count_last" = true) (k27 : PySem.W.keepIn K (.ref f27) = true)
    (a28 : PySem.W.nsIn K mainGlobals "least_last" = some (some (.ref f28))) (l28 : K.lookup f28 = some ⟨oc28, od28, .func (PySem.W.fnOf "least_last" "least_last" (defArgs (top 51)) (defBody (top 51)) (defScope (top 51)) .none kV28 dc28 pm28 an28 cd28 ct28), sl28⟩) (c28 : PySem.W.codeIn K cd28 "least_last" = true) (k28 : PySem.W.keepIn K (.ref f28) = true)
    (a29 : PySem.W.nsIn K mainGlobals "greatest_last" = some (some (.ref f29))) (l29 : K.lookup f29 = some ⟨oc29, od29, .func (PySem.W.fnOf "greatest_last" "greatest_last" (defArgs (top 52)) (defBody (top 52)) (defScope (top 52)) .none kV29 dc29 pm29 an29 cd29 ct29), sl29⟩) (c29 : PySem.W.codeIn K cd29 "greatest_last" = true) (k29 : PySem.W.keepIn K (.ref f29) = true)
    (a30 : PySem.W.nsIn K mainGlobals "nearest_last" = some (some (.ref f30))) (l30 : K.lookup f30 = some ⟨oc30, od30, .func (PySem.W.fnOf "nearest_last" "nearest_last" (defArgs (top 53)) (defBody (top 53)) (defScope (top 53)) .none kV30 dc30 pm30 an30 cd30 ct30), sl30⟩) (c30 : PySem.W.codeIn K cd30 "nearest_last" = true) (k30 : PySem.W.keepIn K (.ref f30) = true)
    (a31 : PySem.W.nsIn K mainGlobals "breaks_of" = some (some (.ref f31))) (l31 : K.lookup f31 = some ⟨oc31, od31, .func (PySem.W.fnOf "breaks_of" "breaks_of" (defArgs (top 54)) (defBody (top 54)) (defScope (top 54)) .none kV31 dc31 pm31 an31 cd31 ct31), sl31⟩) (c31 : PySem.W.codeIn K cd31 "breaks_of" = true) (k31 : PySem.W.keepIn K (.ref f31) = true)
    (a32 : PySem.W.nsIn K mainGlobals "class_sum" = some (some (.ref f32))) (l32 : K.lookup f32 = some ⟨oc32, od32, .func (PySem.W.fnOf "class_sum" "class_sum" (defArgs (top 55)) (defBody (top 55)) (defScope (top 55)) .none kV32 dc32 pm32 an32 cd32 ct32), sl32⟩) (c32 : PySem.W.codeIn K cd32 "class_sum" = true) (k32 : PySem.W.keepIn K (.ref f32) = true)
    (a33 : PySem.W.nsIn K mainGlobals "count_pairs" = some (some (.ref f33))) (l33 : K.lookup f33 = some ⟨oc33, od33, .func (PySem.W.fnOf "count_pairs" "count_pairs" (defArgs (top 56)) (defBody (top 56)) (defScope (top 56)) .none kV33 dc33 pm33 an33 cd33 ct33), sl33⟩) (c33 : PySem.W.codeIn K cd33 "count_pairs" = true) (k33 : PySem.W.keepIn K (.ref f33) = true)
    (a34 : PySem.W.nsIn K mainGlobals "count_by" = some (some (.ref f34))) (l34 : K.lookup f34 = some ⟨oc34, od34, .func (PySem.W.fnOf "count_by" "count_by" (defArgs (top 57)) (defBody (top 57)) (defScope (top 57)) .none kV34 dc34 pm34 an34 cd34 ct34), sl34⟩) (c34 : PySem.W.codeIn K cd34 "count_by" = true) (k34 : PySem.W.keepIn K (.ref f34) = true)
    (a35 : PySem.W.nsIn K mainGlobals "count_at" = some (some (.ref f35))) (l35 : K.lookup f35 = some ⟨oc35, od35, .func (PySem.W.fnOf "count_at" "count_at" (defArgs (top 58)) (defBody (top 58)) (defScope (top 58)) .none kV35 dc35 pm35 an35 cd35 ct35), sl35⟩) (c35 : PySem.W.codeIn K cd35 "count_at" = true) (k35 : PySem.W.keepIn K (.ref f35) = true)
    (a36 : PySem.W.nsIn K mainGlobals "least_at" = some (some (.ref f36))) (l36 : K.lookup f36 = some ⟨oc36, od36, .func (PySem.W.fnOf "least_at" "least_at" (defArgs (top 59)) (defBody (top 59)) (defScope (top 59)) .none kV36 dc36 pm36 an36 cd36 ct36), sl36⟩) (c36 : PySem.W.codeIn K cd36 "least_at" = true) (k36 : PySem.W.keepIn K (.ref f36) = true)
    (a37 : PySem.W.nsIn K mainGlobals "greatest_at" = some (some (.ref f37))) (l37 : K.lookup f37 = some ⟨oc37, od37, .func (PySem.W.fnOf "greatest_at" "greatest_at" (defArgs (top 60)) (defBody (top 60)) (defScope (top 60)) .none kV37 dc37 pm37 an37 cd37 ct37), sl37⟩) (c37 : PySem.W.codeIn K cd37 "greatest_at" = true) (k37 : PySem.W.keepIn K (.ref f37) = true)
    (a38 : PySem.W.nsIn K mainGlobals "nearest_at" = some (some (.ref f38))) (l38 : K.lookup f38 = some ⟨oc38, od38, .func (PySem.W.fnOf "nearest_at" "nearest_at" (defArgs (top 61)) (defBody (top 61)) (defScope (top 61)) .none kV38 dc38 pm38 an38 cd38 ct38), sl38⟩) (c38 : PySem.W.codeIn K cd38 "nearest_at" = true) (k38 : PySem.W.keepIn K (.ref f38) = true)
    (a39 : PySem.W.nsIn K mainGlobals "_law_cup" = some (some (.ref f39))) (l39 : K.lookup f39 = some ⟨oc39, od39, .func (PySem.W.fnOf "_law_cup" "_law_cup" (defArgs (top 63)) (defBody (top 63)) (defScope (top 63)) .none kV39 dc39 pm39 an39 cd39 ct39), sl39⟩) (c39 : PySem.W.codeIn K cd39 "_law_cup" = true) (k39 : PySem.W.keepIn K (.ref f39) = true)
    (a40 : PySem.W.nsIn K mainGlobals "_law_roll" = some (some (.ref f40))) (l40 : K.lookup f40 = some ⟨oc40, od40, .func (PySem.W.fnOf "_law_roll" "_law_roll" (defArgs (top 64)) (defBody (top 64)) (defScope (top 64)) .none kV40 dc40 pm40 an40 cd40 ct40), sl40⟩) (c40 : PySem.W.codeIn K cd40 "_law_roll" = true) (k40 : PySem.W.keepIn K (.ref f40) = true)
    (a41 : PySem.W.nsIn K mainGlobals "_law_some" = some (some (.ref f41))) (l41 : K.lookup f41 = some ⟨oc41, od41, .func (PySem.W.fnOf "_law_some" "_law_some" (defArgs (top 65)) (defBody (top 65)) (defScope (top 65)) .none kV41 dc41 pm41 an41 cd41 ct41), sl41⟩) (c41 : PySem.W.codeIn K cd41 "_law_some" = true) (k41 : PySem.W.keepIn K (.ref f41) = true)
    (a42 : PySem.W.nsIn K mainGlobals "_law_leaves" = some (some (.ref f42))) (l42 : K.lookup f42 = some ⟨oc42, od42, .func (PySem.W.fnOf "_law_leaves" "_law_leaves" (defArgs (top 66)) (defBody (top 66)) (defScope (top 66)) .none kV42 dc42 pm42 an42 cd42 ct42), sl42⟩) (c42 : PySem.W.codeIn K cd42 "_law_leaves" = true) (k42 : PySem.W.keepIn K (.ref f42) = true)
    (a43 : PySem.W.nsIn K mainGlobals "_law_sum" = some (some (.ref f43))) (l43 : K.lookup f43 = some ⟨oc43, od43, .func (PySem.W.fnOf "_law_sum" "_law_sum" (defArgs (top 67)) (defBody (top 67)) (defScope (top 67)) .none kV43 dc43 pm43 an43 cd43 ct43), sl43⟩) (c43 : PySem.W.codeIn K cd43 "_law_sum" = true) (k43 : PySem.W.keepIn K (.ref f43) = true)
    (a44 : PySem.W.nsIn K mainGlobals "_law_test_at" = some (some (.ref f44))) (l44 : K.lookup f44 = some ⟨oc44, od44, .func (PySem.W.fnOf "_law_test_at" "_law_test_at" (defArgs (top 68)) (defBody (top 68)) (defScope (top 68)) .none kV44 dc44 pm44 an44 cd44 ct44), sl44⟩) (c44 : PySem.W.codeIn K cd44 "_law_test_at" = true) (k44 : PySem.W.keepIn K (.ref f44) = true)
    (a45 : PySem.W.nsIn K mainGlobals "_law_period" = some (some (.ref f45))) (l45 : K.lookup f45 = some ⟨oc45, od45, .func (PySem.W.fnOf "_law_period" "_law_period" (defArgs (top 69)) (defBody (top 69)) (defScope (top 69)) .none kV45 dc45 pm45 an45 cd45 ct45), sl45⟩) (c45 : PySem.W.codeIn K cd45 "_law_period" = true) (k45 : PySem.W.keepIn K (.ref f45) = true)
    (a46 : PySem.W.nsIn K mainGlobals "_law_leaf" = some (some (.ref f46))) (l46 : K.lookup f46 = some ⟨oc46, od46, .func (PySem.W.fnOf "_law_leaf" "_law_leaf" (defArgs (top 70)) (defBody (top 70)) (defScope (top 70)) .none kV46 dc46 pm46 an46 cd46 ct46), sl46⟩) (c46 : PySem.W.codeIn K cd46 "_law_leaf" = true) (k46 : PySem.W.keepIn K (.ref f46) = true)
    (a47 : PySem.W.nsIn K mainGlobals "_law_test" = some (some (.ref f47))) (l47 : K.lookup f47 = some ⟨oc47, od47, .func (PySem.W.fnOf "_law_test" "_law_test" (defArgs (top 71)) (defBody (top 71)) (defScope (top 71)) .none kV47 dc47 pm47 an47 cd47 ct47), sl47⟩) (c47 : PySem.W.codeIn K cd47 "_law_test" = true) (k47 : PySem.W.keepIn K (.ref f47) = true)
    (a48 : PySem.W.nsIn K mainGlobals "_law_formula" = some (some (.ref f48))) (l48 : K.lookup f48 = some ⟨oc48, od48, .func (PySem.W.fnOf "_law_formula" "_law_formula" (defArgs (top 72)) (defBody (top 72)) (defScope (top 72)) .none kV48 dc48 pm48 an48 cd48 ct48), sl48⟩) (c48 : PySem.W.codeIn K cd48 "_law_formula" = true) (k48 : PySem.W.keepIn K (.ref f48) = true)
    (a49 : PySem.W.nsIn K mainGlobals "_law_plain" = some (some (.ref f49))) (l49 : K.lookup f49 = some ⟨oc49, od49, .func (PySem.W.fnOf "_law_plain" "_law_plain" (defArgs (top 73)) (defBody (top 73)) (defScope (top 73)) .none kV49 dc49 pm49 an49 cd49 ct49), sl49⟩) (c49 : PySem.W.codeIn K cd49 "_law_plain" = true) (k49 : PySem.W.keepIn K (.ref f49) = true)
    (a50 : PySem.W.nsIn K mainGlobals "_law_deep" = some (some (.ref f50))) (l50 : K.lookup f50 = some ⟨oc50, od50, .func (PySem.W.fnOf "_law_deep" "_law_deep" (defArgs (top 74)) (defBody (top 74)) (defScope (top 74)) .none kV50 dc50 pm50 an50 cd50 ct50), sl50⟩) (c50 : PySem.W.codeIn K cd50 "_law_deep" = true) (k50 : PySem.W.keepIn K (.ref f50) = true)
    (a51 : PySem.W.nsIn K mainGlobals "_law_joined" = some (some (.ref f51))) (l51 : K.lookup f51 = some ⟨oc51, od51, .func (PySem.W.fnOf "_law_joined" "_law_joined" (defArgs (top 75)) (defBody (top 75)) (defScope (top 75)) .none kV51 dc51 pm51 an51 cd51 ct51), sl51⟩) (c51 : PySem.W.codeIn K cd51 "_law_joined" = true) (k51 : PySem.W.keepIn K (.ref f51) = true)
    (a52 : PySem.W.nsIn K mainGlobals "_law_any_formula" = some (some (.ref f52))) (l52 : K.lookup f52 = some ⟨oc52, od52, .func (PySem.W.fnOf "_law_any_formula" "_law_any_formula" (defArgs (top 76)) (defBody (top 76)) (defScope (top 76)) .none kV52 dc52 pm52 an52 cd52 ct52), sl52⟩) (c52 : PySem.W.codeIn K cd52 "_law_any_formula" = true) (k52 : PySem.W.keepIn K (.ref f52) = true)
    (a53 : PySem.W.nsIn K mainGlobals "law" = some (some (.ref f53))) (l53 : K.lookup f53 = some ⟨oc53, od53, .func (PySem.W.fnOf "law" "law" (defArgs (top 77)) (defBody (top 77)) (defScope (top 77)) .none kV53 dc53 pm53 an53 cd53 ct53), sl53⟩) (c53 : PySem.W.codeIn K cd53 "law" = true) (k53 : PySem.W.keepIn K (.ref f53) = true)
    (t0_ : PySem.W.nsIn K mainGlobals "LETTERS" = some (some (.int (3) t0)))
    (t1_ : PySem.W.nsIn K mainGlobals "SIZE" = some (some (.int (1000000000) t1)))
    (t2_ : PySem.W.nsIn K mainGlobals "NUMBER" = some (some (.int (1000000000000) t2)))
    (t3_ : PySem.W.nsIn K mainGlobals "DIVISOR" = some (some (.int (1000000) t3)))
    (t4_ : PySem.W.nsIn K mainGlobals "NESTED" = some (some (.int (12) t4)))
    (t5_ : PySem.W.nsIn K mainGlobals "PARTS" = some (some (.int (4000) t5)))
    (t6_ : PySem.W.nsIn K mainGlobals "LEAVES" = some (some (.int (6) t6)))
    (t7_ : PySem.W.nsIn K mainGlobals "DEEP" = some (some (.int (6) t7)))
    (t8_ : PySem.W.nsIn K mainGlobals "TELLS" = some (some (.ref t8a))) (t8l_ : K.lookup t8a = some ⟨.type "tuple", t8d, .seq #[.str "some" t8k0, .str "all" t8k1] t8n, t8s⟩)
    (t9_ : PySem.W.nsIn K mainGlobals "LEAD" = some (some (.int (3) t9)))
    (t10_ : PySem.W.nsIn K mainGlobals "OTHER" = some (some (.int (1) t10)))
    (t11_ : PySem.W.nsIn K mainGlobals "CONSTANT" = some (some (.int (20) t11)))
    (t12_ : PySem.W.nsIn K mainGlobals "HIGHEST" = some (some (.int (6) t12)))
    (t13_ : PySem.W.nsIn K mainGlobals "MULTIPLE" = some (some (.int (6) t13)))
    (t14_ : PySem.W.nsIn K mainGlobals "ENDLESS" = some (some (.str "endless" t14)))
    (z0 : PySem.W.nsIn K mainGlobals "len" = some none)
    (z1 : PySem.W.nsIn K mainGlobals "all" = some none)
    (z2 : PySem.W.nsIn K mainGlobals "any" = some none)
    (z3 : PySem.W.nsIn K mainGlobals "sum" = some none)
    (z4 : PySem.W.nsIn K mainGlobals "abs" = some none)
    (z5 : PySem.W.nsIn K mainGlobals "tuple" = some none)
    (z6 : PySem.W.nsIn K mainGlobals "list" = some none)
    (z7 : PySem.W.nsIn K mainGlobals "int" = some none)
    (z8 : PySem.W.nsIn K mainGlobals "max" = some none)
    (z9 : PySem.W.nsIn K mainGlobals "min" = some none)
    (z10 : PySem.W.nsIn K mainGlobals "isinstance" = some none)
    (z11 : PySem.W.nsIn K mainGlobals "bool" = some none)
    (z12 : PySem.W.nsIn K mainGlobals "str" = some none)
    (z13 : PySem.W.nsIn K mainGlobals "range" = some none)
    (z14 : PySem.W.nsIn K mainGlobals "zip" = some none)
    (z15 : PySem.W.nsIn K mainGlobals "enumerate" = some none)
    (z16 : PySem.W.nsIn K mainGlobals "repr" = some none)
    (z17 : PySem.W.nsIn K mainGlobals "sorted" = some none)
    (z18 : PySem.W.nsIn K mainGlobals "set" = some none) :
    ∃ fd : FuncData, (∀ (s : Shared) (v : Value), BindsTo s fd ⟨[v], []⟩ [("script", v)]) ∧ ∀ base : Heap, K.In base → base.Ns mainGlobals mg → FnG l.prog w K mg base (L2.CX l.prog w) 150 fa fd ["script"] (spLawE K fun ns => ns.length ≤ 63 ∧ ∀ z ∈ ns, Builtin.Int.intBits z ≤ 1048576) := by
  refine finishL (tab := TAB) (GL := GL) (EX := EXC) (SB := SUB) (nL := 53) (dL := d53) X G hfa ?_ ?_ rfl rfl rfl ?_ ?_ ?_ (fns_of (by decide +kernel)) (consts_of (P := fun p => CstOk K mg p.1 p.2) ?_) ?_ (by decide +kernel) (by decide +kernel) math
  · exact all_cons ⟨f0, defF_mk (nm := "is_whole") (st := top 11) rfl rfl a0 l0 c0 k0 binds_0⟩ (all_cons ⟨f1, defF_mk (nm := "is_tuple_of") (st := top 12) rfl rfl a1 l1 c1 k1 binds_1⟩ (all_cons ⟨f2, defF_mk (nm := "fits_row") (st := top 13) rfl rfl a2 l2 c2 k2 binds_2⟩ (all_cons ⟨f3, defF_mk (nm := "fits_leaf") (st := top 14) rfl rfl a3 l3 c3 k3 binds_3⟩ (all_cons ⟨f4, defF_mk (nm := "parts_of") (st := top 15) rfl rfl a4 l4 c4 k4 binds_4⟩ (all_cons ⟨f5, defF_mk (nm := "fits_knot") (st := top 16) rfl rfl a5 l5 c5 k5 binds_5⟩ (all_cons ⟨f6, defF_mk (nm := "fits_test") (st := top 17) rfl rfl a6 l6 c6 k6 binds_6⟩ (all_cons ⟨f7, defF_mk (nm := "leaves_of") (st := top 18) rfl rfl a7 l7 c7 k7 binds_7⟩ (all_cons ⟨f8, defF_mk (nm := "sum_at") (st := top 19) rfl rfl a8 l8 c8 k8 binds_8⟩ (all_cons ⟨f9, defF_mk (nm := "leaf_at") (st := top 20) rfl rfl a9 l9 c9 k9 binds_9⟩ (all_cons ⟨f10, defF_mk (nm := "test_at") (st := top 21) rfl rfl a10 l10 c10 k10 binds_10⟩ (all_cons ⟨f11, defF_mk (nm := "common_divisor") (st := top 31) rfl rfl a11 l11 c11 k11 binds_11⟩ (all_cons ⟨f12, defF_mk (nm := "common_multiple") (st := top 32) rfl rfl a12 l12 c12 k12 binds_12⟩ (all_cons ⟨f13, defF_mk (nm := "divisors_in") (st := top 33) rfl rfl a13 l13 c13 k13 binds_13⟩ (all_cons ⟨f14, defF_mk (nm := "period_of") (st := top 34) rfl rfl a14 l14 c14 k14 binds_14⟩ (all_cons ⟨f15, defF_mk (nm := "row_of") (st := top 35) rfl rfl a15 l15 c15 k15 binds_15⟩ (all_cons ⟨f16, defF_mk (nm := "is_small_leaf") (st := top 36) rfl rfl a16 l16 c16 k16 binds_16⟩ (all_cons ⟨f17, defF_mk (nm := "height_of") (st := top 37) rfl rfl a17 l17 c17 k17 binds_17⟩ (all_cons ⟨f18, defF_mk (nm := "fits_formula") (st := top 38) rfl rfl a18 l18 c18 k18 binds_18⟩ (all_cons ⟨f19, defF_mk (nm := "need_integer") (st := top 41) rfl rfl a19 l19 c19 k19 binds_19⟩ (all_cons ⟨f20, defF_mk (nm := "need_two") (st := top 43) rfl rfl a20 l20 c20 k20 binds_20⟩ (all_cons ⟨f21, defF_mk (nm := "need_counted") (st := top 44) rfl rfl a21 l21 c21 k21 binds_21⟩ (all_cons ⟨f22, defF_mk (nm := "cells_of") (st := top 45) rfl rfl a22 l22 c22 k22 binds_22⟩ (all_cons ⟨f23, defF_mk (nm := "first_member") (st := top 46) rfl rfl a23 l23 c23 k23 binds_23⟩ (all_cons ⟨f24, defF_mk (nm := "last_member") (st := top 47) rfl rfl a24 l24 c24 k24 binds_24⟩ (all_cons ⟨f25, defF_mk (nm := "flips_of") (st := top 48) rfl rfl a25 l25 c25 k25 binds_25⟩ (all_cons ⟨f26, defF_mk (nm := "true_cells") (st := top 49) rfl rfl a26 l26 c26 k26 binds_26⟩ (all_cons ⟨f27, defF_mk (nm := "count_last") (st := top 50) rfl rfl a27 l27 c27 k27 binds_27⟩ (all_cons ⟨f28, defF_mk (nm := "least_last") (st := top 51) rfl rfl a28 l28 c28 k28 binds_28⟩ (all_cons ⟨f29, defF_mk (nm := "greatest_last") (st := top 52) rfl rfl a29 l29 c29 k29 binds_29⟩ (all_cons ⟨f30, defF_mk (nm := "nearest_last") (st := top 53) rfl rfl a30 l30 c30 k30 binds_30⟩ (all_cons ⟨f31, defF_mk (nm := "breaks_of") (st := top 54) rfl rfl a31 l31 c31 k31 binds_31⟩ (all_cons ⟨f32, defF_mk (nm := "class_sum") (st := top 55) rfl rfl a32 l32 c32 k32 binds_32⟩ (all_cons ⟨f33, defF_mk (nm := "count_pairs") (st := top 56) rfl rfl a33 l33 c33 k33 binds_33⟩ (all_cons ⟨f34, defF_mk (nm := "count_by") (st := top 57) rfl rfl a34 l34 c34 k34 binds_34⟩ (all_cons ⟨f35, defF_mk (nm := "count_at") (st := top 58) rfl rfl a35 l35 c35 k35 binds_35⟩ (all_cons ⟨f36, defF_mk (nm := "least_at") (st := top 59) rfl rfl a36 l36 c36 k36 binds_36⟩ (all_cons ⟨f37, defF_mk (nm := "greatest_at") (st := top 60) rfl rfl a37 l37 c37 k37 binds_37⟩ (all_cons ⟨f38, defF_mk (nm := "nearest_at") (st := top 61) rfl rfl a38 l38 c38 k38 binds_38⟩ (all_cons ⟨f39, defF_mk (nm := "_law_cup") (st := top 63) rfl rfl a39 l39 c39 k39 binds_39⟩ (all_cons ⟨f40, defF_mk (nm := "_law_roll") (st := top 64) rfl rfl a40 l40 c40 k40 binds_40⟩ (all_cons ⟨f41, defF_mk (nm := "_law_some") (st := top 65) rfl rfl a41 l41 c41 k41 binds_41⟩ (all_cons ⟨f42, defF_mk (nm := "_law_leaves") (st := top 66) rfl rfl a42 l42 c42 k42 binds_42⟩ (all_cons ⟨f43, defF_mk (nm := "_law_sum") (st := top 67) rfl rfl a43 l43 c43 k43 binds_43⟩ (all_cons ⟨f44, defF_mk (nm := "_law_test_at") (st := top 68) rfl rfl a44 l44 c44 k44 binds_44⟩ (all_cons ⟨f45, defF_mk (nm := "_law_period") (st := top 69) rfl rfl a45 l45 c45 k45 binds_45⟩ (all_cons ⟨f46, defF_mk (nm := "_law_leaf") (st := top 70) rfl rfl a46 l46 c46 k46 binds_46⟩ (all_cons ⟨f47, defF_mk (nm := "_law_test") (st := top 71) rfl rfl a47 l47 c47 k47 binds_47⟩ (all_cons ⟨f48, defF_mk (nm := "_law_formula") (st := top 72) rfl rfl a48 l48 c48 k48 binds_48⟩ (all_cons ⟨f49, defF_mk (nm := "_law_plain") (st := top 73) rfl rfl a49 l49 c49 k49 binds_49⟩ (all_cons ⟨f50, defF_mk (nm := "_law_deep") (st := top 74) rfl rfl a50 l50 c50 k50 binds_50⟩ (all_cons ⟨f51, defF_mk (nm := "_law_joined") (st := top 75) rfl rfl a51 l51 c51 k51 binds_51⟩ (all_cons ⟨f52, defF_mk (nm := "_law_any_formula") (st := top 76) rfl rfl a52 l52 c52 k52 binds_52⟩ (all_cons ⟨f53, defF_mk (nm := "law") (st := top 77) rfl rfl a53 l53 c53 k53 binds_53⟩ (all_nil))))))))))))))))))))))))))))))))))))))))))))))))))))))
  · exact all_cons scope_0 (all_cons scope_1 (all_cons scope_2 (all_cons scope_3 (all_cons scope_4 (all_cons scope_5 (all_cons scope_6 (all_cons scope_7 (all_cons scope_8 (all_cons scope_9 (all_cons scope_10 (all_cons scope_11 (all_cons scope_12 (all_cons scope_13 (all_cons scope_14 (all_cons scope_15 (all_cons scope_16 (all_cons scope_17 (all_cons scope_18 (all_cons scope_19 (all_cons scope_20 (all_cons scope_21 (all_cons scope_22 (all_cons scope_23 (all_cons scope_24 (all_cons scope_25 (all_cons scope_26 (all_cons scope_27 (all_cons scope_28 (all_cons scope_29 (all_cons scope_30 (all_cons scope_31 (all_cons scope_32 (all_cons scope_33 (all_cons scope_34 (all_cons scope_35 (all_cons scope_36 (all_cons scope_37 (all_cons scope_38 (all_cons scope_39 (all_cons scope_40 (all_cons scope_41 (all_cons scope_42 (all_cons scope_43 (all_cons scope_44 (all_cons scope_45 (all_cons scope_46 (all_cons scope_47 (all_cons scope_48 (all_cons scope_49 (all_cons scope_50 (all_cons scope_51 (all_cons scope_52 (all_cons scope_53 (all_nil))))))))))))))))))))))))))))))))))))))))))))))))))))))
  · exact all_cons ⟨rfl, rfl, rfl⟩ (all_cons ⟨rfl, rfl, rfl⟩ (all_cons ⟨rfl, rfl, rfl⟩ (all_cons ⟨rfl, rfl, rfl⟩ (all_cons ⟨rfl, rfl, rfl⟩ (all_cons ⟨rfl, rfl, rfl⟩ (all_cons ⟨rfl, rfl, rfl⟩ (all_cons ⟨rfl, rfl, rfl⟩ (all_cons ⟨rfl, rfl, rfl⟩ (all_cons ⟨rfl, rfl, rfl⟩ (all_cons ⟨rfl, rfl, rfl⟩ (all_cons ⟨rfl, rfl, rfl⟩ (all_cons ⟨rfl, rfl, rfl⟩ (all_cons ⟨rfl, rfl, rfl⟩ (all_cons ⟨rfl, rfl, rfl⟩ (all_cons ⟨rfl, rfl, rfl⟩ (all_cons ⟨rfl, rfl, rfl⟩ (all_cons ⟨rfl, rfl, rfl⟩ (all_cons ⟨rfl, rfl, rfl⟩ (all_cons ⟨rfl, rfl, rfl⟩ (all_cons ⟨rfl, rfl, rfl⟩ (all_cons ⟨rfl, rfl, rfl⟩ (all_cons ⟨rfl, rfl, rfl⟩ (all_cons ⟨rfl, rfl, rfl⟩ (all_cons ⟨rfl, rfl, rfl⟩ (all_cons ⟨rfl, rfl, rfl⟩ (all_cons ⟨rfl, rfl, rfl⟩ (all_cons ⟨rfl, rfl, rfl⟩ (all_cons ⟨rfl, rfl, rfl⟩ (all_cons ⟨rfl, rfl, rfl⟩ (all_cons ⟨rfl, rfl, rfl⟩ (all_cons ⟨rfl, rfl, rfl⟩ (all_cons ⟨rfl, rfl, rfl⟩ (all_cons ⟨rfl, rfl, rfl⟩ (all_cons ⟨rfl, rfl, rfl⟩ (all_cons ⟨rfl, rfl, rfl⟩ (all_cons ⟨rfl, rfl, rfl⟩ (all_cons ⟨rfl, rfl, rfl⟩ (all_cons ⟨rfl, rfl, rfl⟩ (all_cons ⟨rfl, rfl, rfl⟩ (all_cons ⟨rfl, rfl, rfl⟩ (all_cons ⟨rfl, rfl, rfl⟩ (all_cons ⟨rfl, rfl, rfl⟩ (all_cons ⟨rfl, rfl, rfl⟩ (all_cons ⟨rfl, rfl, rfl⟩ (all_cons ⟨rfl, rfl, rfl⟩ (all_cons ⟨rfl, rfl, rfl⟩ (all_cons ⟨rfl, rfl, rfl⟩ (all_cons ⟨rfl, rfl, rfl⟩ (all_cons ⟨rfl, rfl, rfl⟩ (all_cons ⟨rfl, rfl, rfl⟩ (all_cons ⟨rfl, rfl, rfl⟩ (all_cons ⟨rfl, rfl, rfl⟩ (all_cons ⟨rfl, rfl, rfl⟩ (all_nil))))))))))))))))))))))))))))))))))))))))))))))))))))))
  · exact all_nil
  · exact all_nil
  · exact all_cons (cst_int X G t0_) (all_cons (cst_int X G t1_) (all_cons (cst_int X G t2_) (all_cons (cst_int X G t3_) (all_cons (cst_int X G t4_) (all_cons (cst_int X G t5_) (all_cons (cst_int X G t6_) (all_cons (cst_int X G t7_) (all_cons (cst_tup X G t8_ t8l_ (.cons ⟨_, rfl⟩ (.cons ⟨_, rfl⟩ (.nil))) (by decide +kernel) rfl) (all_cons (cst_int X G t9_) (all_cons (cst_int X G t10_) (all_cons (cst_int X G t11_) (all_cons (cst_int X G t12_) (all_cons (cst_int X G t13_) (all_cons (cst_str X G t14_) (all_nil)))))))))))))))
  · exact all_cons (fun _ => PySem.W.mg_none_of X G z0) (all_cons (fun _ => PySem.W.mg_none_of X G z1) (all_cons (fun _ => PySem.W.mg_none_of X G z2) (all_cons (fun _ => PySem.W.mg_none_of X G z3) (all_cons (fun _ => PySem.W.mg_none_of X G z4) (all_cons (fun _ => PySem.W.mg_none_of X G z5) (all_cons (fun _ => PySem.W.mg_none_of X G z6) (all_cons (fun _ => PySem.W.mg_none_of X G z7) (all_cons (fun _ => PySem.W.mg_none_of X G z8) (all_cons (fun _ => PySem.W.mg_none_of X G z9) (all_cons (fun _ => PySem.W.mg_none_of X G z10) (all_cons (fun _ => PySem.W.mg_none_of X G z11) (all_cons (fun _ => PySem.W.mg_none_of X G z12) (all_cons (fun _ => PySem.W.mg_none_of X G z13) (all_cons (fun _ => PySem.W.mg_none_of X G z14) (all_cons (fun _ => PySem.W.mg_none_of X G z15) (all_cons (fun _ => PySem.W.mg_none_of X G z16) (all_cons (fun _ => PySem.W.mg_none_of X G z17) (all_cons (fun _ => PySem.W.mg_none_of X G z18) (all_nil)))))))))))))))))))
end Ev
open PySem PySem.W PyProof.Rows
set_option maxRecDepth 100000 in
set_option maxHeartbeats 0 in
theorem PySem.Challenge.cw_countrealm_k40_what_goes_with_an_integer_holds : PySem.Challenge.rw_countrealm_k40_what_goes_with_an_integer.Holds := by
  w_on; o_law; k_head; (case hw => w_witness2)
  k_fill
  refine Ev.walkE (l := PySem.Challenge.rw_countrealm_k40_what_goes_with_an_integer) rfl rfl (fun w h Y => PySem.W.kIn_of Y) ?F
  case F =>
    intro w mg fa h KX G hmg
    refine' Ev.all_end KX G hmg ?a0 ?l0 ?c0 ?k0 ?a1 ?l1 ?c1 ?k1 ?a2 ?l2 ?c2 ?k2 ?a3 ?l3 ?c3 ?k3 ?a4 ?l4 ?c4 ?k4 ?a5 ?l5 ?c5 ?k5 ?a6 ?l6 ?c6 ?k6 ?a7 ?l7 ?c7 ?k7 ?a8 ?l8 ?c8 ?k8 ?a9 ?l9 ?c9 ?k9 ?a10 ?l10 ?c10 ?k10 ?a11 ?l11 ?c11 ?k11 ?a12 ?l12 ?c12 ?k12 ?a13 ?l13 ?c13 ?k13 ?a14 ?l14 ?c14 ?k14 ?a15 ?l15 ?c15 ?k15 ?a16 ?l16 ?c16 ?k16 ?a17 ?l17 ?c17 ?k17 ?a18 ?l18 ?c18 ?k18 ?a19 ?l19 ?c19 ?k19 ?a20 ?l20 ?c20 ?k20 ?a21 ?l21 ?c21 ?k21 ?a22 ?l22 ?c22 ?k22 ?a23 ?l23 ?c23 ?k23 ?a24 ?l24 ?c24 ?k24 ?a25 ?l25 ?c25 ?k25 ?a26 ?l26 ?c26 ?k26 ?a27 ?l27 ?c27 ?k27 ?a28 ?l28 ?c28 ?k28 ?a29 ?l29 ?c29 ?k29 ?a30 ?l30 ?c30 ?k30 ?a31 ?l31 ?c31 ?k31 ?a32 ?l32 ?c32 ?k32 ?a33 ?l33 ?c33 ?k33 ?a34 ?l34 ?c34 ?k34 ?a35 ?l35 ?c35 ?k35 ?a36 ?l36 ?c36 ?k36 ?a37 ?l37 ?c37 ?k37 ?a38 ?l38 ?c38 ?k38 ?a39 ?l39 ?c39 ?k39 ?a40 ?l40 ?c40 ?k40 ?a41 ?l41 ?c41 ?k41 ?a42 ?l42 ?c42 ?k42 ?a43 ?l43 ?c43 ?k43 ?a44 ?l44 ?c44 ?k44 ?a45 ?l45 ?c45 ?k45 ?a46 ?l46 ?c46 ?k46 ?a47 ?l47 ?c47 ?k47 ?a48 ?l48 ?c48 ?k48 ?a49 ?l49 ?c49 ?k49 ?a50 ?l50 ?c50 ?k50 ?a51 ?l51 ?c51 ?k51 ?a52 ?l52 ?c52 ?k52 ?a53 ?l53 ?c53 ?k53 ?t0_ ?t1_ ?t2_ ?t3_ ?t4_ ?t5_ ?t6_ ?t7_ ?t8_ ?t9_ ?t10_ ?t11_ ?t12_ ?t13_ ?t14_ ?t8l_ ?z0 ?z1 ?z2 ?z3 ?z4 ?z5 ?z6 ?z7 ?z8 ?z9 ?z10 ?z11 ?z12 ?z13 ?z14 ?z15 ?z16 ?z17 ?z18
    (case a0 => k_is)
    (case l0 => k_is)
    (case c0 => k_is)
    (case k0 => k_is)
    (case a1 => k_is)
    (case l1 => k_is)
    (case c1 => k_is)
    (case k1 => k_is)
    (case a2 => k_is)
    (case l2 => k_is)
    (case c2 => k_is)
    (case k2 => k_is)
    (case a3 => k_is)
    (case l3 => k_is)
    (case c3 => k_is)
    (case k3 => k_is)
    (case a4 => k_is)
    (case l4 => k_is)
    (case c4 => k_is)
    (case k4 => k_is)
    (case a5 => k_is)
    (case l5 => k_is)
    (case c5 => k_is)
    (case k5 => k_is)
    (case a6 => k_is)
    (case l6 => k_is)
    (case c6 => k_is)
    (case k6 => k_is)
    (case a7 => k_is)
    (case l7 => k_is)
    (case c7 => k_is)
    (case k7 => k_is)
    (case a8 => k_is)
    (case l8 => k_is)
    (case c8 => k_is)
    (case k8 => k_is)
    (case a9 => k_is)
    (case l9 => k_is)
    (case c9 => k_is)
    (case k9 => k_is)
    (case a10 => k_is)
    (case l10 => k_is)
    (case c10 => k_is)
    (case k10 => k_is)
    (case a11 => k_is)
    (case l11 => k_is)
    (case c11 => k_is)
    (case k11 => k_is)
    (case a12 => k_is)
    (case l12 => k_is)
    (case c12 => k_is)
    (case k12 => k_is)
    (case a13 => k_is)
    (case l13 => k_is)
    (case c13 => k_is)
    (case k13 => k_is)
    (case a14 => k_is)
    (case l14 => k_is)
    (case c14 => k_is)
    (case k14 => k_is)
    (case a15 => k_is)
    (case l15 => k_is)
    (case c15 => k_is)
    (case k15 => k_is)
    (case a16 => k_is)
    (case l16 => k_is)
    (case c16 => k_is)
    (case k16 => k_is)
    (case a17 => k_is)
    (case l17 => k_is)
    (case c17 => k_is)
    (case k17 => k_is)
    (case a18 => k_is)
    (case l18 => k_is)
    (case c18 => k_is)
    (case k18 => k_is)
    (case a19 => k_is)
    (case l19 => k_is)
    (case c19 => k_is)
    (case k19 => k_is)
    (case a20 => k_is)
    (case l20 => k_is)
    (case c20 => k_is)
    (case k20 => k_is)
    (case a21 => k_is)
    (case l21 => k_is)
    (case c21 => k_is)
    (case k21 => k_is)
    (case a22 => k_is)
    (case l22 => k_is)
    (case c22 => k_is)
    (case k22 => k_is)
    (case a23 => k_is)
    (case l23 => k_is)
    (case c23 => k_is)
    (case k23 => k_is)
    (case a24 => k_is)
    (case l24 => k_is)
    (case c24 => k_is)
    (case k24 => k_is)
    (case a25 => k_is)
    (case l25 => k_is)
    (case c25 => k_is)
    (case k25 => k_is)
    (case a26 => k_is)
    (case l26 => k_is)
    (case c26 => k_is)
    (case k26 => k_is)
    (case a27 => k_is)
    (case l27 => k_is)
    (case c27 => k_is)
    (case k27 => k_is)
    (case a28 => k_is)
    (case l28 => k_is)
    (case c28 => k_is)
    (case k28 => k_is)
    (case a29 => k_is)
    (case l29 => k_is)
    (case c29 => k_is)
    (case k29 => k_is)
    (case a30 => k_is)
    (case l30 => k_is)
    (case c30 => k_is)
    (case k30 => k_is)
    (case a31 => k_is)
    (case l31 => k_is)
    (case c31 => k_is)
    (case k31 => k_is)
    (case a32 => k_is)
    (case l32 => k_is)
    (case c32 => k_is)
    (case k32 => k_is)
    (case a33 => k_is)
    (case l33 => k_is)
    (case c33 => k_is)
    (case k33 => k_is)
    (case a34 => k_is)
    (case l34 => k_is)
    (case c34 => k_is)
    (case k34 => k_is)
    (case a35 => k_is)
    (case l35 => k_is)
    (case c35 => k_is)
    (case k35 => k_is)
    (case a36 => k_is)
    (case l36 => k_is)
    (case c36 => k_is)
    (case k36 => k_is)
    (case a37 => k_is)
    (case l37 => k_is)
    (case c37 => k_is)
    (case k37 => k_is)
    (case a38 => k_is)
    (case l38 => k_is)
    (case c38 => k_is)
    (case k38 => k_is)
    (case a39 => k_is)
    (case l39 => k_is)
    (case c39 => k_is)
    (case k39 => k_is)
    (case a40 => k_is)
    (case l40 => k_is)
    (case c40 => k_is)
    (case k40 => k_is)
    (case a41 => k_is)
    (case l41 => k_is)
    (case c41 => k_is)
    (case k41 => k_is)
    (case a42 => k_is)
    (case l42 => k_is)
    (case c42 => k_is)
    (case k42 => k_is)
    (case a43 => k_is)
    (case l43 => k_is)
    (case c43 => k_is)
    (case k43 => k_is)
    (case a44 => k_is)
    (case l44 => k_is)
    (case c44 => k_is)
    (case k44 => k_is)
    (case a45 => k_is)
    (case l45 => k_is)
    (case c45 => k_is)
    (case k45 => k_is)
    (case a46 => k_is)
    (case l46 => k_is)
    (case c46 => k_is)
    (case k46 => k_is)
    (case a47 => k_is)
    (case l47 => k_is)
    (case c47 => k_is)
    (case k47 => k_is)
    (case a48 => k_is)
    (case l48 => k_is)
    (case c48 => k_is)
    (case k48 => k_is)
    (case a49 => k_is)
    (case l49 => k_is)
    (case c49 => k_is)
    (case k49 => k_is)
    (case a50 => k_is)
    (case l50 => k_is)
    (case c50 => k_is)
    (case k50 => k_is)
    (case a51 => k_is)
    (case l51 => k_is)
    (case c51 => k_is)
    (case k51 => k_is)
    (case a52 => k_is)
    (case l52 => k_is)
    (case c52 => k_is)
    (case k52 => k_is)
    (case a53 => k_is)
    (case l53 => k_is)
    (case c53 => k_is)
    (case k53 => k_is)
    (case t0_ => k_is)
    (case t1_ => k_is)
    (case t2_ => k_is)
    (case t3_ => k_is)
    (case t4_ => k_is)
    (case t5_ => k_is)
    (case t6_ => k_is)
    (case t7_ => k_is)
    (case t8_ => k_is)
    (case t9_ => k_is)
    (case t10_ => k_is)
    (case t11_ => k_is)
    (case t12_ => k_is)
    (case t13_ => k_is)
    (case t14_ => k_is)
    (case t8l_ => k_is)
    (case z0 => k_is)
    (case z1 => k_is)
    (case z2 => k_is)
    (case z3 => k_is)
    (case z4 => k_is)
    (case z5 => k_is)
    (case z6 => k_is)
    (case z7 => k_is)
    (case z8 => k_is)
    (case z9 => k_is)
    (case z10 => k_is)
    (case z11 => k_is)
    (case z12 => k_is)
    (case z13 => k_is)
    (case z14 => k_is)
    (case z15 => k_is)
    (case z16 => k_is)
    (case z17 => k_is)
    (case z18 => k_is)
