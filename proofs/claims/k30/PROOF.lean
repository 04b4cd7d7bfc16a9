import PyProof.Rows.All
import Wide.All
import OpenK.AllK
import Wide.FinOn
import HandS.ForList
import KE.RegKTryMore
import KE.RegKIsAll
import HandS.ForMost
import HandS.ForExc
import HandS.Flow
import HandS.Wide
import HandS.WideBits
import HandS.IsInst
import HandS.TupAny
import HandS.TupMul
import HandS.Zip
import HandS.TryOnly
import HandS.TryMany
import HandS.EndBits
import HandS.WordsExc
import PyProof.ReprBulk
import HandS.Style
import HandS.TupLe
import KE.KRevSl
import KE.GoesNew
import HandS.ExcIs
import PySem.Challenge.RW_countrealm_k30_rows_of_spans
set_option Elab.async false


set_option linter.all false
set_option maxRecDepth 100000
set_option maxHeartbeats 1000000
/-! Ev.A: values, cells, the evaluator's state, and how they lie in the abstract heap -/
namespace Ev
open PySem PySem.Spec L2

/-- a value: tuples and frozen lists by what they hold -/
inductive PV where
  | non | bl (b : Bool) | int (i : Int) | str (x : Str) | tup (xs : List PV) | lst (xs : List PV)
  | scr (ns : List Int) | box (n : Nat) | fn (n : Nat)
  deriving Inhabited
/-- what may still be changed -/
inductive Cell where
  | lst (xs : List PV)
  deriving Inhabited
def Cell.val : Cell → PV
  | .lst xs => .lst xs
/-- a slot of a frame -/
inductive Sl where
  | none | val (v : PV) | own (c : Cell)
  deriving Inhabited
structure ES where
  env : List Sl
  st : List Cell
structure Ex where
  cls : Str
  args : List PV
inductive Out (α : Type) where
  | ok (a : α) (s : ES) | exc (x : Ex) (s : ES) | bad
abbrev M (α : Type) := ES → Out α
def ret {α} (a : α) : M α := fun s => .ok a s
def bad {α} : M α := fun _ => .bad
def bnd {α β} (m : M α) (f : α → M β) : M β := fun s => match m s with
  | .ok a s' => f a s'
  | .exc x s' => .exc x s'
  | .bad => .bad
/-- an expression's outcome: a value, a new cell, or the cell that a slot owns -/
inductive RE where
  | val (v : PV) | fresh (c : Cell) | pk (i : Nat)
  deriving Inhabited

inductive Nm where
  | slot (i : Nat) | box (n : Nat) | tmp (a : Addr) | held (a : Addr)
  deriving DecidableEq
abbrev Rho := Nm → Option Addr
open Classical in
/-- the heap without what may be changed -/
noncomputable def cut (H : Hp) (ρ : Rho) : Hp := fun a => if ∃ nm, ρ nm = some a then none else H a
theorem cut_eq {H : Hp} {ρ : Rho} {a : Addr} {o : HO} : cut H ρ a = some o ↔ (∀ nm, ρ nm ≠ some a) ∧ H a = some o := by
  unfold cut
  split
  · rename_i h
    constructor
    · intro h'; cases h'
    · intro h'; obtain ⟨nm, e⟩ := h; exact absurd e (h'.1 nm)
  · rename_i h
    exact ⟨fun e => ⟨fun nm e' => h ⟨nm, e'⟩, e⟩, fun e => e.2⟩
theorem cut_le {H : Hp} {ρ : Rho} {a : Addr} {o : HO} (h : cut H ρ a = some o) : H a = some o := (cut_eq.mp h).2

abbrev Le (T T' : Hp) : Prop := ∀ a o, T a = some o → T' a = some o
theorem Rd.le {T T' : Hp} (h : Le T T') {a : Addr} {u : HO} (r : Rd T a u) : Rd T' a u := by
  rcases r with r | ⟨o, r⟩
  · exact .inl (h _ _ r)
  · exact .inr ⟨o, h _ _ r⟩
theorem SqT.le {K : PySem.W.Frag} {T T' : Hp} (h : Le T T') {a : Addr} {vs : List V} (q : SqT K T a vs) : SqT K T' a vs := by
  rcases q with q | q
  · exact .inl (Rd.le h q)
  · exact .inr q
theorem SqL.le {K : PySem.W.Frag} {T T' : Hp} (h : Le T T') {a : Addr} {vs : List V} (q : SqL K T a vs) : SqL K T' a vs := by
  rcases q with q | q
  · exact .inl (Rd.le h q)
  · exact .inr q

section
variable (K : PySem.W.Frag) (fa : Nat → Addr)
mutual
inductive RV (ρ : Rho) (T : Hp) : PV → V → Prop
  | non : RV ρ T .non .non
  | bl (b : Bool) : RV ρ T (.bl b) (.bl b)
  | int (i : Int) : RV ρ T (.int i) (.int i)
  | str (x : Str) : RV ρ T (.str x) (.str x)
  | tup {a : Addr} {xs : List PV} {vs : List V} : SqT K T a vs → RVs ρ T xs vs → RV ρ T (.tup xs) (.ref a)
  | lst {a : Addr} {xs : List PV} {vs : List V} : T a = some (.lst vs) → RVs ρ T xs vs → RV ρ T (.lst xs) (.ref a)
  | scr {a : Addr} {ns : List Int} : SqL K T a (ns.map V.int) → RV ρ T (.scr ns) (.ref a)
  | box {a : Addr} {n : Nat} : ρ (.box n) = some a → RV ρ T (.box n) (.ref a)
  | fn (n : Nat) : RV ρ T (.fn n) (.ref (fa n))
inductive RVs (ρ : Rho) (T : Hp) : List PV → List V → Prop
  | nil : RVs ρ T [] []
  | cons {x : PV} {v : V} {xs : List PV} {vs : List V} : RV ρ T x v → RVs ρ T xs vs → RVs ρ T (x :: xs) (v :: vs)
end
end
section
variable {K : PySem.W.Frag} {fa : Nat → Addr} {ρ ρ' : Rho} {T T' : Hp}
abbrev BoxLe (ρ ρ' : Rho) : Prop := ∀ n a, ρ (.box n) = some a → ρ' (.box n) = some a
mutual
theorem RV.mono (hT : Le T T') (hb : BoxLe ρ ρ') : ∀ {x : PV} {v : V}, RV K fa ρ T x v → RV K fa ρ' T' x v
  | _, _, .non => .non
  | _, _, .bl b => .bl b
  | _, _, .int i => .int i
  | _, _, .str x => .str x
  | _, _, .tup h hs => .tup (SqT.le hT h) (RVs.mono hT hb hs)
  | _, _, .lst h hs => .lst (hT _ _ h) (RVs.mono hT hb hs)
  | _, _, .scr h => .scr (SqL.le hT h)
  | _, _, .box h => .box (hb _ _ h)
  | _, _, .fn n => .fn n
theorem RVs.mono (hT : Le T T') (hb : BoxLe ρ ρ') : ∀ {xs : List PV} {vs : List V}, RVs K fa ρ T xs vs → RVs K fa ρ' T' xs vs
  | _, _, .nil => .nil
  | _, _, .cons h hs => .cons (RV.mono hT hb h) (RVs.mono hT hb hs)
end
theorem RVs.length : ∀ {xs : List PV} {vs : List V}, RVs K fa ρ T xs vs → xs.length = vs.length
  | _, _, .nil => rfl
  | _, _, .cons _ hs => by simp [RVs.length hs]
theorem RVs.append : ∀ {xs ys : List PV} {vs ws : List V}, RVs K fa ρ T xs vs → RVs K fa ρ T ys ws → RVs K fa ρ T (xs ++ ys) (vs ++ ws)
  | _, _, _, _, .nil, s => s
  | _, _, _, _, .cons h t, s => .cons h (RVs.append t s)
theorem RVs.get : ∀ {xs : List PV} {vs : List V} {i : Nat} {x : PV}, RVs K fa ρ T xs vs → xs[i]? = some x → ∃ v, vs[i]? = some v ∧ RV K fa ρ T x v
  | _, _, _, _, .nil, e => by simp at e
  | _, _, 0, _, .cons h _, e => by simp at e; subst e; exact ⟨_, rfl, h⟩
  | _, _, i + 1, x, .cons _ t, e => by
    obtain ⟨v, h1, h2⟩ := RVs.get (i := i) (x := x) t (by simpa using e)
    exact ⟨v, by simpa using h1, h2⟩
theorem RVs.take : ∀ {xs : List PV} {vs : List V} (n : Nat), RVs K fa ρ T xs vs → RVs K fa ρ T (xs.take n) (vs.take n)
  | _, _, 0, _ => by simp; exact .nil
  | _, _, _ + 1, .nil => by simp; exact .nil
  | _, _, n + 1, .cons h t => by simp only [List.take_succ_cons]; exact .cons h (RVs.take n t)
theorem RVs.drop : ∀ {xs : List PV} {vs : List V} (n : Nat), RVs K fa ρ T xs vs → RVs K fa ρ T (xs.drop n) (vs.drop n)
  | _, _, 0, h => h
  | _, _, _ + 1, .nil => .nil
  | _, _, n + 1, .cons _ t => RVs.drop n t
theorem RVs.set {x : PV} {v : V} (h : RV K fa ρ T x v) : ∀ {xs : List PV} {vs : List V} (i : Nat), RVs K fa ρ T xs vs → RVs K fa ρ T (xs.set i x) (vs.set i v)
  | _, _, _, .nil => .nil
  | _, _, 0, .cons _ t => .cons h t
  | _, _, i + 1, .cons q t => .cons q (RVs.set h i t)
theorem RVs.rev {xs : List PV} {vs : List V} (h : RVs K fa ρ T xs vs) : RVs K fa ρ T xs.reverse vs.reverse := by
  induction xs generalizing vs with
  | nil => cases h; exact .nil
  | cons x xs ih =>
    cases h with
    | cons h1 h2 => simp only [List.reverse_cons]; exact RVs.append (ih h2) (.cons h1 .nil)
theorem RVs.rep {xs : List PV} {vs : List V} (h : RVs K fa ρ T xs vs) : ∀ k : Nat, RVs K fa ρ T (List.replicate k xs).flatten (List.replicate k vs).flatten
  | 0 => .nil
  | k + 1 => by
    simp only [List.replicate_succ, List.flatten_cons]
    exact RVs.append h (RVs.rep h k)
theorem RVs.ints : ∀ (ns : List Int), RVs K fa ρ T (ns.map PV.int) (ns.map V.int)
  | [] => .nil
  | n :: r => .cons (.int n) (RVs.ints r)
theorem RVs.of_ints : ∀ {ns : List Int} {vs : List V}, RVs K fa ρ T (ns.map PV.int) vs → vs = ns.map V.int
  | [], _, h => by cases h; rfl
  | n :: r, _, h => by
    cases h with
    | cons h1 h2 => cases h1; rw [RVs.of_ints h2]; rfl

/-- a cell's content -/
def CellR (K : PySem.W.Frag) (fa : Nat → Addr) (ρ : Rho) (T : Hp) : Cell → Option HO → Prop
  | .lst xs, o => ∃ vs, o = some (.lst vs) ∧ RVs K fa ρ T xs vs
theorem CellR.mono (hT : Le T T') (hb : BoxLe ρ ρ') {c : Cell} {o : Option HO} (h : CellR K fa ρ T c o) : CellR K fa ρ' T' c o := by
  cases c with
  | lst xs => obtain ⟨vs, e, r⟩ := h; exact ⟨vs, e, r.mono hT hb⟩
theorem CellR.ne_none {c : Cell} {o : Option HO} (h : CellR K fa ρ T c o) : o ≠ none := by
  cases c with
  | lst xs => obtain ⟨vs, e, r⟩ := h; rw [e]; simp
theorem CellR.mut {c : Cell} {o : Option HO} (h : CellR K fa ρ T c o) : Mut o := by
  cases c with
  | lst xs => obtain ⟨vs, e, r⟩ := h; rw [e]; trivial

def SlotR (K : PySem.W.Frag) (fa : Nat → Addr) (ρ : Rho) (σ : St) (H : Hp) (i : Nat) : Option Sl → Prop
  | some (.val v) => ρ (.slot i) = none ∧ ∃ V, σ[i]? = some (some V) ∧ RV K fa ρ (cut H ρ) v V
  | some (.own c) => ∃ a, ρ (.slot i) = some a ∧ σ[i]? = some (some (V.ref a)) ∧ CellR K fa ρ (cut H ρ) c (H a)
  | _ => ρ (.slot i) = none
def BoxR (K : PySem.W.Frag) (fa : Nat → Addr) (ρ : Rho) (H : Hp) (n : Nat) : Option Cell → Prop
  | some c => ∃ a, ρ (.box n) = some a ∧ CellR K fa ρ (cut H ρ) c (H a)
  | none => ρ (.box n) = none
/-- how a state lies in the slots and the heap; P: what must stand -/
structure Rel (K : PySem.W.Frag) (fa : Nat → Addr) (P : Hp) (ρ : Rho) (s : ES) (σ : St) (H : Hp) : Prop where
  inj : ∀ x y a, ρ x = some a → ρ y = some a → x = y
  base : Le P (cut H ρ)
  slot : ∀ i, SlotR K fa ρ σ H i s.env[i]?
  box : ∀ n, BoxR K fa ρ H n s.st[n]?
  tmp : ∀ a b, ρ (.tmp a) = some b → b = a ∧ Mut (H a)
  held : ∀ a b, ρ (.held a) = some b → b = a ∧ Mut (H a)
  len : s.env.length = σ.length
end

/-- what an evaluation leaves -/
structure Ext (ρ : Rho) (H : Hp) (ρ' : Rho) (H' : Hp) : Prop where
  le : Le (cut H ρ) (cut H' ρ')
  box : BoxLe ρ ρ'
  held : ∀ a, ρ (.held a) = some a → ρ' (.held a) = some a ∧ H' a = H a
theorem Ext.refl {ρ : Rho} {H : Hp} : Ext ρ H ρ H := ⟨fun _ _ h => h, fun _ _ h => h, fun _ h => ⟨h, rfl⟩⟩
theorem Ext.trans {ρ ρ1 ρ2 : Rho} {H H1 H2 : Hp} (a : Ext ρ H ρ1 H1) (b : Ext ρ1 H1 ρ2 H2) : Ext ρ H ρ2 H2 :=
  ⟨fun x o h => b.le x o (a.le x o h), fun n x h => b.box n x (a.box n x h), fun x h =>
    let ⟨h1, e1⟩ := a.held x h
    let ⟨h2, e2⟩ := b.held x h1
    ⟨h2, e2.trans e1⟩⟩

section
variable {K : PySem.W.Frag} {fa : Nat → Addr} {P : Hp} {ρ ρ' : Rho} {s : ES} {σ : St} {H H' : Hp}
/-- an outcome's value -/
def RER (K : PySem.W.Frag) (fa : Nat → Addr) (ρ : Rho) (σ : St) (H : Hp) : RE → V → Prop
  | .val v, x => RV K fa ρ (cut H ρ) v x
  | .fresh c, x => ∃ a, x = .ref a ∧ ρ (.tmp a) = some a ∧ CellR K fa ρ (cut H ρ) c (H a)
  | .pk i, x => σ[i]? = some (some x)
def RE.norm : RE → RE
  | .fresh c => .val c.val
  | r => r
/-- an operand: no new cell -/
theorem RER.ext (e : Ext ρ H ρ' H') {r : RE} {x : V} (h : RER K fa ρ σ H r.norm x) : RER K fa ρ' σ H' r.norm x := by
  cases r with
  | val v => exact RV.mono e.le e.box h
  | fresh c => exact RV.mono e.le e.box h
  | pk i => exact h
def RERs (K : PySem.W.Frag) (fa : Nat → Addr) (ρ : Rho) (σ : St) (H : Hp) : List RE → List V → Prop
  | [], [] => True
  | r :: rs, x :: xs => RER K fa ρ σ H r.norm x ∧ RERs K fa ρ σ H rs xs
  | _, _ => False
theorem RERs.ext (e : Ext ρ H ρ' H') : ∀ {rs : List RE} {xs : List V}, RERs K fa ρ σ H rs xs → RERs K fa ρ' σ H' rs xs
  | [], [], _ => trivial
  | _ :: _, _ :: _, ⟨h, t⟩ => ⟨h.ext e, RERs.ext e t⟩
  | [], _ :: _, h => h.elim
  | _ :: _, [], h => h.elim

/-- the wish of an exception: its class by name, what it bears -/
structure Env1 where
  K : PySem.W.Frag
  fa : Nat → Addr
  ea : Str → Option Addr
abbrev XR := Ex → Value → Option Addr → Hp → Prop

/-- the reading of an evaluation at a state -/
def rdAt {α β : Type} (G : Env1) (xr : XR) (P : Hp) (R : Rho → St → Hp → α → β → Prop) (W : WX) (ρ : Rho) (m : Out α) (σ : St) (H : Hp) (Q : β → Hp → Prop) : Prop :=
  match m with
  | .ok r s' => ∀ ρ' H' b, Rel G.K G.fa P ρ' s' σ H' → Ext ρ H ρ' H' → R ρ' σ H' r b → Q b H'
  | .exc x s' => ∀ ρ' H' cls d, Rel G.K G.fa P ρ' s' σ H' → Ext ρ H ρ' H' → xr x cls d H' → W cls d σ H'
  | .bad => False
def rd {α β : Type} (G : Env1) (xr : XR) (P : Hp) (R : Rho → St → Hp → α → β → Prop) (W : WX) (m : M α) : St → Hp → (β → Hp → Prop) → Prop :=
  fun σ H Q => ∃ ρ s, Rel G.K G.fa P ρ s σ H ∧ rdAt G xr P R W ρ (m s) σ H Q
end
end Ev

set_option linter.all false
set_option maxRecDepth 100000
set_option maxHeartbeats 1000000
/-! Ev.B: how the ghost names change -/
namespace Ev
open PySem PySem.Spec L2
def setN (ρ : Rho) (nm : Nm) (o : Option Addr) : Rho := fun x => if x = nm then o else ρ x
theorem setN_same {ρ : Rho} {nm : Nm} {o : Option Addr} : setN ρ nm o nm = o := by simp [setN]
theorem setN_ne {ρ : Rho} {nm x : Nm} {o : Option Addr} (h : x ≠ nm) : setN ρ nm o x = ρ x := by simp [setN, h]
section
variable {K : PySem.W.Frag} {fa : Nat → Addr} {P : Hp} {ρ ρ' : Rho} {s : ES} {σ σ' : St} {H H' : Hp}
theorem Rel.mutAt (R : Rel K fa P ρ s σ H) : ∀ {nm : Nm} {a : Addr}, ρ nm = some a → Mut (H a)
  | .slot i, a, h => by
    have q := R.slot i
    unfold SlotR at q
    split at q
    · rw [q.1] at h; cases h
    · obtain ⟨b, e, _, c⟩ := q; rw [e] at h; cases h; exact c.mut
    · rw [q] at h; cases h
  | .box n, a, h => by
    have q := R.box n
    unfold BoxR at q
    split at q
    · obtain ⟨b, e, c⟩ := q; rw [e] at h; cases h; exact c.mut
    · rw [q] at h; cases h
  | .tmp b, a, h => by obtain ⟨e, m⟩ := R.tmp _ _ h; rw [e]; exact m
  | .held b, a, h => by obtain ⟨e, m⟩ := R.held _ _ h; rw [e]; exact m
theorem Rel.notNone (R : Rel K fa P ρ s σ H) {nm : Nm} {a : Addr} (h : H a = none) : ρ nm ≠ some a := fun e => by
  have m := R.mutAt e
  rw [h] at m; exact m
theorem SlotR.mono (hT : Le (cut H ρ) (cut H' ρ')) (hb : BoxLe ρ ρ') {i : Nat} {sl : Option Sl} (hn : ρ' (.slot i) = ρ (.slot i)) (hH : ∀ a, ρ (.slot i) = some a → H' a = H a) (hσ : σ'[i]? = σ[i]?)
    (h : SlotR K fa ρ σ H i sl) : SlotR K fa ρ' σ' H' i sl := by
  unfold SlotR at h ⊢
  split at h
  · obtain ⟨h1, V, h2, h3⟩ := h
    exact ⟨hn.trans h1, V, hσ.trans h2, h3.mono hT hb⟩
  · obtain ⟨a, h1, h2, h3⟩ := h
    exact ⟨a, hn.trans h1, hσ.trans h2, by rw [hH a h1]; exact h3.mono hT hb⟩
  · exact hn.trans h
theorem BoxR.mono (hT : Le (cut H ρ) (cut H' ρ')) (hb : BoxLe ρ ρ') {n : Nat} {c : Option Cell} (hn : ρ' (.box n) = ρ (.box n)) (hH : ∀ a, ρ (.box n) = some a → H' a = H a)
    (h : BoxR K fa ρ H n c) : BoxR K fa ρ' H' n c := by
  unfold BoxR at h ⊢
  split at h
  · obtain ⟨a, h1, h3⟩ := h
    exact ⟨a, hn.trans h1, by rw [hH a h1]; exact h3.mono hT hb⟩
  · exact hn.trans h
/-- a new object that is never changed -/
theorem Rel.laid (R : Rel K fa P ρ s σ H) {p : Addr} {o : HO} (hp : H p = none) : Rel K fa P ρ s σ (upd H p o) ∧ Ext ρ H ρ (upd H p o) := by
  have ne : ∀ {nm : Nm} {a : Addr}, ρ nm = some a → upd H p o a = H a := fun {nm a} e => upd_ne fun z => by subst z; exact R.notNone hp e
  have le : Le (cut H ρ) (cut (upd H p o) ρ) := fun a u h => by
    obtain ⟨h1, h2⟩ := cut_eq.mp h
    refine cut_eq.mpr ⟨h1, ?_⟩
    rw [upd_ne (fun z => by subst z; rw [hp] at h2; cases h2)]; exact h2
  refine ⟨⟨R.inj, fun a u h => le a u (R.base a u h), fun i => (R.slot i).mono le (fun _ _ h => h) rfl (fun a h => ne h) rfl, fun n => (R.box n).mono le (fun _ _ h => h) rfl fun a h => ne h, fun a b h => ?_, fun a b h => ?_, R.len⟩, le, fun _ _ h => h, fun a h => ⟨h, ne h⟩⟩
  · obtain ⟨e, m⟩ := R.tmp a b h
    subst e
    exact ⟨rfl, by rw [ne h]; exact m⟩
  · obtain ⟨e, m⟩ := R.held a b h
    subst e
    exact ⟨rfl, by rw [ne h]; exact m⟩
theorem Rel.cutNew (R : Rel K fa P ρ s σ H) {p : Addr} {o : HO} (hp : H p = none) : cut (upd H p o) ρ p = some o :=
  cut_eq.mpr ⟨fun nm => R.notNone hp, upd_same⟩
/-- a new cell, a result -/
theorem Rel.newTmp (R : Rel K fa P ρ s σ H) {p : Addr} {o : HO} (hp : H p = none) (hm : Mut (some o)) :
    Rel K fa P (setN ρ (.tmp p) (some p)) s σ (upd H p o) ∧ Ext ρ H (setN ρ (.tmp p) (some p)) (upd H p o) := by
  have ne : ∀ {nm : Nm} {a : Addr}, ρ nm = some a → a ≠ p := fun {nm a} e z => by subst z; exact R.notNone hp e
  have le : Le (cut H ρ) (cut (upd H p o) (setN ρ (.tmp p) (some p))) := fun a u h => by
    obtain ⟨h1, h2⟩ := cut_eq.mp h
    have ha : a ≠ p := fun z => by subst z; rw [hp] at h2; cases h2
    refine cut_eq.mpr ⟨fun nm e => ?_, by rw [upd_ne ha]; exact h2⟩
    by_cases hn : nm = .tmp p
    · subst hn; rw [setN_same] at e; exact ha (Option.some.inj e).symm
    · rw [setN_ne hn] at e; exact h1 nm e
  refine ⟨⟨fun x y a hx hy => ?_, fun a u h => le a u (R.base a u h), fun i => (R.slot i).mono le (fun _ _ h => by rw [setN_ne (by simp)]; exact h) (setN_ne (by simp)) (fun a h => upd_ne (ne h)) rfl,
    fun n => (R.box n).mono le (fun _ _ h => by rw [setN_ne (by simp)]; exact h) (setN_ne (by simp)) fun a h => upd_ne (ne h), fun a b h => ?_, fun a b h => ?_, R.len⟩, le, fun _ _ h => by rw [setN_ne (by simp)]; exact h, fun a h => ⟨by rw [setN_ne (by simp)]; exact h, upd_ne (ne h)⟩⟩
  · by_cases h1 : x = .tmp p
    · subst h1
      rw [setN_same] at hx
      cases hx
      by_cases h2 : y = .tmp p
      · exact h2.symm
      · rw [setN_ne h2] at hy; exact absurd rfl (ne hy)
    · rw [setN_ne h1] at hx
      by_cases h2 : y = .tmp p
      · subst h2; rw [setN_same] at hy; cases hy; exact absurd rfl (ne hx)
      · rw [setN_ne h2] at hy; exact R.inj x y a hx hy
  · by_cases h1 : a = p
    · subst h1; rw [setN_same] at h; cases h; exact ⟨rfl, by rw [upd_same]; exact hm⟩
    · rw [setN_ne (by simp [h1])] at h
      obtain ⟨e, m⟩ := R.tmp a b h
      subst e
      exact ⟨rfl, by rw [upd_ne h1]; exact m⟩
  · rw [setN_ne (by simp)] at h
    obtain ⟨e, m⟩ := R.held a b h
    subst e
    exact ⟨rfl, by rw [upd_ne (ne h)]; exact m⟩
/-- a name is given up: what it named stands for good -/
theorem cut_drop {nm : Nm} : Le (cut H ρ) (cut H (setN ρ nm none)) := fun a u h => by
  obtain ⟨h1, h2⟩ := cut_eq.mp h
  refine cut_eq.mpr ⟨fun x e => ?_, h2⟩
  by_cases hx : x = nm
  · subst hx; rw [setN_same] at e; cases e
  · rw [setN_ne hx] at e; exact h1 x e
theorem cut_dropped (inj : ∀ x y a, ρ x = some a → ρ y = some a → x = y) {nm : Nm} {a : Addr} {o : HO} (h : ρ nm = some a) (ho : H a = some o) : cut H (setN ρ nm none) a = some o := by
  refine cut_eq.mpr ⟨fun x e => ?_, ho⟩
  by_cases hx : x = nm
  · subst hx; rw [setN_same] at e; cases e
  · rw [setN_ne hx] at e; exact hx (inj x nm a e h)
theorem inj_drop (inj : ∀ x y a, ρ x = some a → ρ y = some a → x = y) {nm : Nm} : ∀ x y a, setN ρ nm none x = some a → setN ρ nm none y = some a → x = y := fun x y a hx hy => by
  by_cases h1 : x = nm
  · subst h1; rw [setN_same] at hx; cases hx
  · by_cases h2 : y = nm
    · subst h2; rw [setN_same] at hy; cases hy
    · rw [setN_ne h1] at hx; rw [setN_ne h2] at hy; exact inj x y a hx hy
theorem Rel.dropTmp (R : Rel K fa P ρ s σ H) {a : Addr} : Rel K fa P (setN ρ (.tmp a) none) s σ H ∧ Ext ρ H (setN ρ (.tmp a) none) H := by
  have bl : BoxLe ρ (setN ρ (.tmp a) none) := fun _ _ h => by rw [setN_ne (by simp)]; exact h
  refine ⟨⟨inj_drop R.inj, fun b u h => cut_drop b u (R.base b u h), fun i => (R.slot i).mono cut_drop bl (setN_ne (by simp)) (fun _ _ => rfl) rfl, fun n => (R.box n).mono cut_drop bl (setN_ne (by simp)) fun _ _ => rfl, fun b c h => ?_, fun b c h => ?_, R.len⟩, cut_drop, bl, fun b h => ⟨by rw [setN_ne (by simp)]; exact h, rfl⟩⟩
  · by_cases h1 : b = a
    · subst h1; rw [setN_same] at h; cases h
    · rw [setN_ne (by simp [h1])] at h; exact R.tmp b c h
  · rw [setN_ne (by simp)] at h; exact R.held b c h
theorem CellR.frz {c : Cell} {a : Addr} {T T' : Hp} (hT : Le T T') (hb : BoxLe ρ ρ') (h : CellR K fa ρ T c (H a)) (ha : ∀ o, H a = some o → T' a = some o) : RV K fa ρ' T' c.val (.ref a) := by
  cases c with
  | lst xs => obtain ⟨vs, e, r⟩ := h; exact .lst (ha _ e) (r.mono hT hb)
/-- an outcome as an operand -/
theorem Rel.hold (R : Rel K fa P ρ s σ H) {r : RE} {x : V} (h : RER K fa ρ σ H r x) : ∃ ρ', Rel K fa P ρ' s σ H ∧ Ext ρ H ρ' H ∧ RER K fa ρ' σ H r.norm x := by
  cases r with
  | val v => exact ⟨ρ, R, Ext.refl, h⟩
  | pk i => exact ⟨ρ, R, Ext.refl, h⟩
  | fresh c =>
    obtain ⟨a, e, ht, hc⟩ := h
    obtain ⟨R', E'⟩ := R.dropTmp (a := a)
    subst e
    exact ⟨_, R', E', CellR.frz E'.le E'.box hc fun o ho => cut_dropped R.inj ht ho⟩
/-- a slot's cell stands for good -/
theorem Rel.freeze (R : Rel K fa P ρ s σ H) {i : Nat} {c : Cell} (hi : s.env[i]? = some (.own c)) :
    ∃ a, σ[i]? = some (some (V.ref a)) ∧ Rel K fa P (setN ρ (.slot i) none) { s with env := s.env.set i (.val c.val) } σ H ∧ Ext ρ H (setN ρ (.slot i) none) H ∧ RV K fa (setN ρ (.slot i) none) (cut H (setN ρ (.slot i) none)) c.val (.ref a) := by
  have q := R.slot i
  rw [hi] at q
  obtain ⟨a, h1, h2, h3⟩ := q
  have bl : BoxLe ρ (setN ρ (.slot i) none) := fun _ _ h => by rw [setN_ne (by simp)]; exact h
  have rv : RV K fa (setN ρ (.slot i) none) (cut H (setN ρ (.slot i) none)) c.val (.ref a) := CellR.frz cut_drop bl h3 fun o ho => cut_dropped R.inj h1 ho
  refine ⟨a, h2, ⟨inj_drop R.inj, fun b u h => cut_drop b u (R.base b u h), fun j => ?_, fun n => (R.box n).mono cut_drop bl (setN_ne (by simp)) fun _ _ => rfl, fun b c h => ?_, fun b c h => ?_, by simpa using R.len⟩, ⟨cut_drop, bl, fun b h => ⟨by rw [setN_ne (by simp)]; exact h, rfl⟩⟩, rv⟩
  · by_cases hj : j = i
    · subst hj
      have hl : j < s.env.length := (List.getElem?_eq_some_iff.mp hi).1
      show SlotR K fa _ σ H j (s.env.set j (.val c.val))[j]?
      rw [List.getElem?_set_self hl]
      exact ⟨setN_same, _, h2, rv⟩
    · show SlotR K fa _ σ H j (s.env.set i (.val c.val))[j]?
      rw [List.getElem?_set_ne (Ne.symm hj)]
      exact (R.slot j).mono cut_drop bl (setN_ne (by simp [hj])) (fun _ _ => rfl) rfl
  · rw [setN_ne (by simp)] at h; exact R.tmp b c h
  · rw [setN_ne (by simp)] at h; exact R.held b c h
end
end Ev

set_option linter.all false
set_option maxRecDepth 100000
set_option maxHeartbeats 1000000
/-! Ev.C: stores -/
namespace Ev
open PySem PySem.Spec L2
section
variable {K : PySem.W.Frag} {fa : Nat → Addr} {P : Hp} {ρ ρ' : Rho} {s : ES} {σ σ' : St} {H H' : Hp}
theorem cut_upd {nm : Nm} {a : Addr} {o : HO} (h : ρ nm = some a) : cut (upd H a o) ρ = cut H ρ := by
  funext b
  unfold cut
  by_cases hb : ∃ nm, ρ nm = some b
  · rw [if_pos hb, if_pos hb]
  · rw [if_neg hb, if_neg hb]
    exact upd_ne fun z => by subst z; exact hb ⟨nm, h⟩
/-- a slot takes a value -/
theorem Rel.setVal (R : Rel K fa P ρ s σ H) {i : Nat} {v : PV} {V : L2.V} (hv : RV K fa ρ (cut H ρ) v V) (hi : i < s.env.length) :
    Rel K fa P (setN ρ (.slot i) none) { s with env := s.env.set i (.val v) } (σ.set i (some V)) H ∧ Ext ρ H (setN ρ (.slot i) none) H := by
  have bl : BoxLe ρ (setN ρ (.slot i) none) := fun _ _ h => by rw [setN_ne (by simp)]; exact h
  have hl : i < σ.length := by rw [← R.len]; exact hi
  refine ⟨⟨inj_drop R.inj, fun b u h => cut_drop b u (R.base b u h), fun j => ?_, fun n => (R.box n).mono cut_drop bl (setN_ne (by simp)) fun _ _ => rfl, fun b c h => ?_, fun b c h => ?_, by simpa using R.len⟩, ⟨cut_drop, bl, fun b h => ⟨by rw [setN_ne (by simp)]; exact h, rfl⟩⟩⟩
  · show SlotR K fa _ _ H j (s.env.set i (.val v))[j]?
    by_cases hj : j = i
    · subst hj
      rw [List.getElem?_set_self hi]
      exact ⟨setN_same, V, List.getElem?_set_self hl, hv.mono cut_drop bl⟩
    · rw [List.getElem?_set_ne (Ne.symm hj)]
      exact (R.slot j).mono cut_drop bl (setN_ne (by simp [hj])) (fun _ _ => rfl) (List.getElem?_set_ne (Ne.symm hj))
  · rw [setN_ne (by simp)] at h; exact R.tmp b c h
  · rw [setN_ne (by simp)] at h; exact R.held b c h
/-- a slot forgets -/
theorem Rel.setNone (R : Rel K fa P ρ s σ H) {i : Nat} {x : Option L2.V} :
    Rel K fa P (setN ρ (.slot i) none) { s with env := s.env.set i .none } (σ.set i x) H ∧ Ext ρ H (setN ρ (.slot i) none) H := by
  have bl : BoxLe ρ (setN ρ (.slot i) none) := fun _ _ h => by rw [setN_ne (by simp)]; exact h
  refine ⟨⟨inj_drop R.inj, fun b u h => cut_drop b u (R.base b u h), fun j => ?_, fun n => (R.box n).mono cut_drop bl (setN_ne (by simp)) fun _ _ => rfl, fun b c h => ?_, fun b c h => ?_, by simpa using R.len⟩, ⟨cut_drop, bl, fun b h => ⟨by rw [setN_ne (by simp)]; exact h, rfl⟩⟩⟩
  · show SlotR K fa _ _ H j (s.env.set i .none)[j]?
    by_cases hj : j = i
    · subst hj
      by_cases hi : j < s.env.length
      · rw [List.getElem?_set_self hi]; exact setN_same
      · rw [List.getElem?_eq_none (by simpa using hi)]; exact setN_same
    · rw [List.getElem?_set_ne (Ne.symm hj)]
      exact (R.slot j).mono cut_drop bl (setN_ne (by simp [hj])) (fun _ _ => rfl) (List.getElem?_set_ne (Ne.symm hj))
  · rw [setN_ne (by simp)] at h; exact R.tmp b c h
  · rw [setN_ne (by simp)] at h; exact R.held b c h
theorem inj_move (inj : ∀ x y a, ρ x = some a → ρ y = some a → x = y) {nm n0 : Nm} {a : Addr} (h : ρ n0 = some a) :
    ∀ x y b, setN (setN ρ n0 none) nm (some a) x = some b → setN (setN ρ n0 none) nm (some a) y = some b → x = y := by
  have no : ∀ z, setN ρ n0 none z ≠ some a := fun z e => by
    by_cases hz : z = n0
    · subst hz; rw [setN_same] at e; cases e
    · rw [setN_ne hz] at e; exact hz (inj z n0 a e h)
  intro x y b hx hy
  by_cases h1 : x = nm
  · subst h1
    rw [setN_same] at hx
    cases hx
    by_cases h2 : y = x
    · exact h2.symm
    · rw [setN_ne h2] at hy; exact absurd hy (no y)
  · rw [setN_ne h1] at hx
    by_cases h2 : y = nm
    · subst h2; rw [setN_same] at hy; cases hy; exact absurd hx (no x)
    · rw [setN_ne h2] at hy; exact inj_drop inj x y b hx hy
theorem cut_move {nm n0 : Nm} {a : Addr} (h : ρ n0 = some a) : Le (cut H ρ) (cut H (setN (setN ρ n0 none) nm (some a))) := fun b u hb => by
  obtain ⟨h1, h2⟩ := cut_eq.mp hb
  refine cut_eq.mpr ⟨fun x e => ?_, h2⟩
  by_cases hx : x = nm
  · subst hx; rw [setN_same] at e; cases e; exact h1 n0 h
  · rw [setN_ne hx] at e
    by_cases hy : x = n0
    · subst hy; rw [setN_same] at e; cases e
    · rw [setN_ne hy] at e; exact h1 x e
/-- a slot takes a new cell -/
theorem Rel.setFresh (R : Rel K fa P ρ s σ H) {i : Nat} {c : Cell} {a : Addr} (ht : ρ (.tmp a) = some a) (hc : CellR K fa ρ (cut H ρ) c (H a)) (hi : i < s.env.length) :
    Rel K fa P (setN (setN ρ (.tmp a) none) (.slot i) (some a)) { s with env := s.env.set i (.own c) } (σ.set i (some (V.ref a))) H ∧ Ext ρ H (setN (setN ρ (.tmp a) none) (.slot i) (some a)) H := by
  have bl : BoxLe ρ (setN (setN ρ (.tmp a) none) (.slot i) (some a)) := fun _ _ h => by rw [setN_ne (by simp), setN_ne (by simp)]; exact h
  have le : Le (cut H ρ) (cut H (setN (setN ρ (.tmp a) none) (.slot i) (some a))) := cut_move ht
  have hl : i < σ.length := by rw [← R.len]; exact hi
  refine ⟨⟨inj_move R.inj ht, fun b u h => le b u (R.base b u h), fun j => ?_, fun n => (R.box n).mono le bl (by rw [setN_ne (by simp), setN_ne (by simp)]) fun _ _ => rfl, fun b c h => ?_, fun b c h => ?_, by simpa using R.len⟩, ⟨le, bl, fun b h => ⟨by rw [setN_ne (by simp), setN_ne (by simp)]; exact h, rfl⟩⟩⟩
  · show SlotR K fa _ _ H j (s.env.set i (.own c))[j]?
    by_cases hj : j = i
    · subst hj
      rw [List.getElem?_set_self hi]
      exact ⟨a, setN_same, List.getElem?_set_self hl, hc.mono le bl⟩
    · rw [List.getElem?_set_ne (Ne.symm hj)]
      exact (R.slot j).mono le bl (by rw [setN_ne (by simp [hj]), setN_ne (by simp)]) (fun _ _ => rfl) (List.getElem?_set_ne (Ne.symm hj))
  · rw [setN_ne (by simp)] at h
    by_cases hb : b = a
    · subst hb; rw [setN_same] at h; cases h
    · rw [setN_ne (by simp [hb])] at h; exact R.tmp b c h
  · rw [setN_ne (by simp), setN_ne (by simp)] at h; exact R.held b c h
/-- a new cell goes to the store -/
theorem Rel.newBox (R : Rel K fa P ρ s σ H) {c : Cell} {a : Addr} (ht : ρ (.tmp a) = some a) (hc : CellR K fa ρ (cut H ρ) c (H a)) :
    ∃ ρ', Rel K fa P ρ' { s with st := s.st ++ [c] } σ H ∧ Ext ρ H ρ' H ∧ ρ' (.box s.st.length) = some a := by
  have nb : ρ (.box s.st.length) = none := by
    have q := R.box s.st.length
    rw [List.getElem?_eq_none (Nat.le_refl _)] at q
    exact q
  have bl : BoxLe ρ (setN (setN ρ (.tmp a) none) (.box s.st.length) (some a)) := fun n b h => by
    by_cases hn : n = s.st.length
    · subst hn; rw [nb] at h; cases h
    · rw [setN_ne (by simp [hn]), setN_ne (by simp)]; exact h
  have le : Le (cut H ρ) (cut H (setN (setN ρ (.tmp a) none) (.box s.st.length) (some a))) := cut_move ht
  refine ⟨_, ⟨inj_move R.inj ht, fun b u h => le b u (R.base b u h), fun j => ?_, fun n => ?_, fun b c h => ?_, fun b c h => ?_, R.len⟩, ⟨le, bl, fun b h => ⟨by rw [setN_ne (by simp), setN_ne (by simp)]; exact h, rfl⟩⟩, setN_same⟩
  · exact (R.slot j).mono le bl (by rw [setN_ne (by simp), setN_ne (by simp)]) (fun _ _ => rfl) rfl
  · show BoxR K fa _ H n (s.st ++ [c])[n]?
    by_cases hn : n = s.st.length
    · subst hn
      rw [List.getElem?_append_right (Nat.le_refl _), Nat.sub_self]
      exact ⟨a, setN_same, hc.mono le bl⟩
    · have e : (s.st ++ [c])[n]? = s.st[n]? := by
        by_cases hlt : n < s.st.length
        · exact List.getElem?_append_left hlt
        · rw [List.getElem?_eq_none (by simp; omega), List.getElem?_eq_none (by omega)]
      rw [e]
      exact (R.box n).mono le bl (by rw [setN_ne (by simp [hn]), setN_ne (by simp)]) fun _ _ => rfl
  · rw [setN_ne (by simp)] at h
    by_cases hb : b = a
    · subst hb; rw [setN_same] at h; cases h
    · rw [setN_ne (by simp [hb])] at h; exact R.tmp b c h
  · rw [setN_ne (by simp), setN_ne (by simp)] at h; exact R.held b c h
theorem Rel.ne_of (R : Rel K fa P ρ s σ H) {x y : Nm} {a b : Addr} (h : ρ x = some a) (h' : ρ y = some b) (n : x ≠ y) : b ≠ a := fun z => by
  subst z; exact n (R.inj x y b h h')
/-- an owned cell is changed -/
theorem Rel.updOwn (R : Rel K fa P ρ s σ H) {i : Nat} {c' : Cell} {a : Addr} {o : HO} (ha : ρ (.slot i) = some a) (hs : σ[i]? = some (some (V.ref a))) (hc : CellR K fa ρ (cut H ρ) c' (some o)) :
    Rel K fa P ρ { s with env := s.env.set i (.own c') } σ (upd H a o) ∧ Ext ρ H ρ (upd H a o) := by
  have ce := cut_upd (H := H) (o := o) ha
  have le : Le (cut H ρ) (cut (upd H a o) ρ) := fun b u h => by rw [ce]; exact h
  have hi : i < s.env.length := by rw [R.len]; exact (List.getElem?_eq_some_iff.mp hs).1
  refine ⟨⟨R.inj, fun b u h => le b u (R.base b u h), fun j => ?_, fun n => (R.box n).mono le (fun _ _ h => h) rfl fun b h => upd_ne (R.ne_of ha h (by simp)), fun b d h => ?_, fun b d h => ?_, by simpa using R.len⟩, le, fun _ _ h => h, fun b h => ⟨h, upd_ne (R.ne_of ha h (by simp))⟩⟩
  · show SlotR K fa _ _ _ j (s.env.set i (.own c'))[j]?
    by_cases hj : j = i
    · subst hj
      rw [List.getElem?_set_self hi]
      exact ⟨a, ha, hs, by rw [ce, upd_same]; exact hc⟩
    · rw [List.getElem?_set_ne (Ne.symm hj)]
      exact (R.slot j).mono le (fun _ _ h => h) rfl (fun b h => upd_ne (R.ne_of ha h (by simp [Ne.symm hj]))) rfl
  · obtain ⟨e, m⟩ := R.tmp b d h
    subst e
    exact ⟨rfl, by rw [upd_ne (R.ne_of ha h (by simp))]; exact m⟩
  · obtain ⟨e, m⟩ := R.held b d h
    subst e
    exact ⟨rfl, by rw [upd_ne (R.ne_of ha h (by simp))]; exact m⟩
/-- a cell of the store is changed -/
theorem Rel.updBox (R : Rel K fa P ρ s σ H) {n : Nat} {c' : Cell} {a : Addr} {o : HO} (ha : ρ (.box n) = some a) (hc : CellR K fa ρ (cut H ρ) c' (some o)) :
    Rel K fa P ρ { s with st := s.st.set n c' } σ (upd H a o) ∧ Ext ρ H ρ (upd H a o) := by
  have ce := cut_upd (H := H) (o := o) ha
  have le : Le (cut H ρ) (cut (upd H a o) ρ) := fun b u h => by rw [ce]; exact h
  have hn : n < s.st.length := by
    have q := R.box n
    by_cases hl : n < s.st.length
    · exact hl
    · rw [List.getElem?_eq_none (by omega)] at q
      have q' : ρ (.box n) = none := q
      rw [ha] at q'; cases q'
  refine ⟨⟨R.inj, fun b u h => le b u (R.base b u h), fun j => (R.slot j).mono le (fun _ _ h => h) rfl (fun b h => upd_ne (R.ne_of ha h (by simp))) rfl, fun m => ?_, fun b d h => ?_, fun b d h => ?_, R.len⟩, le, fun _ _ h => h, fun b h => ⟨h, upd_ne (R.ne_of ha h (by simp))⟩⟩
  · show BoxR K fa _ _ m (s.st.set n c')[m]?
    by_cases hm : m = n
    · subst hm
      rw [List.getElem?_set_self hn]
      exact ⟨a, ha, by rw [ce, upd_same]; exact hc⟩
    · rw [List.getElem?_set_ne (Ne.symm hm)]
      exact (R.box m).mono le (fun _ _ h => h) rfl fun b h => upd_ne (R.ne_of ha h (by simp [Ne.symm hm]))
  · obtain ⟨e, m⟩ := R.tmp b d h
    subst e
    exact ⟨rfl, by rw [upd_ne (R.ne_of ha h (by simp))]; exact m⟩
  · obtain ⟨e, m⟩ := R.held b d h
    subst e
    exact ⟨rfl, by rw [upd_ne (R.ne_of ha h (by simp))]; exact m⟩
/-- a held cell is changed -/
theorem Rel.updHeld (R : Rel K fa P ρ s σ H) {a : Addr} {o : HO} (ha : ρ (.held a) = some a) (hm : Mut (some o)) :
    Rel K fa P ρ s σ (upd H a o) ∧ cut (upd H a o) ρ = cut H ρ ∧ ∀ b, b ≠ a → upd H a o b = H b := by
  have ce := cut_upd (H := H) (o := o) ha
  have le : Le (cut H ρ) (cut (upd H a o) ρ) := fun b u h => by rw [ce]; exact h
  refine ⟨⟨R.inj, fun b u h => le b u (R.base b u h), fun j => (R.slot j).mono le (fun _ _ h => h) rfl (fun b h => upd_ne (R.ne_of ha h (by simp))) rfl, fun m => (R.box m).mono le (fun _ _ h => h) rfl fun b h => upd_ne (R.ne_of ha h (by simp)), fun b d h => ?_, fun b d h => ?_, R.len⟩, ce, fun b hb => upd_ne hb⟩
  · obtain ⟨e, m⟩ := R.tmp b d h
    subst e
    exact ⟨rfl, by rw [upd_ne (R.ne_of ha h (by simp))]; exact m⟩
  · obtain ⟨e, m⟩ := R.held b d h
    subst e
    by_cases hb : d = a
    · subst hb; exact ⟨rfl, by rw [upd_same]; exact hm⟩
    · exact ⟨rfl, by rw [upd_ne hb]; exact m⟩
end
end Ev

set_option linter.all false
set_option maxRecDepth 100000
set_option maxHeartbeats 1000000
/-! Ev.R: the promise of a def that is called where no guard stands (repr asks it) -/
namespace Ev
open PySem PySem.Spec L2
open PyProof.Rows hiding St
structure RoomG (k : Nat) (A : Around) : Prop where
  r : L2.Room k A
  g : A.guards = some []
theorem RoomG.deeper {k : Nat} {A : Around} (q : RoomG (k + 1) A) (env : Env) : RoomG k (A.deeper env) := ⟨q.r.deeper env, q.g⟩
structure FnG (P : Program) (w : World) (K : PySem.W.Frag) (mg : Str → Option Value) (base : Heap) (CX : CXT) (k : Nat) (f : Addr) (fd : FuncData) (ps : List Str) (sp : Sp) : Prop where
  len : ∀ xs H Q E, sp xs H Q E → xs.length = ps.length
  run : ∀ (B : Around) (outer : List Env) (s : Shared) (H : Hp) (args : Args) (us : List Value) (xs : List V) (Q : VK) (E : XK), RoomG k B → Env0 P w K mg base B outer s H → BindsTo s fd args (ps.zip us) → Vals xs us → sp xs H Q E →
    codeAny (model P w) B (.call (.ref f) args) (CR CX outer P w H s Q E) s
section
variable {X : Cx} {CX : CXT} {k : Nat} {f C : Addr} {fd : FuncData} {ps : List Str} {sp : Sp} {E : St → XK}
theorem run_fnG {pins : List (Addr × Obj)} {σ : St} {H : Hp} {s : Shared} {Q : VK} {us : List Value} {xs : List V} (Fg : FnG X.prog X.w X.K X.mg X.base CX k f fd ps sp) (rm : RoomG k X.A) (bq : Binds X.K fd ps []) (hx : PassesAt CX X σ (E σ))
    (J : Inv X pins σ H s) (r : Vals xs us) (h : sp xs H Q (E σ)) : wpAny (model X.prog X.w) X.A (call (.ref f) us) (EP X pins σ Q) X.xe s := by
  have lq : us.length = ps.length := by rw [← r.length]; exact Fg.len _ _ _ _ h
  have b0 := bq s us J.kIn (by rw [List.append_nil]; exact lq)
  rw [List.append_nil] at b0
  refine wpAny_call (codeAny_mono (Fg.run X.A X.stack s H ⟨us, []⟩ us xs Q (E σ) rm J.env0 b0 r h) fun r1 s1 hq => ?_)
  cases r1 with
  | error e => exact hx pins H s e s1 J hq
  | ok fl =>
    cases fl with
    | ret u => exact J.after hq
    | next => exact hq.elim
    | brk => exact hq.elim
    | cont => exact hq.elim
end
theorem fn_ofG {CXq : CXT} {Pr : Program} {wo : World} {Kf : PySem.W.Frag} {mq : Str → Option Value} {bs0 : Heap} {k : Nat} {f : Addr} {name qual : Str} {params : Arguments} {body : List Stmt} {scope : Scope} {dV kV doc pm cdv ct oc : Value} {an od : Option Addr}
    {osl : Array (Option Value)} {N ps : List Str} {spp : Sp} (lkq : Kf.lookup f = some ⟨oc, od, .func (PySem.W.fnOf name qual params body scope dV kV doc pm an cdv ct), osl⟩) (cdq : PySem.W.codeIn Kf cdv qual = true) (S : FnScope N ps scope)
    (len : ∀ xs0 H Q E, spp xs0 H Q E → xs0.length = ps.length)
    (bdy : ∀ (A : Around) (outer : List Env) (s : Shared) (H : Hp) (xs0 : List V) (Q : VK) (E : XK), RoomG k (A.deeper (envOfC qual scope s.heap.objs.size f cdv)) → spp xs0 H Q E →
      ∃ t, PSs (cxOf CXq Pr wo Kf mq bs0 N qual scope f cdv A outer s H E) body t ∧ t { nx := fun _ H' => Q .non H', rt := Q } (start N xs0) H) :
    FnG Pr wo Kf mq bs0 CXq (k + 1) f (PySem.W.fnOf name qual params body scope dV kV doc pm an cdv ct) ps spp := by
  refine ⟨len, fun A outer s H args us0 xs0 Q E rm ev0 bq r spq => ?_⟩
  have lq := len _ _ _ _ spq
  have kq : Kf.In s.heap := ev0.mod.kin.keeps fun b o e => (ev0.bs b o e).1
  have nl : s.heap.NoLimit := ev0.mod.nolimit.keeps fun b o e => (ev0.bs b o e).1
  have kinds : ∀ y ∈ ps.zip us0, scope.names.lookup y.1 = some .local ∨ (scope.names.lookup y.1 = some .cell ∧ ((cellsFrom (s.heap.objs.size + 1) scope.names []).lookup y.1).isSome = true) := fun ⟨n, v⟩ hy => by
    rcases S.par n (List.of_mem_zip hy).1 with q | q
    · exact .inl q
    · exact .inr ⟨q, PySem.W.cellsFrom_some _ _ _ (.inl q)⟩
  refine codeAny_call_function rm.r.depth (kq _ _ lkq) rfl S.co S.gen rfl (PySem.W.codeRec_of kq cdq) (bq _ _ _ _ ?_)
  refine wpAny_newFunctionEnv_cells S.kind kinds fun env he s1 x => ?_
  subst he
  refine ⟨nl.keeps x.toInCall.keep, codeAny_func ?_⟩
  obtain ⟨t, ht, hq⟩ := bdy A outer s H xs0 Q E (rm.deeper _) spq
  have Iq : Inv (cxOf CXq Pr wo Kf mq bs0 N qual scope f cdv A outer s H E) [] (start N xs0) H s1 := inv_start S rm.r.hd ev0 lq r x
  refine wpAny_mono (ht.run [] s1 (start N xs0) H _ Iq hq) (fun fl s' hs => ?_) fun e s' hs => hs
  have finq : ∀ {σ' : St} {H' : Hp} {v : V} {u : Value}, Inv (cxOf CXq Pr wo Kf mq bs0 N qual scope f cdv A outer s H E) [] σ' H' s' → RelV v u → Q v H' → CE outer Pr wo H s Q u s' :=
    fun {σ' H' v u} J rvq q => ⟨v, H', J.os, J.bare, J.base, J.hok, rvq, q⟩
  cases fl with
  | ret u =>
    obtain ⟨v, σ', H', J, rvq, q⟩ := hs
    exact finq J rvq q
  | next =>
    obtain ⟨σ', H', J, q⟩ := hs
    exact finq (v := V.non) (u := Value.none) J rfl q
  | brk =>
    obtain ⟨_, _, _, q⟩ := hs
    exact False.elim q
  | cont =>
    obtain ⟨_, _, _, q⟩ := hs
    exact False.elim q

theorem okG {Pr : Program} {wo : World} {Kf : PySem.W.Frag} {mq : Str → Option Value} {bs0 : Heap} {x qual : Str} {st : Stmt} {f : Addr} {fd : FuncData} {N ps : List Str} {k : Nat} {spp : Sp} (F0 : L2.Fun Kf x qual st f fd) (S : FnScope N ps (defScope st)) (len : ∀ vs H Q E, spp vs H Q E → vs.length = ps.length)
    (bdy : ∀ (cdv : Value) (A : Around) (outer : List Env) (s : Shared) (H : Hp) (vs : List V) (Q : VK) (E : XK), RoomG k (A.deeper (envOfC qual (defScope st) s.heap.objs.size f cdv)) → spp vs H Q E →
      ∃ t, PSs (cxOf (L2.CX Pr wo) Pr wo Kf mq bs0 N qual (defScope st) f cdv A outer s H E) (defBody st) t ∧ t { nx := fun _ H' => Q .non H', rt := Q } (L2.start N vs) H) : FnG Pr wo Kf mq bs0 (L2.CX Pr wo) (k + 1) f fd ps spp := by
  obtain ⟨oc, od, kV, doc, pm, an, cdv, ct, osl, rfl, lkq, cdq⟩ := F0.ex
  exact fn_ofG lkq cdq S len fun A outer s H vs Q E rm hsp => bdy cdv A outer s H vs Q E rm hsp
theorem law_callG {Pr : Program} {wo : World} {Kf : PySem.W.Frag} {mq mb : Str → Option Value} {CXq : CXT} {k : Nat} {fa a : Addr} {fd : FuncData} {x : Str} {spp : Sp} {sb : Shared} {xs0 : List Value} {ns : List Int}
    (kq : Kf.In sb.heap) (nsp : sb.heap.Ns mainGlobals mq) (bq : sb.heap.Ns builtinsNs mb) (bbq : ∀ x : Str, x ≠ "__name__" → mb x = bootBuiltins x) (nlq : sb.heap.NoLimit) (gnq : sb.gens = #[])
    (adr : sb.heap.get? a = some { cls := .type "list", data := .seq xs0.toArray }) (intq : IntsAre xs0 ns) (lq : ns.length ≤ sizeLine) (rm : L2.Room k callerA)
    (Fq : ∀ bs0 : Heap, Kf.In bs0 → bs0.Ns mainGlobals mq → FnG Pr wo Kf mq bs0 CXq k fa fd [x] spp) (bindq : ∀ (s : Shared) (u : Value), BindsTo s fd ⟨[u], []⟩ [(x, u)])
    (spq : ∀ H : Hp, Only H → SqL Kf H a (ns.map V.int) → spp [.ref a] H (fun v _ => v = .bl true) fun _ _ _ => False)
    (cxq : ∀ H e s', CXq [] H sb (fun _ _ _ => False) e s' → False) :
    codeAny (model Pr wo) callerA (.call (.ref fa) ⟨[.ref a], []⟩) (fun r s' => r = .ok (.ret (.bool true)) ∧ OldK sb.heap s'.heap ∧ s'.os = sb.os ∧ AllBare s'.gens) sb := by
  have rvq := vals_ints intq
  have lnq := intq.length
  -- from an abstract heap in which nothing but the script may be tracked
  have corq : ∀ H : Hp, Only H → SqL Kf H a (ns.map V.int) → HOk Pr wo H sb.heap → (∀ b, H b ≠ none → b = a) → (H a ≠ none → Kf.lookup a = none) →
      codeAny (model Pr wo) callerA (.call (.ref fa) ⟨[.ref a], []⟩) (fun r s' => r = .ok (.ret (.bool true)) ∧ OldK sb.heap s'.heap ∧ s'.os = sb.os ∧ AllBare s'.gens) sb := by
    intro H onl scq okq adq kdq
    have bof : ∀ {b : Addr} {o : Obj}, sb.heap.get? b = some o → H b = none → (hidT sb.heap H).get? b = some o := fun e n => hidT_get e n
    have nod : ∀ {b : Addr} {o : Obj} {es : Array DictEntry} {ep : Nat}, sb.heap.get? b = some o → o.data = .dict es ep → H b = none := fun {b o es ep} e d => by
      cases q : H b with
      | none => rfl
      | some u =>
        have e' : b = a := adq b (by rw [q]; simp)
        subst e'
        rw [adr] at e; cases e
        have d' : Data.seq xs0.toArray _ = Data.dict es ep := d
        cases d'
    have nsq : ∀ {b : Addr} {m : Str → Option Value}, sb.heap.Ns b m → (hidT sb.heap H).Ns b m := fun {b m} ⟨o, es, ep, e, d, r⟩ => ⟨o, es, ep, bof e (nod e d), d, r⟩
    have kinq : Kf.In (hidT sb.heap H) := fun b o e => bof (kq b o e) (by
      cases q : H b with
      | none => rfl
      | some u =>
        have e' : b = a := adq b (by rw [q]; simp)
        subst e'
        rw [kdq (by rw [q]; simp)] at e; cases e)
    have mdq : Mod Kf mq (hidT sb.heap H) := ⟨kinq, nsq nsp, ⟨mb, nsq bq, bbq⟩, let ⟨mc, h1, h2⟩ := nlq; ⟨mc, nsq h1, h2⟩⟩
    have ev0 : Env0 Pr wo Kf mq (hidT sb.heap H) callerA [] sb H := ⟨rfl, mdq, fun b o e => of_hidT e, Nat.le_of_eq (hidT_size _ _), trivial, fun b bq => absurd (show b ∈ ([] : List Addr) from bq) (by simp), okq, .of_eq gnq⟩
    refine codeAny_mono ((Fq _ kinq (nsq nsp)).run callerA [] sb H ⟨[.ref a], []⟩ [.ref a] [.ref a] _ _ ⟨rm, rfl⟩ ev0 (bindq sb (.ref a)) (.cons rfl .nil) (spq H onl scq)) fun r s' h => ?_
    cases r with
    | error e => exact (cxq H e s' h).elim
    | ok fl =>
      cases fl with
      | next => exact False.elim h
      | brk => exact False.elim h
      | cont => exact False.elim h
      | ret u =>
        obtain ⟨v, H', oq, barq, unq, hok', r', q⟩ := h
        have q' : v = .bl true := q
        subst q'
        obtain rfl : u = Value.bool true := r'
        refine ⟨rfl, OldK.of_keep fun b o e => ?_, oq, barq⟩
        cases q : H b with
        | none => exact unq.keep b o e q (by intro z; exact absurd (show b ∈ ([] : List Addr) from z) (by simp)) (by simp)
        | some u =>
          rcases onl b with z | ⟨ob, xs, z⟩
          · rw [q] at z; cases z
          · have z2 := unq.frzs b ob _ z
            obtain ⟨e1, _⟩ := okq b _ z
            obtain ⟨e2, _⟩ := hok' b _ z2
            rw [e] at e1; cases e1
            exact e2
  cases hk : Kf.lookup a with
  | some o =>
    -- the script is one of the module's own objects
    have e := kq a o hk
    rw [adr] at e
    cases e
    refine corq (fun _ => none) (fun _ => .inl rfl) (.inr ⟨_, xs0.toArray, _, hk, rfl, rfl, rfl, by rw [List.size_toArray, lnq]; exact lq, by simpa using rvq⟩) (fun b u z => by have z' : (none : Option HO) = some u := z; cases z') (fun b z => absurd rfl z) fun z => absurd rfl z
  | none =>
    refine corq (fun b => if b = a then some (.frz { cls := .type "list", data := .seq xs0.toArray } (.lst (ns.map V.int))) else none) (fun b => ?_) (.inl (.inr ⟨{ cls := .type "list", data := .seq xs0.toArray }, if_pos rfl⟩)) (fun b u z => ?_) (fun b z => ?_) fun _ => hk
    · by_cases bq : b = a
      · exact .inr ⟨_, _, if_pos bq⟩
      · exact .inl (if_neg bq)
    · by_cases bq : b = a
      · have z' := (if_pos bq).symm.trans z
        cases z'
        subst bq
        exact ⟨adr, by rw [List.length_map]; exact lq, xs0, _, rvq, adr⟩
      · have z' := (if_neg bq).symm.trans z
        cases z'
    · by_cases bq : b = a
      · exact bq
      · exact absurd (if_neg bq) z

theorem walk_ofG {l : PySem.W.OpenLaw} {n k : Nat} {q : Program} {loose : List Str} {XP : (Str → Option Value) → Heap → Prop} {YP : World → Heap → Prop} {d : DefRec} {Kq : Params → PySem.W.Frag} {CXq : World → CXT} {spp : World → Sp} {x : Str}
    (hn : l.most = some n) (hn2 : n ≤ sizeLine) (hdf : d.params.defaults = []) (rm : L2.Room k callerA)
    (hY : ∀ (w : World) (h : Heap), YP w h → (Kq w.params).In h)
    (Fg : ∀ (w : World) (mg : Str → Option Value) (fa : Addr) (h : Heap), (Kq w.params).In h → h.Ns mainGlobals mg → mg d.name = some (.ref fa) →
      ∃ fd : FuncData, (∀ (s : Shared) (u : Value), BindsTo s fd ⟨[u], []⟩ [(x, u)]) ∧
        ∀ bs0 : Heap, (Kq w.params).In bs0 → bs0.Ns mainGlobals mg → FnG l.prog w (Kq w.params) mg bs0 (CXq w) k fa fd [x] (spp w))
    (spq : ∀ (w : World) (H : Hp) (a : Addr) (ns : List Int), ns.length ≤ n → (∀ z ∈ ns, Builtin.Int.intBits z ≤ 1048576) → Only H → SqL (Kq w.params) H a (ns.map V.int) → spp w [.ref a] H (fun v _ => v = .bl true) fun _ _ _ => False)
    (cxq : ∀ (w : World) (H : Hp) (s : Shared) (e : Value) (s' : Shared), CXq w [] H s (fun _ _ _ => False) e s' → False) :
    PySem.W.WalkO q loose XP YP l.row.toRowW d [] (fun f vs => PySem.call f vs) := by
  refine Att.attach_callB hn hdf fun w s₀ sb mg mb fa o pm cd doc a vs ns Gq Yq ho hd hcd hmg hobj hints hlen hbits gnq => ?_
  have kq := hY w _ Yq
  obtain ⟨fd, bq, Fq⟩ := Fg w mg fa _ kq Gq.T.g hmg
  exact law_callG kq Gq.T.g Gq.T.b Gq.T.builtins Gq.T.nolimit gnq hobj hints (Nat.le_trans hlen hn2) rm Fq bq (fun H onl scq => spq w H a ns hlen hbits onl scq) fun H e s' => cxq w H sb e s'
end Ev

set_option linter.all false
set_option maxRecDepth 100000
set_option maxHeartbeats 1000000
/-! Ev.S: the evaluator -/
namespace Ev
open PySem PySem.Spec L2

/-! ### operations by values -/
def LIM : Nat := 16777216
mutual
def toPy : PV → Option PyData
  | .non => some .none
  | .bl b => some (.bool b)
  | .int i => some (.int i)
  | .str x => some (.str x)
  | .tup xs => (toPys xs).map .tuple
  | .lst xs => (toPys xs).map .list
  | .scr _ => none
  | .box _ => none
  | .fn _ => none
def toPys : List PV → Option (List PyData)
  | [] => some []
  | x :: xs => match toPy x with
    | none => none
    | some d => (toPys xs).map (d :: ·)
end
def mulOk (i j : Int) : Bool := (decide (-(2 ^ 64) < i) && decide (i < 2 ^ 64)) || (decide (-(2 ^ 64) < j) && decide (j < 2 ^ 64)) || decide (i.natAbs.log2 + j.natAbs.log2 < 1000000)
def divOk (j : Int) : Bool := decide (j ≠ 0) && (decide (j.natAbs < 1073741824) || (decide (0 < j) && decide (j.natAbs.log2 < 9000)))
def shlOk (i j : Int) : Bool := decide (0 ≤ j) && decide ((Builtin.Int.intBits i : Int) + j ≤ 2 ^ 27)
def powOk (i j : Int) : Bool := decide (0 ≤ j) && decide (j ≤ 1000000) && decide (i.natAbs < 2 ^ 64)
def repOk (n : Nat) (k : Int) : Bool := decide (-(2 ^ 63) ≤ k) && decide (k < 2 ^ 63) && decide (n * k.toNat ≤ LIM)
def repTOk (n : Nat) (k : Int) : Bool := decide (0 < n) && decide (-(2 ^ 63) ≤ k) && decide (k ≤ 1000) && decide (n ≤ 1000)
def binV (op : Operator) (u v : PV) : Option RE :=
  match op with
  | .Add => match u, v with
    | .int i, .int j => some (.val (.int (i + j)))
    | .str x, .str y => if x.length + y.length ≤ LIM then some (.val (.str (x ++ y))) else none
    | .tup xs, .tup ys => if xs.length + ys.length ≤ LIM then some (.val (.tup (xs ++ ys))) else none
    | .lst xs, .lst ys => if xs.length + ys.length ≤ LIM then some (.fresh (.lst (xs ++ ys))) else none
    | _, _ => none
  | .Sub => match u, v with
    | .int i, .int j => some (.val (.int (i - j)))
    | _, _ => none
  | .Mult => match u, v with
    | .int i, .int j => if mulOk i j then some (.val (.int (i * j))) else none
    | .lst xs, .int k => if repOk xs.length k then some (.fresh (.lst (List.replicate k.toNat xs).flatten)) else none
    | .tup xs, .int k => if repTOk xs.length k then some (.val (.tup (List.replicate k.toNat xs).flatten)) else none
    | _, _ => none
  | .FloorDiv => match u, v with
    | .int i, .int j => if divOk j then some (.val (.int (i.fdiv j))) else none
    | _, _ => none
  | .Mod => match u, v with
    | .int i, .int j => if j = 0 then none else some (.val (.int (i.fmod j)))
    | _, _ => none
  | .Pow => match u, v with
    | .int i, .int j => if powOk i j then some (.val (.int (i ^ j.toNat))) else none
    | _, _ => none
  | .LShift => match u, v with
    | .int i, .int j => if shlOk i j then some (.val (.int (i * 2 ^ j.toNat))) else none
    | _, _ => none
  | _ => none
/-- scalars and whole data -/
def eqPV (u v : PV) : Option Bool :=
  match u, v with
  | .int i, .int j => some (decide (i = j))
  | .bl i, .bl j => some (decide (i = j))
  | .str i, .str j => some (decide (i = j))
  | .non, .non => some true
  | _, _ => match toPy u, toPy v with
    | some d, some e => if SeqAt.shaped d && SeqAt.shaped e then some (PyData.eqv d e) else none
    | _, _ => none
def flatP : PV → Bool
  | .non => true | .bl _ => true | .int _ => true | .str _ => true | _ => false
def eqF : PV → PV → Bool
  | .non, .non => true
  | .bl a, .bl b => a == b
  | .bl a, .int b => (if a then 1 else 0) == b
  | .int a, .bl b => a == (if b then 1 else 0)
  | .int a, .int b => a == b
  | .str a, .str b => a == b
  | _, _ => false
def inV (u : PV) (xs : List PV) : Option Bool := if flatP u && xs.all flatP then some (xs.any fun y => eqF y u) else none
def cmpV (op : CmpOp) (u v : PV) : Option Bool :=
  match op with
  | .Lt => match u, v with | .int i, .int j => some (decide (i < j)) | _, _ => none
  | .LtE => match u, v with | .int i, .int j => some (decide (i ≤ j)) | _, _ => none
  | .Gt => match u, v with | .int i, .int j => some (decide (j < i)) | _, _ => none
  | .GtE => match u, v with | .int i, .int j => some (decide (j ≤ i)) | _, _ => none
  | .Eq => eqPV u v
  | .NotEq => (eqPV u v).map (!·)
  | .Is => match u, v with
    | .bl a, .bl b => some (decide (a = b))
    | .non, .non => some true
    | .bl _, .non => some false | .int _, .non => some false | .str _, .non => some false | .tup _, .non => some false | .lst _, .non => some false
    | _, _ => none
  | .IsNot => match u, v with
    | .bl a, .bl b => some (!decide (a = b))
    | .non, .non => some false
    | .bl _, .non => some true | .int _, .non => some true | .str _, .non => some true | .tup _, .non => some true | .lst _, .non => some true
    | _, _ => none
  | .In => match v with
    | .tup xs => inV u xs
    | .lst xs => inV u xs
    | _ => none
  | .NotIn => match v with
    | .tup xs => (inV u xs).map (!·)
    | .lst xs => (inV u xs).map (!·)
    | _ => none
def truV : PV → Option Bool
  | .non => some false
  | .bl b => some b
  | .int i => some (i != 0)
  | .tup xs => some (!xs.isEmpty)
  | .lst xs => some (!xs.isEmpty)
  | _ => none
def ixV (u v : PV) : Option PV :=
  match u, v with
  | .tup xs, .int i => L2.atI xs i
  | .lst xs, .int i => L2.atI xs i
  | _, _ => none
def cutP (xs : List PV) (lo hi : Option Int) : List PV := (xs.drop (HT.sIx xs.length 0 lo)).take (HT.sIx xs.length xs.length hi - HT.sIx xs.length 0 lo)
def slV (u : PV) (lo hi : Option Int) : Option RE :=
  match u with
  | .tup xs => some (.val (.tup (cutP xs lo hi)))
  | .lst xs => some (.fresh (.lst (cutP xs lo hi)))
  | _ => none

/-! ### the state -/
def deref (s : ES) : RE → Option PV
  | .val v => some v
  | .fresh c => some c.val
  | .pk i => match s.env[i]? with
    | some (.own c) => some c.val
    | some (.val v) => some v
    | _ => none
/-- what a box holds, seen through -/
def unbox (s : ES) (v : PV) : PV := match v with
  | .box n => match s.st[n]? with
    | some c => c.val
    | none => v
  | _ => v
def subM (r r' : RE) : M RE := fun s => match deref s r with
  | some u => match deref s r' with
    | some v => match ixV (unbox s u) v with
      | some w => .ok (.val w) s
      | none => .bad
    | none => .bad
  | none => .bad
def lift1 (f : PV → Option RE) (r : RE) : M RE := fun s => match deref s r with
  | some u => match f u with
    | some x => .ok x s
    | none => .bad
  | none => .bad
def lift2 (f : PV → PV → Option RE) (r r' : RE) : M RE := fun s => match deref s r with
  | some u => match deref s r' with
    | some v => match f u v with
      | some x => .ok x s
      | none => .bad
    | none => .bad
  | none => .bad
def truM (r : RE) : M Bool := fun s => match deref s r with
  | some u => match truV u with
    | some b => .ok b s
    | none => .bad
  | none => .bad
def derefs (s : ES) : List RE → Option (List PV)
  | [] => some []
  | r :: rs => match deref s r with
    | none => none
    | some v => (derefs s rs).map (v :: ·)
def liftN (f : List PV → Option RE) (rs : List RE) : M RE := fun s => match derefs s rs with
  | some us => match f us with
    | some x => .ok x s
    | none => .bad
  | none => .bad
/-- an outcome handed on -/
def share : RE → M PV
  | .val v => ret v
  | .fresh c => ret c.val
  | .pk i => fun s => match s.env[i]? with
    | some (.own c) => .ok c.val { s with env := s.env.set i (.val c.val) }
    | some (.val v) => .ok v s
    | _ => .bad
def shares : List RE → M (List PV)
  | [] => ret []
  | r :: rs => bnd (share r) fun v => bnd (shares rs) fun vs => ret (v :: vs)

/-! ### names, calls -/
inductive GV where
  | const (v : PV) | fn (i : Nat)
  deriving Inhabited
structure CC where
  N : List Str
  glob : List (Str × GV)
  boxed : List Str
  excs : List Str
  subs : List ((Str × Str) × Bool) := []
inductive FOut where
  | ok (r : RE) (st : List Cell) | exc (x : Ex) (st : List Cell) | bad
abbrev Orc := Nat → List PV → List Cell → FOut
def isVis (sc : Scope) (x : Str) : Bool := match sc.names.lookup x with
  | some .local => true | some .cell => true | some .free => true | _ => false
def isLoc (sc : Scope) (x : Str) : Bool := match sc.names.lookup x with
  | some .local => true | some .cell => true | _ => false
def isGl (sc : Scope) (x : Str) : Bool := match sc.names.lookup x with
  | some .globalImplicit => true | _ => false
def rdSlot (i : Nat) : M RE := fun s => match s.env[i]? with
  | some (.val v) => .ok (.val v) s
  | some (.own _) => .ok (.pk i) s
  | _ => .bad
def nameM (C : CC) (sc : Scope) (x : Str) : M RE :=
  if isVis sc x then match C.N.idxOf? x with
    | some i => rdSlot i
    | none => bad
  else if isGl sc x then match C.glob.lookup x with
    | some (.const v) => ret (.val v)
    | some (.fn i) => ret (.val (.fn i))
    | none => bad
  else bad
def constM : Const → M RE
  | .none => ret (.val .non)
  | .bool b => ret (.val (.bl b))
  | .int i => ret (.val (.int i))
  | .str x => ret (.val (.str x))
  | _ => bad
def notStar : Expr → Bool
  | .Starred .. => false
  | _ => true
def evList (f : Expr → M RE) : List Expr → M (List RE)
  | [] => ret []
  | e :: es => if notStar e then bnd (f e) fun r => bnd (evList f es) fun rs => ret (r :: rs) else bad
def callM (Φ : Orc) (f : Nat) (vs : List PV) : M RE := fun s => match Φ f vs s.st with
  | .ok r st => .ok r { s with st := st }
  | .exc x st => .exc x { s with st := st }
  | .bad => .bad
def isSliceN : Expr → Bool
  | .Slice .. => true
  | _ => false
def boolM (op : BoolOp) (f : Expr → M RE) : List Expr → M RE
  | [] => bad
  | [e] => f e
  | e :: es => bnd (f e) fun r => bnd (truM r) fun b => match op with
    | .And => if b then boolM op f es else ret r
    | .Or => if b then ret r else boolM op f es
def boolT (op : BoolOp) (f : Expr → M Bool) : List Expr → M Bool
  | [] => bad
  | [e] => f e
  | e :: es => bnd (f e) fun b => match op with
    | .And => if b then boolT op f es else ret false
    | .Or => if b then ret true else boolT op f es
def marks (op : CmpOp) (e : Expr) : Bool := behindInMarks op e
def asBool (r : RE) : M Bool := fun s => match r with
  | .val (.bl b) => .ok b s
  | _ => .bad
def cmpM (op : CmpOp) (r r' : RE) : M RE := lift2 (fun u v => (cmpV op u v).map fun b => .val (.bl b)) r r'
/-- the target of a store that takes a handed value -/
def unTup (v : PV) (n : Nat) : Option (List PV) := match v with
  | .tup xs => if xs.length = n then some xs else none
  | _ => none
def setSlot (i : Nat) (v : PV) : M Unit := fun s => if i < s.env.length then .ok () { s with env := s.env.set i (.val v) } else .bad
/-- a name takes a value; wr: the scope as it is written -/
def asgN (C : CC) (wr : Scope) : Expr → PV → M Unit
  | .Name x _, v => if isLoc wr x then (match C.N.idxOf? x with
    | some i => setSlot i v
    | none => bad) else bad
  | _, _ => bad
def asgNs (C : CC) (wr : Scope) : List Expr → List PV → M Unit
  | [], [] => ret ()
  | e :: es, v :: vs => bnd (asgN C wr e v) fun _ => asgNs C wr es vs
  | _, _ => bad
def asgV (C : CC) (wr : Scope) (tg : Expr) (v : PV) : M Unit := match tg with
  | .Tuple es _ _ => match v with
    | .tup xs => asgNs C wr es xs
    | _ => bad
  | e => asgN C wr e v

/-! ### comprehensions -/
/-- the outer scope of a block -/
def ownOf (C : CC) (scope : Scope) : List (Str × Nat) := scope.names.filterMap fun y => match y.2 with
  | .local => (C.N.idxOf? y.1).map fun i => (y.1, i)
  | .cell => (C.N.idxOf? y.1).map fun i => (y.1, i)
  | _ => none
def wipeE (env : List Sl) : List Nat → List Sl
  | [] => env
  | v :: vs => (wipeE env vs).set v .none
def backE (env old : List Sl) : List Nat → List Sl
  | [] => env
  | v :: vs => (backE env old vs).set v (match old[v]? with
    | some (.val x) => .val x
    | some (.own c) => .val c.val
    | _ => .none)
def testsM (f : Expr → M Bool) : List Expr → M Bool
  | [] => ret true
  | [c] => f c
  | _ => bad
def compGo (own : List Nat) (tgt : PV → M Unit) (tst : M Bool) (elt : M RE) (scr : Bool) : List PV → M (List PV)
  | [] => ret []
  | x :: xs => bnd (fun s => .ok () { s with env := wipeE s.env own }) fun _ => bnd (tgt x) fun _ => bnd tst fun b =>
    if b then bnd elt fun r => bnd (share r) fun v => bnd (compGo own tgt tst elt scr xs) fun vs => ret (v :: vs)
    else compGo own tgt tst elt scr xs
/-- no exception leaves a comprehension -/
def noExc {α} (m : M α) : M α := fun s => match m s with
  | .ok a s' => .ok a s'
  | _ => .bad
def compM (own : List Nat) (tgt : PV → M Unit) (tst : M Bool) (elt : M RE) (xs : List PV) : M RE := fun s =>
  match noExc (compGo own tgt tst elt true xs) { s with env := wipeE s.env own } with
  | .ok vs s' => if vs.length ≤ LIM then .ok (.fresh (.lst vs)) { s' with env := backE s'.env s.env own } else .bad
  | _ => .bad
/-! ### built-in functions -/
def lenV : PV → Option Int
  | .tup xs => some (xs.length : Nat)
  | .lst xs => some (xs.length : Nat)
  | .scr ns => some (ns.length : Nat)
  | .str x => if x.length ≤ LIM then some (x.length : Nat) else none
  | _ => none
def boolsOf : List PV → Option (List Bool)
  | [] => some []
  | .bl b :: r => (boolsOf r).map (b :: ·)
  | _ :: _ => none
def intsOf : List PV → Option (List Int)
  | [] => some []
  | .int b :: r => (intsOf r).map (b :: ·)
  | _ :: _ => none
def tyName : PV → Option String
  | .non => some "NoneType"
  | .bl _ => some "bool"
  | .int _ => some "int"
  | .str _ => some "str"
  | .tup _ => some "tuple"
  | .lst _ => some "list"
  | _ => none
def isInst (v : PV) (T : Str) : Option Bool := match tyName v with
  | none => none
  | some t => if T = ("int" : Str) then some (t == "int" || t == "bool") else if T = ("bool" : Str) then some (t == "bool") else if T = ("tuple" : Str) then some (t == "tuple")
    else if T = ("str" : Str) then some (t == "str") else if T = ("list" : Str) then some (t == "list") else none
def instTy (T : Str) : Bool := decide (T = ("int" : Str)) || decide (T = ("bool" : Str)) || decide (T = ("tuple" : Str)) || decide (T = ("str" : Str)) || decide (T = ("list" : Str))
def maxI : List Int → Option Int
  | [] => none
  | x :: xs => some (xs.foldl (fun a b => if b > a then b else a) x)
def minI : List Int → Option Int
  | [] => none
  | x :: xs => some (xs.foldl (fun a b => if b < a then b else a) x)
inductive Bi where
  | len | all | any | sum | abs | tuple | list | int | max | min | repr
  deriving DecidableEq, Inhabited
def Bi.nm : Bi → String
  | .len => "len" | .all => "all" | .any => "any" | .sum => "sum" | .abs => "abs" | .tuple => "tuple" | .list => "list" | .int => "int" | .max => "max" | .min => "min" | .repr => "repr"
def biOf (x : Str) : Option Bi :=
  if x = ("len" : Str) then some .len else if x = ("tuple" : Str) then some .tuple else if x = ("int" : Str) then some .int else if x = ("all" : Str) then some .all
  else if x = ("list" : Str) then some .list else if x = ("sum" : Str) then some .sum else if x = ("abs" : Str) then some .abs else if x = ("any" : Str) then some .any
  else if x = ("max" : Str) then some .max else if x = ("min" : Str) then some .min else if x = ("repr" : Str) then some .repr else none
def showOk (d : PyData) : Bool := d.showable && SeqAt.shaped d && (match d with | .dict _ => false | _ => true) && ((d.leavesShort 13 && decide (d.bulk ≤ 2 ^ 20)) || (d.leavesShort 64 && decide (d.bulk ≤ 200000)) || decide (d.shown.length ≤ sizeLine))
def biV (b : Bi) (us : List PV) : Option RE :=
  match b, us with
  | .len, [v] => (lenV v).map fun n => .val (.int n)
  | .all, [.lst xs] => (boolsOf xs).map fun bs => .val (.bl (bs.all id))
  | .any, [.lst xs] => (boolsOf xs).map fun bs => .val (.bl (bs.any id))
  | .sum, [.lst xs] => (intsOf xs).map fun ns => .val (.int ns.sum)
  | .abs, [.int i] => some (.val (.int (if i < 0 then -i else i)))
  | .tuple, [.lst xs] => some (.val (.tup xs))
  | .tuple, [.tup xs] => some (.val (.tup xs))
  | .list, [.lst xs] => some (.fresh (.lst xs))
  | .list, [.tup xs] => some (.fresh (.lst xs))
  | .list, [.scr ns] => some (.fresh (.lst (ns.map .int)))
  | .int, [.int i] => some (.val (.int i))
  | .int, [.bl b] => some (.val (.int (if b then 1 else 0)))
  | .max, [.int i, .int j] => some (.val (.int (if j > i then j else i)))
  | .min, [.int i, .int j] => some (.val (.int (if j < i then j else i)))
  | .max, [.lst xs] => (intsOf xs).bind fun ns => (maxI ns).map fun i => .val (.int i)
  | .min, [.lst xs] => (intsOf xs).bind fun ns => (minI ns).map fun i => .val (.int i)
  | .repr, [v] => (toPy v).bind fun d => if showOk d then some (.val (.str d.shown)) else none
  | _, _ => none
def biC (C : CC) (sc : Scope) (x : Str) : Bool := isGl sc x && (C.glob.lookup x).isNone

/-! ### what is walked -/
def itemsOf : PV → Option (List PV)
  | .tup xs => some xs
  | .lst xs => some xs
  | _ => none
def rngOk (i : Int) : Bool := decide (-(2 ^ 62) ≤ i) && decide (i < 2 ^ 62)
def rngP (i j : Int) : List PV := (List.range (j - i).toNat).map fun (k : Nat) => PV.int (i + k)
def rng1M (r : RE) : M (List PV) := fun s => match deref s r with
  | some (.int j) => if rngOk j then .ok (rngP 0 j) s else .bad
  | _ => .bad
def rng2M (r r' : RE) : M (List PV) := fun s => match deref s r, deref s r' with
  | some (.int i), some (.int j) => if rngOk i && rngOk j then .ok (rngP i j) s else .bad
  | _, _ => .bad
def itemsM (v : PV) : M (List PV) := match itemsOf v with
  | some xs => ret xs
  | none => bad
def enumP : Nat → List PV → List PV
  | _, [] => []
  | n, x :: xs => .tup [.int n, x] :: enumP (n + 1) xs
def zipP : List PV → List PV → List PV
  | x :: xs, y :: ys => .tup [x, y] :: zipP xs ys
  | _, _ => []
def isTupE : Expr → Bool
  | .Tuple .. => true
  | _ => false
def isSetE : Expr → Bool
  | .Set .. => true
  | _ => false
def callIter (C : CC) (f : Expr → M RE) (sc : Scope) (tg : Expr) (x : Str) (es : List Expr) : Option (M (List PV)) :=
  if biC C sc x then
    if x = ("range" : Str) then match es with
      | [a] => some (if notStar a then bnd (f a) rng1M else bad)
      | [a, b] => some (if notStar a && notStar b then bnd (f a) fun r => bnd (f b) fun r' => rng2M r r' else bad)
      | _ => some bad
    else if x = ("zip" : Str) then match es with
      | [a, b] => some (if notStar a && notStar b && isTupE tg then bnd (f a) fun r => bnd (f b) fun r' => bnd (share r) fun u => bnd (share r') fun v => bnd (itemsM u) fun xs => bnd (itemsM v) fun ys => ret (zipP xs ys) else bad)
      | _ => some bad
    else if x = ("enumerate" : Str) then match es with
      | [a] => some (if notStar a && isTupE tg then bnd (f a) fun r => bnd (share r) fun u => bnd (itemsM u) fun xs => ret (enumP 0 xs) else bad)
      | _ => some bad
    else none
  else none
def evIter (C : CC) (f : Expr → M RE) (sc : Scope) (tg : Expr) (it : Expr) : M (List PV) :=
  let dflt : M (List PV) := if isSetE it then bad else bnd (f it) fun r => bnd (share r) itemsM
  match it with
  | .Call (.Name x _) es [] _ => match callIter C f sc tg x es with
    | some m => m
    | none => dflt
  | _ => dflt

/-! ### the step -/
def negV : PV → Option RE
  | .int i => some (.val (.int (-i)))
  | _ => none
def partM (f : Expr → M RE) : Option Expr → M (Option Int)
  | none => ret none
  | some e => bnd (f e) fun r s => match deref s r with
    | some (.int i) => .ok (some i) s
    | _ => .bad
def isRev : Option Expr → Option Expr → Option Expr → Bool
  | none, none, some (.UnaryOp .USub (.Constant (.int 1) _ _) _) => true
  | _, _, _ => false
def revV : PV → Option RE
  | .tup xs => some (.val (.tup xs.reverse))
  | .lst xs => some (.fresh (.lst xs.reverse))
  | _ => none
/-- how a block's scope reads in the def's -/
def blkS (scope sc : Scope) : Scope := L2.relS scope sc
def callE (C : CC) (Φ : Orc) (f : Expr → M RE) (sc : Scope) (x : Str) (es : List Expr) : M RE :=
  if isGl sc x then match C.glob.lookup x with
    | some (.fn n) => if es.all notStar then bnd (evList f es) fun rs => bnd (shares rs) fun vs => callM Φ n vs else bad
    | some _ => bad
    | none => if x = ("isinstance" : Str) then match es with
        | [a, .Name t _] => if notStar a && instTy t && isGl sc t && (C.glob.lookup t).isNone then bnd (f a) fun r => lift1 (fun v => (isInst v t).map fun b => .val (.bl b)) r else bad
        | _ => bad
      else match biOf x with
        | some b => match es with
          | [] => bad
          | _ => if es.all notStar then bnd (evList f es) fun rs => liftN (biV b) rs else bad
        | none => bad
  else bad
/-- x.append(e), x.pop(), x.pop(i) on an own list -/
def setCell (i : Nat) (c : Cell) : ES → ES := fun s => { s with env := s.env.set i (.own c) }
def appendM (i : Nat) (v : PV) : M RE := fun s => match s.env[i]? with
  | some (.own (.lst xs)) => if xs.length < LIM then .ok (.val .non) (setCell i (.lst (xs ++ [v])) s) else .bad
  | _ => .bad
def popM (i : Nat) : M RE := fun s => match s.env[i]? with
  | some (.own (.lst xs)) => match xs[xs.length - 1]? with
    | some v => .ok (.val v) (setCell i (.lst xs.dropLast) s)
    | none => .bad
  | _ => .bad
def popAtM (i : Nat) (r : RE) : M RE := fun s => match s.env[i]? with
  | some (.own (.lst xs)) => match deref s r with
    | some (.int k) => if decide (-(2 ^ 63) ≤ k) && decide (k < 2 ^ 63) then match seqIndex? k xs.length with
      | some j => match xs[j]? with
        | some v => .ok (.val v) (setCell i (.lst (xs.eraseIdx j)) s)
        | none => .bad
      | none => .bad else .bad
    | _ => .bad
  | _ => .bad
def chkL (i : Nat) : M Unit := fun s => match s.env[i]? with
  | some (.own (.lst _)) => .ok () s
  | _ => .bad
def methE (C : CC) (f : Expr → M RE) (sc : Scope) (x m : Str) (es : List Expr) (line : Bool) : M RE :=
  if line && isVis sc x then match C.N.idxOf? x with
    | none => bad
    | some i => if m = ("append" : Str) then match es with
        | [a] => if notStar a then bnd (chkL i) fun _ => bnd (f a) fun r => bnd (share r) fun v => appendM i v else bad
        | _ => bad
      else if m = ("pop" : Str) then match es with
        | [] => popM i
        | [a] => if notStar a then bnd (chkL i) fun _ => bnd (f a) fun r => popAtM i r else bad
        | _ => bad
      else bad
  else bad
def stepE (C : CC) (Φ : Orc) (ee : Scope → Expr → M RE) (et : Scope → Expr → M Bool) (sc : Scope) : Expr → M RE
  | .Constant c _ _ => constM c
  | .Name x _ => nameM C sc x
  | .BinOp a op b _ => bnd (ee sc a) fun r => bnd (ee sc b) fun r' => lift2 (binV op) r r'
  | .UnaryOp op a _ => match op with
    | .USub => bnd (ee sc a) fun r => lift1 negV r
    | .Not => bnd (ee sc a) fun r => bnd (truM r) fun b => ret (.val (.bl (!b)))
    | _ => bad
  | .BoolOp op vs _ => boolM op (ee sc) vs
  | .IfExp t a b _ => bnd (et sc t) fun c => if c then ee sc a else ee sc b
  | .Tuple es _ _ => bnd (evList (ee sc) es) fun rs => bnd (shares rs) fun vs => if vs.length ≤ LIM then ret (.val (.tup vs)) else bad
  | .List es _ => bnd (evList (ee sc) es) fun rs => bnd (shares rs) fun vs => if vs.length ≤ LIM then ret (.fresh (.lst vs)) else bad
  | .Compare a ops bs _ => match ops, bs with
    | [op], [b] => if marks op b then bad else bnd (ee sc a) fun r => bnd (ee sc b) fun r' => cmpM op r r'
    | [op, op'], [b, c] => if lastMarks [op, op'] [b, c] then bad else bnd (ee sc a) fun r => bnd (ee sc b) fun r' => bnd (cmpM op r r') fun x => bnd (asBool x) fun k =>
        if k then bnd (ee sc c) fun r'' => cmpM op' r' r'' else ret (.val (.bl false))
    | _, _ => bad
  | .Subscript a b _ => match b with
    | .Slice lo hi st _ => match st with
      | none => bnd (ee sc a) fun r => bnd (partM (ee sc) lo) fun l => bnd (partM (ee sc) hi) fun h => lift1 (fun v => slV v l h) r
      | some _ => if isRev lo hi st then bnd (ee sc a) fun r => lift1 revV r else bad
    | _ => bnd (ee sc a) fun r => bnd (ee sc b) fun r' => subM r r'
  | .ListComp e gens scope _ => match gens with
    | [⟨tg, it, ifs, isa⟩] => if isa == 0 && L2.blkC C.N sc scope (ownOf C scope) then bnd (evIter C (ee sc) sc tg it) fun xs =>
        compM ((ownOf C scope).map (·.2)) (asgV C scope tg) (testsM (et (blkS scope sc)) ifs) (ee (blkS scope sc) e) xs else bad
    | _ => bad
  | .Call fn es kws pos => match kws with
    | [] => match fn with
      | .Name x _ => callE C Φ (ee sc) sc x es
      | .Attribute o m apos => match o with
        | .Name x _ => methE C (ee sc) sc x m es (apos.endLine == pos.line)
        | _ => bad
      | _ => bad
    | _ => bad
  | _ => bad
def stepT (C : CC) (Φ : Orc) (ee : Scope → Expr → M RE) (et : Scope → Expr → M Bool) (sc : Scope) (e : Expr) : M Bool := match e with
  | .UnaryOp op a _ => match op with
    | .Not => bnd (et sc a) fun b => ret (!b)
    | _ => bad
  | .BoolOp op vs _ => boolT op (et sc) vs
  | .IfExp t a b _ => bnd (et sc t) fun c => if c then et sc a else et sc b
  | .Compare .. => bnd (stepE C Φ ee et sc e) asBool
  | .Name .. => bnd (stepE C Φ ee et sc e) truM
  | .Call .. => bnd (stepE C Φ ee et sc e) truM
  | .Subscript .. => bnd (stepE C Φ ee et sc e) truM
  | .Constant .. => bnd (stepE C Φ ee et sc e) truM
  | _ => bad
def evET (C : CC) (Φ : Orc) : Nat → (Scope → Expr → M RE) × (Scope → Expr → M Bool)
  | 0 => (fun _ _ => bad, fun _ _ => bad)
  | n + 1 => (stepE C Φ (evET C Φ n).1 (evET C Φ n).2, stepT C Φ (evET C Φ n).1 (evET C Φ n).2)

/-! ### statements -/
inductive Fl where
  | nx | rt (r : RE) | bk | ct
  deriving Inhabited
def setOwn (i : Nat) (c : Cell) : M Unit := fun s => if i < s.env.length then .ok () { s with env := s.env.set i (.own c) } else .bad
def setBox (i : Nat) (c : Cell) : M Unit := fun s => if i < s.env.length then .ok () { env := s.env.set i (.val (.box s.st.length)), st := s.st ++ [c] } else .bad
/-- a name takes an outcome -/
def asgR (i : Nat) (bx : Bool) (r : RE) : M Unit := match r with
  | .val v => setSlot i v
  | .fresh c => if bx then setBox i c else setOwn i c
  | .pk _ => bnd (share r) (setSlot i)
def retM (r : RE) : M Fl := match r with
  | .pk i => fun s => match s.env[i]? with
    | some (.own c) => .ok (.rt (.fresh c)) { s with env := s.env.set i .none }
    | some (.val v) => .ok (.rt (.val v)) s
    | _ => .bad
  | r => ret (.rt r)
def whileM : Nat → M Bool → M Fl → M Fl
  | 0, _, _ => bad
  | n + 1, c, body => bnd c fun b => if b then bnd body fun f => match f with
      | .nx => whileM n c body
      | .ct => whileM n c body
      | .bk => ret .nx
      | .rt r => ret (.rt r)
    else ret .nx
def forM (asg : PV → M Unit) (body : M Fl) : List PV → M Fl
  | [] => ret .nx
  | x :: xs => bnd (asg x) fun _ => bnd body fun f => match f with
      | .nx => forM asg body xs
      | .ct => forM asg body xs
      | .bk => ret .nx
      | .rt r => ret (.rt r)
def thenM (m m' : M Fl) : M Fl := bnd m fun f => match f with
  | .nx => m'
  | f => ret f
def isComp : Expr → Bool
  | .ListComp .. => true
  | .SetComp .. => true
  | .DictComp .. => true
  | _ => false
/-- how a pair of names takes a written pair: some, on its own road; none, as any tuple; else not here -/
inductive Road where
  | par (i j : Nat) | plain | stuck
def pairOf (ts vs : List Expr) : Option (Str × Pos × Str × Pos × Expr × Expr) := match ts, vs with
  | [.Name x px, .Name y py], [a, b] => some (x, px, y, py, a, b)
  | _, _ => none
def parOk (C : CC) (sc : Scope) (x : Str) (px : Pos) (y : Str) (py : Pos) (a b : Expr) : Bool :=
  notStar a && notStar b && px.line == py.line && decide (sc.names.lookup x = some .local) && decide (sc.names.lookup y = some .local) && decide (sc.kind = .function) && (C.N.idxOf? x).isSome && (C.N.idxOf? y).isSome && decide (C.N.idxOf? x ≠ C.N.idxOf? y)
/-- a target that no swap of stores meets -/
def offRoad (sc : Scope) (ts : List Expr) : Bool := ts.any fun t => match t with
  | .Name x _ => !(sc.names.lookup x == some .local)
  | _ => true
def roadOf (C : CC) (sc : Scope) (ts vs : List Expr) : Road :=
  match pairOf ts vs with
  | some (x, px, y, py, a, b) =>
    if vs.all (foldedForSure 8) then .plain
    else if offRoad sc ts then .plain
    else if vs.all (constantsAlone 8) then .stuck
    else if parOk C sc x px y py a b then .par ((C.N.idxOf? x).getD 0) ((C.N.idxOf? y).getD 0)
    else .stuck
  | none => if vs.length = ts.length && !(vs.all (foldedForSure 8)) && !(offRoad sc ts) then .stuck else .plain
/-- an own cell is handed on, a new one waits -/
def shr : RE → M RE
  | .pk i => bnd (share (.pk i)) fun v => ret (.val v)
  | r => ret r
def parM (i j : Nat) (bi bj : Bool) (ma mb : M RE) : M Unit := bnd ma fun ra => bnd mb fun rb => bnd (shr ra) fun ra => bnd (shr rb) fun rb => bnd (asgR i bi ra) fun _ => asgR j bj rb
/-- an outcome that is no new cell, handed on -/
def shv : RE → M PV
  | .val v => ret v
  | .pk i => share (.pk i)
  | .fresh _ => bad
def parM3 (i j l : Nat) (ma mb mc : M RE) : M Unit := bnd ma fun ra => bnd mb fun rb => bnd mc fun rc => bnd (shv ra) fun va => bnd (shv rb) fun vb => bnd (shr rc) fun rc => bnd (setSlot i va) fun _ => bnd (setSlot j vb) fun _ => asgR l false rc
def loc3 (C : CC) (sc : Scope) (x : Str) : Bool := decide (sc.names.lookup x = some .local) && (C.N.idxOf? x).isSome
def tripOk (C : CC) (sc : Scope) (x : Str) (px : Pos) (y : Str) (py : Pos) (z : Str) (pz : Pos) (a b c : Expr) : Bool :=
  notStar a && notStar b && notStar c && px.line == py.line && px.line == pz.line && loc3 C sc x && loc3 C sc y && loc3 C sc z && decide (sc.kind = .function) &&
  decide (C.N.idxOf? x ≠ C.N.idxOf? y) && decide (C.N.idxOf? x ≠ C.N.idxOf? z) && decide (C.N.idxOf? y ≠ C.N.idxOf? z) && !([a, b, c].all (foldedForSure 8)) && !([a, b, c].all (constantsAlone 8))
/-- three names take three written values -/
def tripOf (C : CC) (sc : Scope) (ts vs : List Expr) : Option (Nat × Nat × Nat × Expr × Expr × Expr) := match ts, vs with
  | [.Name x px, .Name y py, .Name z pz], [a, b, c] => if tripOk C sc x px y py z pz a b c then some ((C.N.idxOf? x).getD 0, (C.N.idxOf? y).getD 0, (C.N.idxOf? z).getD 0, a, b, c) else none
  | _, _ => none
def chkS (i : Nat) : M Unit := fun s => match s.env[i]? with
  | some (.own _) => .ok () s
  | some (.val _) => .ok () s
  | _ => .bad
def storeM (i : Nat) (v : PV) (k : RE) : M Unit := fun s => match deref s k with
  | some (.int k) => match s.env[i]? with
    | some (.own (.lst xs)) => match L2.ixN xs.length k with
      | some j => .ok () { s with env := s.env.set i (.own (.lst (xs.set j v))) }
      | none => .bad
    | some (.val (.box n)) => match s.st[n]? with
      | some (.lst xs) => match L2.ixN xs.length k with
        | some j => .ok () { s with st := s.st.set n (.lst (xs.set j v)) }
        | none => .bad
      | none => .bad
    | _ => .bad
  | _ => .bad
def augM (op : Operator) (i : Nat) (r : RE) : M Unit := fun s => match op with
  | .Add => match s.env[i]? with
    | some (.val (.int a)) => match deref s r with
      | some (.int b) => .ok () { s with env := s.env.set i (.val (.int (a + b))) }
      | _ => .bad
    | some (.own (.lst xs)) => match deref s r with
      | some (.lst ys) => match r with
        | .pk _ => .bad
        | _ => if xs.length + ys.length ≤ LIM then .ok () { s with env := s.env.set i (.own (.lst (xs ++ ys))) } else .bad
      | _ => .bad
    | _ => .bad
  | _ => .bad
def raiseM (x : Str) : M Fl := fun s => .exc ⟨x, []⟩ s
def WF : Nat := 10000000000000000000000000000000000000000000000000000000000000000
def blockM (f : Stmt → M Fl) : List Stmt → M Fl
  | [] => ret .nx
  | [s] => f s
  | s :: r => thenM (f s) (blockM f r)
def nameOf (C : CC) (sc : Scope) (x : Str) : Option Nat := if isLoc sc x then C.N.idxOf? x else none
def raiseOf (ex cause : Option Expr) : Option Str := match ex, cause with
  | some (.Call (.Name x _) [.Constant (.str _) _ _] [] _), none => some x
  | _, _ => none
/-! what a clause of a try hands back: nm the clause's name, x the class that is caught -/
def flatC : Const → Option PV
  | .none => some .non
  | .bool b => some (.bl b)
  | .int i => some (.int i)
  | .str x => some (.str x)
  | _ => none
def isiOk (C : CC) (sc : Scope) (nm : Option Str) (f e y : Str) : Bool := decide (f = ("isinstance" : Str)) && decide (nm = some e) && isGl sc f && isGl sc y && (C.glob.lookup f).isNone && decide (sc.names.lookup e = some .local) && (C.N.idxOf? e).isSome
def hE (C : CC) (sc : Scope) (nm : Option Str) (x : Str) : Nat → Expr → Option PV
  | 0, _ => none
  | n + 1, e => match e with
    | .Constant c _ _ => flatC c
    | .Call (.Name f _) [.Name e _, .Name y _] [] _ => if isiOk C sc nm f e y then (C.subs.lookup (x, y)).map .bl else none
    | .IfExp t a b _ => match t with
      | .Call .. => match hE C sc nm x n t with
        | some (.bl true) => hE C sc nm x n a
        | some (.bl false) => hE C sc nm x n b
        | _ => none
      | _ => none
    | _ => none
def oneCl : ExceptHandler → Option (Str × Option Str × Expr)
  | .ExceptHandler (some (.Name y _)) nm [.Return (some e) _] _ => some (y, nm, e)
  | _ => none
/-- none: not covered; some none: no clause takes it -/
def clauseV (C : CC) (sc : Scope) (x : Str) : List ExceptHandler → Option (Option PV)
  | [] => some none
  | h :: r => match oneCl h with
    | some (y, nm, e) => match C.subs.lookup (x, y) with
      | some true => (hE C sc nm x 12 e).map some
      | some false => clauseV C sc x r
      | none => none
    | none => none
def lenOk (s : ES) : Option Nat → Bool
  | some i => decide (i < s.env.length)
  | none => true
/-- m, and where it raises, what the table says of the class (none: not covered; some none: it goes on) -/
def tryG (n : Option Nat) (m : M Fl) (tab : List (Str × Option (Option PV))) : M Fl := fun s => match m s with
  | .exc x s' => match x.args with
    | [] => if lenOk s' n then match (tab.lookup x.cls).getD none with
      | some (some v) => .ok (.rt (.val v)) s'
      | some none => .exc x s'
      | none => .bad else .bad
    | _ => .bad
  | o => o
def asIx (C : CC) : List ExceptHandler → Option Nat
  | h :: _ => match oneCl h with
    | some (_, some n, _) => C.N.idxOf? n
    | _ => none
  | [] => none
def tryM (C : CC) (sc : Scope) (m : M Fl) (hs : List ExceptHandler) : M Fl := tryG (asIx C hs) m (C.excs.map fun x => (x, clauseV C sc x hs))
def known (C : CC) (sc : Scope) (y : Str) : Bool := isGl sc y && match C.excs with
  | x :: _ => (C.subs.lookup (x, y)).isSome
  | [] => false
def clOk (C : CC) (sc : Scope) (h : ExceptHandler) : Bool := match oneCl h with
  | some (y, none, _) => known C sc y
  | _ => false
def clAs (C : CC) (sc : Scope) (h : ExceptHandler) : Bool := match oneCl h with
  | some (y, some n, _) => known C sc y && decide (sc.names.lookup n = some .local) && (C.N.idxOf? n).isSome
  | _ => false
def clsOk (C : CC) (sc : Scope) : List ExceptHandler → Bool
  | [] => false
  | h :: hs => (hs.isEmpty && clAs C sc h) || (h :: hs).all (clOk C sc)
/-- how a statement is done: E, T for expressions and tests, rs for blocks within -/
def stepS (C : CC) (E : Expr → M RE) (T : Expr → M Bool) (sc : Scope) (rs : List Stmt → M Fl) : Stmt → M Fl
  | .Expr e _ => if isComp e then bad else bnd (E e) fun _ => ret .nx
  | .Return v _ => match v with
    | some e => bnd (E e) retM
    | none => ret (.rt (.val .non))
  | .If c a b _ => bnd (T c) fun k => if k then rs a else rs b
  | .While c body els _ => match els with
    | [] => whileM WF (T c) (rs body)
    | _ => bad
  | .For tg it body els _ => match els with
    | [] => bnd (evIter C E sc tg it) fun xs => forM (asgV C sc tg) (rs body) xs
    | _ => bad
  | .Assign tgs e _ => match tgs with
    | [.Name x _] => match nameOf C sc x with
      | some i => bnd (E e) fun r => bnd (asgR i (C.boxed.contains x) r) fun _ => ret .nx
      | none => bad
    | [.Tuple ts k p] => match e with
      | .Tuple vs _ _ => match tripOf C sc ts vs with
        | some (i, j, l, a, b, c) => bnd (parM3 i j l (E a) (E b) (E c)) fun _ => ret .nx
        | none => match roadOf C sc ts vs with
        | .par i j => match vs with
          | [a, b] => bnd (parM i j false false (E a) (E b)) fun _ => ret .nx
          | _ => bad
        | .plain => bnd (E e) fun r => bnd (share r) fun v => bnd (asgV C sc (.Tuple ts k p) v) fun _ => ret .nx
        | .stuck => bad
      | _ => bnd (E e) fun r => bnd (share r) fun v => bnd (asgV C sc (.Tuple ts k p) v) fun _ => ret .nx
    | [.Subscript (.Name x _) k _] => if isSliceN k || !isVis sc x then bad else match C.N.idxOf? x with
      | some i => bnd (E e) fun r => bnd (share r) fun v => bnd (chkS i) fun _ => bnd (E k) fun rk => bnd (storeM i v rk) fun _ => ret .nx
      | none => bad
    | _ => bad
  | .AugAssign tg op e _ => match tg with
    | .Name x _ => match nameOf C sc x with
      | some i => bnd (chkS i) fun _ => bnd (E e) fun r => bnd (augM op i r) fun _ => ret .nx
      | none => bad
    | _ => bad
  | .Raise ex cause _ => match raiseOf ex cause with
    | some x => if C.excs.contains x && isGl sc x then raiseM x else bad
    | none => bad
  | .Try body hs els fin _ => match els, fin with
    | [], [] => if clsOk C sc hs then tryM C sc (rs body) hs else bad
    | _, _ => bad
  | .Pass _ => ret .nx
  | .Break _ => ret .bk
  | .Continue _ => ret .ct
  | _ => bad
/-- blocks nested m deep, expressions n deep -/
def evB (C : CC) (Φ : Orc) (n : Nat) (sc : Scope) : Nat → List Stmt → M Fl
  | 0 => fun _ => bad
  | m + 1 => blockM (stepS C ((evET C Φ (n + 1)).1 sc) ((evET C Φ (n + 1)).2 sc) sc (evB C Φ n sc m))
structure DefE where
  C : CC
  sc : Scope
  np : Nat
  body : List Stmt
def evFn (D : DefE) (Φ : Orc) : List PV → List Cell → FOut := fun args st =>
  if args.length = D.np then match evB D.C Φ 40 D.sc 20 D.body ⟨args.map .val ++ List.replicate (D.C.N.length - args.length) .none, st⟩ with
    | .ok f s => match f with
      | .nx => .ok (.val .non) s.st
      | .rt (.val v) => .ok (.val v) s.st
      | .rt (.fresh c) => .ok (.fresh c) s.st
      | _ => .bad
    | .exc x s => .exc x s.st
    | .bad => .bad
  else .bad
/-- calls nested k deep -/
def evP (tab : List DefE) : Nat → Orc
  | 0 => fun _ _ _ => .bad
  | k + 1 => fun n args st => match tab[n]? with
    | some D => evFn D (evP tab k) args st
    | none => .bad
end Ev

set_option linter.all false
set_option maxRecDepth 100000
set_option maxHeartbeats 1000000
/-! Ev.D: readings; operands; operators -/
namespace Ev
open PySem PySem.Spec L2
theorem _root_.L2.PE.imp {X : Cx} {e : Expr} {t t' : TE} (h : PE X e t) (i : ∀ σ H Q, t' σ H Q → t σ H Q) : PE X e t' := ⟨fun pins s σ H Q I q => h.run pins s σ H Q I (i σ H Q q)⟩
theorem _root_.L2.PT.imp {X : Cx} {e : Expr} {t t' : TT} (h : PT X e t) (i : ∀ σ H Q, t' σ H Q → t σ H Q) : PT X e t' := ⟨fun pins s σ H Q I q => h.run pins s σ H Q I (i σ H Q q)⟩
theorem _root_.L2.PA.imp {X : Cx} {e : List Expr} {t t' : TA} (h : PA X e t) (i : ∀ σ H Q, t' σ H Q → t σ H Q) : PA X e t' := ⟨fun p pins s σ H Q I q => h.run p pins s σ H Q I (i σ H Q q)⟩
theorem _root_.L2.PI.imp {X : Cx} {tg e : Expr} {t t' : TI} (h : PI X tg e t) (i : ∀ σ H Q, t' σ H Q → t σ H Q) : PI X tg e t' := ⟨fun pins s σ H Q I q => h.run pins s σ H Q I (i σ H Q q)⟩
section
variable {G : Env1} {xr : XR} {P : Hp} {W : WX} {ρ ρ1 : Rho} {s : ES} {σ : St} {H H1 : Hp}
variable {α β γ δ : Type} {R : Rho → St → Hp → α → β → Prop} {R' : Rho → St → Hp → γ → δ → Prop}
theorem rdAt.shift (e : Ext ρ H ρ1 H1) {m : Out γ} {Q : δ → Hp → Prop} (h : rdAt G xr P R' W ρ m σ H Q) : rdAt G xr P R' W ρ1 m σ H1 Q := by
  cases m with
  | ok r s' => exact fun ρ' H' b r1 e1 rr => h ρ' H' b r1 (e.trans e1) rr
  | exc x s' => exact fun ρ' H' cls d r1 e1 rr => h ρ' H' cls d r1 (e.trans e1) rr
  | bad => exact h
theorem rd_mono {m : M α} {Q Q' : β → Hp → Prop} (h : rd G xr P R W m σ H Q) (q : ∀ b H, Q b H → Q' b H) : rd G xr P R W m σ H Q' := by
  obtain ⟨ρ, s, r, h⟩ := h
  refine ⟨ρ, s, r, ?_⟩
  generalize m s = o at h ⊢
  cases o with
  | ok r s' => exact fun ρ' H' b r1 e1 rr => q _ _ (h ρ' H' b r1 e1 rr)
  | exc x s' => exact h
  | bad => exact h
/-- first m, then f of what it yields -/
theorem seq {m : M α} {f : α → M γ} {Q : δ → Hp → Prop} (R0 : Rel G.K G.fa P ρ s σ H) (h : rdAt G xr P R' W ρ (bnd m f s) σ H Q) :
    rd G xr P R W m σ H (fun b H1 => ∃ r ρ1 s1, Rel G.K G.fa P ρ1 s1 σ H1 ∧ Ext ρ H ρ1 H1 ∧ R ρ1 σ H1 r b ∧ rdAt G xr P R' W ρ1 (f r s1) σ H1 Q) := by
  refine ⟨ρ, s, R0, ?_⟩
  unfold bnd at h
  generalize m s = o at h ⊢
  cases o with
  | ok r s' => exact fun ρ' H' b r1 e1 rr => ⟨r, ρ', s', r1, e1, rr, h.shift e1⟩
  | exc x s' => exact h
  | bad => exact h
/-- the same where m is no reading of its own -/
theorem seq0 {m : M α} {f : α → M γ} {Q : δ → Hp → Prop} (h : rdAt G xr P R' W ρ (bnd m f s) σ H Q) :
    (∃ r s', m s = .ok r s' ∧ rdAt G xr P R' W ρ (f r s') σ H Q) ∨ ∃ x s', m s = .exc x s' := by
  unfold bnd at h
  generalize m s = o at h ⊢
  cases o with
  | ok r s' => exact .inl ⟨r, s', rfl, h⟩
  | exc x s' => exact .inr ⟨x, s', rfl⟩
  | bad => exact h.elim
theorem rdRet {r : α} {b : β} {Q : β → Hp → Prop} (R0 : Rel G.K G.fa P ρ s σ H) (h : rdAt G xr P R W ρ (.ok r s) σ H Q) (hr : R ρ σ H r b) : Q b H := h ρ H b R0 Ext.refl hr
end

/-! ### operands -/
section
variable {K : PySem.W.Frag} {fa : Nat → Addr} {P : Hp} {ρ ρ' : Rho} {s : ES} {σ : St} {H H' : Hp}
/-- what is seen of an operand -/
def Pk (K : PySem.W.Frag) (fa : Nat → Addr) (ρ : Rho) (H : Hp) (v : PV) (x : V) : Prop :=
  RV K fa ρ (cut H ρ) v x ∨ ∃ c a, v = c.val ∧ x = V.ref a ∧ (∃ nm, ρ nm = some a) ∧ CellR K fa ρ (cut H ρ) c (H a)
theorem deref_norm {s : ES} {r : RE} : deref s r.norm = deref s r := by cases r <;> rfl
theorem Rel.peek (R : Rel K fa P ρ s σ H) {r : RE} {x : V} {v : PV} (h : RER K fa ρ σ H r.norm x) (hd : deref s r = some v) : Pk K fa ρ H v x := by
  cases r with
  | val u => cases hd; exact .inl h
  | fresh c => cases hd; exact .inl h
  | pk i =>
    have q := R.slot i
    have h : σ[i]? = some (some x) := h
    have hd : (match s.env[i]? with | some (.own c) => some c.val | some (.val v) => some v | _ => none) = some v := hd
    generalize s.env[i]? = o at q hd
    cases o with
    | none => cases hd
    | some sl =>
      cases sl with
      | none => cases hd
      | val u =>
        cases hd
        obtain ⟨_, V, h2, h3⟩ := q
        rw [h] at h2; cases h2
        exact .inl h3
      | own c =>
        cases hd
        obtain ⟨a, h1, h2, h3⟩ := q
        rw [h] at h2; cases h2
        exact .inr ⟨c, a, rfl, rfl, ⟨_, h1⟩, h3⟩
theorem Pk.int {i : Int} {x : V} (h : Pk K fa ρ H (.int i) x) : x = .int i := by
  rcases h with h | ⟨c, a, e, _⟩
  · cases h; rfl
  · cases c; cases e
theorem Pk.bl {i : Bool} {x : V} (h : Pk K fa ρ H (.bl i) x) : x = .bl i := by
  rcases h with h | ⟨c, a, e, _⟩
  · cases h; rfl
  · cases c; cases e
theorem Pk.str {i : Str} {x : V} (h : Pk K fa ρ H (.str i) x) : x = .str i := by
  rcases h with h | ⟨c, a, e, _⟩
  · cases h; rfl
  · cases c; cases e
theorem Pk.non {x : V} (h : Pk K fa ρ H .non x) : x = .non := by
  rcases h with h | ⟨c, a, e, _⟩
  · cases h; rfl
  · cases c; cases e
theorem cutLe : Le (cut H ρ) H := fun _ _ h => cut_le h
theorem Pk.tup {xs : List PV} {x : V} (h : Pk K fa ρ H (.tup xs) x) : ∃ a vs, x = .ref a ∧ SqT K H a vs ∧ RVs K fa ρ (cut H ρ) xs vs := by
  rcases h with h | ⟨c, a, e, _⟩
  · cases h with
    | tup h1 h2 => exact ⟨_, _, rfl, SqT.le cutLe h1, h2⟩
  · cases c; cases e
theorem Pk.rvT {xs : List PV} {x : V} (h : Pk K fa ρ H (.tup xs) x) : RV K fa ρ (cut H ρ) (.tup xs) x := by
  rcases h with h | ⟨c, a, e, _⟩
  · exact h
  · cases c; cases e
theorem Pk.lst {xs : List PV} {x : V} (h : Pk K fa ρ H (.lst xs) x) : ∃ a vs, x = .ref a ∧ H a = some (.lst vs) ∧ RVs K fa ρ (cut H ρ) xs vs := by
  rcases h with h | ⟨c, a, e, h1, _, h2⟩
  · cases h with
    | lst h1 h2 => exact ⟨_, _, rfl, cut_le h1, h2⟩
  · cases c with
    | lst ys =>
      cases e
      obtain ⟨vs, h3, h4⟩ := h2
      exact ⟨a, vs, h1, h3, h4⟩
theorem Pk.scr {ns : List Int} {x : V} (h : Pk K fa ρ H (.scr ns) x) : ∃ a, x = .ref a ∧ SqL K H a (ns.map V.int) := by
  rcases h with h | ⟨c, a, e, _⟩
  · cases h with
    | scr h1 => exact ⟨_, rfl, SqL.le cutLe h1⟩
  · cases c; cases e
mutual
theorem RV.dp : ∀ {v : PV} {x : V} {d : PyData}, RV K fa ρ (cut H ρ) v x → toPy v = some d → Dp K H x d
  | _, _, _, .non, e => by simp only [toPy, Option.some.injEq] at e; subst e; exact .non
  | _, _, _, .bl b, e => by simp only [toPy, Option.some.injEq] at e; subst e; exact .bl b
  | _, _, _, .int b, e => by simp only [toPy, Option.some.injEq] at e; subst e; exact .int b
  | _, _, _, .str b, e => by simp only [toPy, Option.some.injEq] at e; subst e; exact .str b
  | _, _, _, .tup (xs := xs) h1 h2, e => by
    simp only [toPy, Option.map_eq_some_iff] at e
    obtain ⟨ds, e1, rfl⟩ := e
    exact .tup (SqT.le cutLe h1) (RVs.dp h2 e1)
  | _, _, _, .lst (xs := xs) h1 h2, e => by
    simp only [toPy, Option.map_eq_some_iff] at e
    obtain ⟨ds, e1, rfl⟩ := e
    exact .lst (SqL.of (cut_le h1)) (RVs.dp h2 e1)
  | _, _, _, .scr h, e => by simp [toPy] at e
  | _, _, _, .box h, e => by simp [toPy] at e
  | _, _, _, .fn n, e => by simp [toPy] at e
theorem RVs.dp : ∀ {vs : List PV} {xs : List V} {ds : List PyData}, RVs K fa ρ (cut H ρ) vs xs → toPys vs = some ds → DpAll K H xs ds
  | _, _, _, .nil, e => by simp only [toPys, Option.some.injEq] at e; subst e; exact .nil
  | _, _, _, .cons (x := x) (xs := xs) h t, e => by
    simp only [toPys] at e
    split at e
    · cases e
    · rename_i d hd
      simp only [Option.map_eq_some_iff] at e
      obtain ⟨ds, e1, rfl⟩ := e
      exact .cons (RV.dp h hd) (RVs.dp t e1)
end
theorem Pk.dp {v : PV} {x : V} {d : PyData} (h : Pk K fa ρ H v x) (e : toPy v = some d) : Dp K H x d := by
  rcases h with h | ⟨c, a, e1, e2, _, h2⟩
  · exact h.dp e
  · cases c with
    | lst ys =>
      subst e1; subst e2
      obtain ⟨vs, h3, h4⟩ := h2
      simp only [Cell.val, toPy, Option.map_eq_some_iff] at e
      obtain ⟨ds, e1, rfl⟩ := e
      exact .lst (SqL.of h3) (h4.dp e1)
theorem sizeLIM : sizeLine = LIM := sizeLine_eq
end

/-! ### operators -/
section
variable {X : Cx} {G : Env1} {xr : XR} {P : Hp} {W : WX} {ρ : Rho} {s : ES} {σ : St} {H : Hp}
/-- a flat value is told -/
theorem fin (R0 : Rel G.K G.fa P ρ s σ H) {v : PV} {x : V} {Q : VK} (h : rdAt G xr P (RER G.K G.fa) W ρ (.ok (.val v) s) σ H Q) (r : RV G.K G.fa ρ (cut H ρ) v x) : Q x H := h ρ H x R0 Ext.refl r
/-- a new list is told -/
theorem finL (R0 : Rel G.K G.fa P ρ s σ H) {xs : List PV} {vs : List V} {Q : VK} (h : rdAt G xr P (RER G.K G.fa) W ρ (.ok (.fresh (.lst xs)) s) σ H Q) (r : RVs G.K G.fa ρ (cut H ρ) xs vs) {p : Addr} (hp : H p = none) : Q (.ref p) (upd H p (.lst vs)) := by
  obtain ⟨R1, E1⟩ := R0.newTmp (o := .lst vs) hp trivial
  exact h _ _ _ R1 E1 ⟨p, rfl, setN_same, vs, upd_same, r.mono E1.le E1.box⟩
/-- a new tuple is told -/
theorem finT (R0 : Rel G.K G.fa P ρ s σ H) {xs : List PV} {vs : List V} {Q : VK} (h : rdAt G xr P (RER G.K G.fa) W ρ (.ok (.val (.tup xs)) s) σ H Q) (r : RVs G.K G.fa ρ (cut H ρ) xs vs) {p : Addr} (hp : H p = none) : Q (.ref p) (upd H p (.tup vs)) := by
  obtain ⟨R1, E1⟩ := R0.laid (o := .tup vs) hp
  exact h _ _ _ R1 E1 (.tup (SqT.of (R0.cutNew hp)) (r.mono E1.le E1.box))
end
end Ev

set_option linter.all false
set_option maxRecDepth 100000
set_option maxHeartbeats 1000000
/-! Ev.TM: a tuple taken once, or not at all -/
namespace Ev
open PySem PySem.Spec L2 PyProof.Rows
theorem mul_once (p : Addr) (its : Array Value) (m : Nat) (od : Option Addr) (sv : Array (Option Value)) (u : Tok) :
    Meets (Builtin.«tuple.__mul__» ⟨[.ref p, .int 1 u], []⟩) (fun _ R s => s.heap.get? p = some { cls := .type "tuple", dict := od, data := .seq its m, slots := sv } ∧ R (.ok (.ret (.ref p))) s) :=
  .of_wp fun prog w A R s h => by
    obtain ⟨hp, g, d, tk, os⟩ := s
    obtain ⟨hq, h⟩ := h
    have f1 := AutoSeq1.idx_int
    have c1 : (its.isEmpty || (1 : Int) == 1) = true := by
      rw [Bool.or_eq_true]
      exact .inr rfl
    wp_walk using wpAny_loadPart' hq
    exact ⟨_, rfl, h⟩
theorem mul_none (p : Addr) (its : Array Value) (m : Nat) (od : Option Addr) (sv : Array (Option Value)) (x : Int) (u : Tok) (b0 : (decide (x < -(2 ^ 63)) || decide (x ≥ 2 ^ 63)) = false) (b1 : (its.isEmpty || x == 1) = false) (b2 : (decide (x ≤ 0) || its.isEmpty) = true) :
    Meets (Builtin.«tuple.__mul__» ⟨[.ref p, .int x u], []⟩) (fun _ R s => s.heap.get? p = some { cls := .type "tuple", dict := od, data := .seq its m, slots := sv } ∧
      R (.ok (.ret (Value.ref s.heap.objs.size))) { s with heap := s.heap.push { cls := Value.type "tuple", data := Data.seq #[] }, toks := s.toks }) :=
  .of_wp fun prog w A R s h => by
    obtain ⟨hp, g, d, tk, os⟩ := s
    obtain ⟨hq, h⟩ := h
    have f1 := AutoSeq1.idx_int
    wp_walk using wpAny_loadPart' hq
    repeat (first
      | (refine wpAny_ite_false (decide_eq_false (by rw [b0]; decide)) ?_; wp_walk using wpAny_loadPart' hq)
      | (refine wpAny_ite_false (decide_eq_false (by rw [b1]; decide)) ?_; wp_walk using wpAny_loadPart' hq)
      | (refine wpAny_ite_true (decide_eq_true (by rw [b2])) ?_; wp_walk using wpAny_loadPart' hq))
    exact ⟨_, rfl, h⟩
def rFew (K : PySem.W.Frag) : R2 := fun x y H Q => ∃ l k xs, x = .ref l ∧ y = .int k ∧ SqT K H l xs ∧ xs ≠ [] ∧ ((k = 1 ∧ Q (.ref l) H) ∨ (-(2 ^ 63) ≤ k ∧ k ≤ 0 ∧ ∀ p, H p = none → Q (.ref p) (upd H p (.tup []))))
theorem op_few {X : Cx} : OpR X (binaryOp .Mult) (rFew X.K) := by
  intro pins s σ H x y v u Q I rx ry h
  obtain ⟨l, k, xs, rfl, rfl, hT, hne, hk⟩ := h
  cases rx
  obtain ⟨t, rfl⟩ := ry
  obtain ⟨its, r, ⟨⟨cls, dd, data, sl⟩, ho, hc, n, hd⟩, hs⟩ := I.tuple hT
  simp only at hc hd
  subst hc hd
  have hi : its.toArray.isEmpty = false := by
    have hle := r.length
    cases its with
    | nil => exact absurd (List.eq_nil_of_length_eq_zero (by rw [hle]; rfl)) hne
    | cons a b => rfl
  rcases hk with ⟨rfl, q⟩ | ⟨k0, k1, q⟩
  · refine wpAny_binaryOp_repeat_ref (T := "tuple") (U := "int") (by decide) ⟨_, ho, rfl⟩ (fun s' => typeIs_int s' 1 t) noFill_tuple_mul F.fills_int_mul F.slot_int_rmul repeat_tuple F.slot_int_index.lookup
      (call_meets F.slot_int_rmul (typeIs_int s 1 t) F.entry_int_rmul (F.args_int_rmul_2 _ _) (int_rmul_tuple 1 t l its.toArray n dd sl)
        ⟨ho, rfl, ⟨_, ho, rfl⟩, call_meets F.slot_tuple_mul ⟨_, ho, rfl⟩ F.entry_tuple_mul (F.args_tuple_mul_2 _ _) (mul_once l its.toArray n dd sl t) ⟨ho, ?_⟩⟩)
    exact ⟨.ref l, _, I, rfl, q⟩
  · refine wpAny_binaryOp_repeat_ref (T := "tuple") (U := "int") (by decide) ⟨_, ho, rfl⟩ (fun s' => typeIs_int s' k t) noFill_tuple_mul F.fills_int_mul F.slot_int_rmul repeat_tuple F.slot_int_index.lookup
      (call_meets F.slot_int_rmul (typeIs_int s k t) F.entry_int_rmul (F.args_int_rmul_2 _ _) (int_rmul_tuple k t l its.toArray n dd sl)
        ⟨ho, rfl, ⟨_, ho, rfl⟩, call_meets F.slot_tuple_mul ⟨_, ho, rfl⟩ F.entry_tuple_mul (F.args_tuple_mul_2 _ _) (mul_none l its.toArray n dd sl k t ?_ ?_ ?_) ⟨ho, ?_⟩⟩)
    · rw [decide_eq_false (by omega), decide_eq_false (by omega)]; rfl
    · rw [hi, Bool.false_or]; exact beq_eq_false_iff_ne.mpr (by omega)
    · rw [hi, Bool.or_false]; exact decide_eq_true k1
    · refine ⟨.ref s.heap.objs.size, _, I.laid (t' := s.toks) (o := .tup []) (fun b ob q => Heap.get?_push_of_some _ q) (Nat.le_refl _) ?_, rfl, q _ (I.hok.fresh (Nat.le_refl _))⟩
      exact ⟨Nat.zero_le _, [], .nil, IsTup.new _ _⟩
end Ev

set_option linter.all false
set_option maxRecDepth 100000
set_option maxHeartbeats 1000000
/-! Ev.E: operators keep what the evaluator says -/
namespace Ev
open PySem PySem.Spec L2
def rU (X : Cx) (f : Value → Value → Sem Value) : R2 := fun x y H Q => ∀ (pins : List (Addr × Obj)) (s : Shared) (σ : St) (v u : Value), Inv X pins σ H s → RelV x v → RelV y u → wpAny (model X.prog X.w) X.A (f v u) (EP X pins σ Q) X.xe s
theorem op_U {X : Cx} {f : Value → Value → Sem Value} : OpR X f (rU X f) := fun pins s σ H x y v u Q I rx ry h => h pins s σ v u I rx ry
theorem rU.of {X : Cx} {f : Value → Value → Sem Value} {r : R2} (h : OpR X f r) {x y : V} {H : Hp} {Q : VK} (q : r x y H Q) : rU X f x y H Q := fun pins s σ v u I rx ry => h pins s σ H x y v u Q I rx ry q
section
variable {X : Cx} {G : Env1} {xr : XR} {P : Hp} {W : WX} {ρ : Rho} {s : ES} {σ : St} {H : Hp}
theorem lift2_ok {f : PV → PV → Option RE} {r r' : RE} {β : Type} {R : Rho → St → Hp → RE → β → Prop} {Q : β → Hp → Prop} (h : rdAt G xr P R W ρ (lift2 f r r' s) σ H Q) :
    ∃ u v x, deref s r = some u ∧ deref s r' = some v ∧ f u v = some x ∧ rdAt G xr P R W ρ (.ok x s) σ H Q := by
  unfold lift2 at h
  split at h
  · rename_i u hu
    split at h
    · rename_i v hv
      split at h
      · rename_i x hx
        exact ⟨u, v, x, hu, hv, hx, h⟩
      · exact h.elim
    · exact h.elim
  · exact h.elim
theorem lift1_ok {f : PV → Option RE} {r : RE} {β : Type} {R : Rho → St → Hp → RE → β → Prop} {Q : β → Hp → Prop} (h : rdAt G xr P R W ρ (lift1 f r s) σ H Q) :
    ∃ u x, deref s r = some u ∧ f u = some x ∧ rdAt G xr P R W ρ (.ok x s) σ H Q := by
  unfold lift1 at h
  split at h
  · rename_i u hu
    split at h
    · rename_i x hx
      exact ⟨u, x, hu, hx, h⟩
    · exact h.elim
  · exact h.elim
theorem mulOk_iff {i j : Int} (h : mulOk i j = true) : CMul i j ∨ CMulW i j := by
  simp only [mulOk, Bool.or_eq_true, Bool.and_eq_true, decide_eq_true_eq] at h
  rcases h with (h | h) | h
  · exact .inl (.inl h)
  · exact .inl (.inr h)
  · exact .inr h
theorem bin_ok (R0 : Rel G.K G.fa P ρ s σ H) {op : Operator} {u v : PV} {x y : V} {r : RE} {Q : VK} (hu : Pk G.K G.fa ρ H u x) (hv : Pk G.K G.fa ρ H v y) (hf : binV op u v = some r) (hK : X.K = G.K)
    (h : rdAt G xr P (RER G.K G.fa) W ρ (.ok r s) σ H Q) : rU X (binaryOp op) x y H Q := by
  cases op <;> simp only [binV] at hf <;> try (cases hf; done)
  case Add =>
    split at hf
    · cases hf; cases hu.int; cases hv.int
      exact .of op_add ⟨_, _, rfl, rfl, fin R0 h (.int _)⟩
    · split at hf
      · rename_i hl
        cases hf; cases hu.str; cases hv.str
        exact .of op_add_str ⟨_, _, rfl, rfl, by rw [sizeLIM]; exact hl, fin R0 h (.str _)⟩
      · cases hf
    · split at hf
      · rename_i hl
        cases hf
        obtain ⟨a, vs, rfl, ha, ra⟩ := hu.tup
        obtain ⟨b, ws, rfl, hb, rb⟩ := hv.tup
        refine .of op_catA ⟨a, b, vs, ws, rfl, rfl, by rw [hK]; exact ha, by rw [hK]; exact hb, by rw [sizeLIM, ← ra.length, ← rb.length]; exact hl, ?_⟩
        refine ⟨fun e => ?_, fun e1 e2 => ?_, fun e1 e2 p hp => finT R0 h (ra.append rb) hp⟩
        · subst e
          cases ra
          exact fin R0 h hv.rvT
        · subst e2
          cases rb
          rw [List.append_nil] at h
          exact fin R0 h hu.rvT
      · cases hf
    · split at hf
      · rename_i hl
        cases hf
        obtain ⟨a, vs, rfl, ha, ra⟩ := hu.lst
        obtain ⟨b, ws, rfl, hb, rb⟩ := hv.lst
        exact .of op_cat ⟨a, b, vs, ws, rfl, rfl, ha, hb, by rw [sizeLIM, ← ra.length, ← rb.length]; exact hl, fun p hp => finL R0 h (ra.append rb) hp⟩
      · cases hf
    · cases hf
  case Sub =>
    split at hf
    · cases hf; cases hu.int; cases hv.int
      exact .of op_sub ⟨_, _, rfl, rfl, fin R0 h (.int _)⟩
    · cases hf
  case Mult =>
    split at hf
    · split at hf
      · rename_i hm
        cases hf; cases hu.int; cases hv.int
        rcases mulOk_iff hm with c | c
        · exact .of op_mul ⟨_, _, rfl, rfl, c, fin R0 h (.int _)⟩
        · exact .of op_mulW ⟨_, _, rfl, rfl, c, fin R0 h (.int _)⟩
      · cases hf
    · split at hf
      · rename_i hm
        cases hf
        obtain ⟨a, vs, rfl, ha, ra⟩ := hu.lst
        cases hv.int
        simp only [repOk, Bool.and_eq_true, decide_eq_true_eq] at hm
        refine .of op_rep ⟨a, _, vs, rfl, rfl, ha, hm.1.1, hm.1.2, by rw [sizeLIM, ← ra.length]; exact hm.2, fun p hp => ?_⟩
        exact finL R0 h (ra.rep _) hp
      · cases hf
    · split at hf
      · rename_i hm
        cases hf
        obtain ⟨a, vs, rfl, ha, ra⟩ := hu.tup
        cases hv.int
        simp only [repTOk, Bool.and_eq_true, decide_eq_true_eq] at hm
        have hne : vs ≠ [] := fun z => by
          have e := ra.length
          rw [z] at e
          simp only [List.length_nil] at e
          omega
        by_cases h2 : 2 ≤ (‹Int› : Int)
        · exact .of op_repT ⟨a, _, vs, rfl, rfl, by rw [hK]; exact ha, hne, h2, hm.1.2, by rw [← ra.length]; exact hm.2, fun p hp => finT R0 h (ra.rep _) hp⟩
        · refine .of op_few ⟨a, _, vs, rfl, rfl, by rw [hK]; exact ha, hne, ?_⟩
          rename_i xs k
          by_cases h3 : k = 1
          · subst h3
            have e : (List.replicate (1 : Int).toNat xs).flatten = xs := by
              show (List.replicate 1 xs).flatten = xs
              simp
            rw [e] at h
            exact .inl ⟨rfl, fin R0 h hu.rvT⟩
          · have e : (List.replicate k.toNat xs).flatten = [] := by
              rw [show k.toNat = 0 by omega]; rfl
            rw [e] at h
            exact .inr ⟨hm.1.1.2, by omega, fun p hp => finT R0 h .nil hp⟩
      · cases hf
    · cases hf
  case FloorDiv =>
    split at hf
    · split at hf
      · rename_i hm
        cases hf; cases hu.int; cases hv.int
        simp only [divOk, Bool.or_eq_true, Bool.and_eq_true, decide_eq_true_eq] at hm
        rcases hm.2 with c | c
        · exact .of op_fdivN ⟨_, _, rfl, rfl, ⟨hm.1, c⟩, fin R0 h (.int _)⟩
        · refine .of op_fdivW ⟨_, _, rfl, rfl, c, ?_⟩
          show Q (.int (_ / _)) H
          rw [← Int.fdiv_eq_ediv_of_nonneg _ (Int.le_of_lt c.1)]
          exact fin R0 h (.int _)
      · cases hf
    · cases hf
  case Mod =>
    split at hf
    · split at hf
      · cases hf
      · rename_i hm
        cases hf; cases hu.int; cases hv.int
        exact .of op_modN ⟨_, _, rfl, rfl, hm, fin R0 h (.int _)⟩
    · cases hf
  case Pow =>
    split at hf
    · split at hf
      · rename_i hm
        cases hf; cases hu.int; cases hv.int
        simp only [powOk, Bool.and_eq_true, decide_eq_true_eq] at hm
        exact .of op_pow ⟨_, _, rfl, rfl, ⟨hm.1.1, hm.1.2, hm.2⟩, fin R0 h (.int _)⟩
      · cases hf
    · cases hf
  case LShift =>
    split at hf
    · split at hf
      · rename_i hm
        cases hf; cases hu.int; cases hv.int
        simp only [shlOk, Bool.and_eq_true, decide_eq_true_eq] at hm
        exact .of op_shlW ⟨_, _, rfl, rfl, hm, fin R0 h (.int _)⟩
      · cases hf
    · cases hf
/-! ### comparisons -/
theorem scal_int (i j : Int) : scal (.int i) (.int j) = true := rfl
theorem dec_V {i j : Int} : decide (V.int i = V.int j) = decide (i = j) := by
  by_cases h : i = j
  · subst h; simp
  · simp [h]
theorem dec_Vb {i j : Bool} : decide (V.bl i = V.bl j) = decide (i = j) := by
  by_cases h : i = j
  · subst h; simp
  · simp [h]
theorem dec_Vs {i j : Str} : decide (V.str i = V.str j) = decide (i = j) := by
  by_cases h : i = j
  · subst h; simp
  · simp [h]
theorem eqPV_cases {u v : PV} {b : Bool} (h : eqPV u v = some b) :
    (∃ i j, u = .int i ∧ v = .int j ∧ b = decide (i = j)) ∨ (∃ i j, u = .bl i ∧ v = .bl j ∧ b = decide (i = j)) ∨ (∃ i j, u = .str i ∧ v = .str j ∧ b = decide (i = j)) ∨ (u = .non ∧ v = .non ∧ b = true) ∨
      ∃ d e, toPy u = some d ∧ toPy v = some e ∧ SeqAt.shaped d = true ∧ SeqAt.shaped e = true ∧ b = PyData.eqv d e := by
  unfold eqPV at h
  split at h
  · cases h; exact .inl ⟨_, _, rfl, rfl, rfl⟩
  · cases h; exact .inr (.inl ⟨_, _, rfl, rfl, rfl⟩)
  · cases h; exact .inr (.inr (.inl ⟨_, _, rfl, rfl, rfl⟩))
  · cases h; exact .inr (.inr (.inr (.inl ⟨rfl, rfl, rfl⟩)))
  · split at h
    · rename_i d e hd he
      split at h
      · rename_i hs
        cases h
        simp only [Bool.and_eq_true] at hs
        exact .inr (.inr (.inr (.inr ⟨d, e, hd, he, hs.1, hs.2, rfl⟩)))
      · cases h
    · cases h
theorem flat_of {u : PV} {x : V} {ρ : Rho} {T : Hp} (h : RV G.K G.fa ρ T u x) (f : flatP u = true) : flatV x = true := by
  cases h <;> first | rfl | cases f
theorem eqF_of {u v : PV} {x y : V} {ρ : Rho} {T : Hp} (h : RV G.K G.fa ρ T u x) (f : flatP u = true) (h' : RV G.K G.fa ρ T v y) (f' : flatP v = true) : eqV x y = eqF u v := by
  cases h <;> cases h' <;> first | rfl | cases f | cases f'
theorem flats_of {ρ : Rho} {T : Hp} : ∀ {us : List PV} {xs : List V}, RVs G.K G.fa ρ T us xs → us.all flatP = true → xs.all flatV = true
  | _, _, .nil, _ => rfl
  | _, _, .cons h t, f => by
    simp only [List.all_cons, Bool.and_eq_true] at f ⊢
    exact ⟨flat_of h f.1, flats_of t f.2⟩
theorem any_of {ρ : Rho} {T : Hp} {u : PV} {x : V} (hu : RV G.K G.fa ρ T u x) (fu : flatP u = true) : ∀ {us : List PV} {xs : List V}, RVs G.K G.fa ρ T us xs → us.all flatP = true → (xs.any fun y => eqV y x) = us.any fun y => eqF y u
  | _, _, .nil, _ => rfl
  | _, _, .cons h t, f => by
    simp only [List.all_cons, Bool.and_eq_true] at f
    simp only [List.any_cons]
    rw [eqF_of h f.1 hu fu, any_of hu fu t f.2]
theorem Pk.flat {u : PV} {x : V} (h : Pk G.K G.fa ρ H u x) (f : flatP u = true) : RV G.K G.fa ρ (cut H ρ) u x := by
  rcases h with h | ⟨c, a, e, _⟩
  · exact h
  · cases c; subst e; cases f
theorem in_ok {neg : Bool} {u v : PV} {x y : V} {xs : List PV} {b : Bool} {Q : VK} (hu : Pk G.K G.fa ρ H u x) (hv : Pk G.K G.fa ρ H v y) (hx : v = .tup xs ∨ v = .lst xs) (hf : inV u xs = some b) (hK : X.K = G.K)
    (q : Q (.bl (if neg then !b else b)) H) : rIn X.K neg x y H Q := by
  unfold inV at hf
  split at hf
  · rename_i hc
    simp only [Bool.and_eq_true] at hc
    cases hf
    have fx := hu.flat hc.1
    rcases hx with e | e
    · subst e
      obtain ⟨a, vs, rfl, ha, ra⟩ := hv.tup
      refine ⟨a, vs, rfl, .inr (by rw [hK]; exact ha), flat_of fx hc.1, flats_of ra hc.2, ?_⟩
      unfold L2.inV
      rw [any_of fx hc.1 ra hc.2]
      exact q
    · subst e
      obtain ⟨a, vs, rfl, ha, ra⟩ := hv.lst
      refine ⟨a, vs, rfl, .inl (SqL.of ha), flat_of fx hc.1, flats_of ra hc.2, ?_⟩
      unfold L2.inV
      rw [any_of fx hc.1 ra hc.2]
      exact q
  · cases hf
theorem Pk.isNon {u : PV} {x : V} (h : Pk G.K G.fa ρ H u x) (b : Bool) (e : (match u with | .non => true | _ => false) = b) : decide (x = V.non) = b := by
  rcases h with h | ⟨c, a, e1, e2, _⟩
  · cases h <;> subst e <;> rfl
  · cases c; subst e1; subst e2; subst e; rfl
theorem cmp_ok (R0 : Rel G.K G.fa P ρ s σ H) {op : CmpOp} {u v : PV} {x y : V} {b : Bool} {Q : VK} (hu : Pk G.K G.fa ρ H u x) (hv : Pk G.K G.fa ρ H v y) (hf : cmpV op u v = some b) (hK : X.K = G.K) (hun : X.A.units + 64 < cLine)
    (q : Q (.bl b) H) : rU X (compareOp op) x y H Q := by
  cases op <;> simp only [cmpV] at hf
  case Lt => split at hf <;> cases hf; cases hu.int; cases hv.int; exact .of op_lt ⟨_, _, rfl, rfl, q⟩
  case LtE => split at hf <;> cases hf; cases hu.int; cases hv.int; exact .of op_le ⟨_, _, rfl, rfl, q⟩
  case Gt => split at hf <;> cases hf; cases hu.int; cases hv.int; exact .of op_gt ⟨_, _, rfl, rfl, q⟩
  case GtE => split at hf <;> cases hf; cases hu.int; cases hv.int; exact .of op_ge ⟨_, _, rfl, rfl, q⟩
  case Eq =>
    rcases eqPV_cases hf with ⟨i, j, rfl, rfl, rfl⟩ | ⟨i, j, rfl, rfl, rfl⟩ | ⟨i, j, rfl, rfl, rfl⟩ | ⟨rfl, rfl, rfl⟩ | ⟨d, e, hd, he, h1, h2, rfl⟩
    · cases hu.int; cases hv.int; exact .of op_eq ⟨rfl, by rw [dec_V]; exact q⟩
    · cases hu.bl; cases hv.bl; exact .of op_eq ⟨rfl, by rw [dec_Vb]; exact q⟩
    · cases hu.str; cases hv.str; exact .of op_eq ⟨rfl, by rw [dec_Vs]; exact q⟩
    · cases hu.non; cases hv.non; exact .of op_eq ⟨rfl, by simpa using q⟩
    · exact .of (op_eqD hun) ⟨d, e, by rw [hK]; exact hu.dp hd, by rw [hK]; exact hv.dp he, h1, h2, q⟩
  case NotEq =>
    simp only [Option.map_eq_some_iff] at hf
    obtain ⟨b', hf, rfl⟩ := hf
    rcases eqPV_cases hf with ⟨i, j, rfl, rfl, rfl⟩ | ⟨i, j, rfl, rfl, rfl⟩ | ⟨i, j, rfl, rfl, rfl⟩ | ⟨rfl, rfl, rfl⟩ | ⟨d, e, hd, he, h1, h2, rfl⟩
    · cases hu.int; cases hv.int; exact .of op_ne ⟨rfl, by rw [dec_V]; exact q⟩
    · cases hu.bl; cases hv.bl; exact .of op_ne ⟨rfl, by rw [dec_Vb]; exact q⟩
    · cases hu.str; cases hv.str; exact .of op_ne ⟨rfl, by rw [dec_Vs]; exact q⟩
    · cases hu.non; cases hv.non; exact .of op_ne ⟨rfl, by simpa using q⟩
    · exact .of (op_neD hun) ⟨d, e, by rw [hK]; exact hu.dp hd, by rw [hK]; exact hv.dp he, h1, h2, q⟩
  case Is =>
    split at hf <;> cases hf
    · cases hu.bl; cases hv.bl; exact .of op_isBl ⟨_, _, rfl, rfl, q⟩
    all_goals (cases hv.non; refine .of op_isN ⟨rfl, ?_⟩; rw [hu.isNon _ rfl]; exact q)
  case IsNot =>
    split at hf <;> cases hf
    · cases hu.bl; cases hv.bl; exact .of op_notBl ⟨_, _, rfl, rfl, q⟩
    all_goals (cases hv.non; refine .of op_notN ⟨rfl, ?_⟩; rw [hu.isNon _ rfl]; exact q)
  case In =>
    split at hf
    · exact .of op_in_seq (in_ok hu hv (.inl rfl) hf hK q)
    · exact .of op_in_seq (in_ok hu hv (.inr rfl) hf hK q)
    · cases hf
  case NotIn =>
    split at hf
    · simp only [Option.map_eq_some_iff] at hf
      obtain ⟨b', hf, rfl⟩ := hf
      exact .of op_notIn_seq (in_ok (neg := true) hu hv (.inl rfl) hf hK q)
    · simp only [Option.map_eq_some_iff] at hf
      obtain ⟨b', hf, rfl⟩ := hf
      exact .of op_notIn_seq (in_ok (neg := true) hu hv (.inr rfl) hf hK q)
    · cases hf
/-! ### truth -/
theorem tru_pk {u : PV} {x : V} {b : Bool} (hu : Pk G.K G.fa ρ H u x) (hf : truV u = some b) (hK : X.K = G.K) : TruV X.K x H b := by
  unfold truV at hf
  split at hf <;> try cases hf
  · cases hu.non; rfl
  · cases hu.bl; rfl
  · cases hu.int; rfl
  · obtain ⟨a, vs, rfl, ha, ra⟩ := hu.tup
    refine .inr (.inl ⟨vs, by rw [hK]; exact ha, ?_⟩)
    cases ra <;> rfl
  · obtain ⟨a, vs, rfl, ha, ra⟩ := hu.lst
    refine .inl ⟨vs, SqL.of ha, ?_⟩
    cases ra <;> rfl
end
end Ev

set_option linter.all false
set_option maxRecDepth 100000
set_option maxHeartbeats 1000000
/-! Ev.F: subscripts, slices, reversed copies, built-in functions -/
namespace Ev
open PySem PySem.Spec L2
open PyProof.Rows (IsTup)

/-! ### t[::-1] -/
section
variable {prog : Program} {w : World} {A : Around} {E : Value → Shared → Prop} {s : Shared}
theorem places_rev (n : Nat) : Builtin.Slice.slicePlaces ((n : Int) - 1) (-1) (-1) = n := by
  unfold Builtin.Slice.slicePlaces
  have h1 : ¬ ((-1 : Int) > 0) := by decide
  simp only [h1, if_false]
  split
  · rw [show (-(-1) : Int) = 1 by decide, Int.ediv_one]; omega
  · omega
theorem adjust_rev (n : Nat) : Builtin.Slice.sliceAdjust none none (-1) (n : Int) = ((n : Int) - 1, -1) := by
  unfold Builtin.Slice.sliceAdjust
  simp
theorem sliceApplied_rev {sl : Addr} {tk : Tok} {n : Nat} {Q : Int × Int × Nat → Shared → Prop} (hs : s.heap.IsSliceOf sl .none .none (.int (-1) tk))
    (h : Q ((n : Int) - 1, -1, n) s) : wpAny (model prog w) A (Builtin.Slice.sliceApplied (.ref sl) (pure (n : Int))) Q E s := by
  obtain ⟨os, hos, hcs, hds⟩ := id hs
  unfold Builtin.Slice.sliceApplied Builtin.Slice.sliceFields
  refine wpAny_bind (wpAny_bind (wpAny_field hos hds (x := .none) rfl (wpAny_bind (wpAny_field hos hds (x := .none) rfl (wpAny_bind (wpAny_field hos hds (x := .int (-1) tk) rfl (wpAny_pure ?_)))))))
  refine wpAny_bind (HT.slicePart_ (.int _ _) ?_)
  show wpAny _ _ (if ((-1 : Int) == 0) = true then _ else _) _ _ s
  rw [if_neg (by decide)]
  refine wpAny_bind (HT.slicePart_ .none (wpAny_bind (HT.slicePart_ .none (wpAny_bind (wpAny_pure ?_)))))
  show wpAny _ _ (match Builtin.Slice.sliceAdjust none none (-1) (n : Int) with | (lo, hi) => pure (lo, (-1 : Int), Builtin.Slice.slicePlaces lo hi (-1))) _ _ s
  rw [adjust_rev]
  show wpAny _ _ (pure ((n : Int) - 1, (-1 : Int), Builtin.Slice.slicePlaces ((n : Int) - 1) (-1) (-1))) _ _ s
  rw [places_rev]
  exact wpAny_pure h
theorem pick_rev (xs : Array Value) : ((List.range xs.size).filterMap fun (m : Nat) => xs[(((xs.size : Int) - 1) + (m : Int) * (-1)).toNat]?).toArray = xs.toList.reverse.toArray := by
  have e : ((List.range xs.size).filterMap fun (m : Nat) => xs[(((xs.size : Int) - 1) + (m : Int) * (-1)).toNat]?) = ((List.range xs.size).map fun k => xs.size - 1 - k).filterMap (xs[·]?) := by
    rw [List.filterMap_map]
    have gen : ∀ l : List Nat, (∀ m ∈ l, m < xs.size) → (l.filterMap fun (m : Nat) => xs[(((xs.size : Int) - 1) + (m : Int) * (-1)).toNat]?) = l.filterMap ((xs[·]?) ∘ fun k => xs.size - 1 - k) := by
      intro l
      induction l with
      | nil => intro _; rfl
      | cons m l ih =>
        intro h
        have hm := h m List.mem_cons_self
        have e2 : (((xs.size : Int) - 1) + (m : Int) * (-1)).toNat = xs.size - 1 - m := by omega
        rw [List.filterMap_cons, List.filterMap_cons, ih fun k hk => h k (List.mem_cons_of_mem _ hk), e2]
        rfl
    exact gen _ fun m hm => List.mem_range.mp hm
  rw [e, PySem.W.krv_range, List.filterMap_reverse, PySem.W.krv_all]
theorem getItem_tuple_rev {t sl : Addr} {items : Array Value} {tk : Tok} {Q : Value → Shared → Prop} (ht : IsTup s.heap t items) (hs : s.heap.IsSliceOf sl .none .none (.int (-1) tk))
    (h : Q (.ref s.heap.objs.size) { s with heap := s.heap.push { cls := .type "tuple", data := .seq items.toList.reverse.toArray } })
    (hsz : items.size ≤ sizeLine) : wpAny (model prog w) A (getItem (.ref t) (.ref sl)) Q E s := by
  have htake : sizeOk (.seq items.toList.reverse.toArray) := by
    show (items.toList.reverse.toArray).size ≤ sizeLine
    rw [List.size_toArray, List.length_reverse, Array.length_toList]
    omega
  obtain ⟨os, hos, hcs, hds⟩ := id hs
  have hTs : s.TypeIs (.ref sl) "slice" := ⟨os, hos, hcs⟩
  unfold getItem
  try with_reducible refine wpAny_holding ?_
  first | refine wpAny_bind (wpAny_pure ?_) | skip
  refine wpAny_bind (wpAny_sequenceKey ht.typeIs (by decide) ?_)
  refine wpAny_bind (wpAny_callSpecial?_slot (name := Str.ofString "__getitem__") ht.typeIs PyProof.Rows.slot_tuple_getitem
    (wpAny_call_entry PyProof.Rows.slot_tuple_getitem ht.typeIs PyProof.Rows.entry_tuple_getitem ?_ (PyProof.Rows.args_tuple_getitem _ _)))
  show wpAny _ _ (Builtin.Tuple.tupleItemsOf (.ref t) >>= _) _ _ s
  refine wpAny_bind (PyProof.Rows.tupleItemsOf_ ht ?_)
  refine wpAny_bind (wpAny_typeOf hTs ?_)
  rw [if_pos (by decide)]
  refine wpAny_bind (sliceApplied_rev hs ?_)
  have hno : ¬ ((((items.size : Int) - 1 == 0) && (-1 : Int) == 1 && items.size == items.size) = true) := by simp
  show wpAny _ _ (if (((items.size : Int) - 1 == 0) && (-1 : Int) == 1 && items.size == items.size) = true then _ else _) _ _ s
  rw [if_neg hno, pick_rev]
  first
    | exact wpAny_bind (m := Builtin.Tuple.tupleExact _) (wpAny_newObj_type (wpAny_pure ⟨_, rfl, wpAny_pure h⟩) htake)
    | exact wpAny_bind (m := Builtin.Tuple.tupleExact _) (wpAny_newObj_type (wpAny_bind (wpAny_pure (wpAny_pure ⟨_, rfl, wpAny_pure h⟩))) htake)
    | exact wpAny_bind (wpAny_bind (m := Builtin.Tuple.tupleExact _) (wpAny_newObj_type (wpAny_pure (wpAny_pure ⟨_, rfl, wpAny_pure h⟩)) htake))
    | exact wpAny_bind (wpAny_bind (m := Builtin.Tuple.tupleExact _) (wpAny_newObj_type (wpAny_pure ⟨_, rfl, wpAny_pure h⟩) htake))
end
section
variable {X : Cx}
/-- a reversed copy, by values -/
def rRev (K : PySem.W.Frag) : V → Hp → VK → Prop := fun x H Q => (∃ a xs, x = .ref a ∧ SqL K H a xs ∧ ∀ p, H p = none → Q (.ref p) (upd H p (.lst xs.reverse))) ∨ ∃ a xs, x = .ref a ∧ SqT K H a xs ∧ ∀ p, H p = none → Q (.ref p) (upd H p (.tup xs.reverse))
theorem pe_rev {e : Expr} {te : TE} {p1 p2 p3 pos : Pos} {j : Nat} (he : PE X e te) : PE X (.Subscript e (.Slice none none (some (.UnaryOp .USub (.Constant (.int 1) j p1) p2)) p3) pos) (fun σ H Q => te σ H fun x H1 => rRev X.K x H1 Q) := by
  refine ⟨fun pins s σ H Q I h => ?_⟩
  refine PyProof.Rows.Subscript_ (thn (he.run pins s σ H _ I h) fun v s1 ⟨x, H1, I1, r1, q1⟩ => ?_)
  refine wpAny_Slice ?_
  rw [evalPart_none]
  refine wpAny_pure ?_
  refine wpAny_pure ?_
  rw [evalPart_some]
  have pm : PE X (.UnaryOp .USub (.Constant (.int 1) j p1) p2) (tUn (L2.rU (fun i => V.int (-i))) (tC (.int 1))) := pe_un un_neg pe_int
  refine thn (pm.run pins s1 σ H1 (fun y H2 => y = .int (-1) ∧ H2 = H1) I1 ⟨1, rfl, rfl, rfl⟩) fun u s2 ⟨y, H2, I2, r2, e1, e2⟩ => ?_
  subst e1; subst e2
  obtain ⟨tk, rfl⟩ := r2
  have I4 : Inv X pins σ H2 { s2 with heap := s2.heap.push { cls := .type "slice", data := .fields #[.none, .none, .int (-1) tk] } } := I2.kept (t' := s2.toks) fun b ob q => Heap.get?_push_of_some _ q
  have key : ∀ s3 : Shared, Inv X pins σ H2 s3 → s3.heap.IsSliceOf s2.heap.objs.size .none .none (.int (-1) tk) → wpAny (model X.prog X.w) X.A (PyProof.Rows.subscriptTail e (.Slice none none (some (.UnaryOp .USub (.Constant (.int 1) j p1) p2)) p3) v (.ref s2.heap.objs.size)) (EP X pins σ Q) X.xe s3 := ?_
  · exact key _ I4 (Heap.IsSliceOf.new ..)
  clear I4
  intro s3 I4 hs
  rcases q1 with ⟨a, xs, rfl, hx, q⟩ | ⟨a, xs, rfl, hx, q⟩
  · cases r1
    obtain ⟨its, r, ht, hz⟩ := I4.list hx
    have hlen := r.length
    refine PyProof.Rows.tail_any (ops := [.ref a, .ref s2.heap.objs.size]) ht.isList.typeIs slot_list_getitem.lookup ?_ (by with_unfolding_all rfl)
    refine wpAny_getItem_list_slice ht.isList hs .none .none (.int _ _) (by simp) ?_ (by rw [List.size_toArray] <;> omega)
    rw [PySem.W.krv_pick]
    refine ⟨.ref s3.heap.objs.size, _, I4.laid (t' := s3.toks) (o := .lst xs.reverse) (fun b ob q => Heap.get?_push_of_some _ q) (Nat.le_refl _) ?_, rfl, q _ (I4.hok.fresh (Nat.le_refl _))⟩
    exact ⟨by rw [List.length_reverse]; exact hz, its.reverse, 0, r.reverse, Heap.get?_push_size _ rfl⟩
  · cases r1
    obtain ⟨its, r, ht, hz⟩ := I4.tuple hx
    have hlen := r.length
    refine PyProof.Rows.tail_any (ops := [.ref a, .ref s2.heap.objs.size]) ht.typeIs PyProof.Rows.slot_tuple_getitem.lookup ?_ (by with_unfolding_all rfl)
    refine getItem_tuple_rev ht hs ?_ (by rw [List.size_toArray] <;> omega)
    refine ⟨.ref s3.heap.objs.size, _, I4.laid (t' := s3.toks) (o := .tup xs.reverse) (fun b ob q => Heap.get?_push_of_some _ q) (Nat.le_refl _) ?_, rfl, q _ (I4.hok.fresh (Nat.le_refl _))⟩
    exact ⟨by rw [List.length_reverse]; exact hz, its.reverse, r.reverse, ⟨_, Heap.get?_push_size _ rfl, rfl, _, rfl⟩⟩
end
end Ev

set_option linter.all false
set_option maxRecDepth 100000
set_option maxHeartbeats 1000000
/-! Ev.G: subscripts, slices, built-in functions keep what the evaluator says -/
namespace Ev
open PySem PySem.Spec L2
def rUx (X : Cx) : R2 := fun x y H Q => ∀ (value slice : Expr) (pins : List (Addr × Obj)) (s : Shared) (σ : St) (v u : Value), Inv X pins σ H s → RelV x v → RelV y u →
  subscripted slice false v u = operate [v, u] (getItem v u) → wpAny (model X.prog X.w) X.A (PyProof.Rows.subscriptTail value slice v u) (EP X pins σ Q) X.xe s
theorem ix_U {X : Cx} : IxR X (rUx X) := fun value slice pins s σ H x y v u Q I rx ry h hs => h value slice pins s σ v u I rx ry hs
theorem rUx.of {X : Cx} {r : R2} (h : IxR X r) {x y : V} {H : Hp} {Q : VK} (q : r x y H Q) : rUx X x y H Q := fun value slice pins s σ v u I rx ry hs => h value slice pins s σ H x y v u Q I rx ry q hs
def rUs (X : Cx) : V → Option Int → Option Int → Hp → VK → Prop := fun x lo hi H Q => ∀ (pins : List (Addr × Obj)) (s : Shared) (σ : St) (v vl vu : Value) (sl : Addr), Inv X pins σ H s → RelV x v → s.heap.IsSliceOf sl vl vu .none → IsPart vl lo → IsPart vu hi →
  ∃ T id, typeLookup (.type T) "__getitem__" = pure (some (.builtin id)) ∧ s.TypeIs v T ∧ wpAny (model X.prog X.w) X.A (getItem v (.ref sl)) (EP X pins σ Q) X.xe s
theorem sl_U {X : Cx} : SlR X (rUs X) := fun pins s σ H x v vl vu lo hi sl Q I rx hs pl pu h => h pins s σ v vl vu sl I rx hs pl pu
theorem rUs.of {X : Cx} {r : V → Option Int → Option Int → Hp → VK → Prop} (h : SlR X r) {x : V} {lo hi : Option Int} {H : Hp} {Q : VK} (q : r x lo hi H Q) : rUs X x lo hi H Q :=
  fun pins s σ v vl vu sl I rx hs pl pu => h pins s σ H x v vl vu lo hi sl Q I rx hs pl pu q
def rUc (X : Cx) (f : Value) : List V → Hp → VK → Prop := fun xs H Q => ∀ (pins : List (Addr × Obj)) (s : Shared) (σ : St) (us : List Value), Inv X pins σ H s → Vals xs us → wpAny (model X.prog X.w) X.A (call f us) (EP X pins σ Q) X.xe s
theorem call_U {X : Cx} {f : Value} : CallR X f (rUc X f) := fun pins s σ H xs us Q I r h => h pins s σ us I r
theorem rUc.of {X : Cx} {f : Value} {r : List V → Hp → VK → Prop} (h : CallR X f r) {xs : List V} {H : Hp} {Q : VK} (q : r xs H Q) : rUc X f xs H Q := fun pins s σ us I rr => h pins s σ H xs us Q I rr q

section
variable {X : Cx} {G : Env1} {xr : XR} {P : Hp} {W : WX} {ρ : Rho} {s : ES} {σ : St} {H : Hp}
theorem atI_rv {T : Hp} {xs : List PV} {vs : List V} {i : Int} {v : PV} (h : RVs G.K G.fa ρ T xs vs) (e : L2.atI xs i = some v) : ∃ w, L2.atI vs i = some w ∧ RV G.K G.fa ρ T v w := by
  unfold L2.atI at e ⊢
  rw [← h.length]
  cases hj : L2.ixN xs.length i with
  | none => rw [hj] at e; cases e
  | some j =>
    rw [hj] at e
    exact h.get (i := j) (by simpa using e)
theorem ix_ok (R0 : Rel G.K G.fa P ρ s σ H) {u v w : PV} {x y : V} {Q : VK} (hu : Pk G.K G.fa ρ H u x) (hv : Pk G.K G.fa ρ H v y) (hf : ixV u v = some w) (hK : X.K = G.K)
    (h : rdAt G xr P (RER G.K G.fa) W ρ (.ok (.val w) s) σ H Q) : rUx X x y H Q := by
  unfold ixV at hf
  split at hf
  · obtain ⟨a, vs, rfl, ha, ra⟩ := hu.tup
    cases hv.int
    obtain ⟨z, e1, e2⟩ := atI_rv ra hf
    exact .of ix_tup ⟨a, vs, _, z, rfl, rfl, by rw [hK]; exact ha, e1, fin R0 h e2⟩
  · obtain ⟨a, vs, rfl, ha, ra⟩ := hu.lst
    cases hv.int
    obtain ⟨z, e1, e2⟩ := atI_rv ra hf
    exact .of ix_list ⟨a, vs, _, z, rfl, rfl, SqL.of ha, e1, fin R0 h e2⟩
  · cases hf
theorem unbox_pk (R0 : Rel G.K G.fa P ρ s σ H) {u : PV} {x : V} (hu : Pk G.K G.fa ρ H u x) : Pk G.K G.fa ρ H (unbox s u) x := by
  unfold unbox
  split
  · rename_i n
    split
    · rename_i c hc
      rcases hu with hu | ⟨c', a, e, _⟩
      · cases hu with
        | box hb =>
          rename_i a
          have q := R0.box n
          rw [hc] at q
          obtain ⟨a', h1, h2⟩ := q
          rw [hb] at h1; cases h1
          exact .inr ⟨c, a, rfl, rfl, ⟨_, hb⟩, h2⟩
      · cases c'; cases e
    · exact hu
  · exact hu
theorem cut_rv {T : Hp} {xs : List PV} {vs : List V} {lo hi : Option Int} (h : RVs G.K G.fa ρ T xs vs) : RVs G.K G.fa ρ T (cutP xs lo hi) (L2.cutV vs lo hi) := by
  unfold cutP L2.cutV
  rw [← h.length]
  exact RVs.take _ (RVs.drop _ h)
theorem sl_ok (R0 : Rel G.K G.fa P ρ s σ H) {u : PV} {x : V} {lo hi : Option Int} {r : RE} {Q : VK} (hu : Pk G.K G.fa ρ H u x) (hf : slV u lo hi = some r) (hK : X.K = G.K)
    (h : rdAt G xr P (RER G.K G.fa) W ρ (.ok r s) σ H Q) : rUs X x lo hi H Q := by
  unfold slV at hf
  split at hf
  · cases hf
    obtain ⟨a, vs, rfl, ha, ra⟩ := hu.tup
    refine .of sl_tupA ⟨a, vs, rfl, by rw [hK]; exact ha, fun z => ?_, fun _ p hp => finT R0 h (cut_rv ra) hp⟩
    rename_i xs
    have e : cutP xs lo hi = xs := by
      unfold cutP
      rw [ra.length, z.1, z.2, List.drop_zero, Nat.sub_zero, ← ra.length, List.take_length]
    rw [e] at h
    exact fin R0 h hu.rvT
  · cases hf
    obtain ⟨a, vs, rfl, ha, ra⟩ := hu.lst
    exact .of sl_list ⟨a, vs, rfl, SqL.of ha, fun p hp => finL R0 h (cut_rv ra) hp⟩
  · cases hf
theorem rev_ok (R0 : Rel G.K G.fa P ρ s σ H) {u : PV} {x : V} {r : RE} {Q : VK} (hu : Pk G.K G.fa ρ H u x) (hf : revV u = some r) (hK : X.K = G.K)
    (h : rdAt G xr P (RER G.K G.fa) W ρ (.ok r s) σ H Q) : rRev X.K x H Q := by
  unfold revV at hf
  split at hf
  · cases hf
    obtain ⟨a, vs, rfl, ha, ra⟩ := hu.tup
    exact .inr ⟨a, vs, rfl, by rw [hK]; exact ha, fun p hp => finT R0 h ra.rev hp⟩
  · cases hf
    obtain ⟨a, vs, rfl, ha, ra⟩ := hu.lst
    exact .inl ⟨a, vs, rfl, SqL.of ha, fun p hp => finL R0 h ra.rev hp⟩
  · cases hf

/-! ### built-in functions -/
theorem boolsOf_eq : ∀ {xs : List PV} {bs : List Bool}, boolsOf xs = some bs → xs = bs.map PV.bl
  | [], _, h => by simp only [boolsOf, Option.some.injEq] at h; subst h; rfl
  | x :: xs, bs, h => by
    cases x <;> simp only [boolsOf, Option.map_eq_some_iff, reduceCtorEq] at h
    obtain ⟨cs, h1, rfl⟩ := h
    rw [boolsOf_eq h1]; rfl
theorem intsOf_eq : ∀ {xs : List PV} {bs : List Int}, intsOf xs = some bs → xs = bs.map PV.int
  | [], _, h => by simp only [intsOf, Option.some.injEq] at h; subst h; rfl
  | x :: xs, bs, h => by
    cases x <;> simp only [intsOf, Option.map_eq_some_iff, reduceCtorEq] at h
    obtain ⟨cs, h1, rfl⟩ := h
    rw [intsOf_eq h1]; rfl
theorem RVs.of_bools {T : Hp} : ∀ {bs : List Bool} {vs : List V}, RVs G.K G.fa ρ T (bs.map PV.bl) vs → vs = bs.map V.bl
  | [], _, h => by cases h; rfl
  | n :: r, _, h => by
    cases h with
    | cons h1 h2 => cases h1; rw [RVs.of_bools h2]; rfl
theorem foldl_max : ∀ (xs : List Int) (a m : Int), xs.foldl (fun a b => if b > a then b else a) a = m → (m = a ∨ m ∈ xs) ∧ a ≤ m ∧ ∀ y ∈ xs, y ≤ m
  | [], a, m, h => by simp only [List.foldl_nil] at h; subst h; simp
  | x :: xs, a, m, h => by
    rw [List.foldl_cons] at h
    obtain ⟨h1, h2, h3⟩ := foldl_max xs _ m h
    refine ⟨?_, ?_, fun y hy => ?_⟩
    · rcases h1 with h1 | h1
      · split at h1
        · exact .inr (by rw [h1]; exact List.mem_cons_self)
        · exact .inl h1
      · exact .inr (List.mem_cons_of_mem _ h1)
    · split at h2 <;> omega
    · rcases List.mem_cons.mp hy with e | e
      · subst e; split at h2 <;> omega
      · exact h3 y e
theorem foldl_min : ∀ (xs : List Int) (a m : Int), xs.foldl (fun a b => if b < a then b else a) a = m → (m = a ∨ m ∈ xs) ∧ m ≤ a ∧ ∀ y ∈ xs, m ≤ y
  | [], a, m, h => by simp only [List.foldl_nil] at h; subst h; simp
  | x :: xs, a, m, h => by
    rw [List.foldl_cons] at h
    obtain ⟨h1, h2, h3⟩ := foldl_min xs _ m h
    refine ⟨?_, ?_, fun y hy => ?_⟩
    · rcases h1 with h1 | h1
      · split at h1
        · exact .inr (by rw [h1]; exact List.mem_cons_self)
        · exact .inl h1
      · exact .inr (List.mem_cons_of_mem _ h1)
    · split at h2 <;> omega
    · rcases List.mem_cons.mp hy with e | e
      · subst e; split at h2 <;> omega
      · exact h3 y e
theorem maxI_spec {ns : List Int} {m : Int} (h : maxI ns = some m) : m ∈ ns ∧ ∀ y ∈ ns, y ≤ m := by
  cases ns with
  | nil => cases h
  | cons x xs =>
    simp only [maxI, Option.some.injEq] at h
    obtain ⟨h1, h2, h3⟩ := foldl_max xs x m h
    refine ⟨?_, fun y hy => ?_⟩
    · rcases h1 with h1 | h1
      · rw [h1]; exact List.mem_cons_self
      · exact List.mem_cons_of_mem _ h1
    · rcases List.mem_cons.mp hy with e | e
      · rw [e]; exact h2
      · exact h3 y e
theorem minI_spec {ns : List Int} {m : Int} (h : minI ns = some m) : m ∈ ns ∧ ∀ y ∈ ns, m ≤ y := by
  cases ns with
  | nil => cases h
  | cons x xs =>
    simp only [minI, Option.some.injEq] at h
    obtain ⟨h1, h2, h3⟩ := foldl_min xs x m h
    refine ⟨?_, fun y hy => ?_⟩
    · rcases h1 with h1 | h1
      · rw [h1]; exact List.mem_cons_self
      · exact List.mem_cons_of_mem _ h1
    · rcases List.mem_cons.mp hy with e | e
      · rw [e]; exact h2
      · exact h3 y e
def Pks (K : PySem.W.Frag) (fa : Nat → Addr) (ρ : Rho) (H : Hp) : List PV → List V → Prop
  | [], [] => True
  | v :: vs, x :: xs => Pk K fa ρ H v x ∧ Pks K fa ρ H vs xs
  | _, _ => False
theorem Pks.one {v : PV} {xs : List V} (h : Pks G.K G.fa ρ H [v] xs) : ∃ x, xs = [x] ∧ Pk G.K G.fa ρ H v x := by
  match xs, h with
  | [x], ⟨h, _⟩ => exact ⟨x, rfl, h⟩
theorem Pks.two {v w : PV} {xs : List V} (h : Pks G.K G.fa ρ H [v, w] xs) : ∃ x y, xs = [x, y] ∧ Pk G.K G.fa ρ H v x ∧ Pk G.K G.fa ρ H w y := by
  match xs, h with
  | [x, y], ⟨h, h', _⟩ => exact ⟨x, y, rfl, h, h'⟩
/-- what a built-in's name stands for -/
def Bi.isTy : Bi → Bool
  | .tuple => true | .list => true | .int => true | _ => false
def Bi.value (b : Bi) : Value := if b.isTy then .type b.nm else .builtin b.nm
theorem repr_ok {x : V} {d : PyData} {Q : VK} (hd : Dp G.K H x d) (hs : showOk d = true) (hK : X.K = G.K) (gd : X.A.guards = some [] ∧ X.A.units + 70 < cLine) (q : Q (.str d.shown) H) : rUc X (.builtin "repr") [x] H Q := by
  intro pins s σ us I rr
  obtain ⟨u, rfl, ru⟩ := vals1 rr
  rw [← hK] at hd
  obtain ⟨as, r1⟩ := Dp.reads I d x u hd ru
  unfold showOk at hs
  simp only [Bool.and_eq_true, Bool.or_eq_true, decide_eq_true_eq] at hs
  obtain ⟨⟨⟨h1, h2⟩, h3⟩, h4⟩ := hs
  have hz : d.shown.length ≤ sizeLine := by
    rcases h4 with (h4 | h4) | h4
    · exact PyData.shown_fits_bulk (B := 13) (by decide) (by decide) h4.1 h4.2
    · have q := PyData.shown_le_bulk 64 (by decide) d h4.1
      have q2 := h4.2
      rw [sizeLine_eq]
      omega
    · exact h4
  have hl : d.canLay0 = true ∧ d.depth ≤ 64 := by
    have h2' : (d.canLay0 && decide (d.depth ≤ 64)) = true := h2
    simpa only [Bool.and_eq_true, decide_eq_true_eq] using h2'
  have nd := PyData.hasDict_of_canLay d hl.1
  have go : ∀ {a : Addr}, u = .ref a → wpAny (model X.prog X.w) X.A (call (.builtin "repr") [u]) (EP X pins σ Q) X.xe s := fun {a} e => by
    subst e
    exact repr_of_reads' r1 h1 (PyData.noDict_hsm nd) gd.1 (by have := gd.2; omega) (fun _ _ e => e) (fun h' t tk hk => ⟨.str _, H, I.kept hk, ⟨_, rfl⟩, q⟩) hz
  cases r1 with
  | none => exact PySem.P.repr_of_none ⟨.str _, H, I.tok _, ⟨_, rfl⟩, q⟩
  | dict => cases h3
  | bool b =>
    exact PySem.P.repr_of_bool ⟨.str _, H, I.tok _, ⟨_, rfl⟩, q⟩
  | int i t => exact PySem.P.repr_of_int (by simpa [PyData.showable] using h1) ⟨.str _, H, I.tok _, ⟨_, rfl⟩, q⟩
  | str y t => exact PySem.P.repr_of_str ⟨.str _, H, I.tok _, ⟨_, rfl⟩, q⟩ hz
  | list _ _ _ _ => exact go rfl
  | tuple _ _ _ _ => exact go rfl
theorem bi_ok (R0 : Rel G.K G.fa P ρ s σ H) {b : Bi} {us : List PV} {xs : List V} {r : RE} {Q : VK} (hu : Pks G.K G.fa ρ H us xs) (hf : biV b us = some r) (hK : X.K = G.K) (hc : X.calm = true) (gd : X.A.guards = some [] ∧ X.A.units + 70 < cLine)
    (h : rdAt G xr P (RER G.K G.fa) W ρ (.ok r s) σ H Q) : rUc X b.value xs H Q := by
  unfold biV at hf
  split at hf
  · simp only [Option.map_eq_some_iff] at hf
    obtain ⟨n, e1, e2⟩ := hf
    subst e2
    obtain ⟨x, rfl, hx⟩ := hu.one
    unfold lenV at e1
    split at e1
    · cases e1
      obtain ⟨a, vs, rfl, ha, ra⟩ := hx.tup
      exact .of call_len_seq ⟨a, vs, rfl, .inr (by rw [hK]; exact ha), by rw [← ra.length]; exact fin R0 h (.int _)⟩
    · cases e1
      obtain ⟨a, vs, rfl, ha, ra⟩ := hx.lst
      exact .of call_len_seq ⟨a, vs, rfl, .inl (SqL.of ha), by rw [← ra.length]; exact fin R0 h (.int _)⟩
    · cases e1
      obtain ⟨a, rfl, ha⟩ := hx.scr
      refine .of call_len_seq ⟨a, _, rfl, .inl (by rw [hK]; exact ha), ?_⟩
      rw [List.length_map]
      exact fin R0 h (.int _)
    · split at e1
      · rename_i hl
        cases e1
        cases hx.str
        exact .of call_len_str ⟨_, rfl, by rw [sizeLIM]; exact hl, fin R0 h (.int _)⟩
      · cases e1
    · cases e1
  · simp only [Option.map_eq_some_iff] at hf
    obtain ⟨n, e1, e2⟩ := hf
    subst e2
    obtain ⟨x, rfl, hx⟩ := hu.one
    cases boolsOf_eq e1
    obtain ⟨a, vs, rfl, ha, ra⟩ := hx.lst
    cases ra.of_bools
    exact .of (cr_all hc) ⟨a, n, rfl, SqL.of ha, fin R0 h (.bl _)⟩
  · simp only [Option.map_eq_some_iff] at hf
    obtain ⟨n, e1, e2⟩ := hf
    subst e2
    obtain ⟨x, rfl, hx⟩ := hu.one
    cases boolsOf_eq e1
    obtain ⟨a, vs, rfl, ha, ra⟩ := hx.lst
    cases ra.of_bools
    exact .of (cr_any hc) ⟨a, n, rfl, SqL.of ha, fin R0 h (.bl _)⟩
  · simp only [Option.map_eq_some_iff] at hf
    obtain ⟨n, e1, e2⟩ := hf
    subst e2
    obtain ⟨x, rfl, hx⟩ := hu.one
    cases intsOf_eq e1
    obtain ⟨a, vs, rfl, ha, ra⟩ := hx.lst
    cases ra.of_ints
    exact .of (cr_sum hc) ⟨a, n, rfl, SqL.of ha, fin R0 h (.int _)⟩
  · cases hf
    obtain ⟨x, rfl, hx⟩ := hu.one
    cases hx.int
    exact .of call_abs ⟨_, rfl, fin R0 h (.int _)⟩
  · cases hf
    obtain ⟨x, rfl, hx⟩ := hu.one
    obtain ⟨a, vs, rfl, ha, ra⟩ := hx.lst
    exact .of call_tuple_of ⟨a, vs, rfl, .inl ⟨SqL.of ha, fun p hp => finT R0 h ra hp⟩⟩
  · cases hf
    obtain ⟨x, rfl, hx⟩ := hu.one
    obtain ⟨a, vs, rfl, ha, ra⟩ := hx.tup
    exact .of call_tuple_of ⟨a, vs, rfl, .inr ⟨by rw [hK]; exact ha, fin R0 h hx.rvT⟩⟩
  · cases hf
    obtain ⟨x, rfl, hx⟩ := hu.one
    obtain ⟨a, vs, rfl, ha, ra⟩ := hx.lst
    exact .of call_list_of ⟨a, vs, rfl, .inl (SqL.of ha), fun p hp => finL R0 h ra hp⟩
  · cases hf
    obtain ⟨x, rfl, hx⟩ := hu.one
    obtain ⟨a, vs, rfl, ha, ra⟩ := hx.tup
    exact .of call_list_of ⟨a, vs, rfl, .inr (by rw [hK]; exact ha), fun p hp => finL R0 h ra hp⟩
  · cases hf
    obtain ⟨x, rfl, hx⟩ := hu.one
    obtain ⟨a, rfl, ha⟩ := hx.scr
    exact .of call_list_of ⟨a, _, rfl, .inl (by rw [hK]; exact ha), fun p hp => finL R0 h (RVs.ints _) hp⟩
  · cases hf
    obtain ⟨x, rfl, hx⟩ := hu.one
    cases hx.int
    exact .of call_int1 (.inl ⟨_, rfl, fin R0 h (.int _)⟩)
  · cases hf
    obtain ⟨x, rfl, hx⟩ := hu.one
    cases hx.bl
    exact .of call_int1 (.inr ⟨_, rfl, fin R0 h (.int _)⟩)
  · cases hf
    obtain ⟨x, y, rfl, hx, hy⟩ := hu.two
    cases hx.int
    cases hy.int
    exact .of (call_max2 hc) ⟨_, _, rfl, fin R0 h (.int _)⟩
  · cases hf
    obtain ⟨x, y, rfl, hx, hy⟩ := hu.two
    cases hx.int
    cases hy.int
    exact .of (call_min2 hc) ⟨_, _, rfl, fin R0 h (.int _)⟩
  · simp only [Option.bind_eq_some_iff, Option.map_eq_some_iff] at hf
    obtain ⟨ns, e1, m, e2, e3⟩ := hf
    subst e3
    obtain ⟨x, rfl, hx⟩ := hu.one
    cases intsOf_eq e1
    obtain ⟨a, vs, rfl, ha, ra⟩ := hx.lst
    cases ra.of_ints
    obtain ⟨m1, m2⟩ := maxI_spec e2
    refine .of (cr_max hc) ⟨a, ns, rfl, SqL.of ha, List.length_pos_of_mem m1, fun m' h1 h2 => ?_⟩
    have e : m' = m := Int.le_antisymm (m2 _ h1) (h2 _ m1)
    subst e
    exact fin R0 h (.int _)
  · simp only [Option.bind_eq_some_iff, Option.map_eq_some_iff] at hf
    obtain ⟨ns, e1, m, e2, e3⟩ := hf
    subst e3
    obtain ⟨x, rfl, hx⟩ := hu.one
    cases intsOf_eq e1
    obtain ⟨a, vs, rfl, ha, ra⟩ := hx.lst
    cases ra.of_ints
    obtain ⟨m1, m2⟩ := minI_spec e2
    refine .of (cr_min hc) ⟨a, ns, rfl, SqL.of ha, List.length_pos_of_mem m1, fun m' h1 h2 => ?_⟩
    have e : m' = m := Int.le_antisymm (h2 _ m1) (m2 _ h1)
    subst e
    exact fin R0 h (.int _)
  · simp only [Option.bind_eq_some_iff] at hf
    obtain ⟨d, e1, e2⟩ := hf
    obtain ⟨x, rfl, hx⟩ := hu.one
    by_cases hs : showOk d = true
    · rw [if_pos hs] at e2
      cases e2
      exact repr_ok (hx.dp e1) hs hK gd (fin R0 h (.str _))
    · rw [if_neg hs] at e2
      cases e2
  · cases hf
/-- isinstance(x, T) -/
theorem tyX_of {v : PV} {x : V} {t : String} (hv : Pk G.K G.fa ρ H v x) (ht : tyName v = some t) (hK : X.K = G.K) : TyX X.K H x (.type t) := by
  cases v <;> simp only [tyName, Option.some.injEq, reduceCtorEq] at ht
  case non => subst ht; cases hv.non; exact .base .non
  case bl => subst ht; cases hv.bl; exact .base (.bl _)
  case int => subst ht; cases hv.int; exact .base (.int _)
  case str => subst ht; cases hv.str; exact .base (.str _)
  case tup =>
    subst ht
    obtain ⟨a, vs, rfl, ha, ra⟩ := hv.tup
    rcases ha with (ha | ⟨o, ha⟩) | ⟨o, its, n, ha, hc, _⟩
    · exact .base (.tup ha)
    · exact .fTuple ha
    · exact .kTuple (by rw [hK]; exact ha) hc
  case lst =>
    subst ht
    obtain ⟨a, vs, rfl, ha, ra⟩ := hv.lst
    exact .base (.lst ha)
theorem isi_ok (R0 : Rel G.K G.fa P ρ s σ H) {v : PV} {x : V} {T : Str} {b : Bool} {Q : VK} (hv : Pk G.K G.fa ρ H v x) (hf : isInst v T = some b) (hK : X.K = G.K) (q : Q (.bl b) H) :
    ∃ n : String, bootBuiltins T = some (.type n) ∧ rUc X (.builtin "isinstance") [x, .ty n] H Q := by
  unfold isInst at hf
  split at hf
  · cases hf
  · rename_i t ht
    have go : ∀ {n : String} {b' : Bool}, kitB t n = some b' → Q (.bl b') H → rUc X (.builtin "isinstance") [x, .ty n] H Q := fun {n b'} e q' =>
      .of call_isi ⟨x, .ty n, .type t, .type n, b', rfl, .ty n, tyX_of hv ht hK, kit_ty e, q'⟩
    have cases6 : t = "NoneType" ∨ t = "bool" ∨ t = "int" ∨ t = "str" ∨ t = "tuple" ∨ t = "list" := by
      cases v <;> simp only [tyName, Option.some.injEq, reduceCtorEq] at ht <;> subst ht <;> simp
    split at hf
    · rename_i e
      subst e
      refine ⟨"int", by decide +kernel, go (b' := b) ?_ q⟩
      cases hf
      rcases cases6 with e | e | e | e | e | e <;> subst e <;> decide +kernel
    · split at hf
      · rename_i e
        subst e
        refine ⟨"bool", by decide +kernel, go (b' := b) ?_ q⟩
        cases hf
        rcases cases6 with e | e | e | e | e | e <;> subst e <;> decide +kernel
      · split at hf
        · rename_i e
          subst e
          refine ⟨"tuple", by decide +kernel, go (b' := b) ?_ q⟩
          cases hf
          rcases cases6 with e | e | e | e | e | e <;> subst e <;> decide +kernel
        · split at hf
          · rename_i e
            subst e
            refine ⟨"str", by decide +kernel, go (b' := b) ?_ q⟩
            cases hf
            rcases cases6 with e | e | e | e | e | e <;> subst e <;> decide +kernel
          · split at hf
            · rename_i e
              subst e
              refine ⟨"list", by decide +kernel, go (b' := b) ?_ q⟩
              cases hf
              rcases cases6 with e | e | e | e | e | e <;> subst e <;> decide +kernel
            · cases hf
end
end Ev

set_option linter.all false
set_option maxRecDepth 100000
set_option maxHeartbeats 1000000
/-! Ev.Z: zip and enumerate over lists and tuples in any mix -/
namespace PySem
section
set_option maxHeartbeats 1000000 in
theorem meets_enumerate_newB1 {v : Value} {o : Obj} {H : Heap → Prop} (B : Begins v o H) :
    Meets (Builtin.«enumerate.__new__» ⟨[.type "enumerate", v], []⟩) (fun _ R s => H s.heap ∧
      R (.ok (.ret (.ref (s.heap.push o).objs.size))) { s with heap := (s.heap.push o).push { cls := .type "enumerate", data := .fields #[.none, .bool false, .ref s.heap.objs.size, rawInt 0, .none, .none] } }) :=
  .of_wp fun prog w A R s h => by
    obtain ⟨hp, g, d, tk, os⟩ := s; obtain ⟨h1, h⟩ := h
    have hsub := sub_enumerate
    have q1 : ∀ {A' : Around} {E : Value → Shared → Prop} {Q : Value → Shared → Prop}, Q (.ref hp.objs.size) ⟨hp.push o, g, d, tk, os⟩ → wpAny (model prog w) A' (pyIter v) Q E ⟨hp, g, d, tk, os⟩ :=
      fun q => B.iter prog w _ _ ⟨hp, g, d, tk, os⟩ _ h1 q
    wp_walk using q1
    refine wpAny_stack_any fun st => wpAny_pure ?_
    split
    · rename_i c _ _ _ _ _
      cases (c == Value.type "enumerate")
      · wp_walk using q1
        exact ⟨_, rfl, h⟩
      · wp_walk using q1
        exact ⟨_, rfl, h⟩
    · wp_walk using q1
      exact ⟨_, rfl, h⟩
variable {prog : Program} {w : World} {A : Around} {E : Value → Shared → Prop} {s : Shared}
theorem enum_begins1 {v : Value} {o : Obj} {H : Heap → Prop} {Q : Value → Shared → Prop} (B : Begins v o H) (h1 : H s.heap)
    (h : ∀ h', IsEnum h' (s.heap.objs.size + 1) s.heap.objs.size 0 .none → h'.get? s.heap.objs.size = some o → h'.objs.size = s.heap.objs.size + 2 →
      (∀ b o, s.heap.get? b = some o → h'.get? b = some o) → Q (.ref (s.heap.objs.size + 1)) { s with heap := h' }) :
    wpAny (model prog w) A (call (.type "enumerate") [v]) Q E s := by
  refine callType_new F.called_enumerate (by decide) (F.typeCall_enumerate_1 _) (F.newCall_enumerate_1 _) (fun obj => F.args_object_init_2 obj _) F.entry_enumerate_new
    (meets_enumerate_newB1 B) ⟨h1, ?_⟩
  have hz : (s.heap.push o).objs.size = s.heap.objs.size + 1 := Heap.size_push ..
  show _ ∧ _
  rw [hz]
  have he : IsEnum ((s.heap.push o).push { cls := .type "enumerate", data := .fields #[.none, .bool false, .ref s.heap.objs.size, rawInt 0, .none, .none] }) (s.heap.objs.size + 1) s.heap.objs.size 0 .none := by
    have := Heap.get?_push_size (s.heap.push o) (o := { cls := .type "enumerate", data := .fields #[.none, .bool false, .ref s.heap.objs.size, rawInt 0, .none, .none] }) rfl
    rw [hz] at this; exact this
  refine ⟨⟨_, he, rfl⟩, h _ he (Heap.get?_push_of_some _ (Heap.get?_push_size _ B.free)) (by rw [Heap.size_push, hz]) fun b o x => Heap.get?_push_of_some _ (Heap.get?_push_of_some _ x)⟩
end
end PySem
namespace Ev
open PySem PySem.Spec L2
/-- a list (false) or a tuple (true) that is read -/
def SqS (K : PySem.W.Frag) (H : Hp) (a : Addr) (k : Bool) (xs : List V) : Prop := match k with
  | false => SqL K H a xs
  | true => SqT K H a xs
def ItAt (h : Heap) (it a : Addr) (k : Bool) (i : Nat) : Prop := match k with
  | false => h.IsListIter it a i
  | true => h.IsTupleIter it a i
def SrcAt (h : Heap) (a : Addr) (k : Bool) (its : Array Value) : Prop := match k with
  | false => h.IsList a its
  | true => h.IsTuple a its
def itObj (a : Addr) : Bool → Obj
  | false => { cls := .type "list_iterator", data := .fields #[.ref a, .int 0 0] }
  | true => { cls := .type "tuple_iterator", data := .fields #[.ref a, .int 0 0] }
theorem begins_src (a : Addr) (k : Bool) (its : Array Value) : Begins (.ref a) (itObj a k) fun h => SrcAt h a k its := by
  cases k
  · exact begins_list a its
  · exact begins_tuple a its
theorem itAt_new {h : Heap} {it a : Addr} {k : Bool} (e : h.get? it = some (itObj a k)) : ItAt h it a k 0 := by
  cases k
  · exact ⟨_, e, rfl, rfl⟩
  · exact ⟨_, e, rfl, rfl⟩
theorem itAt_at {h h' : Heap} {it a : Addr} {k : Bool} {i : Nat} (x : ItAt h it a k i) (e : ∀ o, h.get? it = some o → h'.get? it = some o) : ItAt h' it a k i := by
  cases k
  · exact Heap.IsListIter.at x e
  · exact Heap.IsTupleIter.at x e
theorem itAt_obj {h : Heap} {it a : Addr} {k : Bool} {i : Nat} (x : ItAt h it a k i) : ∃ o, h.get? it = some o ∧ ∀ v, o.data ≠ .cell v := by
  cases k
  · obtain ⟨o, e, _, d⟩ := x; exact ⟨o, e, fun v z => by rw [d] at z; cases z⟩
  · obtain ⟨o, e, _, d⟩ := x; exact ⟨o, e, fun v z => by rw [d] at z; cases z⟩
theorem draws_src {prog : Program} {w : World} {A : Around} (hh : A.handled = none) (it a : Addr) (k : Bool) (hne : a ≠ it) (items : Array Value) :
    Draws prog w A it [it, a] items.size (fun i v => items[i]? = some v) (fun i h => ItAt h it a k i ∧ SrcAt h a k items) := by
  cases k
  · exact Draws.list hh it a hne items
  · exact Draws.tuple hh it a hne items
section
variable {X : Cx} {pins : List (Addr × Obj)} {σ : St} {H : Hp} {s : Shared} {a : Addr} {k : Bool} {xs ys : List V}
theorem src_of (I : Inv X pins σ H s) (h : SqS X.K H a k xs) : ∃ its : List Value, Vals xs its ∧ SrcAt s.heap a k its.toArray ∧ a < s.heap.objs.size := by
  cases k
  · obtain ⟨its, r, p, _⟩ := I.list h; exact ⟨its, r, p.isList, p.lt⟩
  · obtain ⟨its, r, p, _⟩ := I.tuple h; exact ⟨its, r, p, p.lt⟩
theorem src_inj (I : Inv X pins σ H s) (h : SqS X.K H a k xs) (h' : SqS X.K H a k ys) : xs = ys := by
  cases k
  · exact I.list_inj h h'
  · exact I.tuple_inj h h'
end
/-- pairs of two of them -/
def ItM (K : PySem.W.Frag) (a : Addr) (k : Bool) (b : Addr) (k' : Bool) : It :=
  ⟨fun i H => ∃ (xs ys : List V) (x y : V), SqS K H a k xs ∧ SqS K H b k' ys ∧ xs[i]? = some x ∧ ys[i]? = some y,
    fun i H v H' => ∃ T x y, v = .ref T ∧ H T = none ∧ H' = upd H T (.tup [x, y]) ∧ (∀ xs, SqS K H a k xs → xs[i]? = some x) ∧ ∀ ys, SqS K H b k' ys → ys[i]? = some y,
    fun i H => ∃ xs ys : List V, SqS K H a k xs ∧ SqS K H b k' ys ∧ min xs.length ys.length = i⟩
theorem turn_zipM {P : Program} {w : World} {K : PySem.W.Frag} {elts : List Expr} {kk : Nat} {tpos : Pos} {a b z TI TO i1 i2 : Addr} {k k' : Bool} (S : ZipSep2 z TI TO i1 i2 [i1, a] [i2, b]) (n1 : a ≠ i1) (n2 : b ≠ i2) :
    Turn P w K (.Tuple elts kk tpos) (ItM K a k b k') [z, TI, TO, i1, i2] z (fun i h => IsZip h z TI TO .none ∧ IsTupOf2 h TI (.ref i1) (.ref i2) ∧ (∃ x y, IsTupOf2 h TO x y) ∧ ItAt h i1 a k i ∧ ItAt h i2 b k' i) where
  mem := by simp
  obj := fun i h st c hc => by
    obtain ⟨hz, hTI, ⟨x, y, hTO⟩, h1, h2⟩ := st
    have e' : c = z ∨ c = TI ∨ c = TO ∨ c = i1 ∨ c = i2 := by simpa using hc
    rcases e' with q | q | q | q | q
    · rw [q]; exact ⟨_, hz, fun v q => nomatch q⟩
    · rw [q]; exact ⟨_, hTI, fun v q => nomatch q⟩
    · rw [q]; exact ⟨_, hTO, fun v q => nomatch q⟩
    · rw [q]; exact itAt_obj h1
    · rw [q]; exact itAt_obj h2
  keep := fun i h h' st kp => by
    obtain ⟨hz, hTI, ⟨x, y, hTO⟩, h1, h2⟩ := st
    exact ⟨kp z (by simp) _ hz, kp TI (by simp) _ hTI, ⟨x, y, kp TO (by simp) _ hTO⟩, itAt_at h1 fun o q => kp i1 (by simp) o q, itAt_at h2 fun o q => kp i2 (by simp) o q⟩
  item := by
    intro X hP hw hK hc i pins s σ H E I hf st hg
    subst hP hw hK
    obtain ⟨hz, hTI, hTO, h1, h2⟩ := st
    obtain ⟨xs, ys, x, y, hqx, hqy, hx, hy⟩ := hg
    obtain ⟨its, rv, p, _⟩ := src_of I hqx
    obtain ⟨its2, rv2, p2, _⟩ := src_of I hqy
    obtain ⟨u, hu, ru⟩ := rv.get hx
    obtain ⟨u2, hu2, ru2⟩ := rv2.get hy
    have hd := I.ok.hd hc
    have D1 := draws_src (prog := X.prog) (w := X.w) (A := X.A.in1) hd i1 a k n1 its.toArray
    have D2 := draws_src (prog := X.prog) (w := X.w) (A := X.A.in1) hd i2 b k' n2 its2.toArray
    have W := GoesN.zip2 (elts := elts) (x1 := kk) (pos := tpos) S D1 D2
    have hi1 : i < its.toArray.size := by
      have := (List.getElem?_eq_some_iff.mp hu).1
      simpa using this
    have hi2 : i < its2.toArray.size := by
      have := (List.getElem?_eq_some_iff.mp hu2).1
      simpa using this
    refine thn (W.goes i s (fun v s2 => ∃ x H', Inv X pins σ H' s2 ∧ RelV x v ∧ (ItM X.K a k b k').yld i H x H' ∧ (IsZip s2.heap z TI TO .none ∧ IsTupOf2 s2.heap TI (.ref i1) (.ref i2) ∧ (∃ x y, IsTupOf2 s2.heap TO x y) ∧ ItAt s2.heap i1 a k (i + 1) ∧ ItAt s2.heap i2 b k' (i + 1)) ∧ ∀ c ∈ [z, TI, TO, i1, i2], H' c = none) E (by omega) ⟨hz, hTI, hTO, ⟨h1, p⟩, h2, p2⟩ fun v h' tk Y st' keep _ => ?_) fun r s1 q => q
    obtain ⟨T, u', u2', rfl, hT, e1, e2, hTup⟩ := Y
    have eu : u' = u := by
      have q : its.toArray[i]? = some u := by simpa using hu
      rw [q] at e1; exact (Option.some.inj e1).symm
    have eu2 : u2' = u2 := by
      have q : its2.toArray[i]? = some u2 := by simpa using hu2
      rw [q] at e2; exact (Option.some.inj e2).symm
    subst eu; subst eu2
    have new : ObjOk X.prog X.w (upd H T (.tup [x, y])) h' T (.tup [x, y]) := ⟨by show 2 ≤ sizeLine; decide, [u', u2'], .cons ru (.cons ru2 .nil), hTup⟩
    have I1 : Inv X pins σ (upd H T (.tup [x, y])) { s with heap := h', toks := tk } :=
      I.turnedNew (t' := tk) (ch := [z, TI, TO, i1, i2]) (fun c o hb q => keep c o (fun q' => hb (by
        have e' : c = z ∨ c = TO ∨ c = i1 ∨ c = i2 := by simpa using q'
        rcases e' with e' | e' | e' | e' <;> simp [e'])) q) hf hT new
    refine ⟨.ref T, _, I1, rfl, ⟨T, x, y, rfl, I.hok.fresh hT, rfl, fun l hl => by rw [src_inj I hl hqx]; exact hx, fun l hl => by rw [src_inj I hl hqy]; exact hy⟩, ⟨st'.1, st'.2.1, st'.2.2.1, st'.2.2.2.1.1, st'.2.2.2.2.1⟩, fun c hcm => ?_⟩
    have hlt : c < s.heap.objs.size := by
      have e' : c = z ∨ c = TI ∨ c = TO ∨ c = i1 ∨ c = i2 := by simpa using hcm
      rcases e' with q | q | q | q | q
      · rw [q]; exact Heap.lt_size hz
      · rw [q]; exact Heap.lt_size hTI
      · rw [q]; obtain ⟨_, _, q⟩ := hTO; exact Heap.lt_size q
      · rw [q]; obtain ⟨_, e1, _⟩ := itAt_obj h1; exact Heap.lt_size e1
      · rw [q]; obtain ⟨_, e2, _⟩ := itAt_obj h2; exact Heap.lt_size e2
    rw [upd_ne (Nat.ne_of_lt (Nat.lt_of_lt_of_le hlt hT))]
    exact (hf c hcm).1
  done := by
    intro X hP hw hK hc i pins s σ H E I hf st hg
    subst hP hw hK
    obtain ⟨hz, hTI, hTO, h1, h2⟩ := st
    obtain ⟨xs, ys, hqx, hqy, hend⟩ := hg
    obtain ⟨its, rv, p, _⟩ := src_of I hqx
    obtain ⟨its2, rv2, p2, _⟩ := src_of I hqy
    have hd := I.ok.hd hc
    have D1 := draws_src (prog := X.prog) (w := X.w) (A := X.A.in1) hd i1 a k n1 its.toArray
    have D2 := draws_src (prog := X.prog) (w := X.w) (A := X.A.in1) hd i2 b k' n2 its2.toArray
    have W := GoesN.zip2 (elts := elts) (x1 := kk) (pos := tpos) S D1 D2
    have en : min its.toArray.size its2.toArray.size = i := by
      rw [List.size_toArray, List.size_toArray, ← rv.length, ← rv2.length]; exact hend
    rw [← en] at h1 h2
    refine W.stops s (fun s1 => Inv X pins σ H s1) E ⟨hz, hTI, hTO, ⟨h1, p⟩, h2, p2⟩ fun h' tk keep _ => ?_
    exact I.turnedL (t' := tk) (ch := [z, TI, TO, i1, i2]) (fun c o hb q => keep c o (fun q' => hb (by
        have e' : c = z ∨ c = TO ∨ c = i1 ∨ c = i2 := by simpa using q'
        rcases e' with e' | e' | e' | e' <;> simp [e'])) q) hf
  self := fun A i s Q E st h => wpAny_pyIter_zip st.1 h
/-- counted from 0 -/
def ItN (K : PySem.W.Frag) (a : Addr) (k : Bool) : It :=
  ⟨fun i H => ∃ (xs : List V) (x : V), SqS K H a k xs ∧ xs[i]? = some x,
    fun i H v H' => ∃ T x, v = .ref T ∧ H T = none ∧ H' = upd H T (.tup [.int (i : Nat), x]) ∧ ∀ xs, SqS K H a k xs → xs[i]? = some x,
    fun i H => ∃ xs : List V, SqS K H a k xs ∧ xs.length = i⟩
theorem turn_enumM {P : Program} {w : World} {K : PySem.W.Frag} {elts : List Expr} {kk : Nat} {tpos : Pos} {a e it : Addr} {k : Bool} (n1 : a ≠ it) (n2 : e ≠ it) (n3 : e ≠ a) :
    Turn P w K (.Tuple elts kk tpos) (ItN K a k) [e, it] e (fun i h => (∃ old, IsEnum h e it ((0 : Int) + (i : Int)) old) ∧ ItAt h it a k i) where
  mem := by simp
  obj := fun i h st c hc => by
    obtain ⟨⟨old, he⟩, h1⟩ := st
    have e' : c = e ∨ c = it := by simpa using hc
    rcases e' with q | q
    · rw [q]; exact ⟨_, he, fun v q => nomatch q⟩
    · rw [q]; exact itAt_obj h1
  keep := fun i h h' st kp => by
    obtain ⟨⟨old, he⟩, h1⟩ := st
    exact ⟨⟨old, kp e (by simp) _ he⟩, itAt_at h1 fun o q => kp it (by simp) o q⟩
  item := by
    intro X hP hw hK hc i pins s σ H E I hf st hg
    subst hP hw hK
    obtain ⟨he, h1⟩ := st
    obtain ⟨xs, x, hqx, hx⟩ := hg
    obtain ⟨its, rv, p, _⟩ := src_of I hqx
    obtain ⟨u, hu, ru⟩ := rv.get hx
    have hd := I.ok.hd hc
    have D1 := draws_src (prog := X.prog) (w := X.w) (A := X.A.in1) hd it a k n1 its.toArray
    have W := GoesN.enumFrom (elts := elts) (x1 := kk) (pos := tpos) 0 D1 e n2 (by simp [n2, n3]) (by simp)
    have hi1 : i < its.toArray.size := by
      have := (List.getElem?_eq_some_iff.mp hu).1
      simpa using this
    refine thn (W.goes i s (fun v s2 => ∃ x H', Inv X pins σ H' s2 ∧ RelV x v ∧ (ItN X.K a k).yld i H x H' ∧ ((∃ old, IsEnum s2.heap e it ((0 : Int) + ((i + 1 : Nat) : Int)) old) ∧ ItAt s2.heap it a k (i + 1)) ∧ ∀ c ∈ [e, it], H' c = none) E hi1 ⟨he, h1, p⟩ fun v h' tk Y st' keep _ => ?_) fun r s1 q => q
    obtain ⟨T, t', u', rfl, hT, e1, hTup⟩ := Y
    have eu : u' = u := by
      have q : its.toArray[i]? = some u := by simpa using hu
      rw [q] at e1; exact (Option.some.inj e1).symm
    subst eu
    have e0 : (0 : Int) + (i : Int) = (i : Int) := by omega
    rw [e0] at hTup
    have new : ObjOk X.prog X.w (upd H T (.tup [.int (i : Nat), x])) h' T (.tup [.int (i : Nat), x]) := ⟨by show 2 ≤ sizeLine; decide, [.int i t', u'], .cons ⟨t', rfl⟩ (.cons ru .nil), hTup⟩
    have I1 : Inv X pins σ (upd H T (.tup [.int (i : Nat), x])) { s with heap := h', toks := tk } :=
      I.turnedNew (t' := tk) (ch := [e, it]) (fun c o hb q => keep c o hb q) hf hT new
    refine ⟨.ref T, _, I1, rfl, ⟨T, x, rfl, I.hok.fresh hT, rfl, fun l hl => by rw [src_inj I hl hqx]; exact hx⟩, ⟨st'.1, st'.2.1⟩, fun c hcm => ?_⟩
    have hlt : c < s.heap.objs.size := by
      have e' : c = e ∨ c = it := by simpa using hcm
      rcases e' with q | q
      · rw [q]; obtain ⟨_, q⟩ := he; exact Heap.lt_size q
      · rw [q]; obtain ⟨_, e1, _⟩ := itAt_obj h1; exact Heap.lt_size e1
    rw [upd_ne (Nat.ne_of_lt (Nat.lt_of_lt_of_le hlt hT))]
    exact (hf c hcm).1
  done := by
    intro X hP hw hK hc i pins s σ H E I hf st hg
    subst hP hw hK
    obtain ⟨he, h1⟩ := st
    obtain ⟨xs, hqx, hend⟩ := hg
    obtain ⟨its, rv, p, _⟩ := src_of I hqx
    have hd := I.ok.hd hc
    have D1 := draws_src (prog := X.prog) (w := X.w) (A := X.A.in1) hd it a k n1 its.toArray
    have W := GoesN.enumFrom (elts := elts) (x1 := kk) (pos := tpos) 0 D1 e n2 (by simp [n2, n3]) (by simp)
    have en : its.toArray.size = i := by
      rw [List.size_toArray, ← rv.length]; exact hend
    rw [← en] at h1 he
    refine W.stops s (fun s1 => Inv X pins σ H s1) E ⟨he, h1, p⟩ fun h' tk keep _ => ?_
    exact I.turnedL (t' := tk) (ch := [e, it]) (fun c o hb q => keep c o hb q) hf
  self := fun A i s Q E st h => by
    obtain ⟨⟨old, he⟩, _⟩ := st
    exact wpAny_pyIter_enum he h
def iZipM (K : PySem.W.Frag) (ta : TA) : TI := fun σ H R => ta σ H fun vs H1 => ∃ a b k k' xs ys, vs = [.ref a, .ref b] ∧ SqS K H1 a k xs ∧ SqS K H1 b k' ys ∧ R (ItM K a k b k') H1
theorem pi_zipM {X : Cx} {e e2 : Expr} {ta : TA} {p pos tpos : Pos} {elts : List Expr} {kk : Nat} (hg : Gl X "zip") (hm : X.mg "zip" = none) (ha : PA X [e, e2] ta)
    (hs : starEach [e, e2] X.env = (false, eval e X.env) :: starEach [e2] X.env) (hpl : (backTo pos (starEach [e2] X.env)).any (·.1) = false) :
    PI X (.Tuple elts kk tpos) (.Call (.Name "zip" p) [e, e2] [] pos) (iZipM X.K ta) := by
  refine ⟨fun pins s σ H R I h => ?_⟩
  refine PyProof.Rows.Call_ (ld_blt I hg hm PyProof.Rows.boot_zip (PyProof.Rows.callWith_type1 (thn (ha.run pos pins s σ H _ I h) fun us s1 ⟨vs, H1, I1, r1, q1⟩ => ?_) hs hpl))
  obtain ⟨a, b, k, k', xs, ys, ex, hqx, hqy, q⟩ := q1
  subst ex
  cases r1 with
  | cons r rr =>
    cases rr with
    | cons r' rr =>
      cases rr
      cases r
      cases r'
      obtain ⟨its, rv, p1, l1⟩ := src_of I1 hqx
      obtain ⟨its2, rv2, p2, l2⟩ := src_of I1 hqy
      refine zip_begins2 (begins_src a k its.toArray) (begins_src b k' its2.toArray) p1 p2 fun h' hz hTI hTO g1 g2 hsz hk => wpAny_pyIter_zip hz ?_
      have I2 : Inv X pins σ H1 { s1 with heap := h' } := I1.kept (t' := s1.toks) hk
      have n1 : a ≠ s1.heap.objs.size := Nat.ne_of_lt l1
      have n2 : b ≠ s1.heap.objs.size + 1 := Nat.ne_of_lt (Nat.lt_succ_of_lt l2)
      refine ⟨s1.heap.objs.size + 4, [s1.heap.objs.size + 4, s1.heap.objs.size + 2, s1.heap.objs.size + 3, s1.heap.objs.size, s1.heap.objs.size + 1], _, _, H1, rfl, I2,
        turn_zipM (zip_sep2 (N := s1.heap.objs.size) (fp1 := [a]) (fp2 := [b]) (by simpa using l1) (by simpa using l2)) n1 n2, ⟨hz, hTI, ⟨_, _, hTO⟩, itAt_new g1, itAt_new g2⟩, fun c hcm => ?_, q⟩
      have e' : c = s1.heap.objs.size + 4 ∨ c = s1.heap.objs.size + 2 ∨ c = s1.heap.objs.size + 3 ∨ c = s1.heap.objs.size ∨ c = s1.heap.objs.size + 1 := by simpa using hcm
      have hle : s1.heap.objs.size ≤ c := by
        rcases e' with z | z | z | z | z
        · rw [z]; exact Nat.le_add_right _ _
        · rw [z]; exact Nat.le_add_right _ _
        · rw [z]; exact Nat.le_add_right _ _
        · rw [z]; exact Nat.le_refl _
        · rw [z]; exact Nat.le_add_right _ _
      exact I1.fpOk hle (I1.hok.fresh hle)
def iEnumM (K : PySem.W.Frag) (ta : TA) : TI := fun σ H R => ta σ H fun vs H1 => ∃ a k xs, vs = [.ref a] ∧ SqS K H1 a k xs ∧ R (ItN K a k) H1
theorem pi_enumM {X : Cx} {e : Expr} {ta : TA} {p pos tpos : Pos} {elts : List Expr} {kk : Nat} (hg : Gl X "enumerate") (hm : X.mg "enumerate" = none) (ha : PA X [e] ta)
    (hs : starEach [e] X.env = [(false, eval e X.env)]) : PI X (.Tuple elts kk tpos) (.Call (.Name "enumerate" p) [e] [] pos) (iEnumM X.K ta) := by
  refine ⟨fun pins s σ H R I h => ?_⟩
  refine PyProof.Rows.Call_ (ld_blt I hg hm PyProof.Rows.boot_enumerate (PyProof.Rows.callWith_type1 (thn (ha.run pos pins s σ H _ I h) fun us s1 ⟨vs, H1, I1, r1, q1⟩ => ?_) hs rfl))
  obtain ⟨a, k, xs, ex, hq, q⟩ := q1
  subst ex
  cases r1 with
  | cons r rr =>
    cases rr
    cases r
    obtain ⟨its, rv, p1, l1⟩ := src_of I1 hq
    refine enum_begins1 (begins_src a k its.toArray) p1 fun h' he g1 hsz hk => wpAny_pyIter_enum he ?_
    have I2 : Inv X pins σ H1 { s1 with heap := h' } := I1.kept (t' := s1.toks) hk
    have n1 : a ≠ s1.heap.objs.size := Nat.ne_of_lt l1
    have n3 : s1.heap.objs.size + 1 ≠ a := Nat.ne_of_gt (Nat.lt_succ_of_lt l1)
    refine ⟨s1.heap.objs.size + 1, [s1.heap.objs.size + 1, s1.heap.objs.size], _, _, H1, rfl, I2, turn_enumM n1 (Nat.succ_ne_self _) n3, ⟨⟨_, he⟩, itAt_new g1⟩, fun c hcm => ?_, q⟩
    have e' : c = s1.heap.objs.size + 1 ∨ c = s1.heap.objs.size := by simpa using hcm
    have hle : s1.heap.objs.size ≤ c := by
      rcases e' with z | z
      · rw [z]; exact Nat.le_add_right _ _
      · rw [z]; exact Nat.le_refl _
    exact I1.fpOk hle (I1.hok.fresh hle)
end Ev

set_option linter.all false
set_option maxRecDepth 100000
set_option maxHeartbeats 1000000
/-! Ev.H: contexts, names, arguments, targets, calls -/
namespace Ev
open PySem PySem.Spec L2
/-- a def's promise: what the evaluator says of it -/
def spEv (G : Env1) (xr : XR) (Φ : Orc) (n : Nat) : Sp := fun vs H Q E => ∃ P ρ st args, Rel G.K G.fa P ρ ⟨[], st⟩ [] H ∧ RVs G.K G.fa ρ (cut H ρ) args vs ∧
  match Φ n args st with
  | .ok r st' => ∀ ρ' H' V, Rel G.K G.fa P ρ' ⟨[], st'⟩ [] H' → Ext ρ H ρ' H' → RER G.K G.fa ρ' [] H' r V → Q V H'
  | .exc x st' => ∀ ρ' H' cls d, Rel G.K G.fa P ρ' ⟨[], st'⟩ [] H' → Ext ρ H ρ' H' → xr x cls d H' → E cls d H'
  | .bad => False
/-- the names that the evaluator treats as built-in -/
def biNames : List Str := ["len", "all", "any", "sum", "abs", "tuple", "list", "int", "max", "min", "isinstance", "bool", "str", "range", "zip", "enumerate", "repr"]
structure GlobOk (G : Env1) (C : CC) (Φ : Orc) (xr : XR) (X : Cx) : Prop where
  const : ∀ x v, C.glob.lookup x = some (.const v) → ∃ u V, X.mg x = some u ∧ RelV V u ∧ ∀ ρ T, RV G.K G.fa ρ T v V
  fn : ∀ x n, C.glob.lookup x = some (.fn n) → X.mg x = some (.ref (G.fa n)) ∧ ∃ k fd ps, FnG X.prog X.w X.K X.mg X.base (L2.CX X.prog X.w) k (G.fa n) fd ps (spEv G xr Φ n) ∧ RoomG k X.A ∧ PySem.W.keepIn X.K (.ref (G.fa n)) = true ∧ Binds X.K fd ps []
  bi : ∀ x, x ∈ biNames → C.glob.lookup x = none → X.mg x = none
  dbg : ∀ x g, C.glob.lookup x = some g → (x == ("__debug__" : Str)) = false
  loc : ∀ x i, C.N.idxOf? x = some i → (x == ("__debug__" : Str)) = false ∧ (x == ("__classdict__" : Str)) = false
structure CxE (G : Env1) (C : CC) (Φ : Orc) (xr : XR) (sc wr : Scope) (X : Cx) (W : WX) : Prop where
  hK : X.K = G.K
  hN : X.N = C.N
  nd : X.N.Nodup
  hsc : X.env.scope = sc
  calm : X.calm = true
  units : X.A.units + 64 < cLine
  gd : X.A.guards = some [] ∧ X.A.units + 70 < cLine
  g : GlobOk G C Φ xr X
  tk : Takes X W
  wr : ∀ x, isLoc wr x = true → Loc sc x ∧ (X.fn x = true ∨ sc.names.lookup x = some .local)
theorem takesF {X : Cx} : Takes X (fun _ _ _ _ => False) := fun _ _ x => by
  obtain ⟨_, _, _, _, _, _, _, _, _, _, _, _, _, _, _, _, z⟩ := x
  exact z.elim
theorem isLoc_iff {sc : Scope} {x : Str} (h : isLoc sc x = true) : sc.names.lookup x = some .local ∨ sc.names.lookup x = some .cell := by
  unfold isLoc at h
  split at h
  · exact .inl (by assumption)
  · exact .inr (by assumption)
  · cases h
theorem isVis_iff {sc : Scope} {x : Str} (h : isVis sc x = true) : Vis sc x := by
  unfold isVis at h
  split at h
  · exact .inl (by assumption)
  · exact .inr (.inl (by assumption))
  · exact .inr (.inr (by assumption))
  · cases h
theorem isGl_iff {sc : Scope} {x : Str} (h : isGl sc x = true) : sc.names.lookup x = some .globalImplicit := by
  unfold isGl at h
  split at h
  · assumption
  · cases h
theorem idx_get {N : List Str} {x : Str} {i : Nat} (h : N.idxOf? x = some i) : N[i]? = some x := by
  rw [List.idxOf?_eq_some_iff] at h
  obtain ⟨h1, h2, _⟩ := h
  rw [List.getElem?_eq_getElem h1]
  exact congrArg some (by simpa using h2)
section
variable {G : Env1} {C : CC} {Φ : Orc} {xr : XR} {sc wr : Scope} {X : Cx} {W : WX} {P : Hp}
theorem CxE.gl (c : CxE G C Φ xr sc wr X W) {x : Str} (h : isGl sc x = true) : Gl X x := by
  unfold Gl
  show X.env.scope.names.lookup x = _
  rw [c.hsc]; exact isGl_iff h
abbrev rdE (G : Env1) (xr : XR) (P : Hp) (W : WX) (m : M RE) : TE := rd G xr P (RER G.K G.fa) W m
abbrev rdT (G : Env1) (xr : XR) (P : Hp) (W : WX) (m : M Bool) : TT := rd G xr P (fun _ _ _ a b => a = b) W m
abbrev rdA (G : Env1) (xr : XR) (P : Hp) (W : WX) (m : M (List RE)) : TA := rd G xr P (RERs G.K G.fa) W m

/-! ### names, constants -/
theorem rdSlot_ok {i : Nat} {σ : St} {H : Hp} {Q : VK} (h : rdE G xr P W (rdSlot i) σ H Q) : tVar i σ H Q := by
  obtain ⟨ρ, s, R0, h⟩ := h
  unfold rdSlot at h
  have q := R0.slot i
  split at h
  · rename_i v e
    rw [e] at q
    obtain ⟨_, V, h2, h3⟩ := q
    exact ⟨V, h2, rdRet R0 h h3⟩
  · rename_i c e
    rw [e] at q
    obtain ⟨a, h1, h2, h3⟩ := q
    exact ⟨.ref a, h2, rdRet R0 h h2⟩
  · exact h.elim
theorem name_ok (c : CxE G C Φ xr sc wr X W) {x : Str} {p : Pos} : PE X (.Name x p) (rdE G xr P W (nameM C sc x)) := by
  unfold nameM
  by_cases h1 : isVis sc x = true
  · rw [if_pos h1]
    split
    · rename_i i hi
      obtain ⟨d1, d2⟩ := c.g.loc x i hi
      exact (pe_var (i := i) (by rw [c.hN]; exact idx_get hi) (by rw [c.hsc]; exact isVis_iff h1) d1 d2).imp fun σ H Q h => rdSlot_ok h
    · exact ⟨fun pins s σ H Q I h => by obtain ⟨_, _, _, h⟩ := h; exact h.elim⟩
  · rw [if_neg h1]
    by_cases h2 : isGl sc x = true
    · rw [if_pos h2]
      split
      · rename_i v e
        obtain ⟨u, V, m1, m2, m3⟩ := c.g.const x v e
        exact (pe_glob (c.gl h2) m1 m2 (c.g.dbg x _ e)).imp fun σ H Q ⟨ρ, s, R0, h⟩ => rdRet R0 h (m3 ρ _)
      · rename_i n e
        exact (pe_glob (v := .ref (G.fa n)) (c.gl h2) (c.g.fn x n e).1 rfl (c.g.dbg x _ e)).imp fun σ H Q ⟨ρ, s, R0, h⟩ => rdRet R0 h (.fn n)
      · exact ⟨fun pins s σ H Q I h => by obtain ⟨_, _, _, h⟩ := h; exact h.elim⟩
    · rw [if_neg h2]
      exact ⟨fun pins s σ H Q I h => by obtain ⟨_, _, _, h⟩ := h; exact h.elim⟩
theorem bad_ok {e : Expr} : PE X e (rdE G xr P W bad) := ⟨fun pins s σ H Q I h => by obtain ⟨_, _, _, h⟩ := h; exact h.elim⟩
theorem badT_ok {e : Expr} : PT X e (rdT G xr P W bad) := ⟨fun pins s σ H Q I h => by obtain ⟨_, _, _, h⟩ := h; exact h.elim⟩
theorem const_ok {k : Const} {j : Nat} {p : Pos} : PE X (.Constant k j p) (rdE G xr P W (constM k)) := by
  cases k <;> first | exact bad_ok | skip
  · exact pe_non.imp fun σ H Q ⟨ρ, s, R0, h⟩ => rdRet R0 h .non
  · exact pe_bl.imp fun σ H Q ⟨ρ, s, R0, h⟩ => rdRet R0 h (.bl _)
  · exact pe_int.imp fun σ H Q ⟨ρ, s, R0, h⟩ => rdRet R0 h (.int _)
  · exact pe_str.imp fun σ H Q ⟨ρ, s, R0, h⟩ => rdRet R0 h (.str _)

/-! ### arguments -/
theorem starEach_plain {e : Expr} {es : List Expr} {env : Env} (h : notStar e = true) : starEach (e :: es) env = (false, eval e env) :: starEach es env := by
  cases e <;> first | rfl | cases h
theorem plain_of {env : Env} {pos : Pos} : ∀ {es : List Expr}, es.all notStar = true → (backTo pos (starEach es env)).any (·.1) = false
  | [], _ => rfl
  | e :: es, h => by
    simp only [List.all_cons, Bool.and_eq_true] at h
    rw [starEach_plain h.1]
    show ((false, _) :: backTo pos (starEach es env)).any (·.1) = false
    rw [List.any_cons]
    exact plain_of h.2
theorem args_ok {f : Expr → M RE} (hf : ∀ e, PE X e (rdE G xr P W (f e))) : ∀ {es : List Expr}, PA X es (rdA G xr P W (evList f es))
  | [] => pa_nil.imp fun σ H Q ⟨ρ, s, R0, h⟩ => rdRet R0 h (r := []) (b := []) trivial
  | e :: es => by
    unfold evList
    by_cases hn : notStar e = true
    · rw [if_pos hn]
      refine (pa_cons (hf e) (args_ok hf (es := es)) (starEach_plain hn)).imp fun σ H Q ⟨ρ, s, R0, h⟩ => ?_
      refine rd_mono (seq R0 h) ?_
      rintro x H1 ⟨r, ρ1, s1, R1, E1, hx, h1⟩
      obtain ⟨ρ2, R2, E2, hx2⟩ := R1.hold hx
      refine rd_mono (seq R2 (h1.shift E2)) ?_
      rintro xs H3 ⟨rs, ρ3, s3, R3, E3, hxs, h3⟩
      exact rdRet R3 h3 (r := r :: rs) (b := x :: xs) ⟨RER.ext E3 hx2, hxs⟩
    · rw [if_neg hn]
      exact ⟨fun _ pins s σ H Q I h => by obtain ⟨_, _, _, h⟩ := h; exact h.elim⟩
/-! ### handing on -/
theorem share_ok {ρ : Rho} {s s' : ES} {σ : St} {H : Hp} (R0 : Rel G.K G.fa P ρ s σ H) {r : RE} {x : V} {v : PV} (hx : RER G.K G.fa ρ σ H r.norm x) (h : share r s = .ok v s') :
    ∃ ρ', Rel G.K G.fa P ρ' s' σ H ∧ Ext ρ H ρ' H ∧ RV G.K G.fa ρ' (cut H ρ') v x := by
  cases r with
  | val u => cases h; exact ⟨ρ, R0, Ext.refl, hx⟩
  | fresh c => cases h; exact ⟨ρ, R0, Ext.refl, hx⟩
  | pk i =>
    unfold share at h
    have q := R0.slot i
    have hx : σ[i]? = some (some x) := hx
    simp only at h
    split at h
    · rename_i c e
      cases h
      obtain ⟨a, e1, R1, E1, r1⟩ := R0.freeze e
      rw [hx] at e1; cases e1
      exact ⟨_, R1, E1, r1⟩
    · rename_i u e
      cases h
      rw [e] at q
      obtain ⟨_, V, h2, h3⟩ := q
      rw [hx] at h2; cases h2
      exact ⟨ρ, R0, Ext.refl, h3⟩
    · cases h
theorem share_noexc {r : RE} {s s' : ES} {x : Ex} : share r s ≠ .exc x s' := by
  intro h
  cases r with
  | val u => cases h
  | fresh c => cases h
  | pk i =>
    unfold share at h
    simp only at h
    split at h <;> cases h
theorem shares_noexc : ∀ {rs : List RE} {s s' : ES} {x : Ex}, shares rs s ≠ .exc x s'
  | [], _, _, _, h => by cases h
  | r :: rs, s, s', x, h => by
    unfold shares bnd at h
    split at h
    · rename_i v s1 e
      dsimp only at h
      split at h
      · cases h
      · rename_i y s2 e2; cases h; exact shares_noexc e2
      · cases h
    · rename_i y s1 e; cases h; exact share_noexc e
    · cases h
theorem shares_ok {σ : St} {H : Hp} : ∀ {rs : List RE} {ρ : Rho} {s s' : ES} {xs : List V} {vs : List PV}, Rel G.K G.fa P ρ s σ H → RERs G.K G.fa ρ σ H rs xs → shares rs s = .ok vs s' →
    ∃ ρ', Rel G.K G.fa P ρ' s' σ H ∧ Ext ρ H ρ' H ∧ RVs G.K G.fa ρ' (cut H ρ') vs xs
  | [], ρ, s, s', [], vs, R0, _, h => by cases h; exact ⟨ρ, R0, Ext.refl, .nil⟩
  | [], _, _, _, _ :: _, _, _, h, _ => h.elim
  | _ :: _, _, _, _, [], _, _, h, _ => h.elim
  | r :: rs, ρ, s, s', x :: xs, vs, R0, ⟨hx, hxs⟩, h => by
    unfold shares bnd at h
    split at h
    · rename_i v s1 e
      dsimp only at h
      obtain ⟨ρ1, R1, E1, q1⟩ := share_ok R0 hx e
      split at h
      · rename_i us s2 e2
        cases h
        obtain ⟨ρ2, R2, E2, q2⟩ := shares_ok R1 (RERs.ext E1 hxs) e2
        exact ⟨ρ2, R2, E1.trans E2, .cons (q1.mono E2.le E2.box) q2⟩
      · cases h
      · cases h
    · cases h
    · cases h
/-- first the handing on, then f -/
theorem seqShares {α β : Type} {R' : Rho → St → Hp → α → β → Prop} {ρ : Rho} {s : ES} {σ : St} {H : Hp} {rs : List RE} {xs : List V} {f : List PV → M α} {Q : β → Hp → Prop} (R0 : Rel G.K G.fa P ρ s σ H) (hx : RERs G.K G.fa ρ σ H rs xs)
    (h : rdAt G xr P R' W ρ (bnd (shares rs) f s) σ H Q) : ∃ vs s' ρ', Rel G.K G.fa P ρ' s' σ H ∧ Ext ρ H ρ' H ∧ RVs G.K G.fa ρ' (cut H ρ') vs xs ∧ rdAt G xr P R' W ρ' (f vs s') σ H Q := by
  rcases seq0 h with ⟨vs, s', e, h'⟩ | ⟨x, s', e⟩
  · obtain ⟨ρ', R1, E1, q⟩ := shares_ok R0 hx e
    exact ⟨vs, s', ρ', R1, E1, q, h'.shift E1⟩
  · exact absurd e shares_noexc
theorem seqShare {α β : Type} {R' : Rho → St → Hp → α → β → Prop} {ρ : Rho} {s : ES} {σ : St} {H : Hp} {r : RE} {x : V} {f : PV → M α} {Q : β → Hp → Prop} (R0 : Rel G.K G.fa P ρ s σ H) (hx : RER G.K G.fa ρ σ H r.norm x)
    (h : rdAt G xr P R' W ρ (bnd (share r) f s) σ H Q) : ∃ v s' ρ', Rel G.K G.fa P ρ' s' σ H ∧ Ext ρ H ρ' H ∧ RV G.K G.fa ρ' (cut H ρ') v x ∧ rdAt G xr P R' W ρ' (f v s') σ H Q := by
  rcases seq0 h with ⟨v, s', e, h'⟩ | ⟨x, s', e⟩
  · obtain ⟨ρ', R1, E1, q⟩ := share_ok R0 hx e
    exact ⟨v, s', ρ', R1, E1, q, h'.shift E1⟩
  · exact absurd e share_noexc

/-! ### a call of a def -/
open Classical in
/-- what a callee must leave is held -/
noncomputable def enterN (ρ : Rho) : Rho := fun nm => match nm with
  | .box n => ρ (.box n)
  | .held a => if ∃ x, (∀ n, x ≠ .box n) ∧ ρ x = some a then some a else none
  | _ => none
theorem enterN_held {ρ : Rho} {a b : Addr} : enterN ρ (.held a) = some b ↔ b = a ∧ ∃ x, (∀ n, x ≠ .box n) ∧ ρ x = some a := by
  unfold enterN
  simp only
  split
  · rename_i h; exact ⟨fun e => ⟨(Option.some.inj e).symm, h⟩, fun e => by rw [e.1]⟩
  · rename_i h; exact ⟨(fun e => nomatch e), fun e => absurd e.2 h⟩
theorem enterN_sub {ρ : Rho} : ∀ nm a, enterN ρ nm = some a → ∃ nm', ρ nm' = some a := fun nm a h => by
  cases nm with
  | box n => exact ⟨_, h⟩
  | slot i => cases h
  | tmp b => cases h
  | held b => obtain ⟨e, x, _, q⟩ := enterN_held.mp h; subst e; exact ⟨x, q⟩
theorem enterN_sup {ρ : Rho} {nm : Nm} {a : Addr} (h : ρ nm = some a) : ∃ nm', enterN ρ nm' = some a := by
  cases nm with
  | box n => exact ⟨.box n, h⟩
  | slot i => exact ⟨.held a, enterN_held.mpr ⟨rfl, _, by simp, h⟩⟩
  | tmp b => exact ⟨.held a, enterN_held.mpr ⟨rfl, _, by simp, h⟩⟩
  | held b => exact ⟨.held a, enterN_held.mpr ⟨rfl, _, by simp, h⟩⟩
theorem cut_sub {ρ ρ' : Rho} {H : Hp} (h : ∀ nm a, ρ' nm = some a → ∃ nm', ρ nm' = some a) : Le (cut H ρ) (cut H ρ') := fun a o e => by
  obtain ⟨h1, h2⟩ := cut_eq.mp e
  exact cut_eq.mpr ⟨fun nm e' => by obtain ⟨nm', e''⟩ := h nm a e'; exact h1 nm' e'', h2⟩
theorem Rel.enter {ρ : Rho} {s : ES} {σ : St} {H : Hp} (R : Rel G.K G.fa P ρ s σ H) : Rel G.K G.fa (cut H (enterN ρ)) (enterN ρ) ⟨[], s.st⟩ [] H := by
  refine ⟨fun x y a hx hy => ?_, fun _ _ h => h, fun i => ?_, fun n => ?_, (fun a b h => nomatch h), fun a b h => ?_, rfl⟩
  · cases x with
    | slot i => cases hx
    | tmp b => cases hx
    | box n =>
      cases y with
      | slot i => cases hy
      | tmp b => cases hy
      | box m => exact R.inj _ _ a hx hy
      | held b =>
        obtain ⟨e, z, hz, q⟩ := enterN_held.mp hy
        subst e
        exact absurd (R.inj _ _ a hx q).symm (hz n)
    | held b =>
      obtain ⟨e, z, hz, q⟩ := enterN_held.mp hx
      subst e
      cases y with
      | slot i => cases hy
      | tmp b => cases hy
      | box m => exact absurd (R.inj _ _ a hy q).symm (hz m)
      | held c => obtain ⟨e, _⟩ := enterN_held.mp hy; rw [e]
  · show SlotR _ _ _ _ _ i ([] : List Sl)[i]?
    rw [List.getElem?_nil]; rfl
  · exact (R.box n).mono (cut_sub enterN_sub) (fun _ _ h => h) rfl fun _ _ => rfl
  · obtain ⟨e, x, _, q⟩ := enterN_held.mp h
    exact ⟨e, R.mutAt q⟩
/-- a callee's names behind its end -/
def exitN (ρ₀ ρ : Rho) : Rho := fun nm => match nm with
  | .box n => ρ (.box n)
  | .tmp a => ρ (.tmp a)
  | .held a => match ρ₀ (.held a) with
    | some _ => ρ (.held a)
    | none => none
  | .slot _ => none
theorem exitN_sub {ρ₀ ρ : Rho} : ∀ nm a, exitN ρ₀ ρ nm = some a → ρ nm = some a := fun nm a h => by
  cases nm with
  | box n => exact h
  | tmp b => exact h
  | slot i => cases h
  | held b =>
    unfold exitN at h
    simp only at h
    split at h
    · exact h
    · cases h
theorem Rel.exit {ρ₀ ρ : Rho} {s : ES} {σ : St} {H : Hp} (R : Rel G.K G.fa P ρ s σ H) : Rel G.K G.fa P (exitN ρ₀ ρ) ⟨[], s.st⟩ [] H := by
  refine ⟨fun x y a hx hy => R.inj x y a (exitN_sub x a hx) (exitN_sub y a hy), fun a o h => cut_sub (fun nm a h => ⟨nm, exitN_sub nm a h⟩) a o (R.base a o h), fun i => ?_, fun n => ?_, fun a b h => R.tmp a b h, fun a b h => R.held a b (exitN_sub _ _ h), rfl⟩
  · show SlotR _ _ _ _ _ i ([] : List Sl)[i]?
    rw [List.getElem?_nil]; rfl
  · exact (R.box n).mono (cut_sub fun nm a h => ⟨nm, exitN_sub nm a h⟩) (fun _ _ h => h) rfl fun _ _ => rfl
theorem exit_ext {ρ₀ ρ : Rho} {H₀ H : Hp} (E : Ext ρ₀ H₀ ρ H) : Ext ρ₀ H₀ (exitN ρ₀ ρ) H :=
  ⟨fun a o h => cut_sub (fun nm a h => ⟨nm, exitN_sub nm a h⟩) a o (E.le a o h), E.box, fun a h => ⟨by
    show (match ρ₀ (.held a) with | some _ => ρ (.held a) | none => none) = some a
    rw [h]; exact (E.held a h).1, (E.held a h).2⟩⟩
/-- the caller's names over the callee's -/
def overN (ρ ρ' : Rho) : Rho := fun nm => match nm with
  | .box n => ρ' (.box n)
  | .tmp a => ρ' (.tmp a)
  | nm => ρ nm
theorem Rel.back {ρ ρ' : Rho} {s : ES} {st' : List Cell} {σ : St} {H H' : Hp} {P' : Hp} (R : Rel G.K G.fa P ρ s σ H) (R' : Rel G.K G.fa P' ρ' ⟨[], st'⟩ [] H') (E : Ext (enterN ρ) H ρ' H') :
    Rel G.K G.fa P (overN ρ ρ') { s with st := st' } σ H' ∧ Ext ρ H (overN ρ ρ') H' ∧ Le (cut H' ρ') (cut H' (overN ρ ρ')) := by
  have stands : ∀ {nm : Nm} {a : Addr}, (∀ n, nm ≠ .box n) → ρ nm = some a → ρ' (.held a) = some a ∧ H' a = H a := fun {nm a} hn e =>
    E.held a (enterN_held.mpr ⟨rfl, nm, hn, e⟩)
  have sub : ∀ nm a, overN ρ ρ' nm = some a → ∃ nm', ρ' nm' = some a := fun nm a h => by
    cases nm with
    | box n => exact ⟨_, h⟩
    | tmp b => exact ⟨_, h⟩
    | slot i => exact ⟨_, (stands (by simp) h).1⟩
    | held b => exact ⟨_, (stands (by simp) h).1⟩
  have lc : Le (cut H' ρ') (cut H' (overN ρ ρ')) := cut_sub sub
  have le : Le (cut H ρ) (cut H' (overN ρ ρ')) := fun a o h => lc a o (E.le a o (cut_sub enterN_sub a o h))
  have bl : BoxLe ρ (overN ρ ρ') := fun n a h => E.box n a h
  refine ⟨⟨fun x y a hx hy => ?_, fun a o h => le a o (R.base a o h), fun i => (R.slot i).mono le bl rfl (fun a h => (stands (by simp) h).2) rfl, fun n => (R'.box n).mono lc (fun _ _ h => h) rfl fun _ _ => rfl, fun a b h => R'.tmp a b h, fun a b h => ?_, R.len⟩, ⟨le, bl, fun a h => ⟨h, (stands (by simp) h).2⟩⟩, lc⟩
  · have key : ∀ {x y : Nm}, ρ' x = some a → (∀ b, x ≠ .held b) → ρ y = some a → (∀ n, y ≠ .box n) → False := by
      intro x y ex nx ey ny
      exact nx a (R'.inj _ _ a ex (stands ny ey).1)
    cases x <;> cases y <;> first
      | exact R'.inj _ _ a hx hy
      | exact R.inj _ _ a hx hy
      | exact (key hx (fun _ => nofun) hy (fun _ => nofun)).elim
      | exact (key hy (fun _ => nofun) hx (fun _ => nofun)).elim
  · obtain ⟨e, m⟩ := R.held a b h
    subst e
    exact ⟨rfl, by rw [(stands (by simp) h).2]; exact m⟩
/-- a call keeps what the evaluator says of it -/
theorem call_sp {ρ : Rho} {s : ES} {σ : St} {H : Hp} {n : Nat} {vs : List PV} {xs : List V} {Q : VK} (R0 : Rel G.K G.fa P ρ s σ H) (hx : RVs G.K G.fa ρ (cut H ρ) vs xs)
    (h : rdAt G xr P (RER G.K G.fa) W ρ (callM Φ n vs s) σ H Q) : spEv G xr Φ n xs H Q (WE W σ) := by
  have le0 : Le (cut H ρ) (cut H (enterN ρ)) := cut_sub enterN_sub
  refine ⟨_, _, s.st, vs, R0.enter, hx.mono le0 (show BoxLe ρ (enterN ρ) from fun _ _ h => h), ?_⟩
  unfold callM at h
  generalize Φ n vs s.st = o at h ⊢
  cases o with
  | bad => exact h
  | exc x st' =>
    intro ρ' H' cls d R' E' q
    obtain ⟨R1, E1, _⟩ := R0.back R' E'
    exact h _ _ _ _ R1 E1 q
  | ok r st' =>
    intro ρ' H' V R' E' q
    obtain ⟨R1, E1, lc⟩ := R0.back R' E'
    refine h _ _ _ R1 E1 ?_
    cases r with
    | val v => exact RV.mono lc (show BoxLe ρ' (overN ρ ρ') from fun _ _ h => h) q
    | fresh c =>
      obtain ⟨a, e1, e2, e3⟩ := q
      exact ⟨a, e1, e2, e3.mono lc (show BoxLe ρ' (overN ρ ρ') from fun _ _ h => h)⟩
    | pk i =>
      have q : ([] : St)[i]? = some (some V) := q
      simp at q
theorem call_ok (c : CxE G C Φ xr sc wr X W) {f : Expr → M RE} (hf : ∀ e, PE X e (rdE G xr P W (f e))) {x : Str} {n : Nat} {p pos : Pos} {es : List Expr} (hg : isGl sc x = true) (hl : C.glob.lookup x = some (.fn n)) (all : es.all notStar = true) :
    PE X (.Call (.Name x p) es [] pos) (rdE G xr P W (bnd (evList f es) fun rs => bnd (shares rs) fun vs => callM Φ n vs)) := by
  obtain ⟨hm, k, fd, ps, F, hr, hk, hb⟩ := c.g.fn x n hl
  have hdb := c.g.dbg x _ hl
  have args := args_ok (P := P) hf (es := es)
  refine ⟨fun pins s0 σ H Q I h => ?_⟩
  obtain ⟨ρ, s, R0, h⟩ := h
  have ha := rd_mono (seq R0 h) (Q' := fun xs H1 => spEv G xr Φ n xs H1 Q (WE W σ)) (by
    rintro xs H1 ⟨rs, ρ1, s1, R1, E1, hxs, h1⟩
    obtain ⟨vs, s2, ρ2, R2, E2, q2, h2⟩ := seqShares R1 hxs h1
    exact call_sp R2 q2 h2)
  refine wpAny_Call_Name_kw (ld_glob I (c.gl hg) hm ?_ hdb)
  cases es with
  | nil =>
    refine PySem.W.callWith_K0 I.kIn hk ?_
    have sp : spEv G xr Φ n [] H Q (WE W σ) := by
      obtain ⟨ρ, s, R0, h⟩ := ha
      exact h ρ H [] R0 Ext.refl trivial
    exact run_fnG (E := WE W) (us := []) F hr hb (passAt c.tk σ) I .nil sp
  | cons e es =>
    simp only [List.all_cons, Bool.and_eq_true] at all
    refine PySem.W.callWith_K (h₀ := X.base) I.ok.mod.kin hk (thn (args.run pos pins s0 σ H _ I ha) fun us s1 ⟨vs, H1, I1, r, q⟩ => ⟨I1.kIn, ?_⟩) (starEach_plain all.1) (plain_of all.2)
    exact run_fnG (E := WE W) F hr hb (passAt c.tk σ) I1 r q
end
end Ev

set_option linter.all false
set_option maxRecDepth 100000
set_option maxHeartbeats 1000000
/-! Ev.I: what is walked; targets; comprehensions -/
namespace Ev
open PySem PySem.Spec L2
section
variable {G : Env1} {C : CC} {Φ : Orc} {xr : XR} {sc wr : Scope} {X : Cx} {W : WX} {P : Hp}

/-! ### what is walked -/
structure ItOk (G : Env1) (T : Hp) (ρ0 : Rho) (J : It) (xs : List PV) : Prop where
  go : ∀ (i : Nat) (ρ : Rho) (H : Hp), i < xs.length → Le T (cut H ρ) → J.go i H
  stop : ∀ (ρ : Rho) (H : Hp), Le T (cut H ρ) → J.stop xs.length H
  yld : ∀ (i : Nat) (P : Hp) (ρ : Rho) (s : ES) (σ : St) (H : Hp) (x : V) (H' : Hp), i < xs.length → Rel G.K G.fa P ρ s σ H → Le T (cut H ρ) → BoxLe ρ0 ρ → J.yld i H x H' →
    ∃ v, xs[i]? = some v ∧ Rel G.K G.fa P ρ s σ H' ∧ Ext ρ H ρ H' ∧ RV G.K G.fa ρ (cut H' ρ) v x
abbrev rdI (G : Env1) (xr : XR) (P : Hp) (W : WX) (m : M (List PV)) : TI := rd G xr P (fun ρ _ H xs J => ItOk G (cut H ρ) ρ J xs) W m
/-- a list or a tuple -/
def iSeq (K : PySem.W.Frag) (te : TE) : TI := fun σ H R => te σ H fun x H1 => ∃ a, x = .ref a ∧ ((∃ xs, SqL K H1 a xs ∧ R (Itl K a) H1) ∨ ∃ xs, SqT K H1 a xs ∧ R (Itt K a) H1)
theorem pi_seq {tg l : Expr} {tl : TE} (hl : PE X l tl) : PI X tg l (iSeq X.K tl) := by
  refine ⟨fun pins s σ H R I h => ?_⟩
  refine thn (hl.run pins s σ H _ I h) fun v s1 ⟨x, H1, I1, r1, q1⟩ => ?_
  obtain ⟨a, e, q1⟩ := q1
  subst e
  cases r1
  rcases q1 with ⟨xs, hq, q⟩ | ⟨xs, hq, q⟩
  · obtain ⟨its, rv, p, hz⟩ := I1.list hq
    refine wpAny_pyIter_list p.isList ?_
    refine ⟨s1.heap.objs.size, [s1.heap.objs.size], _, _, H1, rfl, I1.kept (t' := s1.toks) fun b o e => Heap.get?_push_of_some _ e, turn_list a _, ⟨_, Heap.get?_push_size _ rfl, rfl, rfl⟩, fun b hb => ?_, q⟩
    have e : b = s1.heap.objs.size := by simpa using hb
    subst e
    exact I1.fpOk (Nat.le_refl _) (I1.hok.fresh (Nat.le_refl _))
  · obtain ⟨its, rv, p, hz⟩ := I1.tuple hq
    refine wpAny_pyIter_tuple (show s1.heap.IsTuple a its.toArray from p) ?_
    refine ⟨s1.heap.objs.size, [s1.heap.objs.size], _, _, H1, rfl, I1.kept (t' := s1.toks) fun b o e => Heap.get?_push_of_some _ e, turn_tuple a _, ⟨_, Heap.get?_push_size _ rfl, rfl, rfl⟩, fun b hb => ?_, q⟩
    have e : b = s1.heap.objs.size := by simpa using hb
    subst e
    exact I1.fpOk (Nat.le_refl _) (I1.hok.fresh (Nat.le_refl _))
/-- a frozen list or tuple, as it is walked -/
theorem seq_of {ρ : Rho} {H : Hp} {v : PV} {x : V} {xs : List PV} (h : RV G.K G.fa ρ (cut H ρ) v x) (e : itemsOf v = some xs) : ∃ a k vs, x = .ref a ∧ SqS G.K (cut H ρ) a k vs ∧ RVs G.K G.fa ρ (cut H ρ) xs vs := by
  cases h with
  | tup h1 h2 => simp only [itemsOf, Option.some.injEq] at e; subst e; exact ⟨_, true, _, rfl, h1, h2⟩
  | lst h1 h2 => simp only [itemsOf, Option.some.injEq] at e; subst e; exact ⟨_, false, _, rfl, SqL.of h1, h2⟩
  | _ => simp [itemsOf] at e
theorem SqS.le {K : PySem.W.Frag} {T T' : Hp} (h : Le T T') {a : Addr} {k : Bool} {vs : List V} (q : SqS K T a k vs) : SqS K T' a k vs := by
  cases k
  · exact SqL.le h q
  · exact SqT.le h q
theorem itOk_list {ρ0 : Rho} {T : Hp} {a : Addr} {xs : List PV} {vs : List V} (h : SqL G.K T a vs) (r : RVs G.K G.fa ρ0 T xs vs) : ItOk G T ρ0 (Itl G.K a) xs where
  go := fun i ρ H hi le => ⟨vs, vs[i]'(by rw [← r.length]; exact hi), SqL.le (fun a o e => cut_le (le a o e)) h, by simp⟩
  stop := fun ρ H le => ⟨vs, SqL.le (fun a o e => cut_le (le a o e)) h, by rw [r.length]; exact Nat.le_refl _⟩
  yld := fun i P ρ s σ H x H' hi R le bl y => by
    obtain ⟨e, y⟩ := y
    subst e
    have hx := y vs (SqL.le (fun a o e => cut_le (le a o e)) h)
    obtain ⟨v, hv⟩ : ∃ v, xs[i]? = some v := ⟨xs[i], by simp [hi]⟩
    obtain ⟨w, hw, rw⟩ := r.get hv
    rw [hw] at hx
    cases hx
    exact ⟨v, hv, R, Ext.refl, rw.mono le bl⟩
theorem itOk_tup {ρ0 : Rho} {T : Hp} {a : Addr} {xs : List PV} {vs : List V} (h : SqT G.K T a vs) (r : RVs G.K G.fa ρ0 T xs vs) : ItOk G T ρ0 (Itt G.K a) xs where
  go := fun i ρ H hi le => ⟨vs, vs[i]'(by rw [← r.length]; exact hi), SqT.le (fun a o e => cut_le (le a o e)) h, by simp⟩
  stop := fun ρ H le => ⟨vs, SqT.le (fun a o e => cut_le (le a o e)) h, by rw [r.length]; exact Nat.le_refl _⟩
  yld := fun i P ρ s σ H x H' hi R le bl y => by
    obtain ⟨e, y⟩ := y
    subst e
    have hx := y vs (SqT.le (fun a o e => cut_le (le a o e)) h)
    obtain ⟨v, hv⟩ : ∃ v, xs[i]? = some v := ⟨xs[i], by simp [hi]⟩
    obtain ⟨w, hw, rw⟩ := r.get hv
    rw [hw] at hx
    cases hx
    exact ⟨v, hv, R, Ext.refl, rw.mono le bl⟩
theorem rngP_length (i j : Int) : (rngP i j).length = (j - i).toNat := by simp [rngP]
theorem itOk_rng {ρ0 : Rho} {T : Hp} {i j : Int} : ItOk G T ρ0 (Itr i (j - i).toNat) (rngP i j) where
  go := fun k ρ H hk _ => by rw [rngP_length] at hk; exact hk
  stop := fun ρ H _ => by rw [rngP_length]; exact Nat.le_refl _
  yld := fun k P ρ s σ H x H' hk R le bl y => by
    obtain ⟨e, y⟩ := y
    subst e; subst y
    rw [rngP_length] at hk
    exact ⟨.int (i + k), by simp [rngP, hk], R, Ext.refl, .int _⟩
theorem zipP_length : ∀ (xs ys : List PV), (zipP xs ys).length = min xs.length ys.length
  | [], _ => by simp [zipP]
  | _ :: _, [] => by simp [zipP]
  | x :: xs, y :: ys => by simp only [zipP, List.length_cons, zipP_length xs ys]; omega
theorem zipP_get : ∀ {xs ys : List PV} {i : Nat} {x y : PV}, xs[i]? = some x → ys[i]? = some y → (zipP xs ys)[i]? = some (.tup [x, y])
  | [], _, _, _, _, h, _ => by simp at h
  | _ :: _, [], _, _, _, _, h => by simp at h
  | x :: xs, y :: ys, 0, _, _, h, h' => by simp at h h'; subst h; subst h'; rfl
  | x :: xs, y :: ys, i + 1, _, _, h, h' => by simpa [zipP] using zipP_get (i := i) (by simpa using h) (by simpa using h')
theorem enumP_length : ∀ (n : Nat) (xs : List PV), (enumP n xs).length = xs.length
  | _, [] => rfl
  | n, x :: xs => by simp only [enumP, List.length_cons, enumP_length (n + 1) xs]
theorem enumP_get : ∀ {xs : List PV} {n i : Nat} {x : PV}, xs[i]? = some x → (enumP n xs)[i]? = some (.tup [.int (n + i : Nat), x])
  | [], _, _, _, h => by simp at h
  | x :: xs, n, 0, _, h => by simp at h; subst h; rfl
  | x :: xs, n, i + 1, y, h => by
    have := enumP_get (n := n + 1) (i := i) (x := y) (by simpa using h)
    simp only [enumP, List.getElem?_cons_succ, this]
    have e : n + 1 + i = n + (i + 1) := by omega
    rw [e]
theorem newPair {ρ ρ0 : Rho} {s : ES} {σ : St} {H : Hp} {T : Hp} {p : Addr} {v w : PV} {x y : V} (R : Rel G.K G.fa P ρ s σ H) (le : Le T (cut H ρ)) (bl : BoxLe ρ0 ρ) (hp : H p = none) (hv : RV G.K G.fa ρ0 T v x) (hw : RV G.K G.fa ρ0 T w y) :
    Rel G.K G.fa P ρ s σ (upd H p (.tup [x, y])) ∧ Ext ρ H ρ (upd H p (.tup [x, y])) ∧ RV G.K G.fa ρ (cut (upd H p (.tup [x, y])) ρ) (.tup [v, w]) (.ref p) := by
  obtain ⟨R1, E1⟩ := R.laid (o := .tup [x, y]) hp
  exact ⟨R1, E1, .tup (SqT.of (R.cutNew hp)) (.cons ((hv.mono le bl).mono E1.le E1.box) (.cons ((hw.mono le bl).mono E1.le E1.box) .nil))⟩
theorem itOk_zip {ρ0 : Rho} {T : Hp} {a b : Addr} {k k' : Bool} {xs ys : List PV} {vs ws : List V} (h : SqS G.K T a k vs) (h' : SqS G.K T b k' ws) (r : RVs G.K G.fa ρ0 T xs vs) (r' : RVs G.K G.fa ρ0 T ys ws) : ItOk G T ρ0 (ItM G.K a k b k') (zipP xs ys) where
  go := fun i ρ H hi le => by
    rw [zipP_length, r.length, r'.length] at hi
    exact ⟨vs, ws, vs[i]'(by omega), ws[i]'(by omega), SqS.le (fun a o e => cut_le (le a o e)) h, SqS.le (fun a o e => cut_le (le a o e)) h', by simp, by simp⟩
  stop := fun ρ H le => ⟨vs, ws, SqS.le (fun a o e => cut_le (le a o e)) h, SqS.le (fun a o e => cut_le (le a o e)) h', by rw [zipP_length, r.length, r'.length]⟩
  yld := fun i P ρ s σ H x H' hi R le bl y => by
    obtain ⟨p, u, w, rfl, hp, rfl, y1, y2⟩ := y
    rw [zipP_length] at hi
    have e1 := y1 vs (SqS.le (fun a o e => cut_le (le a o e)) h)
    have e2 := y2 ws (SqS.le (fun a o e => cut_le (le a o e)) h')
    obtain ⟨v, hv⟩ : ∃ v, xs[i]? = some v := ⟨xs[i]'(by omega), by simp⟩
    obtain ⟨v', hv'⟩ : ∃ v, ys[i]? = some v := ⟨ys[i]'(by omega), by simp⟩
    obtain ⟨z, hz, rz⟩ := r.get hv
    obtain ⟨z', hz', rz'⟩ := r'.get hv'
    rw [hz] at e1; cases e1
    rw [hz'] at e2; cases e2
    obtain ⟨R1, E1, q⟩ := newPair R le bl hp rz rz'
    exact ⟨_, zipP_get hv hv', R1, E1, q⟩
theorem itOk_enum {ρ0 : Rho} {T : Hp} {a : Addr} {k : Bool} {xs : List PV} {vs : List V} (h : SqS G.K T a k vs) (r : RVs G.K G.fa ρ0 T xs vs) : ItOk G T ρ0 (ItN G.K a k) (enumP 0 xs) where
  go := fun i ρ H hi le => by
    rw [enumP_length, r.length] at hi
    exact ⟨vs, vs[i]'(by omega), SqS.le (fun a o e => cut_le (le a o e)) h, by simp⟩
  stop := fun ρ H le => ⟨vs, SqS.le (fun a o e => cut_le (le a o e)) h, by rw [enumP_length, r.length]⟩
  yld := fun i P ρ s σ H x H' hi R le bl y => by
    obtain ⟨p, u, rfl, hp, rfl, y1⟩ := y
    rw [enumP_length] at hi
    have e1 := y1 vs (SqS.le (fun a o e => cut_le (le a o e)) h)
    obtain ⟨v, hv⟩ : ∃ v, xs[i]? = some v := ⟨xs[i]'(by omega), by simp⟩
    obtain ⟨z, hz, rz⟩ := r.get hv
    rw [hz] at e1; cases e1
    obtain ⟨R1, E1, q⟩ := newPair R le bl hp (v := .int (i : Nat)) (x := .int (i : Nat)) (.int _) rz
    have e := enumP_get (n := 0) hv
    rw [Nat.zero_add] at e
    exact ⟨_, e, R1, E1, q⟩
theorem badI {tg it : Expr} : PI X tg it (rdI G xr P W bad) := ⟨fun pins s σ H R I h => by obtain ⟨_, _, _, h⟩ := h; exact h.elim⟩
theorem itemsM_ok {ρ : Rho} {s : ES} {σ : St} {H : Hp} {v : PV} {α β : Type} {R' : Rho → St → Hp → α → β → Prop} {f : List PV → M α} {Q : β → Hp → Prop} (h : rdAt G xr P R' W ρ (bnd (itemsM v) f s) σ H Q) : ∃ xs, itemsOf v = some xs ∧ rdAt G xr P R' W ρ (f xs s) σ H Q := by
  unfold itemsM at h
  split at h
  · rename_i xs e; exact ⟨xs, e, h⟩
  · exact h.elim
theorem itemsM_ok0 {ρ : Rho} {s : ES} {σ : St} {H : Hp} {v : PV} {β : Type} {R' : Rho → St → Hp → List PV → β → Prop} {Q : β → Hp → Prop} (h : rdAt G xr P R' W ρ (itemsM v s) σ H Q) : ∃ xs, itemsOf v = some xs ∧ rdAt G xr P R' W ρ (.ok xs s) σ H Q := by
  unfold itemsM at h
  cases e : itemsOf v with
  | some xs => rw [e] at h; exact ⟨xs, rfl, h⟩
  | none => rw [e] at h; exact h.elim
theorem foldedSet {it : Expr} {env : Env} (h : isSetE it = false) : ∀ x, foldedSetIterable it env x = pure x := by
  intro x
  cases it <;> first | rfl | cases h
theorem iter_ok (c : CxE G C Φ xr sc wr X W) {f : Expr → M RE} (hf : ∀ e, PE X e (rdE G xr P W (f e))) {tg it : Expr} : PI X tg it (rdI G xr P W (evIter C f sc tg it)) := by
  have dflt : PI X tg it (rdI G xr P W (if isSetE it then bad else bnd (f it) fun r => bnd (share r) itemsM)) := by
    by_cases hs : isSetE it = true
    · rw [if_pos hs]; exact badI
    · rw [if_neg hs]
      refine (pi_seq (hf it)).imp fun σ H R ⟨ρ, s, R0, h⟩ => ?_
      refine rd_mono (seq R0 h) ?_
      rintro x H1 ⟨r, ρ1, s1, R1, E1, hx, h1⟩
      obtain ⟨ρ2, R2, E2, hx2⟩ := R1.hold hx
      obtain ⟨v, s3, ρ3, R3, E3, rv, h3⟩ := seqShare R2 hx2 (h1.shift E2)
      obtain ⟨xs, e, h4⟩ := itemsM_ok0 h3
      obtain ⟨a, k, vs, rfl, hq, hr⟩ := seq_of rv e
      refine ⟨a, rfl, ?_⟩
      cases k
      · exact .inl ⟨vs, by rw [c.hK]; exact SqL.le cutLe hq, rdRet R3 h4 (by rw [c.hK]; exact itOk_list hq hr)⟩
      · exact .inr ⟨vs, by rw [c.hK]; exact SqT.le cutLe hq, rdRet R3 h4 (by rw [c.hK]; exact itOk_tup hq hr)⟩
  unfold evIter
  cases it with
  | Call fn es kws pos =>
    cases fn with
    | Name x p =>
      cases kws with
      | nil =>
        dsimp only
        cases hm : callIter C f sc tg x es with
        | none => exact dflt
        | some m =>
          dsimp only
          unfold callIter at hm
          by_cases hb : biC C sc x = true
          · rw [if_pos hb] at hm
            unfold biC at hb
            simp only [Bool.and_eq_true, Option.isNone_iff_eq_none] at hb
            by_cases e : x = ("range" : Str)
            · rw [if_pos e] at hm
              subst e
              have hg : Gl X "range" := c.gl hb.1
              have hmg : X.mg "range" = none := c.g.bi _ (by decide +kernel) hb.2
              rcases es with _ | ⟨a, _ | ⟨b, _ | ⟨d, es⟩⟩⟩
              · cases hm; exact badI
              · cases hm
                by_cases hn : notStar a = true
                · rw [if_pos hn]
                  refine (pi_range1 hg hmg (pa_cons (hf a) pa_nil (starEach_plain hn)) (starEach_plain hn)).imp fun σ H R ⟨ρ, s, R0, h⟩ => ?_
                  refine rd_mono (seq R0 h) ?_
                  rintro x H1 ⟨r, ρ1, s1, R1, E1, hx, h1⟩
                  obtain ⟨ρ2, R2, E2, hx2⟩ := R1.hold hx
                  have h2 := h1.shift E2
                  unfold rng1M at h2
                  split at h2
                  · rename_i j hd
                    split at h2
                    · rename_i ok
                      simp only [rngOk, Bool.and_eq_true, decide_eq_true_eq] at ok
                      cases (R2.peek hx2 hd).int
                      refine ⟨j, rfl, ok.1, ok.2, rdRet R2 h2 ?_⟩
                      have q := itOk_rng (G := G) (ρ0 := ρ2) (T := cut H1 ρ2) (i := 0) (j := j)
                      rw [Int.sub_zero] at q
                      exact q
                    · exact h2.elim
                  · exact h2.elim
                · rw [if_neg hn]; exact badI
              · cases hm
                by_cases hn : (notStar a && notStar b) = true
                · rw [if_pos hn]
                  simp only [Bool.and_eq_true] at hn
                  refine (pi_range2 hg hmg (pa_cons (hf a) (pa_cons (hf b) pa_nil (starEach_plain hn.2)) (starEach_plain hn.1)) (by rw [starEach_plain hn.1, starEach_plain hn.2]; rfl) (starEach_plain hn.2)).imp fun σ H R ⟨ρ, s, R0, h⟩ => ?_
                  refine rd_mono (seq R0 h) ?_
                  rintro x H1 ⟨r, ρ1, s1, R1, E1, hx, h1⟩
                  obtain ⟨ρ2, R2, E2, hx2⟩ := R1.hold hx
                  refine rd_mono (seq R2 (h1.shift E2)) ?_
                  rintro y H3 ⟨r', ρ3, s3, R3, E3, hy, h3⟩
                  obtain ⟨ρ4, R4, E4, hy4⟩ := R3.hold hy
                  have hx4 := RER.ext E4 (RER.ext E3 hx2)
                  have h4 := h3.shift E4
                  unfold rng2M at h4
                  split at h4
                  · rename_i i j hd hd'
                    split at h4
                    · rename_i ok
                      simp only [rngOk, Bool.and_eq_true, decide_eq_true_eq] at ok
                      cases (R4.peek hx4 hd).int
                      cases (R4.peek hy4 hd').int
                      exact ⟨i, j, rfl, ⟨ok.1.1, ok.1.2, ok.2.1, ok.2.2⟩, rdRet R4 h4 itOk_rng⟩
                    · exact h4.elim
                  · exact h4.elim
                · rw [if_neg hn]; exact badI
              · cases hm; exact badI
            · rw [if_neg e] at hm
              by_cases e2 : x = ("zip" : Str)
              · rw [if_pos e2] at hm
                subst e2
                have hg : Gl X "zip" := c.gl hb.1
                have hmg : X.mg "zip" = none := c.g.bi _ (by decide +kernel) hb.2
                rcases es with _ | ⟨a, _ | ⟨b, _ | ⟨d, es⟩⟩⟩
                · cases hm; exact badI
                · cases hm; exact badI
                · cases hm
                  by_cases hn : (notStar a && notStar b && isTupE tg) = true
                  · rw [if_pos hn]
                    simp only [Bool.and_eq_true] at hn
                    cases tg <;> first | (cases hn.2; done) | skip
                    refine (pi_zipM hg hmg (pa_cons (hf a) (pa_cons (hf b) pa_nil (starEach_plain hn.1.2)) (starEach_plain hn.1.1)) (starEach_plain hn.1.1) (plain_of (by simp [hn.1.2]))).imp fun σ H R ⟨ρ, s, R0, h⟩ => ?_
                    refine rd_mono (seq R0 h) ?_
                    rintro x H1 ⟨r, ρ1, s1, R1, E1, hx, h1⟩
                    obtain ⟨ρ2, R2, E2, hx2⟩ := R1.hold hx
                    refine rd_mono (seq R2 (h1.shift E2)) ?_
                    rintro y H3 ⟨r', ρ3, s3, R3, E3, hy, h3⟩
                    obtain ⟨ρ4, R4, E4, hy4⟩ := R3.hold hy
                    have hx4 := RER.ext E4 (RER.ext E3 hx2)
                    obtain ⟨u, s5, ρ5, R5, E5, ru, h5⟩ := seqShare R4 hx4 (h3.shift E4)
                    obtain ⟨v, s6, ρ6, R6, E6, rv, h6⟩ := seqShare R5 (RER.ext E5 hy4) h5
                    obtain ⟨xs, ex, h7⟩ := itemsM_ok h6
                    obtain ⟨ys, ey, h8⟩ := itemsM_ok h7
                    obtain ⟨p1, k1, vs, rfl, hq, hr⟩ := seq_of (ru.mono E6.le E6.box) ex
                    obtain ⟨p2, k2, ws, rfl, hq', hr'⟩ := seq_of rv ey
                    refine ⟨p1, p2, k1, k2, vs, ws, rfl, by rw [c.hK]; exact SqS.le cutLe hq, by rw [c.hK]; exact SqS.le cutLe hq', rdRet R6 h8 ?_⟩
                    rw [c.hK]
                    exact itOk_zip hq hq' hr hr'
                  · rw [if_neg hn]; exact badI
                · cases hm; exact badI
              · rw [if_neg e2] at hm
                by_cases e3 : x = ("enumerate" : Str)
                · rw [if_pos e3] at hm
                  subst e3
                  have hg : Gl X "enumerate" := c.gl hb.1
                  have hmg : X.mg "enumerate" = none := c.g.bi _ (by decide +kernel) hb.2
                  rcases es with _ | ⟨a, _ | ⟨b, es⟩⟩
                  · cases hm; exact badI
                  · cases hm
                    by_cases hn : (notStar a && isTupE tg) = true
                    · rw [if_pos hn]
                      simp only [Bool.and_eq_true] at hn
                      cases tg <;> first | (cases hn.2; done) | skip
                      refine (pi_enumM hg hmg (pa_cons (hf a) pa_nil (starEach_plain hn.1)) (starEach_plain hn.1)).imp fun σ H R ⟨ρ, s, R0, h⟩ => ?_
                      refine rd_mono (seq R0 h) ?_
                      rintro x H1 ⟨r, ρ1, s1, R1, E1, hx, h1⟩
                      obtain ⟨ρ2, R2, E2, hx2⟩ := R1.hold hx
                      obtain ⟨u, s5, ρ5, R5, E5, ru, h5⟩ := seqShare R2 hx2 (h1.shift E2)
                      obtain ⟨xs, ex, h7⟩ := itemsM_ok h5
                      obtain ⟨p1, k1, vs, rfl, hq, hr⟩ := seq_of ru ex
                      refine ⟨p1, k1, vs, rfl, by rw [c.hK]; exact SqS.le cutLe hq, rdRet R5 h7 ?_⟩
                      rw [c.hK]
                      exact itOk_enum hq hr
                    · rw [if_neg hn]; exact badI
                  · cases hm; exact badI
                · rw [if_neg e3] at hm; cases hm
          · rw [if_neg hb] at hm; cases hm
      | cons k ks => exact dflt
    | _ => exact dflt
  | _ => exact dflt
end
end Ev

set_option linter.all false
set_option maxRecDepth 100000
set_option maxHeartbeats 1000000
/-! Ev.J: targets, comprehensions -/
namespace Ev
open PySem PySem.Spec L2
theorem _root_.L2.PG.imp {X : Cx} {e : Expr} {t t' : TG} (h : PG X e t) (i : ∀ v σ H Q, t' v σ H Q → t v σ H Q) : PG X e t' := ⟨fun pins s σ H v u Q I r q => h.run pins s σ H v u Q I r (i v σ H Q q)⟩
theorem _root_.L2.PGs.imp {X : Cx} {e : List Expr} {t t' : TGs} (h : PGs X e t) (i : ∀ v σ H Q, t' v σ H Q → t v σ H Q) : PGs X e t' := ⟨fun pins s σ H v u Q I r q => h.run pins s σ H v u Q I r (i v σ H Q q)⟩
/-- the slots that a target may set -/
def Keep (C : CC) (wr : Scope) (σ σ' : St) : Prop := σ'.length = σ.length ∧ ∀ i, (∀ x, C.N.idxOf? x = some i → isLoc wr x = false) → σ'[i]? = σ[i]?
theorem Keep.refl {C : CC} {wr : Scope} {σ : St} : Keep C wr σ σ := ⟨rfl, fun _ _ => rfl⟩
theorem Keep.trans {C : CC} {wr : Scope} {σ σ' σ'' : St} (a : Keep C wr σ σ') (b : Keep C wr σ' σ'') : Keep C wr σ σ'' := ⟨b.1.trans a.1, fun i h => (b.2 i h).trans (a.2 i h)⟩
section
variable {G : Env1} {C : CC} {Φ : Orc} {xr : XR} {sc wr : Scope} {X : Cx} {W : WX} {P : Hp}
def rdG (G : Env1) (C : CC) (P : Hp) (wr : Scope) (m : PV → M Unit) : TG := fun V σ H Q => ∃ ρ s v s', Rel G.K G.fa P ρ s σ H ∧ RV G.K G.fa ρ (cut H ρ) v V ∧ m v s = .ok () s' ∧
  ∀ ρ' σ', Rel G.K G.fa P ρ' s' σ' H → Ext ρ H ρ' H → Keep C wr σ σ' → Q σ' H
def rdGs (G : Env1) (C : CC) (P : Hp) (wr : Scope) (m : List PV → M Unit) : TGs := fun Vs σ H Q => ∃ ρ s vs s', Rel G.K G.fa P ρ s σ H ∧ RVs G.K G.fa ρ (cut H ρ) vs Vs ∧ m vs s = .ok () s' ∧
  ∀ ρ' σ', Rel G.K G.fa P ρ' s' σ' H → Ext ρ H ρ' H → Keep C wr σ σ' → Q σ' H
theorem setSlot_ok {ρ : Rho} {s s' : ES} {σ : St} {H : Hp} {i : Nat} {v : PV} {V : L2.V} (R : Rel G.K G.fa P ρ s σ H) (hv : RV G.K G.fa ρ (cut H ρ) v V) (e : setSlot i v s = .ok () s') :
    ∃ ρ', Rel G.K G.fa P ρ' s' (σ.set i (some V)) H ∧ Ext ρ H ρ' H := by
  unfold setSlot at e
  split at e
  · rename_i hi
    cases e
    exact ⟨_, R.setVal hv hi⟩
  · cases e
theorem keep_set {σ : St} {i : Nat} {V : Option L2.V} {x : Str} (hi : C.N.idxOf? x = some i) (hx : isLoc wr x = true) : Keep C wr σ (σ.set i V) :=
  ⟨by simp, fun j hj => List.getElem?_set_ne fun e => by subst e; rw [hj x hi] at hx; cases hx⟩
theorem asgN_ok (c : CxE G C Φ xr sc wr X W) {e : Expr} : PG X e (rdG G C P wr (asgN C wr e)) := by
  have no : ∀ {e : Expr}, (∀ v s, asgN C wr e v s = .bad) → PG X e (rdG G C P wr (asgN C wr e)) := fun {e} h => ⟨fun pins s σ H v u Q I r q => by
    obtain ⟨_, s1, v1, _, _, _, e1, _⟩ := q
    rw [h] at e1; cases e1⟩
  cases e with
  | Name x p =>
    by_cases hx : isLoc wr x = true
    · cases hi : C.N.idxOf? x with
      | none => exact no fun v s => by simp [asgN, hx, hi, bad]
      | some i =>
        obtain ⟨l, f⟩ := c.wr x hx
        refine (pg_name (i := i) c.nd (by rw [c.hN]; exact idx_get hi) (by rw [c.hsc]; exact l) (by rw [c.hsc]; exact f)).imp fun V σ H Q ⟨ρ, s, v, s', R, rv, e, k⟩ => ?_
        have e' : setSlot i v s = .ok () s' := by simpa [asgN, hx, hi] using e
        obtain ⟨ρ', R', E'⟩ := setSlot_ok R rv e'
        exact k ρ' _ R' E' (keep_set hi hx)
    · exact no fun v s => by simp [asgN, hx, bad]
  | _ => exact no fun v s => rfl
theorem asgNs_ok (c : CxE G C Φ xr sc wr X W) : ∀ {es : List Expr}, PGs X es (rdGs G C P wr (asgNs C wr es))
  | [] => pgs_nil.imp fun Vs σ H Q ⟨ρ, s, vs, s', R, rv, e, k⟩ => by
    cases vs with
    | nil => cases rv; cases e; exact ⟨rfl, k ρ σ R Ext.refl Keep.refl⟩
    | cons v vs => cases e
  | e :: es => by
    by_cases hn : ∃ x p, e = .Name x p
    · obtain ⟨x, p, rfl⟩ := hn
      refine (pgs_cons (asgN_ok (P := P) c) (asgNs_ok c (es := es))).imp fun Vs σ H Q ⟨ρ, s, vs, s', R, rv, e, k⟩ => ?_
      cases vs with
      | nil => cases e
      | cons v vs =>
        cases rv with
        | cons r1 r2 =>
          refine ⟨_, _, rfl, ?_⟩
          have e2 : bnd (asgN C wr (.Name x p) v) (fun _ => asgNs C wr es vs) s = .ok () s' := e
          unfold bnd at e2
          generalize ho : asgN C wr (.Name x p) v s = o at e2
          cases o with
          | bad => cases e2
          | exc y t => cases e2
          | ok u s1 =>
            exact ⟨ρ, s, v, s1, R, r1, ho, fun ρ1 σ1 R1 E1 k1 => ⟨ρ1, s1, vs, s', R1, r2.mono E1.le E1.box, e2, fun ρ2 σ2 R2 E2 k2 => k ρ2 σ2 R2 (E1.trans E2) (k1.trans k2)⟩⟩
    · refine ⟨fun pins s σ H Vs us Q I r q => ?_⟩
      obtain ⟨_, s1, vs, s', _, _, e1, _⟩ := q
      cases vs with
      | nil => cases e1
      | cons v vs =>
        have e2 : bnd (asgN C wr e v) (fun _ => asgNs C wr es vs) s1 = .ok () s' := e1
        have eb : asgN C wr e v s1 = .bad := by
          cases e <;> first | rfl | exact absurd ⟨_, _, rfl⟩ hn
        unfold bnd at e2
        rw [eb] at e2
        cases e2
theorem names_plain {env : Env} : ∀ {es : List Expr} {vs : List PV} {s s' : ES}, asgNs C wr es vs s = .ok () s' → (assignEach es env).length = es.length ∧ (assignEach es env).findIdx? (·.1) = none ∧ vs.length = es.length
  | [], [], _, _, _ => ⟨rfl, rfl, rfl⟩
  | [], _ :: _, _, _, h => by cases h
  | _ :: _, [], _, _, h => by cases h
  | e :: es, v :: vs, s, s', h => by
    have e2 : bnd (asgN C wr e v) (fun _ => asgNs C wr es vs) s = .ok () s' := h
    unfold bnd at e2
    generalize ho : asgN C wr e v s = o at e2
    cases o with
    | bad => cases e2
    | exc y t => cases e2
    | ok u s1 =>
      obtain ⟨h1, h2, h3⟩ := names_plain (env := env) e2
      cases e with
      | Name x p =>
        refine ⟨by show (assignEach es env).length + 1 = _; rw [h1]; rfl, ?_, by simp [h3]⟩
        show ((false, assign (.Name x p) env) :: assignEach es env).findIdx? (·.1) = none
        rw [List.findIdx?_cons, h2]
        rfl
      | _ => cases ho
theorem asg_ok (c : CxE G C Φ xr sc wr X W) {e : Expr} : PG X e (rdG G C P wr (asgV C wr e)) := by
  cases e with
  | Tuple es k p =>
    by_cases hs : ∃ vs s s', asgNs C wr es vs s = .ok () s'
    · obtain ⟨vs0, s0, s0', h0⟩ := hs
      obtain ⟨h1, h2, _⟩ := names_plain (env := X.env) h0
      refine (pg_tup (n := es.length) c.calm (asgNs_ok (P := P) c) h1 h2).imp fun V σ H Q ⟨ρ, s, v, s', R, rv, e, q⟩ => ?_
      cases rv with
      | tup g1 g2 =>
        have e' : asgNs C wr es _ s = .ok () s' := e
        refine ⟨_, _, rfl, by rw [c.hK]; exact SqT.le cutLe g1, ?_, ρ, s, _, s', R, g2, e', q⟩
        rw [← g2.length]; exact (names_plain (env := X.env) e').2.2
      | _ => cases e
    · refine ⟨fun pins s σ H V u Q I r q => ?_⟩
      obtain ⟨_, s1, v, s', _, _, e1, _⟩ := q
      cases v with
      | tup xs => exact absurd ⟨xs, s1, s', e1⟩ hs
      | _ => cases e1
  | _ => exact asgN_ok c

/-! ### the block's own slots -/
def OldOk (G : Env1) (ρ : Rho) (σ : St) (H : Hp) (i : Nat) : Option Sl → Prop
  | some (.val x) => ∃ V, σ[i]? = some (some V) ∧ RV G.K G.fa ρ (cut H ρ) x V
  | some (.own c) => ∃ V, σ[i]? = some (some V) ∧ RV G.K G.fa ρ (cut H ρ) c.val V
  | _ => True
theorem OldOk.ext {ρ ρ' : Rho} {σ : St} {H H' : Hp} {i : Nat} {o : Option Sl} (le : Le (cut H ρ) (cut H' ρ')) (bl : BoxLe ρ ρ') (h : OldOk G ρ σ H i o) : OldOk G ρ' σ H' i o := by
  unfold OldOk at h ⊢
  split at h
  · obtain ⟨V, h1, h2⟩ := h; exact ⟨V, h1, h2.mono le bl⟩
  · obtain ⟨V, h1, h2⟩ := h; exact ⟨V, h1, h2.mono le bl⟩
  · trivial
theorem wipe_notin {σ : St} : ∀ {vs : List Nat} {i : Nat}, i ∉ vs → (wipe σ vs)[i]? = σ[i]?
  | [], _, _ => rfl
  | v :: vs, i, h => by
    simp only [List.mem_cons, not_or] at h
    unfold wipe
    rw [List.getElem?_set_ne (Ne.symm h.1)]
    exact wipe_notin h.2
theorem wipeE_notin {env : List Sl} : ∀ {vs : List Nat} {i : Nat}, i ∉ vs → (wipeE env vs)[i]? = env[i]?
  | [], _, _ => rfl
  | v :: vs, i, h => by
    simp only [List.mem_cons, not_or] at h
    unfold wipeE
    rw [List.getElem?_set_ne (Ne.symm h.1)]
    exact wipeE_notin h.2
theorem wipe_ok {ρ : Rho} {s : ES} {σ : St} {H : Hp} (R : Rel G.K G.fa P ρ s σ H) : ∀ vs : List Nat, ∃ ρ', Rel G.K G.fa P ρ' { s with env := wipeE s.env vs } (wipe σ vs) H ∧ Ext ρ H ρ' H ∧ ∀ i ∈ vs, OldOk G ρ' σ H i s.env[i]?
  | [] => ⟨ρ, R, Ext.refl, fun i h => nomatch h⟩
  | v :: vs => by
    obtain ⟨ρ1, R1, E1, O1⟩ := wipe_ok R vs
    obtain ⟨R2, E2⟩ := R1.setNone (i := v) (x := none)
    refine ⟨_, R2, E1.trans E2, fun i hi => ?_⟩
    by_cases hv : i ∈ vs
    · exact (O1 i hv).ext E2.le E2.box
    · have e : i = v := by rcases List.mem_cons.mp hi with e | e; exact e; exact absurd e hv
      subst e
      have q := R1.slot i
      rw [show ({ s with env := wipeE s.env vs } : ES).env[i]? = s.env[i]? from wipeE_notin hv] at q
      generalize s.env[i]? = o at q ⊢
      cases o with
      | none => trivial
      | some sl =>
        cases sl with
        | none => trivial
        | val x =>
          obtain ⟨_, V, h2, h3⟩ := q
          rw [wipe_notin hv] at h2
          exact ⟨V, h2, h3.mono E2.le E2.box⟩
        | own cl =>
          obtain ⟨a, h1, h2, h3⟩ := q
          rw [wipe_notin hv] at h2
          exact ⟨_, h2, CellR.frz E2.le E2.box h3 fun o ho => cut_dropped R1.inj h1 ho⟩
def restore (σ' σ : St) : List Nat → St
  | [] => σ'
  | v :: vs => (restore σ' σ vs).set v (σ[v]?.getD none)
theorem restore_length {σ' σ : St} : ∀ vs : List Nat, (restore σ' σ vs).length = σ'.length
  | [] => rfl
  | v :: vs => by unfold restore; rw [List.length_set, restore_length vs]
theorem restore_eq {σ' σ : St} (hl : σ'.length = σ.length) : ∀ vs : List Nat, (∀ i, i ∉ vs → σ'[i]? = σ[i]?) → restore σ' σ vs = σ := by
  intro vs h
  apply List.ext_getElem?
  intro i
  have key : ∀ vs : List Nat, (restore σ' σ vs)[i]? = if i ∈ vs then σ[i]? else σ'[i]? := by
    intro vs
    induction vs with
    | nil => simp [restore]
    | cons v vs ih =>
      unfold restore
      by_cases hv : i = v
      · subst hv
        rw [if_pos List.mem_cons_self]
        by_cases hi : i < σ'.length
        · rw [List.getElem?_set_self (by rw [restore_length]; exact hi)]
          have : i < σ.length := by omega
          rw [List.getElem?_eq_getElem this]; rfl
        · rw [List.getElem?_eq_none (by rw [List.length_set, restore_length]; omega), List.getElem?_eq_none (by omega)]
      · rw [List.getElem?_set_ne (Ne.symm hv), ih]
        simp [hv]
  rw [key vs]
  split
  · rfl
  · exact h i (by assumption)
theorem back_ok {ρ : Rho} {s : ES} {σ' σ : St} {H : Hp} {old : List Sl} (R : Rel G.K G.fa P ρ s σ' H) : ∀ vs : List Nat, (∀ i ∈ vs, OldOk G ρ σ H i old[i]?) → ∃ ρ', Rel G.K G.fa P ρ' { s with env := backE s.env old vs } (restore σ' σ vs) H ∧ Ext ρ H ρ' H
  | [], _ => ⟨ρ, R, Ext.refl⟩
  | v :: vs, h => by
    obtain ⟨ρ1, R1, E1⟩ := back_ok R vs fun i hi => h i (List.mem_cons_of_mem _ hi)
    have o := (h v List.mem_cons_self).ext E1.le E1.box
    show ∃ ρ', Rel G.K G.fa P ρ' { s with env := (backE s.env old vs).set v (match old[v]? with | some (.val x) => .val x | some (.own c) => .val c.val | _ => .none) } ((restore σ' σ vs).set v (σ[v]?.getD none)) H ∧ Ext ρ H ρ' H
    have wr : ∀ {x : PV}, (∃ V, σ[v]? = some (some V) ∧ RV G.K G.fa ρ1 (cut H ρ1) x V) → ∃ ρ', Rel G.K G.fa P ρ' { s with env := (backE s.env old vs).set v (.val x) } ((restore σ' σ vs).set v (σ[v]?.getD none)) H ∧ Ext ρ H ρ' H := by
      rintro x ⟨V, e, r⟩
      by_cases hv : v < (backE s.env old vs).length
      · rw [e]
        obtain ⟨R2, E2⟩ := R1.setVal (i := v) r hv
        exact ⟨_, R2, E1.trans E2⟩
      · rw [List.set_eq_of_length_le (by omega), List.set_eq_of_length_le (by have := R1.len; simp only at this; omega)]
        exact ⟨ρ1, R1, E1⟩
    generalize old[v]? = ov at o ⊢
    cases ov with
    | none =>
      obtain ⟨R2, E2⟩ := R1.setNone (i := v) (x := σ[v]?.getD none)
      exact ⟨_, R2, E1.trans E2⟩
    | some sl =>
      cases sl with
      | none =>
        obtain ⟨R2, E2⟩ := R1.setNone (i := v) (x := σ[v]?.getD none)
        exact ⟨_, R2, E1.trans E2⟩
      | val x => exact wr o
      | own cl => exact wr o
/-! ### comprehensions -/
theorem Rel.newHeld {ρ : Rho} {s : ES} {σ : St} {H : Hp} (R : Rel G.K G.fa P ρ s σ H) {p : Addr} {o : HO} (hp : H p = none) (hm : Mut (some o)) :
    Rel G.K G.fa P (setN ρ (.held p) (some p)) s σ (upd H p o) ∧ Ext ρ H (setN ρ (.held p) (some p)) (upd H p o) := by
  have ne : ∀ {nm : Nm} {a : Addr}, ρ nm = some a → a ≠ p := fun {nm a} e z => by subst z; exact R.notNone hp e
  have le : Le (cut H ρ) (cut (upd H p o) (setN ρ (.held p) (some p))) := fun a u h => by
    obtain ⟨h1, h2⟩ := cut_eq.mp h
    have ha : a ≠ p := fun z => by subst z; rw [hp] at h2; cases h2
    refine cut_eq.mpr ⟨fun nm e => ?_, by rw [upd_ne ha]; exact h2⟩
    by_cases hn : nm = .held p
    · subst hn; rw [setN_same] at e; exact ha (Option.some.inj e).symm
    · rw [setN_ne hn] at e; exact h1 nm e
  have hh : ∀ {a : Addr}, ρ (.held a) = some a → a ≠ p := fun {a} e => ne e
  refine ⟨⟨fun x y a hx hy => ?_, fun a u h => le a u (R.base a u h), fun i => (R.slot i).mono le (fun _ _ h => by rw [setN_ne (by simp)]; exact h) (setN_ne (by simp)) (fun a h => upd_ne (ne h)) rfl,
    fun n => (R.box n).mono le (fun _ _ h => by rw [setN_ne (by simp)]; exact h) (setN_ne (by simp)) fun a h => upd_ne (ne h), fun a b h => ?_, fun a b h => ?_, R.len⟩, le, fun _ _ h => by rw [setN_ne (by simp)]; exact h, fun a h => ⟨by rw [setN_ne (by simp [hh h])]; exact h, upd_ne (ne h)⟩⟩
  · by_cases h1 : x = .held p
    · subst h1
      rw [setN_same] at hx
      cases hx
      by_cases h2 : y = .held p
      · exact h2.symm
      · rw [setN_ne h2] at hy; exact absurd rfl (ne hy)
    · rw [setN_ne h1] at hx
      by_cases h2 : y = .held p
      · subst h2; rw [setN_same] at hy; cases hy; exact absurd rfl (ne hx)
      · rw [setN_ne h2] at hy; exact R.inj x y a hx hy
  · rw [setN_ne (by simp)] at h
    obtain ⟨e, m⟩ := R.tmp a b h
    subst e
    exact ⟨rfl, by rw [upd_ne (ne h)]; exact m⟩
  · by_cases h1 : a = p
    · subst h1; rw [setN_same] at h; cases h; exact ⟨rfl, by rw [upd_same]; exact hm⟩
    · rw [setN_ne (by simp [h1])] at h
      obtain ⟨e, m⟩ := R.held a b h
      subst e
      exact ⟨rfl, by rw [upd_ne h1]; exact m⟩
/-- a held cell becomes a result -/
theorem Rel.heldTmp {ρ : Rho} {s : ES} {σ : St} {H : Hp} (R : Rel G.K G.fa P ρ s σ H) {a : Addr} (ha : ρ (.held a) = some a) :
    Rel G.K G.fa P (setN (setN ρ (.held a) none) (.tmp a) (some a)) s σ H ∧ Le (cut H ρ) (cut H (setN (setN ρ (.held a) none) (.tmp a) (some a))) ∧ BoxLe ρ (setN (setN ρ (.held a) none) (.tmp a) (some a)) ∧
      ∀ b, b ≠ a → ρ (.held b) = some b → setN (setN ρ (.held a) none) (.tmp a) (some a) (.held b) = some b := by
  have bl : BoxLe ρ (setN (setN ρ (.held a) none) (.tmp a) (some a)) := fun _ _ h => by rw [setN_ne (by simp), setN_ne (by simp)]; exact h
  have le : Le (cut H ρ) (cut H (setN (setN ρ (.held a) none) (.tmp a) (some a))) := cut_move ha
  refine ⟨⟨inj_move R.inj ha, fun b u h => le b u (R.base b u h), fun j => (R.slot j).mono le bl (by rw [setN_ne (by simp), setN_ne (by simp)]) (fun _ _ => rfl) rfl, fun n => (R.box n).mono le bl (by rw [setN_ne (by simp), setN_ne (by simp)]) fun _ _ => rfl, fun b c h => ?_, fun b c h => ?_, R.len⟩, le, bl, fun b hb h => ?_⟩
  · by_cases hb : b = a
    · subst hb; rw [setN_same] at h; cases h; exact ⟨rfl, R.mutAt ha⟩
    · rw [setN_ne (by simp [hb]), setN_ne (by simp)] at h; exact R.tmp b c h
  · rw [setN_ne (by simp)] at h
    by_cases hb : b = a
    · subst hb; rw [setN_same] at h; cases h
    · rw [setN_ne (by simp [hb])] at h; exact R.held b c h
  · rw [setN_ne (by simp), setN_ne (by simp [hb])]; exact h
theorem own_slots {scope : Scope} {x : Str} {i : Nat} (hi : C.N.idxOf? x = some i) (hx : isLoc scope x = true) : i ∈ (ownOf C scope).map (·.2) := by
  have h := isLoc_iff hx
  have hm : ∃ k, (x, k) ∈ scope.names ∧ (k = .local ∨ k = .cell) := by
    rcases h with h | h
    · exact ⟨_, PySem.mem_of_lookup h, .inl rfl⟩
    · exact ⟨_, PySem.mem_of_lookup h, .inr rfl⟩
  obtain ⟨k, hk, hkk⟩ := hm
  refine List.mem_map.mpr ⟨(x, i), List.mem_filterMap.mpr ⟨(x, k), hk, ?_⟩, rfl⟩
  rcases hkk with e | e <;> subst e <;> simp [hi]
theorem keep_wipe {scope : Scope} {σ σ' : St} (k : Keep C scope (wipe σ ((ownOf C scope).map (·.2))) σ') : wipe σ' ((ownOf C scope).map (·.2)) = wipe σ ((ownOf C scope).map (·.2)) := by
  apply List.ext_getElem?
  intro i
  have wl : ∀ (τ : St) (vs : List Nat) (j : Nat), j ∈ vs → (wipe τ vs)[j]? = if j < τ.length then some none else none := by
    intro τ vs
    induction vs with
    | nil => intro j h; cases h
    | cons v vs ih =>
      intro j h
      unfold wipe
      by_cases hv : j = v
      · subst hv
        by_cases hl : j < τ.length
        · rw [List.getElem?_set_self (by rw [wipe_length]; exact hl), if_pos hl]
        · rw [List.getElem?_eq_none (by rw [List.length_set, wipe_length]; omega), if_neg hl]
      · rw [List.getElem?_set_ne (Ne.symm hv)]
        exact ih j (by rcases List.mem_cons.mp h with e | e; exact absurd e hv; exact e)
  have hl : σ'.length = σ.length := by rw [k.1, wipe_length]
  by_cases hi : i ∈ (ownOf C scope).map (·.2)
  · rw [wl _ _ _ hi, wl _ _ _ hi, hl]
  · rw [wipe_notin hi, wipe_notin hi, k.2 i fun x hx => ?_, wipe_notin hi]
    cases hb : isLoc scope x with
    | false => rfl
    | true => exact absurd (own_slots hx hb) hi
theorem ownOf_ix {scope : Scope} : ∀ p ∈ ownOf C scope, C.N[p.2]? = some p.1 := by
  intro p hp
  obtain ⟨y, _, e⟩ := List.mem_filterMap.mp hp
  have : (C.N.idxOf? y.1).map (fun i => (y.1, i)) = some p := by
    split at e
    · exact e
    · exact e
    · cases e
  simp only [Option.map_eq_some_iff] at this
  obtain ⟨i, hi, e⟩ := this
  subst e
  exact idx_get hi
/-- a block's context -/
theorem CxE.blk (c : CxE G C Φ xr sc wr X W) {s : Shared} {H : Hp} {scope : Scope} {cl : List (Str × Addr)} {A : Addr} {fp : List Addr} :
    CxE G C Φ xr (blkS scope sc) scope (X.blk s H scope (compEnvC scope cl A X.env) fp) (fun _ _ _ _ => False) := by
  have es : (compEnvC scope cl A X.env).scope = blkS scope sc := by
    show _ = L2.relS scope sc
    rw [← c.hsc]
    rfl
  refine ⟨c.hK, c.hN, c.nd, es, c.calm, c.units, c.gd, ⟨c.g.const, c.g.fn, c.g.bi, c.g.dbg, c.g.loc⟩, takesF, fun x hx => ?_⟩
  rcases isLoc_iff hx with h | h
  · have q := L2.lookup_relS_keep (sc := sc) (by decide) h
    exact ⟨.inl q, .inr q⟩
  · have q := L2.lookup_relS_keep (sc := sc) (by decide) h
    exact ⟨.inr q, .inl (by show (scope.names.lookup x == some .cell) = true; rw [h]; rfl)⟩
theorem bnd_ok {α β : Type} {m : M α} {f : α → M β} {s s' : ES} {b : β} (h : bnd m f s = .ok b s') : ∃ a s1, m s = .ok a s1 ∧ f a s1 = .ok b s' := by
  unfold bnd at h
  generalize m s = o at h ⊢
  cases o with
  | ok a s1 => exact ⟨a, s1, rfl, h⟩
  | exc x s1 => cases h
  | bad => cases h
theorem comp_rd {elt : M RE} {et : M Bool} {ei : M (List PV)} {tg : Expr} {scope : Scope} {σ : St} {H : Hp} {Q : VK}
    (h : rdE G xr P W (bnd ei fun xs => compM ((ownOf C scope).map (·.2)) (asgV C scope tg) et elt xs) σ H Q) :
    tLc (rdI G xr P W ei) (rdG G C P scope (asgV C scope tg)) (rdT G xr P (fun _ _ _ _ => False) et) (rdE G xr P (fun _ _ _ _ => False) elt) ((ownOf C scope).map (·.2)) σ H Q := by
  obtain ⟨ρ, s, R0, h⟩ := h
  refine rd_mono (seq R0 h) ?_
  rintro J H1 ⟨xs, ρ1, s1, R1, E1, hJ, h1⟩ D hD
  generalize hown : (ownOf C scope).map (·.2) = own at h1 ⊢
  unfold compM noExc at h1
  cases hgo : compGo own (asgV C scope tg) et elt true xs { s1 with env := wipeE s1.env own } with
  | bad => rw [hgo] at h1; exact h1.elim
  | exc y t => rw [hgo] at h1; exact h1.elim
  | ok tot sE =>
    rw [hgo] at h1
    dsimp only at h1
    by_cases hlim : tot.length ≤ LIM
    rotate_left
    · rw [if_neg hlim] at h1; exact h1.elim
    rw [if_pos hlim] at h1
    obtain ⟨R2, E2⟩ := R1.newHeld (o := .lst []) hD trivial
    obtain ⟨ρw, Rw, Ew, Ow⟩ := wipe_ok R2 own
    have hDw : ρw (.held D) = some D ∧ upd H1 D (.lst []) D = some (.lst []) := ⟨(Ew.held D setN_same).1, upd_same⟩
    refine ⟨fun i m Hc => m = xs.length - i ∧ i ≤ xs.length ∧ ∃ (ρ : Rho) (s : ES) (σc : St) (accP : List PV) (accV : List L2.V) (pvs : List PV),
      Rel G.K G.fa P ρ s σc Hc ∧ wipe σc own = wipe σ own ∧ Le (cut H1 ρ1) (cut Hc ρ) ∧ BoxLe ρ1 ρ ∧ (∀ a, ρ1 (.held a) = some a → ρ (.held a) = some a ∧ Hc a = H1 a) ∧
      ρ (.held D) = some D ∧ Hc D = some (.lst accV) ∧ RVs G.K G.fa ρ (cut Hc ρ) accP accV ∧
      compGo own (asgV C scope tg) et elt true (xs.drop i) s = .ok pvs sE ∧ accP ++ pvs = tot ∧
      ∀ j ∈ own, OldOk G ρ σ Hc j s1.env[j]?, ⟨xs.length, by simp, Nat.zero_le _, ρw, _, _, [], [], tot, Rw, ?_, ?_, ?_, ?_, hDw.1, hDw.2, .nil, hgo, rfl, Ow⟩, ?_⟩
    · apply List.ext_getElem?
      intro i
      have wl : ∀ (τ : St) (vs : List Nat) (j : Nat), j ∈ vs → (wipe τ vs)[j]? = if j < τ.length then some none else none := by
        intro τ vs
        induction vs with
        | nil => intro j h; cases h
        | cons v vs ih =>
          intro j h
          unfold wipe
          by_cases hv : j = v
          · subst hv
            by_cases hl : j < τ.length
            · rw [List.getElem?_set_self (by rw [wipe_length]; exact hl), if_pos hl]
            · rw [List.getElem?_eq_none (by rw [List.length_set, wipe_length]; omega), if_neg hl]
          · rw [List.getElem?_set_ne (Ne.symm hv)]
            exact ih j (by rcases List.mem_cons.mp h with e | e; exact absurd e hv; exact e)
      by_cases hi : i ∈ own
      · rw [wl _ _ _ hi, wl _ _ _ hi, wipe_length]
      · rw [wipe_notin hi]
    · exact fun a o h => Ew.le a o (E2.le a o h)
    · exact fun n a h => Ew.box n a (E2.box n a h)
    · intro a h
      obtain ⟨g1, g2⟩ := E2.held a h
      obtain ⟨g3, g4⟩ := Ew.held a g1
      exact ⟨g3, g2⟩
    rintro i m Hc ⟨rfl, hi, ρc, s, σc, accP, accV, pvs, Rc, hw, le, bl, hh, hD1, hD2, acc, go, htot, old⟩
    by_cases hlt : i < xs.length
    rotate_left
    · have ei : i = xs.length := by omega
      subst ei
      refine .inl ⟨hJ.stop ρc Hc le, ?_⟩
      rw [List.drop_length] at go
      have go' : (Out.ok ([] : List PV) s) = .ok pvs sE := go
      cases go'
      rw [List.append_nil] at htot
      subst htot
      obtain ⟨ρf, Rf, Ef⟩ := back_ok (old := s1.env) Rc own old
      have er : restore σc σ own = σ := restore_eq (by
        have := congrArg List.length hw
        rw [wipe_length, wipe_length] at this; exact this) own fun j hj => by
          have := congrArg (fun l : St => l[j]?) hw
          simp only [wipe_notin hj] at this
          exact this
      rw [er] at Rf
      obtain ⟨Rg, leg, blg, hhg⟩ := Rf.heldTmp (Ef.held D hD1).1
      refine h1 _ _ _ Rg ⟨fun a o h => leg a o (Ef.le a o (le a o h)), fun n a h => blg n a (Ef.box n a (bl n a h)), fun a h => ?_⟩ ?_
      · have hne : a ≠ D := fun z => by subst z; exact R1.notNone hD h
        exact ⟨hhg a hne (Ef.held a (hh a h).1).1, (hh a h).2⟩
      · exact ⟨D, rfl, setN_same, accV, hD2, (acc.mono Ef.le Ef.box).mono leg blg⟩
    · refine .inr ⟨hJ.go i ρc Hc hlt le, fun H' => _, fun H' h => ⟨xs.length - (i + 1), by omega, h⟩, fun V H' y => ?_⟩
      have ed : xs.drop i = xs[i] :: xs.drop (i + 1) := List.drop_eq_getElem_cons hlt
      rw [ed] at go
      unfold compGo at go
      obtain ⟨_, sw, g0, go⟩ := bnd_ok go
      cases g0
      obtain ⟨_, s2, g1, go⟩ := bnd_ok go
      obtain ⟨b, s3, g2, go⟩ := bnd_ok go
      obtain ⟨ρa, Ra, Ea, _⟩ := wipe_ok Rc own
      rw [hw] at Ra
      obtain ⟨v, hv, Rb, Eb, rv⟩ := hJ.yld i P ρa _ _ Hc V H' hlt Ra (fun a o h => Ea.le a o (le a o h)) (fun n a h => Ea.box n a (bl n a h)) y
      have ev : v = xs[i] := by
        rw [List.getElem?_eq_getElem hlt] at hv; exact (Option.some.inj hv).symm
      subst ev
      refine ⟨ρa, _, xs[i], s2, Rb, rv, g1, fun ρb σb Rb' Eb' kb => ?_⟩
      have kw : wipe σb own = wipe σ own := by
        have := keep_wipe (C := C) (scope := scope) (σ := σ) (σ' := σb)
        rw [hown] at this
        exact this kb
      refine ⟨kw, ρb, s2, Rb', ?_⟩
      show rdAt G xr P _ _ ρb (et s2) σb H' _
      rw [g2]
      intro ρd H3 b' Rd Ed eb
      subst eb
      have Ed0 : Ext ρc Hc ρd H3 := ((Ea.trans Eb).trans Eb').trans Ed
      cases b with
      | false =>
        rw [if_neg Bool.false_ne_true]
        rw [if_neg Bool.false_ne_true] at go
        refine ⟨rfl, hlt, ρd, s3, σb, accP, accV, pvs, Rd, kw, fun a o h => Ed0.le a o (le a o h), fun n a h => Ed0.box n a (bl n a h), fun a h => ?_, (Ed0.held D hD1).1, (Ed0.held D hD1).2.trans hD2, acc.mono Ed0.le Ed0.box, go, htot, fun j hj => (old j hj).ext Ed0.le Ed0.box⟩
        obtain ⟨q1, q2⟩ := hh a h
        exact ⟨(Ed0.held a q1).1, (Ed0.held a q1).2.trans q2⟩
      | true =>
        rw [if_pos rfl]
        rw [if_pos rfl] at go
        obtain ⟨r, s4, g3, go⟩ := bnd_ok go
        obtain ⟨u, s5, g4, go⟩ := bnd_ok go
        obtain ⟨us, s6, g5, go⟩ := bnd_ok go
        cases go
        refine ⟨ρd, s3, Rd, ?_⟩
        show rdAt G xr P _ _ ρd (elt s3) σb H3 _
        rw [g3]
        intro ρe H4 Vy Re Ee hy
        obtain ⟨ρf, Rf, Ef, hy2⟩ := Re.hold hy
        obtain ⟨ρg, Rg, Eg, ru⟩ := share_ok Rf hy2 g4
        have E0 : Ext ρc Hc ρg H4 := ((Ed0.trans Ee).trans Ef).trans Eg
        have hD3 := E0.held D hD1
        obtain ⟨Rh, ce, oth⟩ := Rg.updHeld (o := .lst (accV ++ [Vy])) hD3.1 trivial
        refine ⟨accV, hD3.2.trans hD2, ?_, rfl, hlt, ρg, s5, σb, accP ++ [u], accV ++ [Vy], us, Rh, kw, fun a o h => ?_, fun n a h => E0.box n a (bl n a h), fun a h => ?_, hD3.1, upd_same, ?_, g5, ?_, fun j hj => ?_⟩
        · rw [← acc.length, sizeLIM]
          have := congrArg List.length htot
          simp only [List.length_append, List.length_cons] at this
          omega
        · rw [ce]; exact E0.le a o (le a o h)
        · obtain ⟨q1, q2⟩ := hh a h
          have hne : a ≠ D := fun z => by subst z; exact R1.notNone hD h
          exact ⟨(E0.held a q1).1, (oth a hne).trans ((E0.held a q1).2.trans q2)⟩
        · rw [ce]; exact (acc.mono E0.le E0.box).append (.cons ru .nil)
        · rw [List.append_assoc]; exact htot
        · exact (old j hj).ext (fun a o h => by rw [ce]; exact E0.le a o h) E0.box
theorem tests_ok {et : Scope → Expr → M Bool} (c : CxE G C Φ xr sc wr X W)
    (ht : ∀ {sc wr : Scope} {X : Cx} {W : WX}, CxE G C Φ xr sc wr X W → ∀ {P : Hp} (e : Expr), PT X e (rdT G xr P W (et sc e))) {ifs : List Expr} {scope : Scope} :
    ∀ (s : Shared) (H : Hp) (A : Addr) (cl : List (Str × Addr)) (fp : List Addr), PTs (X.blk s H scope (compEnvC scope cl A X.env) fp) ifs (rdT G xr P (fun _ _ _ _ => False) (testsM (et (blkS scope sc)) ifs)) := fun s H A cl fp => by
  match ifs with
  | [] => exact ⟨fun pins s σ H Q I ⟨ρ, t, R0, h⟩ => pts_nil.run pins s σ H Q I (rdRet (b := true) R0 h rfl)⟩
  | [k] => exact pts_one (ht (c.blk (s := s) (H := H) (scope := scope) (cl := cl) (A := A) (fp := fp)) k)
  | _ :: _ :: _ => exact ⟨fun pins s σ H Q I h => by obtain ⟨_, _, _, h⟩ := h; exact h.elim⟩
theorem comp_ok (c : CxE G C Φ xr sc wr X W) {ee : Scope → Expr → M RE} {et : Scope → Expr → M Bool}
    (he : ∀ {sc wr : Scope} {X : Cx} {W : WX}, CxE G C Φ xr sc wr X W → ∀ {P : Hp} (e : Expr), PE X e (rdE G xr P W (ee sc e)))
    (ht : ∀ {sc wr : Scope} {X : Cx} {W : WX}, CxE G C Φ xr sc wr X W → ∀ {P : Hp} (e : Expr), PT X e (rdT G xr P W (et sc e)))
    {elt tg it : Expr} {ifs : List Expr} {scope : Scope} {pos : Pos} (hb : L2.blkC C.N sc scope (ownOf C scope) = true) (hs : isSetE it = false) :
    PE X (.ListComp elt [⟨tg, it, ifs, 0⟩] scope pos) (rdE G xr P W (bnd (evIter C (ee sc) sc tg it) fun xs =>
      compM ((ownOf C scope).map (·.2)) (asgV C scope tg) (testsM (et (blkS scope sc)) ifs) (ee (blkS scope sc) elt) xs)) :=
  (pe_lc (own := ownOf C scope) c.calm c.nd (iter_ok (P := P) c (he c)) (L2.blkOk_by (by rw [c.hN, c.hsc]; exact hb))
    (fun s H A cl fp => asg_ok (P := P) (c.blk (s := s) (H := H) (scope := scope) (cl := cl) (A := A) (fp := fp))) (tests_ok (P := P) c ht (ifs := ifs))
    (fun s H A cl fp => he (c.blk (s := s) (H := H) (scope := scope) (cl := cl) (A := A) (fp := fp)) (P := P) elt) (foldedSet hs)).imp fun σ H Q h => comp_rd h
end
end Ev

set_option linter.all false
set_option maxRecDepth 100000
set_option maxHeartbeats 1000000
/-! Ev.K: every expression and test -/
namespace Ev
open PySem PySem.Spec L2
section
variable {G : Env1} {C : CC} {Φ : Orc} {xr : XR} {sc wr : Scope} {X : Cx} {W : WX} {P : Hp}
theorem truM_ok {ρ ρ' : Rho} {s : ES} {σ : St} {H : Hp} {r : RE} {x : V} {α β : Type} {R' : Rho → St → Hp → α → β → Prop} {f : Bool → M α} {Q : β → Hp → Prop} (R0 : Rel G.K G.fa P ρ' s σ H) (hx : RER G.K G.fa ρ' σ H r.norm x) (hK : X.K = G.K)
    (h : rdAt G xr P R' W ρ (bnd (truM r) f s) σ H Q) : ∃ b, TruV X.K x H b ∧ rdAt G xr P R' W ρ (f b s) σ H Q := by
  unfold bnd truM at h
  split at h
  · rename_i b s' e
    split at e
    · rename_i u hu
      split at e
      · rename_i b' hb
        cases e
        exact ⟨b, tru_pk (R0.peek hx hu) hb hK, h⟩
      · cases e
    · cases e
  · rename_i y s' e
    split at e
    · split at e <;> cases e
    · cases e
  · exact h.elim
/-- a value handed on as it is -/
theorem reRet {ρ : Rho} {s : ES} {σ : St} {H : Hp} {r : RE} {x : V} {Q : VK} (R0 : Rel G.K G.fa P ρ s σ H) (hx : RER G.K G.fa ρ σ H r x) (h : rdAt G xr P (RER G.K G.fa) W ρ (.ok r s) σ H Q) : Q x H := h ρ H x R0 Ext.refl hx
theorem bool_ok (hK : X.K = G.K) {f : Expr → M RE} (hf : ∀ e, PE X e (rdE G xr P W (f e))) {op : BoolOp} {pos : Pos} : ∀ {es : List Expr}, PE X (.BoolOp op es pos) (rdE G xr P W (boolM op f es))
  | [] => bad_ok
  | [e] => pe_one (hf e)
  | e :: e2 :: es => by
    have ih := bool_ok hK hf (op := op) (pos := pos) (es := e2 :: es)
    cases op with
    | And =>
      refine (pe_andT (hf e) ih).imp fun σ H Q ⟨ρ, s, R0, h⟩ => ?_
      refine rd_mono (seq R0 h) ?_
      rintro x H1 ⟨r, ρ1, s1, R1, E1, hx, h1⟩
      obtain ⟨ρ2, R2, E2, hx2⟩ := R1.hold hx
      obtain ⟨b, tb, h2⟩ := truM_ok (X := X) R2 hx2 hK h1
      refine ⟨b, tb, ?_⟩
      cases b with
      | true => rw [if_pos rfl]; exact ⟨ρ2, s1, R2, (show rdAt G xr P _ W ρ1 (boolM .And f (e2 :: es) s1) σ H1 Q from by simpa using h2).shift E2⟩
      | false => rw [if_neg Bool.false_ne_true]; exact reRet R1 hx h2
    | Or =>
      refine (pe_orT (hf e) ih).imp fun σ H Q ⟨ρ, s, R0, h⟩ => ?_
      refine rd_mono (seq R0 h) ?_
      rintro x H1 ⟨r, ρ1, s1, R1, E1, hx, h1⟩
      obtain ⟨ρ2, R2, E2, hx2⟩ := R1.hold hx
      obtain ⟨b, tb, h2⟩ := truM_ok (X := X) R2 hx2 hK h1
      refine ⟨b, tb, ?_⟩
      cases b with
      | false => rw [if_neg Bool.false_ne_true]; exact ⟨ρ2, s1, R2, (show rdAt G xr P _ W ρ1 (boolM .Or f (e2 :: es) s1) σ H1 Q from by simpa using h2).shift E2⟩
      | true => rw [if_pos rfl]; exact reRet R1 hx h2
theorem boolT_ok {f : Expr → M Bool} (hf : ∀ e, PT X e (rdT G xr P W (f e))) {op : BoolOp} {pos : Pos} : ∀ {es : List Expr}, es ≠ [] → PW X (.BoolOp op es pos) (rdT G xr P W (boolT op f es))
  | [], h => absurd rfl h
  | [e], _ => by cases op with | And => exact pw_and1 (hf e) | Or => exact pw_or1 (hf e)
  | e :: e2 :: es, _ => by
    have ih := boolT_ok hf (op := op) (pos := pos) (es := e2 :: es) (by simp)
    cases op with
    | And =>
      refine ⟨fun wh pins s0 σ H Q I h => (pw_and (hf e) ih).run wh pins s0 σ H Q I ?_⟩
      obtain ⟨ρ, s, R0, h⟩ := h
      refine rd_mono (seq R0 h) ?_
      rintro b H1 ⟨r, ρ1, s1, R1, E1, hx, h1⟩
      subst hx
      cases r with
      | true => rw [if_pos rfl]; exact ⟨ρ1, s1, R1, by simpa using h1⟩
      | false => rw [if_neg Bool.false_ne_true]; exact rdRet R1 (by simpa [ret] using h1) rfl
    | Or =>
      refine ⟨fun wh pins s0 σ H Q I h => (pw_or (hf e) ih).run wh pins s0 σ H Q I ?_⟩
      obtain ⟨ρ, s, R0, h⟩ := h
      refine rd_mono (seq R0 h) ?_
      rintro b H1 ⟨r, ρ1, s1, R1, E1, hx, h1⟩
      subst hx
      cases r with
      | false => rw [if_neg Bool.false_ne_true]; exact ⟨ρ1, s1, R1, by simpa using h1⟩
      | true => rw [if_pos rfl]; exact rdRet R1 (by simpa [ret] using h1) rfl
/-- two operands -/
theorem two_ok {ma : M RE} {mb : M RE} {f : PV → PV → Option RE} {r : R2} (K : ∀ {ρ : Rho} {s : ES} {σ : St} {H : Hp} {u v : PV} {z : RE} {x y : V} {Q : VK}, Rel G.K G.fa P ρ s σ H → Pk G.K G.fa ρ H u x → Pk G.K G.fa ρ H v y → f u v = some z →
      rdAt G xr P (RER G.K G.fa) W ρ (.ok z s) σ H Q → r x y H Q) {σ : St} {H : Hp} {Q : VK} (h : rdE G xr P W (bnd ma fun x => bnd mb fun y => lift2 f x y) σ H Q) : tOp r (rdE G xr P W ma) (rdE G xr P W mb) σ H Q := by
  obtain ⟨ρ, s, R0, h⟩ := h
  refine rd_mono (seq R0 h) ?_
  rintro x H1 ⟨ra, ρ1, s1, R1, E1, hx, h1⟩
  obtain ⟨ρ2, R2, E2, hx2⟩ := R1.hold hx
  refine rd_mono (seq R2 (h1.shift E2)) ?_
  rintro y H3 ⟨rb, ρ3, s3, R3, E3, hy, h3⟩
  obtain ⟨ρ4, R4, E4, hy4⟩ := R3.hold hy
  have hx4 := RER.ext E4 (RER.ext E3 hx2)
  obtain ⟨u, v, z, d1, d2, e, h5⟩ := lift2_ok (h3.shift E4)
  exact K R4 (R4.peek hx4 d1) (R4.peek hy4 d2) e h5
theorem sub_ok (hK : X.K = G.K) {ma mb : M RE} {σ : St} {H : Hp} {Q : VK} (h : rdE G xr P W (bnd ma fun x => bnd mb fun y => subM x y) σ H Q) : tOp (rUx X) (rdE G xr P W ma) (rdE G xr P W mb) σ H Q := by
  obtain ⟨ρ, s, R0, h⟩ := h
  refine rd_mono (seq R0 h) ?_
  rintro x H1 ⟨ra, ρ1, s1, R1, E1, hx, h1⟩
  obtain ⟨ρ2, R2, E2, hx2⟩ := R1.hold hx
  refine rd_mono (seq R2 (h1.shift E2)) ?_
  rintro y H3 ⟨rb, ρ3, s3, R3, E3, hy, h3⟩
  obtain ⟨ρ4, R4, E4, hy4⟩ := R3.hold hy
  have hx4 := RER.ext E4 (RER.ext E3 hx2)
  have h5 := h3.shift E4
  unfold subM at h5
  cases e1 : deref s3 ra with
  | none => rw [e1] at h5; exact h5.elim
  | some u =>
    rw [e1] at h5
    cases e2 : deref s3 rb with
    | none => rw [e2] at h5; exact h5.elim
    | some v =>
      rw [e2] at h5
      cases e3 : ixV (unbox s3 u) v with
      | none => simp only [e3] at h5; exact h5.elim
      | some w =>
        simp only [e3] at h5
        exact ix_ok R4 (unbox_pk R4 (R4.peek hx4 e1)) (R4.peek hy4 e2) e3 hK h5
theorem one_ok {ma : M RE} {f : PV → Option RE} {r : V → Hp → VK → Prop} (K : ∀ {ρ : Rho} {s : ES} {σ : St} {H : Hp} {u : PV} {z : RE} {x : V} {Q : VK}, Rel G.K G.fa P ρ s σ H → Pk G.K G.fa ρ H u x → f u = some z →
      rdAt G xr P (RER G.K G.fa) W ρ (.ok z s) σ H Q → r x H Q) {σ : St} {H : Hp} {Q : VK} (h : rdE G xr P W (bnd ma fun x => lift1 f x) σ H Q) : rdE G xr P W ma σ H (fun x H1 => r x H1 Q) := by
  obtain ⟨ρ, s, R0, h⟩ := h
  refine rd_mono (seq R0 h) ?_
  rintro x H1 ⟨ra, ρ1, s1, R1, E1, hx, h1⟩
  obtain ⟨ρ2, R2, E2, hx2⟩ := R1.hold hx
  obtain ⟨u, z, d1, e, h5⟩ := lift1_ok (h1.shift E2)
  exact K R2 (R2.peek hx2 d1) e h5
theorem cmpf {op : CmpOp} {u v : PV} {z : RE} (h : ((cmpV op u v).map fun b => RE.val (.bl b)) = some z) : ∃ b, cmpV op u v = some b ∧ z = .val (.bl b) := by
  simp only [Option.map_eq_some_iff] at h
  obtain ⟨b, h1, h2⟩ := h
  exact ⟨b, h1, h2.symm⟩
theorem cmp1_ok (c : CxE G C Φ xr sc wr X W) {f : Expr → M RE} (hf : ∀ e, PE X e (rdE G xr P W (f e))) {a b : Expr} {op : CmpOp} {pos : Pos} (hm : behindInMarks op b = false) :
    PE X (.Compare a [op] [b] pos) (rdE G xr P W (bnd (f a) fun r => bnd (f b) fun r' => cmpM op r r')) :=
  (pe_cmpR (op_U (f := compareOp op)) (hf a) (hf b) hm).imp fun σ H Q h => two_ok (f := fun u v => (cmpV op u v).map fun b => .val (.bl b)) (fun R0 hu hv e h => by
    obtain ⟨b, e1, e2⟩ := cmpf e
    subst e2
    exact cmp_ok R0 hu hv e1 c.hK c.units (fin R0 h (.bl b))) h
theorem asBool_ok {ρ : Rho} {s : ES} {σ : St} {H : Hp} {r : RE} {α β : Type} {R' : Rho → St → Hp → α → β → Prop} {f : Bool → M α} {Q : β → Hp → Prop} (h : rdAt G xr P R' W ρ (bnd (asBool r) f s) σ H Q) : ∃ b, r = .val (.bl b) ∧ rdAt G xr P R' W ρ (f b s) σ H Q := by
  unfold bnd asBool at h
  split at h
  · rename_i b s' e
    split at e
    · cases e; exact ⟨b, rfl, h⟩
    · cases e
  · rename_i y s' e
    split at e <;> cases e
  · exact h.elim
theorem chain_rd (c : CxE G C Φ xr sc wr X W) {ma mb md : M RE} {op op' : CmpOp} {σ : St} {H : Hp} {Q : VK}
    (h : rdE G xr P W (bnd ma fun r => bnd mb fun r' => bnd (cmpM op r r') fun x => bnd (asBool x) fun k => if k then bnd md fun r'' => cmpM op' r' r'' else ret (.val (.bl false))) σ H Q) :
    tChain (rU X (compareOp op)) (rU X (compareOp op')) (rdE G xr P W ma) (rdE G xr P W mb) (rdE G xr P W md) σ H Q := by
  obtain ⟨ρ, s, R0, h⟩ := h
  refine rd_mono (seq R0 h) ?_
  rintro x H1 ⟨ra, ρ1, s1, R1, E1, hx, h1⟩
  obtain ⟨ρ2, R2, E2, hx2⟩ := R1.hold hx
  refine rd_mono (seq R2 (h1.shift E2)) ?_
  rintro y H3 ⟨rb, ρ3, s3, R3, E3, hy, h3⟩
  obtain ⟨ρ4, R4, E4, hy4⟩ := R3.hold hy
  have hx4 := RER.ext E4 (RER.ext E3 hx2)
  have h4 := h3.shift E4
  rcases seq0 h4 with ⟨z, s5, ez, h5⟩ | ⟨z, s5, ez⟩
  rotate_left
  · unfold cmpM lift2 at ez
    split at ez
    · split at ez
      · split at ez <;> cases ez
      · cases ez
    · cases ez
  unfold cmpM lift2 at ez
  split at ez
  rotate_left
  · cases ez
  rename_i u hu
  split at ez
  rotate_left
  · cases ez
  rename_i v hv
  split at ez
  rotate_left
  · cases ez
  rename_i w hw
  obtain ⟨b1, e1, e2⟩ := cmpf hw
  subst e2
  cases ez
  obtain ⟨b2, e3, h6⟩ := asBool_ok h5
  cases e3
  refine cmp_ok R4 (R4.peek hx4 hu) (R4.peek hy4 hv) e1 c.hK c.units ⟨b1, rfl, ?_⟩
  cases b1 with
  | false =>
    rw [if_neg Bool.false_ne_true]
    rw [if_neg Bool.false_ne_true] at h6
    exact fin R4 h6 (.bl false)
  | true =>
    rw [if_pos rfl]
    rw [if_pos rfl] at h6
    refine rd_mono (seq R4 h6) ?_
    rintro y' H7 ⟨rc, ρ7, s7, R7, E7, hy7, h7⟩
    obtain ⟨ρ8, R8, E8, hy8⟩ := R7.hold hy7
    have hb8 := RER.ext E8 (RER.ext E7 hy4)
    unfold cmpM at h7
    obtain ⟨u', v', z', d1, d2, e, h9⟩ := lift2_ok (h7.shift E8)
    obtain ⟨b9, e9, e10⟩ := cmpf e
    subst e10
    exact cmp_ok R8 (R8.peek hb8 d1) (R8.peek hy8 d2) e9 c.hK c.units (fin R8 h9 (.bl b9))
theorem chain_ok (c : CxE G C Φ xr sc wr X W) {f : Expr → M RE} (hf : ∀ e, PE X e (rdE G xr P W (f e))) {a b d : Expr} {op op' : CmpOp} {pos : Pos} (hm : lastMarks [op, op'] [b, d] = false) :
    PE X (.Compare a [op, op'] [b, d] pos) (rdE G xr P W (bnd (f a) fun r => bnd (f b) fun r' => bnd (cmpM op r r') fun x => bnd (asBool x) fun k => if k then bnd (f d) fun r'' => cmpM op' r' r'' else ret (.val (.bl false)))) :=
  (pe_chain (op_U (f := compareOp op)) (op_U (f := compareOp op')) (hf a) (hf b) (hf d) hm).imp fun σ H Q h => chain_rd c h
theorem cmp1_rd (c : CxE G C Φ xr sc wr X W) {ma mb : M RE} {op : CmpOp} {σ : St} {H : Hp} {Q : VK} (h : rdE G xr P W (bnd ma fun r => bnd mb fun r' => cmpM op r r') σ H Q) :
    tOp (rU X (compareOp op)) (rdE G xr P W ma) (rdE G xr P W mb) σ H Q := two_ok (f := fun u v => (cmpV op u v).map fun b => .val (.bl b)) (fun R0 hu hv e h => by
    obtain ⟨b, e1, e2⟩ := cmpf e
    subst e2
    exact cmp_ok R0 hu hv e1 c.hK c.units (fin R0 h (.bl b))) h
/-! ### displays -/
theorem tup_ok {f : Expr → M RE} (hf : ∀ e, PE X e (rdE G xr P W (f e))) {es : List Expr} {k : Nat} {pos : Pos} :
    PE X (.Tuple es k pos) (rdE G xr P W (bnd (evList f es) fun rs => bnd (shares rs) fun vs => if vs.length ≤ LIM then ret (.val (.tup vs)) else bad)) := by
  refine (pe_tup (args_ok (P := P) hf)).imp fun σ H Q ⟨ρ, s, R0, h⟩ => ?_
  refine rd_mono (seq R0 h) ?_
  rintro xs H1 ⟨rs, ρ1, s1, R1, E1, hx, h1⟩
  obtain ⟨vs, s2, ρ2, R2, E2, q2, h2⟩ := seqShares R1 hx h1
  split at h2
  · rename_i hl
    exact ⟨by rw [sizeLIM, ← q2.length]; exact hl, fun p hp => finT R2 h2 q2 hp⟩
  · exact h2.elim
theorem lst_ok {f : Expr → M RE} (hf : ∀ e, PE X e (rdE G xr P W (f e))) {es : List Expr} {pos : Pos} :
    PE X (.List es pos) (rdE G xr P W (bnd (evList f es) fun rs => bnd (shares rs) fun vs => if vs.length ≤ LIM then ret (.fresh (.lst vs)) else bad)) := by
  refine (pe_lst (args_ok (P := P) hf)).imp fun σ H Q ⟨ρ, s, R0, h⟩ => ?_
  refine rd_mono (seq R0 h) ?_
  rintro xs H1 ⟨rs, ρ1, s1, R1, E1, hx, h1⟩
  obtain ⟨vs, s2, ρ2, R2, E2, q2, h2⟩ := seqShares R1 hx h1
  split at h2
  · rename_i hl
    exact ⟨by rw [sizeLIM, ← q2.length]; exact hl, fun p hp => finL R2 h2 q2 hp⟩
  · exact h2.elim
/-! ### slices -/
theorem part_ok {f : Expr → M RE} (hf : ∀ e, PE X e (rdE G xr P W (f e))) : ∀ {o : Option Expr}, PO X o (rd G xr P (fun _ _ _ a b => a = b) W (partM f o))
  | none => ⟨fun pins s0 σ H Q I ⟨ρ, s, R0, h⟩ => po_none.run pins s0 σ H Q I (rdRet R0 h rfl)⟩
  | some e => ⟨fun pins s0 σ H Q I ⟨ρ, s, R0, h⟩ => (po_some (hf e)).run pins s0 σ H Q I (by
    refine rd_mono (seq R0 h) ?_
    rintro x H1 ⟨r, ρ1, s1, R1, E1, hx, h1⟩
    obtain ⟨ρ2, R2, E2, hx2⟩ := R1.hold hx
    have h2 := h1.shift E2
    split at h2
    · rename_i i hd
      cases (R2.peek hx2 hd).int
      exact ⟨i, rfl, rdRet R2 h2 rfl⟩
    · exact h2.elim)⟩
theorem slice_ok (c : CxE G C Φ xr sc wr X W) {f : Expr → M RE} (hf : ∀ e, PE X e (rdE G xr P W (f e))) {a : Expr} {lo hi : Option Expr} {p2 pos : Pos} :
    PE X (.Subscript a (.Slice lo hi none p2) pos) (rdE G xr P W (bnd (f a) fun r => bnd (partM f lo) fun l => bnd (partM f hi) fun h => lift1 (fun v => slV v l h) r)) := by
  refine (pe_slice sl_U (hf a) (part_ok (P := P) hf) (part_ok (P := P) hf)).imp fun σ H Q ⟨ρ, s, R0, h⟩ => ?_
  refine rd_mono (seq R0 h) ?_
  rintro x H1 ⟨r, ρ1, s1, R1, E1, hx, h1⟩
  obtain ⟨ρ2, R2, E2, hx2⟩ := R1.hold hx
  refine rd_mono (seq R2 (h1.shift E2)) ?_
  rintro l H3 ⟨l', ρ3, s3, R3, E3, e3, h3⟩
  subst e3
  refine rd_mono (seq R3 h3) ?_
  rintro u H4 ⟨u', ρ4, s4, R4, E4, e4, h4⟩
  subst e4
  obtain ⟨v, z, d, e, h5⟩ := lift1_ok h4
  exact sl_ok R4 (R4.peek (RER.ext E4 (RER.ext E3 hx2)) d) e c.hK h5
theorem plainIx {b : Expr} (h : isSliceN b = false) : PlainIx b := by
  intro o i
  cases b <;> first | rfl | cases h
/-! ### built-in functions -/
theorem derefs_ok {ρ : Rho} {s : ES} {σ : St} {H : Hp} (R0 : Rel G.K G.fa P ρ s σ H) : ∀ {rs : List RE} {xs : List V} {us : List PV}, RERs G.K G.fa ρ σ H rs xs → derefs s rs = some us → Pks G.K G.fa ρ H us xs
  | [], [], us, _, h => by cases h; trivial
  | [], _ :: _, _, h, _ => h.elim
  | _ :: _, [], _, h, _ => h.elim
  | r :: rs, x :: xs, us, ⟨hx, hxs⟩, h => by
    unfold derefs at h
    split at h
    · cases h
    · rename_i v hv
      simp only [Option.map_eq_some_iff] at h
      obtain ⟨ws, e1, e2⟩ := h
      subst e2
      exact ⟨R0.peek hx hv, derefs_ok R0 hxs e1⟩
theorem biOf_ok {x : Str} {b : Bi} (h : biOf x = some b) : bootBuiltins x = some b.value ∧ x ∈ biNames ∧ x ≠ "__name__" ∧ (x == ("__debug__" : Str)) = false := by
  unfold biOf at h
  repeat (split at h; (rename_i e; subst e; cases h; decide +kernel))
  cases h
theorem bi_call (c : CxE G C Φ xr sc wr X W) {f : Expr → M RE} (hf : ∀ e, PE X e (rdE G xr P W (f e))) {x : Str} {b : Bi} {p pos : Pos} {e : Expr} {es : List Expr} (hg : isGl sc x = true) (hl : C.glob.lookup x = none) (hb : biOf x = some b) (all : (e :: es).all notStar = true) :
    PE X (.Call (.Name x p) (e :: es) [] pos) (rdE G xr P W (bnd (evList f (e :: es)) fun rs => liftN (biV b) rs)) := by
  obtain ⟨h1, h2, h3, h4⟩ := biOf_ok hb
  have hm := c.g.bi x h2 hl
  simp only [List.all_cons, Bool.and_eq_true] at all
  have body : ∀ {σ : St} {H : Hp} {Q : VK}, rdE G xr P W (bnd (evList f (e :: es)) fun rs => liftN (biV b) rs) σ H Q → rdA G xr P W (evList f (e :: es)) σ H (fun xs H1 => rUc X b.value xs H1 Q) := fun {σ H Q} ⟨ρ, s, R0, h⟩ => by
    refine rd_mono (seq R0 h) ?_
    rintro xs H1 ⟨rs, ρ1, s1, R1, E1, hx, h1⟩
    unfold liftN at h1
    split at h1
    · rename_i us hu
      split at h1
      · rename_i z hz
        exact bi_ok R1 (derefs_ok R1 hx hu) hz c.hK c.calm c.gd h1
      · exact h1.elim
    · exact h1.elim
  cases hty : b.isTy with
  | true =>
    have hv : b.value = .type b.nm := by unfold Bi.value; rw [hty]; rfl
    refine (pe_callTy (T := b.nm) (call_U (f := .type b.nm)) (c.gl hg) hm (by rw [h1, hv]) (args_ok (P := P) hf) h3 h4 (starEach_plain all.1) (plain_of all.2)).imp fun σ H Q h => ?_
    have := body h
    rw [hv] at this
    exact this
  | false =>
    have hv : b.value = .builtin b.nm := by unfold Bi.value; rw [hty]; rfl
    refine (pe_callB (id := b.nm) (call_U (f := .builtin b.nm)) (c.gl hg) hm (by rw [h1, hv]) (args_ok (P := P) hf) h3 h4 (starEach_plain all.1) (plain_of all.2)).imp fun σ H Q h => ?_
    have := body h
    rw [hv] at this
    exact this
theorem instTy_ok {t : Str} (h : instTy t = true) : (∃ n : String, bootBuiltins t = some (.type n)) ∧ t ∈ biNames ∧ t ≠ "__name__" ∧ (t == ("__debug__" : Str)) = false := by
  unfold instTy at h
  simp only [Bool.or_eq_true, decide_eq_true_eq] at h
  rcases h with (((h | h) | h) | h) | h <;> subst h
  · exact ⟨⟨"int", by decide +kernel⟩, by decide +kernel⟩
  · exact ⟨⟨"bool", by decide +kernel⟩, by decide +kernel⟩
  · exact ⟨⟨"tuple", by decide +kernel⟩, by decide +kernel⟩
  · exact ⟨⟨"str", by decide +kernel⟩, by decide +kernel⟩
  · exact ⟨⟨"list", by decide +kernel⟩, by decide +kernel⟩
theorem isi_call (c : CxE G C Φ xr sc wr X W) {f : Expr → M RE} (hf : ∀ e, PE X e (rdE G xr P W (f e))) {a : Expr} {t : Str} {p p2 pos : Pos} (hg : isGl sc ("isinstance" : Str) = true) (hl : C.glob.lookup ("isinstance" : Str) = none) (hn : notStar a = true) (hit : instTy t = true) (hgt : isGl sc t = true) (hlt : C.glob.lookup t = none) :
    PE X (.Call (.Name "isinstance" p) [a, .Name t p2] [] pos) (rdE G xr P W (bnd (f a) fun r => lift1 (fun v => (isInst v t).map fun b => .val (.bl b)) r)) := by
  obtain ⟨⟨n, hn1⟩, n1, n2, n3⟩ := instTy_ok hit
  have hm := c.g.bi ("isinstance" : Str) (by decide +kernel) hl
  have hmt := c.g.bi t n1 hlt
  refine (pe_callB (id := "isinstance") call_U (c.gl hg) hm (by decide +kernel) (pa_cons (hf a) (pa_cons (pe_bltn (v := .ty n) (c.gl hgt) hmt hn1 rfl n2 n3) pa_nil) (starEach_plain hn)) (by decide +kernel) (by decide +kernel) (starEach_plain hn) (plain_of rfl)).imp fun σ H Q h => ?_
  exact one_ok (r := fun x H Q => rUc X (.builtin "isinstance") [x, .ty n] H Q) (fun {ρ s σ H u z x Q} R0 hu e h => by
      simp only [Option.map_eq_some_iff] at e
      obtain ⟨b, e1, e2⟩ := e
      subst e2
      obtain ⟨n', q1, q2⟩ := isi_ok (X := X) R0 hu e1 c.hK (fin R0 h (.bl b))
      rw [hn1] at q1
      cases q1
      exact q2) h
/-! ### methods of an own list -/
theorem own_at {ρ : Rho} {s : ES} {σ : St} {H : Hp} {i : Nat} {xs : List PV} (R0 : Rel G.K G.fa P ρ s σ H) (h : s.env[i]? = some (.own (.lst xs))) :
    ∃ a vs, ρ (.slot i) = some a ∧ σ[i]? = some (some (V.ref a)) ∧ H a = some (.lst vs) ∧ RVs G.K G.fa ρ (cut H ρ) xs vs := by
  have q := R0.slot i
  rw [h] at q
  obtain ⟨a, h1, h2, vs, h3, h4⟩ := q
  exact ⟨a, vs, h1, h2, h3, h4⟩
theorem chkL_ok {ρ : Rho} {s : ES} {σ : St} {H : Hp} {i : Nat} {α β : Type} {R' : Rho → St → Hp → α → β → Prop} {f : Unit → M α} {Q : β → Hp → Prop} (h : rdAt G xr P R' W ρ (bnd (chkL i) f s) σ H Q) : (∃ xs, s.env[i]? = some (.own (.lst xs))) ∧ rdAt G xr P R' W ρ (f () s) σ H Q := by
  unfold bnd chkL at h
  split at h
  · rename_i u s' e
    split at e
    · rename_i xs hx
      cases e
      exact ⟨⟨xs, hx⟩, h⟩
    · cases e
  · rename_i y s' e
    split at e <;> cases e
  · exact h.elim
theorem append_ok (c : CxE G C Φ xr sc wr X W) {f : Expr → M RE} (hf : ∀ e, PE X e (rdE G xr P W (f e))) {x : Str} {i : Nat} {p apos pos : Pos} {e : Expr} (hv : isVis sc x = true) (hi : C.N.idxOf? x = some i) (hn : notStar e = true) (hline : (apos.endLine == pos.line) = true) :
    PE X (.Call (.Attribute (.Name x p) "append" apos) [e] [] pos) (rdE G xr P W (bnd (chkL i) fun _ => bnd (f e) fun r => bnd (share r) fun v => appendM i v)) := by
  obtain ⟨d1, d2⟩ := c.g.loc x i hi
  refine (pe_bm PySem.F.plainAttrs_list PySem.F.slot_list_append PySem.F.type_list_append mt_append (pe_var (i := i) (by rw [c.hN]; exact idx_get hi) (by rw [c.hsc]; exact isVis_iff hv) d1 d2) (pa_cons (hf e) pa_nil (starEach_plain hn)) rfl (by rw [starEach_plain hn]; rfl) hline (starEach_plain hn) (plain_of rfl)).imp fun σ H Q ⟨ρ, s, R0, h⟩ => ?_
  obtain ⟨⟨xs, hx⟩, h1⟩ := chkL_ok h
  obtain ⟨a, vs, e1, e2, e3, e4⟩ := own_at R0 hx
  refine ⟨_, e2, .inl ⟨rfl, _, SqL.of e3⟩, ?_⟩
  refine rd_mono (seq R0 h1) ?_
  rintro y H1 ⟨r, ρ1, s1, R1, E1, hy, h2⟩
  obtain ⟨ρ2, R2, E2, hy2⟩ := R1.hold hy
  obtain ⟨v, s3, ρ3, R3, E3, rv, h3⟩ := seqShare R2 hy2 (h2.shift E2)
  unfold appendM at h3
  split at h3
  · rename_i ys hys
    split at h3
    · rename_i hlim
      obtain ⟨b, ws, b1, b2, b3, b4⟩ := own_at R3 hys
      rw [e2] at b2
      cases b2
      obtain ⟨R4, E4⟩ := R3.updOwn (c' := .lst (ys ++ [v])) (o := .lst (ws ++ [y])) b1 e2 ⟨_, rfl, b4.append (.cons rv .nil)⟩
      exact ⟨a, ws, y, rfl, rfl, b3, by rw [sizeLIM, ← b4.length]; exact hlim, h3 _ _ _ R4 E4 .non⟩
    · exact h3.elim
  · exact h3.elim
theorem pop_ok (c : CxE G C Φ xr sc wr X W) {x : Str} {i : Nat} {p apos pos : Pos} (hv : isVis sc x = true) (hi : C.N.idxOf? x = some i) (hline : (apos.endLine == pos.line) = true) :
    PE X (.Call (.Attribute (.Name x p) "pop" apos) [] [] pos) (rdE G xr P W (popM i)) := by
  obtain ⟨d1, d2⟩ := c.g.loc x i hi
  refine (pe_bm0 PySem.F.plainAttrs_list PySem.F.slot_list_pop PySem.F.type_list_pop mt_pop (pe_var (i := i) (by rw [c.hN]; exact idx_get hi) (by rw [c.hsc]; exact isVis_iff hv) d1 d2) rfl hline).imp fun σ H Q ⟨ρ, s, R0, h⟩ => ?_
  unfold popM at h
  split at h
  · rename_i ys hys
    obtain ⟨a, ws, b1, b2, b3, b4⟩ := own_at R0 hys
    split at h
    · rename_i v hv
      obtain ⟨y, hy, ry⟩ := b4.get hv
      have hd : RVs G.K G.fa ρ (cut H ρ) ys.dropLast ws.dropLast := by
        rw [List.dropLast_eq_take, List.dropLast_eq_take, ← b4.length]
        exact b4.take _
      obtain ⟨R4, E4⟩ := R0.updOwn (c' := .lst ys.dropLast) (o := .lst ws.dropLast) b1 b2 ⟨_, rfl, hd⟩
      exact ⟨_, b2, .inl ⟨rfl, _, SqL.of b3⟩, a, ws, y, rfl, rfl, b3, by rw [← b4.length]; exact hy, h _ _ _ R4 E4 (ry.mono E4.le E4.box)⟩
    · exact h.elim
  · exact h.elim
theorem RVs.eraseIdx {T : Hp} {ρ : Rho} : ∀ {xs : List PV} {vs : List V} (i : Nat), RVs G.K G.fa ρ T xs vs → RVs G.K G.fa ρ T (xs.eraseIdx i) (vs.eraseIdx i)
  | _, _, _, .nil => .nil
  | _, _, 0, .cons _ t => t
  | _, _, i + 1, .cons h t => .cons h (RVs.eraseIdx i t)
theorem popAt_ok (c : CxE G C Φ xr sc wr X W) {f : Expr → M RE} (hf : ∀ e, PE X e (rdE G xr P W (f e))) {x : Str} {i : Nat} {p apos pos : Pos} {e : Expr} (hv : isVis sc x = true) (hi : C.N.idxOf? x = some i) (hn : notStar e = true) (hline : (apos.endLine == pos.line) = true) :
    PE X (.Call (.Attribute (.Name x p) "pop" apos) [e] [] pos) (rdE G xr P W (bnd (chkL i) fun _ => bnd (f e) fun r => popAtM i r)) := by
  obtain ⟨d1, d2⟩ := c.g.loc x i hi
  refine (pe_bm PySem.F.plainAttrs_list PySem.F.slot_list_pop PySem.F.type_list_pop mt_popAt (pe_var (i := i) (by rw [c.hN]; exact idx_get hi) (by rw [c.hsc]; exact isVis_iff hv) d1 d2) (pa_cons (hf e) pa_nil (starEach_plain hn)) rfl (by rw [starEach_plain hn]; rfl) hline (starEach_plain hn) (plain_of rfl)).imp fun σ H Q ⟨ρ, s, R0, h⟩ => ?_
  obtain ⟨⟨xs, hx⟩, h1⟩ := chkL_ok h
  obtain ⟨a, vs, e1, e2, e3, e4⟩ := own_at R0 hx
  refine ⟨_, e2, .inl ⟨rfl, _, SqL.of e3⟩, ?_⟩
  refine rd_mono (seq R0 h1) ?_
  rintro y H1 ⟨r, ρ1, s1, R1, E1, hy, h2⟩
  obtain ⟨ρ2, R2, E2, hy2⟩ := R1.hold hy
  have h3 := h2.shift E2
  unfold popAtM at h3
  split at h3
  · rename_i ys hys
    split at h3
    · rename_i k hk
      split at h3
      · rename_i hb
        simp only [Bool.and_eq_true, decide_eq_true_eq] at hb
        split at h3
        · rename_i j hj
          split at h3
          · rename_i v hv'
            obtain ⟨b, ws, b1, b2, b3, b4⟩ := own_at R2 hys
            rw [e2] at b2
            cases b2
            cases (R2.peek hy2 hk).int
            obtain ⟨z, hz, rz⟩ := b4.get hv'
            obtain ⟨R4, E4⟩ := R2.updOwn (c' := .lst (ys.eraseIdx j)) (o := .lst (ws.eraseIdx j)) b1 e2 ⟨_, rfl, RVs.eraseIdx j b4⟩
            exact ⟨a, ws, k, j, z, rfl, rfl, b3, hb.1, hb.2, by rw [← b4.length]; exact hj, hz, h3 _ _ _ R4 E4 (rz.mono E4.le E4.box)⟩
          · exact h3.elim
        · exact h3.elim
      · exact h3.elim
    · exact h3.elim
  · exact h3.elim
end
end Ev

set_option linter.all false
set_option maxRecDepth 100000
set_option maxHeartbeats 1000000
/-! Ev.L: the step, and by induction every expression and test -/
namespace Ev
open PySem PySem.Spec L2
section
variable {G : Env1} {C : CC} {Φ : Orc} {xr : XR} {sc wr : Scope} {X : Cx} {W : WX} {P : Hp}
abbrev SoundE (G : Env1) (C : CC) (Φ : Orc) (xr : XR) (ee : Scope → Expr → M RE) : Prop := ∀ {sc wr : Scope} {X : Cx} {W : WX}, CxE G C Φ xr sc wr X W → ∀ {P : Hp} (e : Expr), PE X e (rdE G xr P W (ee sc e))
abbrev SoundT (G : Env1) (C : CC) (Φ : Orc) (xr : XR) (et : Scope → Expr → M Bool) : Prop := ∀ {sc wr : Scope} {X : Cx} {W : WX}, CxE G C Φ xr sc wr X W → ∀ {P : Hp} (e : Expr), PT X e (rdT G xr P W (et sc e))
theorem callE_ok (c : CxE G C Φ xr sc wr X W) {f : Expr → M RE} (hf : ∀ e, PE X e (rdE G xr P W (f e))) {x : Str} {p pos : Pos} {es : List Expr} : PE X (.Call (.Name x p) es [] pos) (rdE G xr P W (callE C Φ f sc x es)) := by
  unfold callE
  by_cases hg : isGl sc x = true
  · rw [if_pos hg]
    cases hl : C.glob.lookup x with
    | some g =>
      cases g with
      | const v => exact bad_ok
      | fn n =>
        dsimp only
        by_cases ha : es.all notStar = true
        · rw [if_pos ha]; exact call_ok c hf hg hl ha
        · rw [if_neg ha]; exact bad_ok
    | none =>
      dsimp only
      by_cases hi : x = ("isinstance" : Str)
      · rw [if_pos hi]
        subst hi
        split
        · rename_i a t p2
          by_cases hc : (notStar a && instTy t && isGl sc t && (C.glob.lookup t).isNone) = true
          · rw [if_pos hc]
            simp only [Bool.and_eq_true, Option.isNone_iff_eq_none] at hc
            exact isi_call c hf hg hl hc.1.1.1 hc.1.1.2 hc.1.2 hc.2
          · rw [if_neg hc]; exact bad_ok
        · exact bad_ok
      · rw [if_neg hi]
        cases hb : biOf x with
        | none => exact bad_ok
        | some b =>
          dsimp only
          cases es with
          | nil => exact bad_ok
          | cons e es =>
            dsimp only
            by_cases ha : (e :: es).all notStar = true
            · rw [if_pos ha]; exact bi_call c hf hg hl hb ha
            · rw [if_neg ha]; exact bad_ok
  · rw [if_neg hg]; exact bad_ok
theorem methE_ok (c : CxE G C Φ xr sc wr X W) {f : Expr → M RE} (hf : ∀ e, PE X e (rdE G xr P W (f e))) {x m : Str} {p apos pos : Pos} {es : List Expr} :
    PE X (.Call (.Attribute (.Name x p) m apos) es [] pos) (rdE G xr P W (methE C f sc x m es (apos.endLine == pos.line))) := by
  unfold methE
  by_cases h : ((apos.endLine == pos.line) && isVis sc x) = true
  · rw [if_pos h]
    simp only [Bool.and_eq_true] at h
    cases hi : C.N.idxOf? x with
    | none => exact bad_ok
    | some i =>
      dsimp only
      by_cases h1 : m = ("append" : Str)
      · rw [if_pos h1]
        subst h1
        rcases es with _ | ⟨a, _ | ⟨b, es⟩⟩
        · exact bad_ok
        · dsimp only
          by_cases hn : notStar a = true
          · rw [if_pos hn]; exact append_ok c hf h.2 hi hn h.1
          · rw [if_neg hn]; exact bad_ok
        · exact bad_ok
      · rw [if_neg h1]
        by_cases h2 : m = ("pop" : Str)
        · rw [if_pos h2]
          subst h2
          rcases es with _ | ⟨a, _ | ⟨b, es⟩⟩
          · exact pop_ok c h.2 hi h.1
          · dsimp only
            by_cases hn : notStar a = true
            · rw [if_pos hn]; exact popAt_ok c hf h.2 hi hn h.1
            · rw [if_neg hn]; exact bad_ok
          · exact bad_ok
        · rw [if_neg h2]; exact bad_ok
  · rw [if_neg h]; exact bad_ok
theorem neg_ok {ρ : Rho} {s : ES} {σ : St} {H : Hp} {u : PV} {z : RE} {x : V} {Q : VK} (R0 : Rel G.K G.fa P ρ s σ H) (hu : Pk G.K G.fa ρ H u x) (hf : negV u = some z) (h : rdAt G xr P (RER G.K G.fa) W ρ (.ok z s) σ H Q) : L2.rU (fun i => V.int (-i)) x H Q := by
  unfold negV at hf
  split at hf
  · cases hf; cases hu.int; exact ⟨_, rfl, fin R0 h (.int _)⟩
  · cases hf
theorem stepE_ok {ee : Scope → Expr → M RE} {et : Scope → Expr → M Bool} (he : SoundE G C Φ xr ee) (ht : SoundT G C Φ xr et) : SoundE G C Φ xr (stepE C Φ ee et) := by
  intro sc wr X W c P e
  have hf : ∀ e, PE X e (rdE G xr P W (ee sc e)) := fun e => he c e
  have hg : ∀ e, PT X e (rdT G xr P W (et sc e)) := fun e => ht c e
  cases e with
  | Constant k j p => exact const_ok
  | Name x p => exact name_ok c
  | BinOp a op b p =>
    exact (pe_op (op_U (f := binaryOp op)) (hf a) (hf b)).imp fun σ H Q h => two_ok (fun R0 hu hv e h => bin_ok R0 hu hv e c.hK h) h
  | UnaryOp op a p =>
    cases op with
    | USub => exact (pe_un un_neg (hf a)).imp fun σ H Q h => one_ok (fun R0 hu e h => neg_ok R0 hu e h) h
    | Not =>
      refine (pe_notT (hf a)).imp fun σ H Q ⟨ρ, s, R0, h⟩ => ?_
      refine rd_mono (seq R0 h) ?_
      rintro x H1 ⟨r, ρ1, s1, R1, E1, hx, h1⟩
      obtain ⟨ρ2, R2, E2, hx2⟩ := R1.hold hx
      obtain ⟨b, tb, h2⟩ := truM_ok (X := X) R2 hx2 c.hK h1
      exact ⟨b, tb, fin R1 h2 (.bl _)⟩
    | _ => exact bad_ok
  | BoolOp op vs p => exact bool_ok c.hK hf
  | IfExp t a b p =>
    refine (pe_ifExp (hg t) (hf a) (hf b)).imp fun σ H Q ⟨ρ, s, R0, h⟩ => ?_
    refine rd_mono (seq R0 h) ?_
    rintro k H1 ⟨k', ρ1, s1, R1, E1, ek, h1⟩
    subst ek
    cases k' with
    | true => rw [if_pos rfl]; exact ⟨ρ1, s1, R1, by simpa using h1⟩
    | false => rw [if_neg Bool.false_ne_true]; exact ⟨ρ1, s1, R1, by simpa using h1⟩
  | Tuple es k p => exact tup_ok hf
  | List es p => exact lst_ok hf
  | Compare a ops bs p =>
    rcases ops with _ | ⟨op, _ | ⟨op', _ | ⟨o3, ops⟩⟩⟩
    · exact bad_ok
    · rcases bs with _ | ⟨b, _ | ⟨d, bs⟩⟩
      · exact bad_ok
      · show PE X _ (rdE G xr P W (if marks op b then bad else _))
        by_cases hm : marks op b = true
        · rw [if_pos hm]; exact bad_ok
        · rw [if_neg hm]; exact cmp1_ok c hf (Bool.eq_false_iff.mpr hm)
      · exact bad_ok
    · rcases bs with _ | ⟨b, _ | ⟨d, _ | ⟨d2, bs⟩⟩⟩
      · exact bad_ok
      · exact bad_ok
      · show PE X _ (rdE G xr P W (if lastMarks [op, op'] [b, d] then bad else _))
        by_cases hm : lastMarks [op, op'] [b, d] = true
        · rw [if_pos hm]; exact bad_ok
        · rw [if_neg hm]; exact chain_ok c hf (Bool.eq_false_iff.mpr hm)
      · exact bad_ok
    · exact bad_ok
  | Subscript a b p =>
    by_cases hb : isSliceN b = true
    · cases b with
      | Slice lo hi st p2 =>
        cases st with
        | none => exact slice_ok c hf
        | some st =>
          show PE X _ (rdE G xr P W (if isRev lo hi (some st) then bnd (ee sc a) fun r => lift1 revV r else bad))
          by_cases hr : isRev lo hi (some st) = true
          · rw [if_pos hr]
            unfold isRev at hr
            split at hr
            · rename_i e3
              cases e3
              exact (pe_rev (hf a)).imp fun σ H Q h => one_ok (r := rRev X.K) (fun R0 hu e h => rev_ok R0 hu e c.hK h) h
            · cases hr
          · rw [if_neg hr]; exact bad_ok
      | _ => cases hb
    · have hb' : isSliceN b = false := Bool.eq_false_iff.mpr hb
      have e1 : stepE C Φ ee et sc (.Subscript a b p) = bnd (ee sc a) fun r => bnd (ee sc b) fun r' => subM r r' := by
        cases b <;> first | rfl | cases hb'
      rw [e1]
      exact (pe_ix ix_U (hf a) (hf b) (plainIx hb')).imp fun σ H Q h => sub_ok c.hK h
  | ListComp e gens scope p =>
    rcases gens with _ | ⟨⟨tg, it, ifs, isa⟩, _ | ⟨g2, gens⟩⟩
    · exact bad_ok
    · show PE X _ (rdE G xr P W (if isa == 0 && L2.blkC C.N sc scope (ownOf C scope) then _ else bad))
      by_cases hc : (isa == 0 && L2.blkC C.N sc scope (ownOf C scope)) = true
      · rw [if_pos hc]
        simp only [Bool.and_eq_true, beq_iff_eq] at hc
        obtain ⟨hz, hb⟩ := hc
        subst hz
        cases hs : isSetE it with
        | false => exact comp_ok c he ht hb hs
        | true =>
          have eb : evIter C (ee sc) sc tg it = bad := by
            cases it <;> first | (cases hs; done) | skip
            rfl
          rw [eb]
          exact bad_ok
      · rw [if_neg hc]; exact bad_ok
    · exact bad_ok
  | Call fn es kws p =>
    cases kws with
    | nil =>
      cases fn with
      | Name x q => exact callE_ok c hf
      | Attribute o m apos =>
        cases o with
        | Name x q => exact methE_ok c hf
        | _ => exact bad_ok
      | _ => exact bad_ok
    | cons k ks => exact bad_ok
  | _ => exact bad_ok
/-- a value's truth as a test -/
theorem pt_of (hK : X.K = G.K) {e : Expr} {m : M RE} (h : PE X e (rdE G xr P W m)) (hp : ∀ whole, isTrue e X.env whole = (do let v ← whole; standAt e.pos; holding [v] (truthy v))) : PT X e (rdT G xr P W (bnd m truM)) := by
  refine (pt_truth h hp).imp fun σ H Q ⟨ρ, s, R0, h⟩ => ?_
  refine rd_mono (seq R0 h) ?_
  rintro x H1 ⟨r, ρ1, s1, R1, E1, hx, h1⟩
  obtain ⟨ρ2, R2, E2, hx2⟩ := R1.hold hx
  unfold truM at h1
  split at h1
  · rename_i u hu
    split at h1
    · rename_i b hb
      exact ⟨b, tru_pk (R2.peek hx2 hu) hb hK, rdRet R1 h1 rfl⟩
    · exact h1.elim
  · exact h1.elim
theorem rdBool {σ : St} {H : Hp} {m : M RE} {Q : Bool → Hp → Prop} (h : rdT G xr P W (bnd m asBool) σ H Q) : rdE G xr P W m σ H (fun x H1 => ∃ k, x = .bl k ∧ Q k H1) := by
  obtain ⟨ρ, s, R0, h⟩ := h
  refine rd_mono (seq R0 h) ?_
  rintro x H1 ⟨r, ρ1, s1, R1, E1, hx, h1⟩
  unfold asBool at h1
  split at h1
  · have hx' : RV G.K G.fa ρ1 (cut H1 ρ1) _ x := hx
    cases hx'
    exact ⟨_, rfl, rdRet R1 h1 rfl⟩
  · exact h1.elim
theorem pt_ifE {c a b : Expr} {pos : Pos} {tc ta tb : TT} (hc : PT X c tc) (ha : PT X a ta) (hb : PT X b tb) : PT X (.IfExp c a b pos) (fun σ H Q => tc σ H fun k H1 => if k = true then ta σ H1 Q else tb σ H1 Q) := by
  refine ⟨fun pins s σ H Q I h => ?_⟩
  rw [PySem.arm_isTrue_IfExp]
  refine wpAny_bind (thn (hc.run pins s σ H _ I h) fun d s1 ⟨H1, I1, q1⟩ => ?_)
  cases d with
  | true =>
    rw [if_pos rfl] at q1
    exact wpAny_ite_true rfl (ha.run pins s1 σ H1 Q I1 q1)
  | false =>
    rw [if_neg (by decide)] at q1
    exact wpAny_ite_false (by decide) (hb.run pins s1 σ H1 Q I1 q1)
theorem stepT_ok {ee : Scope → Expr → M RE} {et : Scope → Expr → M Bool} (he : SoundE G C Φ xr ee) (ht : SoundT G C Φ xr et) : SoundT G C Φ xr (stepT C Φ ee et) := by
  intro sc wr X W c P e
  have hf : ∀ e, PE X e (rdE G xr P W (ee sc e)) := fun e => he c e
  have hg : ∀ e, PT X e (rdT G xr P W (et sc e)) := fun e => ht c e
  have hs := stepE_ok he ht c (P := P) e
  cases e with
  | UnaryOp op a p =>
    cases op with
    | Not =>
      refine (pt_not (hg a)).imp fun σ H Q ⟨ρ, s, R0, h⟩ => ?_
      refine rd_mono (seq R0 h) ?_
      rintro b H1 ⟨b', ρ1, s1, R1, E1, eb, h1⟩
      subst eb
      exact rdRet R1 h1 rfl
    | _ => exact badT_ok
  | BoolOp op vs p =>
    cases vs with
    | nil => exact badT_ok
    | cons v vs => exact (boolT_ok hg (by simp)).pt
  | Compare a ops bs p =>
    rcases ops with _ | ⟨op, _ | ⟨op', _ | ⟨o3, ops⟩⟩⟩
    · exact badT_ok
    · rcases bs with _ | ⟨b, _ | ⟨d, bs⟩⟩
      · exact badT_ok
      · show PT X _ (rdT G xr P W (bnd (if marks op b then bad else _) asBool))
        by_cases hm : marks op b = true
        · rw [if_pos hm]; exact badT_ok
        · rw [if_neg hm]
          exact (pt_cmpR (op_U (f := compareOp op)) (hf a) (hf b) (Bool.eq_false_iff.mpr hm)).imp fun σ H Q h => cmp1_rd c (rdBool h)
      · exact badT_ok
    · rcases bs with _ | ⟨b, _ | ⟨d, _ | ⟨d2, bs⟩⟩⟩
      · exact badT_ok
      · exact badT_ok
      · show PT X _ (rdT G xr P W (bnd (if lastMarks [op, op'] [b, d] then bad else _) asBool))
        by_cases hm : lastMarks [op, op'] [b, d] = true
        · rw [if_pos hm]; exact badT_ok
        · rw [if_neg hm]
          exact (pt_chain (op_U (f := compareOp op)) (op_U (f := compareOp op')) (hf a) (hf b) (hf d) (Bool.eq_false_iff.mpr hm)).imp fun σ H Q h => chain_rd c (rdBool h)
      · exact badT_ok
    · exact badT_ok
  | IfExp t a b p =>
    refine (pt_ifE (hg t) (hg a) (hg b)).imp fun σ H Q ⟨ρ, s, R0, h⟩ => ?_
    refine rd_mono (seq R0 h) ?_
    rintro k H1 ⟨k', ρ1, s1, R1, E1, eb, h1⟩
    subst eb
    cases k' with
    | true => rw [if_pos rfl]; exact ⟨ρ1, s1, R1, by simpa using h1⟩
    | false => rw [if_neg Bool.false_ne_true]; exact ⟨ρ1, s1, R1, by simpa using h1⟩
  | Name x p => exact pt_of c.hK hs fun _ => rfl
  | Call fn es kws p => exact pt_of c.hK hs fun _ => rfl
  | Subscript a b p => exact pt_of c.hK hs fun _ => rfl
  | Constant k j p => exact pt_of c.hK hs fun _ => rfl
  | _ => exact badT_ok
theorem evET_ok : ∀ n, SoundE G C Φ xr (evET C Φ n).1 ∧ SoundT G C Φ xr (evET C Φ n).2
  | 0 => ⟨fun _ _ _ => bad_ok, fun _ _ _ => badT_ok⟩
  | n + 1 => ⟨stepE_ok (evET_ok n).1 (evET_ok n).2, stepT_ok (evET_ok n).1 (evET_ok n).2⟩
end
end Ev

set_option linter.all false
set_option maxRecDepth 100000
set_option maxHeartbeats 1000000
/-! Ev.M: statements -/
namespace Ev
open PySem PySem.Spec L2
theorem _root_.L2.PS.imp {X : Cx} {e : Stmt} {t t' : TS} (h : PS X e t) (i : ∀ D σ H, t' D σ H → t D σ H) : PS X e t' := ⟨fun pins s σ H D I q => h.run pins s σ H D I (i D σ H q)⟩
theorem _root_.L2.PSs.imp {X : Cx} {e : List Stmt} {t t' : TS} (h : PSs X e t) (i : ∀ D σ H, t' D σ H → t D σ H) : PSs X e t' := ⟨fun pins s σ H D I q => h.run pins s σ H D I (i D σ H q)⟩
def FlR (G : Env1) (D : Ends) (ρ : Rho) (σ : St) (H : Hp) : Fl → Prop
  | .nx => D.nx σ H
  | .bk => D.bk σ H
  | .ct => D.ct σ H
  | .rt r => ∀ V, RER G.K G.fa ρ σ H r V → D.rt V H
def rdSAt (G : Env1) (xr : XR) (P : Hp) (W : WX) (ρ : Rho) (o : Out Fl) (D : Ends) (σ : St) (H : Hp) : Prop :=
  match o with
  | .ok f s' => ∀ ρ' σ' H', Rel G.K G.fa P ρ' s' σ' H' → Ext ρ H ρ' H' → FlR G D ρ' σ' H' f
  | .exc x s' => ∀ ρ' σ' H' cls d, Rel G.K G.fa P ρ' s' σ' H' → Ext ρ H ρ' H' → xr x cls d H' → W cls d σ' H'
  | .bad => False
def rdS (G : Env1) (xr : XR) (P : Hp) (W : WX) (m : M Fl) : TS := fun D σ H => ∃ ρ s, Rel G.K G.fa P ρ s σ H ∧ rdSAt G xr P W ρ (m s) D σ H
/-- an exception's relation: own classes without anything more -/
def ExF (K : PySem.W.Frag) (X : Cx) (x : Str) (a : Addr) : Prop := X.mg x = some (.ref a) ∧ (x == ("__debug__" : Str)) = false ∧ PySem.W.excIn X.K a [.type "ValueError", .type "Exception", .type "BaseException", .type "object"] "ValueError.__new__" = true ∧
  PySem.W.keepIn X.K (.ref a) = true ∧ Raises X (.ref a)
/-- what a clause asks of a class: one is, or is not, under another -/
def SubF (K : PySem.W.Frag) (ea : Str → Option Addr) (mg : Str → Option Value) (x y : Str) (b : Bool) : Prop := ∃ ax ay, ea x = some ax ∧ mg y = some (.ref ay) ∧ (y == ("__debug__" : Str)) = false ∧
  PySem.W.exmOne K (.ref ax) (.ref ay) = some b ∧ PySem.W.kitOne K (.ref ax) (.ref ay) = some b ∧ ExcC K ax
structure CxS (G : Env1) (C : CC) (Φ : Orc) (xr : XR) (sc wd : Scope) (X : Cx) (W : WX) : Prop extends CxE G C Φ xr sc wd X W where
  po : PassesOwn (model X.prog X.w) X.A X.env X.xe
  ex : ∀ x, x ∈ C.excs → ∃ a, ExF G.K X x a ∧ ∀ H, xr ⟨x, []⟩ (.ref a) none H
  wrs : wd = sc
  xrd : ∀ x cls d H, xr x cls d H → ∃ a, G.ea x.cls = some a ∧ cls = .ref a ∧ d = none
  sub : ∀ x y b, ((x, y), b) ∈ C.subs → SubF X.K G.ea X.mg x y b
  stk : X.stack = X.env :: X.outer
  frm : X.env.frame = some X.env.locals
section
variable {G : Env1} {C : CC} {Φ : Orc} {xr : XR} {sc wr : Scope} {X : Cx} {W : WX} {P : Hp}
theorem rdSAt.shift {ρ ρ1 : Rho} {σ σ1 : St} {H H1 : Hp} (e : Ext ρ H ρ1 H1) {m : Out Fl} {D : Ends} (h : rdSAt G xr P W ρ m D σ H) : rdSAt G xr P W ρ1 m D σ1 H1 := by
  cases m with
  | ok r s' => exact fun ρ' σ' H' r1 e1 => h ρ' σ' H' r1 (e.trans e1)
  | exc x s' => exact fun ρ' σ' H' cls d r1 e1 rr => h ρ' σ' H' cls d r1 (e.trans e1) rr
  | bad => exact h
theorem rdSAt.mono {ρ : Rho} {σ : St} {H : Hp} {m : Out Fl} {D D' : Ends} (h : rdSAt G xr P W ρ m D σ H) (hn : ∀ σ H, D.nx σ H → D'.nx σ H) (hr : D'.rt = D.rt) (hb : ∀ σ H, D.bk σ H → D'.bk σ H) (hc : ∀ σ H, D.ct σ H → D'.ct σ H) : rdSAt G xr P W ρ m D' σ H := by
  cases m with
  | ok r s' =>
    intro ρ' σ' H' r1 e1
    have q := h ρ' σ' H' r1 e1
    cases r with
    | nx => exact hn _ _ q
    | bk => exact hb _ _ q
    | ct => exact hc _ _ q
    | rt r => intro V hv; rw [hr]; exact q V hv
  | exc x s' => exact h
  | bad => exact h
theorem seqS {α β : Type} {R : Rho → St → Hp → α → β → Prop} {ρ : Rho} {s : ES} {σ : St} {H : Hp} {m : M α} {f : α → M Fl} {D : Ends} (R0 : Rel G.K G.fa P ρ s σ H) (h : rdSAt G xr P W ρ (bnd m f s) D σ H) :
    rd G xr P R W m σ H (fun b H1 => ∃ r ρ1 s1, Rel G.K G.fa P ρ1 s1 σ H1 ∧ Ext ρ H ρ1 H1 ∧ R ρ1 σ H1 r b ∧ rdSAt G xr P W ρ1 (f r s1) D σ H1) := by
  refine ⟨ρ, s, R0, ?_⟩
  unfold bnd at h
  generalize m s = o at h ⊢
  cases o with
  | ok r s' => exact fun ρ' H' b r1 e1 rr => ⟨r, ρ', s', r1, e1, rr, h.shift e1⟩
  | exc x s' => exact fun ρ' H' cls d r1 e1 rr => h ρ' σ H' cls d r1 e1 rr
  | bad => exact h
theorem seqS0 {α : Type} {ρ : Rho} {s : ES} {σ : St} {H : Hp} {m : M α} {f : α → M Fl} {D : Ends} (h : rdSAt G xr P W ρ (bnd m f s) D σ H) :
    (∃ r s', m s = .ok r s' ∧ rdSAt G xr P W ρ (f r s') D σ H) ∨ ∃ x s', m s = .exc x s' := by
  unfold bnd at h
  generalize m s = o at h ⊢
  cases o with
  | ok r s' => exact .inl ⟨r, s', rfl, h⟩
  | exc x s' => exact .inr ⟨x, s', rfl⟩
  | bad => exact h.elim
theorem doneS {ρ ρ' : Rho} {s' : ES} {σ σ' : St} {H H' : Hp} {D : Ends} (h : rdSAt G xr P W ρ (.ok .nx s') D σ H) (R : Rel G.K G.fa P ρ' s' σ' H') (E : Ext ρ H ρ' H') : D.nx σ' H' := h ρ' σ' H' R E
theorem badS {e : Stmt} : PS X e (rdS G xr P W bad) := ⟨fun pins s σ H D I h => by obtain ⟨_, _, _, h⟩ := h; exact h.elim⟩
/-- statement after statement -/
theorem then_ok {st : Stmt} {r : List Stmt} {m m' : M Fl} (h : PS X st (rdS G xr P W m)) (h' : PSs X r (rdS G xr P W m')) : PSs X (st :: r) (rdS G xr P W (thenM m m')) :=
  (pss_cons h h').imp fun D σ H ⟨ρ, s, R0, q⟩ => by
    refine ⟨ρ, s, R0, ?_⟩
    unfold thenM bnd at q
    generalize m s = o at q ⊢
    cases o with
    | bad => exact q
    | exc x s' => exact q
    | ok f s' =>
      intro ρ' σ' H' R' E'
      cases f with
      | nx => exact ⟨ρ', s', R', q.shift E'⟩
      | bk => exact q ρ' σ' H' R' E'
      | ct => exact q ρ' σ' H' R' E'
      | rt r => exact q ρ' σ' H' R' E'
theorem block_ok {f : Stmt → M Fl} (h : ∀ st, PS X st (rdS G xr P W (f st))) : ∀ {l : List Stmt}, PSs X l (rdS G xr P W (blockM f l))
  | [] => pss_nil.imp fun D σ H ⟨ρ, s, R0, q⟩ => doneS q R0 Ext.refl
  | [st] => pss_one (h st)
  | st :: st2 :: r => then_ok (h st) (block_ok h (l := st2 :: r))

/-! ### a name takes an outcome -/
theorem asgR_ok {ρ : Rho} {s s' : ES} {σ : St} {H : Hp} {i : Nat} {bx : Bool} {r : RE} {V : L2.V} (R : Rel G.K G.fa P ρ s σ H) (hr : RER G.K G.fa ρ σ H r V) (e : asgR i bx r s = .ok () s') :
    ∃ ρ', Rel G.K G.fa P ρ' s' (σ.set i (some V)) H ∧ Ext ρ H ρ' H := by
  cases r with
  | val v => exact setSlot_ok R hr e
  | pk k =>
    obtain ⟨v, s1, e1, e2⟩ := bnd_ok e
    obtain ⟨ρ1, R1, E1, rv⟩ := share_ok R (r := .pk k) hr e1
    obtain ⟨ρ2, R2, E2⟩ := setSlot_ok R1 rv e2
    exact ⟨ρ2, R2, E1.trans E2⟩
  | fresh c =>
    obtain ⟨a, rfl, ht, hc⟩ := hr
    cases bx with
    | false =>
      have e' : setOwn i c s = .ok () s' := e
      unfold setOwn at e'
      split at e'
      · rename_i hi
        cases e'
        exact ⟨_, R.setFresh ht hc hi⟩
      · cases e'
    | true =>
      have e' : setBox i c s = .ok () s' := e
      unfold setBox at e'
      split at e'
      · rename_i hi
        cases e'
        obtain ⟨ρ1, R1, E1, hb⟩ := R.newBox ht hc
        obtain ⟨R2, E2⟩ := R1.setVal (i := i) (.box hb) hi
        exact ⟨_, R2, E1.trans E2⟩
      · cases e'
theorem setSlot_noexc {i : Nat} {v : PV} {s s' : ES} {x : Ex} : setSlot i v s ≠ .exc x s' := by
  intro h; unfold setSlot at h; split at h <;> cases h
theorem bnd_noexc {α β : Type} {m : M α} {f : α → M β} (hm : ∀ s x s', m s ≠ .exc x s') (hf : ∀ a s x s', f a s ≠ .exc x s') : ∀ s x s', bnd m f s ≠ .exc x s' := by
  intro s x s' h
  unfold bnd at h
  generalize ho : m s = o at h
  cases o with
  | ok a s1 => exact hf a s1 x s' h
  | exc y s1 => exact hm s y s1 ho
  | bad => cases h
theorem asgR_noexc {i : Nat} {bx : Bool} {r : RE} : ∀ s x s', asgR i bx r s ≠ .exc x s' := by
  intro s x s' h
  cases r with
  | val v => exact setSlot_noexc h
  | pk k => exact bnd_noexc (fun _ _ _ => share_noexc) (fun _ _ _ _ => setSlot_noexc) s x s' h
  | fresh c =>
    cases bx with
    | false => have h' : setOwn i c s = .exc x s' := h; unfold setOwn at h'; split at h' <;> cases h'
    | true => have h' : setBox i c s = .exc x s' := h; unfold setBox at h'; split at h' <;> cases h'
theorem asgN_noexc {e : Expr} {v : PV} : ∀ s x s', asgN C wr e v s ≠ .exc x s' := by
  intro s x s' h
  cases e with
  | Name y p =>
    by_cases hl : isLoc wr y = true
    · cases hi : C.N.idxOf? y with
      | none => simp [asgN, hl, hi, bad] at h
      | some i => simp only [asgN, hl, hi, if_true] at h; exact setSlot_noexc h
    · simp [asgN, hl, bad] at h
  | _ => cases h
theorem asgNs_noexc : ∀ {es : List Expr} {vs : List PV}, ∀ s x s', asgNs C wr es vs s ≠ .exc x s'
  | [], [], s, x, s', h => by cases h
  | [], _ :: _, s, x, s', h => by cases h
  | _ :: _, [], s, x, s', h => by cases h
  | e :: es, v :: vs, s, x, s', h => bnd_noexc (fun s x s' => asgN_noexc s x s') (fun _ s x s' => asgNs_noexc (es := es) (vs := vs) s x s') s x s' h
theorem asgV_eq {e : Expr} {v : PV} (h : isTupE e = false) : asgV C wr e v = asgN C wr e v := by
  cases e <;> first | rfl | cases h
theorem asgV_noexc {e : Expr} {v : PV} : ∀ s x s', asgV C wr e v s ≠ .exc x s' := by
  intro s x s' h
  cases ht : isTupE e with
  | false => rw [asgV_eq ht] at h; exact asgN_noexc s x s' h
  | true =>
    cases e with
    | Tuple es k p =>
      cases v with
      | tup xs => exact asgNs_noexc s x s' h
      | _ => cases h
    | _ => cases ht
theorem seqSn {α : Type} {ρ : Rho} {s : ES} {σ : St} {H : Hp} {m : M α} {f : α → M Fl} {D : Ends} (hm : ∀ s x s', m s ≠ .exc x s') (h : rdSAt G xr P W ρ (bnd m f s) D σ H) : ∃ r s', m s = .ok r s' ∧ rdSAt G xr P W ρ (f r s') D σ H := by
  rcases seqS0 h with q | ⟨x, s', e⟩
  · exact q
  · exact absurd e (hm _ _ _)
theorem nameOf_ok (c : CxS G C Φ xr sc wr X W) {x : Str} {i : Nat} (h : nameOf C sc x = some i) : X.N[i]? = some x ∧ Loc X.env.scope x ∧ (X.fn x = true ∨ X.env.scope.names.lookup x = some .local) ∧ isLoc sc x = true := by
  unfold nameOf at h
  split at h
  · rename_i hl
    have hl' : isLoc wr x = true := by rw [c.wrs]; exact hl
    obtain ⟨h1, h2⟩ := c.wr x hl'
    exact ⟨by rw [c.hN]; exact idx_get h, by rw [c.hsc]; exact h1, by rw [c.hsc]; exact h2, hl⟩
  · cases h
/-- behind the value of an assignment to a name -/
theorem asg_fin {te : TE} {m : M RE} {i : Nat} {bx : Bool} (K : ∀ {σ H Q}, rdE G xr P W m σ H Q → te σ H Q) {D : Ends} {σ : St} {H : Hp} (h : rdS G xr P W (bnd m fun r => bnd (asgR i bx r) fun _ => ret .nx) D σ H) : tAsg te (gName i) D σ H := by
  obtain ⟨ρ, s, R0, h⟩ := h
  refine K (rd_mono (seqS R0 h) ?_)
  rintro V H1 ⟨r, ρ1, s1, R1, E1, hr, h1⟩
  obtain ⟨_, s2, e2, h2⟩ := seqSn asgR_noexc h1
  obtain ⟨ρ2, R2, E2⟩ := asgR_ok R1 hr e2
  exact doneS h2 R2 E2
theorem swaps_no {e : Expr} {t : Option Expr} {l : Nat} {env : Env} (h : isComp e = false) : swapsWith e t l env = pure false := by
  cases e <;> first | rfl | cases h
theorem swaps_tup {e : Expr} {ts : List Expr} {k : Nat} {p : Pos} {l : Nat} {env : Env} : swapsWithSole [.Tuple ts k p] e l env = pure false := by
  cases e <;> rfl
theorem swaps_sub {e : Expr} {a b : Expr} {p : Pos} {l : Nat} {env : Env} : swapsWithSole [.Subscript a b p] e l env = pure false := by
  cases e <;> rfl
end
end Ev

set_option linter.all false
set_option maxRecDepth 100000
set_option maxHeartbeats 1000000
/-! Ev.T: try -/
namespace Ev
open PySem PySem.Spec L2
theorem lookup_in {α β : Type} [BEq α] [LawfulBEq α] {x : α} {y : β} : ∀ {l : List (α × β)}, l.lookup x = some y → (x, y) ∈ l
  | [], h => by cases h
  | (a, b) :: l, h => by
    rw [List.lookup_cons] at h
    cases e : x == a with
    | true =>
      rw [e] at h
      cases h
      rw [beq_iff_eq] at e
      subst e
      exact List.mem_cons_self ..
    | false =>
      rw [e] at h
      exact List.mem_cons_of_mem _ (lookup_in h)
section
variable {G : Env1} {C : CC} {Φ : Orc} {xr : XR} {sc wr : Scope} {X : Cx} {W W' : WX} {P : Hp}
theorem CxS.tr (c : CxS G C Φ xr sc wr X W) {pn : List (Addr × Obj)} {xe : Value → Shared → Prop} (tk : Takes (X.tr pn xe) W') (po : PassesOwn (model X.prog X.w) X.A X.env xe) : CxS G C Φ xr sc wr (X.tr pn xe) W' :=
  ⟨⟨c.hK, c.hN, c.nd, c.hsc, c.calm, c.units, c.gd, ⟨c.g.const, c.g.fn, c.g.bi, c.g.dbg, c.g.loc⟩, tk, c.wr⟩, po, c.ex, c.wrs, c.xrd, c.sub, c.stk, c.frm⟩
def fV : PV → V
  | .bl b => .bl b
  | .int i => .int i
  | .str x => .str x
  | _ => .non
theorem hE_flat {nm : Option Str} {x : Str} : ∀ (n : Nat) (e : Expr) (v : PV), hE C sc nm x n e = some v → ∀ {K : PySem.W.Frag} {fa : Nat → Addr} {ρ : Rho} {T : Hp}, RV K fa ρ T v (fV v) := by
  intro n
  induction n with
  | zero => intro e v h; cases h
  | succ n ih =>
    intro e v h K fa ρ T
    unfold hE at h
    split at h
    · rename_i c _ _
      cases c <;> simp only [flatC, reduceCtorEq, Option.some.injEq] at h <;> subst h
      · exact .non
      · exact .bl _
      · exact .int _
      · exact .str _
    · split at h
      · rw [Option.map_eq_some_iff] at h
        obtain ⟨b, _, rfl⟩ := h
        exact .bl _
      · cases h
    · split at h
      · split at h
        · exact ih _ v h
        · exact ih _ v h
        · cases h
      · cases h
    · cases h
/-- what is wished of a clause's value -/
def tH (G : Env1) (C : CC) (sc : Scope) (nm : Option Str) (a : Addr) (cls : Value) (d : Option Addr) (n : Nat) (e : Expr) : TE := fun σ H Q => ∃ x v ax, G.ea x = some ax ∧ cls = .ref ax ∧ d = none ∧ hE C sc nm x n e = some v ∧
  (∀ en i, nm = some en → C.N.idxOf? en = some i → σ[i]? = some (some (.ref a))) ∧ Q (fV v) H
theorem hE_ok (c : CxS G C Φ xr sc wr X W) {nm : Option Str} {a : Addr} {oe : Obj} {cls : Value} {d : Option Addr} {pn : List (Addr × Obj)} (hz : Zc cls d oe) (hf : ∃ vs, oe.data = .fields vs) : ∀ (n : Nat) (e : Expr), PE (X.suite a ((a, oe) :: pn)) e (tH G C sc nm a cls d n e) := by
  intro n
  induction n with
  | zero => exact fun e => ⟨fun pins s σ H Q I h => by obtain ⟨_, _, _, _, _, _, h, _⟩ := h; cases h⟩
  | succ n ih =>
    intro e
    refine ⟨fun pins s σ H Q I h => ?_⟩
    obtain ⟨x, v, ax, h1, h2, h3, h4, h5, q⟩ := h
    unfold hE at h4
    split at h4
    · rename_i k _ _
      cases k <;> simp only [flatC, reduceCtorEq, Option.some.injEq] at h4 <;> subst h4
      · exact pe_non.run pins s σ H Q I q
      · exact pe_bl.run pins s σ H Q I q
      · exact pe_int.run pins s σ H Q I q
      · exact pe_str.run pins s σ H Q I q
    · rename_i f p e1 p1 y p2 pos
      split at h4
      · rename_i hok
        rw [Option.map_eq_some_iff] at h4
        obtain ⟨b, hb, rfl⟩ := h4
        simp only [isiOk, Bool.and_eq_true, decide_eq_true_eq] at hok
        obtain ⟨⟨⟨⟨⟨⟨e0, e2⟩, e3⟩, e4⟩, e5⟩, e6⟩, e7⟩ := hok
        subst e0
        obtain ⟨i, hi⟩ := Option.isSome_iff_exists.mp e7
        obtain ⟨ax', ay, g1, g2, g3, g4, g5, g6⟩ := c.sub x y b (lookup_in hb)
        rw [h1] at g1
        cases g1
        subst h2 h3
        have hm := c.g.bi ("isinstance" : Str) (by decide +kernel) (by simpa using e5)
        obtain ⟨d1, d2⟩ := c.g.loc e1 i hi
        have vis : Vis (X.suite a ((a, oe) :: pn)).env.scope e1 := by
          show Vis X.env.scope e1
          rw [c.hsc]
          exact .inl e6
        refine (pe_callB (id := "isinstance") (call_isE (X := X) (pn := pn) g6 hz hf) (c.gl e3) hm (by decide +kernel) (pa_cons (pe_var (i := i) (by show X.N[i]? = _; rw [c.hN]; exact idx_get hi) vis d1 d2) (pa_cons (pe_glob (v := .ref ay) (c.gl e4) g2 rfl g3) pa_nil) (starEach_plain rfl)) (by decide +kernel) (by decide +kernel) (starEach_plain rfl) (plain_of rfl)).run pins s σ H Q I ?_
        refine ⟨.ref a, h5 e1 i e2 hi, .ref ay, .ref ay, b, rfl, fun u hu => ?_, g5, q⟩
        cases hu
        rfl
      · cases h4
    · rename_i t a1 b1 p
      split at h4
      · have ht := pt_val (ih (.Call ‹_› ‹_› ‹_› ‹_›)) (fun _ => rfl)
        split at h4
        · rename_i hh
          refine (pe_ifExp ht (ih a1) (ih b1)).run pins s σ H Q I ⟨x, .bl true, ax, h1, h2, h3, hh, h5, true, rfl, ?_⟩
          show tH G C sc nm a cls d n a1 σ H Q
          exact ⟨x, v, ax, h1, h2, h3, h4, h5, q⟩
        · rename_i hh
          refine (pe_ifExp ht (ih a1) (ih b1)).run pins s σ H Q I ⟨x, .bl false, ax, h1, h2, h3, hh, h5, false, rfl, ?_⟩
          show tH G C sc nm a cls d n b1 σ H Q
          exact ⟨x, v, ax, h1, h2, h3, h4, h5, q⟩
        · cases h4
      · cases h4
    · cases h4
theorem oneCl_eq {h : ExceptHandler} {y : Str} {nm : Option Str} {e : Expr} (q : oneCl h = some (y, nm, e)) : ∃ np rp pos, h = .ExceptHandler (some (.Name y np)) nm [.Return (some e) rp] pos := by
  unfold oneCl at q
  split at q
  · cases q
    exact ⟨_, _, _, rfl⟩
  · cases q
theorem known_names (c : CxS G C Φ xr sc wr X W) {y : Str} (h : known C sc y = true) : ∃ ay, Names X y (.ref ay) := by
  unfold known at h
  rw [Bool.and_eq_true] at h
  obtain ⟨h1, h2⟩ := h
  split at h2
  · rename_i x l hx
    obtain ⟨b, hb⟩ := Option.isSome_iff_exists.mp h2
    obtain ⟨_, ay, _, g2, g3, _⟩ := c.sub x y b (lookup_in hb)
    exact ⟨ay, c.gl h1, g3, .inl g2⟩
  · cases h2
theorem lookup_map {f : Str → Option (Option PV)} {x : Str} {v : Option PV} : ∀ {l : List Str}, ((l.map fun x => (x, f x)).lookup x).getD none = some v → f x = some v
  | [], h => by cases h
  | a :: l, h => by
    rw [List.map_cons, List.lookup_cons] at h
    cases e : x == a with
    | true =>
      rw [e] at h
      rw [beq_iff_eq] at e
      subst e
      exact h
    | false =>
      rw [e] at h
      exact lookup_map h
theorem tryG_run {n : Option Nat} {m : M Fl} {tab : List (Str × Option (Option PV))} {s : ES} {ρ : Rho} {D : Ends} {σ : St} {H : Hp} (h : rdSAt G xr P W ρ (tryG n m tab s) D σ H) (k : ∀ x s', m s = .exc x s' →
    (∀ i, n = some i → i < s'.env.length) → ((∃ v, (tab.lookup x.cls).getD none = some (some v) ∧ rdSAt G xr P W ρ (.ok (.rt (.val v)) s') D σ H) ∨ ((tab.lookup x.cls).getD none = some none ∧ rdSAt G xr P W ρ (.exc x s') D σ H)) → rdSAt G xr P W' ρ (.exc x s') D σ H) :
    rdSAt G xr P W' ρ (m s) D σ H := by
  unfold tryG at h
  cases e : m s with
  | ok f s' => rw [e] at h; exact h
  | bad => rw [e] at h; exact h
  | exc x s' =>
    rw [e] at h
    dsimp only at h
    split at h
    · by_cases hl : lenOk s' n = true
      · rw [if_pos hl] at h
        have hn : ∀ i, n = some i → i < s'.env.length := fun i hi => by
          subst hi
          simpa [lenOk] using hl
        split at h
        · rename_i v hv
          exact k x s' e hn (.inl ⟨v, hv, h⟩)
        · rename_i hv
          exact k x s' e hn (.inr ⟨hv, h⟩)
        · exact h.elim
      · rw [if_neg hl] at h
        exact h.elim
    · exact h.elim
/-- try, one clause with a name -/
theorem try_as_ok (c : CxS G C Φ xr sc wr X W) {body : List Stmt} {m : M Fl} (hb : ∀ (W' : WX) (pn : List (Addr × Obj)) (xe : Value → Shared → Prop), CxS G C Φ xr sc wr (X.tr pn xe) W' → PSs (X.tr pn xe) body (rdS G xr P W' m)) {h0 : ExceptHandler} {p : Pos} (ho : clAs C sc h0 = true) :
    PS X (.Try body [h0] [] [] p) (rdS G xr P W (tryM C sc m [h0])) := by
  unfold clAs at ho
  split at ho
  · rename_i y n e hq
    obtain ⟨np, rp, pos, rfl⟩ := oneCl_eq hq
    simp only [Bool.and_eq_true, decide_eq_true_eq] at ho
    obtain ⟨⟨k1, k2⟩, k3⟩ := ho
    obtain ⟨ay, hay⟩ := known_names c k1
    obtain ⟨i, hi⟩ := Option.isSome_iff_exists.mp k3
    refine (ps_try_as (i := i) (ts := fun a cls d => tRet (tH G C sc (some n) a cls d 12 e)) c.stk c.frm c.nd (by rw [c.hN]; exact idx_get hi) (by show X.env.scope.names.lookup n = _; rw [c.hsc]; exact k2) hay c.tk (fun W' pn xe tk po => hb W' pn xe (c.tr tk po)) (fun a oe cls d pn hz hf => pss_one (ps_ret (hE_ok c hz hf 12 e)))).imp fun D σ H ⟨ρ, s, R0, h⟩ => ⟨ρ, s, R0, ?_⟩
    refine tryG_run h fun x s' _ hn hk => ?_
    intro ρ' σ' H' cls d R' E' hx
    obtain ⟨ax, x1, x2, x3⟩ := c.xrd _ _ _ _ hx
    have hlen : i < σ'.length := by
      have := hn i hi
      rw [R'.len] at this
      exact this
    have row : ∀ {w : Option PV}, clauseV C sc x.cls [.ExceptHandler (some (.Name y np)) (some n) [.Return (some e) rp] pos] = some w → (C.subs.lookup (x.cls, y) = some true ∧ (hE C sc (some n) x.cls 12 e).map some = some w) ∨ (C.subs.lookup (x.cls, y) = some false ∧ w = none) := fun {w} hw => by
      unfold clauseV at hw
      rw [hq] at hw
      dsimp only at hw
      split at hw
      · exact .inl ⟨by assumption, hw⟩
      · refine .inr ⟨by assumption, ?_⟩
        unfold clauseV at hw
        exact (Option.some.inj hw).symm
      · cases hw
    have exm : ∀ b, C.subs.lookup (x.cls, y) = some b → PySem.W.exmOne X.K cls (.ref ay) = some b := fun b hb => by
      obtain ⟨ax', ay', g1, g2, _, g4, _, _⟩ := c.sub _ _ _ (lookup_in hb)
      rw [x1] at g1
      cases g1
      have : ay' = ay := by
        rcases hay.2.2 with z | ⟨z, _⟩
        · rw [g2] at z; cases z; rfl
        · rw [g2] at z; cases z
      subst this x2
      exact g4
    rcases hk with ⟨v, hv, hr⟩ | ⟨hv, hr⟩
    · rcases row (lookup_map hv) with ⟨b1, b2⟩ | ⟨_, b2⟩
      · rw [Option.map_eq_some_iff] at b2
        obtain ⟨v', b3, b4⟩ := b2
        cases b4
        refine ⟨true, exm _ b1, fun _ a na => ?_, fun z => nomatch z⟩
        refine ⟨x.cls, v, ax, x1, x2, x3, b3, fun en j e1 e2 => ?_, ?_⟩
        · cases e1
          rw [hi] at e2
          cases e2
          rw [List.getElem?_set_self hlen]
        · exact hr ρ' σ' H' R' E' (fV v) (hE_flat 12 e v b3)
      · cases b2
    · rcases row (lookup_map hv) with ⟨_, b2⟩ | ⟨b1, _⟩
      · rw [Option.map_eq_some_iff] at b2
        obtain ⟨_, _, b4⟩ := b2
        cases b4
      · exact ⟨false, exm _ b1, fun z => (by cases z), fun _ => hr ρ' σ' H' cls d R' E' hx⟩
  · cases ho
/-- try, clauses without names -/
theorem hds_ok (c : CxS G C Φ xr sc wr X W) {D : Ends} : ∀ (hs : List ExceptHandler), hs.all (clOk C sc) = true → ∃ l, HdsOk X hs l ∧ ∀ (D : Ends) (x : Str) (ax : Addr) (σ : St) (H : Hp) (w : Option PV), G.ea x = some ax → clauseV C sc x hs = some w →
    (match w with | some v => D.rt (fV v) H | none => W (.ref ax) none σ H) → wMany X.K W D l (.ref ax) none σ H
  | [], _ => ⟨[], .nil, fun D x ax σ H w _ hw h => by
    unfold clauseV at hw
    cases hw
    exact h⟩
  | h0 :: hs, ho => by
    rw [List.all_cons, Bool.and_eq_true] at ho
    obtain ⟨o1, o2⟩ := ho
    obtain ⟨l, l1, l2⟩ := hds_ok c (D := D) hs o2
    unfold clOk at o1
    split at o1
    · rename_i y e hq
      obtain ⟨np, rp, pos, rfl⟩ := oneCl_eq hq
      obtain ⟨ay, hay⟩ := known_names c o1
      refine ⟨(.ref ay, fun a cls d => tRet (tH G C sc none a cls d 12 e)) :: l, .cons hay (fun a oe cls d pn hz hf => pss_one (ps_ret (hE_ok c hz hf 12 e))) l1, fun D x ax σ H w hx hw h => ?_⟩
      have exm : ∀ b, C.subs.lookup (x, y) = some b → PySem.W.exmOne X.K (.ref ax) (.ref ay) = some b := fun b hb => by
        obtain ⟨ax', ay', g1, g2, _, g4, _, _⟩ := c.sub _ _ _ (lookup_in hb)
        rw [hx] at g1
        cases g1
        have : ay' = ay := by
          rcases hay.2.2 with z | ⟨z, _⟩
          · rw [g2] at z; cases z; rfl
          · rw [g2] at z; cases z
        subst this
        exact g4
      unfold clauseV at hw
      rw [hq] at hw
      dsimp only at hw
      split at hw
      · rename_i hb
        rw [Option.map_eq_some_iff] at hw
        obtain ⟨v, b3, rfl⟩ := hw
        exact ⟨true, exm _ hb, fun _ a na => ⟨x, v, ax, hx, rfl, rfl, b3, fun en j e1 => (by cases e1), h⟩, fun z => nomatch z⟩
      · rename_i hb
        exact ⟨false, exm _ hb, fun z => (by cases z), fun _ => l2 D x ax σ H w hx hw h⟩
      · cases hw
    · cases o1
theorem try_many_ok (c : CxS G C Φ xr sc wr X W) {body : List Stmt} {m : M Fl} (hb : ∀ (W' : WX) (pn : List (Addr × Obj)) (xe : Value → Shared → Prop), CxS G C Φ xr sc wr (X.tr pn xe) W' → PSs (X.tr pn xe) body (rdS G xr P W' m)) {h0 : ExceptHandler} {hs : List ExceptHandler} {p : Pos} (ho : (h0 :: hs).all (clOk C sc) = true) :
    PS X (.Try body (h0 :: hs) [] [] p) (rdS G xr P W (tryM C sc m (h0 :: hs))) := by
  obtain ⟨l, l1, l2⟩ := hds_ok c (D := ⟨fun _ _ => True, fun _ _ => True, fun _ _ => True, fun _ _ => True⟩) (h0 :: hs) ho
  refine (ps_try_many c.stk c.frm c.tk (fun W' pn xe tk po => hb W' pn xe (c.tr tk po)) l1).imp fun D σ H ⟨ρ, s, R0, h⟩ => ⟨ρ, s, R0, ?_⟩
  refine tryG_run h fun x s' _ hn hk => ?_
  intro ρ' σ' H' cls d R' E' hx
  obtain ⟨ax, x1, rfl, rfl⟩ := c.xrd _ _ _ _ hx
  rcases hk with ⟨v, hv, hr⟩ | ⟨hv, hr⟩
  · have cv := lookup_map hv
    refine l2 D x.cls ax σ' H' (some v) x1 cv ?_
    have flat : ∃ e, ∃ nm, hE C sc nm x.cls 12 e = some v := by
      clear l1 l2 h hr hv hb
      generalize h0 :: hs = L at cv
      induction L with
      | nil => unfold clauseV at cv; cases cv
      | cons a L ih =>
        unfold clauseV at cv
        split at cv
        · split at cv
          · rw [Option.map_eq_some_iff] at cv
            obtain ⟨v', b3, b4⟩ := cv
            cases b4
            exact ⟨_, _, b3⟩
          · exact ih cv
          · cases cv
        · cases cv
    obtain ⟨e, nm, he⟩ := flat
    exact hr ρ' σ' H' R' E' (fV v) (hE_flat 12 e v he)
  · exact l2 D x.cls ax σ' H' none x1 (lookup_map hv) (hr ρ' σ' H' _ _ R' E' hx)
theorem try_ok (c : CxS G C Φ xr sc wr X W) {body : List Stmt} {m : M Fl} (hb : ∀ (W' : WX) (pn : List (Addr × Obj)) (xe : Value → Shared → Prop), CxS G C Φ xr sc wr (X.tr pn xe) W' → PSs (X.tr pn xe) body (rdS G xr P W' m)) {hs : List ExceptHandler} {p : Pos} (ho : clsOk C sc hs = true) :
    PS X (.Try body hs [] [] p) (rdS G xr P W (tryM C sc m hs)) := by
  cases hs with
  | nil => cases ho
  | cons h0 hs =>
    unfold clsOk at ho
    rw [Bool.or_eq_true, Bool.and_eq_true] at ho
    rcases ho with ⟨o1, o2⟩ | ho
    · cases hs with
      | nil => exact try_as_ok c hb o2
      | cons a b => cases o1
    · exact try_many_ok c hb ho
end
end Ev

set_option linter.all false
set_option maxRecDepth 100000
set_option maxHeartbeats 2000000
/-! Ev.N: every statement -/
namespace Ev
open PySem PySem.Spec L2
section
variable {G : Env1} {C : CC} {Φ : Orc} {xr : XR} {sc wr : Scope} {X : Cx} {W : WX} {P : Hp}
/-! ### return -/
theorem ret_ok {e : Expr} {m : M RE} {p : Pos} (h : PE X e (rdE G xr P W m)) : PS X (.Return (some e) p) (rdS G xr P W (bnd m retM)) :=
  (ps_ret h).imp fun D σ H ⟨ρ, s, R0, q⟩ => by
    refine rd_mono (seqS R0 q) ?_
    rintro V H1 ⟨r, ρ1, s1, R1, E1, hr, h1⟩
    cases r with
    | val v => exact h1 ρ1 σ H1 R1 Ext.refl V hr
    | fresh c => exact h1 ρ1 σ H1 R1 Ext.refl V hr
    | pk i =>
      have hr : σ[i]? = some (some V) := hr
      unfold retM at h1
      dsimp only at h1
      have q1 := R1.slot i
      split at h1
      · rename_i c e1
        rw [e1] at q1
        obtain ⟨a, g1, g2, g3⟩ := q1
        rw [hr] at g2; cases g2
        have key : ∃ ρ2, Rel G.K G.fa P ρ2 { s1 with env := s1.env.set i .none } (σ.set i none) H1 ∧ Ext ρ1 H1 ρ2 H1 ∧ ρ2 (.tmp a) = some a ∧ Le (cut H1 ρ1) (cut H1 ρ2) ∧ BoxLe ρ1 ρ2 := by
          have bl : BoxLe ρ1 (setN (setN ρ1 (.slot i) none) (.tmp a) (some a)) := fun _ _ h => by rw [setN_ne (by simp), setN_ne (by simp)]; exact h
          have le : Le (cut H1 ρ1) (cut H1 (setN (setN ρ1 (.slot i) none) (.tmp a) (some a))) := cut_move g1
          refine ⟨_, ⟨inj_move R1.inj g1, fun b u h => le b u (R1.base b u h), fun j => ?_, fun n => (R1.box n).mono le bl (by rw [setN_ne (by simp), setN_ne (by simp)]) fun _ _ => rfl, fun b c h => ?_, fun b c h => ?_, by simpa using R1.len⟩, ⟨le, bl, fun b h => ⟨by rw [setN_ne (by simp), setN_ne (by simp)]; exact h, rfl⟩⟩, setN_same, le, bl⟩
          · show SlotR _ _ _ _ _ j (s1.env.set i .none)[j]?
            by_cases hj : j = i
            · subst hj
              have hl : j < s1.env.length := (List.getElem?_eq_some_iff.mp e1).1
              rw [List.getElem?_set_self hl]
              show setN (setN ρ1 (.slot j) none) (.tmp a) (some a) (.slot j) = none
              rw [setN_ne (by simp), setN_same]
            · rw [List.getElem?_set_ne (Ne.symm hj)]
              exact (R1.slot j).mono le bl (by rw [setN_ne (by simp), setN_ne (by simp [hj])]) (fun _ _ => rfl) (List.getElem?_set_ne (Ne.symm hj))
          · by_cases hb : b = a
            · subst hb; rw [setN_same] at h; cases h; exact ⟨rfl, g3.mut⟩
            · rw [setN_ne (by simp [hb]), setN_ne (by simp)] at h; exact R1.tmp b c h
          · rw [setN_ne (by simp), setN_ne (by simp)] at h; exact R1.held b c h
        obtain ⟨ρ2, R2, E2, t2, le2, bl2⟩ := key
        exact h1 ρ2 _ H1 R2 E2 _ ⟨a, rfl, t2, g3.mono le2 bl2⟩
      · rename_i u e1
        rw [e1] at q1
        obtain ⟨_, V', g2, g3⟩ := q1
        rw [hr] at g2; cases g2
        exact h1 ρ1 σ H1 R1 Ext.refl V g3
      · exact h1.elim
theorem retN_ok {p : Pos} : PS X (.Return none p) (rdS G xr P W (ret (.rt (.val .non)))) :=
  ps_retN.imp fun D σ H ⟨ρ, s, R0, q⟩ => q ρ σ H R0 Ext.refl .non .non
theorem if_ok {c : Expr} {a b : List Stmt} {p : Pos} {mc : M Bool} {ma mb : M Fl} (hc : PT X c (rdT G xr P W mc)) (ha : PSs X a (rdS G xr P W ma)) (hb : PSs X b (rdS G xr P W mb)) :
    PS X (.If c a b p) (rdS G xr P W (bnd mc fun k => if k then ma else mb)) :=
  (ps_if hc ha hb).imp fun D σ H ⟨ρ, s, R0, q⟩ => by
    refine rd_mono (seqS R0 q) ?_
    rintro k H1 ⟨k', ρ1, s1, R1, E1, ek, h1⟩
    subst ek
    cases k' with
    | true => rw [if_pos rfl]; exact ⟨ρ1, s1, R1, by simpa using h1⟩
    | false => rw [if_neg Bool.false_ne_true]; exact ⟨ρ1, s1, R1, by simpa using h1⟩
theorem while_ok (c : CxS G C Φ xr sc wr X W) {t : Expr} {body : List Stmt} {p : Pos} {mc : M Bool} {mb : M Fl} (hc : PT X t (rdT G xr P W mc)) (hb : PSs X body (rdS G xr P W mb)) {n : Nat} :
    PS X (.While t body [] p) (rdS G xr P W (whileM n mc mb)) :=
  (ps_while c.po hc hb).imp fun D σ H ⟨ρ, s, R0, q⟩ => by
    refine ⟨fun m σ H => ∃ ρ s, Rel G.K G.fa P ρ s σ H ∧ rdSAt G xr P W ρ (whileM m mc mb s) D σ H, ⟨n, ρ, s, R0, q⟩, ?_⟩
    rintro m σ1 H1 ⟨ρ1, s1, R1, h1⟩
    cases m with
    | zero => exact ⟨ρ1, s1, R1, h1.elim⟩
    | succ m =>
      unfold whileM at h1
      refine rd_mono (seqS R1 h1) ?_
      rintro k H2 ⟨k', ρ2, s2, R2, E2, ek, h2⟩
      subst ek
      cases k' with
      | false =>
        rw [if_neg Bool.false_ne_true]
        rw [if_neg Bool.false_ne_true] at h2
        exact doneS h2 R2 Ext.refl
      | true =>
        rw [if_pos rfl]
        rw [if_pos rfl] at h2
        refine ⟨fun σ' H' => ∃ ρ s, Rel G.K G.fa P ρ s σ' H' ∧ rdSAt G xr P W ρ (whileM m mc mb s) D σ' H', fun σ' H' h => ⟨m, Nat.lt_succ_self m, h⟩, ρ2, s2, R2, ?_⟩
        unfold bnd at h2
        generalize mb s2 = o at h2 ⊢
        cases o with
        | bad => exact h2
        | exc x s' => exact h2
        | ok f s' =>
          intro ρ' σ' H' R' E'
          cases f with
          | nx => exact ⟨ρ', s', R', h2.shift E'⟩
          | ct => exact ⟨ρ', s', R', h2.shift E'⟩
          | bk => exact h2 ρ' σ' H' R' E'
          | rt r => exact h2 ρ' σ' H' R' E'
theorem for_ok (c : CxS G C Φ xr sc wr X W) {tg it : Expr} {body : List Stmt} {p : Pos} {f : Expr → M RE} (hf : ∀ e, PE X e (rdE G xr P W (f e))) {mb : M Fl} (hb : PSs X body (rdS G xr P W mb)) :
    PS X (.For tg it body [] p) (rdS G xr P W (bnd (evIter C f sc tg it) fun xs => forM (asgV C sc tg) mb xs)) := by
  by_cases hs : isSetE it = true
  · have eb : evIter C f sc tg it = bad := by
      cases it <;> first | (cases hs; done) | skip
      rfl
    rw [eb]
    exact badS
  have cw : CxE G C Φ xr sc sc X W := by
    have := c.toCxE
    rw [c.wrs] at this
    exact this
  refine (ps_for c.po c.calm (iter_ok (P := P) c.toCxE hf) (asg_ok (P := P) cw) hb (foldedSet (Bool.eq_false_iff.mpr hs))).imp fun D σ H ⟨ρ, s, R0, q⟩ => ?_
  refine rd_mono (seqS R0 q) ?_
  rintro J H1 ⟨xs, ρ1, s1, R1, E1, hJ, h1⟩
  refine ⟨fun i m σ Hc => m = xs.length - i ∧ i ≤ xs.length ∧ ∃ ρ s, Rel G.K G.fa P ρ s σ Hc ∧ Le (cut H1 ρ1) (cut Hc ρ) ∧ BoxLe ρ1 ρ ∧ rdSAt G xr P W ρ (forM (asgV C sc tg) mb (xs.drop i) s) D σ Hc, ⟨xs.length, by simp, Nat.zero_le _, ρ1, s1, R1, fun _ _ h => h, fun _ _ h => h, h1⟩, ?_⟩
  rintro i m σc Hc ⟨rfl, hi, ρc, sc', Rc, le, bl, hc⟩
  by_cases hlt : i < xs.length
  rotate_left
  · have ei : i = xs.length := by omega
    subst ei
    rw [List.drop_length] at hc
    exact .inl ⟨hJ.stop ρc Hc le, doneS hc Rc Ext.refl⟩
  · refine .inr ⟨hJ.go i ρc Hc hlt le, fun σ' H' => _, fun σ' H' h => ⟨xs.length - (i + 1), by omega, h⟩, fun V H' y => ?_⟩
    have ed : xs.drop i = xs[i] :: xs.drop (i + 1) := List.drop_eq_getElem_cons hlt
    rw [ed] at hc
    unfold forM at hc
    obtain ⟨_, s2, g1, h2⟩ := seqSn asgV_noexc hc
    obtain ⟨v, hv, Rb, Eb, rv⟩ := hJ.yld i P ρc _ _ Hc V H' hlt Rc le bl y
    have ev : v = xs[i] := by
      rw [List.getElem?_eq_getElem hlt] at hv; exact (Option.some.inj hv).symm
    subst ev
    refine ⟨ρc, _, xs[i], s2, Rb, rv, g1, fun ρd σd Rd Ed _ => ⟨ρd, s2, Rd, ?_⟩⟩
    unfold bnd at h2
    generalize mb s2 = o at h2 ⊢
    cases o with
    | bad => exact h2
    | exc x s' => exact rdSAt.shift (σ := σc) (Eb.trans Ed) h2
    | ok f s' =>
      intro ρ' σ' H'' R' E'
      have E0 : Ext ρc Hc ρ' H'' := (Eb.trans Ed).trans E'
      cases f with
      | nx => exact ⟨rfl, hlt, ρ', s', R', fun a o h => E0.le a o (le a o h), fun n a h => E0.box n a (bl n a h), h2.shift E0⟩
      | ct => exact ⟨rfl, hlt, ρ', s', R', fun a o h => E0.le a o (le a o h), fun n a h => E0.box n a (bl n a h), h2.shift E0⟩
      | bk => exact h2 ρ' σ' H'' R' E0
      | rt r => exact h2 ρ' σ' H'' R' E0

/-! ### a tuple of targets -/
theorem shr_noexc {r : RE} : ∀ s x s', shr r s ≠ .exc x s' := by
  intro s x s' h
  cases r with
  | pk i => exact bnd_noexc (fun _ _ _ => share_noexc) (fun _ _ _ _ h => by cases h) s x s' h
  | _ => cases h
theorem unp_fin {te : TE} {m : M RE} {tg : Expr} (K : ∀ {σ H Q}, rdE G xr P W m σ H Q → te σ H Q) {D : Ends} {σ : St} {H : Hp} (h : rdS G xr P W (bnd m fun r => bnd (share r) fun v => bnd (asgV C sc tg v) fun _ => ret .nx) D σ H) :
    tAsg te (rdG G C P sc (asgV C sc tg)) D σ H := by
  obtain ⟨ρ, s, R0, h⟩ := h
  refine K (rd_mono (seqS R0 h) ?_)
  rintro V H1 ⟨r, ρ1, s1, R1, E1, hr, h1⟩
  obtain ⟨ρ2, R2, E2, hr2⟩ := R1.hold hr
  obtain ⟨v, s3, e3, h3⟩ := seqSn (fun _ _ _ => share_noexc) h1
  obtain ⟨ρ3, R3, E3, rv⟩ := share_ok R2 hr2 e3
  obtain ⟨_, s4, e4, h4⟩ := seqSn asgV_noexc h3
  exact ⟨ρ3, s3, v, s4, R3, rv, e4, fun ρ' σ' R' E' _ => doneS h4 R' ((E2.trans E3).trans E')⟩
/-- a new cell waits -/
theorem Rel.tmpHeld {ρ : Rho} {s : ES} {σ : St} {H : Hp} (R : Rel G.K G.fa P ρ s σ H) {a : Addr} (ha : ρ (.tmp a) = some a) :
    Rel G.K G.fa P (setN (setN ρ (.tmp a) none) (.held a) (some a)) s σ H ∧ Ext ρ H (setN (setN ρ (.tmp a) none) (.held a) (some a)) H := by
  have bl : BoxLe ρ (setN (setN ρ (.tmp a) none) (.held a) (some a)) := fun _ _ h => by rw [setN_ne (by simp), setN_ne (by simp)]; exact h
  have le : Le (cut H ρ) (cut H (setN (setN ρ (.tmp a) none) (.held a) (some a))) := cut_move ha
  refine ⟨⟨inj_move R.inj ha, fun b u h => le b u (R.base b u h), fun j => (R.slot j).mono le bl (by rw [setN_ne (by simp), setN_ne (by simp)]) (fun _ _ => rfl) rfl, fun n => (R.box n).mono le bl (by rw [setN_ne (by simp), setN_ne (by simp)]) fun _ _ => rfl, fun b c h => ?_, fun b c h => ?_, R.len⟩, le, bl, fun b h => ⟨?_, rfl⟩⟩
  · rw [setN_ne (by simp)] at h
    by_cases hb : b = a
    · subst hb; rw [setN_same] at h; cases h
    · rw [setN_ne (by simp [hb])] at h; exact R.tmp b c h
  · by_cases hb : b = a
    · subst hb; rw [setN_same] at h; cases h; exact ⟨rfl, R.mutAt ha⟩
    · rw [setN_ne (by simp [hb]), setN_ne (by simp)] at h; exact R.held b c h
  · have hb : b ≠ a := fun z => by subst z; cases R.inj _ _ b ha h
    rw [setN_ne (by simp [hb]), setN_ne (by simp)]; exact h
/-- an outcome that waits -/
def Wait (G : Env1) (ρ : Rho) (σ : St) (H : Hp) (r : RE) (V : L2.V) : Prop := match r with
  | .val v => RV G.K G.fa ρ (cut H ρ) v V
  | .fresh c => ∃ a, V = .ref a ∧ ρ (.held a) = some a ∧ CellR G.K G.fa ρ (cut H ρ) c (H a)
  | .pk i => σ[i]? = some (some V)
theorem Rel.wait {ρ : Rho} {s : ES} {σ : St} {H : Hp} (R : Rel G.K G.fa P ρ s σ H) {r : RE} {V : L2.V} (h : RER G.K G.fa ρ σ H r V) : ∃ ρ', Rel G.K G.fa P ρ' s σ H ∧ Ext ρ H ρ' H ∧ Wait G ρ' σ H r V := by
  cases r with
  | val v => exact ⟨ρ, R, Ext.refl, h⟩
  | pk i => exact ⟨ρ, R, Ext.refl, h⟩
  | fresh c =>
    obtain ⟨a, e, ht, hc⟩ := h
    obtain ⟨R', E'⟩ := R.tmpHeld ht
    exact ⟨_, R', E', a, e, setN_same, hc.mono E'.le E'.box⟩
theorem Wait.ext {ρ ρ' : Rho} {σ : St} {H H' : Hp} (e : Ext ρ H ρ' H') {r : RE} {V : L2.V} (h : Wait G ρ σ H r V) : Wait G ρ' σ H' r V := by
  cases r with
  | val v => exact RV.mono e.le e.box h
  | pk i => exact h
  | fresh c =>
    obtain ⟨a, e1, e2, e3⟩ := h
    obtain ⟨t1, t2⟩ := e.held a e2
    exact ⟨a, e1, t1, by rw [t2]; exact e3.mono e.le e.box⟩
/-- sharing one outcome while another is new -/
theorem shrW_ok {ρ : Rho} {s s' : ES} {σ : St} {H : Hp} {r r1 : RE} {V : L2.V} (R : Rel G.K G.fa P ρ s σ H) (h : Wait G ρ σ H r V) (e : shr r s = .ok r1 s') :
    ∃ ρ', Rel G.K G.fa P ρ' s' σ H ∧ Ext ρ H ρ' H ∧ Wait G ρ' σ H r1 V ∧ (∀ i, r1 ≠ .pk i) ∧ ∀ b, ρ (.tmp b) = some b → ρ' (.tmp b) = some b := by
  cases r with
  | val v => cases e; exact ⟨ρ, R, Ext.refl, h, by simp, fun _ h => h⟩
  | fresh c => cases e; exact ⟨ρ, R, Ext.refl, h, by simp, fun _ h => h⟩
  | pk i =>
    obtain ⟨v, s1, e1, e2⟩ := bnd_ok e
    cases e2
    have hx : σ[i]? = some (some V) := h
    unfold share at e1
    have q := R.slot i
    simp only at e1
    split at e1
    · rename_i c e3
      cases e1
      obtain ⟨a, g1, R1, E1, r1⟩ := R.freeze e3
      rw [hx] at g1; cases g1
      exact ⟨_, R1, E1, r1, by simp, fun b hb => by rw [setN_ne (by simp)]; exact hb⟩
    · rename_i u e3
      cases e1
      rw [e3] at q
      obtain ⟨_, V', h2, h3⟩ := q
      rw [hx] at h2; cases h2
      exact ⟨ρ, R, Ext.refl, h3, by simp, fun _ h => h⟩
    · cases e1
/-- a waiting cell goes to a slot -/
theorem Rel.setHeld {ρ : Rho} {s : ES} {σ : St} {H : Hp} (R : Rel G.K G.fa P ρ s σ H) {i : Nat} {c : Cell} {a : Addr} (ht : ρ (.held a) = some a) (hc : CellR G.K G.fa ρ (cut H ρ) c (H a)) (hi : i < s.env.length) :
    Rel G.K G.fa P (setN (setN ρ (.held a) none) (.slot i) (some a)) { s with env := s.env.set i (.own c) } (σ.set i (some (V.ref a))) H ∧ Le (cut H ρ) (cut H (setN (setN ρ (.held a) none) (.slot i) (some a))) ∧ BoxLe ρ (setN (setN ρ (.held a) none) (.slot i) (some a)) ∧
      (∀ b, b ≠ a → ρ (.held b) = some b → setN (setN ρ (.held a) none) (.slot i) (some a) (.held b) = some b) ∧ ∀ b, ρ (.tmp b) = some b → setN (setN ρ (.held a) none) (.slot i) (some a) (.tmp b) = some b := by
  have bl : BoxLe ρ (setN (setN ρ (.held a) none) (.slot i) (some a)) := fun _ _ h => by rw [setN_ne (by simp), setN_ne (by simp)]; exact h
  have le : Le (cut H ρ) (cut H (setN (setN ρ (.held a) none) (.slot i) (some a))) := cut_move ht
  have hl : i < σ.length := by rw [← R.len]; exact hi
  refine ⟨⟨inj_move R.inj ht, fun b u h => le b u (R.base b u h), fun j => ?_, fun n => (R.box n).mono le bl (by rw [setN_ne (by simp), setN_ne (by simp)]) fun _ _ => rfl, fun b c h => ?_, fun b c h => ?_, by simpa using R.len⟩, le, bl, fun b hb h => ?_, fun b h => ?_⟩
  · show SlotR _ _ _ _ _ j (s.env.set i (.own c))[j]?
    by_cases hj : j = i
    · subst hj
      rw [List.getElem?_set_self hi]
      exact ⟨a, setN_same, List.getElem?_set_self hl, hc.mono le bl⟩
    · rw [List.getElem?_set_ne (Ne.symm hj)]
      exact (R.slot j).mono le bl (by rw [setN_ne (by simp [hj]), setN_ne (by simp)]) (fun _ _ => rfl) (List.getElem?_set_ne (Ne.symm hj))
  · rw [setN_ne (by simp), setN_ne (by simp)] at h; exact R.tmp b c h
  · rw [setN_ne (by simp)] at h
    by_cases hb : b = a
    · subst hb; rw [setN_same] at h; cases h
    · rw [setN_ne (by simp [hb])] at h; exact R.held b c h
  · rw [setN_ne (by simp), setN_ne (by simp [hb])]; exact h
  · rw [setN_ne (by simp), setN_ne (by simp)]; exact h
/-- seqS from a ground that stays -/
theorem seqSb {α β : Type} {R : Rho → St → Hp → α → β → Prop} {ρb ρ : Rho} {s : ES} {σb σ : St} {Hb H : Hp} {m : M α} {f : α → M Fl} {D : Ends} (Eb : Ext ρb Hb ρ H) (R0 : Rel G.K G.fa P ρ s σ H) (h : rdSAt G xr P W ρb (bnd m f s) D σb Hb) :
    rd G xr P R W m σ H (fun b H1 => ∃ r ρ1 s1, Rel G.K G.fa P ρ1 s1 σ H1 ∧ Ext ρ H ρ1 H1 ∧ R ρ1 σ H1 r b ∧ rdSAt G xr P W ρb (f r s1) D σb Hb) := by
  refine ⟨ρ, s, R0, ?_⟩
  unfold bnd at h
  generalize m s = o at h ⊢
  cases o with
  | ok r s' => exact fun ρ' H' b r1 e1 rr => ⟨r, ρ', s', r1, e1, rr, h⟩
  | exc x s' => exact fun ρ' H' cls d r1 e1 rr => h ρ' σ H' cls d r1 (Eb.trans e1) rr
  | bad => exact h
theorem par_ok (c : CxS G C Φ xr sc wr X W) {f : Expr → M RE} (hf : ∀ e, PE X e (rdE G xr P W (f e))) {x y : Str} {px py tp : Pos} {kt k2 : Nat} {vp p : Pos} {a b : Expr} {i j : Nat}
    (hx : sc.names.lookup x = some .local) (hy : sc.names.lookup y = some .local) (hi : C.N.idxOf? x = some i) (hj : C.N.idxOf? y = some j) (hij : i ≠ j) (na : notStar a = true) (nb : notStar b = true)
    (hw : swappedStores [.Tuple [.Name x px, .Name y py] kt tp] (.Tuple [a, b] k2 vp) X.env = pure (some [x, y])) :
    PS X (.Assign [.Tuple [.Name x px, .Name y py] kt tp] (.Tuple [a, b] k2 vp) p) (rdS G xr P W (bnd (parM i j false false (f a) (f b)) fun _ => ret .nx)) := by
  refine (ps_par c.calm c.nd (by rw [c.hN]; exact idx_get hi) (by rw [c.hN]; exact idx_get hj) hij (by rw [c.hsc]; exact hx) (by rw [c.hsc]; exact hy) (pa_cons (hf a) (pa_cons (hf b) pa_nil (starEach_plain nb)) (starEach_plain na)) hw rfl).imp fun D σ H ⟨ρ, s, R0, h⟩ => ?_
  have hq : rdSAt G xr P W ρ (bnd (f a) (fun ra => bnd (f b) fun rb => bnd (shr ra) fun ra => bnd (shr rb) fun rb => bnd (asgR i false ra) fun _ => bnd (asgR j false rb) fun _ => ret .nx) s) D σ H := by
    have e : ∀ t, bnd (parM i j false false (f a) (f b)) (fun _ => ret Fl.nx) t = bnd (f a) (fun ra => bnd (f b) fun rb => bnd (shr ra) fun ra => bnd (shr rb) fun rb => bnd (asgR i false ra) fun _ => bnd (asgR j false rb) fun _ => ret .nx) t := by
      intro t
      have as : ∀ {α β γ : Type} (m : M α) (g : α → M β) (k : β → M γ) (t : ES), bnd (bnd m g) k t = bnd m (fun x => bnd (g x) k) t := by
        intro α β γ m g k t
        unfold bnd
        generalize m t = o
        cases o <;> rfl
      unfold parM
      rw [as]
      congr 1; funext ra; funext t1
      rw [as]
      congr 1; funext rb; funext t2
      rw [as]
      congr 1; funext ra'; funext t3
      rw [as]
      congr 1; funext rb'; funext t4
      rw [as]
    rw [e] at h
    exact h
  clear h
  refine rd_mono (seqS R0 hq) ?_
  rintro V1 H1 ⟨ra, ρ1, s1, R1, E1, hra, h1⟩
  obtain ⟨ρ2, R2, E2, w2⟩ := R1.wait hra
  refine rd_mono (seqSb E2 R2 h1) ?_
  rintro V2 H3 ⟨rb, ρ3, s3, R3, E3, hrb, h3⟩
  have w3 := w2.ext E3
  obtain ⟨ra', s4, e4, h4⟩ := seqSn shr_noexc h3
  -- the second one: its new cell stays a result
  have key : ∃ ρ4, Rel G.K G.fa P ρ4 s4 σ H3 ∧ Ext ρ3 H3 ρ4 H3 ∧ Wait G ρ4 σ H3 ra' V1 ∧ (∀ i, ra' ≠ .pk i) ∧ RER G.K G.fa ρ4 σ H3 rb V2 := by
    obtain ⟨ρ4, R4, E4, w4, n4, t4⟩ := shrW_ok R3 w3 e4
    refine ⟨ρ4, R4, E4, w4, n4, ?_⟩
    cases rb with
    | val v => exact RV.mono E4.le E4.box hrb
    | pk k => exact hrb
    | fresh c' =>
      obtain ⟨a', q1, q2, q3⟩ := hrb
      exact ⟨a', q1, t4 a' q2, q3.mono E4.le E4.box⟩
  obtain ⟨ρ4, R4, E4, w4, n4, hrb4⟩ := key
  obtain ⟨rb', s5, e5, h5⟩ := seqSn shr_noexc h4
  have key2 : ∃ ρ5, Rel G.K G.fa P ρ5 s5 σ H3 ∧ Ext ρ4 H3 ρ5 H3 ∧ Wait G ρ5 σ H3 ra' V1 ∧ RER G.K G.fa ρ5 σ H3 rb' V2 ∧ ∀ i, rb' ≠ .pk i := by
    cases rb with
    | val v => cases e5; exact ⟨ρ4, R4, Ext.refl, w4, hrb4, by simp⟩
    | fresh c' => cases e5; exact ⟨ρ4, R4, Ext.refl, w4, hrb4, by simp⟩
    | pk k =>
      obtain ⟨v, s6, e6, e7⟩ := bnd_ok e5
      cases e7
      obtain ⟨ρ5, R5, E5, rv⟩ := share_ok R4 (r := .pk k) hrb4 e6
      exact ⟨ρ5, R5, E5, w4.ext E5, rv, by simp⟩
  obtain ⟨ρ5, R5, E5, w5, hrb5, nb5⟩ := key2
  obtain ⟨_, s6, e6, h6⟩ := seqSn asgR_noexc h5
  have E15 : Ext ρ1 H1 ρ5 H3 := ((E2.trans E3).trans E4).trans E5
  have key3 : ∃ ρ6, Rel G.K G.fa P ρ6 s6 (σ.set i (some V1)) H3 ∧ Ext ρ1 H1 ρ6 H3 ∧ RER G.K G.fa ρ6 (σ.set i (some V1)) H3 rb' V2 := by
    cases ra' with
    | pk k => exact absurd rfl (n4 k)
    | val v =>
      have e6' : setSlot i v s5 = .ok () s6 := e6
      unfold setSlot at e6'
      split at e6'
      · rename_i hl
        cases e6'
        obtain ⟨R6, E6⟩ := R5.setVal (i := i) (V := V1) w5 hl
        refine ⟨_, R6, E15.trans E6, ?_⟩
        cases rb' with
        | val u => exact RV.mono E6.le E6.box hrb5
        | pk k => exact absurd rfl (nb5 k)
        | fresh c' =>
          obtain ⟨a', q1, q2, q3⟩ := hrb5
          exact ⟨a', q1, by rw [setN_ne (by simp)]; exact q2, q3.mono E6.le E6.box⟩
      · cases e6'
    | fresh c' =>
      obtain ⟨a', rfl, q2, q3⟩ := w5
      have e6' : setOwn i c' s5 = .ok () s6 := e6
      unfold setOwn at e6'
      split at e6'
      · rename_i hl
        cases e6'
        obtain ⟨R6, le6, bl6, hh6, tt6⟩ := R5.setHeld (i := i) q2 q3 hl
        have nh : ∀ b, ρ1 (.held b) = some b → b ≠ a' := by
          intro b hb z
          subst z
          cases ra with
          | val v => cases e4
          | pk k =>
            obtain ⟨u, s8, g1, g2⟩ := bnd_ok e4
            cases g2
          | fresh c1 =>
            obtain ⟨a1, z1, z2, _⟩ := hra
            cases z1
            cases R1.inj _ _ _ z2 hb
        refine ⟨_, R6, ⟨fun b o h => le6 b o (E15.le b o h), fun n b h => bl6 n b (E15.box n b h), fun b h => ⟨hh6 b (nh b h) (E15.held b h).1, (E15.held b h).2⟩⟩, ?_⟩
        cases rb' with
        | val u => exact RV.mono le6 bl6 hrb5
        | pk k => exact absurd rfl (nb5 k)
        | fresh c2 =>
          obtain ⟨a2, g1, g2, g3⟩ := hrb5
          exact ⟨a2, g1, tt6 a2 g2, g3.mono le6 bl6⟩
      · cases e6'
  obtain ⟨ρ6, R6, E6, hrb6⟩ := key3
  obtain ⟨_, s7, e7, h7⟩ := seqSn asgR_noexc h6
  obtain ⟨ρ7, R7, E7⟩ := asgR_ok R6 hrb6 e7
  exact ⟨V1, V2, rfl, doneS h7 R7 (E6.trans E7)⟩
theorem shv_noexc {r : RE} : ∀ s x s', shv r s ≠ .exc x s' := by
  intro s x s'
  cases r with
  | val v => intro h; cases h
  | fresh c => intro h; cases h
  | pk i => exact fun h => share_noexc (show share (.pk i) s = .exc x s' from h)
theorem shv_ok {ρ : Rho} {s s' : ES} {σ : St} {H : Hp} {r : RE} {v : PV} {V : L2.V} (R : Rel G.K G.fa P ρ s σ H) (h : Wait G ρ σ H r V) (e : shv r s = .ok v s') :
    ∃ ρ', Rel G.K G.fa P ρ' s' σ H ∧ Ext ρ H ρ' H ∧ RV G.K G.fa ρ' (cut H ρ') v V ∧ ∀ b, ρ (.tmp b) = some b → ρ' (.tmp b) = some b := by
  cases r with
  | val u => cases e; exact ⟨ρ, R, Ext.refl, h, fun _ h => h⟩
  | fresh c => cases e
  | pk i =>
    have e' : shr (.pk i) s = .ok (.val v) s' := by
      unfold shr bnd
      have e1 : share (.pk i) s = .ok v s' := e
      dsimp only
      rw [e1]
      rfl
    obtain ⟨ρ', R', E', w, _, t⟩ := shrW_ok R h e'
    exact ⟨ρ', R', E', w, t⟩
theorem rer_keep {ρ ρ' : Rho} {σ σ' : St} {H : Hp} {r : RE} {V : L2.V} (E : Le (cut H ρ) (cut H ρ') ∧ BoxLe ρ ρ') (t : ∀ b, ρ (.tmp b) = some b → ρ' (.tmp b) = some b) (np : ∀ i, r ≠ .pk i) (h : RER G.K G.fa ρ σ H r V) : RER G.K G.fa ρ' σ' H r V := by
  cases r with
  | val v => exact RV.mono E.1 E.2 h
  | pk k => exact absurd rfl (np k)
  | fresh c =>
    obtain ⟨a, q1, q2, q3⟩ := h
    exact ⟨a, q1, t a q2, q3.mono E.1 E.2⟩
theorem par3_ok (c : CxS G C Φ xr sc wr X W) {f : Expr → M RE} (hf : ∀ e, PE X e (rdE G xr P W (f e))) {x y z : Str} {px py pz tp : Pos} {kt k2 : Nat} {vp p : Pos} {a b d : Expr} {i j l : Nat}
    (hx : sc.names.lookup x = some .local) (hy : sc.names.lookup y = some .local) (hz : sc.names.lookup z = some .local) (hi : C.N.idxOf? x = some i) (hj : C.N.idxOf? y = some j) (hl : C.N.idxOf? z = some l) (hij : i ≠ j) (hil : i ≠ l) (hjl : j ≠ l) (na : notStar a = true) (nb : notStar b = true) (nd : notStar d = true)
    (hw : swappedStores [.Tuple [.Name x px, .Name y py, .Name z pz] kt tp] (.Tuple [a, b, d] k2 vp) X.env = pure (some [x, y, z])) :
    PS X (.Assign [.Tuple [.Name x px, .Name y py, .Name z pz] kt tp] (.Tuple [a, b, d] k2 vp) p) (rdS G xr P W (bnd (parM3 i j l (f a) (f b) (f d)) fun _ => ret .nx)) := by
  refine (ps_par3 c.calm c.nd (by rw [c.hN]; exact idx_get hi) (by rw [c.hN]; exact idx_get hj) (by rw [c.hN]; exact idx_get hl) hij hil hjl (by rw [c.hsc]; exact hx) (by rw [c.hsc]; exact hy) (by rw [c.hsc]; exact hz) (pa_cons (hf a) (pa_cons (hf b) (pa_cons (hf d) pa_nil (starEach_plain nd)) (starEach_plain nb)) (starEach_plain na)) hw rfl).imp fun D σ H ⟨ρ, s, R0, h⟩ => ?_
  have hq : rdSAt G xr P W ρ (bnd (f a) (fun ra => bnd (f b) fun rb => bnd (f d) fun rc => bnd (shv ra) fun va => bnd (shv rb) fun vb => bnd (shr rc) fun rc => bnd (setSlot i va) fun _ => bnd (setSlot j vb) fun _ => bnd (asgR l false rc) fun _ => ret .nx) s) D σ H := by
    have e : ∀ t, bnd (parM3 i j l (f a) (f b) (f d)) (fun _ => ret Fl.nx) t = bnd (f a) (fun ra => bnd (f b) fun rb => bnd (f d) fun rc => bnd (shv ra) fun va => bnd (shv rb) fun vb => bnd (shr rc) fun rc => bnd (setSlot i va) fun _ => bnd (setSlot j vb) fun _ => bnd (asgR l false rc) fun _ => ret .nx) t := by
      intro t
      have as : ∀ {α β γ : Type} (m : M α) (g : α → M β) (k : β → M γ) (t : ES), bnd (bnd m g) k t = bnd m (fun x => bnd (g x) k) t := by
        intro α β γ m g k t
        unfold bnd
        generalize m t = o
        cases o <;> rfl
      unfold parM3
      rw [as]
      congr 1; funext ra; funext t1
      rw [as]
      congr 1; funext rb; funext t2
      rw [as]
      congr 1; funext rc; funext t3
      rw [as]
      congr 1; funext va; funext t4
      rw [as]
      congr 1; funext vb; funext t5
      rw [as]
      congr 1; funext rc'; funext t6
      rw [as]
      congr 1; funext u1; funext t7
      rw [as]
    rw [e] at h
    exact h
  clear h
  refine rd_mono (seqS R0 hq) ?_
  rintro V1 H1 ⟨ra, ρ1, s1, R1, E1, hra, h1⟩
  obtain ⟨ρ2, R2, E2, w2⟩ := R1.wait hra
  refine rd_mono (seqSb E2 R2 h1) ?_
  rintro V2 H3 ⟨rb, ρ3, s3, R3, E3, hrb, h3⟩
  obtain ⟨ρ4, R4, E4, w4⟩ := R3.wait hrb
  refine rd_mono (seqSb ((E2.trans E3).trans E4) R4 h3) ?_
  rintro V3 H5 ⟨rc, ρ5, s5, R5, E5, hrc, h5⟩
  have wa := ((w2.ext E3).ext E4).ext E5
  have wb := w4.ext E5
  have E15 : Ext ρ1 H1 ρ5 H5 := ((E2.trans E3).trans E4).trans E5
  obtain ⟨va, s6, e6, h6⟩ := seqSn shv_noexc h5
  obtain ⟨ρ6, R6, E6, rva, t6⟩ := shv_ok R5 wa e6
  obtain ⟨vb, s7, e7, h7⟩ := seqSn shv_noexc h6
  obtain ⟨ρ7, R7, E7, rvb, t7⟩ := shv_ok R6 (wb.ext E6) e7
  have hrc7 : RER G.K G.fa ρ7 σ H5 rc V3 := by
    cases rc with
    | val v => exact RV.mono E7.le E7.box (RV.mono E6.le E6.box hrc)
    | pk k => exact hrc
    | fresh c' =>
      obtain ⟨a', q1, q2, q3⟩ := hrc
      exact ⟨a', q1, t7 a' (t6 a' q2), (q3.mono E6.le E6.box).mono E7.le E7.box⟩
  obtain ⟨rc', s8, e8, h8⟩ := seqSn shr_noexc h7
  have key2 : ∃ ρ8, Rel G.K G.fa P ρ8 s8 σ H5 ∧ Ext ρ7 H5 ρ8 H5 ∧ RER G.K G.fa ρ8 σ H5 rc' V3 ∧ ∀ i, rc' ≠ .pk i := by
    cases rc with
    | val v => cases e8; exact ⟨ρ7, R7, Ext.refl, hrc7, by simp⟩
    | fresh c' => cases e8; exact ⟨ρ7, R7, Ext.refl, hrc7, by simp⟩
    | pk k =>
      obtain ⟨v, s9, e9, e10⟩ := bnd_ok e8
      cases e10
      obtain ⟨ρ8, R8, E8, rv⟩ := share_ok R7 (r := .pk k) hrc7 e9
      exact ⟨ρ8, R8, E8, rv, by simp⟩
  obtain ⟨ρ8, R8, E8, hrc8, np⟩ := key2
  have rva8 := RV.mono E8.le E8.box (RV.mono E7.le E7.box rva)
  have rvb8 := RV.mono E8.le E8.box rvb
  have E18 : Ext ρ1 H1 ρ8 H5 := ((E15.trans E6).trans E7).trans E8
  obtain ⟨_, s9, e9, h9⟩ := seqSn (fun _ _ _ => setSlot_noexc) h8
  unfold setSlot at e9
  split at e9
  · rename_i hl1
    cases e9
    obtain ⟨R9, E9⟩ := R8.setVal (i := i) (V := V1) rva8 hl1
    have hrc9 := rer_keep (σ' := σ.set i (some V1)) ⟨E9.le, E9.box⟩ (fun b hb => by rw [setN_ne (by simp)]; exact hb) np hrc8
    have rvb9 := RV.mono E9.le E9.box rvb8
    obtain ⟨_, s10, e10, h10⟩ := seqSn (fun _ _ _ => setSlot_noexc) h9
    unfold setSlot at e10
    split at e10
    · rename_i hl2
      cases e10
      obtain ⟨R10, E10⟩ := R9.setVal (i := j) (V := V2) rvb9 hl2
      have hrc10 := rer_keep (σ' := (σ.set i (some V1)).set j (some V2)) ⟨E10.le, E10.box⟩ (fun b hb => by rw [setN_ne (by simp)]; exact hb) np hrc9
      obtain ⟨_, s11, e11, h11⟩ := seqSn asgR_noexc h10
      obtain ⟨ρ11, R11, E11⟩ := asgR_ok R10 hrc10 e11
      exact ⟨V1, V2, V3, rfl, doneS h11 R11 (((E18.trans E9).trans E10).trans E11)⟩
    · cases e10
  · cases e9
theorem fm_len {α β : Type} (f : α → Option β) : ∀ l : List α, (l.filterMap f).length ≤ l.length ∧ (l.any (fun t => (f t).isNone) = true → (l.filterMap f).length < l.length)
  | [] => ⟨Nat.le_refl _, fun h => by cases h⟩
  | a :: l => by
    obtain ⟨h1, h2⟩ := fm_len f l
    cases ha : f a with
    | none => rw [List.filterMap_cons, ha]; exact ⟨Nat.le_succ_of_le h1, fun _ => Nat.lt_succ_of_le h1⟩
    | some b =>
      rw [List.filterMap_cons, ha]
      refine ⟨Nat.succ_le_succ h1, fun h => Nat.succ_lt_succ (h2 ?_)⟩
      simpa [ha] using h
theorem folded_none {ts vs : List Expr} {k k2 : Nat} {tp vp : Pos} {env : Env} (h : vs.all (foldedForSure 8) = true ∨ offRoad env.scope ts = true ∨ vs.length ≠ ts.length) : swappedStores [.Tuple ts k tp] (.Tuple vs k2 vp) env = pure none := by
  unfold swappedStores
  dsimp only
  split
  · rfl
  · rename_i h1
    split
    · rfl
    · split
      · rfl
      · split
        · rfl
        · rename_i h4
          rename_i h3
          rcases h with h | h | h
          · exact absurd h h4
          · exfalso
            refine h3 ?_
            have q : ∀ (g : Expr → Option Str), (∀ t, (match t with | .Name x _ => !(env.scope.names.lookup x == some .local) | _ => true) = true → g t = none) → (ts.filterMap g).length ≠ ts.length := fun g hg => by
              refine Nat.ne_of_lt ((fm_len g ts).2 ?_)
              unfold offRoad at h
              rw [List.any_eq_true] at h ⊢
              obtain ⟨t, ht, h⟩ := h
              exact ⟨t, ht, by rw [hg t h]; rfl⟩
            rw [Bool.or_eq_true]
            left
            rw [bne_iff_ne]
            refine q _ fun t ht => ?_
            cases t <;> first | rfl | skip
            rename_i x px
            have ht : (!(env.kindOf x == some .local)) = true := ht
            rw [Bool.not_eq_true'] at ht
            dsimp only
            rw [ht]
            rfl
          · simp at h1; have := h1.1.2
            omega
theorem swapped_no {ts : List Expr} {k : Nat} {tp : Pos} {e : Expr} {env : Env} (h : isTupE e = false) : swappedStores [.Tuple ts k tp] e env = pure none := by
  cases e <;> first | rfl | cases h
theorem par_road {x y : Str} {px py tp vp : Pos} {kt k2 : Nat} {a b : Expr} {env : Env} (hk : env.scope.kind = .function) (hx : env.scope.names.lookup x = some .local) (hy : env.scope.names.lookup y = some .local) (hxy : x ≠ y) (hl : (px.line == py.line) = true) (na : notStar a = true) (nb : notStar b = true)
    (nf : [a, b].all (foldedForSure 8) = false) (nc : [a, b].all (constantsAlone 8) = false) : swappedStores [.Tuple [.Name x px, .Name y py] kt tp] (.Tuple [a, b] k2 vp) env = pure (some [x, y]) := by
  have hb : env.blockKind = .function := by unfold Env.blockKind; rw [hk]; rfl
  have kx : env.kindOf x = some .local := hx
  have ky : env.kindOf y = some .local := hy
  have hl' : (py.line == px.line) = true := by
    rw [beq_iff_eq] at hl ⊢; exact hl.symm
  unfold swappedStores
  dsimp only
  rw [hb]
  split
  · rename_i h1; exact absurd h1 (by simp)
  · split
    · rename_i h2
      exfalso
      revert h2
      cases a <;> cases b <;> first | (cases na; done) | (cases nb; done) | (intro h2; simp at h2)
    · have en : (List.filterMap (fun (e : Expr) => match e with | .Name id pos => if (env.kindOf id == some NameKind.local && pos.line == (Option.map (fun x => x.pos.line) [Expr.Name x px, Expr.Name y py].head?).getD 0) = true then some id else none | _ => none) [Expr.Name x px, Expr.Name y py]) = [x, y] := by
        simp [kx, ky, Expr.pos, beq_iff_eq.mp hl']
      have ed : ([x, y] : List Str).eraseDups.length = 2 := by
        have : (y == x) = false := beq_eq_false_iff_ne.mpr (Ne.symm hxy)
        simp [List.eraseDups_cons, this]
      split
      · rename_i h3
        exfalso
        have h3' : (([x, y] : List Str).length != 2 || ([x, y] : List Str).eraseDups.length != ([x, y] : List Str).length) = true := by
          rw [← en]; exact h3
        rw [ed] at h3'
        simp at h3'
      · rw [if_neg (by rw [nf]; decide), if_neg (by rw [nc]; decide)]
        exact congrArg (fun l => (pure (some l) : Sem (Option (List Str)))) en

theorem trip_road {x y z : Str} {px py pz tp vp : Pos} {kt k2 : Nat} {a b c : Expr} {env : Env} (hk : env.scope.kind = .function) (hx : env.scope.names.lookup x = some .local) (hy : env.scope.names.lookup y = some .local) (hz : env.scope.names.lookup z = some .local) (hxy : x ≠ y) (hxz : x ≠ z) (hyz : y ≠ z) (hl : (px.line == py.line) = true) (hl2 : (px.line == pz.line) = true) (na : notStar a = true) (nb : notStar b = true) (nd : notStar c = true)
    (nf : [a, b, c].all (foldedForSure 8) = false) (nc : [a, b, c].all (constantsAlone 8) = false) : swappedStores [.Tuple [.Name x px, .Name y py, .Name z pz] kt tp] (.Tuple [a, b, c] k2 vp) env = pure (some [x, y, z]) := by
  have hb : env.blockKind = .function := by unfold Env.blockKind; rw [hk]; rfl
  have kx : env.kindOf x = some .local := hx
  have ky : env.kindOf y = some .local := hy
  have kz : env.kindOf z = some .local := hz
  have hl' : (py.line == px.line) = true := by
    rw [beq_iff_eq] at hl ⊢; exact hl.symm
  have hl2' : (pz.line == px.line) = true := by
    rw [beq_iff_eq] at hl2 ⊢; exact hl2.symm
  unfold swappedStores
  dsimp only
  rw [hb]
  split
  · rename_i h1; exact absurd h1 (by simp)
  · split
    · rename_i h2
      exfalso
      revert h2
      intro h2
      simp only [List.any_cons, List.any_nil, Bool.or_false, Bool.or_eq_true] at h2
      rcases h2 with h2 | h2 | h2
      · cases a <;> first | (cases na; done) | (cases h2; done)
      · cases b <;> first | (cases nb; done) | (cases h2; done)
      · cases c <;> first | (cases nd; done) | (cases h2; done)
    · have en : (List.filterMap (fun (e : Expr) => match e with | .Name id pos => if (env.kindOf id == some NameKind.local && pos.line == (Option.map (fun x => x.pos.line) [Expr.Name x px, Expr.Name y py, Expr.Name z pz].head?).getD 0) = true then some id else none | _ => none) [Expr.Name x px, Expr.Name y py, Expr.Name z pz]) = [x, y, z] := by
        simp [kx, ky, kz, Expr.pos, beq_iff_eq.mp hl', beq_iff_eq.mp hl2']
      have ed : ([x, y, z] : List Str).eraseDups.length = 3 := by
        have h1 : (y == x) = false := beq_eq_false_iff_ne.mpr (Ne.symm hxy)
        have h2 : (z == x) = false := beq_eq_false_iff_ne.mpr (Ne.symm hxz)
        have h3 : (z == y) = false := beq_eq_false_iff_ne.mpr (Ne.symm hyz)
        simp [List.eraseDups_cons, h1, h2, h3]
      split
      · rename_i h3
        exfalso
        have h3' : (([x, y, z] : List Str).length != 3 || ([x, y, z] : List Str).eraseDups.length != ([x, y, z] : List Str).length) = true := by
          rw [← en]; exact h3
        rw [ed] at h3'
        simp at h3'
      · rw [if_neg (by rw [nf]; decide), if_neg (by rw [nc]; decide)]
        exact congrArg (fun l => (pure (some l) : Sem (Option (List Str)))) en
theorem trip_some {ts vs : List Expr} {i j l : Nat} {a b d : Expr} (h : tripOf C sc ts vs = some (i, j, l, a, b, d)) : ∃ x px y py z pz, ts = [.Name x px, .Name y py, .Name z pz] ∧ vs = [a, b, d] ∧ tripOk C sc x px y py z pz a b d = true ∧ i = (C.N.idxOf? x).getD 0 ∧ j = (C.N.idxOf? y).getD 0 ∧ l = (C.N.idxOf? z).getD 0 := by
  unfold tripOf at h
  split at h
  · split at h
    · cases h
      exact ⟨_, _, _, _, _, _, rfl, rfl, by assumption, rfl, rfl, rfl⟩
    · cases h
  · cases h
theorem road_plain {ts vs : List Expr} (h : roadOf C sc ts vs = .plain) : vs.all (foldedForSure 8) = true ∨ offRoad sc ts = true ∨ vs.length ≠ ts.length := by
  by_cases hv : vs.all (foldedForSure 8) = true
  · exact .inl hv
  by_cases ho : offRoad sc ts = true
  · exact .inr (.inl ho)
  refine .inr (.inr fun hl => ?_)
  unfold roadOf at h
  split at h
  · rw [if_neg hv, if_neg ho] at h
    split at h
    · cases h
    · split at h <;> cases h
  · rw [if_pos (by simp only [hl, decide_true, Bool.true_and, Bool.and_eq_true, Bool.not_eq_true']; exact ⟨Bool.eq_false_iff.mpr hv, Bool.eq_false_iff.mpr ho⟩)] at h
    cases h
theorem road_par {ts vs : List Expr} {i j : Nat} (h : roadOf C sc ts vs = .par i j) : ∃ x px y py a b, ts = [.Name x px, .Name y py] ∧ vs = [a, b] ∧ parOk C sc x px y py a b = true ∧ i = (C.N.idxOf? x).getD 0 ∧ j = (C.N.idxOf? y).getD 0 ∧
    vs.all (foldedForSure 8) = false ∧ vs.all (constantsAlone 8) = false := by
  unfold roadOf at h
  split at h
  · rename_i x px y py a b hp
    unfold pairOf at hp
    split at hp
    · cases hp
      split at h
      · cases h
      · split at h
        · cases h
        · split at h
          · cases h
          · split at h
            · rename_i h1 h0 h2 h3
              cases h
              exact ⟨_, _, _, _, _, _, rfl, rfl, h3, rfl, rfl, Bool.eq_false_iff.mpr h1, Bool.eq_false_iff.mpr h2⟩
            · cases h
    · cases hp
  · split at h <;> cases h
theorem raiseOf_some {ex cause : Option Expr} {x : Str} (h : raiseOf ex cause = some x) : ∃ p1 m j p2 p3, ex = some (.Call (.Name x p1) [.Constant (.str m) j p2] [] p3) ∧ cause = none := by
  unfold raiseOf at h
  split at h
  · cases h; exact ⟨_, _, _, _, _, rfl, rfl⟩
  · cases h
/-! ### x[k] = e, x += e -/
theorem assignSub {o i : Expr} {p : Pos} {env : Env} (h : isSliceN i = false) : ∀ v, assign (.Subscript o i p) env v = (do
      let ov ← holding [v] (eval o env)
      let iv ← holding [v, ov] (eval i env)
      standAt p
      holding [v, ov, iv] (setItem ov iv v)
      release [v, ov, iv] []) := by
  intro v
  cases i <;> first | rfl | cases h
theorem storeM_noexc {i : Nat} {v : PV} {k : RE} : ∀ s x s', storeM i v k s ≠ .exc x s' := by
  intro s x s' h
  unfold storeM at h
  repeat (first | cases h | split at h)
theorem chkS_ok {ρ : Rho} {s s' : ES} {σ : St} {H : Hp} {i : Nat} (R : Rel G.K G.fa P ρ s σ H) (h : chkS i s = .ok () s') : s' = s ∧ ∃ V, σ[i]? = some (some V) := by
  have q := R.slot i
  unfold chkS at h
  split at h
  · rename_i c e
    cases h
    rw [e] at q
    obtain ⟨a, _, h2, _⟩ := q
    exact ⟨rfl, _, h2⟩
  · rename_i v e
    cases h
    rw [e] at q
    obtain ⟨_, V, h2, _⟩ := q
    exact ⟨rfl, _, h2⟩
  · cases h
theorem chkS_noexc {i : Nat} : ∀ s x s', chkS i s ≠ .exc x s' := by
  intro s x s' h
  unfold chkS at h
  split at h <;> cases h
theorem store_ok (c : CxS G C Φ xr sc wr X W) {f : Expr → M RE} (hf : ∀ e, PE X e (rdE G xr P W (f e))) {x : Str} {px p2 p : Pos} {k e : Expr} {i : Nat} (hk : isSliceN k = false) (hv : isVis sc x = true) (hi : C.N.idxOf? x = some i) :
    PS X (.Assign [.Subscript (.Name x px) k p2] e p) (rdS G xr P W (bnd (f e) fun r => bnd (share r) fun v => bnd (chkS i) fun _ => bnd (f k) fun rk => bnd (storeM i v rk) fun _ => ret .nx)) := by
  obtain ⟨d1, d2⟩ := c.g.loc x i hi
  by_cases hsw : swapsWith e (some (.Subscript (.Name x px) k p2)) p.line X.env = pure false
  · refine (ps_asg (hf e) (pg_sub (pe_var (i := i) (by rw [c.hN]; exact idx_get hi) (by rw [c.hsc]; exact isVis_iff hv) d1 d2) (hf k) set_list (assignSub hk)) swaps_sub (by cases e <;> rfl) rfl).imp fun D σ H ⟨ρ, s, R0, h⟩ => ?_
    refine rd_mono (seqS R0 h) ?_
    rintro V H1 ⟨r, ρ1, s1, R1, E1, hr, h1⟩
    obtain ⟨ρ2, R2, E2, hr2⟩ := R1.hold hr
    obtain ⟨v, s3, e3, h3⟩ := seqSn (fun _ _ _ => share_noexc) h1
    obtain ⟨ρ3, R3, E3, rv⟩ := share_ok R2 hr2 e3
    obtain ⟨_, s4, e4, h4⟩ := seqSn chkS_noexc h3
    obtain ⟨es, O, hO⟩ := chkS_ok R3 e4
    subst es
    refine ⟨O, hO, ?_⟩
    refine rd_mono (seqSb (E2.trans E3) R3 h4) ?_
    rintro kV H5 ⟨rk, ρ5, s5, R5, E5, hk5, h5⟩
    obtain ⟨ρ6, R6, E6, hk6⟩ := R5.hold hk5
    obtain ⟨_, s7, e7, h7⟩ := seqSn storeM_noexc h5
    have rv6 := (rv.mono E5.le E5.box).mono E6.le E6.box
    have E16 : Ext ρ1 H1 ρ6 H5 := ((E2.trans E3).trans E5).trans E6
    unfold storeM at e7
    split at e7
    · rename_i kk hd
      cases (R6.peek hk6 hd).int
      split at e7
      · rename_i xs hx
        split at e7
        · rename_i j hj
          cases e7
          obtain ⟨a, vs, b1, b2, b3, b4⟩ := own_at R6 hx
          rw [hO] at b2; cases b2
          obtain ⟨R8, E8⟩ := R6.updOwn (c' := .lst (xs.set j v)) (o := .lst (vs.set j V)) b1 hO ⟨_, rfl, b4.set rv6 j⟩
          exact ⟨a, vs, kk, j, rfl, rfl, b3, by rw [← b4.length]; exact hj, doneS h7 R8 (E16.trans E8)⟩
        · cases e7
      · rename_i n hx
        have q := R6.slot i
        rw [hx] at q
        obtain ⟨_, O', g2, g3⟩ := q
        rw [hO] at g2; cases g2
        split at e7
        · rename_i xs hst
          split at e7
          · rename_i j hj
            cases e7
            have qb := R6.box n
            rw [hst] at qb
            obtain ⟨a, b1, vs, b3, b4⟩ := qb
            cases g3 with
            | box g4 =>
              rw [b1] at g4; cases g4
              obtain ⟨R8, E8⟩ := R6.updBox (c' := .lst (xs.set j v)) (o := .lst (vs.set j V)) b1 ⟨_, rfl, b4.set rv6 j⟩
              exact ⟨a, vs, kk, j, rfl, rfl, b3, by rw [← b4.length]; exact hj, doneS h7 R8 (E16.trans E8)⟩
          · cases e7
        · cases e7
      · cases e7
    · cases e7
  · exact absurd (by cases e <;> rfl) hsw
def uIp (X : Cx) (op : Operator) : TIp := fun x y H Q => ∀ (pins : List (Addr × Obj)) (s : Shared) (σ : St) (v u : Value), Inv X pins σ H s → RelV x v → RelV y u → wpAny (model X.prog X.w) X.A (inplaceOp op v u) (EP X pins σ Q) X.xe s
theorem ip_U {X : Cx} {op : Operator} : PIp X op (uIp X op) := fun pins s σ H x y v u Q I rx ry h => h pins s σ v u I rx ry
theorem uIp.of {X : Cx} {op : Operator} {r : R2} (h : OpR X (inplaceOp op) r) {x y : V} {H : Hp} {Q : VK} (q : r x y H Q) : uIp X op x y H Q := fun pins s σ v u I rx ry => h pins s σ H x y v u Q I rx ry q
theorem augM_noexc {op : Operator} {i : Nat} {r : RE} : ∀ s x s', augM op i r s ≠ .exc x s' := by
  intro s x s' h
  unfold augM at h
  repeat (first | cases h | split at h)
theorem set_same {σ : St} {i : Nat} {x : Option V} (h : σ[i]? = some x) : σ.set i x = σ := by
  apply List.ext_getElem?
  intro j
  by_cases hj : j = i
  · subst hj
    rw [List.getElem?_set_self (List.getElem?_eq_some_iff.mp h).1, h]
  · rw [List.getElem?_set_ne (Ne.symm hj)]
theorem aug_ok (c : CxS G C Φ xr sc wr X W) {f : Expr → M RE} (hf : ∀ e, PE X e (rdE G xr P W (f e))) {x : Str} {px p : Pos} {op : Operator} {e : Expr} {i : Nat} (hi : nameOf C sc x = some i) :
    PS X (.AugAssign (.Name x px) op e p) (rdS G xr P W (bnd (chkS i) fun _ => bnd (f e) fun r => bnd (augM op i r) fun _ => ret .nx)) := by
  obtain ⟨n1, n2, n3, _⟩ := nameOf_ok c hi
  refine (ps_aug c.nd n1 n2 (hf e) ip_U n3).imp fun D σ H ⟨ρ, s, R0, h⟩ => ?_
  obtain ⟨_, s4, e4, h4⟩ := seqSn chkS_noexc h
  obtain ⟨es, O, hO⟩ := chkS_ok R0 e4
  subst es
  refine ⟨O, hO, rd_mono (seqS R0 h4) ?_⟩
  rintro V H1 ⟨r, ρ1, s1, R1, E1, hr, h1⟩
  obtain ⟨ρ2, R2, E2, hr2⟩ := R1.hold hr
  obtain ⟨_, s3, e3, h3⟩ := seqSn augM_noexc h1
  unfold augM at e3
  split at e3
  · split at e3
    · rename_i a ha
      split at e3
      · rename_i b hb
        cases e3
        have q := R2.slot i
        rw [ha] at q
        obtain ⟨_, O', g2, g3⟩ := q
        rw [hO] at g2; cases g2
        cases g3
        cases (R2.peek hr2 hb).int
        have hl : i < s1.env.length := (List.getElem?_eq_some_iff.mp ha).1
        obtain ⟨R3, E3⟩ := R2.setVal (i := i) (V := .int (a + b)) (.int (a + b)) hl
        exact .of iop_add ⟨_, _, rfl, rfl, doneS h3 R3 (E2.trans E3)⟩
      · cases e3
    · rename_i xs ha
      split at e3
      · rename_i ys hb
        split at e3
        · cases e3
        · split at e3
          · rename_i hl
            cases e3
            obtain ⟨a, vs, b1, b2, b3, b4⟩ := own_at R2 ha
            rw [hO] at b2; cases b2
            obtain ⟨b, ws, rfl, d1, d2⟩ := (R2.peek hr2 hb).lst
            obtain ⟨R3, E3⟩ := R2.updOwn (c' := .lst (xs ++ ys)) (o := .lst (vs ++ ws)) b1 hO ⟨_, rfl, b4.append d2⟩
            exact .of iop_ext ⟨a, b, vs, ws, rfl, rfl, b3, d1, by rw [sizeLIM, ← b4.length, ← d2.length]; exact hl, by show D.nx (σ.set i (some (V.ref a))) _; rw [set_same hO]; exact doneS h3 R3 (E2.trans E3)⟩
          · cases e3
      · cases e3
    · cases e3
  · cases e3
/-! ### raise -/
theorem raise_ok (c : CxS G C Φ xr sc wr X W) {x m : Str} {j : Nat} {p p1 p2 p3 : Pos} (hx : x ∈ C.excs) (hg : isGl sc x = true) : PS X (.Raise (some (.Call (.Name x p1) [.Constant (.str m) j p2] [] p3)) none p) (rdS G xr P W (raiseM x)) := by
  obtain ⟨a, ⟨gC, hd, xP, kC, rz⟩, hxr⟩ := c.ex x hx
  exact (ps_raise c.calm c.tk (pmk_own PySem.F.excBase_ValueError xP gC kC rz (c.gl hg) hd)).imp fun D σ H ⟨ρ, s, R0, h⟩ => h ρ σ H _ _ R0 Ext.refl (hxr H)
/-! ### the step -/
theorem nx_ok {st : Stmt} {p : TS} (h : PS X st p) (q : ∀ D σ H, D.nx σ H → p D σ H) : PS X st (rdS G xr P W (ret .nx)) := h.imp fun D σ H ⟨ρ, s, R0, h⟩ => q D σ H (doneS h R0 Ext.refl)
theorem stepS_ok (c : CxS G C Φ xr sc wr X W) {ee : Scope → Expr → M RE} {et : Scope → Expr → M Bool} (he : SoundE G C Φ xr ee) (ht : SoundT G C Φ xr et) {rs : List Stmt → M Fl} (hr : ∀ l, PSs X l (rdS G xr P W (rs l))) (hr' : ∀ (W' : WX) (pn : List (Addr × Obj)) (xe : Value → Shared → Prop), CxS G C Φ xr sc wr (X.tr pn xe) W' → ∀ l, PSs (X.tr pn xe) l (rdS G xr P W' (rs l))) (st : Stmt) :
    PS X st (rdS G xr P W (stepS C (stepE C Φ ee et sc) (stepT C Φ ee et sc) sc rs st)) := by
  have hf : ∀ e, PE X e (rdE G xr P W (stepE C Φ ee et sc e)) := fun e => stepE_ok he ht c.toCxE e
  have hg : ∀ e, PT X e (rdT G xr P W (stepT C Φ ee et sc e)) := fun e => stepT_ok he ht c.toCxE e
  cases st with
  | Expr e p =>
    show PS X _ (rdS G xr P W (if isComp e then bad else _))
    cases hc : isComp e with
    | true => exact badS
    | false =>
      exact (ps_expr (hf e) (swaps_no hc)).imp fun D σ H ⟨ρ, s, R0, h⟩ => by
        refine rd_mono (seqS R0 h) ?_
        rintro V H1 ⟨r, ρ1, s1, R1, E1, hr, h1⟩
        obtain ⟨ρ2, R2, E2, _⟩ := R1.hold hr
        exact doneS h1 R2 E2
  | Return v p =>
    cases v with
    | none => exact retN_ok
    | some e => exact ret_ok (hf e)
  | If t a b p => exact if_ok (hg t) (hr a) (hr b)
  | While t b els p =>
    cases els with
    | nil => exact while_ok c (hg t) (hr b)
    | cons _ _ => exact badS
  | For tg it b els p =>
    cases els with
    | nil => exact for_ok c hf (hr b)
    | cons _ _ => exact badS
  | Assign tgs e p =>
    rcases tgs with _ | ⟨tg, _ | ⟨tg2, tgs⟩⟩
    · exact badS
    · cases tg with
      | Name x px =>
        show PS X _ (rdS G xr P W (match nameOf C sc x with | some i => _ | none => bad))
        cases hi : nameOf C sc x with
        | none => exact badS
        | some i =>
          obtain ⟨n1, n2, n3, n4⟩ := nameOf_ok c hi
          dsimp only
          cases hc : isComp e with
          | false => exact (ps_set c.nd n1 n2 (hf e) (swaps_no hc) n3).imp fun D σ H h => asg_fin (fun h => h) h
          | true =>
            by_cases hsw : swapsWith e (some (.Name x px)) p.line X.env = pure false
            · exact (ps_set c.nd n1 n2 (hf e) hsw n3).imp fun D σ H h => asg_fin (fun h => h) h
            · cases e with
              | ListComp elt gens scope p2 =>
                have hb : ∃ b, swapsWith (.ListComp elt gens scope p2) (some (.Name x px)) p.line X.env = pure b ∧ (b = true → X.env.kindOf x = some .local) := ⟨_, rfl, fun q => by
                  simp only [Bool.and_eq_true, beq_iff_eq] at q; exact q.1.1.2⟩
                obtain ⟨b, hb, hk⟩ := hb
                cases b with
                | false => exact absurd hb hsw
                | true =>
                  rcases gens with _ | ⟨⟨tg, it, ifs, isa⟩, _ | ⟨g2, gens⟩⟩
                  · exact badS
                  · show PS X _ (rdS G xr P W (bnd (if isa == 0 && L2.blkC C.N sc scope (ownOf C scope) then _ else bad) _))
                    by_cases hcc : (isa == 0 && L2.blkC C.N sc scope (ownOf C scope)) = true
                    · rw [if_pos hcc]
                      simp only [Bool.and_eq_true, beq_iff_eq] at hcc
                      obtain ⟨hz, hbl⟩ := hcc
                      subst hz
                      cases hs : isSetE it with
                      | true =>
                        have eb : evIter C (ee sc) sc tg it = bad := by
                          cases it <;> first | (cases hs; done) | skip
                          rfl
                        rw [eb]
                        exact badS
                      | false =>
                        exact (ps_setLc c.calm c.nd n1 (hk rfl) hb (iter_ok (P := P) c.toCxE (fun e => he c.toCxE e)) (L2.blkOk_by (by rw [c.hN, c.hsc]; exact hbl))
                          (fun s H A cl fp => asg_ok (P := P) (c.toCxE.blk (s := s) (H := H) (scope := scope) (cl := cl) (A := A) (fp := fp))) (tests_ok (P := P) c.toCxE ht (ifs := ifs))
                          (fun s H A cl fp => he (c.toCxE.blk (s := s) (H := H) (scope := scope) (cl := cl) (A := A) (fp := fp)) (P := P) elt) (foldedSet hs)).imp fun D σ H h => asg_fin (fun h => comp_rd h) h
                    · rw [if_neg hcc]; exact badS
                  · exact badS
              | SetComp _ _ _ _ => exact badS
              | DictComp _ _ _ _ _ => exact badS
              | _ => cases hc
      | Tuple ts k tp =>
        have cw : CxE G C Φ xr sc sc X W := by
          have := c.toCxE
          rw [c.wrs] at this
          exact this
        cases hte : isTupE e with
        | false =>
          have es : stepS C (stepE C Φ ee et sc) (stepT C Φ ee et sc) sc rs (.Assign [.Tuple ts k tp] e p) = bnd (stepE C Φ ee et sc e) fun r => bnd (share r) fun v => bnd (asgV C sc (.Tuple ts k tp) v) fun _ => ret .nx := by
            cases e <;> first | rfl | cases hte
          rw [es]
          exact (ps_asg (hf e) (asg_ok (P := P) cw) swaps_tup (swapped_no hte) rfl).imp fun D σ H h => unp_fin (fun h => h) h
        | true =>
          cases e with
          | Tuple vs k2 vp =>
            have plain : (vs.all (foldedForSure 8) = true ∨ offRoad sc ts = true ∨ vs.length ≠ ts.length) → PS X (.Assign [.Tuple ts k tp] (.Tuple vs k2 vp) p) (rdS G xr P W (bnd (stepE C Φ ee et sc (.Tuple vs k2 vp)) fun r => bnd (share r) fun v => bnd (asgV C sc (.Tuple ts k tp) v) fun _ => ret .nx)) := fun hpl =>
              (ps_asg (hf _) (asg_ok (P := P) cw) swaps_tup (folded_none (by rw [c.hsc]; exact hpl)) rfl).imp fun D σ H h => unp_fin (fun h => h) h
            show PS X _ (rdS G xr P W (match tripOf C sc ts vs with | some (i, j, l, a, b, d) => _ | none => match roadOf C sc ts vs with | .par i j => _ | .plain => _ | .stuck => bad))
            cases htr : tripOf C sc ts vs with
            | some q =>
              obtain ⟨i, j, l, a, b, d⟩ := q
              obtain ⟨x, px, y, py, z, pz, rfl, rfl, hcond, rfl, rfl, rfl⟩ := trip_some htr
              unfold tripOk loc3 at hcond
              simp only [Bool.and_eq_true, decide_eq_true_eq, Option.isSome_iff_exists, Bool.not_eq_true'] at hcond
              obtain ⟨⟨⟨⟨⟨⟨⟨⟨⟨⟨⟨⟨⟨na, nb⟩, nd⟩, hl⟩, hl2⟩, ⟨hx, ⟨i, hi⟩⟩⟩, ⟨hy, ⟨j, hj⟩⟩⟩, ⟨hz, ⟨l, hll⟩⟩⟩, hk⟩, hij⟩, hil⟩, hjl⟩, nf⟩, nc⟩ := hcond
              have hkk : X.env.scope.kind = .function := by rw [c.hsc]; exact hk
              have hxy : x ≠ y := fun z => by subst z; exact hij rfl
              have hxz : x ≠ z := fun w => by subst w; exact hil rfl
              have hyz : y ≠ z := fun w => by subst w; exact hjl rfl
              have hij' : i ≠ j := fun z => by subst z; rw [hi, hj] at hij; exact hij rfl
              have hil' : i ≠ l := fun z => by subst z; rw [hi, hll] at hil; exact hil rfl
              have hjl' : j ≠ l := fun z => by subst z; rw [hj, hll] at hjl; exact hjl rfl
              dsimp only
              rw [hi, hj, hll]
              exact par3_ok c hf hx hy hz hi hj hll hij' hil' hjl' na nb nd (trip_road hkk (by rw [c.hsc]; exact hx) (by rw [c.hsc]; exact hy) (by rw [c.hsc]; exact hz) hxy hxz hyz hl hl2 na nb nd nf nc)
            | none =>
            dsimp only
            cases hro : roadOf C sc ts vs with
            | stuck => exact badS
            | plain => exact plain (road_plain hro)
            | par i j =>
              obtain ⟨x, px, y, py, a, b, rfl, rfl, hcond, rfl, rfl, nf, nc⟩ := road_par hro
              unfold parOk at hcond
              simp only [Bool.and_eq_true, decide_eq_true_eq, Option.isSome_iff_exists] at hcond
              obtain ⟨⟨⟨⟨⟨⟨⟨⟨na, nb⟩, hl⟩, hx⟩, hy⟩, hk⟩, ⟨i, hi⟩⟩, ⟨j, hj⟩⟩, hij⟩ := hcond
              have hkk : X.env.scope.kind = .function := by rw [c.hsc]; exact hk
              have hxy : x ≠ y := fun z => by subst z; exact hij rfl
              have hij' : i ≠ j := fun z => by subst z; rw [hi, hj] at hij; exact hij rfl
              rw [hi, hj]
              exact par_ok c hf hx hy hi hj hij' na nb (par_road hkk (by rw [c.hsc]; exact hx) (by rw [c.hsc]; exact hy) hxy hl na nb nf nc)
          | _ => cases hte
      | Subscript o k p2 =>
        cases o with
        | Name x px =>
          show PS X _ (rdS G xr P W (if isSliceN k || !isVis sc x then bad else match C.N.idxOf? x with | some i => _ | none => bad))
          cases hk : isSliceN k with
          | true => exact badS
          | false =>
            cases hv : isVis sc x with
            | false => exact badS
            | true =>
              cases hi : C.N.idxOf? x with
              | none => exact badS
              | some i => exact store_ok c hf hk hv hi
        | _ => exact badS
      | _ => exact badS
    · cases tg <;> first | exact badS | (rename_i o _ _; cases o <;> exact badS)
  | AugAssign tg op e p =>
    cases tg with
    | Name x px =>
      show PS X _ (rdS G xr P W (match nameOf C sc x with | some i => _ | none => bad))
      cases hi : nameOf C sc x with
      | none => exact badS
      | some i => exact aug_ok c hf hi
    | _ => exact badS
  | Raise ex cause p =>
    show PS X _ (rdS G xr P W (match raiseOf ex cause with | some x => _ | none => bad))
    cases hro : raiseOf ex cause with
    | none => exact badS
    | some x =>
      obtain ⟨p1, m, j, p2, p3, rfl, rfl⟩ := raiseOf_some hro
      dsimp only
      by_cases hc : (C.excs.contains x && isGl sc x) = true
      · rw [if_pos hc]
        simp only [Bool.and_eq_true, List.contains_iff_mem] at hc
        exact raise_ok c hc.1 hc.2
      · rw [if_neg hc]; exact badS
  | Try body hs els fin p =>
    cases els with
    | cons _ _ => exact badS
    | nil =>
      cases fin with
      | cons _ _ => exact badS
      | nil =>
        show PS X _ (rdS G xr P W (if clsOk C sc hs then _ else bad))
        by_cases hc : clsOk C sc hs = true
        · rw [if_pos hc]
          exact try_ok c (fun W' pn xe c' => hr' W' pn xe c' body) hc
        · rw [if_neg hc]; exact badS
  | Pass p => exact nx_ok ps_pass fun _ _ _ h => h
  | Break p => exact ps_break.imp fun D σ H ⟨ρ, s, R0, h⟩ => h ρ σ H R0 Ext.refl
  | Continue p => exact ps_continue.imp fun D σ H ⟨ρ, s, R0, h⟩ => h ρ σ H R0 Ext.refl
  | _ => exact badS
theorem evB_all {n : Nat} : ∀ (m : Nat) {X : Cx} {W : WX}, CxS G C Φ xr sc wr X W → ∀ l, PSs X l (rdS G xr P W (evB C Φ n sc m l))
  | 0, X, W, c, l => ⟨fun pins s σ H D I h => by obtain ⟨_, _, _, h⟩ := h; exact h.elim⟩
  | m + 1, X, W, c, l => block_ok (stepS_ok c (evET_ok n).1 (evET_ok n).2 (evB_all m c) fun W' pn xe c' => evB_all m c')
theorem evB_ok (c : CxS G C Φ xr sc wr X W) {n : Nat} (m : Nat) (l : List Stmt) : PSs X l (rdS G xr P W (evB C Φ n sc m l)) := evB_all m c l
end
end Ev

set_option linter.all false
set_option maxRecDepth 100000
set_option maxHeartbeats 2000000
/-! Ev.O: defs, calls of any depth below a bound, the end -/
namespace Ev
open PySem PySem.Spec L2
/-- what the evaluator's table says of a def -/
structure DefT where
  name : Str
  st : Stmt
  C : CC
  ps : List Str
def DefT.e (d : DefT) : DefE := ⟨d.C, defScope d.st, d.ps.length, defBody d.st⟩
def ExK (K : PySem.W.Frag) (mg : Str → Option Value) (x : Str) (a : Addr) : Prop := mg x = some (.ref a) ∧ (x == ("__debug__" : Str)) = false ∧ PySem.W.excIn K a [.type "ValueError", .type "Exception", .type "BaseException", .type "object"] "ValueError.__new__" = true ∧
  PySem.W.keepIn K (.ref a) = true ∧ PySem.W.subIn K (.ref a) (.type "BaseException") = some true ∧ PySem.W.typeIn K (.ref a) = some (.type "type")
/-- how an exception lies: its class by its name -/
def exR (ea : Str → Option Addr) : XR := fun x cls d _ => ∃ a, ea x.cls = some a ∧ cls = .ref a ∧ d = none
structure TabOk (G : Env1) (tab : List DefT) (mg : Str → Option Value) (fd : Nat → FuncData) : Prop where
  fn : ∀ (n : Nat) (d : DefT), tab[n]? = some d → L2.Fun G.K d.name d.name d.st (G.fa n) (fd n) ∧ FnScope d.C.N d.ps (defScope d.st) ∧ Binds G.K (fd n) d.ps []
  const : ∀ (n : Nat) (d : DefT), tab[n]? = some d → ∀ (x : Str) (v : PV), d.C.glob.lookup x = some (GV.const v) → ∃ u V, mg x = some u ∧ RelV V u ∧ ∀ ρ T, RV G.K G.fa ρ T v V
  call : ∀ (n : Nat) (d : DefT), tab[n]? = some d → ∀ (x : Str) (m : Nat), d.C.glob.lookup x = some (GV.fn m) → mg x = some (.ref (G.fa m)) ∧ ∃ d', tab[m]? = some d'
  bi : ∀ (n : Nat) (d : DefT), tab[n]? = some d → ∀ x : Str, x ∈ biNames → d.C.glob.lookup x = none → mg x = none
  dbg : ∀ (n : Nat) (d : DefT), tab[n]? = some d → ∀ (x : Str) (g : GV), d.C.glob.lookup x = some g → (x == ("__debug__" : Str)) = false
  loc : ∀ (n : Nat) (d : DefT), tab[n]? = some d → ∀ (x : Str) (i : Nat), d.C.N.idxOf? x = some i → (x == ("__debug__" : Str)) = false ∧ (x == ("__classdict__" : Str)) = false
  exc : ∀ (n : Nat) (d : DefT), tab[n]? = some d → ∀ x : Str, x ∈ d.C.excs → ∃ a, G.ea x = some a ∧ ExK G.K mg x a
  sub : ∀ (n : Nat) (d : DefT), tab[n]? = some d → ∀ (x y : Str) (b : Bool), ((x, y), b) ∈ d.C.subs → SubF G.K G.ea mg x y b
section
variable {G : Env1} {tab : List DefT} {mg : Str → Option Value} {fd : Nat → FuncData} {prog : Program} {w : World} {base : Heap} {P : Hp}
theorem _root_.Ev.RoomG.gd {k : Nat} {A : Around} (q : RoomG k A) : A.guards = some [] ∧ A.units + 70 < cLine := ⟨q.g, by have := q.r.un; omega⟩
theorem start_rel {ρ : Rho} {st : List Cell} {H : Hp} {args : List PV} {vs : List V} {N : List Str} (R : Rel G.K G.fa P ρ ⟨[], st⟩ [] H) (r : RVs G.K G.fa ρ (cut H ρ) args vs) (hl : vs.length ≤ N.length) :
    Rel G.K G.fa P ρ ⟨args.map .val ++ List.replicate (N.length - args.length) .none, st⟩ (L2.start N vs) H := by
  have hn : ∀ i, ρ (.slot i) = none := fun i => by
    have q := R.slot i
    rw [show (⟨[], st⟩ : ES).env[i]? = none from rfl] at q
    exact q
  have el := r.length
  refine ⟨R.inj, R.base, fun i => ?_, R.box, R.tmp, R.held, ?_⟩
  · show SlotR _ _ _ _ _ i (args.map Sl.val ++ List.replicate (N.length - args.length) Sl.none)[i]?
    by_cases hi : i < args.length
    · rw [List.getElem?_append_left (by simpa using hi), List.getElem?_map, List.getElem?_eq_getElem hi]
      obtain ⟨V, h1, h2⟩ := r.get (i := i) (List.getElem?_eq_getElem hi)
      refine ⟨hn i, V, ?_, h2⟩
      unfold L2.start
      rw [List.getElem?_append_left (by simp; omega), List.getElem?_map, h1]
      rfl
    · rw [List.getElem?_append_right (by simp; omega), List.getElem?_replicate]
      split
      · exact hn i
      · exact hn i
  · unfold L2.start
    simp only [List.length_append, List.length_map, List.length_replicate]
    omega
theorem fn_ok (T : TabOk G tab mg fd) {Φ : Orc} {k n : Nat} {d : DefT} (hd : tab[n]? = some d)
    (ih : ∀ m d', tab[m]? = some d' → FnG prog w G.K mg base (L2.CX prog w) k (G.fa m) (fd m) d'.ps (spEv G (exR G.ea) Φ m)) {Φ' : Orc} (hΦ : ∀ args st, Φ' n args st = evFn d.e Φ args st) :
    FnG prog w G.K mg base (L2.CX prog w) (k + 1) (G.fa n) (fd n) d.ps (spEv G (exR G.ea) Φ' n) := by
  obtain ⟨F, S, B⟩ := T.fn n d hd
  have hpl : d.ps.length ≤ d.C.N.length := by have := congrArg List.length S.pre; rw [List.length_take] at this; omega
  have alen : ∀ {args : List PV} {st : List Cell}, evFn d.e Φ args st ≠ .bad → args.length = d.ps.length := fun {args st} h => by
    unfold evFn at h
    by_cases e : args.length = d.e.np
    · exact e
    · rw [if_neg e] at h; exact absurd rfl h
  refine okG F S (fun vs H Q E h => ?_) fun cdv A outer s H vs Q E hr h => ?_
  · obtain ⟨P, ρ, st, args, R, r, h⟩ := h
    rw [← r.length]
    refine alen (st := st) fun z => ?_
    rw [hΦ, z] at h
    exact h
  · obtain ⟨P, ρ, st, args, R, r, h⟩ := h
    rw [hΦ] at h
    have al : args.length = d.ps.length := alen (st := st) fun z => by rw [z] at h; exact h
    refine ⟨rdS G (exR G.ea) P (fun cls d _ H => E cls d H) (evB d.C Φ 40 (defScope d.st) 20 (defBody d.st)), ?_, ?_⟩
    · refine evB_ok (C := d.C) (Φ := Φ) (sc := defScope d.st) (wr := defScope d.st) ⟨⟨rfl, rfl, S.nd, rfl, rfl, hr.r.units, hr.gd, ⟨T.const n d hd, fun x m hx => ?_, T.bi n d hd, T.dbg n d hd, T.loc n d hd⟩, takes_of rfl rfl rfl rfl, fun x hx => ⟨?_, .inl rfl⟩⟩, passes_of rfl, fun x hx => ?_, rfl, fun _ _ _ _ h => h, T.sub n d hd, rfl, rfl⟩ 20 _
      · obtain ⟨h1, d', h2⟩ := T.call n d hd x m hx
        obtain ⟨F', _, B'⟩ := T.fn m d' h2
        exact ⟨h1, k, fd m, d'.ps, ih m d' h2, hr, F'.kp, B'⟩
      · rcases isLoc_iff hx with q | q
        · exact .inl q
        · exact .inr q
      · obtain ⟨a, ha, e1, e2, e3, e4, e5, e6⟩ := T.exc n d hd x hx
        exact ⟨a, ⟨e1, e2, e3, e4, raises_own e5 e6⟩, fun H => ⟨a, ha, rfl, rfl⟩⟩
    · refine ⟨ρ, _, start_rel (N := d.C.N) R r (by rw [← r.length, al]; exact hpl), ?_⟩
      have e : evFn d.e Φ args st = (match evB d.C Φ 40 (defScope d.st) 20 (defBody d.st) ⟨args.map .val ++ List.replicate (d.C.N.length - args.length) .none, st⟩ with
        | .ok f s => match f with
          | .nx => FOut.ok (.val .non) s.st
          | .rt (.val v) => .ok (.val v) s.st
          | .rt (.fresh c) => .ok (.fresh c) s.st
          | _ => .bad
        | .exc x s => .exc x s.st
        | .bad => .bad) := by
        unfold evFn
        rw [if_pos (show args.length = d.e.np from al)]
        rfl
      rw [e] at h
      generalize evB d.C Φ 40 (defScope d.st) 20 (defBody d.st) ⟨args.map .val ++ List.replicate (d.C.N.length - args.length) .none, st⟩ = o at h ⊢
      cases o with
      | bad => exact h
      | exc x s' =>
        intro ρ' σ' H' cls dd R' E' q
        exact h _ H' cls dd (R'.exit (ρ₀ := ρ)) (exit_ext E') q
      | ok f s' =>
        intro ρ' σ' H' R' E'
        have lc : Le (cut H' ρ') (cut H' (exitN ρ ρ')) := cut_sub fun nm a h => ⟨nm, exitN_sub nm a h⟩
        cases f with
        | nx => exact h _ H' .non (R'.exit (ρ₀ := ρ)) (exit_ext E') .non
        | bk => exact h.elim
        | ct => exact h.elim
        | rt r =>
          intro V hV
          cases r with
          | val v =>
            refine h _ H' V (R'.exit (ρ₀ := ρ)) (exit_ext E') ?_
            exact RV.mono lc (show BoxLe ρ' (exitN ρ ρ') from fun _ _ h => h) hV
          | fresh c =>
            refine h _ H' V (R'.exit (ρ₀ := ρ)) (exit_ext E') ?_
            obtain ⟨a, e1, e2, e3⟩ := hV
            exact ⟨a, e1, e2, e3.mono lc (show BoxLe ρ' (exitN ρ ρ') from fun _ _ h => h)⟩
          | pk i => exact h.elim
theorem tab_ok (T : TabOk G tab mg fd) : ∀ k n d, tab[n]? = some d → FnG prog w G.K mg base (L2.CX prog w) k (G.fa n) (fd n) d.ps (spEv G (exR G.ea) (evP (tab.map DefT.e) k) n)
  | 0, n, d, _ => by
    have no : ∀ vs H Q E, ¬ spEv G (exR G.ea) (evP (tab.map DefT.e) 0) n vs H Q E := fun vs H Q E h => by
      obtain ⟨P, ρ, st, args, R, r, h⟩ := h
      exact h
    exact ⟨fun vs H Q E h => absurd h (no vs H Q E), fun A outer s H args us vs Q E _ _ _ _ h => absurd h (no vs H Q E)⟩
  | k + 1, n, d, hd => fn_ok T hd (tab_ok T k) fun args st => by
    show (match (tab.map DefT.e)[n]? with | some D => evFn D (evP (tab.map DefT.e) k) args st | none => .bad) = _
    rw [List.getElem?_map, hd]
    rfl
/-- what a script's list is -/
theorem law_sp {Φ : Orc} {n : Nat} {H : Hp} {a : Addr} {ns : List Int} (hS : SqL G.K H a (ns.map V.int)) (h : ∃ st, Φ n [.scr ns] [] = .ok (.val (.bl true)) st) :
    spEv G (exR G.ea) Φ n [.ref a] H (fun v _ => v = .bl true) fun _ _ _ => False := by
  obtain ⟨st, h⟩ := h
  have ce : cut H (fun _ => none) = H := by
    funext b
    unfold cut
    rw [if_neg (by simp)]
  refine ⟨H, fun _ => none, [], [.scr ns], ⟨(fun _ _ _ h => nomatch h), fun b o h => by rw [ce]; exact h, fun i => ?_, fun i => ?_, (fun _ _ h => nomatch h), (fun _ _ h => nomatch h), rfl⟩, .cons (.scr (by rw [ce]; exact hS)) .nil, ?_⟩
  · show SlotR _ _ _ _ _ i ([] : List Sl)[i]?
    rw [List.getElem?_nil]; rfl
  · show BoxR _ _ _ _ i ([] : List Cell)[i]?
    rw [List.getElem?_nil]; rfl
  · rw [h]
    intro ρ' H' V _ _ hV
    have hV : RV _ _ _ _ _ _ := hV
    cases hV
    rfl
end
example : Room 200 callerA := ⟨by decide, by decide, by decide⟩
end Ev

set_option linter.all false
set_option maxRecDepth 100000
set_option maxHeartbeats 1000000
/-! Ev.P: from the top's facts to a law's promise -/
namespace Ev
open PySem PySem.Spec L2
structure DefF (K : PySem.W.Frag) (d : DefT) (f : Addr) : Prop where
  ns : PySem.W.nsIn K mainGlobals d.name = some (some (.ref f))
  ex : ∃ fd, L2.Fun K d.name d.name d.st f fd ∧ ∀ us : List Value, us.length = d.ps.length → bindArgs fd ⟨us, []⟩ = pure (d.ps.zip us)
theorem defF_mk {K : PySem.W.Frag} {d : DefT} {nm : Str} {st : Stmt} {f : Addr} {oc kV dc pm cd ct : Value} {od an : Option Addr} {sl : Array (Option Value)} (hn : d.name = nm) (hs : d.st = st) (a : PySem.W.nsIn K mainGlobals nm = some (some (.ref f)))
    (l : K.lookup f = some ⟨oc, od, .func (PySem.W.fnOf nm nm (defArgs st) (defBody st) (defScope st) .none kV dc pm an cd ct), sl⟩) (c : PySem.W.codeIn K cd nm = true) (k : PySem.W.keepIn K (.ref f) = true)
    (b : ∀ (kV dc pm : Value) (an : Option Addr) (cd ct : Value) (us : List Value), us.length = d.ps.length → bindArgs (PySem.W.fnOf nm nm (defArgs st) (defBody st) (defScope st) .none kV dc pm an cd ct) ⟨us, []⟩ = pure (d.ps.zip us)) : DefF K d f := by
  subst hn hs
  exact ⟨a, _, fun_mk l c k, b _ _ _ _ _ _⟩
def CstOk (K : PySem.W.Frag) (mg : Str → Option Value) (x : Str) (v : PV) : Prop := ∃ u V, mg x = some u ∧ RelV V u ∧ ∀ fa ρ T, RV K fa ρ T v V
theorem cst_int {K : PySem.W.Frag} {h : Heap} {mg : Str → Option Value} {x : Str} {i : Int} {t : Tok} (X : K.In h) (N : h.Ns mainGlobals mg) (a : PySem.W.nsIn K mainGlobals x = some (some (.int i t))) : CstOk K mg x (.int i) :=
  ⟨_, .int i, PySem.W.mg_of X N a, ⟨t, rfl⟩, fun _ _ _ => .int i⟩
theorem cst_str {K : PySem.W.Frag} {h : Heap} {mg : Str → Option Value} {x y : Str} {t : Tok} (X : K.In h) (N : h.Ns mainGlobals mg) (a : PySem.W.nsIn K mainGlobals x = some (some (.str y t))) : CstOk K mg x (.str y) :=
  ⟨_, .str y, PySem.W.mg_of X N a, ⟨t, rfl⟩, fun _ _ _ => .str y⟩
def flatAll : List PV → Bool
  | [] => true
  | .int _ :: r => flatAll r
  | .str _ :: r => flatAll r
  | .bl _ :: r => flatAll r
  | .non :: r => flatAll r
  | _ => false
theorem flat_rvs {K : PySem.W.Frag} {fa : Nat → Addr} {ρ : Rho} {T : Hp} : ∀ (vs : List PV), flatAll vs = true → RVs K fa ρ T vs (vs.map fV)
  | [], _ => .nil
  | .int i :: r, h => .cons (.int i) (flat_rvs r h)
  | .str i :: r, h => .cons (.str i) (flat_rvs r h)
  | .bl i :: r, h => .cons (.bl i) (flat_rvs r h)
  | .non :: r, h => .cons .non (flat_rvs r h)
theorem cst_tup {K : PySem.W.Frag} {h : Heap} {mg : Str → Option Value} {x : Str} {a : Addr} {od : Option Addr} {its : Array Value} {n : Nat} {sl : Array (Option Value)} {vs : List PV} (X : K.In h) (N : h.Ns mainGlobals mg) (q : PySem.W.nsIn K mainGlobals x = some (some (.ref a)))
    (l : K.lookup a = some ⟨.type "tuple", od, .seq its n, sl⟩) (hv : Vals (vs.map fV) its.toList) (hs : (vs.length : Nat) ≤ 1000) (hf : flatAll vs = true) : CstOk K mg x (.tup vs) :=
  ⟨_, .ref a, PySem.W.mg_of X N q, rfl, fun fa ρ T => .tup (.inr ⟨_, its, n, l, rfl, rfl, by rw [sizeLine_eq]; have := hv.length; rw [List.length_map] at this; simp at this; omega, hv⟩) (flat_rvs vs hf)⟩
theorem lookup_mem {β : Type} {x : Str} {y : β} : ∀ {l : List (Str × β)}, l.lookup x = some y → (x, y) ∈ l
  | [], h => by cases h
  | (a, b) :: l, h => by
    rw [List.lookup_cons] at h
    cases e : x == a with
    | true =>
      rw [e] at h
      cases h
      rw [beq_iff_eq] at e
      subst e
      exact List.mem_cons_self ..
    | false =>
      rw [e] at h
      exact List.mem_cons_of_mem _ (lookup_mem h)
/-- what law(script) promises -/
def spLawE (K : PySem.W.Frag) (okS : List Int → Prop) : Sp := fun vs H Q _ => ∃ (a : Addr) (ns : List Int), vs = [.ref a] ∧ SqL K H a (ns.map V.int) ∧ okS ns ∧ ∀ H', Q (.bl true) H'
theorem law_spE {G : Env1} {Φ : Orc} {n : Nat} {okS : List Int → Prop} (math : ∀ ns, okS ns → ∃ st, Φ n [.scr ns] [] = .ok (.val (.bl true)) st) : ∀ vs H Q E, spLawE G.K okS vs H Q E → spEv G (exR G.ea) Φ n vs H Q E := by
  rintro vs H Q E ⟨a, ns, rfl, hS, hk, q⟩
  obtain ⟨st, h⟩ := math ns hk
  have ce : cut H (fun _ => none) = H := by
    funext b
    unfold cut
    rw [if_neg (by simp)]
  refine ⟨H, fun _ => none, [], [.scr ns], ⟨(fun _ _ _ h => nomatch h), fun b o h => by rw [ce]; exact h, fun i => ?_, fun i => ?_, (fun _ _ h => nomatch h), (fun _ _ h => nomatch h), rfl⟩, .cons (.scr (by rw [ce]; exact hS)) .nil, ?_⟩
  · show SlotR _ _ _ _ _ i ([] : List Sl)[i]?
    rw [List.getElem?_nil]; rfl
  · show BoxR _ _ _ _ i ([] : List Cell)[i]?
    rw [List.getElem?_nil]; rfl
  · rw [h]
    intro ρ' H' V _ _ hV
    have hV : RV _ _ _ _ _ _ := hV
    cases hV
    exact q H'
/-- what the top must say of two classes -/
def SubK (K : PySem.W.Frag) (mg : Str → Option Value) (EX : List Str) (p : (Str × Str) × Bool) : Prop := ∃ ax ay, p.1.1 ∈ EX ∧ mg p.1.1 = some (.ref ax) ∧ mg p.1.2 = some (.ref ay) ∧ (p.1.2 == ("__debug__" : Str)) = false ∧
  PySem.W.exmOne K (.ref ax) (.ref ay) = some p.2 ∧ PySem.W.kitOne K (.ref ax) (.ref ay) = some p.2 ∧ ExcC K ax
def eaOf (mg : Str → Option Value) (EX : List Str) (x : Str) : Option Addr := match mg x with
  | some (.ref a) => if EX.contains x then some a else none
  | _ => none
theorem eaOf_in {mg : Str → Option Value} {EX : List Str} {x : Str} {a : Addr} (h : x ∈ EX) (m : mg x = some (.ref a)) : eaOf mg EX x = some a := by
  unfold eaOf
  rw [m]
  dsimp only
  rw [if_pos (by simpa using h)]
theorem exk_mk {K : PySem.W.Frag} {h : Heap} {mg : Str → Option Value} {x : Str} {a : Addr} (X : K.In h) (N : h.Ns mainGlobals mg) (q : PySem.W.nsIn K mainGlobals x = some (some (.ref a))) (d : (x == ("__debug__" : Str)) = false)
    (e : PySem.W.excIn K a [.type "ValueError", .type "Exception", .type "BaseException", .type "object"] "ValueError.__new__" = true) (k : PySem.W.keepIn K (.ref a) = true) (s : PySem.W.subIn K (.ref a) (.type "BaseException") = some true) (t : PySem.W.typeIn K (.ref a) = some (.type "type")) : ∃ a, ExK K mg x a :=
  ⟨a, PySem.W.mg_of X N q, d, e, k, s, t⟩
theorem subk_mk {K : PySem.W.Frag} {h : Heap} {mg : Str → Option Value} {EX : List Str} {x y : Str} {b : Bool} {ax ay : Addr} (X : K.In h) (N : h.Ns mainGlobals mg) (m : x ∈ EX) (q : PySem.W.nsIn K mainGlobals x = some (some (.ref ax))) (q' : PySem.W.nsIn K mainGlobals y = some (some (.ref ay))) (d : (y == ("__debug__" : Str)) = false)
    (e : PySem.W.exmOne K (.ref ax) (.ref ay) = some b) (k : PySem.W.kitOne K (.ref ax) (.ref ay) = some b) (C : ExcC K ax) : SubK K mg EX ((x, y), b) :=
  ⟨ax, ay, m, PySem.W.mg_of X N q, PySem.W.mg_of X N q', d, e, k, C⟩
open Classical in
theorem finishL {prog : Program} {w : World} {K : PySem.W.Frag} {h : Heap} {mg : Str → Option Value} {fa0 : Addr} {tab : List DefT} {GL : List (Str × GV)} {EX : List Str} {SB : List ((Str × Str) × Bool)} {KK nL : Nat} {dL : DefT} {okS : List Int → Prop} (X : K.In h) (N : h.Ns mainGlobals mg) (hfa : mg "law" = some (.ref fa0))
    (hD : ∀ d ∈ tab, ∃ f, DefF K d f) (hS : ∀ d ∈ tab, FnScope d.C.N d.ps (defScope d.st)) (hL : tab[nL]? = some dL) (hn : dL.name = "law") (hps : dL.ps = ([("script" : Str)] : List Str)) (hgl : ∀ d ∈ tab, d.C.glob = GL ∧ d.C.excs = EX ∧ d.C.subs = SB) (hX : ∀ x ∈ EX, ∃ a, ExK K mg x a) (hB : ∀ p ∈ SB, SubK K mg EX p)
    (hF : ∀ (x : Str) (m : Nat), (x, GV.fn m) ∈ GL → ∃ d, tab[m]? = some d ∧ d.name = x) (hC : ∀ (x : Str) (v : PV), (x, GV.const v) ∈ GL → CstOk K mg x v)
    (hbi : ∀ x : Str, x ∈ biNames → GL.lookup x = none → mg x = none) (hdbg : GL.all (fun p => !(p.1 == ("__debug__" : Str))) = true)
    (hloc : tab.all (fun d => d.C.N.all fun x => !(x == ("__debug__" : Str)) && !(x == ("__classdict__" : Str))) = true)
    (math : ∀ ns, okS ns → ∃ st, evP (tab.map DefT.e) KK nL [.scr ns] [] = .ok (.val (.bl true)) st) :
    ∃ fd : FuncData, (∀ (s : Shared) (v : Value), BindsTo s fd ⟨[v], []⟩ [("script", v)]) ∧ ∀ base : Heap, K.In base → base.Ns mainGlobals mg → FnG prog w K mg base (L2.CX prog w) KK fa0 fd ["script"] (spLawE K okS) := by
  have mem : ∀ {n d}, tab[n]? = some d → d ∈ tab := fun e => List.mem_of_getElem? e
  have hP : ∀ n : Nat, ∃ q : Addr × FuncData, ∀ d, tab[n]? = some d → PySem.W.nsIn K mainGlobals d.name = some (some (.ref q.1)) ∧ L2.Fun K d.name d.name d.st q.1 q.2 ∧ ∀ us : List Value, us.length = d.ps.length → bindArgs q.2 ⟨us, []⟩ = pure (d.ps.zip us) := by
    intro n
    cases e : tab[n]? with
    | none =>
      obtain ⟨f, D⟩ := hD dL (mem hL)
      obtain ⟨fd, _⟩ := D.ex
      exact ⟨(f, fd), fun d h => nomatch h⟩
    | some d =>
      obtain ⟨f, D⟩ := hD d (mem e)
      obtain ⟨fd, h1, h2⟩ := D.ex
      exact ⟨(f, fd), fun d' h => by cases h; exact ⟨D.ns, h1, h2⟩⟩
  let pk := fun n => Classical.choose (hP n)
  have hpk : ∀ n d, tab[n]? = some d → _ := fun n => Classical.choose_spec (hP n)
  let G : Env1 := ⟨K, fun n => (pk n).1, eaOf mg EX⟩
  have T : TabOk G tab mg (fun n => (pk n).2) := by
    refine ⟨fun n d hd => ⟨(hpk n d hd).2.1, hS d (mem hd), .all (hpk n d hd).2.2⟩, fun n d hd x v hx => ?_, fun n d hd x m hx => ?_, fun n d hd x hx hz => ?_, fun n d hd x g hx => ?_, fun n d hd x i hx => ?_, fun n d hd x hx => ?_, fun n d hd x y b hx => ?_⟩
    · rw [(hgl d (mem hd)).1] at hx
      obtain ⟨u, V, h1, h2, h3⟩ := hC x v (lookup_mem hx)
      exact ⟨u, V, h1, h2, h3 _⟩
    · rw [(hgl d (mem hd)).1] at hx
      obtain ⟨d', h1, rfl⟩ := hF x m (lookup_mem hx)
      exact ⟨PySem.W.mg_of X N (hpk m d' h1).1, d', h1⟩
    · rw [(hgl d (mem hd)).1] at hz
      exact hbi x hx hz
    · rw [(hgl d (mem hd)).1] at hx
      have := List.all_eq_true.mp hdbg _ (lookup_mem hx)
      simpa using this
    · have h1 := List.all_eq_true.mp hloc d (mem hd)
      have h2 := List.all_eq_true.mp h1 x (List.mem_of_getElem? (idx_get hx))
      simpa using h2
    · rw [(hgl d (mem hd)).2.1] at hx
      obtain ⟨a, ha⟩ := hX x hx
      exact ⟨a, eaOf_in hx ha.1, ha⟩
    · rw [(hgl d (mem hd)).2.2] at hx
      obtain ⟨ax, ay, h1, h2, h3, h4, h5, h6, h7⟩ := hB _ hx
      exact ⟨ax, ay, eaOf_in h1 h2, h3, h4, h5, h6, h7⟩
  have ef := PySem.W.mg_of X N (hpk nL dL hL).1
  rw [hn, hfa] at ef
  cases ef
  refine ⟨(pk nL).2, fun s v => ?_, fun base _ _ => ?_⟩
  · have b := (hpk nL dL hL).2.2 [v] (by rw [hps]; rfl)
    rw [hps] at b
    exact .of_eq b
  · have F := tab_ok (prog := prog) (w := w) (base := base) T KK nL dL hL
    rw [hps] at F
    exact ⟨fun vs H Q E h => F.len vs H Q E (law_spE (G := G) math _ _ _ _ h), fun B outer s H args us xs Q E r e0 hb hv h => F.run B outer s H args us xs Q E r e0 hb hv (law_spE (G := G) math _ _ _ _ h)⟩
theorem cxE {prog : Program} {w : World} {H : Hp} {s : Shared} {e : Value} {s' : Shared} (h : L2.CX prog w [] H s (fun _ _ _ => False) e s') : False := by
  obtain ⟨_, _, _, _, _, _, _, _, _, _, _, _, z⟩ := h
  exact z.elim
/-- the end: the walk of a law row -/
theorem walkE {l : PySem.W.OpenLaw} {q : Program} {loose : List Str} {XP : (Str → Option Value) → Heap → Prop} {YP : World → Heap → Prop} {d : DefRec} {K : Params → PySem.W.Frag} (hn : l.most = some 63) (hdf : d.params.defaults = [])
    (hY : ∀ (w : World) (h : Heap), YP w h → (K w.params).In h)
    (F : ∀ (w : World) (mg : Str → Option Value) (fa : Addr) (h : Heap), (K w.params).In h → h.Ns mainGlobals mg → mg d.name = some (.ref fa) →
      ∃ fd : FuncData, (∀ (s : Shared) (u : Value), BindsTo s fd ⟨[u], []⟩ [("script", u)]) ∧ ∀ base : Heap, (K w.params).In base → base.Ns mainGlobals mg → FnG l.prog w (K w.params) mg base (L2.CX l.prog w) 150 fa fd ["script"] (spLawE (K w.params) fun ns => ns.length ≤ 63 ∧ ∀ z ∈ ns, Builtin.Int.intBits z ≤ 1048576)) :
    PySem.W.WalkO q loose XP YP l.row.toRowW d [] (fun f vs => PySem.call f vs) :=
  walk_ofG (n := 63) (k := 150) (x := "script") (CXq := fun w => L2.CX l.prog w) (spp := fun w => spLawE (K w.params) _) hn (by decide) hdf ⟨rfl, by decide, by decide⟩ hY F (fun _ _ a ns hl hb _ hS => ⟨a, ns, rfl, hS, ⟨hl, hb⟩, fun _ => rfl⟩) fun _ _ _ _ _ z => cxE z
theorem all_nil {α : Type} {P : α → Prop} : ∀ d ∈ ([] : List α), P d := fun _ h => nomatch h
theorem all_cons {α : Type} {P : α → Prop} {a : α} {l : List α} (h : P a) (t : ∀ d ∈ l, P d) : ∀ d ∈ a :: l, P d := fun d hd => by
  rcases List.mem_cons.mp hd with e | e
  · subst e; exact h
  · exact t d e
def fnsOk (tab : List DefT) (GL : List (Str × GV)) : Bool := GL.all fun p => match p.2 with
  | .fn m => (match tab[m]? with | some d => d.name == p.1 | none => false)
  | .const _ => true
theorem fns_of {tab : List DefT} {GL : List (Str × GV)} (h : fnsOk tab GL = true) (x : Str) (m : Nat) (hm : (x, GV.fn m) ∈ GL) : ∃ d, tab[m]? = some d ∧ d.name = x := by
  have q := List.all_eq_true.mp h _ hm
  cases e : tab[m]? with
  | none => simp only [e] at q; cases q
  | some d => simp only [e] at q; exact ⟨d, rfl, by simpa using q⟩
def constsOf (GL : List (Str × GV)) : List (Str × PV) := GL.filterMap fun p => match p.2 with
  | .const v => some (p.1, v)
  | .fn _ => none
theorem consts_of {GL : List (Str × GV)} {P : Str × PV → Prop} (h : ∀ p ∈ constsOf GL, P p) (x : Str) (v : PV) (hm : (x, GV.const v) ∈ GL) : P (x, v) :=
  h (x, v) (List.mem_filterMap.mpr ⟨_, hm, rfl⟩)
end Ev

set_option linter.all false
set_option maxRecDepth 100000
set_option maxHeartbeats 1000000
/-! Ev.Q: the evaluator's steps as short words (what a def's text comes to) -/
namespace Ev
open PySem PySem.Spec L2
def seqM : List (M RE) → M (List RE)
  | [] => ret []
  | m :: ms => bnd m fun r => bnd (seqM ms) fun rs => ret (r :: rs)
def xBin (op : Operator) (a b : M RE) : M RE := bnd a fun r => bnd b fun r' => lift2 (binV op) r r'
def xCmp (op : CmpOp) (a b : M RE) : M RE := bnd a fun r => bnd b fun r' => cmpM op r r'
def xCmp2 (op op' : CmpOp) (a b c : M RE) : M RE := bnd a fun r => bnd b fun r' => bnd (cmpM op r r') fun x => bnd (asBool x) fun k => if k then bnd c fun r'' => cmpM op' r' r'' else ret (.val (.bl false))
def xSub (a b : M RE) : M RE := bnd a fun r => bnd b fun r' => subM r r'
def xNeg (a : M RE) : M RE := bnd a fun r => lift1 negV r
def xNot (a : M RE) : M RE := bnd a fun r => bnd (truM r) fun b => ret (.val (.bl (!b)))
def xIf (t : M Bool) (a b : M RE) : M RE := bnd t fun c => if c then a else b
def xTup (ms : List (M RE)) : M RE := bnd (seqM ms) fun rs => bnd (shares rs) fun vs => if vs.length ≤ LIM then ret (.val (.tup vs)) else bad
def xLst (ms : List (M RE)) : M RE := bnd (seqM ms) fun rs => bnd (shares rs) fun vs => if vs.length ≤ LIM then ret (.fresh (.lst vs)) else bad
def xCall (Φ : Orc) (n : Nat) (ms : List (M RE)) : M RE := bnd (seqM ms) fun rs => bnd (shares rs) fun vs => callM Φ n vs
def xBi (b : Bi) (ms : List (M RE)) : M RE := bnd (seqM ms) fun rs => liftN (biV b) rs
def xIsi (t : Str) (a : M RE) : M RE := bnd a fun r => lift1 (fun v => (isInst v t).map fun b => .val (.bl b)) r
def xBool (op : BoolOp) : List (M RE) → M RE
  | [] => bad
  | [m] => m
  | m :: ms => bnd m fun r => bnd (truM r) fun b => match op with
    | .And => if b then xBool op ms else ret r
    | .Or => if b then ret r else xBool op ms
def tBool (op : BoolOp) : List (M Bool) → M Bool
  | [] => bad
  | [m] => m
  | m :: ms => bnd m fun b => match op with
    | .And => if b then tBool op ms else ret false
    | .Or => if b then ret true else tBool op ms
def tNot (t : M Bool) : M Bool := bnd t fun b => ret (!b)
def xPart : Option (M RE) → M (Option Int)
  | none => ret none
  | some m => bnd m fun r s => match deref s r with
    | some (.int i) => .ok (some i) s
    | _ => .bad
def xSl (a : M RE) (lo hi : Option (M RE)) : M RE := bnd a fun r => bnd (xPart lo) fun l => bnd (xPart hi) fun h => lift1 (fun v => slV v l h) r
def xRev (a : M RE) : M RE := bnd a fun r => lift1 revV r
def xComp (own : List Nat) (tgt : PV → M Unit) (tst : M Bool) (elt : M RE) (it : M (List PV)) : M RE := bnd it fun xs => compM own tgt tst elt xs
def xApp (i : Nat) (a : M RE) : M RE := bnd (chkL i) fun _ => bnd a fun r => bnd (share r) fun v => appendM i v
def xPopAt (i : Nat) (a : M RE) : M RE := bnd (chkL i) fun _ => bnd a fun r => popAtM i r
def iOf (a : M RE) : M (List PV) := bnd a fun r => bnd (share r) itemsM
def iRng1 (a : M RE) : M (List PV) := bnd a rng1M
def iRng2 (a b : M RE) : M (List PV) := bnd a fun r => bnd b fun r' => rng2M r r'
def iZip (a b : M RE) : M (List PV) := bnd a fun r => bnd b fun r' => bnd (share r) fun u => bnd (share r') fun v => bnd (itemsM u) fun xs => bnd (itemsM v) fun ys => ret (zipP xs ys)
def iEnum (a : M RE) : M (List PV) := bnd a fun r => bnd (share r) fun u => bnd (itemsM u) fun xs => ret (enumP 0 xs)
def setSlots : List Nat → List PV → M Unit
  | [], [] => ret ()
  | i :: is, v :: vs => bnd (setSlot i v) fun _ => setSlots is vs
  | _, _ => bad
def tupAsg (is : List Nat) (v : PV) : M Unit := match v with
  | .tup xs => setSlots is xs
  | _ => bad
def seqB : List (M Fl) → M Fl
  | [] => ret .nx
  | [m] => m
  | m :: r => thenM m (seqB r)
def sEx (e : M RE) : M Fl := bnd e fun _ => ret .nx
def sRet (e : M RE) : M Fl := bnd e retM
def sIf (t : M Bool) (a b : M Fl) : M Fl := bnd t fun k => if k then a else b
def sFor (asg : PV → M Unit) (body : M Fl) (it : M (List PV)) : M Fl := bnd it fun xs => forM asg body xs
def sSet (i : Nat) (bx : Bool) (e : M RE) : M Fl := bnd e fun r => bnd (asgR i bx r) fun _ => ret .nx
def sUn (asg : PV → M Unit) (e : M RE) : M Fl := bnd e fun r => bnd (share r) fun v => bnd (asg v) fun _ => ret .nx
def sPar (i j : Nat) (a b : M RE) : M Fl := bnd (parM i j false false a b) fun _ => ret .nx
def sPar3 (i j l : Nat) (a b c : M RE) : M Fl := bnd (parM3 i j l a b c) fun _ => ret .nx
def tIfE (t a b : M Bool) : M Bool := bnd t fun c => if c then a else b
def sSto (i : Nat) (e k : M RE) : M Fl := bnd e fun r => bnd (share r) fun v => bnd (chkS i) fun _ => bnd k fun rk => bnd (storeM i v rk) fun _ => ret .nx
def sAug (op : Operator) (i : Nat) (e : M RE) : M Fl := bnd (chkS i) fun _ => bnd e fun r => bnd (augM op i r) fun _ => ret .nx
/-- a def's run: its slots, then its body -/
def runD (np nN : Nat) (m : M Fl) (args : List PV) (st : List Cell) : FOut := if args.length = np then match m ⟨args.map .val ++ List.replicate (nN - args.length) .none, st⟩ with
    | .ok f s => match f with
      | .nx => .ok (.val .non) s.st
      | .rt (.val v) => .ok (.val v) s.st
      | .rt (.fresh c) => .ok (.fresh c) s.st
      | _ => .bad
    | .exc x s => .exc x s.st
    | .bad => .bad
  else .bad
theorem run_eq {tab : List DefE} {k n : Nat} {D : DefE} {m : M Fl} (hD : tab[n]? = some D) (e : evB D.C (evP tab k) 40 D.sc 20 D.body = m) : evP tab (k + 1) n = runD D.np D.C.N.length m := by
  funext args st
  show (match tab[n]? with | some D => evFn D (evP tab k) args st | none => .bad) = _
  rw [hD]
  show evFn D (evP tab k) args st = _
  unfold evFn runD
  rw [e]
  first | done | rfl
end Ev

set_option linter.all false
set_option maxRecDepth 100000
set_option maxHeartbeats 1000000
set_option exponentiation.threshold 10000
/-! Ev.X: how the short words run (rules for simp) -/
namespace Ev
open PySem PySem.Spec L2
def Out.bind {α β : Type} (o : Out α) (f : α → M β) : Out β := match o with
  | .ok a s => f a s
  | .exc x s => .exc x s
  | .bad => .bad
@[simp] theorem bnd_run {α β : Type} (m : M α) (f : α → M β) (s : ES) : bnd m f s = (m s).bind f := rfl
@[simp] theorem bind_ok {α β : Type} (a : α) (s : ES) (f : α → M β) : (Out.ok a s).bind f = f a s := rfl
@[simp] theorem bind_exc {α β : Type} (x : Ex) (s : ES) (f : α → M β) : (Out.exc x s : Out α).bind f = .exc x s := rfl
@[simp] theorem bind_bad {α β : Type} (f : α → M β) : (Out.bad : Out α).bind f = .bad := rfl
@[simp] theorem ret_run {α : Type} (a : α) (s : ES) : ret a s = .ok a s := rfl
@[simp] theorem bad_run {α : Type} (s : ES) : (bad : M α) s = .bad := rfl
@[simp] theorem rdSlot_run (i : Nat) (env : List Sl) (st : List Cell) : rdSlot i ⟨env, st⟩ = (match env[i]? with
  | some (.val v) => .ok (.val v) ⟨env, st⟩
  | some (.own _) => .ok (.pk i) ⟨env, st⟩
  | _ => .bad) := rfl
@[simp] theorem deref_val (s : ES) (v : PV) : deref s (.val v) = some v := rfl
@[simp] theorem deref_fresh (s : ES) (c : Cell) : deref s (.fresh c) = some c.val := rfl
@[simp] theorem deref_pk (env : List Sl) (st : List Cell) (i : Nat) : deref ⟨env, st⟩ (.pk i) = (match env[i]? with
  | some (.own c) => some c.val
  | some (.val v) => some v
  | _ => none) := rfl
def optO (o : Option RE) (s : ES) : Out RE := match o with
  | some x => .ok x s
  | none => .bad
@[simp] theorem optO_some (x : RE) (s : ES) : optO (some x) s = .ok x s := rfl
@[simp] theorem optO_ite (c : Prop) [Decidable c] (x y : Option RE) (s : ES) : optO (if c then x else y) s = if c then optO x s else optO y s := by split <;> rfl
@[simp] theorem optO_none (s : ES) : optO none s = .bad := rfl
@[simp] theorem lift1_run (f : PV → Option RE) (r : RE) (s : ES) : lift1 f r s = (match deref s r with | some u => optO (f u) s | none => .bad) := by
  unfold lift1 optO
  cases deref s r <;> rfl
@[simp] theorem lift2_run (f : PV → PV → Option RE) (r r' : RE) (s : ES) : lift2 f r r' s = (match deref s r, deref s r' with | some u, some v => optO (f u v) s | _, _ => .bad) := by
  unfold lift2 optO
  cases deref s r <;> cases deref s r' <;> rfl
@[simp] theorem cmpM_run (op : CmpOp) (r r' : RE) (s : ES) : cmpM op r r' s = (match deref s r, deref s r' with | some u, some v => optO ((cmpV op u v).map fun b => .val (.bl b)) s | _, _ => .bad) := lift2_run _ r r' s
@[simp] theorem subM_run (r r' : RE) (s : ES) : subM r r' s = (match deref s r, deref s r' with | some u, some v => optO ((ixV (unbox s u) v).map RE.val) s | _, _ => .bad) := by
  unfold subM optO
  cases deref s r with
  | none => rfl
  | some u =>
    cases deref s r' with
    | none => rfl
    | some v => dsimp only; cases ixV (unbox s u) v <;> rfl
@[simp] theorem unbox_box (env : List Sl) (st : List Cell) (n : Nat) : unbox ⟨env, st⟩ (.box n) = (match st[n]? with | some c => c.val | none => .box n) := rfl
@[simp] theorem unbox_tup (s : ES) (xs : List PV) : unbox s (.tup xs) = .tup xs := rfl
@[simp] theorem unbox_lst (s : ES) (xs : List PV) : unbox s (.lst xs) = .lst xs := rfl
@[simp] theorem cval_lst (xs : List PV) : (Cell.lst xs).val = .lst xs := rfl
@[simp] theorem truM_run (r : RE) (s : ES) : truM r s = (match deref s r with | some u => (match truV u with | some b => .ok b s | none => .bad) | none => .bad) := rfl
@[simp] theorem asBool_run (b : Bool) (s : ES) : asBool (.val (.bl b)) s = .ok b s := rfl
@[simp] theorem share_val (v : PV) (s : ES) : share (.val v) s = .ok v s := rfl
@[simp] theorem share_fresh (c : Cell) (s : ES) : share (.fresh c) s = .ok c.val s := rfl
@[simp] theorem share_pk (i : Nat) (env : List Sl) (st : List Cell) : share (.pk i) ⟨env, st⟩ = (match env[i]? with
    | some (.own c) => .ok c.val ⟨env.set i (.val c.val), st⟩
    | some (.val v) => .ok v ⟨env, st⟩
    | _ => .bad) := rfl
@[simp] theorem setSlot_run (i : Nat) (v : PV) (env : List Sl) (st : List Cell) : setSlot i v ⟨env, st⟩ = if i < env.length then .ok () ⟨env.set i (.val v), st⟩ else .bad := rfl
@[simp] theorem setOwn_run (i : Nat) (c : Cell) (env : List Sl) (st : List Cell) : setOwn i c ⟨env, st⟩ = if i < env.length then .ok () ⟨env.set i (.own c), st⟩ else .bad := rfl
@[simp] theorem setBox_run (i : Nat) (c : Cell) (env : List Sl) (st : List Cell) : setBox i c ⟨env, st⟩ = if i < env.length then .ok () ⟨env.set i (.val (.box st.length)), st ++ [c]⟩ else .bad := rfl
@[simp] theorem ite_run {α : Type} (c : Prop) [Decidable c] (a b : M α) (s : ES) : (if c then a else b) s = if c then a s else b s := by split <;> rfl
@[simp] theorem ite_bind {α β : Type} (c : Prop) [Decidable c] (a b : Out α) (f : α → M β) : (if c then a else b).bind f = if c then a.bind f else b.bind f := by split <;> rfl
@[simp] theorem thenM_run (m m' : M Fl) (s : ES) : thenM m m' s = (m s).bind fun f => match f with | .nx => m' | f => ret f := rfl
@[simp] theorem seqB_nil (s : ES) : seqB [] s = .ok .nx s := rfl
@[simp] theorem seqB_one (m : M Fl) (s : ES) : seqB [m] s = m s := rfl
@[simp] theorem seqB_cons (m m' : M Fl) (r : List (M Fl)) (s : ES) : seqB (m :: m' :: r) s = (m s).bind fun f => match f with | .nx => seqB (m' :: r) | f => ret f := rfl
@[simp] theorem seqM_nil (s : ES) : seqM [] s = .ok [] s := rfl
@[simp] theorem seqM_cons (m : M RE) (ms : List (M RE)) (s : ES) : seqM (m :: ms) s = (m s).bind fun r => bnd (seqM ms) fun rs => ret (r :: rs) := rfl
@[simp] theorem shares_nil (s : ES) : shares [] s = .ok [] s := rfl
@[simp] theorem shares_cons (r : RE) (rs : List RE) (s : ES) : shares (r :: rs) s = (share r s).bind fun v => bnd (shares rs) fun vs => ret (v :: vs) := rfl
@[simp] theorem derefs_nil (s : ES) : derefs s [] = some [] := rfl
@[simp] theorem derefs_cons (s : ES) (r : RE) (rs : List RE) : derefs s (r :: rs) = (match deref s r with | none => none | some v => (derefs s rs).map (v :: ·)) := rfl
@[simp] theorem liftN_run (f : List PV → Option RE) (rs : List RE) (s : ES) : liftN f rs s = (match derefs s rs with | some us => optO (f us) s | none => .bad) := by
  unfold liftN optO
  cases derefs s rs <;> rfl
@[simp] theorem xBin_run (op : Operator) (a b : M RE) (s : ES) : xBin op a b s = (a s).bind fun r => bnd b fun r' => lift2 (binV op) r r' := rfl
@[simp] theorem xCmp_run (op : CmpOp) (a b : M RE) (s : ES) : xCmp op a b s = (a s).bind fun r => bnd b fun r' => cmpM op r r' := rfl
@[simp] theorem xCmp2_run (op op' : CmpOp) (a b c : M RE) (s : ES) : xCmp2 op op' a b c s = (a s).bind fun r => bnd b fun r' => bnd (cmpM op r r') fun x => bnd (asBool x) fun k => if k then bnd c fun r'' => cmpM op' r' r'' else ret (.val (.bl false)) := rfl
@[simp] theorem xSub_run (a b : M RE) (s : ES) : xSub a b s = (a s).bind fun r => bnd b fun r' => subM r r' := rfl
@[simp] theorem xNeg_run (a : M RE) (s : ES) : xNeg a s = (a s).bind fun r => lift1 negV r := rfl
@[simp] theorem xNot_run (a : M RE) (s : ES) : xNot a s = (a s).bind fun r => bnd (truM r) fun b => ret (.val (.bl (!b))) := rfl
@[simp] theorem xIf_run (t : M Bool) (a b : M RE) (s : ES) : xIf t a b s = (t s).bind fun c => if c then a else b := rfl
@[simp] theorem xTup_run (ms : List (M RE)) (s : ES) : xTup ms s = (seqM ms s).bind fun rs => bnd (shares rs) fun vs => if vs.length ≤ LIM then ret (.val (.tup vs)) else bad := rfl
@[simp] theorem xLst_run (ms : List (M RE)) (s : ES) : xLst ms s = (seqM ms s).bind fun rs => bnd (shares rs) fun vs => if vs.length ≤ LIM then ret (.fresh (.lst vs)) else bad := rfl
@[simp] theorem xCall_run (Φ : Orc) (n : Nat) (ms : List (M RE)) (s : ES) : xCall Φ n ms s = (seqM ms s).bind fun rs => bnd (shares rs) fun vs => callM Φ n vs := rfl
def callO (o : FOut) (env : List Sl) : Out RE := match o with
  | .ok r st => .ok r ⟨env, st⟩
  | .exc x st => .exc x ⟨env, st⟩
  | .bad => .bad
@[simp] theorem callO_ok (r : RE) (st : List Cell) (env : List Sl) : callO (.ok r st) env = .ok r ⟨env, st⟩ := rfl
@[simp] theorem callO_exc (x : Ex) (st : List Cell) (env : List Sl) : callO (.exc x st) env = .exc x ⟨env, st⟩ := rfl
@[simp] theorem callM_run (Φ : Orc) (n : Nat) (vs : List PV) (env : List Sl) (st : List Cell) : callM Φ n vs ⟨env, st⟩ = callO (Φ n vs st) env := rfl
@[simp] theorem xBi_run (b : Bi) (ms : List (M RE)) (s : ES) : xBi b ms s = (seqM ms s).bind fun rs => liftN (biV b) rs := rfl
@[simp] theorem xIsi_run (t : Str) (a : M RE) (s : ES) : xIsi t a s = (a s).bind fun r => lift1 (fun v => (isInst v t).map fun b => .val (.bl b)) r := rfl
@[simp] theorem xBool_one (op : BoolOp) (m : M RE) (s : ES) : xBool op [m] s = m s := rfl
@[simp] theorem xBool_and (m m' : M RE) (ms : List (M RE)) (s : ES) : xBool .And (m :: m' :: ms) s = (m s).bind fun r => bnd (truM r) fun b => if b then xBool .And (m' :: ms) else ret r := rfl
@[simp] theorem xBool_or (m m' : M RE) (ms : List (M RE)) (s : ES) : xBool .Or (m :: m' :: ms) s = (m s).bind fun r => bnd (truM r) fun b => if b then ret r else xBool .Or (m' :: ms) := rfl
@[simp] theorem tBool_one (op : BoolOp) (m : M Bool) (s : ES) : tBool op [m] s = m s := rfl
@[simp] theorem tBool_and (m m' : M Bool) (ms : List (M Bool)) (s : ES) : tBool .And (m :: m' :: ms) s = (m s).bind fun b => if b then tBool .And (m' :: ms) else ret false := rfl
@[simp] theorem tBool_or (m m' : M Bool) (ms : List (M Bool)) (s : ES) : tBool .Or (m :: m' :: ms) s = (m s).bind fun b => if b then ret true else tBool .Or (m' :: ms) := rfl
@[simp] theorem tNot_run (t : M Bool) (s : ES) : tNot t s = (t s).bind fun b => ret (!b) := rfl
@[simp] theorem xRev_run (a : M RE) (s : ES) : xRev a s = (a s).bind fun r => lift1 revV r := rfl
@[simp] theorem xComp_run (own : List Nat) (tgt : PV → M Unit) (tst : M Bool) (elt : M RE) (it : M (List PV)) (s : ES) : xComp own tgt tst elt it s = (it s).bind fun xs => compM own tgt tst elt xs := rfl
@[simp] theorem compM_run (own : List Nat) (tgt : PV → M Unit) (tst : M Bool) (elt : M RE) (xs : List PV) (env : List Sl) (st : List Cell) :
    compM own tgt tst elt xs ⟨env, st⟩ = (match compGo own tgt tst elt true xs ⟨wipeE env own, st⟩ with
      | .ok vs s' => if vs.length ≤ LIM then .ok (.fresh (.lst vs)) ⟨backE s'.env env own, s'.st⟩ else .bad
      | _ => .bad) := by
  unfold compM noExc
  dsimp only
  cases compGo own tgt tst elt true xs ⟨wipeE env own, st⟩ <;> rfl
@[simp] theorem compGo_nil (own : List Nat) (tgt : PV → M Unit) (tst : M Bool) (elt : M RE) (s : ES) : compGo own tgt tst elt true [] s = .ok [] s := rfl
@[simp] theorem compGo_cons (own : List Nat) (tgt : PV → M Unit) (tst : M Bool) (elt : M RE) (x : PV) (xs : List PV) (env : List Sl) (st : List Cell) :
    compGo own tgt tst elt true (x :: xs) ⟨env, st⟩ = (tgt x ⟨wipeE env own, st⟩).bind fun _ => bnd tst fun b => if b then bnd elt fun r => bnd (share r) fun v => bnd (compGo own tgt tst elt true xs) fun vs => ret (v :: vs) else compGo own tgt tst elt true xs := rfl
@[simp] theorem wipeE_nil (env : List Sl) : wipeE env [] = env := rfl
@[simp] theorem wipeE_cons (env : List Sl) (v : Nat) (vs : List Nat) : wipeE env (v :: vs) = (wipeE env vs).set v .none := rfl
def backS (o : Option Sl) : Sl := match o with
  | some (.val x) => .val x
  | some (.own c) => .val c.val
  | _ => .none
@[simp] theorem backE_nil (env old : List Sl) : backE env old [] = env := rfl
@[simp] theorem backE_cons (env old : List Sl) (v : Nat) (vs : List Nat) : backE env old (v :: vs) = (backE env old vs).set v (backS old[v]?) := rfl
@[simp] theorem backS_val (x : PV) : backS (some (.val x)) = .val x := rfl
@[simp] theorem backS_own (c : Cell) : backS (some (.own c)) = .val c.val := rfl
@[simp] theorem backS_none : backS (some .none) = .none := rfl
@[simp] theorem tupAsg_tup (is : List Nat) (xs : List PV) : tupAsg is (.tup xs) = setSlots is xs := rfl
@[simp] theorem setSlots_nil (s : ES) : setSlots [] [] s = .ok () s := rfl
@[simp] theorem setSlots_cons (i : Nat) (is : List Nat) (v : PV) (vs : List PV) (s : ES) : setSlots (i :: is) (v :: vs) s = (setSlot i v s).bind fun _ => setSlots is vs := rfl
@[simp] theorem xApp_run (i : Nat) (a : M RE) (s : ES) : xApp i a s = (chkL i s).bind fun _ => bnd a fun r => bnd (share r) fun v => appendM i v := rfl
@[simp] theorem chkL_run (i : Nat) (env : List Sl) (st : List Cell) : chkL i ⟨env, st⟩ = (match env[i]? with | some (.own (.lst _)) => .ok () ⟨env, st⟩ | _ => .bad) := rfl
@[simp] theorem appendM_run (i : Nat) (v : PV) (env : List Sl) (st : List Cell) : appendM i v ⟨env, st⟩ = (match env[i]? with
  | some (.own (.lst xs)) => if xs.length < LIM then .ok (.val .non) ⟨env.set i (.own (.lst (xs ++ [v]))), st⟩ else .bad
  | _ => .bad) := rfl
@[simp] theorem iOf_run (a : M RE) (s : ES) : iOf a s = (a s).bind fun r => bnd (share r) itemsM := rfl
@[simp] theorem iRng1_run (a : M RE) (s : ES) : iRng1 a s = (a s).bind rng1M := rfl
@[simp] theorem rng1M_run (j : Int) (s : ES) : rng1M (.val (.int j)) s = if rngOk j then .ok (rngP 0 j) s else .bad := rfl
@[simp] theorem iZip_run (a b : M RE) (s : ES) : iZip a b s = (a s).bind fun r => bnd b fun r' => bnd (share r) fun u => bnd (share r') fun v => bnd (itemsM u) fun xs => bnd (itemsM v) fun ys => ret (zipP xs ys) := rfl
@[simp] theorem iEnum_run (a : M RE) (s : ES) : iEnum a s = (a s).bind fun r => bnd (share r) fun u => bnd (itemsM u) fun xs => ret (enumP 0 xs) := rfl
@[simp] theorem itemsM_tup (xs : List PV) (s : ES) : itemsM (.tup xs) s = .ok xs s := rfl
@[simp] theorem itemsM_lst (xs : List PV) (s : ES) : itemsM (.lst xs) s = .ok xs s := rfl
@[simp] theorem sEx_run (e : M RE) (s : ES) : sEx e s = (e s).bind fun _ => ret .nx := rfl
@[simp] theorem sRet_run (e : M RE) (s : ES) : sRet e s = (e s).bind retM := rfl
@[simp] theorem retM_val (v : PV) (s : ES) : retM (.val v) s = .ok (.rt (.val v)) s := rfl
@[simp] theorem retM_fresh (c : Cell) (s : ES) : retM (.fresh c) s = .ok (.rt (.fresh c)) s := rfl
@[simp] theorem retM_pk (i : Nat) (env : List Sl) (st : List Cell) : retM (.pk i) ⟨env, st⟩ = (match env[i]? with
    | some (.own c) => .ok (.rt (.fresh c)) ⟨env.set i .none, st⟩
    | some (.val v) => .ok (.rt (.val v)) ⟨env, st⟩
    | _ => .bad) := rfl
@[simp] theorem sIf_run (t : M Bool) (a b : M Fl) (s : ES) : sIf t a b s = (t s).bind fun k => if k then a else b := rfl
@[simp] theorem sFor_run (asg : PV → M Unit) (body : M Fl) (it : M (List PV)) (s : ES) : sFor asg body it s = (it s).bind fun xs => forM asg body xs := rfl
@[simp] theorem forM_nil (asg : PV → M Unit) (body : M Fl) (s : ES) : forM asg body [] s = .ok .nx s := rfl
def forK (asg : PV → M Unit) (body : M Fl) (xs : List PV) : Fl → M Fl
  | .nx => forM asg body xs
  | .ct => forM asg body xs
  | .bk => ret .nx
  | .rt r => ret (.rt r)
theorem forK_eq (asg : PV → M Unit) (body : M Fl) (xs : List PV) : (fun f : Fl => match f with
      | .nx => forM asg body xs
      | .ct => forM asg body xs
      | .bk => ret .nx
      | .rt r => ret (.rt r)) = forK asg body xs := by
  funext f
  cases f <;> rfl
@[simp] theorem forM_cons (asg : PV → M Unit) (body : M Fl) (x : PV) (xs : List PV) (s : ES) : forM asg body (x :: xs) s = (asg x s).bind fun _ => bnd body (forK asg body xs) := by
  rw [← forK_eq]
  rfl
@[simp] theorem forK_nx (asg : PV → M Unit) (body : M Fl) (xs : List PV) (s : ES) : forK asg body xs .nx s = forM asg body xs s := rfl
@[simp] theorem forK_ct (asg : PV → M Unit) (body : M Fl) (xs : List PV) (s : ES) : forK asg body xs .ct s = forM asg body xs s := rfl
@[simp] theorem forK_bk (asg : PV → M Unit) (body : M Fl) (xs : List PV) (s : ES) : forK asg body xs .bk s = .ok .nx s := rfl
@[simp] theorem forK_rt (asg : PV → M Unit) (body : M Fl) (xs : List PV) (r : RE) (s : ES) : forK asg body xs (.rt r) s = .ok (.rt r) s := rfl
def whileK (n : Nat) (c : M Bool) (body : M Fl) : Fl → M Fl
  | .nx => whileM n c body
  | .ct => whileM n c body
  | .bk => ret .nx
  | .rt r => ret (.rt r)
theorem whileK_eq (n : Nat) (c : M Bool) (body : M Fl) : (fun f : Fl => match f with
      | .nx => whileM n c body
      | .ct => whileM n c body
      | .bk => ret .nx
      | .rt r => ret (.rt r)) = whileK n c body := by
  funext f
  cases f <;> rfl
theorem whileM_succ (n : Nat) (c : M Bool) (body : M Fl) (s : ES) : whileM (n + 1) c body s = (c s).bind fun b => if b then bnd body (whileK n c body) else ret .nx := by
  rw [← whileK_eq]
  rfl
@[simp] theorem whileK_nx (n : Nat) (c : M Bool) (body : M Fl) (s : ES) : whileK n c body .nx s = whileM n c body s := rfl
@[simp] theorem sSet_run (i : Nat) (bx : Bool) (e : M RE) (s : ES) : sSet i bx e s = (e s).bind fun r => bnd (asgR i bx r) fun _ => ret .nx := rfl
@[simp] theorem asgR_val (i : Nat) (bx : Bool) (v : PV) (s : ES) : asgR i bx (.val v) s = setSlot i v s := rfl
@[simp] theorem asgR_fresh (i : Nat) (c : Cell) (s : ES) : asgR i false (.fresh c) s = setOwn i c s := rfl
@[simp] theorem asgR_box (i : Nat) (c : Cell) (s : ES) : asgR i true (.fresh c) s = setBox i c s := rfl
@[simp] theorem asgR_pk (i j : Nat) (bx : Bool) (s : ES) : asgR i bx (.pk j) s = (share (.pk j) s).bind (setSlot i) := rfl
@[simp] theorem sUn_run (asg : PV → M Unit) (e : M RE) (s : ES) : sUn asg e s = (e s).bind fun r => bnd (share r) fun v => bnd (asg v) fun _ => ret .nx := rfl
@[simp] theorem sPar_run (i j : Nat) (a b : M RE) (s : ES) : sPar i j a b s = (parM i j false false a b s).bind fun _ => ret .nx := rfl
@[simp] theorem parM_run (i j : Nat) (a b : M RE) (s : ES) : parM i j false false a b s = (a s).bind fun ra => bnd b fun rb => bnd (shr ra) fun ra => bnd (shr rb) fun rb => bnd (asgR i false ra) fun _ => asgR j false rb := rfl
@[simp] theorem shr_val (v : PV) (s : ES) : shr (.val v) s = .ok (.val v) s := rfl
@[simp] theorem shr_fresh (c : Cell) (s : ES) : shr (.fresh c) s = .ok (.fresh c) s := rfl
@[simp] theorem shr_pk (i : Nat) (s : ES) : shr (.pk i) s = (share (.pk i) s).bind fun v => ret (.val v) := rfl
@[simp] theorem sSto_run (i : Nat) (e k : M RE) (s : ES) : sSto i e k s = (e s).bind fun r => bnd (share r) fun v => bnd (chkS i) fun _ => bnd k fun rk => bnd (storeM i v rk) fun _ => ret .nx := rfl
@[simp] theorem chkS_run (i : Nat) (env : List Sl) (st : List Cell) : chkS i ⟨env, st⟩ = (match env[i]? with | some (.own _) => .ok () ⟨env, st⟩ | some (.val _) => .ok () ⟨env, st⟩ | _ => .bad) := rfl
@[simp] theorem storeM_run (i : Nat) (v : PV) (k : Int) (env : List Sl) (st : List Cell) : storeM i v (.val (.int k)) ⟨env, st⟩ = (match env[i]? with
    | some (.own (.lst xs)) => match L2.ixN xs.length k with
      | some j => .ok () ⟨env.set i (.own (.lst (xs.set j v))), st⟩
      | none => .bad
    | some (.val (.box n)) => match st[n]? with
      | some (.lst xs) => match L2.ixN xs.length k with
        | some j => .ok () ⟨env, st.set n (.lst (xs.set j v))⟩
        | none => .bad
      | none => .bad
    | _ => .bad) := rfl
def finO (o : Out Fl) : FOut := match o with
    | .ok f s => match f with
      | .nx => .ok (.val .non) s.st
      | .rt (.val v) => .ok (.val v) s.st
      | .rt (.fresh c) => .ok (.fresh c) s.st
      | _ => .bad
    | .exc x s => .exc x s.st
    | .bad => .bad
@[simp] theorem finO_nx (s : ES) : finO (.ok .nx s) = .ok (.val .non) s.st := rfl
@[simp] theorem finO_val (v : PV) (s : ES) : finO (.ok (.rt (.val v)) s) = .ok (.val v) s.st := rfl
@[simp] theorem finO_fresh (c : Cell) (s : ES) : finO (.ok (.rt (.fresh c)) s) = .ok (.fresh c) s.st := rfl
@[simp] theorem finO_ite (c : Prop) [Decidable c] (a b : Out Fl) : finO (if c then a else b) = if c then finO a else finO b := by split <;> rfl
theorem runD_run {np nN : Nat} {m : M Fl} {args : List PV} {st : List Cell} (h : args.length = np) : runD np nN m args st = finO (m ⟨args.map .val ++ List.replicate (nN - args.length) .none, st⟩) := by
  unfold runD
  rw [if_pos h]
  rfl
/-! values -/
@[simp] theorem bin_add (i j : Int) : binV .Add (.int i) (.int j) = some (.val (.int (i + j))) := rfl
@[simp] theorem bin_sub (i j : Int) : binV .Sub (.int i) (.int j) = some (.val (.int (i - j))) := rfl
@[simp] theorem bin_mul (i j : Int) : binV .Mult (.int i) (.int j) = if mulOk i j then some (.val (.int (i * j))) else none := rfl
@[simp] theorem bin_div (i j : Int) : binV .FloorDiv (.int i) (.int j) = if divOk j then some (.val (.int (i.fdiv j))) else none := rfl
@[simp] theorem bin_mod (i j : Int) : binV .Mod (.int i) (.int j) = if j = 0 then none else some (.val (.int (i.fmod j))) := rfl
@[simp] theorem bin_pow (i j : Int) : binV .Pow (.int i) (.int j) = if powOk i j then some (.val (.int (i ^ j.toNat))) else none := rfl
@[simp] theorem bin_shl (i j : Int) : binV .LShift (.int i) (.int j) = if shlOk i j then some (.val (.int (i * 2 ^ j.toNat))) else none := rfl
@[simp] theorem bin_addT (xs ys : List PV) : binV .Add (.tup xs) (.tup ys) = if xs.length + ys.length ≤ LIM then some (.val (.tup (xs ++ ys))) else none := rfl
@[simp] theorem bin_addL (xs ys : List PV) : binV .Add (.lst xs) (.lst ys) = if xs.length + ys.length ≤ LIM then some (.fresh (.lst (xs ++ ys))) else none := rfl
@[simp] theorem bin_repL (xs : List PV) (k : Int) : binV .Mult (.lst xs) (.int k) = if repOk xs.length k then some (.fresh (.lst (List.replicate k.toNat xs).flatten)) else none := rfl
@[simp] theorem bin_repT (xs : List PV) (k : Int) : binV .Mult (.tup xs) (.int k) = if repTOk xs.length k then some (.val (.tup (List.replicate k.toNat xs).flatten)) else none := rfl
@[simp] theorem cmp_lt (i j : Int) : cmpV .Lt (.int i) (.int j) = some (decide (i < j)) := rfl
@[simp] theorem cmp_le (i j : Int) : cmpV .LtE (.int i) (.int j) = some (decide (i ≤ j)) := rfl
@[simp] theorem cmp_gt (i j : Int) : cmpV .Gt (.int i) (.int j) = some (decide (j < i)) := rfl
@[simp] theorem cmp_ge (i j : Int) : cmpV .GtE (.int i) (.int j) = some (decide (j ≤ i)) := rfl
@[simp] theorem cmp_eq (u v : PV) : cmpV .Eq u v = eqPV u v := rfl
@[simp] theorem cmp_ne (u v : PV) : cmpV .NotEq u v = (eqPV u v).map (!·) := rfl
@[simp] theorem eq_int (i j : Int) : eqPV (.int i) (.int j) = some (decide (i = j)) := rfl
@[simp] theorem eq_str (i j : Str) : eqPV (.str i) (.str j) = some (decide (i = j)) := rfl
@[simp] theorem eq_bl (i j : Bool) : eqPV (.bl i) (.bl j) = some (decide (i = j)) := rfl
@[simp] theorem cmp_inT (u : PV) (xs : List PV) : cmpV .In u (.tup xs) = inV u xs := rfl
@[simp] theorem cmp_ninT (u : PV) (xs : List PV) : cmpV .NotIn u (.tup xs) = (inV u xs).map (!·) := rfl
@[simp] theorem in_ints (i a b : Int) : inV (.int i) [.int a, .int b] = some ((i == a) || (i == b)) := by
  unfold inV
  rw [if_pos (by rfl)]
  show some ((a == i) || ((b == i) || false)) = _
  rw [Bool.or_false, Bool.beq_comm (a := a), Bool.beq_comm (a := b)]
@[simp] theorem neg_int (i : Int) : negV (.int i) = some (.val (.int (-i))) := rfl
@[simp] theorem rev_tup (xs : List PV) : revV (.tup xs) = some (.val (.tup xs.reverse)) := rfl
@[simp] theorem ix_tup' (xs : List PV) (i : Int) : ixV (.tup xs) (.int i) = L2.atI xs i := rfl
@[simp] theorem ix_lst' (xs : List PV) (i : Int) : ixV (.lst xs) (.int i) = L2.atI xs i := rfl
@[simp] theorem tru_bl (b : Bool) : truV (.bl b) = some b := rfl
@[simp] theorem bi_len_t (xs : List PV) : biV .len [.tup xs] = some (.val (.int (xs.length : Nat))) := rfl
@[simp] theorem bi_len_l (xs : List PV) : biV .len [.lst xs] = some (.val (.int (xs.length : Nat))) := rfl
@[simp] theorem bi_int (i : Int) : biV .int [.int i] = some (.val (.int i)) := rfl
@[simp] theorem bi_abs (i : Int) : biV .abs [.int i] = some (.val (.int (if i < 0 then -i else i))) := rfl
@[simp] theorem bi_tup_l (xs : List PV) : biV .tuple [.lst xs] = some (.val (.tup xs)) := rfl
@[simp] theorem bi_tup_t (xs : List PV) : biV .tuple [.tup xs] = some (.val (.tup xs)) := rfl
@[simp] theorem bi_list_s (ns : List Int) : biV .list [.scr ns] = some (.fresh (.lst (ns.map .int))) := rfl
@[simp] theorem bi_all (xs : List PV) : biV .all [.lst xs] = (boolsOf xs).map fun bs => .val (.bl (bs.all id)) := rfl
@[simp] theorem bi_any (xs : List PV) : biV .any [.lst xs] = (boolsOf xs).map fun bs => .val (.bl (bs.any id)) := rfl
@[simp] theorem bi_sum (xs : List PV) : biV .sum [.lst xs] = (intsOf xs).map fun ns => .val (.int ns.sum) := rfl
@[simp] theorem bi_repr (v : PV) : biV .repr [v] = (toPy v).bind fun d => if showOk d then some (.val (.str d.shown)) else none := rfl
@[simp] theorem boolsOf_nil : boolsOf [] = some [] := rfl
@[simp] theorem boolsOf_cons (b : Bool) (r : List PV) : boolsOf (.bl b :: r) = (boolsOf r).map (b :: ·) := rfl
@[simp] theorem intsOf_nil : intsOf [] = some [] := rfl
@[simp] theorem intsOf_cons (b : Int) (r : List PV) : intsOf (.int b :: r) = (intsOf r).map (b :: ·) := rfl
@[simp] theorem isi_int_int (i : Int) : isInst (.int i) "int" = some true := rfl
@[simp] theorem isi_int_bool (i : Int) : isInst (.int i) "bool" = some false := rfl
@[simp] theorem isi_tup (xs : List PV) : isInst (.tup xs) "tuple" = some true := rfl
theorem mulOk_r {i j : Int} (h : -(2 ^ 64) < j) (h' : j < 2 ^ 64) : mulOk i j = true := by
  unfold mulOk
  rw [decide_eq_true h, decide_eq_true h', Bool.and_self, Bool.or_true, Bool.true_or]
theorem mulOk_l {i j : Int} (h : -(2 ^ 64) < i) (h' : i < 2 ^ 64) : mulOk i j = true := by
  unfold mulOk
  rw [decide_eq_true h, decide_eq_true h', Bool.and_self, Bool.true_or, Bool.true_or]
@[simp] theorem LIM_eq : LIM = 16777216 := rfl
@[simp] theorem divOk_pos (j : Int) (h : 0 < j) (h' : j < 18446744073709551616) : divOk j = true := by
  unfold divOk
  have a : j.natAbs.log2 < 9000 := by
    rcases Nat.eq_zero_or_pos j.natAbs with z | z
    · rw [z]; decide
    · rw [Nat.log2_lt (by omega)]
      exact Nat.lt_of_lt_of_le (show j.natAbs < 2 ^ 64 by omega) (Nat.pow_le_pow_right (by decide) (by decide))
  rw [decide_eq_true (show j ≠ 0 by omega), decide_eq_true h, decide_eq_true a]
  simp
@[simp] theorem mulOk_rs (i j : Int) (h : -18446744073709551616 < j) (h' : j < 18446744073709551616) : mulOk i j = true := mulOk_r h h'
@[simp] theorem mulOk_ls (i j : Int) (h : -18446744073709551616 < i) (h' : i < 18446744073709551616) : mulOk i j = true := mulOk_l h h'
@[simp] theorem rngOk_s (j : Int) (h : -4611686018427387904 ≤ j) (h' : j < 4611686018427387904) : rngOk j = true := by
  unfold rngOk
  rw [decide_eq_true (show -(2 ^ 62 : Int) ≤ j from h), decide_eq_true (show j < 2 ^ 62 from h')]
  rfl
@[simp] theorem powOk_s (i j : Int) (h : 0 ≤ j) (h' : j ≤ 1000000) (h2 : -18446744073709551616 < i) (h3 : i < 18446744073709551616) : powOk i j = true := by
  unfold powOk
  rw [decide_eq_true h, decide_eq_true h', decide_eq_true (show i.natAbs < 2 ^ 64 by omega)]
  rfl
@[simp] theorem fdiv_lit (i j : Int) (h : 0 ≤ j) : i.fdiv j = i / j := Int.fdiv_eq_ediv_of_nonneg i h
@[simp] theorem fmod_lit (i j : Int) (h : 0 ≤ j) : i.fmod j = i % j := Int.fmod_eq_emod_of_nonneg i h
@[simp] theorem rng0 : rngP 0 0 = [] := rfl
@[simp] theorem rng1 : rngP 0 1 = [.int 0] := rfl
@[simp] theorem rng2 : rngP 0 2 = [.int 0, .int 1] := rfl
@[simp] theorem rng3 : rngP 0 3 = [.int 0, .int 1, .int 2] := rfl
@[simp] theorem rng8 : rngP 0 8 = [.int 0, .int 1, .int 2, .int 3, .int 4, .int 5, .int 6, .int 7] := rfl
@[simp] theorem zipP_nil (ys : List PV) : zipP [] ys = [] := by cases ys <;> rfl
@[simp] theorem zipP_cons (x y : PV) (xs ys : List PV) : zipP (x :: xs) (y :: ys) = .tup [x, y] :: zipP xs ys := rfl
@[simp] theorem enumP_nil (n : Nat) : enumP n [] = [] := rfl
@[simp] theorem enumP_cons (n : Nat) (x : PV) (xs : List PV) : enumP n (x :: xs) = .tup [.int n, x] :: enumP (n + 1) xs := rfl
@[simp] theorem atI_0 {α : Type} (a : α) (l : List α) : L2.atI (a :: l) 0 = some a := L2.atI_nat (j := 0) rfl
@[simp] theorem atI_1 {α : Type} (a b : α) (l : List α) : L2.atI (a :: b :: l) 1 = some b := L2.atI_nat (j := 1) rfl
@[simp] theorem atI_2 {α : Type} (a b c : α) (l : List α) : L2.atI (a :: b :: c :: l) 2 = some c := L2.atI_nat (j := 2) rfl
@[simp] theorem atI_3 {α : Type} (a b c d : α) (l : List α) : L2.atI (a :: b :: c :: d :: l) 3 = some d := L2.atI_nat (j := 3) rfl
@[simp] theorem ixN_20 : L2.ixN 2 0 = some 0 := rfl
@[simp] theorem ixN_21 : L2.ixN 2 1 = some 1 := rfl
@[simp] theorem tryG_apply (n : Option Nat) (m : M Fl) (tab : List (Str × Option (Option PV))) (s : ES) : tryG n m tab s = match m s with
  | .exc x s' => match x.args with
    | [] => if lenOk s' n then match (tab.lookup x.cls).getD none with
      | some (some v) => .ok (.rt (.val v)) s'
      | some none => .exc x s'
      | none => .bad else .bad
    | _ => .bad
  | o => o := rfl
@[simp] theorem sPar3_run (i j l : Nat) (a b c : M RE) (s : ES) : sPar3 i j l a b c s = ((a s).bind fun ra => bnd b fun rb => bnd c fun rc => bnd (shv ra) fun va => bnd (shv rb) fun vb => bnd (shr rc) fun rc => bnd (setSlot i va) fun _ => bnd (setSlot j vb) fun _ => asgR l false rc).bind fun _ => ret .nx := rfl
@[simp] theorem shv_val (v : PV) : shv (.val v) = ret v := rfl
@[simp] theorem shv_pk (i : Nat) : shv (.pk i) = share (.pk i) := rfl
@[simp] theorem tIfE_run (t a b : M Bool) (s : ES) : tIfE t a b s = (t s).bind fun c => if c then a else b := rfl
@[simp] theorem raiseM_run (x : Str) (s : ES) : raiseM x s = .exc ⟨x, []⟩ s := rfl
end Ev

set_option linter.all false
set_option maxRecDepth 100000
set_option maxHeartbeats 1000000
/-! Ev.Y: comprehensions over lists of any length -/
namespace Ev
open PySem PySem.Spec L2
/-- one turn of a comprehension -/
def oneM (tgt : PV → M Unit) (tst : M Bool) (elt : M RE) (x : PV) : M PV := bnd (tgt x) fun _ => bnd tst fun b => if b then bnd elt share else bad
theorem bind_eq {α β : Type} {o : Out α} {f : α → M β} {b : β} {s : ES} (h : o.bind f = .ok b s) : ∃ a s1, o = .ok a s1 ∧ f a s1 = .ok b s := by
  cases o with
  | ok a s1 => exact ⟨a, s1, rfl, h⟩
  | exc x s1 => cases h
  | bad => cases h
theorem oneM_eq {tgt : PV → M Unit} {tst : M Bool} {elt : M RE} {x v : PV} {s s' : ES} (h : oneM tgt tst elt x s = .ok v s') : ∃ s1 s2 s3 r, tgt x s = .ok () s1 ∧ tst s1 = .ok true s2 ∧ elt s2 = .ok r s3 ∧ share r s3 = .ok v s' := by
  unfold oneM at h
  rw [bnd_run] at h
  obtain ⟨_, s1, h1, h2⟩ := bind_eq h
  rw [bnd_run] at h2
  obtain ⟨b, s2, h3, h4⟩ := bind_eq h2
  cases b with
  | false => cases h4
  | true =>
    rw [if_pos rfl, bnd_run] at h4
    obtain ⟨r, s3, h5, h6⟩ := bind_eq h4
    exact ⟨s1, s2, s3, r, h1, h3, h5, h6⟩
theorem compGo_ex {own : List Nat} {tgt : PV → M Unit} {tst : M Bool} {elt : M RE} (I : ES → Prop) (Pv : PV → Prop) : ∀ (xs : List PV), (∀ x ∈ xs, ∀ s, I s → ∃ v s', oneM tgt tst elt x ⟨wipeE s.env own, s.st⟩ = .ok v s' ∧ I s' ∧ Pv v) →
    ∀ s, I s → ∃ vs s', compGo own tgt tst elt true xs s = .ok vs s' ∧ I s' ∧ vs.length = xs.length ∧ ∀ v ∈ vs, Pv v
  | [], _, s, hs => ⟨[], s, rfl, hs, rfl, fun _ h => nomatch h⟩
  | x :: xs, h, s, hs => by
    obtain ⟨v, s', h1, h2, h3⟩ := h x (List.mem_cons_self ..) s hs
    obtain ⟨s1, s2, s3, r, e1, e2, e3, e4⟩ := oneM_eq h1
    obtain ⟨vs, s'', g1, g2, g3, g4⟩ := compGo_ex I Pv xs (fun x hx => h x (List.mem_cons_of_mem _ hx)) s' h2
    refine ⟨v :: vs, s'', ?_, g2, by simp [g3], fun w hw => ?_⟩
    · obtain ⟨env, st⟩ := s
      rw [compGo_cons, e1, bind_ok, bnd_run, e2, bind_ok, if_pos rfl, bnd_run, e3, bind_ok, bnd_run, e4, bind_ok, bnd_run, g1, bind_ok]
      rfl
    · rcases List.mem_cons.mp hw with e | e
      · subst e; exact h3
      · exact g4 w e
/-- a comprehension of values known ahead -/
theorem compGo_map {own : List Nat} {tgt : PV → M Unit} {tst : M Bool} {elt : M RE} (I : ES → Prop) (g : PV → PV) : ∀ (xs : List PV), (∀ x ∈ xs, ∀ s, I s → ∃ s', oneM tgt tst elt x ⟨wipeE s.env own, s.st⟩ = .ok (g x) s' ∧ I s') →
    ∀ s, I s → ∃ s', compGo own tgt tst elt true xs s = .ok (xs.map g) s' ∧ I s'
  | [], _, s, hs => ⟨s, rfl, hs⟩
  | x :: xs, h, s, hs => by
    obtain ⟨s', h1, h2⟩ := h x (List.mem_cons_self ..) s hs
    obtain ⟨s1, s2, s3, r, e1, e2, e3, e4⟩ := oneM_eq h1
    obtain ⟨s'', g1, g2⟩ := compGo_map I g xs (fun x hx => h x (List.mem_cons_of_mem _ hx)) s' h2
    refine ⟨s'', ?_, g2⟩
    obtain ⟨env, st⟩ := s
    rw [compGo_cons, e1, bind_ok, bnd_run, e2, bind_ok, if_pos rfl, bnd_run, e3, bind_ok, bnd_run, e4, bind_ok, bnd_run, g1, bind_ok]
    rfl
@[simp] theorem oneM_run (tgt : PV → M Unit) (tst : M Bool) (elt : M RE) (x : PV) (s : ES) : oneM tgt tst elt x s = (tgt x s).bind fun _ => bnd tst fun b => if b then bnd elt share else bad := rfl
/-- as compGo_map, over what stands for the items -/
theorem compGo_f {α : Type} {own : List Nat} {tgt : PV → M Unit} {tst : M Bool} {elt : M RE} (I : ES → Prop) (f g : α → PV) : ∀ (xs : List α), (∀ x ∈ xs, ∀ s, I s → ∃ s', oneM tgt tst elt (f x) ⟨wipeE s.env own, s.st⟩ = .ok (g x) s' ∧ I s') →
    ∀ s, I s → ∃ s', compGo own tgt tst elt true (xs.map f) s = .ok (xs.map g) s' ∧ I s'
  | [], _, s, hs => ⟨s, rfl, hs⟩
  | x :: xs, h, s, hs => by
    obtain ⟨s', h1, h2⟩ := h x (List.mem_cons_self ..) s hs
    obtain ⟨s1, s2, s3, r, e1, e2, e3, e4⟩ := oneM_eq h1
    obtain ⟨s'', g1, g2⟩ := compGo_f I f g xs (fun x hx => h x (List.mem_cons_of_mem _ hx)) s' h2
    refine ⟨s'', ?_, g2⟩
    obtain ⟨env, st⟩ := s
    rw [List.map_cons, compGo_cons, e1, bind_ok, bnd_run, e2, bind_ok, if_pos rfl, bnd_run, e3, bind_ok, bnd_run, e4, bind_ok, bnd_run, g1, bind_ok]
    rfl
/-- a comprehension with a test -/
theorem compGo_flt {own : List Nat} {tgt : PV → M Unit} {tst : M Bool} {elt : M RE} (I : ES → Prop) (c : PV → Bool) (g : PV → PV) : ∀ (xs : List PV),
    (∀ x ∈ xs, ∀ s, I s → ∃ s1 s2, tgt x ⟨wipeE s.env own, s.st⟩ = .ok () s1 ∧ tst s1 = .ok (c x) s2 ∧ (c x = true → ∃ r s3 s4, elt s2 = .ok r s3 ∧ share r s3 = .ok (g x) s4 ∧ I s4) ∧ (c x = false → I s2)) →
    ∀ s, I s → ∃ s', compGo own tgt tst elt true xs s = .ok ((xs.filter c).map g) s' ∧ I s'
  | [], _, s, hs => ⟨s, rfl, hs⟩
  | x :: xs, h, s, hs => by
    obtain ⟨s1, s2, e1, e2, e3, e4⟩ := h x (List.mem_cons_self ..) s hs
    have ih := compGo_flt I c g xs fun x hx => h x (List.mem_cons_of_mem _ hx)
    obtain ⟨env, st⟩ := s
    cases hc : c x with
    | false =>
      obtain ⟨s', g1, g2⟩ := ih s2 (e4 hc)
      refine ⟨s', ?_, g2⟩
      rw [hc] at e2
      rw [compGo_cons, e1, bind_ok, bnd_run, e2, bind_ok, if_neg (by decide), g1, List.filter_cons_of_neg (by rw [hc]; decide)]
    | true =>
      obtain ⟨r, s3, s4, e5, e6, e7⟩ := e3 hc
      obtain ⟨s', g1, g2⟩ := ih s4 e7
      refine ⟨s', ?_, g2⟩
      rw [hc] at e2
      rw [compGo_cons, e1, bind_ok, bnd_run, e2, bind_ok, if_pos rfl, bnd_run, e5, bind_ok, bnd_run, e6, bind_ok, bnd_run, g1, bind_ok, List.filter_cons_of_pos hc]
      rfl
/-! whole numbers as data -/
theorem toPys_ints : ∀ ns : List Int, toPys (ns.map .int) = some (ns.map PyData.int)
  | [] => rfl
  | n :: ns => by
    show (match toPy (.int n) with | none => none | some d => (toPys (ns.map .int)).map (d :: ·)) = _
    rw [toPys_ints ns]
    rfl
@[simp] theorem toPy_tup (xs : List PV) : toPy (.tup xs) = (toPys xs).map .tuple := by simp [toPy]
@[simp] theorem toPy_lst (xs : List PV) : toPy (.lst xs) = (toPys xs).map .list := by simp [toPy]
theorem toPy_intsT (ns : List Int) : toPy (.tup (ns.map .int)) = some (.tuple (ns.map PyData.int)) := by rw [toPy_tup, toPys_ints]; rfl
theorem toPy_intsL (ns : List Int) : toPy (.lst (ns.map .int)) = some (.list (ns.map PyData.int)) := by rw [toPy_lst, toPys_ints]; rfl
theorem lay_ints : ∀ ns : List Int, PyData.canLayAll0 (ns.map PyData.int) = true
  | [] => by simp [PyData.canLayAll0]
  | n :: ns => by simp [PyData.canLayAll0, PyData.canLay0, lay_ints ns]
theorem depth_ints : ∀ ns : List Int, PyData.depthAll (ns.map PyData.int) = 0
  | [] => by simp [PyData.depthAll]
  | n :: ns => by simp [PyData.depthAll, PyData.depth, depth_ints ns]
theorem shaped_intsT (ns : List Int) : SeqAt.shaped (.tuple (ns.map PyData.int)) = true := by
  show (PyData.canLay0 _ && decide (PyData.depth _ ≤ 64)) = true
  simp [PyData.canLay0, PyData.depth, lay_ints, depth_ints]
theorem shaped_intsL (ns : List Int) : SeqAt.shaped (.list (ns.map PyData.int)) = true := by
  show (PyData.canLay0 _ && decide (PyData.depth _ ≤ 64)) = true
  simp [PyData.canLay0, PyData.depth, lay_ints, depth_ints]
theorem eqvAll_ints : ∀ ms ns : List Int, PyData.eqvAll (ms.map PyData.int) (ns.map PyData.int) = decide (ms = ns)
  | [], [] => by simp [PyData.eqvAll]
  | [], n :: ns => by simp [PyData.eqvAll]
  | m :: ms, [] => by simp [PyData.eqvAll]
  | m :: ms, n :: ns => by
    rw [List.map_cons, List.map_cons]
    simp only [PyData.eqvAll, PyData.eqv, eqvAll_ints ms ns]
    by_cases h : m = n <;> simp [h]
theorem eq_intsT (ms ns : List Int) : eqPV (.tup (ms.map .int)) (.tup (ns.map .int)) = some (decide (ms = ns)) := by
  unfold eqPV
  rw [toPy_intsT, toPy_intsT]
  dsimp only
  rw [shaped_intsT, shaped_intsT, if_pos (by rfl)]
  simp only [PyData.eqv, eqvAll_ints]
theorem eq_intsL (ms ns : List Int) : eqPV (.lst (ms.map .int)) (.lst (ns.map .int)) = some (decide (ms = ns)) := by
  unfold eqPV
  rw [toPy_intsL, toPy_intsL]
  dsimp only
  rw [shaped_intsL, shaped_intsL, if_pos (by rfl)]
  simp only [PyData.eqv, eqvAll_ints]
@[simp] theorem mulOk_mod2 (i z : Int) : mulOk i (z % 2) = true := mulOk_r (by omega) (by omega)
def Sm (x : Int) : Prop := -999999999999 ≤ x ∧ x ≤ 999999999999
theorem leaf_int {x : Int} (h : Sm x) : PyData.leavesShort 13 (.int x) = true := by
  simp only [PyData.leavesShort, decide_eq_true_eq]
  exact PyData.shown_int_le2 h.1 h.2
theorem show_int {x : Int} (h : Sm x) : PyData.showable (.int x) = true := by
  have a : x.natAbs.log2 < 1920 := by
    rcases Nat.eq_zero_or_pos x.natAbs with z | z
    · rw [z]; decide
    · rw [Nat.log2_lt (by omega)]
      refine Nat.lt_of_lt_of_le (show x.natAbs < 2 ^ 64 by have := h.1; have := h.2; omega) (Nat.pow_le_pow_right (by decide) (by decide))
  simp only [PyData.showable, decide_eq_true_eq]
  exact a
theorem leaves_ints : ∀ ns : List Int, (∀ x ∈ ns, Sm x) → PyData.leavesShortAll 13 (ns.map PyData.int) = true
  | [], _ => by simp [PyData.leavesShortAll]
  | n :: ns, h => by
    rw [List.map_cons]
    simp only [PyData.leavesShortAll, leaf_int (h n (List.mem_cons_self ..)), leaves_ints ns fun x hx => h x (List.mem_cons_of_mem _ hx), Bool.and_self]
theorem shows_ints : ∀ ns : List Int, (∀ x ∈ ns, Sm x) → PyData.showableAll (ns.map PyData.int) = true
  | [], _ => by simp [PyData.showableAll]
  | n :: ns, h => by
    rw [List.map_cons]
    simp only [PyData.showableAll, show_int (h n (List.mem_cons_self ..)), shows_ints ns fun x hx => h x (List.mem_cons_of_mem _ hx), Bool.and_self]
theorem bulk_ints : ∀ ns : List Int, PyData.bulkAll (ns.map PyData.int) = ns.length
  | [] => by simp [PyData.bulkAll]
  | n :: ns => by
    rw [List.map_cons]
    simp only [PyData.bulkAll, PyData.bulk, bulk_ints ns, List.length_cons]
    omega
theorem showOk_intsT {ns : List Int} (h : ∀ x ∈ ns, Sm x) (hl : ns.length ≤ 1000) : showOk (.tuple (ns.map PyData.int)) = true := by
  unfold showOk
  rw [shaped_intsT]
  simp only [PyData.showable, PyData.leavesShort, PyData.bulk, shows_ints ns h, leaves_ints ns h, bulk_ints]
  rw [decide_eq_true (show ns.length ≤ 2 ^ 20 by omega)]
  simp
theorem showOk_pair {ns : List Int} {e : Int} (h : ∀ x ∈ ns, Sm x) (he : Sm e) (hl : ns.length ≤ 1000) : showOk (.tuple [.tuple (ns.map PyData.int), .int e]) = true := by
  unfold showOk
  have sh : SeqAt.shaped (.tuple [.tuple (ns.map PyData.int), .int e]) = true := by
    show (PyData.canLay0 _ && decide (PyData.depth _ ≤ 64)) = true
    simp [PyData.canLay0, PyData.canLayAll0, PyData.depth, PyData.depthAll, lay_ints, depth_ints]
  rw [sh]
  have l1 := leaf_int he
  have l2 := show_int he
  simp only [PyData.showable, PyData.showableAll, PyData.leavesShort, PyData.leavesShortAll, PyData.bulk, PyData.bulkAll, shows_ints ns h, leaves_ints ns h, bulk_ints] at l1 l2 ⊢
  rw [l1, l2, decide_eq_true (show ns.length + 1 + (0 + 1 + 0) ≤ 2 ^ 20 by omega)]
  simp
theorem repr_intsT {ns : List Int} (h : ∀ x ∈ ns, Sm x) (hl : ns.length ≤ 1000) : biV .repr [.tup (ns.map .int)] = some (.val (.str (PyData.shown (.tuple (ns.map PyData.int))))) := by
  rw [bi_repr, toPy_intsT]
  show (if showOk _ = true then _ else _) = _
  rw [if_pos (showOk_intsT h hl)]
theorem repr_pair {ns : List Int} {e : Int} (h : ∀ x ∈ ns, Sm x) (he : Sm e) (hl : ns.length ≤ 1000) : biV .repr [.tup [.tup (ns.map .int), .int e]] = some (.val (.str (PyData.shown (.tuple [.tuple (ns.map PyData.int), .int e])))) := by
  have t : toPy (.tup [.tup (ns.map .int), .int e]) = some (.tuple [.tuple (ns.map PyData.int), .int e]) := by
    rw [toPy_tup]
    show (match toPy (.tup (ns.map .int)) with | none => none | some d => (toPys [.int e]).map (d :: ·)).map PyData.tuple = _
    rw [toPy_intsT]
    rfl
  rw [bi_repr, t]
  show (if showOk _ = true then _ else _) = _
  rw [if_pos (showOk_pair h he hl)]
end Ev

set_option linter.all false
set_option maxRecDepth 100000
set_option maxHeartbeats 0
namespace Ev
open PySem PySem.Spec L2
abbrev top (i : Nat) : Stmt := PySem.Challenge.pw_countrealm_k30_rows_of_spans.main.body.getD i (.Pass ⟨0, 0, 0, 0⟩)
def GL : List (Str × GV) := [(("SIZE" : Str), GV.const (.int (1000000000))), (("ENDS" : Str), GV.const (.int (1000))), (("STEPS" : Str), GV.const (.int (12))), (("SPANS" : Str), GV.const (.int (400))), (("is_whole" : Str), GV.fn 0), (("is_tuple_of" : Str), GV.fn 1), (("ascends" : Str), GV.fn 2), (("is_place" : Str), GV.fn 3), (("fits_span" : Str), GV.fn 4), (("fits_row" : Str), GV.fn 5), (("need_spans" : Str), GV.fn 6), (("need_place" : Str), GV.fn 7), (("span_at" : Str), GV.fn 8), (("is_in" : Str), GV.fn 9), (("next_of" : Str), GV.fn 10), (("many_up_to" : Str), GV.fn 11), (("many_in" : Str), GV.fn 12), (("is_row" : Str), GV.fn 13), (("has_number" : Str), GV.fn 14), (("next_in" : Str), GV.fn 15), (("count_in" : Str), GV.fn 16), (("_law_cup" : Str), GV.fn 17), (("_law_roll" : Str), GV.fn 18), (("_law_some" : Str), GV.fn 19), (("_law_residues" : Str), GV.fn 20), (("_law_spans" : Str), GV.fn 21), (("_law_has" : Str), GV.fn 22), (("_law_ends" : Str), GV.fn 23), (("_law_bent" : Str), GV.fn 24), (("_law_error" : Str), GV.fn 25), (("_law_next" : Str), GV.fn 26), (("_law_edges" : Str), GV.fn 27), (("law" : Str), GV.fn 28)]
def EXC : List Str := [("InvalidSpans" : Str), ("InvalidNumber" : Str)]
def SUB : List ((Str × Str) × Bool) := [((("InvalidSpans" : Str), ("CountError" : Str)), true), ((("InvalidSpans" : Str), ("InvalidSpans" : Str)), true), ((("InvalidSpans" : Str), ("InvalidNumber" : Str)), false), ((("InvalidNumber" : Str), ("CountError" : Str)), true), ((("InvalidNumber" : Str), ("InvalidSpans" : Str)), false), ((("InvalidNumber" : Str), ("InvalidNumber" : Str)), true)]
def N0 : List Str := [("value" : Str), ("low" : Str), ("high" : Str)]
def C0 : CC := ⟨N0, GL, [("cup" : Str)], EXC, SUB⟩
def d0 : DefT := ⟨"is_whole", top 6, C0, [("value" : Str), ("low" : Str), ("high" : Str)]⟩
def N1 : List Str := [("value" : Str), ("low" : Str), ("high" : Str)]
def C1 : CC := ⟨N1, GL, [("cup" : Str)], EXC, SUB⟩
def d1 : DefT := ⟨"is_tuple_of", top 7, C1, [("value" : Str), ("low" : Str), ("high" : Str)]⟩
def N2 : List Str := [("items" : Str), (".0" : Str), ("one" : Str), ("other" : Str)]
def C2 : CC := ⟨N2, GL, [("cup" : Str)], EXC, SUB⟩
def d2 : DefT := ⟨"ascends", top 12, C2, [("items" : Str)]⟩
def N3 : List Str := [("value" : Str)]
def C3 : CC := ⟨N3, GL, [("cup" : Str)], EXC, SUB⟩
def d3 : DefT := ⟨"is_place", top 13, C3, [("value" : Str)]⟩
def N4 : List Str := [("value" : Str), ("is_first" : Str), ("is_last" : Str), (".0" : Str), ("one" : Str)]
def C4 : CC := ⟨N4, GL, [("cup" : Str)], EXC, SUB⟩
def d4 : DefT := ⟨"fits_span", top 14, C4, [("value" : Str), ("is_first" : Str), ("is_last" : Str)]⟩
def N5 : List Str := [("value" : Str), (".0" : Str), ("at" : Str), ("one" : Str), ("other" : Str)]
def C5 : CC := ⟨N5, GL, [("cup" : Str)], EXC, SUB⟩
def d5 : DefT := ⟨"fits_row", top 15, C5, [("value" : Str)]⟩
def N6 : List Str := [("value" : Str)]
def C6 : CC := ⟨N6, GL, [("cup" : Str)], EXC, SUB⟩
def d6 : DefT := ⟨"need_spans", top 16, C6, [("value" : Str)]⟩
def N7 : List Str := [("value" : Str)]
def C7 : CC := ⟨N7, GL, [("cup" : Str)], EXC, SUB⟩
def d7 : DefT := ⟨"need_place", top 17, C7, [("value" : Str)]⟩
def N8 : List Str := [("spans" : Str), ("number" : Str), (".0" : Str), ("one" : Str)]
def C8 : CC := ⟨N8, GL, [("cup" : Str)], EXC, SUB⟩
def d8 : DefT := ⟨"span_at", top 18, C8, [("spans" : Str), ("number" : Str)]⟩
def N9 : List Str := [("spans" : Str), ("number" : Str), ("span" : Str)]
def C9 : CC := ⟨N9, GL, [("cup" : Str)], EXC, SUB⟩
def d9 : DefT := ⟨"is_in", top 19, C9, [("spans" : Str), ("number" : Str)]⟩
def N10 : List Str := [("span" : Str), ("number" : Str), ("least" : Str), (".0" : Str), ("one" : Str)]
def C10 : CC := ⟨N10, GL, [("cup" : Str)], EXC, SUB⟩
def d10 : DefT := ⟨"next_of", top 20, C10, [("span" : Str), ("number" : Str)]⟩
def N11 : List Str := [("span" : Str), ("number" : Str), (".0" : Str), ("one" : Str)]
def C11 : CC := ⟨N11, GL, [("cup" : Str)], EXC, SUB⟩
def d11 : DefT := ⟨"many_up_to", top 21, C11, [("span" : Str), ("number" : Str)]⟩
def N12 : List Str := [("span" : Str), ("low" : Str), ("high" : Str)]
def C12 : CC := ⟨N12, GL, [("cup" : Str)], EXC, SUB⟩
def d12 : DefT := ⟨"many_in", top 22, C12, [("span" : Str), ("low" : Str), ("high" : Str)]⟩
def N13 : List Str := [("value" : Str)]
def C13 : CC := ⟨N13, GL, [("cup" : Str)], EXC, SUB⟩
def d13 : DefT := ⟨"is_row", top 23, C13, [("value" : Str)]⟩
def N14 : List Str := [("spans" : Str), ("number" : Str)]
def C14 : CC := ⟨N14, GL, [("cup" : Str)], EXC, SUB⟩
def d14 : DefT := ⟨"has_number", top 24, C14, [("spans" : Str), ("number" : Str)]⟩
def N15 : List Str := [("spans" : Str), ("number" : Str), ("span" : Str), ("found" : Str)]
def C15 : CC := ⟨N15, GL, [("cup" : Str)], EXC, SUB⟩
def d15 : DefT := ⟨"next_in", top 25, C15, [("spans" : Str), ("number" : Str)]⟩
def N16 : List Str := [("spans" : Str), ("low" : Str), ("high" : Str), (".0" : Str), ("span" : Str)]
def C16 : CC := ⟨N16, GL, [("cup" : Str)], EXC, SUB⟩
def d16 : DefT := ⟨"count_in", top 26, C16, [("spans" : Str), ("low" : Str), ("high" : Str)]⟩
def N17 : List Str := [("script" : Str), ("cell" : Str)]
def C17 : CC := ⟨N17, GL, [("cup" : Str)], EXC, SUB⟩
def d17 : DefT := ⟨"_law_cup", top 28, C17, [("script" : Str)]⟩
def N18 : List Str := [("cup" : Str), ("many" : Str), ("found" : Str), ("deep" : Str)]
def C18 : CC := ⟨N18, GL, [("cup" : Str)], EXC, SUB⟩
def d18 : DefT := ⟨"_law_roll", top 29, C18, [("cup" : Str), ("many" : Str)]⟩
def N19 : List Str := [("cup" : Str), ("things" : Str)]
def C19 : CC := ⟨N19, GL, [("cup" : Str)], EXC, SUB⟩
def d19 : DefT := ⟨"_law_some", top 30, C19, [("cup" : Str), ("things" : Str)]⟩
def N20 : List Str := [("cup" : Str), ("step" : Str), (".0" : Str), ("one" : Str)]
def C20 : CC := ⟨N20, GL, [("cup" : Str)], EXC, SUB⟩
def d20 : DefT := ⟨"_law_residues", top 31, C20, [("cup" : Str), ("step" : Str)]⟩
def N21 : List Str := [("cup" : Str), ("many" : Str), ("at" : Str), ("rows" : Str), ("turn" : Str), ("step" : Str), ("last" : Str), ("first" : Str)]
def C21 : CC := ⟨N21, GL, [("cup" : Str)], EXC, SUB⟩
def d21 : DefT := ⟨"_law_spans", top 32, C21, [("cup" : Str)]⟩
def N22 : List Str := [("spans" : Str), ("number" : Str), ("first" : Str), ("last" : Str), ("step" : Str), ("residues" : Str)]
def C22 : CC := ⟨N22, GL, [("cup" : Str)], EXC, SUB⟩
def d22 : DefT := ⟨"_law_has", top 33, C22, [("spans" : Str), ("number" : Str)]⟩
def N23 : List Str := [("spans" : Str), (".0" : Str), ("span" : Str)]
def C23 : CC := ⟨N23, GL, [("cup" : Str)], EXC, SUB⟩
def d23 : DefT := ⟨"_law_ends", top 34, C23, [("spans" : Str)]⟩
def N24 : List Str := [("cup" : Str), ("spans" : Str), ("at" : Str), ("first" : Str), ("last" : Str), ("step" : Str), ("residues" : Str), ("some" : Str), ("bent" : Str), ("more" : Str), ("whole" : Str), (".0" : Str), ("k" : Str)]
def C24 : CC := ⟨N24, GL, [("cup" : Str)], EXC, SUB⟩
def d24 : DefT := ⟨"_law_bent", top 35, C24, [("cup" : Str), ("spans" : Str)]⟩
def N25 : List Str := [("way" : Str), ("spans" : Str), ("number" : Str), ("found" : Str), ("e" : Str)]
def C25 : CC := ⟨N25, GL, [("cup" : Str)], EXC, SUB⟩
def d25 : DefT := ⟨"_law_error", top 36, C25, [("way" : Str), ("spans" : Str), ("number" : Str)]⟩
def N26 : List Str := [("spans" : Str), ("number" : Str), ("turn" : Str), ("near" : Str), ("begin" : Str), (".0" : Str)]
def C26 : CC := ⟨N26, GL, [("cup" : Str)], EXC, SUB⟩
def d26 : DefT := ⟨"_law_next", top 37, C26, [("spans" : Str), ("number" : Str)]⟩
def N27 : List Str := [("rows" : Str), ("outer" : Str), (".0" : Str), ("many" : Str), ("k" : Str), ("last" : Str), ("row" : Str)]
def C27 : CC := ⟨N27, GL, [("cup" : Str)], EXC, SUB⟩
def d27 : DefT := ⟨"_law_edges", top 38, C27, []⟩
def N28 : List Str := [("script" : Str), ("cup" : Str), ("spans" : Str), ("places" : Str), ("turn" : Str), ("number" : Str), ("low" : Str), ("high" : Str), ("far" : Str), ("turns" : Str), ("outer" : Str), ("bent" : Str), (".0" : Str), ("row" : Str), ("due" : Str), ("k" : Str)]
def C28 : CC := ⟨N28, GL, [("cup" : Str)], EXC, SUB⟩
def d28 : DefT := ⟨"law", top 39, C28, [("script" : Str)]⟩
def TAB : List DefT := [d0, d1, d2, d3, d4, d5, d6, d7, d8, d9, d10, d11, d12, d13, d14, d15, d16, d17, d18, d19, d20, d21, d22, d23, d24, d25, d26, d27, d28]
/-- is_whole 0 value, 1 low, 2 high -/
def m0 (Φ : Orc) : M Fl := (seqB [(sRet (xBool .And [(xIsi "int" (rdSlot 0)), (xNot (xIsi "bool" (rdSlot 0))), (xCmp2 .LtE .LtE (rdSlot 1) (rdSlot 0) (rdSlot 2))]))])
theorem e0 (Φ : Orc) : evB C0 Φ 40 (defScope (top 6)) 20 (defBody (top 6)) = m0 Φ := by kernel_rfl
/-- is_tuple_of 0 value, 1 low, 2 high -/
def m1 (Φ : Orc) : M Fl := (seqB [(sRet (xBool .And [(xIsi "tuple" (rdSlot 0)), (xCmp2 .LtE .LtE (rdSlot 1) (xBi .len [(rdSlot 0)]) (rdSlot 2))]))])
theorem e1 (Φ : Orc) : evB C1 Φ 40 (defScope (top 7)) 20 (defBody (top 7)) = m1 Φ := by kernel_rfl
/-- ascends 0 items, 1 .0, 2 one, 3 other -/
def m2 (Φ : Orc) : M Fl := (seqB [(sRet (xBi .all [(xComp [1, 2, 3] (tupAsg [2, 3]) (ret true) (xCmp .Lt (rdSlot 2) (rdSlot 3)) (iZip (rdSlot 0) (xSl (rdSlot 0) (some (ret (.val (.int (1))))) none)))]))])
theorem e2 (Φ : Orc) : evB C2 Φ 40 (defScope (top 12)) 20 (defBody (top 12)) = m2 Φ := by kernel_rfl
/-- is_place 0 value -/
def m3 (Φ : Orc) : M Fl := (seqB [(sRet (xCall Φ 0 [(rdSlot 0), (xNeg (ret (.val (.int (1000))))), (ret (.val (.int (1000))))]))])
theorem e3 (Φ : Orc) : evB C3 Φ 40 (defScope (top 13)) 20 (defBody (top 13)) = m3 Φ := by kernel_rfl
/-- fits_span 0 value, 1 is_first, 2 is_last, 3 .0, 4 one -/
def m4 (Φ : Orc) : M Fl := (seqB [(sIf (tBool .Or [(tNot (bnd (xCall Φ 1 [(rdSlot 0), (ret (.val (.int (4)))), (ret (.val (.int (4))))]) truM)), (tNot (bnd (xCall Φ 0 [(xSub (rdSlot 0) (ret (.val (.int (2))))), (ret (.val (.int (1)))), (ret (.val (.int (12))))]) truM)), (tNot (bnd (xCall Φ 1 [(xSub (rdSlot 0) (ret (.val (.int (3))))), (ret (.val (.int (0)))), (ret (.val (.int (12))))]) truM))]) (seqB [(sRet (ret (.val (.bl false))))]) (seqB [])),
    (sIf (tIfE (bnd (rdSlot 1) truM) (bnd (xCmp .IsNot (xSub (rdSlot 0) (ret (.val (.int (0))))) (ret (.val .non))) asBool) (tNot (bnd (xCall Φ 3 [(xSub (rdSlot 0) (ret (.val (.int (0)))))]) truM))) (seqB [(sRet (ret (.val (.bl false))))]) (seqB [])),
    (sIf (tIfE (bnd (rdSlot 2) truM) (bnd (xCmp .IsNot (xSub (rdSlot 0) (ret (.val (.int (1))))) (ret (.val .non))) asBool) (tNot (bnd (xCall Φ 3 [(xSub (rdSlot 0) (ret (.val (.int (1)))))]) truM))) (seqB [(sRet (ret (.val (.bl false))))]) (seqB [])),
    (sIf (tBool .And [(tNot (bnd (rdSlot 1) truM)), (tNot (bnd (rdSlot 2) truM)), (bnd (xCmp .Lt (xSub (rdSlot 0) (ret (.val (.int (1))))) (xSub (rdSlot 0) (ret (.val (.int (0)))))) asBool)]) (seqB [(sRet (ret (.val (.bl false))))]) (seqB [])),
    (sRet (xBool .And [(xBi .all [(xComp [3, 4] (setSlot 4) (ret true) (xCall Φ 0 [(rdSlot 4), (ret (.val (.int (0)))), (xBin .Sub (xSub (rdSlot 0) (ret (.val (.int (2))))) (ret (.val (.int (1)))))]) (iOf (xSub (rdSlot 0) (ret (.val (.int (3)))))))]), (xCall Φ 2 [(xSub (rdSlot 0) (ret (.val (.int (3)))))])]))])
theorem e4 (Φ : Orc) : evB C4 Φ 40 (defScope (top 14)) 20 (defBody (top 14)) = m4 Φ := by kernel_rfl
/-- fits_row 0 value, 1 .0, 2 at, 3 one, 4 other -/
def m5 (Φ : Orc) : M Fl := (seqB [(sIf (tNot (bnd (xCall Φ 1 [(rdSlot 0), (ret (.val (.int (1)))), (ret (.val (.int (400))))]) truM)) (seqB [(sRet (ret (.val (.bl false))))]) (seqB [])),
    (sIf (tNot (bnd (xBi .all [(xComp [1, 2, 3] (tupAsg [2, 3]) (ret true) (xCall Φ 4 [(rdSlot 3), (xCmp .Eq (rdSlot 2) (ret (.val (.int (0))))), (xCmp .Eq (rdSlot 2) (xBin .Sub (xBi .len [(rdSlot 0)]) (ret (.val (.int (1))))))]) (iEnum (rdSlot 0)))]) truM)) (seqB [(sRet (ret (.val (.bl false))))]) (seqB [])),
    (sRet (xBi .all [(xComp [1, 3, 4] (tupAsg [3, 4]) (ret true) (xCmp .Eq (xBin .Add (xSub (rdSlot 3) (ret (.val (.int (1))))) (ret (.val (.int (1))))) (xSub (rdSlot 4) (ret (.val (.int (0)))))) (iZip (rdSlot 0) (xSl (rdSlot 0) (some (ret (.val (.int (1))))) none)))]))])
theorem e5 (Φ : Orc) : evB C5 Φ 40 (defScope (top 15)) 20 (defBody (top 15)) = m5 Φ := by kernel_rfl
/-- need_spans 0 value -/
def m6 (Φ : Orc) : M Fl := (seqB [(sIf (tNot (bnd (xCall Φ 5 [(rdSlot 0)]) truM)) (seqB [(raiseM "InvalidSpans")]) (seqB []))])
theorem e6 (Φ : Orc) : evB C6 Φ 40 (defScope (top 16)) 20 (defBody (top 16)) = m6 Φ := by kernel_rfl
/-- need_place 0 value -/
def m7 (Φ : Orc) : M Fl := (seqB [(sIf (tNot (bnd (xCall Φ 0 [(rdSlot 0), (xNeg (ret (.val (.int (1000000000))))), (ret (.val (.int (1000000000))))]) truM)) (seqB [(raiseM "InvalidNumber")]) (seqB []))])
theorem e7 (Φ : Orc) : evB C7 Φ 40 (defScope (top 17)) 20 (defBody (top 17)) = m7 Φ := by kernel_rfl
/-- span_at 0 spans, 1 number, 2 .0, 3 one -/
def m8 (Φ : Orc) : M Fl := (seqB [(sRet (xSub (xComp [2, 3] (setSlot 3) (tBool .Or [(bnd (xCmp .Is (xSub (rdSlot 3) (ret (.val (.int (1))))) (ret (.val .non))) asBool), (bnd (xCmp .LtE (rdSlot 1) (xSub (rdSlot 3) (ret (.val (.int (1)))))) asBool)]) (rdSlot 3) (iOf (rdSlot 0))) (ret (.val (.int (0))))))])
theorem e8 (Φ : Orc) : evB C8 Φ 40 (defScope (top 18)) 20 (defBody (top 18)) = m8 Φ := by kernel_rfl
/-- is_in 0 spans, 1 number, 2 span -/
def m9 (Φ : Orc) : M Fl := (seqB [(sSet 2 false (xCall Φ 8 [(rdSlot 0), (rdSlot 1)])),
    (sRet (xCmp .In (xBin .Mod (rdSlot 1) (xSub (rdSlot 2) (ret (.val (.int (2)))))) (xSub (rdSlot 2) (ret (.val (.int (3)))))))])
theorem e9 (Φ : Orc) : evB C9 Φ 40 (defScope (top 19)) 20 (defBody (top 19)) = m9 Φ := by kernel_rfl
/-- next_of 0 span, 1 number, 2 least, 3 .0, 4 one -/
def m10 (Φ : Orc) : M Fl := (seqB [(sIf (bnd (xCmp .Eq (xSub (rdSlot 0) (ret (.val (.int (3))))) (xTup [])) asBool) (seqB [(sRet (ret (.val .non)))]) (seqB [])),
    (sSet 2 false (xBi .min [(xComp [3, 4] (setSlot 4) (ret true) (xBin .Add (rdSlot 1) (xBin .Mod (xBin .Sub (rdSlot 4) (rdSlot 1)) (xSub (rdSlot 0) (ret (.val (.int (2))))))) (iOf (xSub (rdSlot 0) (ret (.val (.int (3)))))))])),
    (sRet (xIf (tBool .Or [(bnd (xCmp .Is (xSub (rdSlot 0) (ret (.val (.int (1))))) (ret (.val .non))) asBool), (bnd (xCmp .LtE (rdSlot 2) (xSub (rdSlot 0) (ret (.val (.int (1)))))) asBool)]) (rdSlot 2) (ret (.val .non))))])
theorem e10 (Φ : Orc) : evB C10 Φ 40 (defScope (top 20)) 20 (defBody (top 20)) = m10 Φ := by kernel_rfl
/-- many_up_to 0 span, 1 number, 2 .0, 3 one -/
def m11 (Φ : Orc) : M Fl := (seqB [(sRet (xBi .sum [(xComp [2, 3] (setSlot 3) (ret true) (xBin .Add (xBin .FloorDiv (xBin .Sub (rdSlot 1) (rdSlot 3)) (xSub (rdSlot 0) (ret (.val (.int (2)))))) (ret (.val (.int (1))))) (iOf (xSub (rdSlot 0) (ret (.val (.int (3)))))))]))])
theorem e11 (Φ : Orc) : evB C11 Φ 40 (defScope (top 21)) 20 (defBody (top 21)) = m11 Φ := by kernel_rfl
/-- many_in 0 span, 1 low, 2 high -/
def m12 (Φ : Orc) : M Fl := (seqB [(sSet 1 false (xIf (bnd (xCmp .Is (xSub (rdSlot 0) (ret (.val (.int (0))))) (ret (.val .non))) asBool) (rdSlot 1) (xBi .max [(rdSlot 1), (xSub (rdSlot 0) (ret (.val (.int (0)))))]))),
    (sSet 2 false (xIf (bnd (xCmp .Is (xSub (rdSlot 0) (ret (.val (.int (1))))) (ret (.val .non))) asBool) (rdSlot 2) (xBi .min [(rdSlot 2), (xSub (rdSlot 0) (ret (.val (.int (1)))))]))),
    (sRet (xIf (bnd (xCmp .LtE (rdSlot 1) (rdSlot 2)) asBool) (xBin .Sub (xCall Φ 11 [(rdSlot 0), (rdSlot 2)]) (xCall Φ 11 [(rdSlot 0), (xBin .Sub (rdSlot 1) (ret (.val (.int (1)))))])) (ret (.val (.int (0))))))])
theorem e12 (Φ : Orc) : evB C12 Φ 40 (defScope (top 22)) 20 (defBody (top 22)) = m12 Φ := by kernel_rfl
/-- is_row 0 value -/
def m13 (Φ : Orc) : M Fl := (seqB [(sRet (xCall Φ 5 [(rdSlot 0)]))])
theorem e13 (Φ : Orc) : evB C13 Φ 40 (defScope (top 23)) 20 (defBody (top 23)) = m13 Φ := by kernel_rfl
/-- has_number 0 spans, 1 number -/
def m14 (Φ : Orc) : M Fl := (seqB [(sEx (xCall Φ 6 [(rdSlot 0)])),
    (sEx (xCall Φ 7 [(rdSlot 1)])),
    (sRet (xCall Φ 9 [(rdSlot 0), (rdSlot 1)]))])
theorem e14 (Φ : Orc) : evB C14 Φ 40 (defScope (top 24)) 20 (defBody (top 24)) = m14 Φ := by kernel_rfl
/-- next_in 0 spans, 1 number, 2 span, 3 found -/
def m15 (Φ : Orc) : M Fl := (seqB [(sEx (xCall Φ 6 [(rdSlot 0)])),
    (sEx (xCall Φ 7 [(rdSlot 1)])),
    (sFor (setSlot 2) (seqB [(sIf (tBool .Or [(bnd (xCmp .Is (xSub (rdSlot 2) (ret (.val (.int (1))))) (ret (.val .non))) asBool), (bnd (xCmp .LtE (rdSlot 1) (xSub (rdSlot 2) (ret (.val (.int (1)))))) asBool)]) (seqB [(sSet 3 false (xCall Φ 10 [(rdSlot 2), (xIf (bnd (xCmp .Is (xSub (rdSlot 2) (ret (.val (.int (0))))) (ret (.val .non))) asBool) (rdSlot 1) (xBi .max [(rdSlot 1), (xSub (rdSlot 2) (ret (.val (.int (0)))))]))])),
    (sIf (bnd (xCmp .IsNot (rdSlot 3) (ret (.val .non))) asBool) (seqB [(sRet (rdSlot 3))]) (seqB []))]) (seqB []))]) (iOf (rdSlot 0))),
    (sRet (ret (.val .non)))])
theorem e15 (Φ : Orc) : evB C15 Φ 40 (defScope (top 25)) 20 (defBody (top 25)) = m15 Φ := by kernel_rfl
/-- count_in 0 spans, 1 low, 2 high, 3 .0, 4 span -/
def m16 (Φ : Orc) : M Fl := (seqB [(sEx (xCall Φ 6 [(rdSlot 0)])),
    (sEx (xCall Φ 7 [(rdSlot 1)])),
    (sEx (xCall Φ 7 [(rdSlot 2)])),
    (sRet (xBi .sum [(xComp [3, 4] (setSlot 4) (ret true) (xCall Φ 12 [(rdSlot 4), (rdSlot 1), (rdSlot 2)]) (iOf (rdSlot 0)))]))])
theorem e16 (Φ : Orc) : evB C16 Φ 40 (defScope (top 26)) 20 (defBody (top 26)) = m16 Φ := by kernel_rfl
/-- _law_cup 0 script, 1 cell -/
def m17 (Φ : Orc) : M Fl := (seqB [(sSet 1 false (xBi .abs [(xSub (xBin .Add (xBi .list [(rdSlot 0)]) (xLst [(ret (.val (.int (0))))])) (ret (.val (.int (0)))))])),
    (sRet (xLst [(xIf (bnd (xCmp .GtE (rdSlot 1) (xBin .Pow (ret (.val (.int (10)))) (ret (.val (.int (18)))))) asBool) (xBin .FloorDiv (rdSlot 1) (ret (.val (.int (79))))) (ret (.val (.int (0))))), (xBin .Add (xBin .Mod (xBi .int [(xBin .Add (xBin .Mult (rdSlot 1) (ret (.val (.int (293))))) (ret (.val (.int (2903)))))]) (ret (.val (.int (2077503127))))) (ret (.val (.int (179)))))]))])
theorem e17 (Φ : Orc) : evB C17 Φ 40 (defScope (top 28)) 20 (defBody (top 28)) = m17 Φ := by kernel_rfl
/-- _law_roll 0 cup, 1 many, 2 found, 3 deep -/
def m18 (Φ : Orc) : M Fl := (seqB [(sIf (bnd (xCmp .Gt (xSub (rdSlot 0) (ret (.val (.int (0))))) (ret (.val (.int (0))))) asBool) (seqB [(sSet 2 false (xBin .Mod (xBi .int [(xSub (rdSlot 0) (ret (.val (.int (0)))))]) (rdSlot 1))),
    (sSto 0 (xBin .FloorDiv (xSub (rdSlot 0) (ret (.val (.int (0))))) (rdSlot 1)) (ret (.val (.int (0))))),
    (sRet (rdSlot 2))]) (seqB [])),
    (sSto 0 (xBin .Mod (xBi .int [(xBin .Add (xBin .Mult (xSub (rdSlot 0) (ret (.val (.int (1))))) (ret (.val (.int (31069))))) (ret (.val (.int (8017)))))]) (ret (.val (.int (2147483489))))) (ret (.val (.int (1))))),
    (sSet 3 false (xBin .Mod (xBi .int [(xBin .Mult (xSub (rdSlot 0) (ret (.val (.int (1))))) (xBin .Add (xSub (rdSlot 0) (ret (.val (.int (1))))) (ret (.val (.int (241))))))]) (ret (.val (.int (2147483587)))))),
    (sRet (xBin .Mod (xBi .int [(xBin .FloorDiv (rdSlot 3) (ret (.val (.int (829)))))]) (rdSlot 1)))])
theorem e18 (Φ : Orc) : evB C18 Φ 40 (defScope (top 29)) 20 (defBody (top 29)) = m18 Φ := by kernel_rfl
/-- _law_some 0 cup, 1 things -/
def m19 (Φ : Orc) : M Fl := (seqB [(sRet (xSub (rdSlot 1) (xCall Φ 18 [(rdSlot 0), (xBi .len [(rdSlot 1)])])))])
theorem e19 (Φ : Orc) : evB C19 Φ 40 (defScope (top 30)) 20 (defBody (top 30)) = m19 Φ := by kernel_rfl
/-- _law_residues 0 cup, 1 step, 2 .0, 3 one -/
def m20 (Φ : Orc) : M Fl := (seqB [(sRet (xBi .tuple [(xComp [2, 3] (setSlot 3) (tBool .Or [(bnd (xCmp .Eq (xCall Φ 18 [(rdSlot 0), (ret (.val (.int (3))))]) (ret (.val (.int (0))))) asBool), (bnd (xCmp .Eq (xCall Φ 18 [(rdSlot 0), (ret (.val (.int (4))))]) (ret (.val (.int (0))))) asBool)]) (rdSlot 3) (iRng1 (rdSlot 1)))]))])
theorem e20 (Φ : Orc) : evB C20 Φ 40 (defScope (top 31)) 20 (defBody (top 31)) = m20 Φ := by kernel_rfl
/-- _law_spans 0 cup, 1 many, 2 at, 3 rows, 4 turn, 5 step, 6 last, 7 first -/
def m21 (Φ : Orc) : M Fl := (seqB [(sPar3 1 2 3 (xCall Φ 19 [(rdSlot 0), (xLst [(ret (.val (.int (1)))), (ret (.val (.int (2)))), (ret (.val (.int (2)))), (ret (.val (.int (3)))), (ret (.val (.int (4)))), (ret (.val (.int (6))))])]) (xCall Φ 19 [(rdSlot 0), (xLst [(xNeg (ret (.val (.int (12))))), (xNeg (ret (.val (.int (5))))), (ret (.val (.int (0)))), (ret (.val (.int (3))))])]) (xLst [])),
    (sFor (setSlot 4) (seqB [(sSet 5 false (xCall Φ 19 [(rdSlot 0), (xLst [(ret (.val (.int (1)))), (ret (.val (.int (1)))), (ret (.val (.int (2)))), (ret (.val (.int (3)))), (ret (.val (.int (4)))), (ret (.val (.int (6)))), (ret (.val (.int (12)))), (ret (.val (.int (5)))), (ret (.val (.int (7)))), (ret (.val (.int (8)))), (ret (.val (.int (9)))), (ret (.val (.int (10)))), (ret (.val (.int (11)))), (ret (.val (.int (12)))), (ret (.val (.int (8))))])])),
    (sSet 6 false (xBin .Add (rdSlot 2) (xCall Φ 19 [(rdSlot 0), (xLst [(ret (.val (.int (0)))), (ret (.val (.int (1)))), (ret (.val (.int (2)))), (ret (.val (.int (5)))), (ret (.val (.int (11)))), (ret (.val (.int (14))))])]))),
    (sSet 7 false (xIf (bnd (xCmp .Eq (rdSlot 4) (ret (.val (.int (0))))) asBool) (ret (.val .non)) (rdSlot 2))),
    (sSet 6 false (xIf (bnd (xCmp .Eq (rdSlot 4) (ret (.val (.int (0))))) asBool) (xBin .Sub (rdSlot 2) (ret (.val (.int (1))))) (rdSlot 6))),
    (sSet 6 false (xIf (bnd (xCmp .Eq (xBin .Add (rdSlot 4) (ret (.val (.int (1))))) (rdSlot 1)) asBool) (ret (.val .non)) (rdSlot 6))),
    (sEx (xApp 3 (xTup [(rdSlot 7), (rdSlot 6), (rdSlot 5), (xCall Φ 20 [(rdSlot 0), (rdSlot 5)])]))),
    (sSet 2 false (xIf (bnd (xCmp .Is (rdSlot 6) (ret (.val .non))) asBool) (rdSlot 2) (xBin .Add (rdSlot 6) (ret (.val (.int (1)))))))]) (iRng1 (rdSlot 1))),
    (sRet (xBi .tuple [(rdSlot 3)]))])
theorem e21 (Φ : Orc) : evB C21 Φ 40 (defScope (top 32)) 20 (defBody (top 32)) = m21 Φ := by kernel_rfl
/-- _law_has 0 spans, 1 number, 2 first, 3 last, 4 step, 5 residues -/
def m22 (Φ : Orc) : M Fl := (seqB [(sFor (tupAsg [2, 3, 4, 5]) (seqB [(sIf (tBool .And [(tBool .Or [(bnd (xCmp .Is (rdSlot 2) (ret (.val .non))) asBool), (bnd (xCmp .LtE (rdSlot 2) (rdSlot 1)) asBool)]), (tBool .Or [(bnd (xCmp .Is (rdSlot 3) (ret (.val .non))) asBool), (bnd (xCmp .LtE (rdSlot 1) (rdSlot 3)) asBool)])]) (seqB [(sRet (xCmp .In (xBin .Mod (xBi .int [(rdSlot 1)]) (rdSlot 4)) (rdSlot 5)))]) (seqB []))]) (iOf (rdSlot 0))),
    (sRet (ret (.val (.bl false))))])
theorem e22 (Φ : Orc) : evB C22 Φ 40 (defScope (top 33)) 20 (defBody (top 33)) = m22 Φ := by kernel_rfl
/-- _law_ends 0 spans, 1 .0, 2 span -/
def m23 (Φ : Orc) : M Fl := (seqB [(sRet (xBin .Add (xLst [(ret (.val (.int (0))))]) (xComp [1, 2] (setSlot 2) (ret true) (xSub (rdSlot 2) (ret (.val (.int (1))))) (iOf (xSl (rdSlot 0) none (some (xNeg (ret (.val (.int (1)))))))))))])
theorem e23 (Φ : Orc) : evB C23 Φ 40 (defScope (top 34)) 20 (defBody (top 34)) = m23 Φ := by kernel_rfl
/-- _law_bent 0 cup, 1 spans, 2 at, 3 first, 4 last, 5 step, 6 residues, 7 some, 8 bent, 9 more, 10 whole, 11 .0, 12 k -/
def m24 (Φ : Orc) : M Fl := (seqB [(sSet 2 false (xCall Φ 18 [(rdSlot 0), (xBi .len [(rdSlot 1)])])),
    (sUn (tupAsg [3, 4, 5, 6]) (xSub (rdSlot 1) (rdSlot 2))),
    (sSet 7 false (xLst [(xTup [(rdSlot 3), (rdSlot 4), (ret (.val (.int (0)))), (xTup [])]), (xTup [(rdSlot 3), (rdSlot 4), (ret (.val (.int (13)))), (xTup [(ret (.val (.int (0))))])]), (xTup [(rdSlot 3), (rdSlot 4), (rdSlot 5), (xTup [(rdSlot 5)])]), (xTup [(rdSlot 3), (rdSlot 4), (rdSlot 5), (xTup [(xNeg (ret (.val (.int (1)))))])]), (xTup [(rdSlot 3), (rdSlot 4), (rdSlot 5), (xBi .list [(rdSlot 6)])])])),
    (sSet 7 false (xBin .Add (rdSlot 7) (xLst [(xTup [(rdSlot 3), (rdSlot 4), (ret (.val (.bl true))), (xTup [(ret (.val (.int (0))))])]), (xTup [(rdSlot 3), (rdSlot 4), (ret (.val (.int (3)))), (xTup [(ret (.val (.int (1)))), (ret (.val (.int (0))))])]), (xTup [(rdSlot 3), (rdSlot 4), (ret (.val (.int (3)))), (xTup [(ret (.val (.int (1)))), (ret (.val (.int (1))))])]), (xTup [(rdSlot 3), (rdSlot 4), (rdSlot 5)]), (xTup [(ret (.val (.str "0"))), (rdSlot 4), (rdSlot 5), (rdSlot 6)])]))),
    (sSet 7 false (xBin .Add (rdSlot 7) (xLst [(xLst [(rdSlot 3), (rdSlot 4), (rdSlot 5), (rdSlot 6)]), (ret (.val .non)), (xTup [(rdSlot 3), (ret (.val (.str "0"))), (rdSlot 5), (rdSlot 6)]), (xTup [(rdSlot 3), (rdSlot 4), (rdSlot 5), (xTup [(ret (.val (.bl true)))])]), (xTup [(rdSlot 3), (rdSlot 4), (ret (.val (.int (2)))), (xTup [(ret (.val (.int (0)))), (ret (.val (.int (1)))), (ret (.val (.int (1))))])])]))),
    (sSet 8 false (xBin .Add (xBin .Add (xSl (rdSlot 1) none (some (rdSlot 2))) (xTup [(xCall Φ 19 [(rdSlot 0), (rdSlot 7)])])) (xSl (rdSlot 1) (some (xBin .Add (rdSlot 2) (ret (.val (.int (1)))))) none))),
    (sSet 9 false (xTup [(xTup [(xTup [(ret (.val .non)), (ret (.val (.int (5)))), (ret (.val (.int (1)))), (xTup [])]), (xTup [(ret (.val (.int (7)))), (ret (.val .non)), (ret (.val (.int (1)))), (xTup [])])]), (xTup [(xTup [(ret (.val .non)), (ret (.val (.int (1001)))), (ret (.val (.int (1)))), (xTup [])]), (xTup [(ret (.val (.int (1002)))), (ret (.val .non)), (ret (.val (.int (1)))), (xTup [])])]), (xTup [(xTup [(ret (.val .non)), (ret (.val (.int (5)))), (ret (.val (.int (1)))), (xTup [])]), (xTup [(ret (.val (.int (6)))), (ret (.val (.int (5)))), (ret (.val (.int (1)))), (xTup [])]), (xTup [(ret (.val (.int (6)))), (ret (.val .non)), (ret (.val (.int (1)))), (xTup [])])])])),
    (sSet 10 false (xBin .Add (xBin .Add (xTup [(xTup [(ret (.val .non)), (xNeg (ret (.val (.int (1))))), (ret (.val (.int (1)))), (xTup [])])]) (xBi .tuple [(xComp [11, 12] (setSlot 12) (ret true) (xTup [(rdSlot 12), (rdSlot 12), (ret (.val (.int (1)))), (xTup [])]) (iRng1 (ret (.val (.int (400))))))])) (xTup [(xTup [(ret (.val (.int (400)))), (ret (.val .non)), (ret (.val (.int (1)))), (xTup [])])]))),
    (sRet (xCall Φ 19 [(rdSlot 0), (xBin .Add (xLst [(rdSlot 8), (rdSlot 8), (rdSlot 8), (xBi .list [(rdSlot 1)]), (xTup []), (ret (.val .non)), (xBin .Add (rdSlot 1) (rdSlot 1)), (rdSlot 10)]) (xBi .list [(rdSlot 9)]))]))])
theorem e24 (Φ : Orc) : evB C24 Φ 40 (defScope (top 35)) 20 (defBody (top 35)) = m24 Φ := by kernel_rfl
/-- _law_error 0 way, 1 spans, 2 number, 3 found, 4 e -/
def m25 (Φ : Orc) : M Fl := (seqB [(tryG (some 4) (seqB [(sIf (bnd (xCmp .Lt (rdSlot 0) (ret (.val (.int (2))))) asBool) (seqB [(sSet 3 false (xIf (bnd (xCmp .Eq (rdSlot 0) (ret (.val (.int (0))))) asBool) (xCall Φ 14 [(rdSlot 1), (rdSlot 2)]) (xCall Φ 15 [(rdSlot 1), (rdSlot 2)])))]) (seqB [(sSet 3 false (xIf (bnd (xCmp .Eq (rdSlot 0) (ret (.val (.int (2))))) asBool) (xCall Φ 16 [(rdSlot 1), (rdSlot 2), (ret (.val (.int (5))))]) (xCall Φ 16 [(rdSlot 1), (ret (.val (.int (5)))), (rdSlot 2)])))]))]) [(("InvalidSpans" : Str), some (some (.str "spans"))), (("InvalidNumber" : Str), some (some (.str "number")))]),
    (sRet (ret (.val (.str ""))))])
theorem e25 (Φ : Orc) : evB C25 Φ 40 (defScope (top 36)) 20 (defBody (top 36)) = m25 Φ := by kernel_rfl
/-- _law_next 0 spans, 1 number, 2 turn, 3 near, 4 begin, 5 .0 -/
def m26 (Φ : Orc) : M Fl := (seqB [(sSet 3 false (xComp [5, 2] (setSlot 2) (bnd (xCall Φ 22 [(rdSlot 0), (xBin .Add (rdSlot 1) (rdSlot 2))]) truM) (xBin .Add (rdSlot 1) (rdSlot 2)) (iRng1 (ret (.val (.int (14))))))),
    (sIf (tBool .Or [(bnd (xCmp .NotEq (rdSlot 3) (xLst [])) asBool), (bnd (xCmp .Gt (rdSlot 1) (xBi .max [(xCall Φ 23 [(rdSlot 0)])])) asBool)]) (seqB [(sRet (xIf (bnd (xCmp .NotEq (rdSlot 3) (xLst [])) asBool) (xSub (rdSlot 3) (ret (.val (.int (0))))) (ret (.val .non))))]) (seqB [])),
    (sSet 4 false (xBi .max [(rdSlot 1), (xBin .Sub (xBi .min [(xCall Φ 23 [(rdSlot 0)])]) (ret (.val (.int (13)))))])),
    (sFor (setSlot 2) (seqB [(sIf (bnd (xCall Φ 22 [(rdSlot 0), (xBin .Add (rdSlot 4) (rdSlot 2))]) truM) (seqB [(sRet (xBin .Add (rdSlot 4) (rdSlot 2)))]) (seqB []))]) (iRng1 (xBin .Add (xBin .Sub (xBi .max [(xCall Φ 23 [(rdSlot 0)])]) (rdSlot 4)) (ret (.val (.int (14))))))),
    (sRet (ret (.val .non)))])
theorem e26 (Φ : Orc) : evB C26 Φ 40 (defScope (top 37)) 20 (defBody (top 37)) = m26 Φ := by kernel_rfl
/-- _law_edges 0 rows, 1 outer, 2 .0, 3 many, 4 k, 5 last, 6 row -/
def m27 (Φ : Orc) : M Fl := (seqB [(sSet 0 false (xComp [2, 3] (setSlot 3) (ret true) (xTup [(xBin .Add (xBin .Add (xTup [(xTup [(ret (.val .non)), (xNeg (ret (.val (.int (1))))), (ret (.val (.int (1)))), (xTup [])])]) (xBi .tuple [(xComp [2, 4] (setSlot 4) (ret true) (xTup [(rdSlot 4), (rdSlot 4), (ret (.val (.int (1)))), (xTup [])]) (iRng1 (rdSlot 3)))])) (xTup [(xTup [(rdSlot 3), (ret (.val .non)), (ret (.val (.int (1)))), (xTup [])])])), (xCmp .Eq (rdSlot 3) (ret (.val (.int (398)))))]) (iOf (xTup [(ret (.val (.int (398)))), (ret (.val (.int (399))))])))),
    (sSet 0 false (xBin .Add (rdSlot 0) (xComp [2, 5] (setSlot 5) (ret true) (xTup [(xTup [(xTup [(ret (.val .non)), (rdSlot 5), (ret (.val (.int (12)))), (xTup [(ret (.val (.int (11))))])]), (xTup [(xBin .Add (rdSlot 5) (ret (.val (.int (1))))), (ret (.val .non)), (ret (.val (.int (1)))), (xTup [(ret (.val (.int (0))))])])]), (xCmp .Eq (rdSlot 5) (ret (.val (.int (999)))))]) (iOf (xTup [(ret (.val (.int (999)))), (ret (.val (.int (1000))))]))))),
    (sSet 0 false (xBin .Add (rdSlot 0) (xComp [2, 5] (setSlot 5) (ret true) (xTup [(xTup [(xTup [(ret (.val .non)), (rdSlot 5), (ret (.val (.int (1)))), (xTup [])]), (xTup [(xBin .Add (rdSlot 5) (ret (.val (.int (1))))), (ret (.val .non)), (ret (.val (.int (1)))), (xTup [(ret (.val (.int (0))))])])]), (xCmp .Eq (rdSlot 5) (xNeg (ret (.val (.int (1000))))))]) (iOf (xTup [(xNeg (ret (.val (.int (1000))))), (xNeg (ret (.val (.int (1001)))))]))))),
    (sSet 1 false (xLst [(xTup [(xTup [(ret (.val (.int (0)))), (ret (.val .non)), (ret (.val (.int (1)))), (xTup [(ret (.val (.int (0))))])])]), (xTup [(xTup [(ret (.val .non)), (ret (.val (.int (9)))), (ret (.val (.int (1)))), (xTup [(ret (.val (.int (0))))])])]), (xTup [(xTup [(ret (.val (.int (0)))), (ret (.val (.int (9)))), (ret (.val (.int (1)))), (xTup [(ret (.val (.int (0))))])])]), (xTup [(xTup [(ret (.val .non)), (ret (.val (.int (4)))), (ret (.val (.int (1)))), (xTup [])]), (xTup [(ret (.val (.int (5)))), (ret (.val (.int (9)))), (ret (.val (.int (1)))), (xTup [(ret (.val (.int (0))))])])]), (xTup [(xTup [(xNeg (ret (.val (.int (3))))), (ret (.val (.int (4)))), (ret (.val (.int (1)))), (xTup [])]), (xTup [(ret (.val (.int (5)))), (ret (.val .non)), (ret (.val (.int (1)))), (xTup [(ret (.val (.int (0))))])])])])),
    (sSet 1 false (xBin .Add (rdSlot 1) (xLst [(xTup [(xTup [(ret (.val .non)), (ret (.val (.bl false))), (ret (.val (.int (1)))), (xTup [])]), (xTup [(ret (.val (.int (1)))), (ret (.val .non)), (ret (.val (.int (1)))), (xTup [])])]), (xTup [(xTup [(ret (.val .non)), (ret (.val (.bl true))), (ret (.val (.int (1)))), (xTup [])]), (xTup [(ret (.val (.int (2)))), (ret (.val .non)), (ret (.val (.int (1)))), (xTup [])])]), (xTup [(xTup [(ret (.val .non)), (ret (.val (.int (0)))), (ret (.val (.int (1)))), (xTup [])]), (xTup [(ret (.val (.bl true))), (ret (.val .non)), (ret (.val (.int (1)))), (xTup [])])])]))),
    (sRet (xBin .Add (xBin .Add (rdSlot 0) (xComp [2, 6] (setSlot 6) (ret true) (xTup [(rdSlot 6), (ret (.val (.bl false)))]) (iOf (rdSlot 1)))) (xLst [(xTup [(xTup [(xTup [(ret (.val .non)), (ret (.val (.int (0)))), (ret (.val (.int (1)))), (xTup [])]), (xTup [(ret (.val (.int (1)))), (ret (.val .non)), (ret (.val (.int (1)))), (xTup [])])]), (ret (.val (.bl true)))]), (xTup [(xTup [(xTup [(ret (.val .non)), (ret (.val .non)), (ret (.val (.int (1)))), (xTup [])])]), (ret (.val (.bl true)))])])))])
theorem e27 (Φ : Orc) : evB C27 Φ 40 (defScope (top 38)) 20 (defBody (top 38)) = m27 Φ := by kernel_rfl
/-- law 0 script, 1 cup, 2 spans, 3 places, 4 turn, 5 number, 6 low, 7 high, 8 far, 9 turns, 10 outer, 11 bent, 12 .0, 13 row, 14 due, 15 k -/
def m28 (Φ : Orc) : M Fl := (seqB [(sSet 1 true (xCall Φ 17 [(rdSlot 0)])),
    (sSet 2 false (xCall Φ 21 [(rdSlot 1)])),
    (sIf (bnd (xCmp .IsNot (xCall Φ 13 [(rdSlot 2)]) (ret (.val (.bl true)))) asBool) (seqB [(sRet (ret (.val (.bl false))))]) (seqB [])),
    (sIf (bnd (xCmp .NotEq (xComp [12, 13, 14] (tupAsg [13, 14]) (bnd (xCmp .NotEq (xBi .repr [(xCall Φ 13 [(rdSlot 13)])]) (xBi .repr [(rdSlot 14)])) asBool) (ret (.val (.int (1)))) (iOf (xCall Φ 27 []))) (xLst [])) asBool) (seqB [(sRet (ret (.val (.bl false))))]) (seqB [])),
    (sSet 3 false (xBin .Add (xCall Φ 23 [(rdSlot 2)]) (xLst [(xBin .Pow (ret (.val (.int (10)))) (ret (.val (.int (9))))), (xNeg (xBin .Pow (ret (.val (.int (10)))) (ret (.val (.int (9)))))), (xBin .Sub (xCall Φ 18 [(rdSlot 1), (xBin .Mult (ret (.val (.int (2)))) (xBin .Pow (ret (.val (.int (10)))) (ret (.val (.int (9))))))]) (xBin .Pow (ret (.val (.int (10)))) (ret (.val (.int (9))))))]))),
    (sFor (setSlot 4) (seqB [(sSet 5 false (xBi .max [(xNeg (xBin .Pow (ret (.val (.int (10)))) (ret (.val (.int (9)))))), (xBi .min [(xBin .Pow (ret (.val (.int (10)))) (ret (.val (.int (9))))), (xBin .Sub (xBin .Add (xCall Φ 19 [(rdSlot 1), (rdSlot 3)]) (xCall Φ 18 [(rdSlot 1), (ret (.val (.int (27))))])) (ret (.val (.int (13)))))])])),
    (sIf (bnd (xCmp .NotEq (xBi .repr [(xCall Φ 14 [(rdSlot 2), (rdSlot 5)])]) (xBi .repr [(xCall Φ 22 [(rdSlot 2), (rdSlot 5)])])) asBool) (seqB [(sRet (ret (.val (.bl false))))]) (seqB [])),
    (sIf (bnd (xCmp .NotEq (xBi .repr [(xCall Φ 15 [(rdSlot 2), (rdSlot 5)])]) (xBi .repr [(xCall Φ 26 [(rdSlot 2), (rdSlot 5)])])) asBool) (seqB [(sRet (ret (.val (.bl false))))]) (seqB []))]) (iRng1 (ret (.val (.int (8)))))),
    (sPar 6 7 (xBin .Sub (xCall Φ 18 [(rdSlot 1), (ret (.val (.int (60))))]) (ret (.val (.int (40))))) (xBin .Sub (xCall Φ 18 [(rdSlot 1), (ret (.val (.int (80))))]) (ret (.val (.int (40)))))),
    (sIf (bnd (xCmp .NotEq (xBi .repr [(xCall Φ 16 [(rdSlot 2), (rdSlot 6), (rdSlot 7)])]) (xBi .repr [(xBi .len [(xComp [12, 15] (setSlot 15) (bnd (xCall Φ 22 [(rdSlot 2), (rdSlot 15)]) truM) (rdSlot 15) (iRng2 (rdSlot 6) (xBin .Add (rdSlot 7) (ret (.val (.int (1)))))))])])) asBool) (seqB [(sRet (ret (.val (.bl false))))]) (seqB [])),
    (sPar 8 9 (xCall Φ 19 [(rdSlot 1), (xLst [(ret (.val (.int (5000)))), (xNeg (ret (.val (.int (9000))))), (xBin .Add (xBin .Pow (ret (.val (.int (10)))) (ret (.val (.int (8))))) (ret (.val (.int (7))))), (xNeg (xBin .Pow (ret (.val (.int (10)))) (ret (.val (.int (9))))))])]) (xBin .Add (ret (.val (.int (1)))) (xCall Φ 18 [(rdSlot 1), (ret (.val (.int (9))))]))),
    (sSet 10 false (xIf (bnd (xCmp .Lt (rdSlot 8) (ret (.val (.int (0))))) asBool) (xSub (rdSlot 2) (ret (.val (.int (0))))) (xSub (rdSlot 2) (xNeg (ret (.val (.int (1)))))))),
    (sIf (bnd (xCmp .NotEq (xBi .repr [(xCall Φ 16 [(rdSlot 2), (rdSlot 8), (xBin .Sub (xBin .Add (rdSlot 8) (xBin .Mult (xSub (rdSlot 10) (ret (.val (.int (2))))) (rdSlot 9))) (ret (.val (.int (1)))))])]) (xBi .repr [(xBin .Mult (rdSlot 9) (xBi .len [(xSub (rdSlot 10) (ret (.val (.int (3)))))]))])) asBool) (seqB [(sRet (ret (.val (.bl false))))]) (seqB [])),
    (sSet 11 false (xCall Φ 24 [(rdSlot 1), (rdSlot 2)])),
    (sIf (tBool .Or [(bnd (xCmp .IsNot (xCall Φ 13 [(rdSlot 11)]) (ret (.val (.bl false)))) asBool), (bnd (xCmp .NotEq (xCall Φ 25 [(xCall Φ 18 [(rdSlot 1), (ret (.val (.int (4))))]), (rdSlot 11), (xBin .Pow (ret (.val (.int (10)))) (ret (.val (.int (10)))))]) (ret (.val (.str "spans")))) asBool)]) (seqB [(sRet (ret (.val (.bl false))))]) (seqB [])),
    (sRet (xCmp .Eq (xCall Φ 25 [(xCall Φ 18 [(rdSlot 1), (ret (.val (.int (4))))]), (rdSlot 2), (xCall Φ 19 [(rdSlot 1), (xLst [(xBin .Add (xBin .Pow (ret (.val (.int (10)))) (ret (.val (.int (9))))) (ret (.val (.int (1))))), (xBin .Sub (xNeg (xBin .Pow (ret (.val (.int (10)))) (ret (.val (.int (9)))))) (ret (.val (.int (1))))), (ret (.val (.bl true))), (ret (.val .non)), (ret (.val (.str "5")))])])]) (ret (.val (.str "number")))))])
theorem e28 (Φ : Orc) : evB C28 Φ 40 (defScope (top 39)) 20 (defBody (top 39)) = m28 Φ := by kernel_rfl
def TT : List DefE := TAB.map DefT.e
theorem p0 (k : Nat) (x0 : PV) (x1 : PV) (x2 : PV) (st : List Cell) : evP TT (k + 1) 0 [x0, x1, x2] st = finO (m0 (evP TT k) ⟨[.val x0, .val x1, .val x2], st⟩) := (congrFun (congrFun (run_eq (D := d0.e) rfl (e0 _)) _) _).trans (runD_run rfl)
theorem p1 (k : Nat) (x0 : PV) (x1 : PV) (x2 : PV) (st : List Cell) : evP TT (k + 1) 1 [x0, x1, x2] st = finO (m1 (evP TT k) ⟨[.val x0, .val x1, .val x2], st⟩) := (congrFun (congrFun (run_eq (D := d1.e) rfl (e1 _)) _) _).trans (runD_run rfl)
theorem p2 (k : Nat) (x0 : PV) (st : List Cell) : evP TT (k + 1) 2 [x0] st = finO (m2 (evP TT k) ⟨[.val x0, .none, .none, .none], st⟩) := (congrFun (congrFun (run_eq (D := d2.e) rfl (e2 _)) _) _).trans (runD_run rfl)
theorem p3 (k : Nat) (x0 : PV) (st : List Cell) : evP TT (k + 1) 3 [x0] st = finO (m3 (evP TT k) ⟨[.val x0], st⟩) := (congrFun (congrFun (run_eq (D := d3.e) rfl (e3 _)) _) _).trans (runD_run rfl)
theorem p4 (k : Nat) (x0 : PV) (x1 : PV) (x2 : PV) (st : List Cell) : evP TT (k + 1) 4 [x0, x1, x2] st = finO (m4 (evP TT k) ⟨[.val x0, .val x1, .val x2, .none, .none], st⟩) := (congrFun (congrFun (run_eq (D := d4.e) rfl (e4 _)) _) _).trans (runD_run rfl)
theorem p5 (k : Nat) (x0 : PV) (st : List Cell) : evP TT (k + 1) 5 [x0] st = finO (m5 (evP TT k) ⟨[.val x0, .none, .none, .none, .none], st⟩) := (congrFun (congrFun (run_eq (D := d5.e) rfl (e5 _)) _) _).trans (runD_run rfl)
theorem p6 (k : Nat) (x0 : PV) (st : List Cell) : evP TT (k + 1) 6 [x0] st = finO (m6 (evP TT k) ⟨[.val x0], st⟩) := (congrFun (congrFun (run_eq (D := d6.e) rfl (e6 _)) _) _).trans (runD_run rfl)
theorem p7 (k : Nat) (x0 : PV) (st : List Cell) : evP TT (k + 1) 7 [x0] st = finO (m7 (evP TT k) ⟨[.val x0], st⟩) := (congrFun (congrFun (run_eq (D := d7.e) rfl (e7 _)) _) _).trans (runD_run rfl)
theorem p8 (k : Nat) (x0 : PV) (x1 : PV) (st : List Cell) : evP TT (k + 1) 8 [x0, x1] st = finO (m8 (evP TT k) ⟨[.val x0, .val x1, .none, .none], st⟩) := (congrFun (congrFun (run_eq (D := d8.e) rfl (e8 _)) _) _).trans (runD_run rfl)
theorem p9 (k : Nat) (x0 : PV) (x1 : PV) (st : List Cell) : evP TT (k + 1) 9 [x0, x1] st = finO (m9 (evP TT k) ⟨[.val x0, .val x1, .none], st⟩) := (congrFun (congrFun (run_eq (D := d9.e) rfl (e9 _)) _) _).trans (runD_run rfl)
theorem p10 (k : Nat) (x0 : PV) (x1 : PV) (st : List Cell) : evP TT (k + 1) 10 [x0, x1] st = finO (m10 (evP TT k) ⟨[.val x0, .val x1, .none, .none, .none], st⟩) := (congrFun (congrFun (run_eq (D := d10.e) rfl (e10 _)) _) _).trans (runD_run rfl)
theorem p11 (k : Nat) (x0 : PV) (x1 : PV) (st : List Cell) : evP TT (k + 1) 11 [x0, x1] st = finO (m11 (evP TT k) ⟨[.val x0, .val x1, .none, .none], st⟩) := (congrFun (congrFun (run_eq (D := d11.e) rfl (e11 _)) _) _).trans (runD_run rfl)
theorem p12 (k : Nat) (x0 : PV) (x1 : PV) (x2 : PV) (st : List Cell) : evP TT (k + 1) 12 [x0, x1, x2] st = finO (m12 (evP TT k) ⟨[.val x0, .val x1, .val x2], st⟩) := (congrFun (congrFun (run_eq (D := d12.e) rfl (e12 _)) _) _).trans (runD_run rfl)
theorem p13 (k : Nat) (x0 : PV) (st : List Cell) : evP TT (k + 1) 13 [x0] st = finO (m13 (evP TT k) ⟨[.val x0], st⟩) := (congrFun (congrFun (run_eq (D := d13.e) rfl (e13 _)) _) _).trans (runD_run rfl)
theorem p14 (k : Nat) (x0 : PV) (x1 : PV) (st : List Cell) : evP TT (k + 1) 14 [x0, x1] st = finO (m14 (evP TT k) ⟨[.val x0, .val x1], st⟩) := (congrFun (congrFun (run_eq (D := d14.e) rfl (e14 _)) _) _).trans (runD_run rfl)
theorem p15 (k : Nat) (x0 : PV) (x1 : PV) (st : List Cell) : evP TT (k + 1) 15 [x0, x1] st = finO (m15 (evP TT k) ⟨[.val x0, .val x1, .none, .none], st⟩) := (congrFun (congrFun (run_eq (D := d15.e) rfl (e15 _)) _) _).trans (runD_run rfl)
theorem p16 (k : Nat) (x0 : PV) (x1 : PV) (x2 : PV) (st : List Cell) : evP TT (k + 1) 16 [x0, x1, x2] st = finO (m16 (evP TT k) ⟨[.val x0, .val x1, .val x2, .none, .none], st⟩) := (congrFun (congrFun (run_eq (D := d16.e) rfl (e16 _)) _) _).trans (runD_run rfl)
theorem p17 (k : Nat) (x0 : PV) (st : List Cell) : evP TT (k + 1) 17 [x0] st = finO (m17 (evP TT k) ⟨[.val x0, .none], st⟩) := (congrFun (congrFun (run_eq (D := d17.e) rfl (e17 _)) _) _).trans (runD_run rfl)
theorem p18 (k : Nat) (x0 : PV) (x1 : PV) (st : List Cell) : evP TT (k + 1) 18 [x0, x1] st = finO (m18 (evP TT k) ⟨[.val x0, .val x1, .none, .none], st⟩) := (congrFun (congrFun (run_eq (D := d18.e) rfl (e18 _)) _) _).trans (runD_run rfl)
theorem p19 (k : Nat) (x0 : PV) (x1 : PV) (st : List Cell) : evP TT (k + 1) 19 [x0, x1] st = finO (m19 (evP TT k) ⟨[.val x0, .val x1], st⟩) := (congrFun (congrFun (run_eq (D := d19.e) rfl (e19 _)) _) _).trans (runD_run rfl)
theorem p20 (k : Nat) (x0 : PV) (x1 : PV) (st : List Cell) : evP TT (k + 1) 20 [x0, x1] st = finO (m20 (evP TT k) ⟨[.val x0, .val x1, .none, .none], st⟩) := (congrFun (congrFun (run_eq (D := d20.e) rfl (e20 _)) _) _).trans (runD_run rfl)
theorem p21 (k : Nat) (x0 : PV) (st : List Cell) : evP TT (k + 1) 21 [x0] st = finO (m21 (evP TT k) ⟨[.val x0, .none, .none, .none, .none, .none, .none, .none], st⟩) := (congrFun (congrFun (run_eq (D := d21.e) rfl (e21 _)) _) _).trans (runD_run rfl)
theorem p22 (k : Nat) (x0 : PV) (x1 : PV) (st : List Cell) : evP TT (k + 1) 22 [x0, x1] st = finO (m22 (evP TT k) ⟨[.val x0, .val x1, .none, .none, .none, .none], st⟩) := (congrFun (congrFun (run_eq (D := d22.e) rfl (e22 _)) _) _).trans (runD_run rfl)
theorem p23 (k : Nat) (x0 : PV) (st : List Cell) : evP TT (k + 1) 23 [x0] st = finO (m23 (evP TT k) ⟨[.val x0, .none, .none], st⟩) := (congrFun (congrFun (run_eq (D := d23.e) rfl (e23 _)) _) _).trans (runD_run rfl)
theorem p24 (k : Nat) (x0 : PV) (x1 : PV) (st : List Cell) : evP TT (k + 1) 24 [x0, x1] st = finO (m24 (evP TT k) ⟨[.val x0, .val x1, .none, .none, .none, .none, .none, .none, .none, .none, .none, .none, .none], st⟩) := (congrFun (congrFun (run_eq (D := d24.e) rfl (e24 _)) _) _).trans (runD_run rfl)
theorem p25 (k : Nat) (x0 : PV) (x1 : PV) (x2 : PV) (st : List Cell) : evP TT (k + 1) 25 [x0, x1, x2] st = finO (m25 (evP TT k) ⟨[.val x0, .val x1, .val x2, .none, .none], st⟩) := (congrFun (congrFun (run_eq (D := d25.e) rfl (e25 _)) _) _).trans (runD_run rfl)
theorem p26 (k : Nat) (x0 : PV) (x1 : PV) (st : List Cell) : evP TT (k + 1) 26 [x0, x1] st = finO (m26 (evP TT k) ⟨[.val x0, .val x1, .none, .none, .none, .none], st⟩) := (congrFun (congrFun (run_eq (D := d26.e) rfl (e26 _)) _) _).trans (runD_run rfl)
theorem p27 (k : Nat) (st : List Cell) : evP TT (k + 1) 27 [] st = finO (m27 (evP TT k) ⟨[.none, .none, .none, .none, .none, .none, .none], st⟩) := (congrFun (congrFun (run_eq (D := d27.e) rfl (e27 _)) _) _).trans (runD_run rfl)
theorem p28 (k : Nat) (x0 : PV) (st : List Cell) : evP TT (k + 1) 28 [x0] st = finO (m28 (evP TT k) ⟨[.val x0, .none, .none, .none, .none, .none, .none, .none, .none, .none, .none, .none, .none, .none, .none, .none], st⟩) := (congrFun (congrFun (run_eq (D := d28.e) rfl (e28 _)) _) _).trans (runD_run rfl)end Ev

set_option linter.all false
set_option maxRecDepth 100000
set_option maxHeartbeats 1000000
namespace Ev
open PySem PySem.Spec L2
abbrev PL (ps : List Int) : PV := .tup (ps.map .int)
/-! ### the cup -/
def Cups (st : List Cell) : Prop := ∃ a b : Int, st = [.lst [.int a, .int b]] ∧ 0 ≤ a ∧ 0 ≤ b ∧ b < 4294967296
theorem froll (k : Nat) (m : Int) (hm : 0 < m) (hm' : m < 18446744073709551616) (st : List Cell) (hc : Cups st) : ∃ (r : Int) (st' : List Cell), evP TT (k + 1) 18 [.box 0, .int m] st = .ok (.val (.int r)) st' ∧ 0 ≤ r ∧ r < m ∧ Cups st' := by
  obtain ⟨a, b, rfl, ha, hb, hb'⟩ := hc
  have hm0 : m ≠ 0 := by omega
  have hm1 : 0 ≤ m := by omega
  by_cases h : 0 < a
  · refine ⟨a % m, [.lst [.int (a / m), .int b]], ?_, Int.emod_nonneg _ hm0, Int.emod_lt_of_pos _ hm, a / m, b, rfl, Int.ediv_nonneg ha hm1, hb, hb'⟩
    rw [p18]; unfold m18
    simp [h, hm0, hm1, hm, hm']
  · refine ⟨((((b * 31069 + 8017) % 2147483489) * (((b * 31069 + 8017) % 2147483489) + 241) % 2147483587) / 829) % m, [.lst [.int a, .int ((b * 31069 + 8017) % 2147483489)]], ?_, Int.emod_nonneg _ hm0, Int.emod_lt_of_pos _ hm, a, _, rfl, ha, by omega, by omega⟩
    have q1 : -18446744073709551616 < (b * 31069 + 8017) % 2147483489 := by omega
    have q2 : (b * 31069 + 8017) % 2147483489 < 18446744073709551616 := by omega
    rw [p18]; unfold m18
    simp [h, hm0, hm1, hm, hm', q1, q2]
theorem fcup (k : Nat) (ns : List Int) (st : List Cell) (hl : ns.length ≤ 63) : ∃ a b : Int, evP TT (k + 1) 17 [.scr ns] st = .ok (.fresh (.lst [.int a, .int b])) st ∧ 0 ≤ a ∧ 0 ≤ b ∧ b < 4294967296 := by
  obtain ⟨c, r, e⟩ : ∃ c r, ns.map PV.int ++ [PV.int 0] = PV.int c :: r := by
    cases ns with
    | nil => exact ⟨0, [], rfl⟩
    | cons c r => exact ⟨c, _, rfl⟩
  have hz : ns.length + 1 ≤ 16777216 := by omega
  have h0 : 0 ≤ (if c < 0 then -c else c) := by split <;> omega
  by_cases h : 1000000000000000000 ≤ (if c < 0 then -c else c)
  · refine ⟨(if c < 0 then -c else c) / 79, ((if c < 0 then -c else c) * 293 + 2903) % 2077503127 + 179, ?_, by omega, by omega, by omega⟩
    rw [p17]; unfold m17
    simp [hz, e, h]
  · refine ⟨0, ((if c < 0 then -c else c) * 293 + 2903) % 2077503127 + 179, ?_, by omega, by omega, by omega⟩
    rw [p17]; unfold m17
    simp [hz, e, h]
theorem fsome (k : Nat) (xs : List PV) (hx : 0 < xs.length) (hx' : xs.length ≤ 1000) (st : List Cell) (hc : Cups st) : ∃ (v : PV) (st' : List Cell), evP TT (k + 2) 19 [.box 0, .lst xs] st = .ok (.val v) st' ∧ v ∈ xs ∧ Cups st' := by
  obtain ⟨r, st', e, r0, r1, c'⟩ := froll k xs.length (by omega) (by omega) st hc
  have hr : r.toNat < xs.length := by omega
  have ea : L2.atI xs r = some xs[r.toNat] := by
    have q := L2.atI_nat (xs := xs) (j := r.toNat) (v := xs[r.toNat]) (List.getElem?_eq_getElem hr)
    rwa [Int.toNat_of_nonneg r0] at q
  refine ⟨xs[r.toNat], st', ?_, List.getElem_mem hr, c'⟩
  rw [p19]; unfold m19
  simp [e, ea]
/-! ### values that are asked -/
def Dat : PV → Prop
  | .scr _ => False
  | .box _ => False
  | .fn _ => False
  | _ => True
def wholeB (v : PV) (lo hi : Int) : Bool := match v with
  | .int i => decide (lo ≤ i) && decide (i ≤ hi)
  | _ => false
def tupB (v : PV) (lo hi : Int) : Bool := match v with
  | .tup xs => decide (lo ≤ (xs.length : Int)) && decide ((xs.length : Int) ≤ hi)
  | _ => false
theorem i1 : isInst PV.non "int" = some false := rfl
theorem i2 (b : Bool) : isInst (PV.bl b) "int" = some true := rfl
theorem i3 (b : Bool) : isInst (PV.bl b) "bool" = some true := rfl
theorem i4 (i : Int) : isInst (PV.int i) "int" = some true := rfl
theorem i5 (i : Int) : isInst (PV.int i) "bool" = some false := rfl
theorem i6 (x : Str) : isInst (PV.str x) "int" = some false := rfl
theorem i7 (x : List PV) : isInst (PV.tup x) "int" = some false := rfl
theorem i8 (x : List PV) : isInst (PV.lst x) "int" = some false := rfl
theorem j1 : isInst PV.non "tuple" = some false := rfl
theorem j2 (b : Bool) : isInst (PV.bl b) "tuple" = some false := rfl
theorem j4 (i : Int) : isInst (PV.int i) "tuple" = some false := rfl
theorem j6 (x : Str) : isInst (PV.str x) "tuple" = some false := rfl
theorem j7 (x : List PV) : isInst (PV.tup x) "tuple" = some true := rfl
theorem j8 (x : List PV) : isInst (PV.lst x) "tuple" = some false := rfl
/-- is_whole -/
theorem f0 (k : Nat) (v : PV) (hv : Dat v) (lo hi : Int) (st : List Cell) : evP TT (k + 1) 0 [v, .int lo, .int hi] st = .ok (.val (.bl (wholeB v lo hi))) st := by
  rw [p0]; unfold m0
  cases v with
  | non => simp [i1, wholeB]
  | bl b => simp [i2, i3, wholeB]
  | int i => by_cases h : lo ≤ i <;> simp [i4, i5, wholeB, h]
  | str x => simp [i6, wholeB]
  | tup x => simp [i7, wholeB]
  | lst x => simp [i8, wholeB]
  | scr x => exact hv.elim
  | box x => exact hv.elim
  | fn x => exact hv.elim
/-- is_tuple_of -/
theorem f1 (k : Nat) (v : PV) (hv : Dat v) (lo hi : Int) (st : List Cell) : evP TT (k + 1) 1 [v, .int lo, .int hi] st = .ok (.val (.bl (tupB v lo hi))) st := by
  rw [p1]; unfold m1
  cases v with
  | non => simp [j1, tupB]
  | bl b => simp [j2, tupB]
  | int i => simp [j4, tupB]
  | str x => simp [j6, tupB]
  | tup xs => by_cases h : lo ≤ (xs.length : Int) <;> simp [j7, tupB, h]
  | lst x => simp [j8, tupB]
  | scr x => exact hv.elim
  | box x => exact hv.elim
  | fn x => exact hv.elim
/-- is_place -/
theorem f3 (k : Nat) (v : PV) (hv : Dat v) (st : List Cell) : evP TT (k + 2) 3 [v] st = .ok (.val (.bl (wholeB v (-1000) 1000))) st := by
  rw [p3]
  have g := f0 k v hv (-1000) 1000 st
  unfold m3
  simp [g]
/-! ### ascends -/
def ascB : List Int → Bool
  | x :: y :: r => decide (x < y) && ascB (y :: r)
  | _ => true
theorem all_tt {α : Type} : ∀ l : List α, (l.map fun _ => true).all id = true
  | [] => rfl
  | x :: l => by rw [List.map_cons, List.all_cons, all_tt l]; rfl
theorem boolsOf_map {α : Type} (f : α → Bool) : ∀ l : List α, boolsOf (l.map fun x => PV.bl (f x)) = some (l.map f)
  | [] => rfl
  | x :: l => by rw [List.map_cons, boolsOf_cons, boolsOf_map f l]; rfl
theorem zip_ints : ∀ (a b : List Int), zipP (a.map .int) (b.map .int) = (a.zip b).map fun p => PV.tup [.int p.1, .int p.2]
  | x :: a, y :: b => by simp [zipP, zip_ints a b]
  | [], b => by simp [zipP]
  | x :: a, [] => by simp [zipP]
theorem asc_zip : ∀ r : List Int, ((r.zip (r.drop 1)).map fun p => decide (p.1 < p.2)).all id = ascB r
  | [] => rfl
  | [x] => rfl
  | x :: y :: r => by
    have h := asc_zip (y :: r)
    rw [ascB, ← h]
    simp
@[simp] theorem xSl_run (a : M RE) (lo hi : Option (M RE)) (s : ES) : xSl a lo hi s = (a s).bind fun r => bnd (xPart lo) fun l => bnd (xPart hi) fun h => lift1 (fun v => slV v l h) r := rfl
@[simp] theorem xPart_none (s : ES) : xPart none s = .ok none s := rfl
@[simp] theorem xPart_some (m : M RE) (s : ES) : xPart (some m) s = (m s).bind fun r s => match deref s r with
    | some (.int i) => .ok (some i) s
    | _ => .bad := rfl
@[simp] theorem slV_tup (xs : List PV) (lo hi : Option Int) : slV (.tup xs) lo hi = some (.val (.tup (cutP xs lo hi))) := rfl
theorem cut_tail (xs : List PV) : cutP xs (some 1) none = xs.drop 1 := by
  unfold cutP HT.sIx
  cases xs with
  | nil => simp
  | cons x xs => simp
theorem cut_init (xs : List PV) : cutP xs none (some (-1)) = xs.dropLast := by
  unfold cutP HT.sIx
  simp
  rw [List.dropLast_eq_take]
  congr 1
  omega
theorem r2 {Φ : Orc} {V : PV} {xs zs : List PV} {bs : List Bool} {x y z : Sl} {st : List Cell} (hV : V = .tup xs) (c1 : compGo [1, 2, 3] (tupAsg [2, 3]) (ret true) (xCmp .Lt (rdSlot 2) (rdSlot 3)) true (zipP xs (xs.drop 1)) ⟨[.val V, .none, .none, .none], st⟩ = .ok zs ⟨[.val V, x, y, z], st⟩) (hl : zs.length ≤ 16777216) (hb : boolsOf zs = some bs) :
    finO (m2 Φ ⟨[.val V, .none, .none, .none], st⟩) = .ok (.val (.bl (bs.all id))) st := by
  subst hV
  unfold m2
  simp [-List.all_eq_true, -List.drop_one, cut_tail, c1, hl, hb]
theorem f2 (k : Nat) (r : List Int) (hl : r.length ≤ 1000) (st : List Cell) : evP TT (k + 1) 2 [PL r] st = .ok (.val (.bl (ascB r))) st := by
  rw [p2]
  obtain ⟨s', c1, c2, x, y, z, c3⟩ := compGo_f (own := [1, 2, 3]) (tgt := tupAsg [2, 3]) (tst := ret true) (elt := xCmp .Lt (rdSlot 2) (rdSlot 3))
    (I := fun s => s.st = st ∧ ∃ x y z, s.env = [.val (PL r), x, y, z]) (f := fun p : Int × Int => PV.tup [.int p.1, .int p.2]) (g := fun p => PV.bl (decide (p.1 < p.2))) (r.zip (r.drop 1)) (fun p hp s ⟨h1, x, y, z, h2⟩ => by
      obtain ⟨env, st'⟩ := s
      cases h1; cases h2
      generalize PL r = R
      refine ⟨⟨[.val R, .none, .val (.int p.1), .val (.int p.2)], st'⟩, ?_, rfl, _, _, _, rfl⟩
      simp) ⟨[.val (PL r), .none, .none, .none], st⟩ ⟨rfl, _, _, _, rfl⟩
  obtain ⟨env, st'⟩ := s'
  cases c2; cases c3
  rw [← zip_ints, List.map_drop] at c1
  rw [← asc_zip]
  refine r2 rfl c1 ?_ (boolsOf_map (fun p : Int × Int => decide (p.1 < p.2)) _)
  rw [List.length_map, List.length_zip]
  omega
end Ev

set_option linter.all false
set_option maxRecDepth 100000
set_option maxHeartbeats 1000000
namespace Ev
open PySem PySem.Spec L2
theorem sIf_no {t : M Bool} {a : M Fl} {s s' : ES} (h : t s = .ok false s') : sIf t a (seqB []) s = .ok .nx s' := by
  show (t s).bind _ = _
  rw [h]; rfl
theorem sIf_ret {t : M Bool} {v : PV} {b : M Fl} {s s' : ES} (h : t s = .ok true s') : sIf t (seqB [(sRet (ret (.val v)))]) b s = .ok (.rt (.val v)) s' := by
  show (t s).bind _ = _
  rw [h]; rfl
abbrev t4a (Φ : Orc) : M Bool := (tBool .Or [(tNot (bnd (xCall Φ 1 [(rdSlot 0), (ret (.val (.int (4)))), (ret (.val (.int (4))))]) truM)), (tNot (bnd (xCall Φ 0 [(xSub (rdSlot 0) (ret (.val (.int (2))))), (ret (.val (.int (1)))), (ret (.val (.int (12))))]) truM)), (tNot (bnd (xCall Φ 1 [(xSub (rdSlot 0) (ret (.val (.int (3))))), (ret (.val (.int (0)))), (ret (.val (.int (12))))]) truM))])
abbrev t4b (Φ : Orc) : M Bool := (tIfE (bnd (rdSlot 1) truM) (bnd (xCmp .IsNot (xSub (rdSlot 0) (ret (.val (.int (0))))) (ret (.val .non))) asBool) (tNot (bnd (xCall Φ 3 [(xSub (rdSlot 0) (ret (.val (.int (0)))))]) truM)))
abbrev t4c (Φ : Orc) : M Bool := (tIfE (bnd (rdSlot 2) truM) (bnd (xCmp .IsNot (xSub (rdSlot 0) (ret (.val (.int (1))))) (ret (.val .non))) asBool) (tNot (bnd (xCall Φ 3 [(xSub (rdSlot 0) (ret (.val (.int (1)))))]) truM)))
abbrev t4d (Φ : Orc) : M Bool := (tBool .And [(tNot (bnd (rdSlot 1) truM)), (tNot (bnd (rdSlot 2) truM)), (bnd (xCmp .Lt (xSub (rdSlot 0) (ret (.val (.int (1))))) (xSub (rdSlot 0) (ret (.val (.int (0)))))) asBool)])
def t4e (Φ : Orc) : M Fl := (sRet (xBool .And [(xBi .all [(xComp [3, 4] (setSlot 4) (ret true) (xCall Φ 0 [(rdSlot 4), (ret (.val (.int (0)))), (xBin .Sub (xSub (rdSlot 0) (ret (.val (.int (2))))) (ret (.val (.int (1)))))]) (iOf (xSub (rdSlot 0) (ret (.val (.int (3)))))))]), (xCall Φ 2 [(xSub (rdSlot 0) (ret (.val (.int (3)))))])]))
theorem m4_eq (Φ : Orc) : m4 Φ = seqB [sIf (t4a Φ) (seqB [(sRet (ret (.val (.bl false))))]) (seqB []), sIf (t4b Φ) (seqB [(sRet (ret (.val (.bl false))))]) (seqB []), sIf (t4c Φ) (seqB [(sRet (ret (.val (.bl false))))]) (seqB []), sIf (t4d Φ) (seqB [(sRet (ret (.val (.bl false))))]) (seqB []), t4e Φ] := rfl
/-! ### fits_span -/
def isNon : PV → Bool
  | .non => true
  | _ => false
def plB (F : Bool) (a : PV) : Bool := if F then isNon a else wholeB a (-1000) 1000
def gapB (a b : PV) : Bool := match a, b with
  | .int i, .int j => decide (i ≤ j)
  | _, _ => false
def intsL : List PV → List Int
  | .int i :: r => i :: intsL r
  | _ :: r => 0 :: intsL r
  | [] => []
def resB (S R : PV) : Bool := match S, R with
  | .int s, .tup rs => (rs.map fun x => wholeB x 0 (s - 1)).all id && ascB (intsL rs)
  | _, _ => false
theorem resB_mk (s : Int) (rs : List PV) : resB (.int s) (.tup rs) = ((rs.map fun x => wholeB x 0 (s - 1)).all id && ascB (intsL rs)) := rfl
def spanB (F L : Bool) (a b S R : PV) : Bool := (wholeB S 1 12 && tupB R 0 12) && plB F a && plB L b && (F || L || gapB a b) && resB S R
section
variable {Φ : Orc} {a b S R V : PV} {F L q2 q3 : Bool} {st : List Cell} {s : Int} {rs zs : List PV} {bs : List Bool} {x y : Sl}
theorem t4a_no (h : Φ 1 [V, .int 4, .int 4] st = .ok (.val (.bl false)) st) : t4a Φ ⟨[.val V, .val (.bl F), .val (.bl L), .none, .none], st⟩ = .ok true ⟨[.val V, .val (.bl F), .val (.bl L), .none, .none], st⟩ := by
  simp [h]
theorem t4a_run (h1 : Φ 1 [.tup [a, b, S, R], .int 4, .int 4] st = .ok (.val (.bl true)) st) (h2 : Φ 0 [S, .int 1, .int 12] st = .ok (.val (.bl q2)) st) (h3 : Φ 1 [R, .int 0, .int 12] st = .ok (.val (.bl q3)) st) :
    t4a Φ ⟨[.val (.tup [a, b, S, R]), .val (.bl F), .val (.bl L), .none, .none], st⟩ = .ok (!(q2 && q3)) ⟨[.val (.tup [a, b, S, R]), .val (.bl F), .val (.bl L), .none, .none], st⟩ := by
  cases q2 <;> cases q3 <;> simp [h1, h2, h3]
theorem isnot_non (ha : Dat a) : cmpV .IsNot a .non = some (!isNon a) := by
  cases a <;> first | rfl | exact ha.elim
theorem t4b_run (ha : Dat a) (h : Φ 3 [a] st = .ok (.val (.bl (wholeB a (-1000) 1000))) st) : t4b Φ ⟨[.val (.tup [a, b, S, R]), .val (.bl F), .val (.bl L), .none, .none], st⟩ = .ok (!plB F a) ⟨[.val (.tup [a, b, S, R]), .val (.bl F), .val (.bl L), .none, .none], st⟩ := by
  have e := isnot_non ha
  cases F with
  | true => simp [e, plB]
  | false => simp [h, plB]
theorem t4c_run (hb : Dat b) (h : Φ 3 [b] st = .ok (.val (.bl (wholeB b (-1000) 1000))) st) : t4c Φ ⟨[.val (.tup [a, b, S, R]), .val (.bl F), .val (.bl L), .none, .none], st⟩ = .ok (!plB L b) ⟨[.val (.tup [a, b, S, R]), .val (.bl F), .val (.bl L), .none, .none], st⟩ := by
  have e := isnot_non hb
  cases L with
  | true => simp [e, plB]
  | false => simp [h, plB]
theorem t4d_FL (h : (F || L) = true) : t4d Φ ⟨[.val (.tup [a, b, S, R]), .val (.bl F), .val (.bl L), .none, .none], st⟩ = .ok false ⟨[.val (.tup [a, b, S, R]), .val (.bl F), .val (.bl L), .none, .none], st⟩ := by
  cases F <;> cases L <;> first | (cases h; done) | simp
theorem t4d_run {i j : Int} : t4d Φ ⟨[.val (.tup [.int i, .int j, S, R]), .val (.bl false), .val (.bl false), .none, .none], st⟩ = .ok (!decide (i ≤ j)) ⟨[.val (.tup [.int i, .int j, S, R]), .val (.bl false), .val (.bl false), .none, .none], st⟩ := by
  by_cases h : i ≤ j
  · have h' : ¬ j < i := by omega
    simp [h, h']
  · have h' : j < i := by omega
    simp [h, h']
abbrev elt4 (Φ : Orc) : M RE := (xCall Φ 0 [(rdSlot 4), (ret (.val (.int (0)))), (xBin .Sub (xSub (rdSlot 0) (ret (.val (.int (2))))) (ret (.val (.int (1)))))])
theorem t4e_no (c1 : compGo [3, 4] (setSlot 4) (ret true) (elt4 Φ) true rs ⟨[.val (.tup [a, b, .int s, .tup rs]), .val (.bl F), .val (.bl L), .none, .none], st⟩ = .ok zs ⟨[.val (.tup [a, b, .int s, .tup rs]), .val (.bl F), .val (.bl L), x, y], st⟩) (hl : zs.length ≤ 16777216) (hb : boolsOf zs = some bs) (ht : bs.all id = false) :
    t4e Φ ⟨[.val (.tup [a, b, .int s, .tup rs]), .val (.bl F), .val (.bl L), .none, .none], st⟩ = .ok (.rt (.val (.bl false))) ⟨[.val (.tup [a, b, .int s, .tup rs]), .val (.bl F), .val (.bl L), .none, .none], st⟩ := by
  unfold t4e
  simp [-List.all_eq_true, -List.all_eq_false, c1, hl, hb, ht]
theorem t4e_yes {q : Bool} (c1 : compGo [3, 4] (setSlot 4) (ret true) (elt4 Φ) true rs ⟨[.val (.tup [a, b, .int s, .tup rs]), .val (.bl F), .val (.bl L), .none, .none], st⟩ = .ok zs ⟨[.val (.tup [a, b, .int s, .tup rs]), .val (.bl F), .val (.bl L), x, y], st⟩) (hl : zs.length ≤ 16777216) (hb : boolsOf zs = some bs) (ht : bs.all id = true) (h2 : Φ 2 [.tup rs] st = .ok (.val (.bl q)) st) :
    t4e Φ ⟨[.val (.tup [a, b, .int s, .tup rs]), .val (.bl F), .val (.bl L), .none, .none], st⟩ = .ok (.rt (.val (.bl q))) ⟨[.val (.tup [a, b, .int s, .tup rs]), .val (.bl F), .val (.bl L), .none, .none], st⟩ := by
  unfold t4e
  simp [-List.all_eq_true, c1, hl, hb, ht, h2]
end
theorem whole_int {v : PV} {lo hi : Int} (h : wholeB v lo hi = true) : ∃ i, v = .int i ∧ lo ≤ i ∧ i ≤ hi := by
  unfold wholeB at h
  split at h
  · rw [Bool.and_eq_true, decide_eq_true_eq, decide_eq_true_eq] at h
    exact ⟨_, rfl, h.1, h.2⟩
  · cases h
theorem all_ints {hi : Int} : ∀ rs : List PV, (rs.map fun x => wholeB x 0 hi).all id = true → rs = (intsL rs).map .int
  | [], _ => rfl
  | v :: rs, h => by
    rw [List.map_cons, List.all_cons, Bool.and_eq_true] at h
    obtain ⟨i, rfl, _⟩ := whole_int h.1
    rw [intsL, List.map_cons, ← all_ints rs h.2]
/-- fits_span of four values -/
theorem f4 (k : Nat) (a b S R : PV) (ha : Dat a) (hb : Dat b) (hS : Dat S) (hR : Dat R) (hRs : ∀ rs, R = .tup rs → ∀ x ∈ rs, Dat x) (F L : Bool) (st : List Cell) : evP TT (k + 3) 4 [.tup [a, b, S, R], .bl F, .bl L] st = .ok (.val (.bl (spanB F L a b S R))) st := by
  rw [p4, m4_eq]
  have g1 := f1 (k + 1) (.tup [a, b, S, R]) trivial 4 4 st
  have g1' : evP TT (k + 2) 1 [.tup [a, b, S, R], .int 4, .int 4] st = .ok (.val (.bl true)) st := g1
  have g2 := f0 (k + 1) S hS 1 12 st
  have g3 := f1 (k + 1) R hR 0 12 st
  have ta := t4a_run (F := F) (L := L) g1' g2 g3
  by_cases c1 : (wholeB S 1 12 && tupB R 0 12) = true
  · rw [c1] at ta
    rw [seqB_cons, sIf_no ta, bind_ok]; dsimp only
    have tb := t4b_run (b := b) (S := S) (R := R) (F := F) (L := L) ha (f3 k a ha st)
    by_cases c2 : plB F a = true
    · rw [c2] at tb
      rw [seqB_cons, sIf_no tb, bind_ok]; dsimp only
      have tc := t4c_run (a := a) (S := S) (R := R) (F := F) (L := L) hb (f3 k b hb st)
      by_cases c3 : plB L b = true
      · rw [c3] at tc
        rw [seqB_cons, sIf_no tc, bind_ok]; dsimp only
        -- the residues
        have fin : seqB [t4e (evP TT (k + 2))] ⟨[.val (.tup [a, b, S, R]), .val (.bl F), .val (.bl L), .none, .none], st⟩ = .ok (.rt (.val (.bl (resB S R)))) ⟨[.val (.tup [a, b, S, R]), .val (.bl F), .val (.bl L), .none, .none], st⟩ := by
          rw [Bool.and_eq_true] at c1
          obtain ⟨s, rfl, s0, s1⟩ := whole_int c1.1
          obtain ⟨rs, rfl, rl⟩ : ∃ rs, R = .tup rs ∧ rs.length ≤ 12 := by
            have c := c1.2
            unfold tupB at c
            split at c
            · rw [Bool.and_eq_true, decide_eq_true_eq, decide_eq_true_eq] at c
              exact ⟨_, rfl, by omega⟩
            · cases c
          obtain ⟨s', d1, d2, x, y, d3⟩ := compGo_f (own := [3, 4]) (tgt := setSlot 4) (tst := ret true) (elt := elt4 (evP TT (k + 2)))
            (I := fun t => t.st = st ∧ ∃ x y, t.env = [.val (.tup [a, b, .int s, .tup rs]), .val (.bl F), .val (.bl L), x, y]) (f := id) (g := fun v => PV.bl (wholeB v 0 (s - 1))) rs (fun v hv t ⟨h1, x, y, h2⟩ => by
              obtain ⟨env, st'⟩ := t
              cases h1; cases h2
              have g := f0 (k + 1) v (hRs rs rfl v hv) 0 (s - 1) st'
              generalize evP TT (k + 1 + 1) = Φ at g ⊢
              refine ⟨⟨[.val (.tup [a, b, .int s, .tup rs]), .val (.bl F), .val (.bl L), .none, .val v], st'⟩, ?_, rfl, _, _, rfl⟩
              simp [g]) ⟨[.val (.tup [a, b, .int s, .tup rs]), .val (.bl F), .val (.bl L), .none, .none], st⟩ ⟨rfl, _, _, rfl⟩
          obtain ⟨env, st'⟩ := s'
          cases d2; cases d3
          rw [List.map_id] at d1
          rw [seqB_one]
          have hb := boolsOf_map (fun v => wholeB v 0 (s - 1)) rs
          by_cases c5 : (rs.map fun x => wholeB x 0 (s - 1)).all id = true
          · have e := all_ints rs c5
            have g5 := f2 (k + 1) (intsL rs) (by have := congrArg List.length e; rw [List.length_map] at this; omega) st'
            rw [show PL (intsL rs) = .tup rs from congrArg PV.tup e.symm] at g5
            rw [t4e_yes d1 (by rw [List.length_map]; omega) hb c5 g5]
            rw [resB_mk, c5]
            rfl
          · rw [Bool.not_eq_true] at c5
            rw [t4e_no d1 (by rw [List.length_map]; omega) hb c5]
            rw [resB_mk, c5]
            rfl
        by_cases c4 : (F || L) = true
        · rw [seqB_cons, sIf_no (t4d_FL c4), bind_ok]; dsimp only
          rw [fin]
          unfold spanB
          rw [c1, c2, c3, c4]
          rfl
        · rw [Bool.not_eq_true, Bool.or_eq_false_iff] at c4
          obtain ⟨rfl, rfl⟩ := c4
          obtain ⟨i, rfl, _⟩ := whole_int (show wholeB a (-1000) 1000 = true from c2)
          obtain ⟨j, rfl, _⟩ := whole_int (show wholeB b (-1000) 1000 = true from c3)
          have td := t4d_run (Φ := evP TT (k + 2)) (S := S) (R := R) (i := i) (j := j) (st := st)
          by_cases c6 : i ≤ j
          · rw [decide_eq_true c6] at td
            rw [seqB_cons, sIf_no td, bind_ok]; dsimp only
            rw [fin]
            have e : gapB (.int i) (.int j) = true := decide_eq_true c6
            unfold spanB
            rw [c1, c2, c3, e]
            rfl
          · rw [decide_eq_false c6] at td
            rw [seqB_cons, sIf_ret td, bind_ok]
            have e : gapB (.int i) (.int j) = false := decide_eq_false c6
            unfold spanB
            rw [c1, c2, c3, e]
            rfl
      · rw [Bool.not_eq_true] at c3
        rw [c3] at tc
        rw [seqB_cons, sIf_ret tc, bind_ok]
        unfold spanB
        rw [c1, c2, c3]
        rfl
    · rw [Bool.not_eq_true] at c2
      rw [c2] at tb
      rw [seqB_cons, sIf_ret tb, bind_ok]
      unfold spanB
      rw [c1, c2]
      rfl
  · rw [Bool.not_eq_true] at c1
    rw [c1] at ta
    rw [seqB_cons, sIf_ret ta, bind_ok]
    unfold spanB
    rw [c1]
    rfl
theorem f4no (k : Nat) (v : PV) (hv : Dat v) (h : tupB v 4 4 = false) (F L : Bool) (st : List Cell) : evP TT (k + 3) 4 [v, .bl F, .bl L] st = .ok (.val (.bl false)) st := by
  rw [p4, m4_eq]
  have g1 := f1 (k + 1) v hv 4 4 st
  rw [h] at g1
  rw [seqB_cons, sIf_ret (t4a_no g1), bind_ok]
  rfl
end Ev

set_option linter.all false
set_option maxRecDepth 100000
set_option maxHeartbeats 1000000
namespace Ev
open PySem PySem.Spec L2
/-! ### fits_row -/
def spB (F L : Bool) (x : PV) : Bool := match x with
  | .tup [a, b, S, R] => spanB F L a b S R
  | _ => false
structure DatS (x : PV) : Prop where
  d : Dat x
  p : ∀ a b S R, x = .tup [a, b, S, R] → Dat a ∧ Dat b ∧ Dat S ∧ Dat R ∧ ∀ rs, R = .tup rs → ∀ y ∈ rs, Dat y
theorem f4s (k : Nat) (x : PV) (hx : DatS x) (F L : Bool) (st : List Cell) : evP TT (k + 3) 4 [x, .bl F, .bl L] st = .ok (.val (.bl (spB F L x))) st := by
  by_cases h : tupB x 4 4 = true
  · unfold tupB at h
    split at h
    · rename_i xs
      rw [Bool.and_eq_true, decide_eq_true_eq, decide_eq_true_eq] at h
      have hl : xs.length = 4 := by omega
      match xs, hl with
      | [a, b, S, R], _ =>
        obtain ⟨h1, h2, h3, h4, h5⟩ := hx.p a b S R rfl
        exact f4 k a b S R h1 h2 h3 h4 h5 F L st
    · cases h
  · rw [Bool.not_eq_true] at h
    rw [f4no k x hx.d h F L st]
    have : spB F L x = false := by
      unfold spB
      split
      · exact absurd h (by simp [tupB])
      · rfl
    rw [this]
def idxP : Nat → List PV → List (Nat × PV)
  | _, [] => []
  | n, x :: xs => (n, x) :: idxP (n + 1) xs
theorem enum_idx : ∀ (n : Nat) (xs : List PV), enumP n xs = (idxP n xs).map fun p => PV.tup [.int (p.1 : Int), p.2]
  | _, [] => rfl
  | n, x :: xs => by rw [enumP, idxP, List.map_cons, enum_idx (n + 1) xs]
theorem idx_len : ∀ (n : Nat) (xs : List PV), (idxP n xs).length = xs.length
  | _, [] => rfl
  | n, x :: xs => by rw [idxP, List.length_cons, List.length_cons, idx_len (n + 1) xs]
theorem idx_at : ∀ (n : Nat) (xs : List PV) (i : Nat) (x : PV), xs[i]? = some x → (n + i, x) ∈ idxP n xs
  | _, [], i, x, h => by simp at h
  | n, y :: xs, 0, x, h => by cases h; exact List.mem_cons_self ..
  | n, y :: xs, i + 1, x, h => by
    have := idx_at (n + 1) xs i x h
    rw [show n + 1 + i = n + (i + 1) by omega] at this
    exact List.mem_cons_of_mem _ this
theorem idx_mem : ∀ (n : Nat) (xs : List PV) (p : Nat × PV), p ∈ idxP n xs → p.2 ∈ xs ∧ ∃ i, p.1 = n + i ∧ xs[i]? = some p.2
  | _, [], p, h => by cases h
  | n, y :: xs, p, h => by
    rcases List.mem_cons.mp h with rfl | h
    · exact ⟨List.mem_cons_self .., 0, rfl, rfl⟩
    · obtain ⟨h1, i, h2, h3⟩ := idx_mem (n + 1) xs p h
      exact ⟨List.mem_cons_of_mem _ h1, i + 1, by omega, h3⟩
def spsB (xs : List PV) : Bool := ((idxP 0 xs).map fun p => spB (decide (p.1 = 0)) (decide (p.1 + 1 = xs.length)) p.2).all id
def adj2 (x y : PV) : Bool := match x, y with
  | .tup [_, .int j, _, _], .tup [.int i, _, _, _] => decide (j + 1 = i)
  | _, _ => false
def adjB (xs : List PV) : Bool := ((xs.zip (xs.drop 1)).map fun p => adj2 p.1 p.2).all id
def rowB (v : PV) : Bool := match v with
  | .tup xs => tupB (.tup xs) 1 400 && spsB xs && adjB xs
  | _ => false
theorem zip_pv : ∀ (a b : List PV), zipP a b = (a.zip b).map fun p => PV.tup [p.1, p.2]
  | x :: a, y :: b => by simp [zipP, zip_pv a b]
  | [], b => by simp [zipP]
  | x :: a, [] => by simp [zipP]
abbrev elt5a (Φ : Orc) : M RE := xCall Φ 4 [(rdSlot 3), (xCmp .Eq (rdSlot 2) (ret (.val (.int (0))))), (xCmp .Eq (rdSlot 2) (xBin .Sub (xBi .len [(rdSlot 0)]) (ret (.val (.int (1))))))]
abbrev elt5b : M RE := xCmp .Eq (xBin .Add (xSub (rdSlot 3) (ret (.val (.int (1))))) (ret (.val (.int (1))))) (xSub (rdSlot 4) (ret (.val (.int (0)))))
section
variable {Φ : Orc} {V a b S R a' b' S' R' : PV} {i j : Int} {st : List Cell} {xs zs ws : List PV} {bs cs : List Bool} {x y z x' y' z' : Sl}
theorem r5a (h : Φ 1 [V, .int 1, .int 400] st = .ok (.val (.bl false)) st) : finO (m5 Φ ⟨[.val V, .none, .none, .none, .none], st⟩) = .ok (.val (.bl false)) st := by
  unfold m5
  simp [h]
theorem r5b (h : Φ 1 [.tup xs, .int 1, .int 400] st = .ok (.val (.bl true)) st) (c1 : compGo [1, 2, 3] (tupAsg [2, 3]) (ret true) (elt5a Φ) true (enumP 0 xs) ⟨[.val (.tup xs), .none, .none, .none, .none], st⟩ = .ok zs ⟨[.val (.tup xs), x, y, z, .none], st⟩) (hl : zs.length ≤ 16777216) (hb : boolsOf zs = some bs) (ht : bs.all id = false) :
    finO (m5 Φ ⟨[.val (.tup xs), .none, .none, .none, .none], st⟩) = .ok (.val (.bl false)) st := by
  unfold m5
  simp [-List.all_eq_true, -List.all_eq_false, h, c1, hl, hb, ht]
theorem r5c (h : Φ 1 [.tup xs, .int 1, .int 400] st = .ok (.val (.bl true)) st) (c1 : compGo [1, 2, 3] (tupAsg [2, 3]) (ret true) (elt5a Φ) true (enumP 0 xs) ⟨[.val (.tup xs), .none, .none, .none, .none], st⟩ = .ok zs ⟨[.val (.tup xs), x, y, z, .none], st⟩) (hl : zs.length ≤ 16777216) (hb : boolsOf zs = some bs) (ht : bs.all id = true)
    (c2 : compGo [1, 3, 4] (tupAsg [3, 4]) (ret true) elt5b true (zipP xs (xs.drop 1)) ⟨[.val (.tup xs), .none, .none, .none, .none], st⟩ = .ok ws ⟨[.val (.tup xs), x', .none, y', z'], st⟩) (hl2 : ws.length ≤ 16777216) (hb2 : boolsOf ws = some cs) :
    finO (m5 Φ ⟨[.val (.tup xs), .none, .none, .none, .none], st⟩) = .ok (.val (.bl (cs.all id))) st := by
  unfold m5
  simp [-List.all_eq_true, -List.drop_one, cut_tail, h, c1, hl, hb, ht, c2, hl2, hb2]
theorem one5a {F L : Bool} {v : PV} {n m : Int} (hF : eqPV (.int n) (.int 0) = some F) (hL : eqPV (.int n) (.int ((xs.length : Int) - 1)) = some L) (h : Φ 4 [v, .bl F, .bl L] st = .ok (.val (.bl true)) st ∨ Φ 4 [v, .bl F, .bl L] st = .ok (.val (.bl false)) st) {q : Bool} (hq : Φ 4 [v, .bl F, .bl L] st = .ok (.val (.bl q)) st) :
    oneM (tupAsg [2, 3]) (ret true) (elt5a Φ) (.tup [.int n, v]) ⟨wipeE [.val (.tup xs), x, y, z, .none] [1, 2, 3], st⟩ = .ok (.bl q) ⟨[.val (.tup xs), .none, .val (.int n), .val v, .none], st⟩ := by
  simp [hF, hL, hq]
theorem one5b : oneM (tupAsg [3, 4]) (ret true) elt5b (.tup [.tup [a, .int j, S, R], .tup [.int i, b', S', R']]) ⟨wipeE [.val (.tup xs), x, .none, y, z] [1, 3, 4], st⟩ = .ok (.bl (decide (j + 1 = i))) ⟨[.val (.tup xs), .none, .none, .val (.tup [a, .int j, S, R]), .val (.tup [.int i, b', S', R'])], st⟩ := by
  simp
end
theorem spB_b {F : Bool} {x : PV} (h : spB F false x = true) : ∃ a j S R, x = .tup [a, .int j, S, R] := by
  unfold spB at h
  split at h
  · rename_i a b S R
    unfold spanB at h
    simp only [Bool.and_eq_true] at h
    obtain ⟨j, rfl, _⟩ := whole_int (show wholeB b (-1000) 1000 = true from h.1.1.2)
    exact ⟨_, _, _, _, rfl⟩
  · cases h
theorem spB_a {L : Bool} {x : PV} (h : spB false L x = true) : ∃ i b S R, x = .tup [.int i, b, S, R] := by
  unfold spB at h
  split at h
  · rename_i a b S R
    unfold spanB at h
    simp only [Bool.and_eq_true] at h
    obtain ⟨j, rfl, _⟩ := whole_int (show wholeB a (-1000) 1000 = true from h.1.1.1.2)
    exact ⟨_, _, _, _, rfl⟩
  · cases h
theorem f5 (k : Nat) (xs : List PV) (hx : ∀ x ∈ xs, DatS x) (st : List Cell) : evP TT (k + 5) 5 [.tup xs] st = .ok (.val (.bl (rowB (.tup xs)))) st := by
  rw [p5]
  have g1 := f1 (k + 3) (.tup xs) trivial 1 400 st
  by_cases h1 : tupB (.tup xs) 1 400 = true
  · rw [h1] at g1
    have hl : xs.length ≤ 400 := by
      unfold tupB at h1
      rw [Bool.and_eq_true, decide_eq_true_eq, decide_eq_true_eq] at h1
      omega
    obtain ⟨s', d1, d2, x, y, z, d3⟩ := compGo_f (own := [1, 2, 3]) (tgt := tupAsg [2, 3]) (tst := ret true) (elt := elt5a (evP TT (k + 4)))
      (I := fun t => t.st = st ∧ ∃ x y z, t.env = [.val (.tup xs), x, y, z, .none]) (f := fun p : Nat × PV => PV.tup [.int (p.1 : Int), p.2]) (g := fun p => PV.bl (spB (decide (p.1 = 0)) (decide (p.1 + 1 = xs.length)) p.2)) (idxP 0 xs) (fun p hp t ⟨h1, x, y, z, h2⟩ => by
        obtain ⟨env, st'⟩ := t
        cases h1; cases h2
        obtain ⟨hm, i, hi, _⟩ := idx_mem 0 xs p hp
        have g := f4s (k + 1) p.2 (hx p.2 hm) (decide (p.1 = 0)) (decide (p.1 + 1 = xs.length)) st'
        have eF : eqPV (.int (p.1 : Int)) (.int 0) = some (decide (p.1 = 0)) := by
          show some (decide ((p.1 : Int) = 0)) = _
          congr 1
          exact decide_eq_decide.mpr (by omega)
        have eL : eqPV (.int (p.1 : Int)) (.int ((xs.length : Int) - 1)) = some (decide (p.1 + 1 = xs.length)) := by
          show some (decide ((p.1 : Int) = (xs.length : Int) - 1)) = _
          congr 1
          exact decide_eq_decide.mpr (by omega)
        refine ⟨_, one5a (n := (p.1 : Int)) (m := 0) eF eL ?_ g, rfl, _, _, _, rfl⟩
        cases hq : spB (decide (p.1 = 0)) (decide (p.1 + 1 = xs.length)) p.2 <;> rw [hq] at g
        · exact .inr g
        · exact .inl g) ⟨[.val (.tup xs), .none, .none, .none, .none], st⟩ ⟨rfl, _, _, _, rfl⟩
    obtain ⟨env, st'⟩ := s'
    cases d2; cases d3
    rw [← enum_idx] at d1
    have hb := boolsOf_map (fun p : Nat × PV => spB (decide (p.1 = 0)) (decide (p.1 + 1 = xs.length)) p.2) (idxP 0 xs)
    have ll : ((idxP 0 xs).map fun p => PV.bl (spB (decide (p.1 = 0)) (decide (p.1 + 1 = xs.length)) p.2)).length ≤ 16777216 := by rw [List.length_map, idx_len]; omega
    by_cases h2 : spsB xs = true
    · -- neighbours
      have sp : ∀ i x, xs[i]? = some x → spB (decide (i = 0)) (decide (i + 1 = xs.length)) x = true := fun i x hi => by
        have m := idx_at 0 xs i x hi
        rw [Nat.zero_add] at m
        unfold spsB at h2
        have := List.all_eq_true.mp h2 _ (List.mem_map.mpr ⟨_, m, rfl⟩)
        exact this
      have pr : ∀ p ∈ xs.zip (xs.drop 1), ∃ a j S R i b' S' R', p = (.tup [a, .int j, S, R], .tup [.int i, b', S', R']) := fun p hp => by
        obtain ⟨n, hn⟩ := List.getElem?_of_mem hp
        rw [List.getElem?_zip_eq_some, List.getElem?_drop] at hn
        obtain ⟨e1, e2⟩ := hn
        have l2 := (List.getElem?_eq_some_iff.mp e2).1
        have q1 := sp n p.1 e1
        rw [decide_eq_false (show ¬ n + 1 = xs.length by omega)] at q1
        have q2 := sp (1 + n) p.2 e2
        rw [decide_eq_false (show ¬ 1 + n = 0 by omega)] at q2
        obtain ⟨a, j, S, R, z1⟩ := spB_b q1
        obtain ⟨i, b', S', R', z2⟩ := spB_a q2
        exact ⟨a, j, S, R, i, b', S', R', by rw [← z1, ← z2]⟩
      obtain ⟨s2, w1, w2, x', y', z', w3⟩ := compGo_f (own := [1, 3, 4]) (tgt := tupAsg [3, 4]) (tst := ret true) (elt := elt5b)
        (I := fun t => t.st = st' ∧ ∃ x y z, t.env = [.val (.tup xs), x, .none, y, z]) (f := fun p : PV × PV => PV.tup [p.1, p.2]) (g := fun p => PV.bl (adj2 p.1 p.2)) (xs.zip (xs.drop 1)) (fun p hp t ⟨h1, x, y, z, h2⟩ => by
          obtain ⟨env, st2⟩ := t
          cases h1; cases h2
          obtain ⟨a, j, S, R, i, b', S', R', rfl⟩ := pr p hp
          exact ⟨_, one5b, rfl, _, _, _, rfl⟩) ⟨[.val (.tup xs), .none, .none, .none, .none], st'⟩ ⟨rfl, _, _, _, rfl⟩
      obtain ⟨env, st2⟩ := s2
      cases w2; cases w3
      rw [← zip_pv] at w1
      have hb2 := boolsOf_map (fun p : PV × PV => adj2 p.1 p.2) (xs.zip (xs.drop 1))
      rw [r5c g1 d1 ll hb h2 w1 (by rw [List.length_map, List.length_zip]; omega) hb2]
      show _ = FOut.ok (RE.val (PV.bl (tupB (.tup xs) 1 400 && spsB xs && adjB xs))) _
      rw [h1, h2]
      rfl
    · rw [Bool.not_eq_true] at h2
      rw [r5b g1 d1 ll hb h2]
      show _ = FOut.ok (RE.val (PV.bl (tupB (.tup xs) 1 400 && spsB xs && adjB xs))) _
      rw [h1, h2]
      rfl
  · rw [Bool.not_eq_true] at h1
    rw [h1] at g1
    rw [r5a g1]
    show _ = FOut.ok (RE.val (PV.bl (tupB (.tup xs) 1 400 && spsB xs && adjB xs))) _
    rw [h1]
    rfl
theorem f5no (k : Nat) (v : PV) (hv : Dat v) (h : tupB v 1 400 = false) (st : List Cell) : evP TT (k + 5) 5 [v] st = .ok (.val (.bl false)) st := by
  rw [p5]
  have g1 := f1 (k + 3) v hv 1 400 st
  rw [h] at g1
  exact r5a g1
end Ev

set_option linter.all false
set_option maxRecDepth 100000
set_option maxHeartbeats 1000000
namespace Ev
open PySem PySem.Spec L2
/-! ### rows of spans -/
structure Sp where
  lo : Option Int
  hi : Option Int
  s : Int
  r : List Int
def ov : Option Int → PV
  | none => .non
  | some i => .int i
def spv (x : Sp) : PV := .tup [ov x.lo, ov x.hi, .int x.s, PL x.r]
structure Res (x : Sp) : Prop where
  s0 : 1 ≤ x.s
  s1 : x.s ≤ 12
  len : x.r.length ≤ 12
  asc : ascB x.r = true
  mem : ∀ i ∈ x.r, 0 ≤ i ∧ i ≤ x.s - 1
/-- closed spans, one behind the other -/
def Seg (B : Int) : Option Int → List Sp → Option Int → Prop
  | lo, [], lo' => lo = lo'
  | lo, x :: xs, lo' => x.lo = lo ∧ Res x ∧ ∃ h, x.hi = some h ∧ (-B ≤ h ∧ h ≤ B) ∧ (∀ l, lo = some l → l ≤ h) ∧ Seg B (some (h + 1)) xs lo'
def Chain (B : Int) : Option Int → List Sp → Prop
  | _, [] => False
  | lo, [x] => x.lo = lo ∧ x.hi = none ∧ Res x
  | lo, x :: xs => x.lo = lo ∧ Res x ∧ ∃ h, x.hi = some h ∧ (-B ≤ h ∧ h ≤ B) ∧ (∀ l, lo = some l → l ≤ h) ∧ Chain B (some (h + 1)) xs
theorem seg_end {B : Int} : ∀ (xs : List Sp) (lo lo' : Option Int) (x : Sp), Seg B lo xs lo' → x.lo = lo' → x.hi = none → Res x → Chain B lo (xs ++ [x])
  | [], lo, lo', x, h, h1, h2, h3 => by
    simp only [Seg] at h
    subst h
    exact ⟨h1, h2, h3⟩
  | [y], lo, lo', x, h, h1, h2, h3 => by
    simp only [Seg] at h
    obtain ⟨a, b, q, c, d, e, f⟩ := h
    exact ⟨a, b, q, c, d, e, by rw [f]; exact h1, h2, h3⟩
  | y :: z :: xs, lo, lo', x, h, h1, h2, h3 => by
    obtain ⟨a, b, q, c, d, e, f⟩ := h
    exact ⟨a, b, q, c, d, e, seg_end (z :: xs) _ lo' x f h1 h2 h3⟩
theorem seg_snoc {B : Int} : ∀ (xs : List Sp) (lo lo' : Option Int) (x : Sp) (h : Int), Seg B lo xs lo' → x.lo = lo' → Res x → x.hi = some h → (-B ≤ h ∧ h ≤ B) → (∀ l, lo' = some l → l ≤ h) → Seg B lo (xs ++ [x]) (some (h + 1))
  | [], lo, lo', x, h, g, h1, h2, h3, h4, h5 => by
    simp only [Seg] at g
    subst g
    exact ⟨h1, h2, h, h3, h4, h5, rfl⟩
  | y :: xs, lo, lo', x, h, g, h1, h2, h3, h4, h5 => by
    obtain ⟨a, b, q, c, d, e, f⟩ := g
    exact ⟨a, b, q, c, d, e, seg_snoc xs _ lo' x h f h1 h2 h3 h4 h5⟩
/-- what a chain says of each place -/
theorem chain_at {B : Int} : ∀ (xs : List Sp) (lo : Option Int), Chain B lo xs → ∀ (i : Nat) (x : Sp), xs[i]? = some x → Res x ∧ (i = 0 → x.lo = lo) ∧ (i ≠ 0 → ∃ l, x.lo = some l ∧ -B ≤ l - 1 ∧ l - 1 ≤ B) ∧ (i + 1 = xs.length → x.hi = none) ∧
    (i + 1 ≠ xs.length → ∃ h, x.hi = some h ∧ (-B ≤ h ∧ h ≤ B) ∧ ∀ l, x.lo = some l → l ≤ h) ∧ ∀ y, xs[i + 1]? = some y → ∃ h, x.hi = some h ∧ y.lo = some (h + 1)
  | [], lo, h, i, x, e => h.elim
  | [y], lo, h, i, x, e => by
    obtain ⟨a, b, c⟩ := h
    cases i with
    | succ i => simp at e
    | zero =>
      cases e
      exact ⟨c, fun _ => a, fun h => absurd rfl h, fun _ => b, fun h => absurd rfl h, fun y h => by simp at h⟩
  | y :: z :: xs, lo, h, i, x, e => by
    obtain ⟨a, b, q, c, d, e1, f⟩ := h
    cases i with
    | zero =>
      cases e
      refine ⟨b, fun _ => a, fun h => absurd rfl h, fun h => by simp at h, fun _ => ⟨q, c, d, fun l hl => e1 l (by rw [← a]; exact hl)⟩, fun w hw => ?_⟩
      simp only [List.getElem?_cons_succ, List.getElem?_cons_zero, Option.some.injEq] at hw
      subst hw
      exact ⟨q, c, (chain_at (z :: xs) _ f 0 z rfl).2.1 rfl⟩
    | succ i =>
      obtain ⟨h1, h2, h3, h4, h5, h6⟩ := chain_at (z :: xs) _ f i x e
      refine ⟨h1, fun h => by omega, fun _ => ?_, fun h => h4 (by simpa using h), fun h => h5 (by simpa using h), fun w hw => h6 w hw⟩
      by_cases hi : i = 0
      · exact ⟨q + 1, h2 hi, by omega, by omega⟩
      · exact h3 hi
theorem dat_spv (x : Sp) : DatS (spv x) := by
  refine ⟨trivial, fun a b S R h => ?_⟩
  unfold spv at h
  simp only [PV.tup.injEq, List.cons.injEq, and_true] at h
  obtain ⟨rfl, rfl, rfl, rfl⟩ := h
  refine ⟨?_, ?_, trivial, trivial, fun rs hr y hy => ?_⟩
  · cases x.lo <;> trivial
  · cases x.hi <;> trivial
  · cases hr
    obtain ⟨i, _, rfl⟩ := List.mem_map.mp hy
    trivial
theorem intsL_map : ∀ r : List Int, intsL (r.map .int) = r
  | [] => rfl
  | x :: r => by rw [List.map_cons, intsL, intsL_map r]
theorem resB_ok {x : Sp} (h : Res x) : (wholeB (.int x.s) 1 12 && tupB (PL x.r) 0 12) = true ∧ resB (.int x.s) (PL x.r) = true := by
  constructor
  · show ((decide (1 ≤ x.s) && decide (x.s ≤ 12)) && (decide ((0 : Int) ≤ ((x.r.map PV.int).length : Int)) && decide (((x.r.map PV.int).length : Int) ≤ 12))) = true
    rw [List.length_map]
    have := h.s0; have := h.s1; have := h.len
    rw [decide_eq_true (show 1 ≤ x.s by omega), decide_eq_true (show x.s ≤ 12 by omega), decide_eq_true (show (0 : Int) ≤ (x.r.length : Int) by omega), decide_eq_true (show (x.r.length : Int) ≤ 12 by omega)]
    rfl
  · show (((x.r.map PV.int).map fun v => wholeB v 0 (x.s - 1)).all id && ascB (intsL (x.r.map .int))) = true
    rw [intsL_map, h.asc, Bool.and_true, List.all_eq_true]
    intro b hb
    rw [List.map_map] at hb
    obtain ⟨i, hi, rfl⟩ := List.mem_map.mp hb
    obtain ⟨a, c⟩ := h.mem i hi
    show (decide (0 ≤ i) && decide (i ≤ x.s - 1)) = true
    rw [decide_eq_true a, decide_eq_true c]
    rfl
theorem chain_row {B : Int} (hB : B ≤ 999) {xs : List Sp} (h : Chain B none xs) (hl : xs.length ≤ 400) : rowB (.tup (xs.map spv)) = true := by
  have hn : 1 ≤ xs.length := by
    cases xs with
    | nil => exact h.elim
    | cons x xs => simp
  have at_ := chain_at xs none h
  show (tupB (.tup (xs.map spv)) 1 400 && spsB (xs.map spv) && adjB (xs.map spv)) = true
  have e1 : tupB (.tup (xs.map spv)) 1 400 = true := by
    show (decide ((1 : Int) ≤ ((xs.map spv).length : Int)) && decide (((xs.map spv).length : Int) ≤ 400)) = true
    rw [List.length_map, decide_eq_true (show (1 : Int) ≤ (xs.length : Int) by omega), decide_eq_true (show (xs.length : Int) ≤ 400 by omega)]
    rfl
  have e2 : spsB (xs.map spv) = true := by
    unfold spsB
    rw [List.all_eq_true]
    intro b hb
    obtain ⟨p, hp, rfl⟩ := List.mem_map.mp hb
    obtain ⟨_, i, hi, hx⟩ := idx_mem 0 _ p hp
    rw [List.getElem?_map, Option.map_eq_some_iff] at hx
    obtain ⟨x, hx, hv⟩ := hx
    obtain ⟨h1, h2, h3, h4, h5, _⟩ := at_ i x hx
    rw [Nat.zero_add] at hi
    rw [List.length_map, hi]
    show spB (decide (i = 0)) (decide (i + 1 = xs.length)) p.2 = true
    rw [← hv]
    obtain ⟨r1, r2⟩ := resB_ok h1
    show spanB (decide (i = 0)) (decide (i + 1 = xs.length)) (ov x.lo) (ov x.hi) (.int x.s) (PL x.r) = true
    have pa : plB (decide (i = 0)) (ov x.lo) = true := by
      by_cases hi0 : i = 0
      · rw [decide_eq_true hi0, h2 hi0]; rfl
      · obtain ⟨l, hl, hl1, hl2⟩ := h3 hi0
        rw [decide_eq_false hi0, hl]
        show (decide (-1000 ≤ l) && decide (l ≤ 1000)) = true
        rw [decide_eq_true (show -1000 ≤ l by omega), decide_eq_true (show l ≤ 1000 by omega)]
        rfl
    have pb : plB (decide (i + 1 = xs.length)) (ov x.hi) = true ∧ ((decide (i = 0)) || decide (i + 1 = xs.length) || gapB (ov x.lo) (ov x.hi)) = true := by
      by_cases hi1 : i + 1 = xs.length
      · rw [decide_eq_true hi1, h4 hi1]; exact ⟨rfl, by rw [Bool.or_true, Bool.true_or]⟩
      · obtain ⟨q, hq, hb, hl⟩ := h5 hi1
        rw [decide_eq_false hi1, hq]
        constructor
        · show (decide (-1000 ≤ q) && decide (q ≤ 1000)) = true
          rw [decide_eq_true (show -1000 ≤ q by omega), decide_eq_true (show q ≤ 1000 by omega)]
          rfl
        · by_cases hi0 : i = 0
          · rw [decide_eq_true hi0]; rfl
          · obtain ⟨l, hl2, _⟩ := h3 hi0
            rw [decide_eq_false hi0, hl2]
            show decide (l ≤ q) = true
            exact decide_eq_true (hl l hl2)
    unfold spanB
    rw [r1, pa, pb.1, pb.2, r2]
    rfl
  have e3 : adjB (xs.map spv) = true := by
    unfold adjB
    rw [List.all_eq_true]
    intro b hb
    obtain ⟨p, hp, rfl⟩ := List.mem_map.mp hb
    obtain ⟨n, hn⟩ := List.getElem?_of_mem hp
    rw [List.getElem?_zip_eq_some, List.getElem?_drop, List.getElem?_map, List.getElem?_map, Option.map_eq_some_iff, Option.map_eq_some_iff] at hn
    obtain ⟨⟨x, hx, e1⟩, ⟨y, hy, e2⟩⟩ := hn
    rw [Nat.add_comm] at hy
    obtain ⟨q, hq, hy2⟩ := (at_ n x hx).2.2.2.2.2 y hy
    show adj2 p.1 p.2 = true
    rw [← e1, ← e2]
    unfold spv
    rw [hq, hy2]
    show decide (q + 1 = q + 1) = true
    exact decide_eq_true rfl
  rw [e1, e2, e3]
  rfl
/-! ### a row with a span that is none -/
theorem row_no {pre post : List PV} {x : PV} (h : ∀ F L, spB F L x = false) : rowB (.tup (pre ++ x :: post)) = false := by
  show (tupB (.tup (pre ++ x :: post)) 1 400 && spsB (pre ++ x :: post) && adjB (pre ++ x :: post)) = false
  have e2 : spsB (pre ++ x :: post) = false := by
    unfold spsB
    rw [← Bool.not_eq_true, List.all_eq_true]
    intro hall
    have m := idx_at 0 (pre ++ x :: post) pre.length x (by simp)
    have := hall _ (List.mem_map.mpr ⟨_, m, rfl⟩)
    rw [show id (spB (decide ((0 + pre.length, x).1 = 0)) (decide ((0 + pre.length, x).1 + 1 = (pre ++ x :: post).length)) (0 + pre.length, x).2) = false from h _ _] at this
    cases this
  rw [e2, Bool.and_false, Bool.false_and]
end Ev

set_option linter.all false
set_option maxRecDepth 100000
set_option maxHeartbeats 1000000
namespace Ev
open PySem PySem.Spec L2
/-- a comprehension that leaves things out by chance -/
theorem compGo_some {own : List Nat} {tgt : PV → M Unit} {tst : M Bool} {elt : M RE} (I : ES → Prop) : ∀ (xs : List PV),
    (∀ x ∈ xs, ∀ s, I s → ∃ s1 s2 b, tgt x ⟨wipeE s.env own, s.st⟩ = .ok () s1 ∧ tst s1 = .ok b s2 ∧ (b = true → ∃ r s3 s4, elt s2 = .ok r s3 ∧ share r s3 = .ok x s4 ∧ I s4) ∧ (b = false → I s2)) →
    ∀ s, I s → ∃ vs s', compGo own tgt tst elt true xs s = .ok vs s' ∧ I s' ∧ vs.Sublist xs
  | [], _, s, hs => ⟨[], s, rfl, hs, .slnil⟩
  | x :: xs, h, s, hs => by
    obtain ⟨s1, s2, b, e1, e2, e3, e4⟩ := h x (List.mem_cons_self ..) s hs
    have ih := compGo_some I xs fun x hx => h x (List.mem_cons_of_mem _ hx)
    obtain ⟨env, st⟩ := s
    cases b with
    | false =>
      obtain ⟨vs, s', g1, g2, g3⟩ := ih s2 (e4 rfl)
      refine ⟨vs, s', ?_, g2, .cons _ g3⟩
      rw [compGo_cons, e1, bind_ok, bnd_run, e2, bind_ok, if_neg (by decide), g1]
    | true =>
      obtain ⟨r, s3, s4, e5, e6, e7⟩ := e3 rfl
      obtain ⟨vs, s', g1, g2, g3⟩ := ih s4 e7
      refine ⟨x :: vs, s', ?_, g2, .cons₂ _ g3⟩
      rw [compGo_cons, e1, bind_ok, bnd_run, e2, bind_ok, if_pos rfl, bnd_run, e5, bind_ok, bnd_run, e6, bind_ok, bnd_run, g1, bind_ok]
      rfl
abbrev tst20 (Φ : Orc) : M Bool := (tBool .Or [(bnd (xCmp .Eq (xCall Φ 18 [(rdSlot 0), (ret (.val (.int (3))))]) (ret (.val (.int (0))))) asBool), (bnd (xCmp .Eq (xCall Φ 18 [(rdSlot 0), (ret (.val (.int (4))))]) (ret (.val (.int (0))))) asBool)])
section
variable {Φ : Orc} {s q p : Int} {x : PV} {vs : List PV} {a b : Sl} {st st1 st2 : List Cell}
theorem t20y (h : Φ 18 [.box 0, .int 3] st = .ok (.val (.int 0)) st1) : tst20 Φ ⟨[.val (.box 0), .val (.int s), .none, .val x], st⟩ = .ok true ⟨[.val (.box 0), .val (.int s), .none, .val x], st1⟩ := by
  simp [h]
theorem t20n (h : Φ 18 [.box 0, .int 3] st = .ok (.val (.int q)) st1) (hq : q ≠ 0) (h2 : Φ 18 [.box 0, .int 4] st1 = .ok (.val (.int p)) st2) : tst20 Φ ⟨[.val (.box 0), .val (.int s), .none, .val x], st⟩ = .ok (decide (p = 0)) ⟨[.val (.box 0), .val (.int s), .none, .val x], st2⟩ := by
  simp [h, hq, h2]
theorem r20 (rg : rngOk s = true) (c1 : compGo [2, 3] (setSlot 3) (tst20 Φ) (rdSlot 3) true (rngP 0 s) ⟨[.val (.box 0), .val (.int s), .none, .none], st⟩ = .ok vs ⟨[.val (.box 0), .val (.int s), a, b], st1⟩) (hl : vs.length ≤ 16777216) :
    finO (m20 Φ ⟨[.val (.box 0), .val (.int s), .none, .none], st⟩) = .ok (.val (.tup vs)) st1 := by
  unfold m20
  simp [rg, c1, hl]
end
theorem asc_of : ∀ r : List Int, r.Pairwise (· < ·) → ascB r = true
  | [], _ => rfl
  | [x], _ => rfl
  | x :: y :: r, h => by
    obtain ⟨h1, h2⟩ := List.pairwise_cons.mp h
    rw [ascB, decide_eq_true (h1 y (List.mem_cons_self ..)), asc_of (y :: r) h2]
    rfl
theorem sub_ints : ∀ (vs : List PV) (l : List Int), vs.Sublist (l.map .int) → ∃ r : List Int, vs = r.map .int ∧ r.Sublist l := fun vs l h => by
  obtain ⟨r, h1, h2⟩ := List.sublist_map_iff.mp h
  exact ⟨r, h2, h1⟩
theorem rng_ints (s : Int) : rngP 0 s = ((List.range s.toNat).map fun (k : Nat) => (k : Int)).map .int := by
  unfold rngP
  rw [List.map_map, Int.sub_zero]
  exact List.map_congr_left fun k _ => by simp
/-- drawn residues -/
theorem f20 (k : Nat) (s : Int) (h0 : 1 ≤ s) (h1 : s ≤ 12) (st : List Cell) (hc : Cups st) : ∃ (r : List Int) (st' : List Cell), evP TT (k + 3) 20 [.box 0, .int s] st = .ok (.val (PL r)) st' ∧ r.length ≤ 12 ∧ ascB r = true ∧ (∀ i ∈ r, 0 ≤ i ∧ i ≤ s - 1) ∧ Cups st' := by
  rw [p20]
  obtain ⟨vs, s', c1, ⟨⟨a, b, c2⟩, c3⟩, c4⟩ := compGo_some (own := [2, 3]) (tgt := setSlot 3) (tst := tst20 (evP TT (k + 2))) (elt := rdSlot 3)
    (I := fun t => (∃ a b, t.env = [.val (.box 0), .val (.int s), a, b]) ∧ Cups t.st) (rngP 0 s) (fun x hx t ⟨⟨a, b, e1⟩, e2⟩ => by
      obtain ⟨env, st1⟩ := t
      cases e1
      obtain ⟨q, t1, g1, q0, q1, hc1⟩ := froll (k + 1) 3 (by decide) (by decide) st1 e2
      by_cases hq : q = 0
      · subst hq
        refine ⟨⟨[.val (.box 0), .val (.int s), .none, .val x], st1⟩, _, true, by simp, t20y g1, fun _ => ?_, fun h => by cases h⟩
        exact ⟨.val x, ⟨[.val (.box 0), .val (.int s), .none, .val x], t1⟩, ⟨[.val (.box 0), .val (.int s), .none, .val x], t1⟩, by simp, rfl, ⟨_, _, rfl⟩, hc1⟩
      · obtain ⟨p, t2, g2, p0, p1, hc2⟩ := froll (k + 1) 4 (by decide) (by decide) t1 hc1
        refine ⟨⟨[.val (.box 0), .val (.int s), .none, .val x], st1⟩, _, decide (p = 0), by simp, t20n g1 hq g2, fun _ => ?_, fun _ => ⟨⟨_, _, rfl⟩, hc2⟩⟩
        exact ⟨.val x, ⟨[.val (.box 0), .val (.int s), .none, .val x], t2⟩, ⟨[.val (.box 0), .val (.int s), .none, .val x], t2⟩, by simp, rfl, ⟨_, _, rfl⟩, hc2⟩) ⟨[.val (.box 0), .val (.int s), .none, .none], st⟩ ⟨⟨_, _, rfl⟩, hc⟩
  obtain ⟨env', st'⟩ := s'
  cases c2
  rw [rng_ints] at c4
  obtain ⟨r, rfl, hr⟩ := sub_ints vs _ c4
  have hl := hr.length_le
  rw [List.length_map, List.length_range] at hl
  have pw : ((List.range s.toNat).map fun (k : Nat) => (k : Int)).Pairwise (· < ·) := by
    rw [List.pairwise_map]
    exact List.pairwise_lt_range.imp fun h => by omega
  refine ⟨r, st', r20 (rngOk_s _ (by omega) (by omega)) c1 (by rw [List.length_map]; omega), by omega, asc_of r (List.Pairwise.sublist hr pw), fun i hi => ?_, c3⟩
  obtain ⟨j, hj, rfl⟩ := List.mem_map.mp (hr.subset hi)
  have := List.mem_range.mp hj
  omega
/-! ### drawn spans -/
@[simp] theorem is_nn : cmpV .Is .non .non = some true := rfl
@[simp] theorem is_in (i : Int) : cmpV .Is (.int i) .non = some false := rfl
@[simp] theorem isnot_nn : cmpV .IsNot .non .non = some false := rfl
@[simp] theorem isnot_in (i : Int) : cmpV .IsNot (.int i) .non = some true := rfl
def w1 (Φ : Orc) : M Fl := (sPar3 1 2 3 (xCall Φ 19 [(rdSlot 0), (xLst [(ret (.val (.int (1)))), (ret (.val (.int (2)))), (ret (.val (.int (2)))), (ret (.val (.int (3)))), (ret (.val (.int (4)))), (ret (.val (.int (6))))])]) (xCall Φ 19 [(rdSlot 0), (xLst [(xNeg (ret (.val (.int (12))))), (xNeg (ret (.val (.int (5))))), (ret (.val (.int (0)))), (ret (.val (.int (3))))])]) (xLst []))
def w2b1 (Φ : Orc) : M Fl := (sSet 5 false (xCall Φ 19 [(rdSlot 0), (xLst [(ret (.val (.int (1)))), (ret (.val (.int (1)))), (ret (.val (.int (2)))), (ret (.val (.int (3)))), (ret (.val (.int (4)))), (ret (.val (.int (6)))), (ret (.val (.int (12)))), (ret (.val (.int (5)))), (ret (.val (.int (7)))), (ret (.val (.int (8)))), (ret (.val (.int (9)))), (ret (.val (.int (10)))), (ret (.val (.int (11)))), (ret (.val (.int (12)))), (ret (.val (.int (8))))])]))
def w2b2 (Φ : Orc) : M Fl := (sSet 6 false (xBin .Add (rdSlot 2) (xCall Φ 19 [(rdSlot 0), (xLst [(ret (.val (.int (0)))), (ret (.val (.int (1)))), (ret (.val (.int (2)))), (ret (.val (.int (5)))), (ret (.val (.int (11)))), (ret (.val (.int (14))))])])))
def w2b3 (Φ : Orc) : M Fl := (sSet 7 false (xIf (bnd (xCmp .Eq (rdSlot 4) (ret (.val (.int (0))))) asBool) (ret (.val .non)) (rdSlot 2)))
def w2b4 (Φ : Orc) : M Fl := (sSet 6 false (xIf (bnd (xCmp .Eq (rdSlot 4) (ret (.val (.int (0))))) asBool) (xBin .Sub (rdSlot 2) (ret (.val (.int (1))))) (rdSlot 6)))
def w2b5 (Φ : Orc) : M Fl := (sSet 6 false (xIf (bnd (xCmp .Eq (xBin .Add (rdSlot 4) (ret (.val (.int (1))))) (rdSlot 1)) asBool) (ret (.val .non)) (rdSlot 6)))
def w2b6 (Φ : Orc) : M Fl := (sEx (xApp 3 (xTup [(rdSlot 7), (rdSlot 6), (rdSlot 5), (xCall Φ 20 [(rdSlot 0), (rdSlot 5)])])))
def w2b7 (Φ : Orc) : M Fl := (sSet 2 false (xIf (bnd (xCmp .Is (rdSlot 6) (ret (.val .non))) asBool) (rdSlot 2) (xBin .Add (rdSlot 6) (ret (.val (.int (1)))))))
def w2bB (Φ : Orc) : M Fl := seqB [w2b1 Φ, w2b2 Φ, w2b3 Φ, w2b4 Φ, w2b5 Φ, w2b6 Φ, w2b7 Φ]
def w2 (Φ : Orc) : M Fl := (sFor (setSlot 4) (w2bB Φ) (iRng1 (rdSlot 1)))
def w3 (Φ : Orc) : M Fl := (sRet (xBi .tuple [(rdSlot 3)]))
def wB (Φ : Orc) : M Fl := seqB [w1 Φ, w2 Φ, w3 Φ]
theorem m21_eq (Φ : Orc) : m21 Φ = wB Φ := rfl
section
variable {Φ : Orc} {t at_ many s e d : Int} {lo hi : Option Int} {R : PV} {acc : List PV} {x1 x2 x4 x5 x6 x7 : Sl} {st st1 st2 : List Cell}
theorem w1r (h1 : Φ 19 [.box 0, .lst [.int 1, .int 2, .int 2, .int 3, .int 4, .int 6]] st = .ok (.val (.int many)) st1) (h2 : Φ 19 [.box 0, .lst [.int (-12), .int (-5), .int 0, .int 3]] st1 = .ok (.val (.int at_)) st2) :
    w1 Φ ⟨[.val (.box 0), .none, .none, .none, .none, .none, .none, .none], st⟩ = .ok .nx ⟨[.val (.box 0), .val (.int many), .val (.int at_), .own (.lst []), .none, .none, .none, .none], st2⟩ := by
  unfold w1
  simp [h1, h2]
theorem w2b1r (h : Φ 19 [.box 0, .lst [.int 1, .int 1, .int 2, .int 3, .int 4, .int 6, .int 12, .int 5, .int 7, .int 8, .int 9, .int 10, .int 11, .int 12, .int 8]] st = .ok (.val (.int s)) st1) :
    w2b1 Φ ⟨[.val (.box 0), x1, x2, .own (.lst acc), x4, x5, x6, x7], st⟩ = .ok .nx ⟨[.val (.box 0), x1, x2, .own (.lst acc), x4, .val (.int s), x6, x7], st1⟩ := by
  unfold w2b1
  simp [h]
theorem w2b2r (h : Φ 19 [.box 0, .lst [.int 0, .int 1, .int 2, .int 5, .int 11, .int 14]] st = .ok (.val (.int d)) st1) :
    w2b2 Φ ⟨[.val (.box 0), x1, .val (.int at_), .own (.lst acc), x4, x5, x6, x7], st⟩ = .ok .nx ⟨[.val (.box 0), x1, .val (.int at_), .own (.lst acc), x4, x5, .val (.int (at_ + d)), x7], st1⟩ := by
  unfold w2b2
  simp [h]
theorem w2b3r : w2b3 Φ ⟨[.val (.box 0), x1, .val (.int at_), .own (.lst acc), .val (.int t), x5, x6, x7], st⟩ = .ok .nx ⟨[.val (.box 0), x1, .val (.int at_), .own (.lst acc), .val (.int t), x5, x6, .val (ov (if t = 0 then none else some at_))], st⟩ := by
  unfold w2b3
  by_cases h : t = 0 <;> simp [h, ov]
theorem w2b4r : w2b4 Φ ⟨[.val (.box 0), x1, .val (.int at_), .own (.lst acc), .val (.int t), x5, .val (.int e), x7], st⟩ = .ok .nx ⟨[.val (.box 0), x1, .val (.int at_), .own (.lst acc), .val (.int t), x5, .val (.int (if t = 0 then at_ - 1 else e)), x7], st⟩ := by
  unfold w2b4
  by_cases h : t = 0 <;> simp [h]
theorem w2b5r : w2b5 Φ ⟨[.val (.box 0), .val (.int many), x2, .own (.lst acc), .val (.int t), x5, .val (.int e), x7], st⟩ = .ok .nx ⟨[.val (.box 0), .val (.int many), x2, .own (.lst acc), .val (.int t), x5, .val (ov (if t + 1 = many then none else some e)), x7], st⟩ := by
  unfold w2b5
  by_cases h : t + 1 = many <;> simp [h, ov]
theorem w2b6r (h : Φ 20 [.box 0, .int s] st = .ok (.val R) st1) (hl : acc.length < 16777216) :
    w2b6 Φ ⟨[.val (.box 0), x1, x2, .own (.lst acc), x4, .val (.int s), .val (ov hi), .val (ov lo)], st⟩ = .ok .nx ⟨[.val (.box 0), x1, x2, .own (.lst (acc ++ [.tup [ov lo, ov hi, .int s, R]])), x4, .val (.int s), .val (ov hi), .val (ov lo)], st1⟩ := by
  unfold w2b6
  simp [h, hl]
theorem w2b7n : w2b7 Φ ⟨[.val (.box 0), x1, .val (.int at_), .own (.lst acc), x4, x5, .val (ov none), x7], st⟩ = .ok .nx ⟨[.val (.box 0), x1, .val (.int at_), .own (.lst acc), x4, x5, .val (ov none), x7], st⟩ := by
  unfold w2b7
  simp [ov]
theorem w2b7s : w2b7 Φ ⟨[.val (.box 0), x1, .val (.int at_), .own (.lst acc), x4, x5, .val (ov (some e)), x7], st⟩ = .ok .nx ⟨[.val (.box 0), x1, .val (.int (e + 1)), .own (.lst acc), x4, x5, .val (ov (some e)), x7], st⟩ := by
  unfold w2b7
  simp [ov]
theorem w3r : w3 Φ ⟨[.val (.box 0), x1, x2, .own (.lst acc), x4, x5, x6, x7], st⟩ = .ok (.rt (.val (.tup acc))) ⟨[.val (.box 0), x1, x2, .own (.lst acc), x4, x5, x6, x7], st⟩ := by
  unfold w3
  simp
end
theorem spans_loop (k : Nat) (many : Int) (hm : many ≤ 6) : ∀ (n t : Nat) (at_ : Int) (pre : List Sp) (x4 x5 x6 x7 : Sl) (st : List Cell), 1 ≤ n → (t : Int) + n = many → -12 ≤ at_ → at_ ≤ 3 + 15 * t → pre.length = t → Seg 150 none pre (if (t : Int) = 0 then none else some at_) → Cups st →
    ∃ (xs : List Sp) (y2 y4 y5 y6 y7 : Sl) (st' : List Cell), forM (setSlot 4) (w2bB (evP TT (k + 4))) ((List.range' t n).map fun (i : Nat) => PV.int (i : Int)) ⟨[.val (.box 0), .val (.int many), .val (.int at_), .own (.lst (pre.map spv)), x4, x5, x6, x7], st⟩ = .ok .nx ⟨[.val (.box 0), .val (.int many), y2, .own (.lst (xs.map spv)), y4, y5, y6, y7], st'⟩ ∧ Chain 150 none xs ∧ xs.length = t + n ∧ Cups st' := by
  intro n
  induction n with
  | zero => intro t at_ pre x4 x5 x6 x7 st h; omega
  | succ n ih =>
    intro t at_ pre x4 x5 x6 x7 st _ htn a0 a1 hp hs hc
    obtain ⟨S, t1, e1, hS, hc⟩ := fsome (k + 2) [.int 1, .int 1, .int 2, .int 3, .int 4, .int 6, .int 12, .int 5, .int 7, .int 8, .int 9, .int 10, .int 11, .int 12, .int 8] (by simp) (by simp) st hc
    obtain ⟨s, rfl, s0, s1⟩ : ∃ z : Int, S = .int z ∧ 1 ≤ z ∧ z ≤ 12 := by
      simp only [List.mem_cons, List.not_mem_nil, or_false] at hS
      rcases hS with rfl | rfl | rfl | rfl | rfl | rfl | rfl | rfl | rfl | rfl | rfl | rfl | rfl | rfl | rfl <;> exact ⟨_, rfl, by decide, by decide⟩
    obtain ⟨D, t2, e2, hD, hc⟩ := fsome (k + 2) [.int 0, .int 1, .int 2, .int 5, .int 11, .int 14] (by simp) (by simp) t1 hc
    obtain ⟨d, rfl, d0, d1⟩ : ∃ z : Int, D = .int z ∧ 0 ≤ z ∧ z ≤ 14 := by
      simp only [List.mem_cons, List.not_mem_nil, or_false] at hD
      rcases hD with rfl | rfl | rfl | rfl | rfl | rfl <;> exact ⟨_, rfl, by decide, by decide⟩
    obtain ⟨r, t3, e3, r1, r2, r3, hc⟩ := f20 (k + 1) s s0 s1 t2 hc
    have a1' : setSlot 4 (PV.int (t : Int)) ⟨[.val (.box 0), .val (.int many), .val (.int at_), .own (.lst (pre.map spv)), x4, x5, x6, x7], st⟩ = .ok () ⟨[.val (.box 0), .val (.int many), .val (.int at_), .own (.lst (pre.map spv)), .val (.int (t : Int)), x5, x6, x7], st⟩ := by simp
    rw [List.range'_succ, List.map_cons, forM_cons, a1', bind_ok, bnd_run]
    unfold w2bB
    rw [seqB_cons, w2b1r e1, bind_ok]; dsimp only
    rw [seqB_cons, w2b2r e2, bind_ok]; dsimp only
    rw [seqB_cons, w2b3r, bind_ok]; dsimp only
    rw [seqB_cons, w2b4r, bind_ok]; dsimp only
    rw [seqB_cons, w2b5r, bind_ok]; dsimp only
    rw [seqB_cons, w2b6r e3 (by rw [List.length_map]; omega), bind_ok]; dsimp only
    obtain ⟨E, hE0, hE1⟩ : ∃ E, (if (t : Int) = 0 then at_ - 1 else at_ + d) = E ∧ (((t : Int) = 0 ∧ E = at_ - 1) ∨ ((t : Int) ≠ 0 ∧ E = at_ + d)) := by
      by_cases h : (t : Int) = 0
      · exact ⟨_, rfl, .inl ⟨h, if_pos h⟩⟩
      · exact ⟨_, rfl, .inr ⟨h, if_neg h⟩⟩
    obtain ⟨X, hX1, hX2, hX3, hX4⟩ : ∃ X : Sp, X.lo = (if (t : Int) = 0 then none else some at_) ∧ X.hi = (if (t : Int) + 1 = many then none else some E) ∧ X.s = s ∧ X.r = r := ⟨⟨_, _, _, _⟩, rfl, rfl, rfl, rfl⟩
    have hres : Res X := ⟨by omega, by omega, by rw [hX4]; exact r1, by rw [hX4]; exact r2, by rw [hX3, hX4]; exact r3⟩
    have ea : pre.map spv ++ [PV.tup [ov (if (t : Int) = 0 then none else some at_), ov (if (t : Int) + 1 = many then none else some E), .int s, PL r]] = (pre ++ [X]).map spv := by
      rw [List.map_append, List.map_cons, List.map_nil]
      unfold spv
      rw [hX1, hX2, hX3, hX4]
    rw [hE0, ea]
    by_cases hlast : (t : Int) + 1 = many
    · have hn : n = 0 := by omega
      subst hn
      rw [if_pos hlast] at hX2 ⊢
      rw [seqB_one, w2b7n, bind_ok, forK_nx]
      exact ⟨_, _, _, _, _, _, _, rfl, seg_end pre none _ _ hs hX1 hX2 hres, by rw [List.length_append, hp]; rfl, hc⟩
    · rw [if_neg hlast] at hX2 ⊢
      rw [seqB_one, w2b7s, bind_ok, forK_nx]
      have sg := seg_snoc pre none _ _ E hs hX1 hres hX2 (by omega) (fun l hl => by
        by_cases h0 : (t : Int) = 0
        · rw [if_pos h0] at hl; cases hl
        · rw [if_neg h0] at hl; cases hl; omega)
      have e5 : (some (E + 1) : Option Int) = if ((t + 1 : Nat) : Int) = 0 then none else some (E + 1) := by
        rw [if_neg (by omega)]
      rw [e5] at sg
      obtain ⟨xs, y2, y4, y5, y6, y7, st', g1, g2, g3, g4⟩ := ih (t + 1) (E + 1) (pre ++ [X]) (.val (.int (t : Int))) (.val (.int s)) (.val (ov (some E))) (.val (ov (if (t : Int) = 0 then none else some at_))) t3 (by omega) (by omega) (by omega) (by omega) (by rw [List.length_append, hp]; rfl) sg hc
      exact ⟨xs, y2, y4, y5, y6, y7, st', g1, g2, by omega, g4⟩
theorem iRng1_slot {i : Nat} {env : List Sl} {st : List Cell} {m : Int} (h : env[i]? = some (.val (.int m))) (rg : rngOk m = true) : iRng1 (rdSlot i) ⟨env, st⟩ = .ok (rngP 0 m) ⟨env, st⟩ := by
  have e : rdSlot i ⟨env, st⟩ = .ok (.val (.int m)) ⟨env, st⟩ := by
    unfold rdSlot
    dsimp only
    rw [h]
  rw [iRng1_run, e, bind_ok, rng1M_run, if_pos rg]
theorem run21 {Φ : Orc} {m : Nat} {a : Int} {vs : List PV} {y2 y4 y5 y6 y7 : Sl} {st t1 t2 t3 : List Cell} (hm : m ≤ 6) (e1 : Φ 19 [.box 0, .lst [.int 1, .int 2, .int 2, .int 3, .int 4, .int 6]] st = .ok (.val (.int (m : Int))) t1) (e2 : Φ 19 [.box 0, .lst [.int (-12), .int (-5), .int 0, .int 3]] t1 = .ok (.val (.int a)) t2)
    (e3 : forM (setSlot 4) (w2bB Φ) (rngP 0 m) ⟨[.val (.box 0), .val (.int (m : Int)), .val (.int a), .own (.lst []), .none, .none, .none, .none], t2⟩ = .ok .nx ⟨[.val (.box 0), .val (.int (m : Int)), y2, .own (.lst vs), y4, y5, y6, y7], t3⟩) :
    finO (m21 Φ ⟨[.val (.box 0), .none, .none, .none, .none, .none, .none, .none], st⟩) = .ok (.val (.tup vs)) t3 := by
  have a4 : iRng1 (rdSlot 1) ⟨[.val (.box 0), .val (.int (m : Int)), .val (.int a), .own (.lst []), .none, .none, .none, .none], t2⟩ = .ok (rngP 0 m) ⟨[.val (.box 0), .val (.int (m : Int)), .val (.int a), .own (.lst []), .none, .none, .none, .none], t2⟩ := by
    have rg : rngOk (m : Int) = true := rngOk_s _ (by omega) (by omega)
    exact iRng1_slot rfl rg
  rw [m21_eq]
  unfold wB
  rw [seqB_cons, w1r e1 e2, bind_ok]; dsimp only
  rw [seqB_cons]
  unfold w2
  rw [sFor_run, a4, bind_ok, e3, bind_ok]; dsimp only
  rw [seqB_one, w3r]
  rfl
theorem many_of {M : PV} (h : M ∈ [PV.int 1, .int 2, .int 2, .int 3, .int 4, .int 6]) : ∃ z : Nat, M = .int z ∧ 1 ≤ z ∧ z ≤ 6 := by
  simp only [List.mem_cons, List.not_mem_nil, or_false] at h
  rcases h with rfl | rfl | rfl | rfl | rfl | rfl
  · exact ⟨1, rfl, by decide, by decide⟩
  · exact ⟨2, rfl, by decide, by decide⟩
  · exact ⟨2, rfl, by decide, by decide⟩
  · exact ⟨3, rfl, by decide, by decide⟩
  · exact ⟨4, rfl, by decide, by decide⟩
  · exact ⟨6, rfl, by decide, by decide⟩
theorem at_of {A : PV} (h : A ∈ [PV.int (-12), .int (-5), .int 0, .int 3]) : ∃ z : Int, A = .int z ∧ -12 ≤ z ∧ z ≤ 3 := by
  simp only [List.mem_cons, List.not_mem_nil, or_false] at h
  rcases h with rfl | rfl | rfl | rfl <;> exact ⟨_, rfl, by decide, by decide⟩
/-- drawn spans -/
theorem f21 (k : Nat) (st : List Cell) (hc : Cups st) : ∃ (xs : List Sp) (st' : List Cell), evP TT (k + 5) 21 [.box 0] st = .ok (.val (.tup (xs.map spv))) st' ∧ Chain 150 none xs ∧ xs.length ≤ 6 ∧ Cups st' := by
  obtain ⟨Mn, t1, e1, hM, hc⟩ := fsome (k + 2) [.int 1, .int 2, .int 2, .int 3, .int 4, .int 6] (by simp) (by simp) st hc
  obtain ⟨m, rfl, m0, m1⟩ := many_of hM
  obtain ⟨A, t2, e2, hA, hc⟩ := fsome (k + 2) [.int (-12), .int (-5), .int 0, .int 3] (by simp) (by simp) t1 hc
  obtain ⟨a, rfl, a0, a1⟩ := at_of hA
  obtain ⟨xs, y2, y4, y5, y6, y7, t3, e3, ch, xl, hc⟩ := spans_loop k m (by omega) m 0 a [] .none .none .none .none t2 m0 (by omega) a0 (by omega) rfl (by rw [if_pos (by decide)]; rfl) hc
  refine ⟨xs, t3, ?_, ch, by omega, hc⟩
  have er : (List.range' 0 m).map (fun (i : Nat) => PV.int (i : Int)) = rngP 0 m := by
    rw [rng_ints, List.map_map, ← List.range_eq_range', Int.toNat_natCast]
    rfl
  rw [er, List.map_nil] at e3
  rw [p21]
  exact run21 m1 e1 e2 e3
end Ev

set_option linter.all false
set_option maxRecDepth 100000
set_option maxHeartbeats 1000000
namespace Ev
open PySem PySem.Spec L2
/-- a comprehension with a test, over told things -/
theorem compGo_fl {α : Type} {own : List Nat} {tgt : PV → M Unit} {tst : M Bool} {elt : M RE} (I : ES → Prop) (f g : α → PV) (c : α → Bool) : ∀ (xs : List α),
    (∀ x ∈ xs, ∀ s, I s → ∃ s1 s2, tgt (f x) ⟨wipeE s.env own, s.st⟩ = .ok () s1 ∧ tst s1 = .ok (c x) s2 ∧ (c x = true → ∃ r s3 s4, elt s2 = .ok r s3 ∧ share r s3 = .ok (g x) s4 ∧ I s4) ∧ (c x = false → I s2)) →
    ∀ s, I s → ∃ s', compGo own tgt tst elt true (xs.map f) s = .ok ((xs.filter c).map g) s' ∧ I s'
  | [], _, s, hs => ⟨s, rfl, hs⟩
  | x :: xs, h, s, hs => by
    obtain ⟨s1, s2, e1, e2, e3, e4⟩ := h x (List.mem_cons_self ..) s hs
    have ih := compGo_fl I f g c xs fun x hx => h x (List.mem_cons_of_mem _ hx)
    obtain ⟨env, st⟩ := s
    rw [List.map_cons]
    cases hc : c x with
    | false =>
      obtain ⟨s', g1, g2⟩ := ih s2 (e4 hc)
      refine ⟨s', ?_, g2⟩
      rw [hc] at e2
      rw [compGo_cons, e1, bind_ok, bnd_run, e2, bind_ok, if_neg (by decide), g1, List.filter_cons_of_neg (by rw [hc]; decide)]
    | true =>
      obtain ⟨r, s3, s4, e5, e6, e7⟩ := e3 hc
      obtain ⟨s', g1, g2⟩ := ih s4 e7
      refine ⟨s', ?_, g2⟩
      rw [hc] at e2
      rw [compGo_cons, e1, bind_ok, bnd_run, e2, bind_ok, if_pos rfl, bnd_run, e5, bind_ok, bnd_run, e6, bind_ok, bnd_run, g1, bind_ok, List.filter_cons_of_pos hc]
      rfl

/-! ### which integers a row has -/
def hiB (x : Sp) (n : Int) : Bool := match x.hi with
  | none => true
  | some h => decide (n ≤ h)
def loB (x : Sp) (n : Int) : Bool := match x.lo with
  | none => true
  | some l => decide (l ≤ n)
def hasO : List Sp → Int → Option Bool
  | [], _ => none
  | x :: xs, n => if loB x n && hiB x n then some (x.r.contains (n % x.s)) else hasO xs n
def hasS (xs : List Sp) (n : Int) : Bool := (hasO xs n).getD false
/-- the span of a number -/
theorem pick_ok {B : Int} : ∀ (xs : List Sp) (lo : Option Int), Chain B lo xs → ∀ n : Int, (∀ l, lo = some l → l ≤ n) → ∃ x rest, xs.filter (hiB · n) = x :: rest ∧ x ∈ xs ∧ Res x ∧ loB x n = true ∧ hiB x n = true ∧ hasO xs n = some (x.r.contains (n % x.s))
  | [], lo, h, n, hl => h.elim
  | [x], lo, h, n, hl => by
    obtain ⟨a, b, c⟩ := h
    have e1 : hiB x n = true := by unfold hiB; rw [b]
    have e2 : loB x n = true := by
      unfold loB
      rw [a]
      cases hlo : lo with
      | none => rfl
      | some l => exact decide_eq_true (hl l hlo)
    refine ⟨x, [], by rw [List.filter_cons_of_pos (p := fun x => hiB x n) e1]; rfl, List.mem_cons_self .., c, e2, e1, ?_⟩
    rw [hasO, e1, e2]
    rfl
  | x :: y :: xs, lo, h, n, hl => by
    obtain ⟨a, b, q, c, d, e, f⟩ := h
    by_cases hh : hiB x n = true
    · have e2 : loB x n = true := by
        unfold loB
        rw [a]
        cases hlo : lo with
        | none => rfl
        | some l => exact decide_eq_true (hl l hlo)
      refine ⟨x, _, by rw [List.filter_cons_of_pos (p := fun x => hiB x n) hh], List.mem_cons_self .., b, e2, hh, ?_⟩
      rw [hasO, hh, e2]
      rfl
    · have hq : q < n := by
        unfold hiB at hh
        rw [c] at hh
        simpa using hh
      obtain ⟨z, rest, z1, z2, z3, z4, z5, z6⟩ := pick_ok (y :: xs) _ f n (fun l hl => by cases hl; omega)
      refine ⟨z, rest, by rw [List.filter_cons_of_neg (p := fun x => hiB x n) hh]; exact z1, List.mem_cons_of_mem _ z2, z3, z4, z5, ?_⟩
      rw [Bool.not_eq_true] at hh
      rw [hasO, hh, Bool.and_false, if_neg (by decide)]
      exact z6
theorem in_intsR (z : Int) : ∀ r : List Int, inV (.int z) (r.map .int) = some (r.contains z) := fun r => by
  unfold inV
  have h : ∀ l : List Int, (l.map PV.int).all flatP = true ∧ ((l.map PV.int).any fun y => eqF y (.int z)) = l.contains z := fun l => by
    induction l with
    | nil => exact ⟨rfl, rfl⟩
    | cons x l ih =>
      refine ⟨by rw [List.map_cons, List.all_cons, ih.1]; rfl, ?_⟩
      rw [List.map_cons, List.any_cons, ih.2, List.contains_cons]
      show ((x == z) || _) = _
      rw [Bool.beq_comm]
  rw [(h r).1, (h r).2]
  rfl
abbrev tst8 : M Bool := tBool .Or [(bnd (xCmp .Is (xSub (rdSlot 3) (ret (.val (.int (1))))) (ret (.val .non))) asBool), (bnd (xCmp .LtE (rdSlot 1) (xSub (rdSlot 3) (ret (.val (.int (1)))))) asBool)]
section
variable {Φ : Orc} {V X : PV} {n s : Int} {st : List Cell} {xs vs : List PV} {a b : Sl}
theorem t8 (x : Sp) : tst8 ⟨[.val V, .val (.int n), .none, .val (spv x)], st⟩ = .ok (hiB x n) ⟨[.val V, .val (.int n), .none, .val (spv x)], st⟩ := by
  unfold spv hiB
  cases x.hi <;> simp [ov]
theorem r8 (c1 : compGo [2, 3] (setSlot 3) tst8 (rdSlot 3) true xs ⟨[.val (.tup xs), .val (.int n), .none, .none], st⟩ = .ok (X :: vs) ⟨[.val (.tup xs), .val (.int n), a, b], st⟩) (hl : (X :: vs).length ≤ 16777216) : finO (m8 Φ ⟨[.val (.tup xs), .val (.int n), .none, .none], st⟩) = .ok (.val X) st := by
  have hl' : vs.length + 1 ≤ 16777216 := hl
  unfold m8
  simp [c1, hl']
theorem r9 (x : Sp) (hs : 0 < x.s) (h : Φ 8 [V, .int n] st = .ok (.val (spv x)) st) : finO (m9 Φ ⟨[.val V, .val (.int n), .none], st⟩) = .ok (.val (.bl (x.r.contains (n % x.s)))) st := by
  have h0 : x.s ≠ 0 := by omega
  have e := Int.fmod_eq_emod_of_nonneg n (Int.le_of_lt hs)
  have i := in_intsR (n % x.s) x.r
  unfold spv at h
  unfold m9
  simp [h, h0, hs, e, i]
theorem r14 {W : PV} (h6 : Φ 6 [V] st = .ok (.val .non) st) (h7 : Φ 7 [.int n] st = .ok (.val .non) st) (h9 : Φ 9 [V, .int n] st = .ok (.val W) st) : finO (m14 Φ ⟨[.val V, .val (.int n)], st⟩) = .ok (.val W) st := by
  unfold m14
  simp [h6, h7, h9]
theorem r6 (h : Φ 5 [V] st = .ok (.val (.bl true)) st) : finO (m6 Φ ⟨[.val V], st⟩) = .ok (.val .non) st := by
  unfold m6
  simp [h]
theorem r7 (h : Φ 0 [X, .int (-1000000000), .int 1000000000] st = .ok (.val (.bl true)) st) : finO (m7 Φ ⟨[.val X], st⟩) = .ok (.val .non) st := by
  unfold m7
  simp [h]
end
/-- a row that is one -/
def RowV (xs : List Sp) : Prop := Chain 150 none xs ∧ xs.length ≤ 6
theorem row_dat (xs : List Sp) : ∀ x ∈ xs.map spv, DatS x := fun x hx => by
  obtain ⟨y, _, rfl⟩ := List.mem_map.mp hx
  exact dat_spv y
theorem f6 (k : Nat) {xs : List Sp} (h : RowV xs) (st : List Cell) : evP TT (k + 6) 6 [.tup (xs.map spv)] st = .ok (.val .non) st := by
  rw [p6]
  have g := f5 k (xs.map spv) (row_dat xs) st
  rw [chain_row (by decide) h.1 (by have := h.2; omega)] at g
  exact r6 g
theorem f7 (k : Nat) {n : Int} (h : -1000000000 ≤ n ∧ n ≤ 1000000000) (st : List Cell) : evP TT (k + 2) 7 [.int n] st = .ok (.val .non) st := by
  rw [p7]
  have g := f0 k (.int n) trivial (-1000000000) 1000000000 st
  have e : wholeB (.int n) (-1000000000) 1000000000 = true := by
    show (decide (-1000000000 ≤ n) && decide (n ≤ 1000000000)) = true
    rw [decide_eq_true h.1, decide_eq_true h.2]
    rfl
  rw [e] at g
  exact r7 g
/-- is_in -/
theorem f9 (k : Nat) {xs : List Sp} (h : RowV xs) (n : Int) (st : List Cell) : evP TT (k + 2) 9 [.tup (xs.map spv), .int n] st = .ok (.val (.bl (hasS xs n))) st := by
  obtain ⟨x, rest, q1, q2, q3, q4, q5, q6⟩ := pick_ok xs none h.1 n (fun l hl => by cases hl)
  have g8 : evP TT (k + 1) 8 [.tup (xs.map spv), .int n] st = .ok (.val (spv x)) st := by
    rw [p8]
    obtain ⟨s', c1, c2, a, b, c3⟩ := compGo_fl (own := [2, 3]) (tgt := setSlot 3) (tst := tst8) (elt := rdSlot 3)
      (I := fun t => t.st = st ∧ ∃ a b, t.env = [.val (.tup (xs.map spv)), .val (.int n), a, b]) (f := spv) (g := spv) (c := fun x => hiB x n) xs (fun u hu t ⟨h1, a, b, h2⟩ => by
        obtain ⟨env, st'⟩ := t
        cases h1; cases h2
        generalize PV.tup (xs.map spv) = V
        refine ⟨⟨[.val V, .val (.int n), .none, .val (spv u)], st'⟩, _, by simp, t8 u, fun _ => ?_, fun _ => ⟨rfl, _, _, rfl⟩⟩
        exact ⟨.val (spv u), ⟨[.val V, .val (.int n), .none, .val (spv u)], st'⟩, ⟨[.val V, .val (.int n), .none, .val (spv u)], st'⟩, by simp, rfl, rfl, _, _, rfl⟩) ⟨[.val (.tup (xs.map spv)), .val (.int n), .none, .none], st⟩ ⟨rfl, _, _, rfl⟩
    obtain ⟨env, st'⟩ := s'
    cases c2; cases c3
    have fl := List.length_filter_le (fun x => hiB x n) xs
    rw [q1, List.map_cons] at c1
    rw [q1] at fl
    have := h.2
    exact r8 c1 (by simp only [List.length_cons, List.length_map] at fl ⊢; omega)
  rw [p9]
  have e : hasS xs n = x.r.contains (n % x.s) := by unfold hasS; rw [q6]; rfl
  rw [e]
  have := q3.s0
  exact r9 x (by omega) g8
/-- has_number -/
theorem f14 (k : Nat) {xs : List Sp} (h : RowV xs) {n : Int} (hn : -1000000000 ≤ n ∧ n ≤ 1000000000) (st : List Cell) : evP TT (k + 7) 14 [.tup (xs.map spv), .int n] st = .ok (.val (.bl (hasS xs n))) st := by
  rw [p14]
  exact r14 (f6 k h st) (f7 (k + 4) hn st) (f9 (k + 4) h n st)
/-! ### the law's own -/
def body22 : M Fl := (seqB [(sIf (tBool .And [(tBool .Or [(bnd (xCmp .Is (rdSlot 2) (ret (.val .non))) asBool), (bnd (xCmp .LtE (rdSlot 2) (rdSlot 1)) asBool)]), (tBool .Or [(bnd (xCmp .Is (rdSlot 3) (ret (.val .non))) asBool), (bnd (xCmp .LtE (rdSlot 1) (rdSlot 3)) asBool)])]) (seqB [(sRet (xCmp .In (xBin .Mod (xBi .int [(rdSlot 1)]) (rdSlot 4)) (rdSlot 5)))]) (seqB []))])
theorem m22_eq (Φ : Orc) : m22 Φ = seqB [sFor (tupAsg [2, 3, 4, 5]) body22 (iOf (rdSlot 0)), (sRet (ret (.val (.bl false))))] := rfl
section
variable {V : PV} {n : Int} {st : List Cell} {y2 y3 y4 y5 : Sl}
theorem b22 (x : Sp) (hs : 0 < x.s) : body22 ⟨[.val V, .val (.int n), .val (ov x.lo), .val (ov x.hi), .val (.int x.s), .val (PL x.r)], st⟩ = .ok (if loB x n && hiB x n then .rt (.val (.bl (x.r.contains (n % x.s)))) else .nx) ⟨[.val V, .val (.int n), .val (ov x.lo), .val (ov x.hi), .val (.int x.s), .val (PL x.r)], st⟩ := by
  have h0 : x.s ≠ 0 := by omega
  have e := Int.fmod_eq_emod_of_nonneg n (Int.le_of_lt hs)
  have i := in_intsR (n % x.s) x.r
  unfold body22 loB hiB
  cases x.lo with
  | none =>
    cases x.hi with
    | none => simp [ov, h0, hs, e, i]
    | some h => by_cases q : n ≤ h <;> simp [ov, h0, hs, e, i, q]
  | some l =>
    by_cases p : l ≤ n
    · cases x.hi with
      | none => simp [ov, h0, hs, e, i, p]
      | some h => by_cases q : n ≤ h <;> simp [ov, h0, hs, e, i, p, q]
    · cases x.hi with
      | none => simp [ov, h0, hs, e, i, p]
      | some h => simp [ov, h0, hs, e, i, p]
end
theorem has_loop (V : PV) (n : Int) (st : List Cell) : ∀ (xs : List Sp) (x2 x3 x4 x5 : Sl), (∀ x ∈ xs, 0 < x.s) → ∃ y2 y3 y4 y5, forM (tupAsg [2, 3, 4, 5]) body22 (xs.map spv) ⟨[.val V, .val (.int n), x2, x3, x4, x5], st⟩ = .ok (match hasO xs n with | some b => .rt (.val (.bl b)) | none => .nx) ⟨[.val V, .val (.int n), y2, y3, y4, y5], st⟩
  | [], x2, x3, x4, x5, _ => ⟨x2, x3, x4, x5, rfl⟩
  | x :: xs, x2, x3, x4, x5, h => by
    have a1 : tupAsg [2, 3, 4, 5] (spv x) ⟨[.val V, .val (.int n), x2, x3, x4, x5], st⟩ = .ok () ⟨[.val V, .val (.int n), .val (ov x.lo), .val (ov x.hi), .val (.int x.s), .val (PL x.r)], st⟩ := by
      unfold spv
      simp
    have b := b22 (V := V) (n := n) (st := st) x (h x (List.mem_cons_self ..))
    rw [List.map_cons, forM_cons, a1, bind_ok, bnd_run, b, bind_ok, hasO]
    by_cases q : (loB x n && hiB x n) = true
    · rw [if_pos q, if_pos q]
      exact ⟨_, _, _, _, rfl⟩
    · rw [if_neg q, if_neg q, forK_nx]
      exact has_loop V n st xs _ _ _ _ fun y hy => h y (List.mem_cons_of_mem _ hy)
theorem res_pos {xs : List Sp} (h : RowV xs) : ∀ x ∈ xs, Res x := fun x hx => by
  obtain ⟨i, hi⟩ := List.getElem?_of_mem hx
  exact (chain_at xs none h.1 i x hi).1
theorem f22 (k : Nat) {xs : List Sp} (h : RowV xs) (n : Int) (st : List Cell) : evP TT (k + 1) 22 [.tup (xs.map spv), .int n] st = .ok (.val (.bl (hasS xs n))) st := by
  rw [p22, m22_eq]
  obtain ⟨y2, y3, y4, y5, e⟩ := has_loop (.tup (xs.map spv)) n st xs .none .none .none .none (fun x hx => by have := (res_pos h x hx).s0; omega)
  have hs : hasS xs n = (hasO xs n).getD false := rfl
  rw [hs]
  generalize xs.map spv = vs at e ⊢
  have a1 : iOf (rdSlot 0) ⟨[.val (.tup vs), .val (.int n), .none, .none, .none, .none], st⟩ = .ok vs ⟨[.val (.tup vs), .val (.int n), .none, .none, .none, .none], st⟩ := by simp
  rw [seqB_cons, sFor_run, a1, bind_ok, e, bind_ok]
  cases hasO xs n with
  | some b => rfl
  | none => rfl
end Ev

set_option linter.all false
set_option maxRecDepth 100000
set_option maxHeartbeats 1000000
namespace Ev
open PySem PySem.Spec L2
/-! ### the least integer from a number on -/
def inS (x : Sp) (m : Int) : Prop := loB x m = true ∧ hiB x m = true ∧ m % x.s ∈ x.r
def memS (xs : List Sp) (m : Int) : Prop := ∃ x ∈ xs, inS x m
theorem loB_iff (x : Sp) (m : Int) : loB x m = true ↔ ∀ l, x.lo = some l → l ≤ m := by
  unfold loB
  cases x.lo with
  | none => simp
  | some l => simp
theorem hiB_iff (x : Sp) (m : Int) : hiB x m = true ↔ ∀ h, x.hi = some h → m ≤ h := by
  unfold hiB
  cases x.hi with
  | none => simp
  | some l => simp
theorem mem_lo {B : Int} : ∀ (xs : List Sp) (l : Int), Chain B (some l) xs → ∀ m, memS xs m → l ≤ m
  | [], l, h, m, hm => h.elim
  | [x], l, h, m, ⟨y, hy, h1, _⟩ => by
    rw [List.mem_singleton] at hy
    subst hy
    exact (loB_iff _ _).mp h1 l h.1
  | x :: z :: xs, l, h, m, ⟨y, hy, h1, h2, h3⟩ => by
    obtain ⟨a, b, q, c, d, e, f⟩ := h
    rcases List.mem_cons.mp hy with rfl | hy
    · exact (loB_iff _ _).mp h1 l a
    · have := mem_lo (z :: xs) (q + 1) f m ⟨y, hy, h1, h2, h3⟩
      have := e l rfl
      omega
theorem has_mem {B : Int} : ∀ (xs : List Sp) (lo : Option Int), Chain B lo xs → ∀ m, hasS xs m = true ↔ memS xs m
  | [], lo, h, m => h.elim
  | [x], lo, h, m => by
    unfold hasS memS inS
    rw [hasO]
    by_cases q : (loB x m && hiB x m) = true
    · rw [if_pos q]
      rw [Bool.and_eq_true] at q
      simp [q]
    · rw [if_neg q]
      constructor
      · intro h; cases h
      · rintro ⟨y, hy, h1, h2, _⟩
        rw [List.mem_singleton] at hy
        subst hy
        rw [h1, h2] at q
        exact absurd rfl q
  | x :: z :: xs, lo, h, m => by
    obtain ⟨a, b, q, c, d, e, f⟩ := h
    have ih := has_mem (z :: xs) _ f m
    by_cases p : (loB x m && hiB x m) = true
    · have hx : hasS (x :: z :: xs) m = x.r.contains (m % x.s) := by unfold hasS; rw [hasO, if_pos p]; rfl
      rw [Bool.and_eq_true] at p
      rw [hx]
      constructor
      · intro h
        exact ⟨x, List.mem_cons_self .., p.1, p.2, by simpa using h⟩
      · rintro ⟨y, hy, h1, h2, h3⟩
        rcases List.mem_cons.mp hy with rfl | hy
        · simpa using h3
        · have g1 := mem_lo (z :: xs) (q + 1) f m ⟨y, hy, h1, h2, h3⟩
          have g2 := (hiB_iff _ _).mp p.2 q c
          omega
    · have hx : hasS (x :: z :: xs) m = hasS (z :: xs) m := by unfold hasS; rw [hasO, if_neg p]
      rw [hx, ih]
      constructor
      · rintro ⟨y, hy, h⟩
        exact ⟨y, List.mem_cons_of_mem _ hy, h⟩
      · rintro ⟨y, hy, h1, h2, h3⟩
        rcases List.mem_cons.mp hy with rfl | hy
        · rw [h1, h2] at p
          exact absurd rfl p
        · exact ⟨y, hy, h1, h2, h3⟩
/-- o is the least one of P from n on -/
def IsNext (P : Int → Prop) (n : Int) : Option Int → Prop
  | some m => n ≤ m ∧ P m ∧ ∀ j, n ≤ j → j < m → ¬ P j
  | none => ∀ j, n ≤ j → ¬ P j
theorem next_uniq {P : Int → Prop} {n : Int} : ∀ {o o' : Option Int}, IsNext P n o → IsNext P n o' → o = o'
  | none, none, _, _ => rfl
  | none, some m, h, h' => absurd h'.2.1 (h m h'.1)
  | some m, none, h, h' => absurd h.2.1 (h' m h.1)
  | some m, some m', h, h' => by
    have : m = m' := by
      rcases Int.lt_trichotomy m m' with q | q | q
      · exact absurd h.2.1 (h'.2.2 m h.1 q)
      · exact q
      · exact absurd h'.2.1 (h.2.2 m' h'.1 q)
    rw [this]
/-- next_of -/
def stepTo (x : Sp) (N : Int) : List Int := x.r.map fun one => N + (one - N) % x.s
def nx (x : Sp) (N : Int) : Option Int := match minI (stepTo x N) with
  | none => none
  | some m => if hiB x m then some m else none
theorem fld_mn : ∀ (l : List Int) (a : Int), (l.foldl (fun a b => if b < a then b else a) a ≤ a ∧ ∀ e ∈ l, l.foldl (fun a b => if b < a then b else a) a ≤ e) ∧ (l.foldl (fun a b => if b < a then b else a) a = a ∨ l.foldl (fun a b => if b < a then b else a) a ∈ l)
  | [], a => ⟨⟨Int.le_refl _, (fun _ h => by cases h)⟩, .inl rfl⟩
  | x :: l, a => by
    obtain ⟨⟨h1, h2⟩, h3⟩ := fld_mn l (if x < a then x else a)
    rw [List.foldl_cons]
    refine ⟨⟨?_, fun e he => ?_⟩, ?_⟩
    · split at h1 <;> split <;> omega
    · rcases List.mem_cons.mp he with rfl | he
      · split at h1 <;> split <;> omega
      · exact h2 e he
    · rcases h3 with h3 | h3
      · rw [h3]
        split
        · exact .inr (List.mem_cons_self ..)
        · exact .inl rfl
      · exact .inr (List.mem_cons_of_mem _ h3)
theorem fld_mx : ∀ (l : List Int) (a : Int), (a ≤ l.foldl (fun a b => if b > a then b else a) a ∧ ∀ e ∈ l, e ≤ l.foldl (fun a b => if b > a then b else a) a) ∧ (l.foldl (fun a b => if b > a then b else a) a = a ∨ l.foldl (fun a b => if b > a then b else a) a ∈ l)
  | [], a => ⟨⟨Int.le_refl _, (fun _ h => by cases h)⟩, .inl rfl⟩
  | x :: l, a => by
    obtain ⟨⟨h1, h2⟩, h3⟩ := fld_mx l (if x > a then x else a)
    rw [List.foldl_cons]
    refine ⟨⟨?_, fun e he => ?_⟩, ?_⟩
    · split at h1 <;> split <;> omega
    · rcases List.mem_cons.mp he with rfl | he
      · split at h1 <;> split <;> omega
      · exact h2 e he
    · rcases h3 with h3 | h3
      · rw [h3]
        split
        · exact .inr (List.mem_cons_self ..)
        · exact .inl rfl
      · exact .inr (List.mem_cons_of_mem _ h3)
theorem min_some {l : List Int} {m : Int} (h : minI l = some m) : m ∈ l ∧ ∀ e ∈ l, m ≤ e := by
  cases l with
  | nil => cases h
  | cons x l =>
    simp only [minI, Option.some.injEq] at h
    obtain ⟨⟨h1, h2⟩, h3⟩ := fld_mn l x
    rw [h] at h1 h2 h3
    refine ⟨?_, fun e he => ?_⟩
    · rcases h3 with h3 | h3
      · rw [h3]; exact List.mem_cons_self ..
      · exact List.mem_cons_of_mem _ h3
    · rcases List.mem_cons.mp he with rfl | he
      · exact h1
      · exact h2 e he
theorem max_some {l : List Int} {m : Int} (h : maxI l = some m) : m ∈ l ∧ ∀ e ∈ l, e ≤ m := by
  cases l with
  | nil => cases h
  | cons x l =>
    simp only [maxI, Option.some.injEq] at h
    obtain ⟨⟨h1, h2⟩, h3⟩ := fld_mx l x
    rw [h] at h1 h2 h3
    refine ⟨?_, fun e he => ?_⟩
    · rcases h3 with h3 | h3
      · rw [h3]; exact List.mem_cons_self ..
      · exact List.mem_cons_of_mem _ h3
    · rcases List.mem_cons.mp he with rfl | he
      · exact h1
      · exact h2 e he
theorem ediv_eq (a s : Int) : a % s + s * (a / s) = a := Int.emod_add_mul_ediv a s
theorem res_to {x : Sp} (h : Res x) (N one : Int) (h1 : one ∈ x.r) : N ≤ N + (one - N) % x.s ∧ (N + (one - N) % x.s) % x.s = one := by
  have s0 := h.s0
  have a := Int.emod_nonneg (one - N) (show x.s ≠ 0 by omega)
  obtain ⟨m1, m2⟩ := h.mem one h1
  refine ⟨by omega, ?_⟩
  have e := ediv_eq (one - N) x.s
  have e2 : N + (one - N) % x.s = one + x.s * (-((one - N) / x.s)) := by rw [Int.mul_neg]; omega
  rw [e2, Int.add_mul_emod_self_left]
  exact Int.emod_eq_of_lt m1 (by omega)
theorem res_le {s : Int} (s0 : 1 ≤ s) {N j : Int} (hj : N ≤ j) : N + (j % s - N) % s ≤ j := by
  have e := ediv_eq j s
  have e1 : j % s - N = (j - N) + s * (-(j / s)) := by rw [Int.mul_neg]; omega
  rw [e1, Int.add_mul_emod_self_left]
  have e2 := ediv_eq (j - N) s
  have q : 0 ≤ (j - N) / s := Int.ediv_nonneg (by omega) (by omega)
  have : 0 ≤ s * ((j - N) / s) := Int.mul_nonneg (by omega) q
  omega
theorem nxt_ok {x : Sp} (h : Res x) (N : Int) : (∀ m, nx x N = some m → N ≤ m ∧ m % x.s ∈ x.r ∧ hiB x m = true ∧ ∀ j, N ≤ j → j < m → j % x.s ∉ x.r) ∧ (nx x N = none → ∀ j, N ≤ j → hiB x j = true → j % x.s ∉ x.r) := by
  have low : ∀ m, minI (stepTo x N) = some m → N ≤ m ∧ m % x.s ∈ x.r ∧ ∀ j, N ≤ j → j % x.s ∈ x.r → m ≤ j := fun m hm => by
    obtain ⟨h1, h2⟩ := min_some hm
    obtain ⟨one, h3, rfl⟩ := List.mem_map.mp h1
    obtain ⟨g1, g2⟩ := res_to h N one h3
    refine ⟨g1, by rw [g2]; exact h3, fun j hj hr => ?_⟩
    have := h2 _ (List.mem_map.mpr ⟨_, hr, rfl⟩)
    have := res_le h.s0 hj
    omega
  unfold nx
  cases hm : minI (stepTo x N) with
  | none =>
    refine ⟨fun m h => (by cases h), fun _ j hj _ hr => ?_⟩
    have : stepTo x N = [] := by
      cases hs : stepTo x N with
      | nil => rfl
      | cons a l => rw [hs] at hm; cases hm
    have hr2 := List.mem_map_of_mem (f := fun one => N + (one - N) % x.s) hr
    rw [show x.r.map (fun one => N + (one - N) % x.s) = stepTo x N from rfl, this] at hr2
    cases hr2
  | some m0 =>
    obtain ⟨g1, g2, g3⟩ := low m0 hm
    dsimp only
    by_cases hh : hiB x m0 = true
    · rw [if_pos hh]
      refine ⟨fun m e => ?_, fun e => (by cases e)⟩
      cases e
      exact ⟨g1, g2, hh, fun j hj hl hr => by have := g3 j hj hr; omega⟩
    · rw [if_neg hh]
      refine ⟨fun m e => (by cases e), fun _ j hj hb hr => ?_⟩
      apply hh
      rw [hiB_iff] at hb ⊢
      intro q hq
      have := hb q hq
      have := g3 j hj hr
      omega
def startAt (x : Sp) (n : Int) : Int := match x.lo with
  | none => n
  | some l => if l > n then l else n
def nextL : List Sp → Int → Option Int
  | [], _ => none
  | x :: xs, n => if hiB x n then (match nx x (startAt x n) with | some m => some m | none => nextL xs n) else nextL xs n
theorem start_ok (x : Sp) (n : Int) : n ≤ startAt x n ∧ loB x (startAt x n) = true ∧ ∀ j, n ≤ j → loB x j = true → startAt x n ≤ j := by
  have key : ∀ lo : Option Int, x.lo = lo → n ≤ startAt x n ∧ loB x (startAt x n) = true ∧ ∀ j, n ≤ j → loB x j = true → startAt x n ≤ j := fun lo h => by
    unfold startAt loB
    rw [h]
    cases lo with
    | none => exact ⟨Int.le_refl _, rfl, fun j h _ => h⟩
    | some l =>
      dsimp only
      split
      · exact ⟨by omega, decide_eq_true (Int.le_refl _), fun j _ h => by simpa using h⟩
      · exact ⟨Int.le_refl _, decide_eq_true (by omega), fun j h _ => h⟩
  exact key x.lo rfl
theorem nextL_ok {B : Int} : ∀ (xs : List Sp) (lo : Option Int), Chain B lo xs → ∀ n, IsNext (memS xs) n (nextL xs n)
  | [], lo, h, n => h.elim
  | x :: xs, lo, hC, n => by
    -- what is behind the first span
    obtain ⟨hx, hrest, hlt⟩ : Res x ∧ IsNext (memS xs) n (nextL xs n) ∧ ∀ h, x.hi = some h → ∀ m, memS xs m → h < m := by
      cases xs with
      | nil =>
        obtain ⟨a, b, c⟩ := hC
        exact ⟨c, (fun j _ ⟨y, hy, _⟩ => by cases hy), fun h e => by rw [b] at e; cases e⟩
      | cons z xs =>
        obtain ⟨a, b, q, c, d, e, f⟩ := hC
        exact ⟨b, nextL_ok (z :: xs) _ f n, fun h e m hm => by rw [c] at e; cases e; have := mem_lo (z :: xs) (q + 1) f m hm; omega⟩
    have hnil : x.hi = none → xs = [] := fun e => by
      cases xs with
      | nil => rfl
      | cons z xs => obtain ⟨a, b, q, c, _⟩ := hC; rw [c] at e; cases e
    have skip : (∀ j, n ≤ j → ¬ inS x j) → nextL (x :: xs) n = nextL xs n → IsNext (memS (x :: xs)) n (nextL (x :: xs) n) := fun hj e => by
      rw [e]
      cases ho : nextL xs n with
      | none =>
        rw [ho] at hrest
        rintro j hn ⟨y, hy, hi⟩
        rcases List.mem_cons.mp hy with rfl | hy
        · exact hj j hn hi
        · exact hrest j hn ⟨y, hy, hi⟩
      | some m =>
        rw [ho] at hrest
        obtain ⟨r1, ⟨y, hy, hi⟩, r3⟩ := hrest
        refine ⟨r1, ⟨y, List.mem_cons_of_mem _ hy, hi⟩, ?_⟩
        rintro j hn hl ⟨y, hy, hi⟩
        rcases List.mem_cons.mp hy with rfl | hy
        · exact hj j hn hi
        · exact r3 j hn hl ⟨y, hy, hi⟩
    obtain ⟨t1, t2, t3⟩ := start_ok x n
    obtain ⟨u1, u2⟩ := nxt_ok hx (startAt x n)
    by_cases hh : hiB x n = true
    · cases hn : nx x (startAt x n) with
      | none =>
        refine skip (fun j hj ⟨a, b, c⟩ => u2 hn j (t3 j hj a) b c) ?_
        rw [nextL, if_pos hh, hn]
      | some m =>
        have e : nextL (x :: xs) n = some m := by rw [nextL, if_pos hh, hn]
        rw [e]
        obtain ⟨v1, v2, v3, v4⟩ := u1 m hn
        refine ⟨by omega, ⟨x, List.mem_cons_self .., (loB_iff x m).mpr fun l hl => ?_, v3, v2⟩, ?_⟩
        · have := (loB_iff x _).mp t2 l hl
          omega
        · rintro j hj hl ⟨y, hy, a, b, c⟩
          rcases List.mem_cons.mp hy with rfl | hy
          · exact v4 j (t3 j hj a) hl c
          · cases hq : x.hi with
            | none => rw [hnil hq] at hy; cases hy
            | some q =>
              have g1 := hlt q hq j ⟨y, hy, a, b, c⟩
              have g2 := (hiB_iff x m).mp v3 q hq
              omega
    · refine skip (fun j hj ⟨a, b, c⟩ => ?_) (by rw [nextL, if_neg hh])
      apply hh
      rw [hiB_iff] at b ⊢
      intro q hq
      have := b q hq
      omega
end Ev

set_option linter.all false
set_option maxRecDepth 100000
set_option maxHeartbeats 1000000
namespace Ev
open PySem PySem.Spec L2
theorem intsOf_ints : ∀ ns : List Int, intsOf (ns.map .int) = some ns
  | [] => rfl
  | n :: ns => by rw [List.map_cons, intsOf_cons, intsOf_ints ns]; rfl
@[simp] theorem bi_max2 (i j : Int) : biV .max [.int i, .int j] = some (.val (.int (if j > i then j else i))) := rfl
@[simp] theorem bi_min2 (i j : Int) : biV .min [.int i, .int j] = some (.val (.int (if j < i then j else i))) := rfl
theorem bi_maxL (ns : List Int) : biV .max [.lst (ns.map .int)] = (maxI ns).map fun i => .val (.int i) := by
  show (intsOf (ns.map .int)).bind _ = _
  rw [intsOf_ints]; rfl
theorem bi_minL (ns : List Int) : biV .min [.lst (ns.map .int)] = (minI ns).map fun i => .val (.int i) := by
  show (intsOf (ns.map .int)).bind _ = _
  rw [intsOf_ints]; rfl
theorem bi_sumL (ns : List Int) : biV .sum [.lst (ns.map .int)] = some (.val (.int ns.sum)) := by
  show (intsOf (ns.map .int)).map _ = _
  rw [intsOf_ints]; rfl
abbrev elt10 : M RE := (xBin .Add (rdSlot 1) (xBin .Mod (xBin .Sub (rdSlot 4) (rdSlot 1)) (xSub (rdSlot 0) (ret (.val (.int (2)))))))
def hiO (hi : Option Int) (m : Int) : Bool := match hi with
  | none => true
  | some h => decide (m ≤ h)
section
variable {Φ : Orc} {V A B S R o1 o2 : PV} {n m s : Int} {r zs : List Int} {st : List Cell} {a b x3 : Sl} {hi : Option Int}
theorem r10n : finO (m10 Φ ⟨[.val (.tup [A, B, S, .tup []]), .val (.int n), .none, .none, .none], st⟩) = .ok (.val .non) st := by
  have e : eqPV (.tup []) (.tup []) = some true := eq_intsT [] []
  unfold m10
  simp [e]
theorem r10 (h : r ≠ []) (c1 : compGo [3, 4] (setSlot 4) (ret true) elt10 true (r.map .int) ⟨[.val (.tup [A, ov hi, .int s, .tup (r.map .int)]), .val (.int n), .none, .none, .none], st⟩ = .ok (zs.map .int) ⟨[.val (.tup [A, ov hi, .int s, .tup (r.map .int)]), .val (.int n), .none, a, b], st⟩) (hm : minI zs = some m) (hl : zs.length ≤ 12) :
    finO (m10 Φ ⟨[.val (.tup [A, ov hi, .int s, .tup (r.map .int)]), .val (.int n), .none, .none, .none], st⟩) = .ok (.val (ov (if hiO hi m then some m else none))) st := by
  have e : eqPV (.tup (r.map .int)) (.tup []) = some (decide (r = [])) := eq_intsT r []
  rw [decide_eq_false h] at e
  have e2 := bi_minL zs
  rw [hm] at e2
  have hz : (zs.map PV.int).length ≤ 16777216 := by rw [List.length_map]; omega
  generalize r.map PV.int = R at *
  generalize zs.map PV.int = Z at *
  unfold m10 hiO
  cases hi with
  | none => simp [ov] at c1; simp [e, e2, c1, hz, ov]
  | some h =>
    simp [ov] at c1
    by_cases q : m ≤ h <;> simp [e, e2, c1, hz, ov, q]
theorem e10r {one : Int} (hs : 0 < s) : oneM (setSlot 4) (ret true) elt10 (.int one) ⟨[.val (.tup [A, B, .int s, R]), .val (.int n), .none, .none, .none], st⟩ = .ok (.int (n + (one - n) % s)) ⟨[.val (.tup [A, B, .int s, R]), .val (.int n), .none, .none, .val (.int one)], st⟩ := by
  have h0 : s ≠ 0 := by omega
  have e := Int.fmod_eq_emod_of_nonneg (one - n) (Int.le_of_lt hs)
  simp [h0, e]
end
/-- next_of -/
theorem f10 (k : Nat) {x : Sp} (h : Res x) (n : Int) (st : List Cell) : evP TT (k + 1) 10 [spv x, .int n] st = .ok (.val (ov (nx x n))) st := by
  obtain ⟨lo, hi, s, r⟩ := x
  have hs : 0 < s := h.s0
  have hl : r.length ≤ 12 := h.len
  rw [p10]
  unfold spv
  dsimp only
  by_cases hr : r = []
  · subst hr
    exact r10n
  · obtain ⟨s', c1, c2, a, b, c3⟩ := compGo_f (own := [3, 4]) (tgt := setSlot 4) (tst := ret true) (elt := elt10)
      (I := fun t => t.st = st ∧ ∃ a b, t.env = [.val (.tup [ov lo, ov hi, .int s, .tup (r.map .int)]), .val (.int n), .none, a, b]) (f := .int) (g := fun one => .int (n + (one - n) % s)) r (fun u hu t ⟨h1, a, b, h2⟩ => by
        obtain ⟨env, st'⟩ := t
        cases h1; cases h2
        exact ⟨_, e10r hs, rfl, _, _, rfl⟩) ⟨[.val (.tup [ov lo, ov hi, .int s, .tup (r.map .int)]), .val (.int n), .none, .none, .none], st⟩ ⟨rfl, _, _, rfl⟩
    obtain ⟨env, st'⟩ := s'
    cases c2; cases c3
    have hz : (r.map fun one => PV.int (n + (one - n) % s)) = (r.map fun one => n + (one - n) % s).map .int := by rw [List.map_map]; rfl
    rw [hz] at c1
    have q : nx ⟨lo, hi, s, r⟩ n = match minI (r.map fun one => n + (one - n) % s) with
      | none => none
      | some m => if hiO hi m then some m else none := rfl
    rw [q]
    cases hm : minI (r.map fun one => n + (one - n) % s) with
    | none =>
      cases r with
      | nil => exact absurd rfl hr
      | cons y r => cases hm
    | some m => exact r10 hr c1 hm (by rw [List.length_map]; exact hl)
/-! ### next_in -/
def resO : Option Int → Fl
  | some m => .rt (.val (.int m))
  | none => .nx
def body15 (Φ : Orc) : M Fl := (seqB [(sIf (tBool .Or [(bnd (xCmp .Is (xSub (rdSlot 2) (ret (.val (.int (1))))) (ret (.val .non))) asBool), (bnd (xCmp .LtE (rdSlot 1) (xSub (rdSlot 2) (ret (.val (.int (1)))))) asBool)]) (seqB [(sSet 3 false (xCall Φ 10 [(rdSlot 2), (xIf (bnd (xCmp .Is (xSub (rdSlot 2) (ret (.val (.int (0))))) (ret (.val .non))) asBool) (rdSlot 1) (xBi .max [(rdSlot 1), (xSub (rdSlot 2) (ret (.val (.int (0)))))]))])),
    (sIf (bnd (xCmp .IsNot (rdSlot 3) (ret (.val .non))) asBool) (seqB [(sRet (rdSlot 3))]) (seqB []))]) (seqB []))])
def loop15 (Φ : Orc) : M Fl := seqB [sFor (setSlot 2) (body15 Φ) (iOf (rdSlot 0)), (sRet (ret (.val .non)))]
theorem m15_eq (Φ : Orc) : m15 Φ = seqB [sEx (xCall Φ 6 [(rdSlot 0)]), sEx (xCall Φ 7 [(rdSlot 1)]), sFor (setSlot 2) (body15 Φ) (iOf (rdSlot 0)), (sRet (ret (.val .non)))] := rfl
section
variable {Φ : Orc} {V : PV} {n : Int} {st : List Cell} {y3 : Sl} {o : Option Int}
theorem b15n {x : Sp} (h : hiB x n = false) : body15 Φ ⟨[.val V, .val (.int n), .val (spv x), y3], st⟩ = .ok .nx ⟨[.val V, .val (.int n), .val (spv x), y3], st⟩ := by
  obtain ⟨lo, hi, s, r⟩ := x
  unfold hiB at h
  unfold body15 spv
  cases hi with
  | none => cases h
  | some q =>
    have h' : ¬ n ≤ q := by simpa using h
    simp [ov, h']
theorem b15y {x : Sp} (h : hiB x n = true) (g : Φ 10 [spv x, .int (startAt x n)] st = .ok (.val (ov o)) st) : body15 Φ ⟨[.val V, .val (.int n), .val (spv x), y3], st⟩ = .ok (resO o) ⟨[.val V, .val (.int n), .val (spv x), .val (ov o)], st⟩ := by
  obtain ⟨lo, hi, s, r⟩ := x
  unfold hiB at h
  unfold startAt at g
  unfold body15 resO
  unfold spv at g ⊢
  dsimp only at g
  generalize PL r = R at g ⊢
  cases hi with
  | none =>
    cases lo with
    | none => cases o <;> simp [ov] at g <;> simp [ov, g]
    | some l => by_cases q : n < l <;> cases o <;> simp [ov, q] at g <;> simp [ov, g, q]
  | some p =>
    have h' : n ≤ p := by simpa using h
    cases lo with
    | none => cases o <;> simp [ov] at g <;> simp [ov, g, h']
    | some l => by_cases q : n < l <;> cases o <;> simp [ov, q] at g <;> simp [ov, g, q, h']
end
theorem loop15_ok {Φ : Orc} {st : List Cell} (V : PV) (n : Int) : ∀ (xs : List Sp) (y2 y3 : Sl), (∀ x ∈ xs, Φ 10 [spv x, .int (startAt x n)] st = .ok (.val (ov (nx x (startAt x n)))) st) → ∃ z2 z3, forM (setSlot 2) (body15 Φ) (xs.map spv) ⟨[.val V, .val (.int n), y2, y3], st⟩ = .ok (resO (nextL xs n)) ⟨[.val V, .val (.int n), z2, z3], st⟩
  | [], y2, y3, _ => ⟨y2, y3, rfl⟩
  | x :: xs, y2, y3, h => by
    have ih := fun z2 z3 => loop15_ok V n xs z2 z3 fun y hy => h y (List.mem_cons_of_mem _ hy)
    have a1 : setSlot 2 (spv x) ⟨[.val V, .val (.int n), y2, y3], st⟩ = .ok () ⟨[.val V, .val (.int n), .val (spv x), y3], st⟩ := by simp
    rw [List.map_cons, forM_cons, a1, bind_ok, bnd_run, nextL]
    by_cases q : hiB x n = true
    · rw [b15y q (h x (List.mem_cons_self ..)), bind_ok, if_pos q]
      cases nx x (startAt x n) with
      | none =>
        exact ih _ _
      | some m => exact ⟨_, _, rfl⟩
    · rw [Bool.not_eq_true] at q
      rw [b15n q, bind_ok, q, if_neg (by decide), forK_nx]
      exact ih _ _
theorem r15 {Φ : Orc} {V : PV} {xs : List PV} {n : Int} {st : List Cell} {o : Option Int} {z2 z3 : Sl} (hV : V = .tup xs) (h6 : Φ 6 [V] st = .ok (.val .non) st) (h7 : Φ 7 [.int n] st = .ok (.val .non) st)
    (hl : forM (setSlot 2) (body15 Φ) xs ⟨[.val V, .val (.int n), .none, .none], st⟩ = .ok (resO o) ⟨[.val V, .val (.int n), z2, z3], st⟩) : finO (m15 Φ ⟨[.val V, .val (.int n), .none, .none], st⟩) = .ok (.val (ov o)) st := by
  subst hV
  rw [m15_eq]
  cases o with
  | none => unfold resO at hl; simp [h6, h7, hl, ov]
  | some m => unfold resO at hl; simp [h6, h7, hl, ov]
theorem f15 (k : Nat) {xs : List Sp} (h : RowV xs) {n : Int} (hn : -1000000000 ≤ n ∧ n ≤ 1000000000) (st : List Cell) : evP TT (k + 7) 15 [.tup (xs.map spv), .int n] st = .ok (.val (ov (nextL xs n))) st := by
  rw [p15]
  obtain ⟨z2, z3, e⟩ := loop15_ok (Φ := evP TT (k + 6)) (st := st) (.tup (xs.map spv)) n xs .none .none fun x hx => f10 (k + 5) (res_pos h x hx) _ st
  exact r15 rfl (f6 k h st) (f7 (k + 4) hn st) e
end Ev

set_option linter.all false
set_option maxRecDepth 100000
set_option maxHeartbeats 1000000
namespace Ev
open PySem PySem.Spec L2
/-! ### the law's ends -/
def endsL (xs : List Sp) : List Int := 0 :: xs.dropLast.map fun x => x.hi.getD 0
theorem init_hi {B : Int} : ∀ (xs : List Sp) (lo : Option Int), Chain B lo xs → ∀ x ∈ xs.dropLast, ∃ h, x.hi = some h ∧ -B ≤ h ∧ h ≤ B
  | [], lo, h, x, hx => h.elim
  | [y], lo, h, x, hx => by cases hx
  | y :: z :: xs, lo, h, x, hx => by
    obtain ⟨a, b, q, c, d, e, f⟩ := h
    rw [List.dropLast_cons₂] at hx
    rcases List.mem_cons.mp hx with rfl | hx
    · exact ⟨q, c, d⟩
    · exact init_hi (z :: xs) _ f x hx
theorem tail_ok {B : Int} : ∀ (xs : List Sp) (lo : Option Int), Chain B lo xs → ∃ x, x ∈ xs ∧ Res x ∧ xs.getLast? = some x ∧ ∀ j, (∀ l, lo = some l → l ≤ j) → (∀ y ∈ xs.dropLast, ∀ h, y.hi = some h → h < j) → hasO xs j = some (x.r.contains (j % x.s))
  | [], lo, h => h.elim
  | [x], lo, h => by
    obtain ⟨a, b, c⟩ := h
    refine ⟨x, List.mem_cons_self .., c, rfl, fun j hl _ => ?_⟩
    have e1 : hiB x j = true := (hiB_iff _ _).mpr fun h e => by rw [b] at e; cases e
    have e2 : loB x j = true := (loB_iff _ _).mpr fun l e => hl l (by rw [← a]; exact e)
    rw [hasO, e1, e2]
    rfl
  | x :: y :: xs, lo, h => by
    obtain ⟨a, b, q, c, d, e, f⟩ := h
    obtain ⟨z, z1, z2, z3, z4⟩ := tail_ok (y :: xs) _ f
    refine ⟨z, List.mem_cons_of_mem _ z1, z2, by rw [List.getLast?_cons_cons]; exact z3, fun j hl hh => ?_⟩
    rw [List.dropLast_cons₂] at hh
    have hq := hh x (List.mem_cons_self ..) q c
    have e1 : hiB x j = false := by
      rw [← Bool.not_eq_true, hiB_iff]
      intro g
      have := g q c
      omega
    rw [hasO, e1, Bool.and_false, if_neg (by decide)]
    exact z4 j (fun l hl => by cases hl; omega) fun w hw => hh w (List.mem_cons_of_mem _ hw)
theorem head_ok {B : Int} {xs : List Sp} (h : Chain B none xs) : ∃ x rest, xs = x :: rest ∧ Res x ∧ x.lo = none ∧ (∀ p, x.hi = some p → rest ≠ [] ∧ ∃ w ∈ xs.dropLast, w.hi = some p) ∧ ∀ j, (∀ p, x.hi = some p → j ≤ p) → hasO xs j = some (x.r.contains (j % x.s)) := by
  have key : ∀ (x : Sp) rest, x.lo = none → ∀ j, (∀ p, x.hi = some p → j ≤ p) → hasO (x :: rest) j = some (x.r.contains (j % x.s)) := fun x rest hx j hj => by
    have e1 : hiB x j = true := (hiB_iff _ _).mpr hj
    have e2 : loB x j = true := (loB_iff _ _).mpr fun l e => by rw [hx] at e; cases e
    rw [hasO, e1, e2]
    rfl
  cases xs with
  | nil => exact h.elim
  | cons x rest =>
    cases rest with
    | nil =>
      obtain ⟨a, b, c⟩ := h
      exact ⟨x, [], rfl, c, a, fun p e => (by rw [b] at e; cases e), key x [] a⟩
    | cons y xs =>
      obtain ⟨a, b, q, c, d, e, f⟩ := h
      refine ⟨x, y :: xs, rfl, b, a, fun p e => ⟨(by simp), x, ?_, e⟩, key x _ a⟩
      rw [List.dropLast_cons₂]
      exact List.mem_cons_self ..
abbrev elt23 : M RE := (xSub (rdSlot 2) (ret (.val (.int (1)))))
theorem r23 {Φ : Orc} {vs zs : List PV} {st : List Cell} {a b : Sl} (c1 : compGo [1, 2] (setSlot 2) (ret true) elt23 true vs.dropLast ⟨[.val (.tup vs), .none, .none], st⟩ = .ok zs ⟨[.val (.tup vs), a, b], st⟩) (hl : zs.length ≤ 1000) : finO (m23 Φ ⟨[.val (.tup vs), .none, .none], st⟩) = .ok (.fresh (.lst (.int 0 :: zs))) st := by
  have h1 : zs.length ≤ 16777216 := by omega
  have h2 : 1 + zs.length ≤ 16777216 := by omega
  unfold m23
  simp [cut_init, c1, h1, h2]
theorem f23 (k : Nat) {xs : List Sp} (h : RowV xs) (st : List Cell) : evP TT (k + 1) 23 [.tup (xs.map spv)] st = .ok (.fresh (.lst ((endsL xs).map .int))) st := by
  rw [p23]
  obtain ⟨s', c1, c2, a, b, c3⟩ := compGo_f (own := [1, 2]) (tgt := setSlot 2) (tst := ret true) (elt := elt23)
    (I := fun t => t.st = st ∧ ∃ a b, t.env = [.val (.tup (xs.map spv)), a, b]) (f := spv) (g := fun x => ov x.hi) xs.dropLast (fun u hu t ⟨h1, a, b, h2⟩ => by
      obtain ⟨env, st'⟩ := t
      cases h1; cases h2
      generalize PV.tup (xs.map spv) = V
      obtain ⟨lo, hi, s, r⟩ := u
      refine ⟨⟨[.val V, .none, .val (spv ⟨lo, hi, s, r⟩)], st'⟩, ?_, rfl, _, _, rfl⟩
      unfold spv
      simp) ⟨[.val (.tup (xs.map spv)), .none, .none], st⟩ ⟨rfl, _, _, rfl⟩
  obtain ⟨env, st'⟩ := s'
  cases c2; cases c3
  have hz : (xs.dropLast.map fun x => ov x.hi) = (xs.dropLast.map fun x => x.hi.getD 0).map .int := by
    rw [List.map_map]
    refine List.map_congr_left fun x hx => ?_
    obtain ⟨q, hq, _⟩ := init_hi xs none h.1 x hx
    show ov x.hi = .int (x.hi.getD 0)
    rw [hq]
    rfl
  rw [List.map_dropLast, hz] at c1
  have := h.2
  exact r23 c1 (by rw [List.length_map, List.length_map, List.length_dropLast]; omega)
/-! ### the first of a range -/
theorem first_rng (c : Int → Bool) (N : Nat) : match ((List.range N).map fun (k : Nat) => (k : Int)).filter c with
    | [] => ∀ t : Int, 0 ≤ t → t < N → c t = false
    | t0 :: _ => 0 ≤ t0 ∧ t0 < N ∧ c t0 = true ∧ ∀ t : Int, 0 ≤ t → t < t0 → c t = false := by
  have mem : ∀ t : Int, 0 ≤ t → t < N → c t = true → t ∈ ((List.range N).map fun (k : Nat) => (k : Int)).filter c := fun t h0 h1 hc => by
    rw [List.mem_filter]
    refine ⟨List.mem_map.mpr ⟨t.toNat, List.mem_range.mpr (by omega), by omega⟩, hc⟩
  have pw : (((List.range N).map fun (k : Nat) => (k : Int)).filter c).Pairwise (· < ·) := by
    refine List.Pairwise.filter _ ?_
    rw [List.pairwise_map]
    exact List.pairwise_lt_range.imp fun h => by omega
  have sub : ∀ t ∈ ((List.range N).map fun (k : Nat) => (k : Int)).filter c, (0 ≤ t ∧ t < N) ∧ c t = true := fun t ht => by
    rw [List.mem_filter] at ht
    obtain ⟨h1, h2⟩ := ht
    obtain ⟨j, hj, rfl⟩ := List.mem_map.mp h1
    have := List.mem_range.mp hj
    exact ⟨⟨by omega, by omega⟩, h2⟩
  generalize ((List.range N).map fun (k : Nat) => (k : Int)).filter c = l at *
  cases l with
  | nil =>
    intro t h0 h1
    cases hc : c t with
    | false => rfl
    | true => have := mem t h0 h1 hc; cases this
  | cons t0 l =>
    obtain ⟨⟨h0, h1⟩, h2⟩ := sub t0 (List.mem_cons_self ..)
    refine ⟨h0, h1, h2, fun t g0 g1 => ?_⟩
    cases hc : c t with
    | false => rfl
    | true =>
      rcases List.mem_cons.mp (mem t g0 (by omega) hc) with e | e
      · omega
      · have := (List.pairwise_cons.mp pw).1 t e
        omega
/-! ### the law's next one -/
def rngN (N : Nat) : List Int := (List.range N).map fun (k : Nat) => (k : Int)
def lawNext (c : Int → Bool) (n M m : Int) : Option Int := match (rngN 14).filter (fun t => c (n + t)) with
  | t :: _ => some (n + t)
  | [] => if M < n then none else match (rngN (M - (if m - 13 > n then m - 13 else n) + 14).toNat).filter (fun t => c ((if m - 13 > n then m - 13 else n) + t)) with
    | t :: _ => some ((if m - 13 > n then m - 13 else n) + t)
    | [] => none
theorem lawNext_ok {c : Int → Bool} {n M m s s' : Int} {r r' : List Int} (hm : m ≤ M) (s0 : 1 ≤ s) (s1 : s ≤ 12) (s0' : 1 ≤ s') (s1' : s' ≤ 12) (hhead : ∀ j, j ≤ m → c j = r.contains (j % s)) (htail : ∀ j, M < j → c j = r'.contains (j % s')) : IsNext (fun j => c j = true) n (lawNext c n M m) := by
  have turn : ∀ (a j s : Int), 1 ≤ s → s ≤ 12 → a ≤ j → a ≤ a + (j - a) % s ∧ a + (j - a) % s < a + 12 ∧ a + (j - a) % s ≤ j ∧ (a + (j - a) % s) % s = j % s := fun a j s h0 h1 hj => by
    have g1 := Int.emod_nonneg (j - a) (show s ≠ 0 by omega)
    have g2 := Int.emod_lt_of_pos (j - a) (show 0 < s by omega)
    have e := ediv_eq (j - a) s
    have q : 0 ≤ (j - a) / s := Int.ediv_nonneg (by omega) (by omega)
    have q2 : 0 ≤ s * ((j - a) / s) := Int.mul_nonneg (by omega) q
    refine ⟨by omega, by omega, by omega, ?_⟩
    have e2 : a + (j - a) % s = j + s * (-((j - a) / s)) := by rw [Int.mul_neg]; omega
    rw [e2, Int.add_mul_emod_self_left]
  unfold lawNext
  have f1 := first_rng (fun t => c (n + t)) 14
  change match (rngN 14).filter (fun t => c (n + t)) with
    | [] => ∀ t : Int, 0 ≤ t → t < (14 : Nat) → c (n + t) = false
    | t0 :: _ => 0 ≤ t0 ∧ t0 < (14 : Nat) ∧ c (n + t0) = true ∧ ∀ t : Int, 0 ≤ t → t < t0 → c (n + t) = false at f1
  generalize (rngN 14).filter (fun t => c (n + t)) = l at f1 ⊢
  cases l with
  | cons t0 l =>
    obtain ⟨h0, h1, h2, h3⟩ := f1
    refine ⟨by omega, h2, fun j hj hl => ?_⟩
    have := h3 (j - n) (by omega) (by omega)
    rw [show n + (j - n) = j by omega] at this
    show ¬ c j = true
    rw [this]
    decide
  | nil =>
    dsimp only at f1 ⊢
    have near : ∀ j, n ≤ j → j < n + 14 → c j = false := fun j hj hl => by
      have := f1 (j - n) (by omega) (by omega)
      rwa [show n + (j - n) = j by omega] at this
    by_cases hM : M < n
    · rw [if_pos hM]
      intro j hj hc
      obtain ⟨g1, g2, g3, g4⟩ := turn n j s' s0' s1' hj
      have e1 := near _ g1 (by omega)
      rw [htail _ (by omega), g4, ← htail j (by omega)] at e1
      rw [e1] at hc
      cases hc
    · rw [if_neg hM]
      have hb : n ≤ (if m - 13 > n then m - 13 else n) ∧ (if m - 13 > n then m - 13 else n) ≤ M ∧ ∀ j, n ≤ j → j < (if m - 13 > n then m - 13 else n) → c j = false := by
        split
        · refine ⟨by omega, by omega, fun j hj hl => ?_⟩
          obtain ⟨g1, g2, g3, g4⟩ := turn n j s s0 s1 hj
          have e1 := near _ g1 (by omega)
          rw [hhead _ (by omega), g4, ← hhead j (by omega)] at e1
          exact e1
        · exact ⟨by omega, by omega, fun j h h' => by omega⟩
      generalize (if m - 13 > n then m - 13 else n) = b at hb ⊢
      obtain ⟨b1, b2, b3⟩ := hb
      have f2 := first_rng (fun t => c (b + t)) (M - b + 14).toNat
      change match (rngN (M - b + 14).toNat).filter (fun t => c (b + t)) with
        | [] => ∀ t : Int, 0 ≤ t → t < ((M - b + 14).toNat : Int) → c (b + t) = false
        | t0 :: _ => 0 ≤ t0 ∧ t0 < ((M - b + 14).toNat : Int) ∧ c (b + t0) = true ∧ ∀ t : Int, 0 ≤ t → t < t0 → c (b + t) = false at f2
      generalize (rngN (M - b + 14).toNat).filter (fun t => c (b + t)) = l at f2 ⊢
      cases l with
      | cons t0 l =>
        obtain ⟨h0, h1, h2, h3⟩ := f2
        refine ⟨by omega, h2, fun j hj hl => ?_⟩
        by_cases hjb : j < b
        · show ¬ c j = true
          rw [b3 j hj hjb]; decide
        · have := h3 (j - b) (by omega) (by omega)
          rw [show b + (j - b) = j by omega] at this
          show ¬ c j = true
          rw [this]
          decide
      | nil =>
        dsimp only at f2 ⊢
        have far : ∀ j, b ≤ j → j ≤ M + 13 → c j = false := fun j hj hl => by
          have := f2 (j - b) (by omega) (by omega)
          rwa [show b + (j - b) = j by omega] at this
        intro j hj hc
        have : c j = false := by
          by_cases hjb : j < b
          · exact b3 j hj hjb
          · by_cases hjM : j ≤ M + 13
            · exact far j (by omega) hjM
            · obtain ⟨g1, g2, g3, g4⟩ := turn (M + 1) j s' s0' s1' (by omega)
              have e1 := far (M + 1 + (j - (M + 1)) % s') (by omega) (by omega)
              rw [htail _ (by omega), g4, ← htail j (by omega)] at e1
              exact e1
        rw [this] at hc
        cases hc
end Ev

set_option linter.all false
set_option maxRecDepth 100000
set_option maxHeartbeats 1000000
namespace Ev
open PySem PySem.Spec L2
def ls1 (Φ : Orc) : M Fl := (sSet 3 false (xComp [5, 2] (setSlot 2) (bnd (xCall Φ 22 [(rdSlot 0), (xBin .Add (rdSlot 1) (rdSlot 2))]) truM) (xBin .Add (rdSlot 1) (rdSlot 2)) (iRng1 (ret (.val (.int (14)))))))
def ls2 (Φ : Orc) : M Fl := (sIf (tBool .Or [(bnd (xCmp .NotEq (rdSlot 3) (xLst [])) asBool), (bnd (xCmp .Gt (rdSlot 1) (xBi .max [(xCall Φ 23 [(rdSlot 0)])])) asBool)]) (seqB [(sRet (xIf (bnd (xCmp .NotEq (rdSlot 3) (xLst [])) asBool) (xSub (rdSlot 3) (ret (.val (.int (0))))) (ret (.val .non))))]) (seqB []))
def ls3 (Φ : Orc) : M Fl := (sSet 4 false (xBi .max [(rdSlot 1), (xBin .Sub (xBi .min [(xCall Φ 23 [(rdSlot 0)])]) (ret (.val (.int (13)))))]))
def lb4 (Φ : Orc) : M Fl := (seqB [(sIf (bnd (xCall Φ 22 [(rdSlot 0), (xBin .Add (rdSlot 4) (rdSlot 2))]) truM) (seqB [(sRet (xBin .Add (rdSlot 4) (rdSlot 2)))]) (seqB []))])
def lit4 (Φ : Orc) : M (List PV) := (iRng1 (xBin .Add (xBin .Sub (xBi .max [(xCall Φ 23 [(rdSlot 0)])]) (rdSlot 4)) (ret (.val (.int (14))))))
theorem m26_eq (Φ : Orc) : m26 Φ = seqB [ls1 Φ, ls2 Φ, ls3 Φ, sFor (setSlot 2) (lb4 Φ) (lit4 Φ), (sRet (ret (.val .non)))] := rfl
abbrev tst26 (Φ : Orc) : M Bool := (bnd (xCall Φ 22 [(rdSlot 0), (xBin .Add (rdSlot 1) (rdSlot 2))]) truM)
abbrev elt26 : M RE := (xBin .Add (rdSlot 1) (rdSlot 2))
section
variable {Φ : Orc} {V Z : PV} {n m mx t b0 : Int} {st : List Cell} {zs es rs : List PV} {a b x2 x3 x4 x5 : Sl} {q : Bool}
theorem ls1r (c1 : compGo [5, 2] (setSlot 2) (tst26 Φ) elt26 true (rngP 0 14) ⟨[.val V, .val (.int n), .none, .none, .none, .none], st⟩ = .ok zs ⟨[.val V, .val (.int n), a, .none, .none, b], st⟩) (hl : zs.length ≤ 16777216) :
    ls1 Φ ⟨[.val V, .val (.int n), .none, .none, .none, .none], st⟩ = .ok .nx ⟨[.val V, .val (.int n), .none, .own (.lst zs), .none, .none], st⟩ := by
  unfold ls1
  simp [c1, hl]
theorem ls2y (e : eqPV (.lst (Z :: zs)) (.lst []) = some false) : ls2 Φ ⟨[.val V, .val (.int n), .none, .own (.lst (Z :: zs)), .none, .none], st⟩ = .ok (.rt (.val Z)) ⟨[.val V, .val (.int n), .none, .own (.lst (Z :: zs)), .none, .none], st⟩ := by
  unfold ls2
  simp [e]
theorem ls2n (h : Φ 23 [V] st = .ok (.fresh (.lst es)) st) (hm : biV .max [.lst es] = some (.val (.int mx))) (hn : mx < n) : ls2 Φ ⟨[.val V, .val (.int n), .none, .own (.lst []), .none, .none], st⟩ = .ok (.rt (.val .non)) ⟨[.val V, .val (.int n), .none, .own (.lst []), .none, .none], st⟩ := by
  have e : eqPV (.lst []) (.lst []) = some true := eq_intsL [] []
  unfold ls2
  simp [e, h, hm, hn]
theorem ls2g (h : Φ 23 [V] st = .ok (.fresh (.lst es)) st) (hm : biV .max [.lst es] = some (.val (.int mx))) (hn : ¬ mx < n) : ls2 Φ ⟨[.val V, .val (.int n), .none, .own (.lst []), .none, .none], st⟩ = .ok .nx ⟨[.val V, .val (.int n), .none, .own (.lst []), .none, .none], st⟩ := by
  have e : eqPV (.lst []) (.lst []) = some true := eq_intsL [] []
  unfold ls2
  simp [e, h, hm, hn]
theorem ls3r (h : Φ 23 [V] st = .ok (.fresh (.lst es)) st) (hm : biV .min [.lst es] = some (.val (.int m))) : ls3 Φ ⟨[.val V, .val (.int n), .none, .own (.lst []), .none, .none], st⟩ = .ok .nx ⟨[.val V, .val (.int n), .none, .own (.lst []), .val (.int (if m - 13 > n then m - 13 else n)), .none], st⟩ := by
  unfold ls3
  by_cases q : m - 13 > n
  · have q' : n < m - 13 := q
    simp [h, hm, q']
  · have q' : ¬ n < m - 13 := q
    simp [h, hm, q']
theorem lit4r (h : Φ 23 [V] st = .ok (.fresh (.lst es)) st) (hm : biV .max [.lst es] = some (.val (.int mx))) (hr : rngOk (mx - b0 + 14) = true) : lit4 Φ ⟨[.val V, .val (.int n), .none, .own (.lst []), .val (.int b0), .none], st⟩ = .ok (rngP 0 (mx - b0 + 14)) ⟨[.val V, .val (.int n), .none, .own (.lst []), .val (.int b0), .none], st⟩ := by
  unfold lit4
  simp [h, hm, hr]
theorem lb4r (h : Φ 22 [V, .int (b0 + t)] st = .ok (.val (.bl q)) st) : lb4 Φ ⟨[.val V, .val (.int n), .val (.int t), x3, .val (.int b0), x5], st⟩ = .ok (if q then .rt (.val (.int (b0 + t))) else .nx) ⟨[.val V, .val (.int n), .val (.int t), x3, .val (.int b0), x5], st⟩ := by
  unfold lb4
  cases q <;> simp [h]
theorem t26r (h : Φ 22 [V, .int (n + t)] st = .ok (.val (.bl q)) st) : tst26 Φ ⟨[.val V, .val (.int n), .val (.int t), .none, .none, .none], st⟩ = .ok q ⟨[.val V, .val (.int n), .val (.int t), .none, .none, .none], st⟩ := by
  cases q <;> simp [h]
end
theorem loop26 {Φ : Orc} {V : PV} {n b0 : Int} {st : List Cell} {c : Int → Bool} (h : ∀ j, Φ 22 [V, .int j] st = .ok (.val (.bl (c j))) st) (x3 x5 : Sl) : ∀ (ts : List Int) (x2 : Sl), ∃ z2, forM (setSlot 2) (lb4 Φ) (ts.map .int) ⟨[.val V, .val (.int n), x2, x3, .val (.int b0), x5], st⟩ = .ok (match ts.filter (fun t => c (b0 + t)) with | t :: _ => .rt (.val (.int (b0 + t))) | [] => .nx) ⟨[.val V, .val (.int n), z2, x3, .val (.int b0), x5], st⟩
  | [], x2 => ⟨x2, rfl⟩
  | t :: ts, x2 => by
    have a1 : setSlot 2 (.int t) ⟨[.val V, .val (.int n), x2, x3, .val (.int b0), x5], st⟩ = .ok () ⟨[.val V, .val (.int n), .val (.int t), x3, .val (.int b0), x5], st⟩ := by simp
    rw [List.map_cons, forM_cons, a1, bind_ok, bnd_run, lb4r (h _), bind_ok]
    cases hc : c (b0 + t) with
    | true =>
      rw [if_pos rfl, List.filter_cons_of_pos (p := fun t => c (b0 + t)) hc]
      exact ⟨_, rfl⟩
    | false =>
      rw [if_neg (by decide), forK_nx, List.filter_cons_of_neg (p := fun t => c (b0 + t)) (by rw [hc]; decide)]
      exact loop26 h x3 x5 ts _
theorem rngP_N (s : Int) : rngP 0 s = (rngN s.toNat).map .int := rng_ints s
theorem run26 {Φ : Orc} {V : PV} {n M m : Int} {st : List Cell} {es : List PV} {c : Int → Bool} (h : ∀ j, Φ 22 [V, .int j] st = .ok (.val (.bl (c j))) st) (h23 : Φ 23 [V] st = .ok (.fresh (.lst es)) st) (hM : biV .max [.lst es] = some (.val (.int M))) (hm : biV .min [.lst es] = some (.val (.int m)))
    (hr : rngOk (M - (if m - 13 > n then m - 13 else n) + 14) = true) : finO (m26 Φ ⟨[.val V, .val (.int n), .none, .none, .none, .none], st⟩) = .ok (.val (ov (lawNext c n M m))) st := by
  obtain ⟨s', c1, c2, a, b, c3⟩ := compGo_fl (own := [5, 2]) (tgt := setSlot 2) (tst := tst26 Φ) (elt := elt26)
    (I := fun t => t.st = st ∧ ∃ a b, t.env = [.val V, .val (.int n), a, .none, .none, b]) (f := PV.int) (g := fun t => .int (n + t)) (c := fun t => c (n + t)) (rngN 14) (fun u hu t ⟨h1, a, b, h2⟩ => by
      obtain ⟨env, st'⟩ := t
      cases h1; cases h2
      refine ⟨⟨[.val V, .val (.int n), .val (.int u), .none, .none, .none], st'⟩, _, by simp, t26r (h _), fun _ => ?_, fun _ => ⟨rfl, _, _, rfl⟩⟩
      exact ⟨.val (.int (n + u)), ⟨[.val V, .val (.int n), .val (.int u), .none, .none, .none], st'⟩, ⟨[.val V, .val (.int n), .val (.int u), .none, .none, .none], st'⟩, by simp, rfl, rfl, _, _, rfl⟩) ⟨[.val V, .val (.int n), .none, .none, .none, .none], st⟩ ⟨rfl, _, _, rfl⟩
  obtain ⟨env, st'⟩ := s'
  change st' = st at c2
  subst c2
  cases c3
  have fl := List.length_filter_le (fun t => c (n + t)) (rngN 14)
  have l14 : (rngN 14).length = 14 := by rw [rngN, List.length_map, List.length_range]
  have e14 : rngP 0 14 = (rngN 14).map .int := rngP_N 14
  rw [← e14] at c1
  have s1 := ls1r c1 (by rw [List.length_map]; omega)
  rw [m26_eq, seqB_cons, s1, bind_ok]
  unfold lawNext
  cases hf : (rngN 14).filter (fun t => c (n + t)) with
  | cons t0 l =>
    have e : eqPV (.lst (PV.int (n + t0) :: l.map fun t => .int (n + t))) (.lst []) = some false := by
      have q := eq_intsL ((n + t0) :: l.map fun t => n + t) []
      rw [List.map_cons, List.map_map] at q
      exact q
    rw [List.map_cons]
    dsimp only
    rw [seqB_cons, ls2y e, bind_ok]
    rfl
  | nil =>
    rw [List.map_nil]
    dsimp only
    by_cases hn : M < n
    · rw [seqB_cons, ls2n h23 hM hn, bind_ok, if_pos hn]
      rfl
    · rw [seqB_cons, ls2g h23 hM hn, bind_ok, if_neg hn]
      dsimp only
      rw [seqB_cons, ls3r h23 hm, bind_ok]
      dsimp only
      generalize (if m - 13 > n then m - 13 else n) = b0 at hr ⊢
      obtain ⟨z2, el⟩ := loop26 (n := n) (b0 := b0) h (.own (.lst [])) .none (rngN (M - b0 + 14).toNat) .none
      rw [seqB_cons, sFor_run, lit4r h23 hM hr, bind_ok, rngP_N, el, bind_ok]
      cases (rngN (M - b0 + 14).toNat).filter (fun t => c (b0 + t)) with
      | cons t l => rfl
      | nil => rfl
/-- the bounds of the ends -/
theorem ends_bd {xs : List Sp} (h : RowV xs) : ∃ M m, maxI (endsL xs) = some M ∧ minI (endsL xs) = some m ∧ m ≤ M ∧ (-150 ≤ m ∧ M ≤ 150) ∧ ∀ y ∈ xs.dropLast, ∀ p, y.hi = some p → m ≤ p ∧ p ≤ M := by
  obtain ⟨M, hM⟩ : ∃ M, maxI (endsL xs) = some M := ⟨_, rfl⟩
  obtain ⟨m, hm⟩ : ∃ m, minI (endsL xs) = some m := ⟨_, rfl⟩
  obtain ⟨a1, a2⟩ := max_some hM
  obtain ⟨b1, b2⟩ := min_some hm
  have bd : ∀ e ∈ endsL xs, -150 ≤ e ∧ e ≤ 150 := fun e he => by
    rcases List.mem_cons.mp he with rfl | he
    · omega
    · obtain ⟨x, hx, rfl⟩ := List.mem_map.mp he
      obtain ⟨q, hq, h1, h2⟩ := init_hi xs none h.1 x hx
      rw [hq]
      exact ⟨h1, h2⟩
  have := bd M a1
  have := bd m b1
  refine ⟨M, m, hM, hm, b2 M a1, ⟨by omega, by omega⟩, fun y hy p hp => ?_⟩
  have he : p ∈ endsL xs := List.mem_cons_of_mem _ (List.mem_map.mpr ⟨y, hy, by rw [hp]; rfl⟩)
  exact ⟨b2 p he, a2 p he⟩
/-- the law's next one is the program's -/
theorem f26 (k : Nat) {xs : List Sp} (h : RowV xs) {n : Int} (hn : -1000000000 ≤ n ∧ n ≤ 1000000000) (st : List Cell) : evP TT (k + 2) 26 [.tup (xs.map spv), .int n] st = .ok (.val (ov (nextL xs n))) st := by
  obtain ⟨M, m, hM, hm, hmM, ⟨d1, d2⟩, hp⟩ := ends_bd h
  obtain ⟨x, rest, x1, x2, x3, x4, x5⟩ := head_ok h.1
  obtain ⟨y, y1, y2, y3, y4⟩ := tail_ok xs none h.1
  have ok : IsNext (fun j => hasS xs j = true) n (lawNext (hasS xs) n M m) := by
    refine lawNext_ok (s := x.s) (s' := y.s) (r := x.r) (r' := y.r) hmM x2.s0 x2.s1 y2.s0 y2.s1 (fun j hj => ?_) fun j hj => ?_
    · unfold hasS
      rw [x5 j fun p hp' => ?_]
      · rfl
      · obtain ⟨_, w, w1, w2⟩ := x4 p hp'
        have := hp w w1 p w2
        omega
    · unfold hasS
      rw [y4 j (fun l hl => by cases hl) fun w hw q hq => ?_]
      · rfl
      · have := hp w hw q hq
        omega
  have ok2 : IsNext (fun j => hasS xs j = true) n (nextL xs n) := by
    have e : (fun j => hasS xs j = true) = memS xs := by
      funext j
      exact propext (has_mem xs none h.1 j)
    rw [e]
    exact nextL_ok xs none h.1 n
  rw [next_uniq ok2 ok, p26]
  refine run26 (fun j => f22 k h j st) (f23 k h st) ?_ ?_ ?_
  · rw [bi_maxL, hM]; rfl
  · rw [bi_minL, hm]; rfl
  · refine rngOk_s _ ?_ ?_ <;> split <;> omega
end Ev

set_option linter.all false
set_option maxRecDepth 100000
set_option maxHeartbeats 1000000
namespace Ev
open PySem PySem.Spec L2
/-! ### how many -/
def upTo (x : Sp) (N : Int) : Int := (x.r.map fun one => (N - one) / x.s + 1).sum
def hiM (x : Sp) (high : Int) : Int := match x.hi with
  | none => high
  | some h => if h < high then h else high
def manyS (x : Sp) (low high : Int) : Int := if startAt x low ≤ hiM x high then upTo x (hiM x high) - upTo x (startAt x low - 1) else 0
abbrev elt11 : M RE := (xBin .Add (xBin .FloorDiv (xBin .Sub (rdSlot 1) (rdSlot 3)) (xSub (rdSlot 0) (ret (.val (.int (2)))))) (ret (.val (.int (1)))))
def q1 (Φ : Orc) : M Fl := (sSet 1 false (xIf (bnd (xCmp .Is (xSub (rdSlot 0) (ret (.val (.int (0))))) (ret (.val .non))) asBool) (rdSlot 1) (xBi .max [(rdSlot 1), (xSub (rdSlot 0) (ret (.val (.int (0)))))])))
def q2 (Φ : Orc) : M Fl := (sSet 2 false (xIf (bnd (xCmp .Is (xSub (rdSlot 0) (ret (.val (.int (1))))) (ret (.val .non))) asBool) (rdSlot 2) (xBi .min [(rdSlot 2), (xSub (rdSlot 0) (ret (.val (.int (1)))))])))
def q3 (Φ : Orc) : M Fl := (sRet (xIf (bnd (xCmp .LtE (rdSlot 1) (rdSlot 2)) asBool) (xBin .Sub (xCall Φ 11 [(rdSlot 0), (rdSlot 2)]) (xCall Φ 11 [(rdSlot 0), (xBin .Sub (rdSlot 1) (ret (.val (.int (1)))))])) (ret (.val (.int (0))))))
theorem m12_eq (Φ : Orc) : m12 Φ = seqB [q1 Φ, q2 Φ, q3 Φ] := rfl
section
variable {Φ : Orc} {V A B R : PV} {n low high u v s : Int} {zs : List Int} {vs : List PV} {st : List Cell} {a b : Sl} {x : Sp}
theorem r11 (c1 : compGo [2, 3] (setSlot 3) (ret true) elt11 true vs ⟨[.val (.tup [A, B, .int s, .tup vs]), .val (.int n), .none, .none], st⟩ = .ok (zs.map .int) ⟨[.val (.tup [A, B, .int s, .tup vs]), .val (.int n), a, b], st⟩) (hl : zs.length ≤ 12) : finO (m11 Φ ⟨[.val (.tup [A, B, .int s, .tup vs]), .val (.int n), .none, .none], st⟩) = .ok (.val (.int zs.sum)) st := by
  have e2 := bi_sumL zs
  have hz : (zs.map PV.int).length ≤ 16777216 := by rw [List.length_map]; omega
  generalize zs.map PV.int = Z at *
  unfold m11
  simp [-bi_sum, e2, c1, hz]
theorem e11r {one : Int} (hs : 0 < s) (hs' : s ≤ 12) : oneM (setSlot 3) (ret true) elt11 (.int one) ⟨[.val (.tup [A, B, .int s, R]), .val (.int n), .none, .none], st⟩ = .ok (.int ((n - one) / s + 1)) ⟨[.val (.tup [A, B, .int s, R]), .val (.int n), .none, .val (.int one)], st⟩ := by
  have h0 : divOk s = true := divOk_pos s hs (by omega)
  have e := Int.fdiv_eq_ediv_of_nonneg (n - one) (Int.le_of_lt hs)
  simp [h0, e]
theorem q1r : q1 Φ ⟨[.val (spv x), .val (.int low), .val (.int high)], st⟩ = .ok .nx ⟨[.val (spv x), .val (.int (startAt x low)), .val (.int high)], st⟩ := by
  obtain ⟨lo, hi, s, r⟩ := x
  unfold q1 spv startAt
  cases lo with
  | none => simp [ov]
  | some l => by_cases q : low < l <;> simp [ov, q]
theorem q2r : q2 Φ ⟨[.val (spv x), .val (.int low), .val (.int high)], st⟩ = .ok .nx ⟨[.val (spv x), .val (.int low), .val (.int (hiM x high))], st⟩ := by
  obtain ⟨lo, hi, s, r⟩ := x
  unfold q2 spv hiM
  cases hi with
  | none => simp [ov]
  | some l => by_cases q : l < high <;> simp [ov, q]
theorem q3r {V : PV} (h1 : Φ 11 [V, .int high] st = .ok (.val (.int u)) st) (h2 : Φ 11 [V, .int (low - 1)] st = .ok (.val (.int v)) st) : q3 Φ ⟨[.val V, .val (.int low), .val (.int high)], st⟩ = .ok (.rt (.val (.int (if low ≤ high then u - v else 0)))) ⟨[.val V, .val (.int low), .val (.int high)], st⟩ := by
  unfold q3
  by_cases q : low ≤ high <;> simp [q, h1, h2]
theorem r16 {V : PV} {zs : List Int} (hV : V = .tup vs) (h6 : Φ 6 [V] st = .ok (.val .non) st) (h7 : Φ 7 [.int low] st = .ok (.val .non) st) (h8 : Φ 7 [.int high] st = .ok (.val .non) st)
    (c1 : compGo [3, 4] (setSlot 4) (ret true) (xCall Φ 12 [(rdSlot 4), (rdSlot 1), (rdSlot 2)]) true vs ⟨[.val V, .val (.int low), .val (.int high), .none, .none], st⟩ = .ok (zs.map .int) ⟨[.val V, .val (.int low), .val (.int high), a, b], st⟩) (hl : zs.length ≤ 12) : finO (m16 Φ ⟨[.val V, .val (.int low), .val (.int high), .none, .none], st⟩) = .ok (.val (.int zs.sum)) st := by
  have e2 := bi_sumL zs
  have hz : (zs.map PV.int).length ≤ 16777216 := by rw [List.length_map]; omega
  generalize zs.map PV.int = Z at *
  subst hV
  unfold m16
  simp [-bi_sum, e2, c1, hz, h6, h7, h8]
end
theorem f11 (k : Nat) {x : Sp} (h : Res x) (n : Int) (st : List Cell) : evP TT (k + 1) 11 [spv x, .int n] st = .ok (.val (.int (upTo x n))) st := by
  obtain ⟨lo, hi, s, r⟩ := x
  have hs : 0 < s := h.s0
  have hs' : s ≤ 12 := h.s1
  have hl : r.length ≤ 12 := h.len
  rw [p11]
  unfold spv
  dsimp only
  obtain ⟨s', c1, c2, a, b, c3⟩ := compGo_f (own := [2, 3]) (tgt := setSlot 3) (tst := ret true) (elt := elt11)
    (I := fun t => t.st = st ∧ ∃ a b, t.env = [.val (.tup [ov lo, ov hi, .int s, .tup (r.map .int)]), .val (.int n), a, b]) (f := .int) (g := fun one => .int ((n - one) / s + 1)) r (fun u hu t ⟨h1, a, b, h2⟩ => by
      obtain ⟨env, st'⟩ := t
      cases h1; cases h2
      exact ⟨_, e11r hs hs', rfl, _, _, rfl⟩) ⟨[.val (.tup [ov lo, ov hi, .int s, .tup (r.map .int)]), .val (.int n), .none, .none], st⟩ ⟨rfl, _, _, rfl⟩
  obtain ⟨env, st'⟩ := s'
  cases c2; cases c3
  have hz : (r.map fun one => PV.int ((n - one) / s + 1)) = (r.map fun one => (n - one) / s + 1).map .int := by rw [List.map_map]; rfl
  rw [hz] at c1
  exact r11 c1 (by rw [List.length_map]; exact hl)
theorem f12 (k : Nat) {x : Sp} (h : Res x) (low high : Int) (st : List Cell) : evP TT (k + 2) 12 [spv x, .int low, .int high] st = .ok (.val (.int (manyS x low high))) st := by
  rw [p12, m12_eq, seqB_cons, q1r, bind_ok]
  dsimp only
  rw [seqB_cons, q2r, bind_ok]
  dsimp only
  rw [seqB_one, q3r (f11 k h _ st) (f11 k h _ st)]
  rfl
/-- count_in -/
theorem f16 (k : Nat) {xs : List Sp} (h : RowV xs) {low high : Int} (h1 : -1000000000 ≤ low ∧ low ≤ 1000000000) (h2 : -1000000000 ≤ high ∧ high ≤ 1000000000) (st : List Cell) : evP TT (k + 7) 16 [.tup (xs.map spv), .int low, .int high] st = .ok (.val (.int ((xs.map fun x => manyS x low high).sum))) st := by
  rw [p16]
  obtain ⟨s', c1, c2, a, b, c3⟩ := compGo_f (own := [3, 4]) (tgt := setSlot 4) (tst := ret true) (elt := (xCall (evP TT (k + 6)) 12 [(rdSlot 4), (rdSlot 1), (rdSlot 2)]))
    (I := fun t => t.st = st ∧ ∃ a b, t.env = [.val (.tup (xs.map spv)), .val (.int low), .val (.int high), a, b]) (f := spv) (g := fun x => .int (manyS x low high)) xs (fun u hu t ⟨h1, a, b, h2⟩ => by
      obtain ⟨env, st'⟩ := t
      change st' = st at h1
      subst h1
      cases h2
      generalize PV.tup (xs.map spv) = V
      refine ⟨⟨[.val V, .val (.int low), .val (.int high), .none, .val (spv u)], st'⟩, ?_, rfl, _, _, rfl⟩
      have g' : evP TT (k + 6) 12 [spv u, .int low, .int high] st' = .ok (.val (.int (manyS u low high))) st' := f12 (k + 4) (res_pos h u hu) low high st'
      generalize evP TT (k + 6) = Φ at g' ⊢
      simp [g']) ⟨[.val (.tup (xs.map spv)), .val (.int low), .val (.int high), .none, .none], st⟩ ⟨rfl, _, _, rfl⟩
  obtain ⟨env, st'⟩ := s'
  change st' = st at c2
  subst c2
  cases c3
  have hz : (xs.map fun x => PV.int (manyS x low high)) = (xs.map fun x => manyS x low high).map .int := by rw [List.map_map]; rfl
  rw [hz] at c1
  have := h.2
  exact r16 rfl (f6 k h _) (f7 (k + 4) h1 _) (f7 (k + 4) h2 _) c1 (by rw [List.length_map]; omega)
/-! ### what it counts -/
theorem asc_pw : ∀ r : List Int, ascB r = true → r.Pairwise (· < ·)
  | [], _ => .nil
  | [x], _ => List.pairwise_singleton _ _
  | x :: y :: r, h => by
    rw [ascB, Bool.and_eq_true, decide_eq_true_eq] at h
    have ih := asc_pw (y :: r) h.2
    refine List.pairwise_cons.mpr ⟨fun z hz => ?_, ih⟩
    rcases List.mem_cons.mp hz with rfl | hz
    · exact h.1
    · have := (List.pairwise_cons.mp ih).1 z hz
      omega
def b01 (b : Bool) : Int := if b then 1 else 0
theorem step_one {s one N : Int} (s0 : 1 ≤ s) (h0 : 0 ≤ one) (h1 : one ≤ s - 1) : (N + 1 - one) / s + 1 = (N - one) / s + 1 + b01 (decide ((N + 1) % s = one)) := by
  have e1 := ediv_eq (N - one) s
  have g1 := Int.emod_nonneg (N - one) (show s ≠ 0 by omega)
  have g2 := Int.emod_lt_of_pos (N - one) (show 0 < s by omega)
  have e2 := ediv_eq (N + 1) s
  have g3 := Int.emod_nonneg (N + 1) (show s ≠ 0 by omega)
  have g4 := Int.emod_lt_of_pos (N + 1) (show 0 < s by omega)
  have uq : ∀ (q r : Int), N + 1 - one = r + s * q → 0 ≤ r → r < s → (N + 1 - one) / s = q := fun q r h hr hr' => by
    rw [h, Int.add_mul_ediv_left _ _ (by omega), Int.ediv_eq_zero_of_lt hr hr']
    omega
  by_cases hw : (N - one) % s + 1 = s
  · have e : (N + 1 - one) / s = (N - one) / s + 1 := uq _ 0 (by rw [Int.mul_add, Int.mul_one]; omega) (by omega) (by omega)
    have e3 : (N + 1) % s = one := by
      have : N + 1 = one + s * ((N - one) / s + 1) := by rw [Int.mul_add, Int.mul_one]; omega
      rw [this, Int.add_mul_emod_self_left, Int.emod_eq_of_lt h0 (by omega)]
    rw [e, e3, decide_eq_true rfl]
    show _ = _ + 1
    omega
  · have e : (N + 1 - one) / s = (N - one) / s := uq _ ((N - one) % s + 1) (by omega) (by omega) (by omega)
    have e3 : (N + 1) % s ≠ one := fun h => by
      have : N - one = (s - 1) + s * ((N + 1) / s - 1) := by rw [Int.mul_sub, Int.mul_one]; omega
      rw [this, Int.add_mul_emod_self_left, Int.emod_eq_of_lt (by omega) (by omega)] at hw
      omega
    rw [e, decide_eq_false e3]
    show _ = _ + 0
    omega
theorem step_sum {s N : Int} (s0 : 1 ≤ s) : ∀ r : List Int, r.Pairwise (· < ·) → (∀ i ∈ r, 0 ≤ i ∧ i ≤ s - 1) → (r.map fun one => (N + 1 - one) / s + 1).sum = (r.map fun one => (N - one) / s + 1).sum + b01 (r.contains ((N + 1) % s))
  | [], _, _ => rfl
  | one :: r, hp, hm => by
    obtain ⟨h0, h1⟩ := hm one (List.mem_cons_self ..)
    have ih := step_sum s0 (N := N) r (List.pairwise_cons.mp hp).2 fun i hi => hm i (List.mem_cons_of_mem _ hi)
    rw [List.map_cons, List.map_cons, List.sum_cons, List.sum_cons, ih, step_one s0 h0 h1, List.contains_cons]
    by_cases h : (N + 1) % s = one
    · have : r.contains ((N + 1) % s) = false := by
        rw [← Bool.not_eq_true]
        intro hc
        have hc' : (N + 1) % s ∈ r := by simpa using hc
        have := (List.pairwise_cons.mp hp).1 _ hc'
        omega
      rw [this, decide_eq_true h, show ((N + 1) % s == one) = true from by simpa using h]
      show _ + 1 + (_ + 0) = _ + 1
      omega
    · rw [decide_eq_false h, show ((N + 1) % s == one) = false from by simpa using h, Bool.false_or]
      show _ + 0 + _ = _
      omega
theorem upTo_step {x : Sp} (h : Res x) (N : Int) : upTo x (N + 1) = upTo x N + b01 (x.r.contains ((N + 1) % x.s)) := step_sum h.s0 x.r (asc_pw _ h.asc) h.mem
def inB (x : Sp) (m : Int) : Bool := loB x m && hiB x m && x.r.contains (m % x.s)
theorem many_out {x : Sp} {low high : Int} (h : startAt x low > hiM x high) : manyS x low high = 0 := if_neg (by omega)
theorem many_step {x : Sp} (hx : Res x) {low h : Int} (hl : low ≤ h + 1) : manyS x low (h + 1) = manyS x low h + b01 (inB x (h + 1)) := by
  obtain ⟨t1, t2, t3⟩ := start_ok x low
  by_cases hb : hiB x (h + 1) = true
  · have e1 : hiM x (h + 1) = h + 1 ∧ hiM x h = h := by
      rw [hiB_iff] at hb
      unfold hiM
      cases hq : x.hi with
      | none => exact ⟨rfl, rfl⟩
      | some q =>
        have := hb q hq
        dsimp only
        rw [if_neg (by omega), if_neg (by omega)]
        exact ⟨rfl, rfl⟩
    unfold manyS inB
    rw [e1.1, e1.2, hb, Bool.and_true]
    by_cases hlb : loB x (h + 1) = true
    · have g := t3 (h + 1) hl hlb
      rw [hlb, Bool.true_and, if_pos g, upTo_step hx]
      by_cases g2 : startAt x low ≤ h
      · rw [if_pos g2]; omega
      · rw [if_neg g2, show startAt x low - 1 = h by omega]; omega
    · have hlb' : ¬ startAt x low ≤ h + 1 := fun g => by
        apply hlb
        rw [loB_iff] at t2 ⊢
        intro l hl2
        have := t2 l hl2
        omega
      rw [if_neg hlb', if_neg (by omega)]
      rw [Bool.not_eq_true] at hlb
      rw [hlb]
      rfl
  · have e1 : hiM x (h + 1) = hiM x h := by
      rw [hiB_iff] at hb
      unfold hiM
      cases hq : x.hi with
      | none => exact absurd (fun p hp => by rw [hq] at hp; cases hp) hb
      | some q =>
        dsimp only
        have : q < h + 1 := by
          refine Int.not_le.mp fun g => hb fun p hp => ?_
          rw [hq] at hp
          cases hp
          exact g
        split <;> split <;> omega
    rw [Bool.not_eq_true] at hb
    unfold manyS inB
    rw [e1, hb, Bool.and_false, Bool.false_and]
    show _ = _ + 0
    omega
theorem many_none {x : Sp} {low high : Int} (h : high < low) : manyS x low high = 0 := by
  obtain ⟨t1, t2, t3⟩ := start_ok x low
  refine many_out ?_
  have : hiM x high ≤ high := by
    unfold hiM
    split
    · omega
    · split <;> omega
  omega
theorem in_sum {B : Int} : ∀ (xs : List Sp) (lo : Option Int), Chain B lo xs → ∀ m, (xs.map fun x => b01 (inB x m)).sum = b01 (hasS xs m)
  | [], lo, h, m => h.elim
  | [x], lo, h, m => by
    rw [List.map_cons, List.map_nil, List.sum_cons, List.sum_nil, Int.add_zero]
    unfold hasS inB
    rw [hasO]
    cases (loB x m && hiB x m) <;> rfl
  | x :: y :: xs, lo, h, m => by
    obtain ⟨a, b, q, c, d, e, f⟩ := h
    have ih := in_sum (y :: xs) _ f m
    rw [List.map_cons, List.sum_cons, ih]
    by_cases p : (loB x m && hiB x m) = true
    · have e1 : hasS (x :: y :: xs) m = x.r.contains (m % x.s) := by unfold hasS; rw [hasO, if_pos p]; rfl
      have e2 : hasS (y :: xs) m = false := by
        rw [← Bool.not_eq_true, has_mem (y :: xs) _ f m]
        intro g
        have g1 := mem_lo (y :: xs) (q + 1) f m g
        have g2 := (hiB_iff _ _).mp ((Bool.and_eq_true _ _).mp p).2 q c
        omega
      rw [e1, e2]
      unfold inB
      rw [p, Bool.true_and]
      show _ + 0 = _
      omega
    · have e1 : hasS (x :: y :: xs) m = hasS (y :: xs) m := by unfold hasS; rw [hasO, if_neg p]
      rw [e1]
      unfold inB
      rw [Bool.not_eq_true] at p
      rw [p, Bool.false_and]
      show 0 + _ = _
      omega
theorem sum_add {α : Type} (f g : α → Int) : ∀ xs : List α, (xs.map fun x => f x + g x).sum = (xs.map f).sum + (xs.map g).sum
  | [] => rfl
  | x :: xs => by rw [List.map_cons, List.map_cons, List.map_cons, List.sum_cons, List.sum_cons, List.sum_cons, sum_add f g xs]; omega
/-- the count is the number of integers with has -/
theorem count_ok {xs : List Sp} (h : RowV xs) (low : Int) : ∀ N : Nat, (xs.map fun x => manyS x low (low + N - 1)).sum = (((List.range N).map fun (k : Nat) => low + (k : Int)).filter (hasS xs)).length
  | 0 => by
    have : (xs.map fun x => manyS x low (low + (0 : Nat) - 1)) = xs.map fun _ => 0 := List.map_congr_left fun x _ => many_none (by omega)
    rw [this]
    have z : ∀ l : List Sp, (l.map fun _ => (0 : Int)).sum = 0 := fun l => by
      induction l with
      | nil => rfl
      | cons x l ih => rw [List.map_cons, List.sum_cons, ih]; rfl
    rw [z]
    rfl
  | N + 1 => by
    have ih := count_ok h low N
    have e : (xs.map fun x => manyS x low (low + (N + 1 : Nat) - 1)) = xs.map fun x => manyS x low (low + N - 1) + b01 (inB x (low + N)) := List.map_congr_left fun x hx => by
      have := many_step (res_pos h x hx) (low := low) (h := low + N - 1) (by omega)
      rw [show low + (N : Int) - 1 + 1 = low + N by omega] at this
      rw [show low + ((N + 1 : Nat) : Int) - 1 = low + N by omega]
      exact this
    rw [e, sum_add, ih, in_sum xs none h.1, List.range_succ, List.map_append, List.filter_append, List.length_append, List.map_cons, List.map_nil]
    cases hc : hasS xs (low + N) with
    | true => rw [List.filter_cons_of_pos hc]; simp [b01]
    | false => rw [List.filter_cons_of_neg (by rw [hc]; decide)]; simp [b01]
end Ev

set_option linter.all false
set_option maxRecDepth 100000
set_option maxHeartbeats 1000000
namespace Ev
open PySem PySem.Spec L2
/-! ### far out -/
theorem upTo_far {x : Sp} (h : Res x) (N t : Int) : upTo x (N + x.s * t) = upTo x N + t * x.r.length := by
  have key : ∀ r : List Int, (r.map fun one => (N + x.s * t - one) / x.s + 1).sum = (r.map fun one => (N - one) / x.s + 1).sum + t * r.length := fun r => by
    induction r with
    | nil => simp
    | cons one r ih =>
      rw [List.map_cons, List.map_cons, List.sum_cons, List.sum_cons, ih]
      have e : N + x.s * t - one = (N - one) + x.s * t := by omega
      have s0 := h.s0
      rw [e, Int.add_mul_ediv_left _ _ (by omega), List.length_cons, Int.natCast_add, Int.mul_add]
      omega
  exact key x.r
theorem zero_sum {α : Type} (f : α → Int) : ∀ l : List α, (∀ x ∈ l, f x = 0) → (l.map f).sum = 0
  | [], _ => rfl
  | x :: l, h => by rw [List.map_cons, List.sum_cons, h x (List.mem_cons_self ..), zero_sum f l fun y hy => h y (List.mem_cons_of_mem _ hy)]; rfl
theorem far_left {xs : List Sp} (h : RowV xs) : ∃ x rest, xs = x :: rest ∧ Res x ∧ ∀ low t : Int, 1 ≤ t → low + x.s * t - 1 < -150 → (xs.map fun y => manyS y low (low + x.s * t - 1)).sum = t * x.r.length := by
  obtain ⟨x, rest, e, hx, x1, x2, _⟩ := head_ok h.1
  refine ⟨x, rest, e, hx, fun low t ht hl => ?_⟩
  have s0 := hx.s0
  have hst : 1 ≤ x.s * t := by
    have := Int.mul_le_mul s0 ht (by decide) (by omega)
    omega
  rw [e, List.map_cons, List.sum_cons]
  have e1 : manyS x low (low + x.s * t - 1) = t * x.r.length := by
    have a : startAt x low = low := by unfold startAt; rw [x1]
    have b : hiM x (low + x.s * t - 1) = low + x.s * t - 1 := by
      unfold hiM
      cases hq : x.hi with
      | none => rfl
      | some q =>
        obtain ⟨_, w, w1, w2⟩ := x2 q hq
        obtain ⟨q', hq', b1, b2⟩ := init_hi xs none h.1 w w1
        rw [w2] at hq'
        cases hq'
        exact if_neg (by omega)
    unfold manyS
    rw [a, b, if_pos (by omega), show low + x.s * t - 1 = (low - 1) + x.s * t by omega, upTo_far hx]
    omega
  rw [e1, zero_sum]
  · omega
  · intro y hy
    obtain ⟨i, hi⟩ := List.getElem?_of_mem hy
    obtain ⟨_, _, c3, _⟩ := chain_at xs none h.1 (i + 1) y (by rw [e]; exact hi)
    obtain ⟨l, l1, l2, l3⟩ := c3 (by omega)
    refine many_out ?_
    have a : startAt y low = l := by unfold startAt; rw [l1]; exact if_pos (by omega)
    have b : hiM y (low + x.s * t - 1) ≤ low + x.s * t - 1 := by
      unfold hiM
      split
      · omega
      · split <;> omega
    omega
theorem far_right0 {B : Int} : ∀ (xs : List Sp) (lo : Option Int), Chain B lo xs → ∃ x, xs.getLast? = some x ∧ x ∈ xs ∧ Res x ∧ ∀ low t : Int, (∀ l, lo = some l → l ≤ low) → B < low → 1 ≤ t → (xs.map fun y => manyS y low (low + x.s * t - 1)).sum = t * x.r.length
  | [], lo, h => h.elim
  | [x], lo, h => by
    obtain ⟨a, b, hx⟩ := h
    refine ⟨x, rfl, List.mem_cons_self .., hx, fun low t hl hB ht => ?_⟩
    have s0 := hx.s0
    have hst : 1 ≤ x.s * t := by
      have := Int.mul_le_mul s0 ht (by decide) (by omega)
      omega
    have a1 : startAt x low = low := by
      unfold startAt
      rw [a]
      cases lo with
      | none => rfl
      | some l => exact if_neg (by have := hl l rfl; omega)
    have b1 : hiM x (low + x.s * t - 1) = low + x.s * t - 1 := by unfold hiM; rw [b]
    rw [List.map_cons, List.map_nil, List.sum_cons, List.sum_nil]
    unfold manyS
    rw [a1, b1, if_pos (by omega), show low + x.s * t - 1 = (low - 1) + x.s * t by omega, upTo_far hx]
    omega
  | x :: y :: xs, lo, h => by
    obtain ⟨a, b, q, c, d, e, f⟩ := h
    obtain ⟨z, z1, z2, z3, z4⟩ := far_right0 (y :: xs) _ f
    refine ⟨z, by rw [List.getLast?_cons_cons]; exact z1, List.mem_cons_of_mem _ z2, z3, fun low t hl hB ht => ?_⟩
    rw [List.map_cons, List.sum_cons, z4 low t (fun l hl => by cases hl; omega) hB ht]
    have : manyS x low (low + z.s * t - 1) = 0 := by
      refine many_out ?_
      have g1 := (start_ok x low).1
      have g2 : hiM x (low + z.s * t - 1) ≤ q := by
        unfold hiM
        rw [c]
        dsimp only
        split <;> omega
      omega
    omega
/-! ### places -/
theorem atI_last {α : Type} {xs : List α} {x : α} (h : xs.getLast? = some x) : L2.atI xs (-1) = some x := by
  cases xs with
  | nil => cases h
  | cons y ys =>
    unfold L2.atI L2.ixN
    have hl : (y :: ys).length = ys.length + 1 := rfl
    rw [if_neg (by decide), if_pos (by rw [hl]; omega)]
    show (y :: ys)[(-1 + ((y :: ys).length : Int)).toNat]? = _
    rw [List.getLast?_eq_getElem?] at h
    rw [← h]
    congr 1
    omega
theorem atI_at {α : Type} {xs : List α} {r : Int} (h0 : 0 ≤ r) (h1 : r < xs.length) : L2.atI xs r = some (xs[r.toNat]'(by omega)) := by
  have hr : r.toNat < xs.length := by omega
  have q := L2.atI_nat (xs := xs) (j := r.toNat) (v := xs[r.toNat]) (List.getElem?_eq_getElem hr)
  rwa [Int.toNat_of_nonneg h0] at q
theorem cut_to (xs : List PV) (r : Int) (h0 : 0 ≤ r) (h1 : r ≤ xs.length) : cutP xs none (some r) = xs.take r.toNat := by
  unfold cutP HT.sIx
  simp only [List.drop_zero, Nat.sub_zero]
  rw [if_neg (by omega), Nat.min_eq_left (by omega)]
theorem cut_from (xs : List PV) (r : Int) (h0 : 0 ≤ r) (h1 : r ≤ xs.length) : cutP xs (some r) none = xs.drop r.toNat := by
  unfold cutP HT.sIx
  simp only
  rw [if_neg (by omega), Nat.min_eq_left (by omega), List.take_of_length_le (by rw [List.length_drop]; omega)]
theorem split_at (xs : List PV) (r : Nat) (h : r < xs.length) : xs = xs.take r ++ xs[r] :: xs.drop (r + 1) := by
  rw [List.getElem_cons_drop, List.take_append_drop]
/-! ### what no span is -/
def BadV (v : PV) : Prop := (∃ ys, v = .tup ys ∧ (∀ y ∈ ys, DatS y) ∧ rowB (.tup ys) = false) ∨ (Dat v ∧ tupB v 1 400 = false)
theorem f5bad (k : Nat) {v : PV} (h : BadV v) (st : List Cell) : evP TT (k + 5) 5 [v] st = .ok (.val (.bl false)) st := by
  rcases h with ⟨ys, rfl, h1, h2⟩ | ⟨h1, h2⟩
  · rw [f5 k ys h1 st, h2]
  · exact f5no k v h1 h2 st
theorem dat4 {a b S R : PV} (ha : Dat a) (hb : Dat b) (hS : Dat S) (hR : Dat R) (h : ∀ rs, R = .tup rs → ∀ y ∈ rs, Dat y) : DatS (.tup [a, b, S, R]) := by
  refine ⟨trivial, fun a' b' S' R' e => ?_⟩
  simp only [PV.tup.injEq, List.cons.injEq, and_true] at e
  obtain ⟨rfl, rfl, rfl, rfl⟩ := e
  exact ⟨ha, hb, hS, hR, h⟩
theorem dat_ints (rs : List Int) : ∀ r, PV.tup (rs.map .int) = .tup r → ∀ y ∈ r, Dat y := fun r e y hy => by
  cases e
  obtain ⟨i, _, rfl⟩ := List.mem_map.mp hy
  trivial
theorem dat_other {v : PV} (h : Dat v) (hn : ∀ a b S R, v ≠ .tup [a, b, S, R]) : DatS v := ⟨h, fun a b S R e => absurd e (hn a b S R)⟩
theorem sp_S {F L : Bool} {A B S R : PV} (h : wholeB S 1 12 = false) : spB F L (.tup [A, B, S, R]) = false := by
  show ((wholeB S 1 12 && tupB R 0 12) && plB F A && plB L B && (F || L || gapB A B) && resB S R) = false
  rw [h]; simp
theorem sp_R {F L : Bool} {A B S R : PV} (h : tupB R 0 12 = false) : spB F L (.tup [A, B, S, R]) = false := by
  show ((wholeB S 1 12 && tupB R 0 12) && plB F A && plB L B && (F || L || gapB A B) && resB S R) = false
  rw [h]; simp
theorem sp_A {F L : Bool} {A B S R : PV} (h : plB F A = false) : spB F L (.tup [A, B, S, R]) = false := by
  show ((wholeB S 1 12 && tupB R 0 12) && plB F A && plB L B && (F || L || gapB A B) && resB S R) = false
  rw [h]; simp
theorem sp_B {F L : Bool} {A B S R : PV} (h : plB L B = false) : spB F L (.tup [A, B, S, R]) = false := by
  show ((wholeB S 1 12 && tupB R 0 12) && plB F A && plB L B && (F || L || gapB A B) && resB S R) = false
  rw [h]; simp
theorem sp_r {F L : Bool} {A B S R : PV} (h : resB S R = false) : spB F L (.tup [A, B, S, R]) = false := by
  show ((wholeB S 1 12 && tupB R 0 12) && plB F A && plB L B && (F || L || gapB A B) && resB S R) = false
  rw [h]; simp
def forms (A B : PV) (s : Int) (rs : List Int) : List PV :=
  [.tup [A, B, .int 0, .tup []], .tup [A, B, .int 13, .tup [.int 0]], .tup [A, B, .int s, .tup [.int s]], .tup [A, B, .int s, .tup [.int (-1)]], .tup [A, B, .int s, .lst (rs.map .int)],
   .tup [A, B, .bl true, .tup [.int 0]], .tup [A, B, .int 3, .tup [.int 1, .int 0]], .tup [A, B, .int 3, .tup [.int 1, .int 1]], .tup [A, B, .int s], .tup [.str "0", B, .int s, .tup (rs.map .int)],
   .lst [A, B, .int s, .tup (rs.map .int)], .non, .tup [A, .str "0", .int s, .tup (rs.map .int)], .tup [A, B, .int s, .tup [.bl true]], .tup [A, B, .int 2, .tup [.int 0, .int 1, .int 1]]]
theorem forms_bad {A B : PV} (hA : Dat A) (hB : Dat B) (s : Int) (rs : List Int) : ∀ v ∈ forms A B s rs, DatS v ∧ ∀ F L, spB F L v = false := fun v hv => by
  have d0 : ∀ r : List Int, ∀ q, PV.tup (r.map .int) = .tup q → ∀ y ∈ q, Dat y := dat_ints
  unfold forms at hv
  simp only [List.mem_cons, List.not_mem_nil, or_false] at hv
  rcases hv with rfl | rfl | rfl | rfl | rfl | rfl | rfl | rfl | rfl | rfl | rfl | rfl | rfl | rfl | rfl
  · exact ⟨dat4 hA hB trivial trivial (d0 []), fun F L => sp_S rfl⟩
  · exact ⟨dat4 hA hB trivial trivial (d0 [0]), fun F L => sp_S rfl⟩
  · refine ⟨dat4 hA hB trivial trivial (d0 [s]), fun F L => sp_r ?_⟩
    show (([PV.int s].map fun x => wholeB x 0 (s - 1)).all id && _) = false
    show (((decide (0 ≤ s) && decide (s ≤ s - 1)) && true) && _) = false
    rw [decide_eq_false (show ¬ s ≤ s - 1 by omega)]
    simp
  · refine ⟨dat4 hA hB trivial trivial (d0 [-1]), fun F L => sp_r rfl⟩
  · exact ⟨dat4 hA hB trivial trivial (fun q e => by cases e), fun F L => sp_R rfl⟩
  · exact ⟨dat4 hA hB trivial trivial (d0 [0]), fun F L => sp_S rfl⟩
  · exact ⟨dat4 hA hB trivial trivial (d0 [1, 0]), fun F L => sp_r rfl⟩
  · exact ⟨dat4 hA hB trivial trivial (d0 [1, 1]), fun F L => sp_r rfl⟩
  · exact ⟨dat_other trivial (fun a b S R e => by simp at e), fun F L => rfl⟩
  · exact ⟨dat4 trivial hB trivial trivial (d0 rs), fun F L => sp_A (by cases F <;> rfl)⟩
  · exact ⟨dat_other trivial (fun a b S R e => by cases e), fun F L => rfl⟩
  · exact ⟨dat_other trivial (fun a b S R e => by cases e), fun F L => rfl⟩
  · exact ⟨dat4 hA trivial trivial trivial (d0 rs), fun F L => sp_B (by cases L <;> rfl)⟩
  · exact ⟨dat4 hA hB trivial trivial (fun q e y hy => by cases e; rw [List.mem_singleton] at hy; subst hy; trivial), fun F L => sp_r rfl⟩
  · exact ⟨dat4 hA hB trivial trivial (d0 [0, 1, 1]), fun F L => sp_r rfl⟩
theorem row_at {xs : List PV} {i : Nat} {x : PV} (hi : xs[i]? = some x) (h : spB (decide (i = 0)) (decide (i + 1 = xs.length)) x = false) : rowB (.tup xs) = false := by
  show (tupB (.tup xs) 1 400 && spsB xs && adjB xs) = false
  have e2 : spsB xs = false := by
    unfold spsB
    rw [← Bool.not_eq_true, List.all_eq_true]
    intro hall
    have m := idx_at 0 xs i x hi
    have := hall _ (List.mem_map.mpr ⟨_, m, rfl⟩)
    rw [Nat.zero_add, show id (spB (decide ((i, x).1 = 0)) (decide ((i, x).1 + 1 = xs.length)) (i, x).2) = false from h] at this
    cases this
  rw [e2, Bool.and_false, Bool.false_and]
/-- a row twice is none -/
theorem twice_bad {xs : List Sp} (h : RowV xs) : BadV (.tup (xs.map spv ++ xs.map spv)) := by
  refine .inl ⟨_, rfl, fun y hy => ?_, ?_⟩
  · rcases List.mem_append.mp hy with hy | hy <;> exact row_dat xs y hy
  · have hn : 1 ≤ xs.length := by
      cases xs with
      | nil => exact h.1.elim
      | cons x xs => simp
    obtain ⟨i, hi⟩ : ∃ i, i + 1 = xs.length := ⟨xs.length - 1, by omega⟩
    have hx : xs[i]? = some xs[i] := List.getElem?_eq_getElem (by omega)
    obtain ⟨_, _, _, c4, _⟩ := chain_at xs none h.1 i _ hx
    have h4 := c4 hi
    refine row_at (i := i) (x := spv xs[i]) ?_ ?_
    · rw [List.getElem?_append_left (by rw [List.length_map]; omega), List.getElem?_map, hx]
      rfl
    · refine sp_B ?_
      rw [h4, List.length_append, List.length_map, decide_eq_false (by omega)]
      rfl
end Ev

set_option linter.all false
set_option maxRecDepth 100000
set_option maxHeartbeats 1000000
namespace Ev
open PySem PySem.Spec L2
@[simp] theorem bi_list_t (xs : List PV) : biV .list [.tup xs] = some (.fresh (.lst xs)) := rfl
@[simp] theorem bi_list_l (xs : List PV) : biV .list [.lst xs] = some (.fresh (.lst xs)) := rfl
def z1 (Φ : Orc) : M Fl := (sSet 2 false (xCall Φ 18 [(rdSlot 0), (xBi .len [(rdSlot 1)])]))
def z2 (Φ : Orc) : M Fl := (sUn (tupAsg [3, 4, 5, 6]) (xSub (rdSlot 1) (rdSlot 2)))
def z3 (Φ : Orc) : M Fl := (sSet 7 false (xLst [(xTup [(rdSlot 3), (rdSlot 4), (ret (.val (.int (0)))), (xTup [])]), (xTup [(rdSlot 3), (rdSlot 4), (ret (.val (.int (13)))), (xTup [(ret (.val (.int (0))))])]), (xTup [(rdSlot 3), (rdSlot 4), (rdSlot 5), (xTup [(rdSlot 5)])]), (xTup [(rdSlot 3), (rdSlot 4), (rdSlot 5), (xTup [(xNeg (ret (.val (.int (1)))))])]), (xTup [(rdSlot 3), (rdSlot 4), (rdSlot 5), (xBi .list [(rdSlot 6)])])]))
def z4 (Φ : Orc) : M Fl := (sSet 7 false (xBin .Add (rdSlot 7) (xLst [(xTup [(rdSlot 3), (rdSlot 4), (ret (.val (.bl true))), (xTup [(ret (.val (.int (0))))])]), (xTup [(rdSlot 3), (rdSlot 4), (ret (.val (.int (3)))), (xTup [(ret (.val (.int (1)))), (ret (.val (.int (0))))])]), (xTup [(rdSlot 3), (rdSlot 4), (ret (.val (.int (3)))), (xTup [(ret (.val (.int (1)))), (ret (.val (.int (1))))])]), (xTup [(rdSlot 3), (rdSlot 4), (rdSlot 5)]), (xTup [(ret (.val (.str "0"))), (rdSlot 4), (rdSlot 5), (rdSlot 6)])])))
def z5 (Φ : Orc) : M Fl := (sSet 7 false (xBin .Add (rdSlot 7) (xLst [(xLst [(rdSlot 3), (rdSlot 4), (rdSlot 5), (rdSlot 6)]), (ret (.val .non)), (xTup [(rdSlot 3), (ret (.val (.str "0"))), (rdSlot 5), (rdSlot 6)]), (xTup [(rdSlot 3), (rdSlot 4), (rdSlot 5), (xTup [(ret (.val (.bl true)))])]), (xTup [(rdSlot 3), (rdSlot 4), (ret (.val (.int (2)))), (xTup [(ret (.val (.int (0)))), (ret (.val (.int (1)))), (ret (.val (.int (1))))])])])))
def z6 (Φ : Orc) : M Fl := (sSet 8 false (xBin .Add (xBin .Add (xSl (rdSlot 1) none (some (rdSlot 2))) (xTup [(xCall Φ 19 [(rdSlot 0), (rdSlot 7)])])) (xSl (rdSlot 1) (some (xBin .Add (rdSlot 2) (ret (.val (.int (1)))))) none)))
def z7 (Φ : Orc) : M Fl := (sSet 9 false (xTup [(xTup [(xTup [(ret (.val .non)), (ret (.val (.int (5)))), (ret (.val (.int (1)))), (xTup [])]), (xTup [(ret (.val (.int (7)))), (ret (.val .non)), (ret (.val (.int (1)))), (xTup [])])]), (xTup [(xTup [(ret (.val .non)), (ret (.val (.int (1001)))), (ret (.val (.int (1)))), (xTup [])]), (xTup [(ret (.val (.int (1002)))), (ret (.val .non)), (ret (.val (.int (1)))), (xTup [])])]), (xTup [(xTup [(ret (.val .non)), (ret (.val (.int (5)))), (ret (.val (.int (1)))), (xTup [])]), (xTup [(ret (.val (.int (6)))), (ret (.val (.int (5)))), (ret (.val (.int (1)))), (xTup [])]), (xTup [(ret (.val (.int (6)))), (ret (.val .non)), (ret (.val (.int (1)))), (xTup [])])])]))
def z8 (Φ : Orc) : M Fl := (sSet 10 false (xBin .Add (xBin .Add (xTup [(xTup [(ret (.val .non)), (xNeg (ret (.val (.int (1))))), (ret (.val (.int (1)))), (xTup [])])]) (xBi .tuple [(xComp [11, 12] (setSlot 12) (ret true) (xTup [(rdSlot 12), (rdSlot 12), (ret (.val (.int (1)))), (xTup [])]) (iRng1 (ret (.val (.int (400))))))])) (xTup [(xTup [(ret (.val (.int (400)))), (ret (.val .non)), (ret (.val (.int (1)))), (xTup [])])])))
def z9 (Φ : Orc) : M Fl := (sRet (xCall Φ 19 [(rdSlot 0), (xBin .Add (xLst [(rdSlot 8), (rdSlot 8), (rdSlot 8), (xBi .list [(rdSlot 1)]), (xTup []), (ret (.val .non)), (xBin .Add (rdSlot 1) (rdSlot 1)), (rdSlot 10)]) (xBi .list [(rdSlot 9)]))]))
def zB (Φ : Orc) : M Fl := seqB [z1 Φ, z2 Φ, z3 Φ, z4 Φ, z5 Φ, z6 Φ, z7 Φ, z8 Φ, z9 Φ]
theorem m24_eq (Φ : Orc) : m24 Φ = zB Φ := rfl
def fR (A B : PV) (s : Int) (R : List PV) : List PV :=
  [.tup [A, B, .int 0, .tup []], .tup [A, B, .int 13, .tup [.int 0]], .tup [A, B, .int s, .tup [.int s]], .tup [A, B, .int s, .tup [.int (-1)]], .tup [A, B, .int s, .lst R],
   .tup [A, B, .bl true, .tup [.int 0]], .tup [A, B, .int 3, .tup [.int 1, .int 0]], .tup [A, B, .int 3, .tup [.int 1, .int 1]], .tup [A, B, .int s], .tup [.str "0", B, .int s, .tup R],
   .lst [A, B, .int s, .tup R], .non, .tup [A, .str "0", .int s, .tup R], .tup [A, B, .int s, .tup [.bl true]], .tup [A, B, .int 2, .tup [.int 0, .int 1, .int 1]]]
def mo1 : PV := .tup [.tup [.non, .int 5, .int 1, .tup []], .tup [.int 7, .non, .int 1, .tup []]]
def mo2 : PV := .tup [.tup [.non, .int 1001, .int 1, .tup []], .tup [.int 1002, .non, .int 1, .tup []]]
def mo3 : PV := .tup [.tup [.non, .int 5, .int 1, .tup []], .tup [.int 6, .int 5, .int 1, .tup []], .tup [.int 6, .non, .int 1, .tup []]]
def lone (k : Int) : PV := .tup [.int k, .int k, .int 1, .tup []]
section
variable {Φ : Orc} {A B V Y W v : PV} {r s : Int} {vs R FS P1 P2 zs : List PV} {x0 x1 x2 x3 x4 x5 x6 x7 x8 x9 x10 x11 x12 a b : Sl} {st st1 : List Cell}
theorem z1r (h : Φ 18 [.box 0, .int (vs.length : Nat)] st = .ok (.val (.int r)) st1) : z1 Φ ⟨[.val (.box 0), .val (.tup vs), .none, .none, .none, .none, .none, .none, .none, .none, .none, .none, .none], st⟩ = .ok .nx ⟨[.val (.box 0), .val (.tup vs), .val (.int r), .none, .none, .none, .none, .none, .none, .none, .none, .none, .none], st1⟩ := by
  unfold z1
  simp [h]
theorem z2r (h : L2.atI vs r = some (.tup [A, B, .int s, .tup R])) : z2 Φ ⟨[.val (.box 0), .val (.tup vs), .val (.int r), .none, .none, .none, .none, .none, .none, .none, .none, .none, .none], st⟩ = .ok .nx ⟨[.val (.box 0), .val (.tup vs), .val (.int r), .val A, .val B, .val (.int s), .val (.tup R), .none, .none, .none, .none, .none, .none], st⟩ := by
  unfold z2
  simp [h]
theorem z3r : z3 Φ ⟨[x0, x1, x2, .val A, .val B, .val (.int s), .val (.tup R), .none, x8, x9, x10, x11, x12], st⟩ = .ok .nx ⟨[x0, x1, x2, .val A, .val B, .val (.int s), .val (.tup R), .own (.lst ((fR A B s R).take 5)), x8, x9, x10, x11, x12], st⟩ := by
  unfold z3 fR
  simp
theorem z4r : z4 Φ ⟨[x0, x1, x2, .val A, .val B, .val (.int s), .val (.tup R), .own (.lst ((fR A B s R).take 5)), x8, x9, x10, x11, x12], st⟩ = .ok .nx ⟨[x0, x1, x2, .val A, .val B, .val (.int s), .val (.tup R), .own (.lst ((fR A B s R).take 10)), x8, x9, x10, x11, x12], st⟩ := by
  unfold z4 fR
  simp
theorem z5r : z5 Φ ⟨[x0, x1, x2, .val A, .val B, .val (.int s), .val (.tup R), .own (.lst ((fR A B s R).take 10)), x8, x9, x10, x11, x12], st⟩ = .ok .nx ⟨[x0, x1, x2, .val A, .val B, .val (.int s), .val (.tup R), .own (.lst (fR A B s R)), x8, x9, x10, x11, x12], st⟩ := by
  unfold z5 fR
  simp
theorem z6r (h : Φ 19 [.box 0, .lst FS] st = .ok (.val Y) st1) (c1 : cutP vs none (some r) = P1) (c2 : cutP vs (some (r + 1)) none = P2) (l1 : P1.length ≤ 1000) (l2 : P2.length ≤ 1000) :
    z6 Φ ⟨[.val (.box 0), .val (.tup vs), .val (.int r), x3, x4, x5, x6, .own (.lst FS), .none, .none, .none, .none, .none], st⟩ = .ok .nx ⟨[.val (.box 0), .val (.tup vs), .val (.int r), x3, x4, x5, x6, .val (.lst FS), .val (.tup (P1 ++ Y :: P2)), .none, .none, .none, .none], st1⟩ := by
  have a1 : P1.length + 1 ≤ 16777216 := by omega
  have a2 : P1.length + 1 + P2.length ≤ 16777216 := by omega
  have a3 : P1.length + (1 + P2.length) ≤ 16777216 := by omega
  have a4 : P1.length + (P2.length + 1) ≤ 16777216 := by omega
  unfold z6
  simp [h, c1, c2, a1, a2, a3, a4]
theorem z7r : z7 Φ ⟨[x0, x1, x2, x3, x4, x5, x6, x7, x8, .none, x10, x11, x12], st⟩ = .ok .nx ⟨[x0, x1, x2, x3, x4, x5, x6, x7, x8, .val (.tup [mo1, mo2, mo3]), x10, x11, x12], st⟩ := by
  unfold z7 mo1 mo2 mo3
  simp
theorem z8r (c1 : compGo [11, 12] (setSlot 12) (ret true) (xTup [(rdSlot 12), (rdSlot 12), (ret (.val (.int (1)))), (xTup [])]) true (rngP 0 400) ⟨[x0, x1, x2, x3, x4, x5, x6, x7, x8, x9, .none, .none, .none], st⟩ = .ok zs ⟨[x0, x1, x2, x3, x4, x5, x6, x7, x8, x9, .none, a, b], st⟩) (hl : zs.length = 400) :
    z8 Φ ⟨[x0, x1, x2, x3, x4, x5, x6, x7, x8, x9, .none, .none, .none], st⟩ = .ok .nx ⟨[x0, x1, x2, x3, x4, x5, x6, x7, x8, x9, .val (.tup (.tup [.non, .int (-1), .int 1, .tup []] :: (zs ++ [.tup [.int 400, .non, .int 1, .tup []]]))), .none, .none], st⟩ := by
  unfold z8
  simp [c1, hl]
theorem z9r (h : Φ 19 [.box 0, .lst [Y, Y, Y, .lst vs, .tup [], .non, .tup (vs ++ vs), W, mo1, mo2, mo3]] st = .ok (.val v) st1) (hl : vs.length ≤ 1000) : z9 Φ ⟨[.val (.box 0), .val (.tup vs), x2, x3, x4, x5, x6, x7, .val Y, .val (.tup [mo1, mo2, mo3]), .val W, x11, x12], st⟩ = .ok (.rt (.val v)) ⟨[.val (.box 0), .val (.tup vs), x2, x3, x4, x5, x6, x7, .val Y, .val (.tup [mo1, mo2, mo3]), .val W, x11, x12], st1⟩ := by
  have a1 : vs.length + vs.length ≤ 16777216 := by omega
  unfold z9
  simp [h, a1]
theorem e8r {k : Int} : oneM (setSlot 12) (ret true) (xTup [(rdSlot 12), (rdSlot 12), (ret (.val (.int (1)))), (xTup [])]) (.int k) ⟨[x0, x1, x2, x3, x4, x5, x6, x7, x8, x9, x10, .none, .none], st⟩ = .ok (lone k) ⟨[x0, x1, x2, x3, x4, x5, x6, x7, x8, x9, x10, .none, .val (.int k)], st⟩ := by
  unfold lone
  simp
end
theorem comp8 (x0 x1 x2 x3 x4 x5 x6 x7 x8 x9 : Sl) (st : List Cell) : ∃ a b, compGo [11, 12] (setSlot 12) (ret true) (xTup [(rdSlot 12), (rdSlot 12), (ret (.val (.int (1)))), (xTup [])]) true (rngP 0 400) ⟨[x0, x1, x2, x3, x4, x5, x6, x7, x8, x9, .none, .none, .none], st⟩ = .ok ((rngN 400).map lone) ⟨[x0, x1, x2, x3, x4, x5, x6, x7, x8, x9, .none, a, b], st⟩ := by
  obtain ⟨s', c1, c2, a, b, c3⟩ := compGo_f (own := [11, 12]) (tgt := setSlot 12) (tst := ret true) (elt := (xTup [(rdSlot 12), (rdSlot 12), (ret (.val (.int (1)))), (xTup [])]))
    (I := fun t => t.st = st ∧ ∃ a b, t.env = [x0, x1, x2, x3, x4, x5, x6, x7, x8, x9, .none, a, b]) (f := PV.int) (g := lone) (rngN 400) (fun u hu t ⟨h1, a, b, h2⟩ => by
      obtain ⟨env, st'⟩ := t
      cases h1; cases h2
      exact ⟨_, e8r, rfl, _, _, rfl⟩) ⟨[x0, x1, x2, x3, x4, x5, x6, x7, x8, x9, .none, .none, .none], st⟩ ⟨rfl, _, _, rfl⟩
  obtain ⟨env, st'⟩ := s'
  change st' = st at c2
  subst c2
  cases c3
  have e : rngP 0 400 = (rngN 400).map .int := rngP_N 400
  rw [← e] at c1
  exact ⟨a, b, c1⟩
theorem dat_lit {ys : List PV} (h : ∀ y ∈ ys, ∃ A B s, y = .tup [A, B, .int s, .tup []] ∧ Dat A ∧ Dat B) : ∀ y ∈ ys, DatS y := fun y hy => by
  obtain ⟨A, B, s, rfl, hA, hB⟩ := h y hy
  exact dat4 hA hB trivial trivial fun q e z hz => by cases e; cases hz
theorem mo_bad : BadV mo1 ∧ BadV mo2 ∧ BadV mo3 := by
  refine ⟨.inl ⟨_, rfl, dat_lit fun y hy => ?_, rfl⟩, .inl ⟨_, rfl, dat_lit fun y hy => ?_, rfl⟩, .inl ⟨_, rfl, dat_lit fun y hy => ?_, rfl⟩⟩
  · simp only [List.mem_cons, List.not_mem_nil, or_false] at hy
    rcases hy with rfl | rfl <;> exact ⟨_, _, _, rfl, trivial, trivial⟩
  · simp only [List.mem_cons, List.not_mem_nil, or_false] at hy
    rcases hy with rfl | rfl <;> exact ⟨_, _, _, rfl, trivial, trivial⟩
  · simp only [List.mem_cons, List.not_mem_nil, or_false] at hy
    rcases hy with rfl | rfl | rfl <;> exact ⟨_, _, _, rfl, trivial, trivial⟩
theorem dat_ov (o : Option Int) : Dat (ov o) := by cases o <;> trivial
/-- what no row is -/
theorem f24 (k : Nat) {xs : List Sp} (h : RowV xs) (st : List Cell) (hc : Cups st) : ∃ (v : PV) (st' : List Cell), evP TT (k + 3) 24 [.box 0, .tup (xs.map spv)] st = .ok (.val v) st' ∧ BadV v ∧ Cups st' := by
  have hn : 1 ≤ xs.length := by
    cases xs with
    | nil => exact h.1.elim
    | cons x xs => simp
  have h6 := h.2
  have hvl : (xs.map spv).length = xs.length := List.length_map ..
  obtain ⟨r, t1, e1, r0, r1, hc⟩ := froll (k + 1) ((xs.map spv).length : Nat) (by omega) (by omega) st hc
  have hr : r.toNat < xs.length := by omega
  have e2 := atI_at (xs := xs.map spv) r0 r1
  rw [List.getElem_map] at e2
  obtain ⟨x, hx⟩ : ∃ x, x = xs[r.toNat] := ⟨_, rfl⟩
  have sp := split_at (xs.map spv) r.toNat (by omega)
  rw [List.getElem_map, ← hx] at sp
  rw [← hx] at e2
  have rd := row_dat xs
  have cu1 := cut_to (xs.map spv) r r0 (by omega)
  have cu2 := cut_from (xs.map spv) (r + 1) (by omega) (by omega)
  have tw := twice_bad h
  obtain ⟨Y, t2, e6, hY, hc⟩ := fsome (k) (fR (ov x.lo) (ov x.hi) x.s (x.r.map .int)) (by simp [fR]) (by simp [fR]) t1 hc
  obtain ⟨dY, bY⟩ := forms_bad (dat_ov x.lo) (dat_ov x.hi) x.s x.r Y hY
  obtain ⟨a, b, e8⟩ := comp8 (.val (.box 0)) (.val (.tup (xs.map spv))) (.val (.int r)) (.val (ov x.lo)) (.val (ov x.hi)) (.val (.int x.s)) (.val (.tup (x.r.map .int))) (.val (.lst (fR (ov x.lo) (ov x.hi) x.s (x.r.map .int)))) (.val (.tup ((xs.map spv).take r.toNat ++ Y :: (xs.map spv).drop (r + 1).toNat))) (.val (.tup [mo1, mo2, mo3])) t2
  obtain ⟨v, t3, e9, hv, hc⟩ := fsome (k) [.tup ((xs.map spv).take r.toNat ++ Y :: (xs.map spv).drop (r + 1).toNat), .tup ((xs.map spv).take r.toNat ++ Y :: (xs.map spv).drop (r + 1).toNat), .tup ((xs.map spv).take r.toNat ++ Y :: (xs.map spv).drop (r + 1).toNat), .lst (xs.map spv), .tup [], .non, .tup (xs.map spv ++ xs.map spv),
    .tup (.tup [.non, .int (-1), .int 1, .tup []] :: ((rngN 400).map lone ++ [.tup [.int 400, .non, .int 1, .tup []]])), mo1, mo2, mo3] (by simp) (by simp) t2 hc
  refine ⟨v, t3, ?_, ?_, hc⟩
  · rw [p24, m24_eq]
    unfold zB
    have l1 : ((xs.map spv).take r.toNat).length ≤ 1000 := by rw [List.length_take]; omega
    have l2 : ((xs.map spv).drop (r + 1).toNat).length ≤ 1000 := by rw [List.length_drop]; omega
    have l3 : (xs.map spv).length ≤ 1000 := by omega
    have e2' : L2.atI (xs.map spv) r = some (.tup [ov x.lo, ov x.hi, .int x.s, .tup (x.r.map .int)]) := e2
    generalize xs.map spv = vs at *
    generalize x.r.map PV.int = R at *
    generalize ov x.lo = A at *
    generalize ov x.hi = B at *
    generalize x.s = s at *
    generalize evP TT (k + 2) = Φ at *
    rw [seqB_cons, z1r e1, bind_ok]; dsimp only
    rw [seqB_cons, z2r e2', bind_ok]; dsimp only
    rw [seqB_cons, z3r, bind_ok]; dsimp only
    rw [seqB_cons, z4r, bind_ok]; dsimp only
    rw [seqB_cons, z5r, bind_ok]; dsimp only
    rw [seqB_cons, z6r e6 cu1 cu2 l1 l2, bind_ok]; dsimp only
    rw [seqB_cons, z7r, bind_ok]; dsimp only
    rw [seqB_cons, z8r e8 (by rw [List.length_map, rngN, List.length_map, List.length_range]), bind_ok]; dsimp only
    rw [seqB_one, z9r e9 l3]
    rfl
  · have bent : BadV (.tup ((xs.map spv).take r.toNat ++ Y :: (xs.map spv).drop (r + 1).toNat)) := by
      refine .inl ⟨_, rfl, fun y hy => ?_, row_no bY⟩
      rcases List.mem_append.mp hy with hy | hy
      · exact rd y (List.mem_of_mem_take hy)
      · rcases List.mem_cons.mp hy with rfl | hy
        · exact dY
        · exact rd y (List.mem_of_mem_drop hy)
    obtain ⟨b1, b2, b3⟩ := mo_bad
    simp only [List.mem_cons, List.not_mem_nil, or_false] at hv
    rcases hv with rfl | rfl | rfl | rfl | rfl | rfl | rfl | rfl | rfl | rfl | rfl
    · exact bent
    · exact bent
    · exact bent
    · exact .inr ⟨trivial, rfl⟩
    · exact .inr ⟨trivial, rfl⟩
    · exact .inr ⟨trivial, rfl⟩
    · exact tw
    · refine .inr ⟨trivial, ?_⟩
      unfold tupB
      dsimp only
      rw [List.length_cons, List.length_append, List.length_map, rngN, List.length_map, List.length_range]
      rfl
    · exact b1
    · exact b2
    · exact b3
end Ev

set_option linter.all false
set_option maxRecDepth 100000
set_option maxHeartbeats 1000000
namespace Ev
open PySem PySem.Spec L2
@[simp] theorem finO_exc (x : Ex) (s : ES) : finO (.exc x s) = .exc x s.st := rfl
def exS : Ex := ⟨"InvalidSpans", []⟩
def exN : Ex := ⟨"InvalidNumber", []⟩
section
variable {Φ : Orc} {V W N : PV} {x : Ex} {st : List Cell}
theorem r13 (h : Φ 5 [V] st = .ok (.val W) st) : finO (m13 Φ ⟨[.val V], st⟩) = .ok (.val W) st := by
  unfold m13
  simp [h]
theorem r6e (h : Φ 5 [V] st = .ok (.val (.bl false)) st) : finO (m6 Φ ⟨[.val V], st⟩) = .exc exS st := by
  unfold m6
  simp [h]
  rfl
theorem r7e (h : Φ 0 [V, .int (-1000000000), .int 1000000000] st = .ok (.val (.bl false)) st) : finO (m7 Φ ⟨[.val V], st⟩) = .exc exN st := by
  unfold m7
  simp [h]
  rfl
theorem r14a (h : Φ 6 [V] st = .exc x st) : finO (m14 Φ ⟨[.val V, .val N], st⟩) = .exc x st := by
  unfold m14
  simp [h]
theorem r14b (h : Φ 6 [V] st = .ok (.val .non) st) (h2 : Φ 7 [N] st = .exc x st) : finO (m14 Φ ⟨[.val V, .val N], st⟩) = .exc x st := by
  unfold m14
  simp [h, h2]
theorem r15a (h : Φ 6 [V] st = .exc x st) : finO (m15 Φ ⟨[.val V, .val N, .none, .none], st⟩) = .exc x st := by
  unfold m15
  simp [h]
theorem r15b (h : Φ 6 [V] st = .ok (.val .non) st) (h2 : Φ 7 [N] st = .exc x st) : finO (m15 Φ ⟨[.val V, .val N, .none, .none], st⟩) = .exc x st := by
  unfold m15
  simp [h, h2]
theorem r16a (h : Φ 6 [V] st = .exc x st) : finO (m16 Φ ⟨[.val V, .val N, .val W, .none, .none], st⟩) = .exc x st := by
  unfold m16
  simp [h]
theorem r16b (h : Φ 6 [V] st = .ok (.val .non) st) (h2 : Φ 7 [N] st = .exc x st) : finO (m16 Φ ⟨[.val V, .val N, .val W, .none, .none], st⟩) = .exc x st := by
  unfold m16
  simp [h, h2]
theorem r16c (h : Φ 6 [V] st = .ok (.val .non) st) (h2 : Φ 7 [N] st = .ok (.val .non) st) (h3 : Φ 7 [W] st = .exc x st) : finO (m16 Φ ⟨[.val V, .val N, .val W, .none, .none], st⟩) = .exc x st := by
  unfold m16
  simp [h, h2, h3]
theorem lk1 : (List.lookup ("InvalidSpans" : Str) [(("InvalidSpans" : Str), some (some (PV.str "spans"))), (("InvalidNumber" : Str), some (some (PV.str "number")))]) = some (some (some (PV.str "spans"))) := rfl
theorem lk2 : (List.lookup ("InvalidNumber" : Str) [(("InvalidSpans" : Str), some (some (PV.str "spans"))), (("InvalidNumber" : Str), some (some (PV.str "number")))]) = some (some (some (PV.str "number"))) := rfl
theorem r25 {w : Int} (hw : 0 ≤ w ∧ w < 4) {out : Str} (h14 : Φ 14 [V, N] st = .exc x st) (h15 : Φ 15 [V, N] st = .exc x st) (h16 : Φ 16 [V, N, .int 5] st = .exc x st) (h17 : Φ 16 [V, .int 5, N] st = .exc x st) (hx : (x = exS ∧ out = "spans") ∨ (x = exN ∧ out = "number")) :
    finO (m25 Φ ⟨[.val (.int w), .val V, .val N, .none, .none], st⟩) = .ok (.val (.str out)) st := by
  obtain ⟨w0, w1⟩ := hw
  have hc : w = 0 ∨ w = 1 ∨ w = 2 ∨ w = 3 := by omega
  unfold m25
  rcases hx with ⟨rfl, rfl⟩ | ⟨rfl, rfl⟩
  · unfold exS at *
    rcases hc with rfl | rfl | rfl | rfl
    · simp [h14, lk1, lenOk]
    · simp [h15, lk1, lenOk]
    · simp [h16, lk1, lenOk]
    · simp [h17, lk1, lenOk]
  · unfold exN at *
    rcases hc with rfl | rfl | rfl | rfl
    · simp [h14, lk2, lenOk]
    · simp [h15, lk2, lenOk]
    · simp [h16, lk2, lenOk]
    · simp [h17, lk2, lenOk]
end
/-- is_row -/
theorem f13ok (k : Nat) {xs : List Sp} (h : RowV xs) (st : List Cell) : evP TT (k + 6) 13 [.tup (xs.map spv)] st = .ok (.val (.bl true)) st := by
  rw [p13]
  have g := f5 k (xs.map spv) (row_dat xs) st
  rw [chain_row (by decide) h.1 (by have := h.2; omega)] at g
  exact r13 g
theorem f13v (k : Nat) {xs : List PV} (h : ∀ x ∈ xs, DatS x) (st : List Cell) : evP TT (k + 6) 13 [.tup xs] st = .ok (.val (.bl (rowB (.tup xs)))) st := by
  rw [p13]
  exact r13 (f5 k xs h st)
theorem f13bad (k : Nat) {v : PV} (h : BadV v) (st : List Cell) : evP TT (k + 6) 13 [v] st = .ok (.val (.bl false)) st := by
  rw [p13]
  exact r13 (f5bad k h st)
theorem f6bad (k : Nat) {v : PV} (h : BadV v) (st : List Cell) : evP TT (k + 6) 6 [v] st = .exc exS st := by
  rw [p6]
  exact r6e (f5bad k h st)
theorem f7bad (k : Nat) {v : PV} (hd : Dat v) (h : wholeB v (-1000000000) 1000000000 = false) (st : List Cell) : evP TT (k + 2) 7 [v] st = .exc exN st := by
  rw [p7]
  have g := f0 k v hd (-1000000000) 1000000000 st
  rw [h] at g
  exact r7e g
/-- what no row is, is refused -/
theorem f25s (k : Nat) {v : PV} (h : BadV v) (N : PV) {w : Int} (hw : 0 ≤ w ∧ w < 4) (st : List Cell) : evP TT (k + 8) 25 [.int w, v, N] st = .ok (.val (.str "spans")) st := by
  rw [p25]
  refine r25 hw (x := exS) ?_ ?_ ?_ ?_ (.inl ⟨rfl, rfl⟩)
  · rw [p14]; exact r14a (f6bad k h st)
  · rw [p15]; exact r15a (f6bad k h st)
  · rw [p16]; exact r16a (f6bad k h st)
  · rw [p16]; exact r16a (f6bad k h st)
/-- what no place is, is refused -/
theorem f25n (k : Nat) {xs : List Sp} (h : RowV xs) {N : PV} (hd : Dat N) (hN : wholeB N (-1000000000) 1000000000 = false) {w : Int} (hw : 0 ≤ w ∧ w < 4) (st : List Cell) : evP TT (k + 8) 25 [.int w, .tup (xs.map spv), N] st = .ok (.val (.str "number")) st := by
  rw [p25]
  refine r25 hw (x := exN) ?_ ?_ ?_ ?_ (.inr ⟨rfl, rfl⟩)
  · rw [p14]; exact r14b (f6 k h st) (f7bad (k + 4) hd hN st)
  · rw [p15]; exact r15b (f6 k h st) (f7bad (k + 4) hd hN st)
  · rw [p16]; exact r16b (f6 k h st) (f7bad (k + 4) hd hN st)
  · rw [p16]; exact r16c (f6 k h st) (f7 (k + 4) (by decide) st) (f7bad (k + 4) hd hN st)
end Ev

set_option linter.all false
set_option maxRecDepth 100000
set_option maxHeartbeats 1000000
namespace Ev
open PySem PySem.Spec L2
def u1 (Φ : Orc) : M Fl := (sSet 0 false (xComp [2, 3] (setSlot 3) (ret true) (xTup [(xBin .Add (xBin .Add (xTup [(xTup [(ret (.val .non)), (xNeg (ret (.val (.int (1))))), (ret (.val (.int (1)))), (xTup [])])]) (xBi .tuple [(xComp [2, 4] (setSlot 4) (ret true) (xTup [(rdSlot 4), (rdSlot 4), (ret (.val (.int (1)))), (xTup [])]) (iRng1 (rdSlot 3)))])) (xTup [(xTup [(rdSlot 3), (ret (.val .non)), (ret (.val (.int (1)))), (xTup [])])])), (xCmp .Eq (rdSlot 3) (ret (.val (.int (398)))))]) (iOf (xTup [(ret (.val (.int (398)))), (ret (.val (.int (399))))]))))
def u2 (Φ : Orc) : M Fl := (sSet 0 false (xBin .Add (rdSlot 0) (xComp [2, 5] (setSlot 5) (ret true) (xTup [(xTup [(xTup [(ret (.val .non)), (rdSlot 5), (ret (.val (.int (12)))), (xTup [(ret (.val (.int (11))))])]), (xTup [(xBin .Add (rdSlot 5) (ret (.val (.int (1))))), (ret (.val .non)), (ret (.val (.int (1)))), (xTup [(ret (.val (.int (0))))])])]), (xCmp .Eq (rdSlot 5) (ret (.val (.int (999)))))]) (iOf (xTup [(ret (.val (.int (999)))), (ret (.val (.int (1000))))])))))
def u3 (Φ : Orc) : M Fl := (sSet 0 false (xBin .Add (rdSlot 0) (xComp [2, 5] (setSlot 5) (ret true) (xTup [(xTup [(xTup [(ret (.val .non)), (rdSlot 5), (ret (.val (.int (1)))), (xTup [])]), (xTup [(xBin .Add (rdSlot 5) (ret (.val (.int (1))))), (ret (.val .non)), (ret (.val (.int (1)))), (xTup [(ret (.val (.int (0))))])])]), (xCmp .Eq (rdSlot 5) (xNeg (ret (.val (.int (1000))))))]) (iOf (xTup [(xNeg (ret (.val (.int (1000))))), (xNeg (ret (.val (.int (1001)))))])))))
def u4 (Φ : Orc) : M Fl := (sSet 1 false (xLst [(xTup [(xTup [(ret (.val (.int (0)))), (ret (.val .non)), (ret (.val (.int (1)))), (xTup [(ret (.val (.int (0))))])])]), (xTup [(xTup [(ret (.val .non)), (ret (.val (.int (9)))), (ret (.val (.int (1)))), (xTup [(ret (.val (.int (0))))])])]), (xTup [(xTup [(ret (.val (.int (0)))), (ret (.val (.int (9)))), (ret (.val (.int (1)))), (xTup [(ret (.val (.int (0))))])])]), (xTup [(xTup [(ret (.val .non)), (ret (.val (.int (4)))), (ret (.val (.int (1)))), (xTup [])]), (xTup [(ret (.val (.int (5)))), (ret (.val (.int (9)))), (ret (.val (.int (1)))), (xTup [(ret (.val (.int (0))))])])]), (xTup [(xTup [(xNeg (ret (.val (.int (3))))), (ret (.val (.int (4)))), (ret (.val (.int (1)))), (xTup [])]), (xTup [(ret (.val (.int (5)))), (ret (.val .non)), (ret (.val (.int (1)))), (xTup [(ret (.val (.int (0))))])])])]))
def u5 (Φ : Orc) : M Fl := (sSet 1 false (xBin .Add (rdSlot 1) (xLst [(xTup [(xTup [(ret (.val .non)), (ret (.val (.bl false))), (ret (.val (.int (1)))), (xTup [])]), (xTup [(ret (.val (.int (1)))), (ret (.val .non)), (ret (.val (.int (1)))), (xTup [])])]), (xTup [(xTup [(ret (.val .non)), (ret (.val (.bl true))), (ret (.val (.int (1)))), (xTup [])]), (xTup [(ret (.val (.int (2)))), (ret (.val .non)), (ret (.val (.int (1)))), (xTup [])])]), (xTup [(xTup [(ret (.val .non)), (ret (.val (.int (0)))), (ret (.val (.int (1)))), (xTup [])]), (xTup [(ret (.val (.bl true))), (ret (.val .non)), (ret (.val (.int (1)))), (xTup [])])])])))
def u6 (Φ : Orc) : M Fl := (sRet (xBin .Add (xBin .Add (rdSlot 0) (xComp [2, 6] (setSlot 6) (ret true) (xTup [(rdSlot 6), (ret (.val (.bl false)))]) (iOf (rdSlot 1)))) (xLst [(xTup [(xTup [(xTup [(ret (.val .non)), (ret (.val (.int (0)))), (ret (.val (.int (1)))), (xTup [])]), (xTup [(ret (.val (.int (1)))), (ret (.val .non)), (ret (.val (.int (1)))), (xTup [])])]), (ret (.val (.bl true)))]), (xTup [(xTup [(xTup [(ret (.val .non)), (ret (.val .non)), (ret (.val (.int (1)))), (xTup [])])]), (ret (.val (.bl true)))])])))
def uB (Φ : Orc) : M Fl := seqB [u1 Φ, u2 Φ, u3 Φ, u4 Φ, u5 Φ, u6 Φ]
theorem m27_eq (Φ : Orc) : m27 Φ = uB Φ := rfl
def s0 (a b : PV) : PV := .tup [a, b, .int 1, .tup []]
def s1z (a b : PV) : PV := .tup [a, b, .int 1, .tup [.int 0]]
def bigR (Z : List PV) (m : Int) : PV := .tup (s0 .non (.int (-1)) :: (Z ++ [s0 (.int m) .non]))
def two12 (l : Int) : PV := .tup [.tup [.non, .int l, .int 12, .tup [.int 11]], s1z (.int (l + 1)) .non]
def two1 (l : Int) : PV := .tup [s0 .non (.int l), s1z (.int (l + 1)) .non]
def pr (r : PV) (b : Bool) : PV := .tup [r, .bl b]
def outs : List PV := [.tup [s1z (.int 0) .non], .tup [s1z .non (.int 9)], .tup [s1z (.int 0) (.int 9)], .tup [s0 .non (.int 4), s1z (.int 5) (.int 9)], .tup [s0 (.int (-3)) (.int 4), s1z (.int 5) .non]]
def outs2 : List PV := [.tup [s0 .non (.bl false), s0 (.int 1) .non], .tup [s0 .non (.bl true), s0 (.int 2) .non], .tup [s0 .non (.int 0), s0 (.bl true) .non]]
def goods : List PV := [.tup [s0 .non (.int 0), s0 (.int 1) .non], .tup [s0 .non .non]]
abbrev elt27 : M RE := (xTup [(rdSlot 4), (rdSlot 4), (ret (.val (.int (1)))), (xTup [])])
section
variable {Φ : Orc} {Z1 Z2 L : List PV} {x0 x1 x3 x5 x6 a b a' b' : Sl} {st : List Cell}
theorem e27r {k : Int} : oneM (setSlot 4) (ret true) elt27 (.int k) ⟨[x0, x1, .none, x3, .none, x5, x6], st⟩ = .ok (lone k) ⟨[x0, x1, .none, x3, .val (.int k), x5, x6], st⟩ := by
  unfold lone
  simp
theorem comp27 (m : Int) (x0 x1 x3 x5 x6 : Sl) (st : List Cell) : ∃ a b, compGo [2, 4] (setSlot 4) (ret true) elt27 true (rngP 0 m) ⟨[x0, x1, .none, x3, .none, x5, x6], st⟩ = .ok ((rngN m.toNat).map lone) ⟨[x0, x1, a, x3, b, x5, x6], st⟩ := by
  obtain ⟨s', c1, c2, a, b, c3⟩ := compGo_f (own := [2, 4]) (tgt := setSlot 4) (tst := ret true) (elt := elt27)
    (I := fun t => t.st = st ∧ ∃ a b, t.env = [x0, x1, a, x3, b, x5, x6]) (f := PV.int) (g := lone) (rngN m.toNat) (fun u hu t ⟨h1, a, b, h2⟩ => by
      obtain ⟨env, st'⟩ := t
      cases h1; cases h2
      exact ⟨_, e27r, rfl, _, _, rfl⟩) ⟨[x0, x1, .none, x3, .none, x5, x6], st⟩ ⟨rfl, _, _, rfl⟩
  obtain ⟨env, st'⟩ := s'
  change st' = st at c2
  subst c2
  cases c3
  rw [← rngP_N] at c1
  exact ⟨a, b, c1⟩
theorem u1r (c1 : compGo [2, 4] (setSlot 4) (ret true) elt27 true (rngP 0 398) ⟨[.none, .none, .none, .val (.int 398), .none, .none, .none], st⟩ = .ok Z1 ⟨[.none, .none, a, .val (.int 398), b, .none, .none], st⟩) (c2 : compGo [2, 4] (setSlot 4) (ret true) elt27 true (rngP 0 399) ⟨[.none, .none, .none, .val (.int 399), .none, .none, .none], st⟩ = .ok Z2 ⟨[.none, .none, a', .val (.int 399), b', .none, .none], st⟩)
    (l1 : Z1.length = 398) (l2 : Z2.length = 399) : u1 Φ ⟨[.none, .none, .none, .none, .none, .none, .none], st⟩ = .ok .nx ⟨[.own (.lst [pr (bigR Z1 398) true, pr (bigR Z2 399) false]), .none, .none, .none, .none, .none, .none], st⟩ := by
  unfold u1 pr bigR s0
  simp [c1, c2, l1, l2]
theorem u2r (l : L.length ≤ 1000) : u2 Φ ⟨[.own (.lst L), .none, .none, .none, .none, .none, .none], st⟩ = .ok .nx ⟨[.own (.lst (L ++ [pr (two12 999) true, pr (two12 1000) false])), .none, .none, .none, .none, .none, .none], st⟩ := by
  have l1 : L.length + 2 ≤ 16777216 := by omega
  unfold u2 pr two12 s1z
  simp [l1]
theorem u3r (l : L.length ≤ 1000) : u3 Φ ⟨[.own (.lst L), .none, .none, .none, .none, .none, .none], st⟩ = .ok .nx ⟨[.own (.lst (L ++ [pr (two1 (-1000)) true, pr (two1 (-1001)) false])), .none, .none, .none, .none, .none, .none], st⟩ := by
  have l1 : L.length + 2 ≤ 16777216 := by omega
  unfold u3 pr two1 s1z s0
  simp [l1]
theorem u4r : u4 Φ ⟨[.own (.lst L), .none, .none, .none, .none, .none, .none], st⟩ = .ok .nx ⟨[.own (.lst L), .own (.lst outs), .none, .none, .none, .none, .none], st⟩ := by
  unfold u4 outs s1z s0
  simp
theorem u5r : u5 Φ ⟨[.own (.lst L), .own (.lst outs), .none, .none, .none, .none, .none], st⟩ = .ok .nx ⟨[.own (.lst L), .own (.lst (outs ++ outs2)), .none, .none, .none, .none, .none], st⟩ := by
  unfold u5 outs outs2 s1z s0
  simp
theorem u6r (l : L.length ≤ 1000) : finO (u6 Φ ⟨[.own (.lst L), .own (.lst (outs ++ outs2)), .none, .none, .none, .none, .none], st⟩) = .ok (.fresh (.lst (L ++ ((outs ++ outs2).map (pr · false) ++ goods.map (pr · true))))) st := by
  have l1 : L.length + 8 ≤ 16777216 := by omega
  have l2 : L.length + 8 + 2 ≤ 16777216 := by omega
  unfold u6 outs outs2 goods pr s1z s0
  simp [l1, l2]
end
def edges : List (PV × Bool) := [(bigR ((rngN 398).map lone) 398, true), (bigR ((rngN 399).map lone) 399, false), (two12 999, true), (two12 1000, false), (two1 (-1000), true), (two1 (-1001), false)] ++ ((outs ++ outs2).map (·, false) ++ goods.map (·, true))
theorem f27 (k : Nat) (st : List Cell) : evP TT (k + 1) 27 [] st = .ok (.fresh (.lst (edges.map fun p => pr p.1 p.2))) st := by
  obtain ⟨a, b, c1⟩ := comp27 398 .none .none (.val (.int 398)) .none .none st
  obtain ⟨a', b', c2⟩ := comp27 399 .none .none (.val (.int 399)) .none .none st
  have g1 : ((rngN (398 : Int).toNat).map lone).length = 398 := by rw [List.length_map, rngN, List.length_map, List.length_range]; rfl
  have g2 : ((rngN (399 : Int).toNat).map lone).length = 399 := by rw [List.length_map, rngN, List.length_map, List.length_range]; rfl
  have e : edges.map (fun p => pr p.1 p.2) = (([pr (bigR ((rngN (398 : Int).toNat).map lone) 398) true, pr (bigR ((rngN (399 : Int).toNat).map lone) 399) false] ++ [pr (two12 999) true, pr (two12 1000) false]) ++ [pr (two1 (-1000)) true, pr (two1 (-1001)) false]) ++ ((outs ++ outs2).map (pr · false) ++ goods.map (pr · true)) := rfl
  rw [e, p27, m27_eq]
  generalize (rngN (398 : Int).toNat).map lone = Z1 at *
  generalize (rngN (399 : Int).toNat).map lone = Z2 at *
  unfold uB
  rw [seqB_cons, u1r c1 c2 g1 g2, bind_ok]; dsimp only
  rw [seqB_cons, u2r (by simp), bind_ok]; dsimp only
  rw [seqB_cons, u3r (by simp), bind_ok]; dsimp only
  rw [seqB_cons, u4r, bind_ok]; dsimp only
  rw [seqB_cons, u5r, bind_ok]; dsimp only
  rw [seqB_one, u6r (by simp)]
/-! ### the rows at the bounds -/
def loneS (k : Int) : Sp := ⟨some k, some k, 1, []⟩
theorem res_nil (lo hi : Option Int) : Res ⟨lo, hi, 1, []⟩ := ⟨show (1 : Int) ≤ 1 by decide, show (1 : Int) ≤ 12 by decide, Nat.zero_le _, rfl, fun i h => by cases h⟩
theorem seg_lone {B : Int} : ∀ (N : Nat), (N : Int) ≤ B → Seg B (some 0) ((rngN N).map loneS) (some (N : Int))
  | 0, _ => rfl
  | N + 1, h => by
    have ih := seg_lone (B := B) N (by omega)
    have e : rngN (N + 1) = rngN N ++ [(N : Int)] := by rw [rngN, List.range_succ, List.map_append]; rfl
    rw [e, List.map_append]
    exact seg_snoc _ _ _ (loneS N) N ih rfl (res_nil _ _) rfl (by omega) fun l hl => by cases hl; omega
theorem chain_big (N : Nat) (h : N ≤ 900) : Chain 999 none (⟨none, some (-1), 1, []⟩ :: ((rngN N).map loneS ++ [⟨some (N : Int), none, 1, []⟩])) := by
  have sg : Seg 999 none (⟨none, some (-1), 1, []⟩ :: (rngN N).map loneS) (some (N : Int)) := by
    refine ⟨rfl, res_nil _ _, -1, rfl, by omega, (fun l hl => by cases hl), seg_lone N (by omega)⟩
  exact seg_end _ _ _ ⟨some (N : Int), none, 1, []⟩ sg rfl rfl (res_nil _ _)
theorem big_sp (N : Nat) : bigR ((rngN N).map lone) N = .tup ((⟨none, some (-1), 1, []⟩ :: ((rngN N).map loneS ++ [⟨some (N : Int), none, 1, []⟩]) : List Sp).map spv) := by
  rw [List.map_cons, List.map_append, List.map_map]
  rfl
def GoodE (p : PV × Bool) : Prop := ∃ ys, p.1 = .tup ys ∧ (∀ y ∈ ys, DatS y) ∧ rowB (.tup ys) = p.2
theorem big_ok : GoodE (bigR ((rngN 398).map lone) 398, true) := by
  refine ⟨_, big_sp 398, ?_, ?_⟩
  · intro y hy
    obtain ⟨x, _, rfl⟩ := List.mem_map.mp hy
    exact dat_spv x
  · refine chain_row (by decide) (chain_big 398 (by decide)) ?_
    rw [List.length_cons, List.length_append, List.length_map, rngN, List.length_map, List.length_range]
    decide
theorem big_no : GoodE (bigR ((rngN 399).map lone) 399, false) := by
  refine ⟨_, big_sp 399, ?_, ?_⟩
  · intro y hy
    obtain ⟨x, _, rfl⟩ := List.mem_map.mp hy
    exact dat_spv x
  · have hl : ((⟨none, some (-1), 1, []⟩ :: ((rngN 399).map loneS ++ [⟨some ((399 : Nat) : Int), none, 1, []⟩]) : List Sp).map spv).length = 401 := by
      rw [List.length_map, List.length_cons, List.length_append, List.length_map, rngN, List.length_map, List.length_range]
      rfl
    generalize ((⟨none, some (-1), 1, []⟩ :: ((rngN 399).map loneS ++ [⟨some ((399 : Nat) : Int), none, 1, []⟩]) : List Sp).map spv) = ys at hl
    show (tupB (.tup ys) 1 400 && spsB ys && adjB ys) = false
    have : tupB (.tup ys) 1 400 = false := by
      show (_ && decide ((ys.length : Int) ≤ 400)) = false
      rw [hl]
      exact Bool.and_false _
    rw [this]
    rfl
theorem dat_s {a b : PV} {s : Int} {rs : List Int} (ha : Dat a) (hb : Dat b) : DatS (.tup [a, b, .int s, .tup (rs.map .int)]) := dat4 ha hb trivial trivial (dat_ints rs)
theorem ds0 {a b : PV} (ha : Dat a) (hb : Dat b) : DatS (s0 a b) := dat_s (rs := []) ha hb
theorem ds1 {a b : PV} (ha : Dat a) (hb : Dat b) : DatS (s1z a b) := dat_s (rs := [0]) ha hb
theorem ge1 {x : PV} {q : Bool} (hx : DatS x) (h : rowB (.tup [x]) = q) : GoodE (.tup [x], q) := ⟨_, rfl, fun y hy => by rw [List.mem_singleton] at hy; rw [hy]; exact hx, h⟩
theorem ge2 {x z : PV} {q : Bool} (hx : DatS x) (hz : DatS z) (h : rowB (.tup [x, z]) = q) : GoodE (.tup [x, z], q) := ⟨_, rfl, fun y hy => by
  rcases List.mem_cons.mp hy with rfl | hy
  · exact hx
  · rw [List.mem_singleton] at hy; rw [hy]; exact hz, h⟩
theorem edges_ok : ∀ p ∈ edges, GoodE p := fun p hp => by
  have hp' : p ∈ [(bigR ((rngN 398).map lone) 398, true), (bigR ((rngN 399).map lone) 399, false), (two12 999, true), (two12 1000, false), (two1 (-1000), true), (two1 (-1001), false),
    (.tup [s1z (.int 0) .non], false), (.tup [s1z .non (.int 9)], false), (.tup [s1z (.int 0) (.int 9)], false), (.tup [s0 .non (.int 4), s1z (.int 5) (.int 9)], false), (.tup [s0 (.int (-3)) (.int 4), s1z (.int 5) .non], false),
    (.tup [s0 .non (.bl false), s0 (.int 1) .non], false), (.tup [s0 .non (.bl true), s0 (.int 2) .non], false), (.tup [s0 .non (.int 0), s0 (.bl true) .non], false), (.tup [s0 .non (.int 0), s0 (.int 1) .non], true), (.tup [s0 .non .non], true)] := hp
  simp only [List.mem_cons, List.not_mem_nil, or_false] at hp'
  rcases hp' with rfl | rfl | rfl | rfl | rfl | rfl | rfl | rfl | rfl | rfl | rfl | rfl | rfl | rfl | rfl | rfl
  · exact big_ok
  · exact big_no
  · exact ge2 (dat_s (rs := [11]) trivial trivial) (ds1 trivial trivial) rfl
  · exact ge2 (dat_s (rs := [11]) trivial trivial) (ds1 trivial trivial) rfl
  · exact ge2 (ds0 trivial trivial) (ds1 trivial trivial) rfl
  · exact ge2 (ds0 trivial trivial) (ds1 trivial trivial) rfl
  · exact ge1 (ds1 trivial trivial) rfl
  · exact ge1 (ds1 trivial trivial) rfl
  · exact ge1 (ds1 trivial trivial) rfl
  · exact ge2 (ds0 trivial trivial) (ds1 trivial trivial) rfl
  · exact ge2 (ds0 trivial trivial) (ds1 trivial trivial) rfl
  · exact ge2 (ds0 trivial trivial) (ds0 trivial trivial) rfl
  · exact ge2 (ds0 trivial trivial) (ds0 trivial trivial) rfl
  · exact ge2 (ds0 trivial trivial) (ds0 trivial trivial) rfl
  · exact ge2 (ds0 trivial trivial) (ds0 trivial trivial) rfl
  · exact ge1 (ds0 trivial trivial) rfl
theorem f13e (k : Nat) {p : PV × Bool} (h : GoodE p) (st : List Cell) : evP TT (k + 6) 13 [p.1] st = .ok (.val (.bl p.2)) st := by
  obtain ⟨ys, e, h1, h2⟩ := h
  rw [e, f13v k h1 st, h2]
end Ev

set_option linter.all false
set_option maxRecDepth 100000
set_option maxHeartbeats 1000000
namespace Ev
open PySem PySem.Spec L2
def v1 (Φ : Orc) : M Fl := (sSet 1 true (xCall Φ 17 [(rdSlot 0)]))
def v2 (Φ : Orc) : M Fl := (sSet 2 false (xCall Φ 21 [(rdSlot 1)]))
def v3 (Φ : Orc) : M Fl := (sIf (bnd (xCmp .IsNot (xCall Φ 13 [(rdSlot 2)]) (ret (.val (.bl true)))) asBool) (seqB [(sRet (ret (.val (.bl false))))]) (seqB []))
def v4 (Φ : Orc) : M Fl := (sIf (bnd (xCmp .NotEq (xComp [12, 13, 14] (tupAsg [13, 14]) (bnd (xCmp .NotEq (xBi .repr [(xCall Φ 13 [(rdSlot 13)])]) (xBi .repr [(rdSlot 14)])) asBool) (ret (.val (.int (1)))) (iOf (xCall Φ 27 []))) (xLst [])) asBool) (seqB [(sRet (ret (.val (.bl false))))]) (seqB []))
def v5 (Φ : Orc) : M Fl := (sSet 3 false (xBin .Add (xCall Φ 23 [(rdSlot 2)]) (xLst [(xBin .Pow (ret (.val (.int (10)))) (ret (.val (.int (9))))), (xNeg (xBin .Pow (ret (.val (.int (10)))) (ret (.val (.int (9)))))), (xBin .Sub (xCall Φ 18 [(rdSlot 1), (xBin .Mult (ret (.val (.int (2)))) (xBin .Pow (ret (.val (.int (10)))) (ret (.val (.int (9))))))]) (xBin .Pow (ret (.val (.int (10)))) (ret (.val (.int (9))))))])))
def v6b1 (Φ : Orc) : M Fl := (sSet 5 false (xBi .max [(xNeg (xBin .Pow (ret (.val (.int (10)))) (ret (.val (.int (9)))))), (xBi .min [(xBin .Pow (ret (.val (.int (10)))) (ret (.val (.int (9))))), (xBin .Sub (xBin .Add (xCall Φ 19 [(rdSlot 1), (rdSlot 3)]) (xCall Φ 18 [(rdSlot 1), (ret (.val (.int (27))))])) (ret (.val (.int (13)))))])]))
def v6b2 (Φ : Orc) : M Fl := (sIf (bnd (xCmp .NotEq (xBi .repr [(xCall Φ 14 [(rdSlot 2), (rdSlot 5)])]) (xBi .repr [(xCall Φ 22 [(rdSlot 2), (rdSlot 5)])])) asBool) (seqB [(sRet (ret (.val (.bl false))))]) (seqB []))
def v6b3 (Φ : Orc) : M Fl := (sIf (bnd (xCmp .NotEq (xBi .repr [(xCall Φ 15 [(rdSlot 2), (rdSlot 5)])]) (xBi .repr [(xCall Φ 26 [(rdSlot 2), (rdSlot 5)])])) asBool) (seqB [(sRet (ret (.val (.bl false))))]) (seqB []))
def v6bB (Φ : Orc) : M Fl := seqB [v6b1 Φ, v6b2 Φ, v6b3 Φ]
def v6 (Φ : Orc) : M Fl := (sFor (setSlot 4) (v6bB Φ) (iRng1 (ret (.val (.int (8))))))
def v7 (Φ : Orc) : M Fl := (sPar 6 7 (xBin .Sub (xCall Φ 18 [(rdSlot 1), (ret (.val (.int (60))))]) (ret (.val (.int (40))))) (xBin .Sub (xCall Φ 18 [(rdSlot 1), (ret (.val (.int (80))))]) (ret (.val (.int (40))))))
def v8 (Φ : Orc) : M Fl := (sIf (bnd (xCmp .NotEq (xBi .repr [(xCall Φ 16 [(rdSlot 2), (rdSlot 6), (rdSlot 7)])]) (xBi .repr [(xBi .len [(xComp [12, 15] (setSlot 15) (bnd (xCall Φ 22 [(rdSlot 2), (rdSlot 15)]) truM) (rdSlot 15) (iRng2 (rdSlot 6) (xBin .Add (rdSlot 7) (ret (.val (.int (1)))))))])])) asBool) (seqB [(sRet (ret (.val (.bl false))))]) (seqB []))
def v9 (Φ : Orc) : M Fl := (sPar 8 9 (xCall Φ 19 [(rdSlot 1), (xLst [(ret (.val (.int (5000)))), (xNeg (ret (.val (.int (9000))))), (xBin .Add (xBin .Pow (ret (.val (.int (10)))) (ret (.val (.int (8))))) (ret (.val (.int (7))))), (xNeg (xBin .Pow (ret (.val (.int (10)))) (ret (.val (.int (9))))))])]) (xBin .Add (ret (.val (.int (1)))) (xCall Φ 18 [(rdSlot 1), (ret (.val (.int (9))))])))
def v10 (Φ : Orc) : M Fl := (sSet 10 false (xIf (bnd (xCmp .Lt (rdSlot 8) (ret (.val (.int (0))))) asBool) (xSub (rdSlot 2) (ret (.val (.int (0))))) (xSub (rdSlot 2) (xNeg (ret (.val (.int (1))))))))
def v11 (Φ : Orc) : M Fl := (sIf (bnd (xCmp .NotEq (xBi .repr [(xCall Φ 16 [(rdSlot 2), (rdSlot 8), (xBin .Sub (xBin .Add (rdSlot 8) (xBin .Mult (xSub (rdSlot 10) (ret (.val (.int (2))))) (rdSlot 9))) (ret (.val (.int (1)))))])]) (xBi .repr [(xBin .Mult (rdSlot 9) (xBi .len [(xSub (rdSlot 10) (ret (.val (.int (3)))))]))])) asBool) (seqB [(sRet (ret (.val (.bl false))))]) (seqB []))
def v12 (Φ : Orc) : M Fl := (sSet 11 false (xCall Φ 24 [(rdSlot 1), (rdSlot 2)]))
def v13 (Φ : Orc) : M Fl := (sIf (tBool .Or [(bnd (xCmp .IsNot (xCall Φ 13 [(rdSlot 11)]) (ret (.val (.bl false)))) asBool), (bnd (xCmp .NotEq (xCall Φ 25 [(xCall Φ 18 [(rdSlot 1), (ret (.val (.int (4))))]), (rdSlot 11), (xBin .Pow (ret (.val (.int (10)))) (ret (.val (.int (10)))))]) (ret (.val (.str "spans")))) asBool)]) (seqB [(sRet (ret (.val (.bl false))))]) (seqB []))
def v14 (Φ : Orc) : M Fl := (sRet (xCmp .Eq (xCall Φ 25 [(xCall Φ 18 [(rdSlot 1), (ret (.val (.int (4))))]), (rdSlot 2), (xCall Φ 19 [(rdSlot 1), (xLst [(xBin .Add (xBin .Pow (ret (.val (.int (10)))) (ret (.val (.int (9))))) (ret (.val (.int (1))))), (xBin .Sub (xNeg (xBin .Pow (ret (.val (.int (10)))) (ret (.val (.int (9)))))) (ret (.val (.int (1))))), (ret (.val (.bl true))), (ret (.val .non)), (ret (.val (.str "5")))])])]) (ret (.val (.str "number")))))
def vB (Φ : Orc) : M Fl := seqB [v1 Φ, v2 Φ, v3 Φ, v4 Φ, v5 Φ, v6 Φ, v7 Φ, v8 Φ, v9 Φ, v10 Φ, v11 Φ, v12 Φ, v13 Φ, v14 Φ]
theorem m28_eq (Φ : Orc) : m28 Φ = vB Φ := rfl
@[simp] theorem iRng2_run (a b : M RE) (s : ES) : iRng2 a b s = (a s).bind fun r => bnd b fun r' => rng2M r r' := rfl
@[simp] theorem rng2M_run (i j : Int) (s : ES) : rng2M (.val (.int i)) (.val (.int j)) s = if rngOk i && rngOk j then .ok (rngP i j) s else .bad := rfl
@[simp] theorem isnot_bb (a b : Bool) : cmpV .IsNot (.bl a) (.bl b) = some (a != b) := by cases a <;> cases b <;> rfl
theorem repr_bl (b : Bool) : biV .repr [.bl b] = some (.val (.str (PyData.shown (.bool b)))) := by cases b <;> rfl
theorem repr_non : biV .repr [.non] = some (.val (.str (PyData.shown .none))) := rfl
theorem repr_i {x : Int} (h : Sm x) : biV .repr [.int x] = some (.val (.str (PyData.shown (.int x)))) := by
  rw [bi_repr]
  show (if showOk (.int x) = true then _ else _) = _
  have s : SeqAt.shaped (.int x) = true := by
    show (PyData.canLay0 _ && decide (PyData.depth _ ≤ 64)) = true
    simp [PyData.canLay0, PyData.depth]
  have : showOk (.int x) = true := by
    unfold showOk
    rw [s, show_int h, leaf_int h]
    simp [PyData.bulk]
  rw [if_pos this]
def clamp (z : Int) : Int := if (if z < 1000000000 then z else 1000000000) > -1000000000 then (if z < 1000000000 then z else 1000000000) else -1000000000
theorem clamp_bd (z : Int) : -1000000000 ≤ clamp z ∧ clamp z ≤ 1000000000 := by
  unfold clamp
  split <;> split <;> omega
abbrev tst4 (Φ : Orc) : M Bool := (bnd (xCmp .NotEq (xBi .repr [(xCall Φ 13 [(rdSlot 13)])]) (xBi .repr [(rdSlot 14)])) asBool)
abbrev tst8c (Φ : Orc) : M Bool := (bnd (xCall Φ 22 [(rdSlot 2), (rdSlot 15)]) truM)
section
variable {Φ : Orc} {V W R U bv : PV} {n m r low high a b p q c s t far w : Int} {ns : List Int} {es PS zs Rs : List PV} {x0 x1 x2 x3 x4 x5 x6 x7 x8 x9 x10 x11 x12 x13 x14 x15 y12 y13 y14 y15 : Sl} {st st1 st2 : List Cell} {tx : Str} {bb : Bool}
theorem v1r (h : Φ 17 [.scr ns] [] = .ok (.fresh (.lst [.int a, .int b])) []) : v1 Φ ⟨[.val (.scr ns), .none, x2, x3, x4, x5, x6, x7, x8, x9, x10, x11, x12, x13, x14, x15], []⟩ = .ok .nx ⟨[.val (.scr ns), .val (.box 0), x2, x3, x4, x5, x6, x7, x8, x9, x10, x11, x12, x13, x14, x15], [.lst [.int a, .int b]]⟩ := by
  unfold v1
  simp [h]
theorem v2r (h : Φ 21 [.box 0] st = .ok (.val V) st1) : v2 Φ ⟨[x0, .val (.box 0), x2, x3, x4, x5, x6, x7, x8, x9, x10, x11, x12, x13, x14, x15], st⟩ = .ok .nx ⟨[x0, .val (.box 0), .val V, x3, x4, x5, x6, x7, x8, x9, x10, x11, x12, x13, x14, x15], st1⟩ := by
  unfold v2
  simp [h]
theorem v3r (h : Φ 13 [V] st = .ok (.val (.bl true)) st) : v3 Φ ⟨[x0, x1, .val V, x3, x4, x5, x6, x7, x8, x9, x10, x11, x12, x13, x14, x15], st⟩ = .ok .nx ⟨[x0, x1, .val V, x3, x4, x5, x6, x7, x8, x9, x10, x11, x12, x13, x14, x15], st⟩ := by
  unfold v3
  simp [h]
theorem v4r (h : Φ 27 [] st = .ok (.fresh (.lst es)) st) (c1 : compGo [12, 13, 14] (tupAsg [13, 14]) (tst4 Φ) (ret (.val (.int 1))) true es ⟨[x0, x1, .val V, .none, .none, .none, .none, .none, .none, .none, .none, .none, .none, .none, .none, .none], st⟩ = .ok [] ⟨[x0, x1, .val V, .none, .none, .none, .none, .none, .none, .none, .none, .none, y12, y13, y14, .none], st⟩) :
    v4 Φ ⟨[x0, x1, .val V, .none, .none, .none, .none, .none, .none, .none, .none, .none, .none, .none, .none, .none], st⟩ = .ok .nx ⟨[x0, x1, .val V, .none, .none, .none, .none, .none, .none, .none, .none, .none, .none, .none, .none, .none], st⟩ := by
  have e : eqPV (.lst []) (.lst []) = some true := eq_intsL [] []
  unfold v4
  simp [-bi_repr, h, c1, e]
theorem t4r (h : Φ 13 [R] st = .ok (.val (.bl bb)) st) : tst4 Φ ⟨[x0, x1, .val V, .none, .none, .none, .none, .none, .none, .none, .none, .none, .none, .val R, .val (.bl bb), .none], st⟩ = .ok false ⟨[x0, x1, .val V, .none, .none, .none, .none, .none, .none, .none, .none, .none, .none, .val R, .val (.bl bb), .none], st⟩ := by
  simp [-bi_repr, h, repr_bl]
theorem v5r (h : Φ 23 [V] st = .ok (.fresh (.lst es)) st) (h2 : Φ 18 [.box 0, .int 2000000000] st = .ok (.val (.int r)) st1) (hl : es.length ≤ 1000) : v5 Φ ⟨[x0, .val (.box 0), .val V, x3, x4, x5, x6, x7, x8, x9, x10, x11, x12, x13, x14, x15], st⟩ = .ok .nx ⟨[x0, .val (.box 0), .val V, .own (.lst (es ++ [.int 1000000000, .int (-1000000000), .int (r - 1000000000)])), x4, x5, x6, x7, x8, x9, x10, x11, x12, x13, x14, x15], st1⟩ := by
  have l1 : es.length + 3 ≤ 16777216 := by omega
  unfold v5
  simp [h, h2, l1]
theorem clampL (z : Int) (e : ES) : optO (biV .max [.int (-1000000000), .int (if z < 1000000000 then z else 1000000000)]) e = .ok (.val (.int (clamp z))) e := rfl
theorem v61o (h : Φ 19 [.box 0, .lst PS] st = .ok (.val (.int p)) st1) (h2 : Φ 18 [.box 0, .int 27] st1 = .ok (.val (.int q)) st2) : v6b1 Φ ⟨[x0, .val (.box 0), x2, .own (.lst PS), x4, x5, x6, x7, x8, x9, x10, x11, x12, x13, x14, x15], st⟩ = .ok .nx ⟨[x0, .val (.box 0), x2, .val (.lst PS), x4, .val (.int (clamp (p + q - 13))), x6, x7, x8, x9, x10, x11, x12, x13, x14, x15], st2⟩ := by
  unfold v6b1
  simp [-bi_max2, -bi_min2, h, h2, show biV .min [.int 1000000000, .int (p + q - 13)] = some (.val (.int (if p + q - 13 < 1000000000 then p + q - 13 else 1000000000))) from rfl, clampL]
theorem v61v (h : Φ 19 [.box 0, .lst PS] st = .ok (.val (.int p)) st1) (h2 : Φ 18 [.box 0, .int 27] st1 = .ok (.val (.int q)) st2) : v6b1 Φ ⟨[x0, .val (.box 0), x2, .val (.lst PS), x4, x5, x6, x7, x8, x9, x10, x11, x12, x13, x14, x15], st⟩ = .ok .nx ⟨[x0, .val (.box 0), x2, .val (.lst PS), x4, .val (.int (clamp (p + q - 13))), x6, x7, x8, x9, x10, x11, x12, x13, x14, x15], st2⟩ := by
  unfold v6b1
  simp [-bi_max2, -bi_min2, h, h2, show biV .min [.int 1000000000, .int (p + q - 13)] = some (.val (.int (if p + q - 13 < 1000000000 then p + q - 13 else 1000000000))) from rfl, clampL]
theorem v62r (h : Φ 14 [V, .int n] st = .ok (.val (.bl bb)) st) (h2 : Φ 22 [V, .int n] st = .ok (.val (.bl bb)) st) : v6b2 Φ ⟨[x0, x1, .val V, x3, x4, .val (.int n), x6, x7, x8, x9, x10, x11, x12, x13, x14, x15], st⟩ = .ok .nx ⟨[x0, x1, .val V, x3, x4, .val (.int n), x6, x7, x8, x9, x10, x11, x12, x13, x14, x15], st⟩ := by
  unfold v6b2
  simp [-bi_repr, h, h2, repr_bl]
theorem v63r (h : Φ 15 [V, .int n] st = .ok (.val W) st) (h2 : Φ 26 [V, .int n] st = .ok (.val W) st) (hr : biV .repr [W] = some (.val (.str tx))) : v6b3 Φ ⟨[x0, x1, .val V, x3, x4, .val (.int n), x6, x7, x8, x9, x10, x11, x12, x13, x14, x15], st⟩ = .ok .nx ⟨[x0, x1, .val V, x3, x4, .val (.int n), x6, x7, x8, x9, x10, x11, x12, x13, x14, x15], st⟩ := by
  unfold v6b3
  simp [-bi_repr, h, h2, hr]
theorem v7r (h : Φ 18 [.box 0, .int 60] st = .ok (.val (.int p)) st1) (h2 : Φ 18 [.box 0, .int 80] st1 = .ok (.val (.int q)) st2) : v7 Φ ⟨[x0, .val (.box 0), x2, x3, x4, x5, x6, x7, x8, x9, x10, x11, x12, x13, x14, x15], st⟩ = .ok .nx ⟨[x0, .val (.box 0), x2, x3, x4, x5, .val (.int (p - 40)), .val (.int (q - 40)), x8, x9, x10, x11, x12, x13, x14, x15], st2⟩ := by
  unfold v7
  simp [h, h2]
theorem v8r (h : Φ 16 [V, .int low, .int high] st = .ok (.val (.int c)) st) (hl : rngOk low = true) (hh : rngOk (high + 1) = true) (c1 : compGo [12, 15] (setSlot 15) (tst8c Φ) (rdSlot 15) true (rngP low (high + 1)) ⟨[x0, x1, .val V, x3, x4, x5, .val (.int low), .val (.int high), x8, x9, x10, x11, .none, x13, x14, .none], st⟩ = .ok zs ⟨[x0, x1, .val V, x3, x4, x5, .val (.int low), .val (.int high), x8, x9, x10, x11, y12, x13, x14, y15], st⟩)
    (hz : ((zs.length : Nat) : Int) = c) (hz2 : zs.length ≤ 16777216) (hr : biV .repr [.int c] = some (.val (.str tx))) : v8 Φ ⟨[x0, x1, .val V, x3, x4, x5, .val (.int low), .val (.int high), x8, x9, x10, x11, .none, x13, x14, .none], st⟩ = .ok .nx ⟨[x0, x1, .val V, x3, x4, x5, .val (.int low), .val (.int high), x8, x9, x10, x11, .none, x13, x14, .none], st⟩ := by
  unfold v8
  simp [-bi_repr, h, hl, hh, c1, hz, hz2, hr]
theorem t8r (h : Φ 22 [V, .int n] st = .ok (.val (.bl bb)) st) : tst8c Φ ⟨[x0, x1, .val V, x3, x4, x5, x6, x7, x8, x9, x10, x11, .none, x13, x14, .val (.int n)], st⟩ = .ok bb ⟨[x0, x1, .val V, x3, x4, x5, x6, x7, x8, x9, x10, x11, .none, x13, x14, .val (.int n)], st⟩ := by
  cases bb <;> simp [h]
theorem v9r (h : Φ 19 [.box 0, .lst [.int 5000, .int (-9000), .int 100000007, .int (-1000000000)]] st = .ok (.val (.int far)) st1) (h2 : Φ 18 [.box 0, .int 9] st1 = .ok (.val (.int q)) st2) : v9 Φ ⟨[x0, .val (.box 0), x2, x3, x4, x5, x6, x7, x8, x9, x10, x11, x12, x13, x14, x15], st⟩ = .ok .nx ⟨[x0, .val (.box 0), x2, x3, x4, x5, x6, x7, .val (.int far), .val (.int (1 + q)), x10, x11, x12, x13, x14, x15], st2⟩ := by
  unfold v9
  simp [h, h2]
theorem v10l (hf : far < 0) (h : L2.atI es 0 = some W) : v10 Φ ⟨[x0, x1, .val (.tup es), x3, x4, x5, x6, x7, .val (.int far), x9, x10, x11, x12, x13, x14, x15], st⟩ = .ok .nx ⟨[x0, x1, .val (.tup es), x3, x4, x5, x6, x7, .val (.int far), x9, .val W, x11, x12, x13, x14, x15], st⟩ := by
  unfold v10
  simp [hf, h]
theorem v10g (hf : ¬ far < 0) (h : L2.atI es (-1) = some W) : v10 Φ ⟨[x0, x1, .val (.tup es), x3, x4, x5, x6, x7, .val (.int far), x9, x10, x11, x12, x13, x14, x15], st⟩ = .ok .nx ⟨[x0, x1, .val (.tup es), x3, x4, x5, x6, x7, .val (.int far), x9, .val W, x11, x12, x13, x14, x15], st⟩ := by
  unfold v10
  simp [hf, h]
theorem v11r (m1 : mulOk s t = true) (h : Φ 16 [V, .int far, .int (far + s * t - 1)] st = .ok (.val (.int (t * ((Rs.length : Nat) : Int)))) st) (m2 : mulOk t ((Rs.length : Nat) : Int) = true) (hr : biV .repr [.int (t * ((Rs.length : Nat) : Int))] = some (.val (.str tx))) : v11 Φ ⟨[x0, x1, .val V, x3, x4, x5, x6, x7, .val (.int far), .val (.int t), .val (.tup [U, W, .int s, .tup Rs]), x11, x12, x13, x14, x15], st⟩ = .ok .nx ⟨[x0, x1, .val V, x3, x4, x5, x6, x7, .val (.int far), .val (.int t), .val (.tup [U, W, .int s, .tup Rs]), x11, x12, x13, x14, x15], st⟩ := by
  unfold v11
  simp [-bi_repr, m1, h, m2, hr]
theorem v12r (h : Φ 24 [.box 0, V] st = .ok (.val bv) st1) : v12 Φ ⟨[x0, .val (.box 0), .val V, x3, x4, x5, x6, x7, x8, x9, x10, x11, x12, x13, x14, x15], st⟩ = .ok .nx ⟨[x0, .val (.box 0), .val V, x3, x4, x5, x6, x7, x8, x9, x10, .val bv, x12, x13, x14, x15], st1⟩ := by
  unfold v12
  simp [h]
theorem v13r (h : Φ 13 [bv] st = .ok (.val (.bl false)) st) (h2 : Φ 18 [.box 0, .int 4] st = .ok (.val (.int w)) st1) (h3 : Φ 25 [.int w, bv, .int 10000000000] st1 = .ok (.val (.str "spans")) st1) : v13 Φ ⟨[x0, .val (.box 0), .val V, x3, x4, x5, x6, x7, x8, x9, x10, .val bv, x12, x13, x14, x15], st⟩ = .ok .nx ⟨[x0, .val (.box 0), .val V, x3, x4, x5, x6, x7, x8, x9, x10, .val bv, x12, x13, x14, x15], st1⟩ := by
  unfold v13
  simp [h, h2, h3]
theorem v14r (h : Φ 18 [.box 0, .int 4] st = .ok (.val (.int w)) st1) (h2 : Φ 19 [.box 0, .lst [.int 1000000001, .int (-1000000001), .bl true, .non, .str "5"]] st1 = .ok (.val W) st2) (h3 : Φ 25 [.int w, V, W] st2 = .ok (.val (.str "number")) st2) : finO (v14 Φ ⟨[x0, .val (.box 0), .val V, x3, x4, x5, x6, x7, x8, x9, x10, x11, x12, x13, x14, x15], st⟩) = .ok (.val (.bl true)) st2 := by
  unfold v14
  simp [h, h2, h3]
end
end Ev

set_option linter.all false
set_option maxRecDepth 100000
set_option maxHeartbeats 1000000
namespace Ev
open PySem PySem.Spec L2
theorem lawNext_bd {c : Int → Bool} {n M m v : Int} (hm : m ≤ M) (h : lawNext c n M m = some v) : n ≤ v ∧ v ≤ max n M + 14 := by
  unfold lawNext at h
  have f1 := first_rng (fun t => c (n + t)) 14
  change match (rngN 14).filter (fun t => c (n + t)) with
    | [] => ∀ t : Int, 0 ≤ t → t < (14 : Nat) → c (n + t) = false
    | t0 :: _ => 0 ≤ t0 ∧ t0 < (14 : Nat) ∧ c (n + t0) = true ∧ ∀ t : Int, 0 ≤ t → t < t0 → c (n + t) = false at f1
  generalize (rngN 14).filter (fun t => c (n + t)) = l at f1 h
  cases l with
  | cons t0 l =>
    obtain ⟨h0, h1, _⟩ := f1
    cases h
    omega
  | nil =>
    dsimp only at h
    by_cases hM : M < n
    · rw [if_pos hM] at h; cases h
    · rw [if_neg hM] at h
      have hb : n ≤ (if m - 13 > n then m - 13 else n) ∧ (if m - 13 > n then m - 13 else n) ≤ M := by
        split <;> omega
      generalize (if m - 13 > n then m - 13 else n) = b at hb h
      have f2 := first_rng (fun t => c (b + t)) (M - b + 14).toNat
      change match (rngN (M - b + 14).toNat).filter (fun t => c (b + t)) with
        | [] => ∀ t : Int, 0 ≤ t → t < ((M - b + 14).toNat : Int) → c (b + t) = false
        | t0 :: _ => 0 ≤ t0 ∧ t0 < ((M - b + 14).toNat : Int) ∧ c (b + t0) = true ∧ ∀ t : Int, 0 ≤ t → t < t0 → c (b + t) = false at f2
      generalize (rngN (M - b + 14).toNat).filter (fun t => c (b + t)) = l at f2 h
      cases l with
      | cons t0 l =>
        obtain ⟨h0, h1, _⟩ := f2
        cases h
        omega
      | nil => cases h
theorem nextL_sm {xs : List Sp} (h : RowV xs) {n v : Int} (hn : -1000000000 ≤ n ∧ n ≤ 1000000000) (hv : nextL xs n = some v) : Sm v := by
  obtain ⟨M, m, hM, hm, hmM, ⟨d1, d2⟩, hp⟩ := ends_bd h
  obtain ⟨x, rest, x1, x2, x3, x4, x5⟩ := head_ok h.1
  obtain ⟨y, y1, y2, y3, y4⟩ := tail_ok xs none h.1
  have ok : IsNext (fun j => hasS xs j = true) n (lawNext (hasS xs) n M m) := by
    refine lawNext_ok (s := x.s) (s' := y.s) (r := x.r) (r' := y.r) hmM x2.s0 x2.s1 y2.s0 y2.s1 (fun j hj => ?_) fun j hj => ?_
    · unfold hasS
      rw [x5 j fun p hp' => ?_]
      · rfl
      · obtain ⟨_, w, w1, w2⟩ := x4 p hp'
        have := hp w w1 p w2
        omega
    · unfold hasS
      rw [y4 j (fun l hl => by cases hl) fun w hw q hq => ?_]
      · rfl
      · have := hp w hw q hq
        omega
  have ok2 : IsNext (fun j => hasS xs j = true) n (nextL xs n) := by
    have e : (fun j => hasS xs j = true) = memS xs := by
      funext j
      exact propext (has_mem xs none h.1 j)
    rw [e]
    exact nextL_ok xs none h.1 n
  rw [next_uniq ok2 ok] at hv
  have := lawNext_bd hmM hv
  unfold Sm
  omega
theorem repr_ov {o : Option Int} (h : ∀ v, o = some v → Sm v) : ∃ tx, biV .repr [ov o] = some (.val (.str tx)) := by
  cases o with
  | none => exact ⟨_, repr_non⟩
  | some v => exact ⟨_, repr_i (h v rfl)⟩
/-- one round -/
theorem round30 (k : Nat) {xs : List Sp} (h : RowV xs) {ps : List Int} (p0 : 0 < ps.length) (p1 : ps.length ≤ 1000) (x0 x3 x4 x5 x6 x7 x8 x9 x10 x11 x12 x13 x14 x15 : Sl) (h3 : x3 = .own (.lst (ps.map .int)) ∨ x3 = .val (.lst (ps.map .int))) (st : List Cell) (hc : Cups st) :
    ∃ y5 st', Cups st' ∧ v6bB (evP TT (k + 9)) ⟨[x0, .val (.box 0), .val (.tup (xs.map spv)), x3, x4, x5, x6, x7, x8, x9, x10, x11, x12, x13, x14, x15], st⟩ = .ok .nx ⟨[x0, .val (.box 0), .val (.tup (xs.map spv)), .val (.lst (ps.map .int)), x4, y5, x6, x7, x8, x9, x10, x11, x12, x13, x14, x15], st'⟩ := by
  obtain ⟨P, t1, e1, hP, hc⟩ := fsome (k + 7) (ps.map .int) (by rw [List.length_map]; exact p0) (by rw [List.length_map]; exact p1) st hc
  obtain ⟨p, _, rfl⟩ := List.mem_map.mp hP
  obtain ⟨q, t2, e2, q0, q1, hc⟩ := froll (k + 8) 27 (by decide) (by decide) t1 hc
  have hn := clamp_bd (p + q - 13)
  have a1 := f14 (k + 2) h hn t2
  have a2 := f22 (k + 8) h (clamp (p + q - 13)) t2
  have a3 := f15 (k + 2) h hn t2
  have a4 := f26 (k + 7) h hn t2
  obtain ⟨tx, a5⟩ := repr_ov (o := nextL xs (clamp (p + q - 13))) fun v hv => nextL_sm h hn hv
  refine ⟨.val (.int (clamp (p + q - 13))), t2, hc, ?_⟩
  generalize evP TT (k + 9) = Φ at *
  unfold v6bB
  rcases h3 with rfl | rfl
  · rw [seqB_cons, v61o e1 e2, bind_ok]; dsimp only
    rw [seqB_cons, v62r a1 a2, bind_ok]; dsimp only
    rw [seqB_one, v63r a3 a4 a5]
  · rw [seqB_cons, v61v e1 e2, bind_ok]; dsimp only
    rw [seqB_cons, v62r a1 a2, bind_ok]; dsimp only
    rw [seqB_one, v63r a3 a4 a5]
theorem loop30 (k : Nat) {xs : List Sp} (h : RowV xs) {ps : List Int} (p0 : 0 < ps.length) (p1 : ps.length ≤ 1000) (x0 x6 x7 x8 x9 x10 x11 x12 x13 x14 x15 : Sl) : ∀ (ts : List PV) (x3 x4 x5 : Sl) (h3 : x3 = .own (.lst (ps.map .int)) ∨ x3 = .val (.lst (ps.map .int))) (st : List Cell) (hc : Cups st),
    ∃ y3 y4 y5 st', Cups st' ∧ forM (setSlot 4) (v6bB (evP TT (k + 9))) ts ⟨[x0, .val (.box 0), .val (.tup (xs.map spv)), x3, x4, x5, x6, x7, x8, x9, x10, x11, x12, x13, x14, x15], st⟩ = .ok .nx ⟨[x0, .val (.box 0), .val (.tup (xs.map spv)), y3, y4, y5, x6, x7, x8, x9, x10, x11, x12, x13, x14, x15], st'⟩
  | [], x3, x4, x5, h3, st, hc => ⟨x3, x4, x5, st, hc, rfl⟩
  | t :: ts, x3, x4, x5, h3, st, hc => by
    obtain ⟨y5, st', hc', e⟩ := round30 k h p0 p1 x0 x3 (.val t) x5 x6 x7 x8 x9 x10 x11 x12 x13 x14 x15 h3 st hc
    have a1 : setSlot 4 t ⟨[x0, .val (.box 0), .val (.tup (xs.map spv)), x3, x4, x5, x6, x7, x8, x9, x10, x11, x12, x13, x14, x15], st⟩ = .ok () ⟨[x0, .val (.box 0), .val (.tup (xs.map spv)), x3, .val t, x5, x6, x7, x8, x9, x10, x11, x12, x13, x14, x15], st⟩ := by simp
    obtain ⟨z3, z4, z5, st2, hc2, e2⟩ := loop30 k h p0 p1 x0 x6 x7 x8 x9 x10 x11 x12 x13 x14 x15 ts (.val (.lst (ps.map .int))) (.val t) y5 (.inr rfl) st' hc'
    refine ⟨z3, z4, z5, st2, hc2, ?_⟩
    rw [forM_cons, a1, bind_ok, bnd_run, e, bind_ok, forK_nx, e2]
theorem comp4 (k : Nat) (x0 x1 : Sl) (V : PV) (st : List Cell) : ∃ y12 y13 y14, compGo [12, 13, 14] (tupAsg [13, 14]) (tst4 (evP TT (k + 9))) (ret (.val (.int 1))) true (edges.map fun p => pr p.1 p.2) ⟨[x0, x1, .val V, .none, .none, .none, .none, .none, .none, .none, .none, .none, .none, .none, .none, .none], st⟩ = .ok [] ⟨[x0, x1, .val V, .none, .none, .none, .none, .none, .none, .none, .none, .none, y12, y13, y14, .none], st⟩ := by
  obtain ⟨s', c1, c2, a, b, c, c3⟩ := compGo_fl (own := [12, 13, 14]) (tgt := tupAsg [13, 14]) (tst := tst4 (evP TT (k + 9))) (elt := ret (.val (.int 1)))
    (I := fun t => t.st = st ∧ ∃ a b c, t.env = [x0, x1, .val V, .none, .none, .none, .none, .none, .none, .none, .none, .none, a, b, c, .none]) (f := fun p : PV × Bool => pr p.1 p.2) (g := fun _ => .int 1) (c := fun _ => false) edges (fun p hp t ⟨h1, a, b, c, h2⟩ => by
      obtain ⟨env, st'⟩ := t
      cases h1; cases h2
      have g := f13e (k + 3) (edges_ok p hp) st'
      refine ⟨⟨[x0, x1, .val V, .none, .none, .none, .none, .none, .none, .none, .none, .none, .none, .val p.1, .val (.bl p.2), .none], st'⟩, _, by unfold pr; simp, t4r g, (fun h => by cases h), fun _ => ⟨rfl, _, _, _, rfl⟩⟩) ⟨[x0, x1, .val V, .none, .none, .none, .none, .none, .none, .none, .none, .none, .none, .none, .none, .none], st⟩ ⟨rfl, _, _, _, rfl⟩
  obtain ⟨env, st'⟩ := s'
  change st' = st at c2
  subst c2
  cases c3
  rw [show (edges.filter fun _ => false) = [] from List.filter_eq_nil_iff.mpr fun _ _ => by decide] at c1
  exact ⟨a, b, c, c1⟩
theorem comp8c (k : Nat) {xs : List Sp} (h : RowV xs) (low : Int) (N : Nat) (high : Int) (hh : high + 1 = low + N) (x0 x1 x3 x4 x5 x8 x9 x10 x11 x13 x14 : Sl) (st : List Cell) : ∃ y12 y15, compGo [12, 15] (setSlot 15) (tst8c (evP TT (k + 9))) (rdSlot 15) true (rngP low (high + 1)) ⟨[x0, x1, .val (.tup (xs.map spv)), x3, x4, x5, .val (.int low), .val (.int high), x8, x9, x10, x11, .none, x13, x14, .none], st⟩
    = .ok (((((List.range N).map fun (k : Nat) => low + (k : Int)).filter (hasS xs)).map PV.int)) ⟨[x0, x1, .val (.tup (xs.map spv)), x3, x4, x5, .val (.int low), .val (.int high), x8, x9, x10, x11, y12, x13, x14, y15], st⟩ := by
  obtain ⟨s', c1, c2, a, b, c3⟩ := compGo_fl (own := [12, 15]) (tgt := setSlot 15) (tst := tst8c (evP TT (k + 9))) (elt := rdSlot 15)
    (I := fun t => t.st = st ∧ ∃ a b, t.env = [x0, x1, .val (.tup (xs.map spv)), x3, x4, x5, .val (.int low), .val (.int high), x8, x9, x10, x11, a, x13, x14, b]) (f := PV.int) (g := PV.int) (c := hasS xs) ((List.range N).map fun (k : Nat) => low + (k : Int)) (fun u hu t ⟨h1, a, b, h2⟩ => by
      obtain ⟨env, st'⟩ := t
      change st' = st at h1
      subst h1
      cases h2
      have g := f22 (k + 8) h u st'
      generalize PV.tup (xs.map spv) = V at *
      refine ⟨⟨[x0, x1, .val V, x3, x4, x5, .val (.int low), .val (.int high), x8, x9, x10, x11, .none, x13, x14, .val (.int u)], st'⟩, _, by simp, t8r g, fun _ => ?_, fun _ => ⟨rfl, _, _, rfl⟩⟩
      exact ⟨.val (.int u), ⟨[x0, x1, .val V, x3, x4, x5, .val (.int low), .val (.int high), x8, x9, x10, x11, .none, x13, x14, .val (.int u)], st'⟩, ⟨[x0, x1, .val V, x3, x4, x5, .val (.int low), .val (.int high), x8, x9, x10, x11, .none, x13, x14, .val (.int u)], st'⟩, by simp, rfl, rfl, _, _, rfl⟩) ⟨[x0, x1, .val (.tup (xs.map spv)), x3, x4, x5, .val (.int low), .val (.int high), x8, x9, x10, x11, .none, x13, x14, .none], st⟩ ⟨rfl, _, _, rfl⟩
  obtain ⟨env, st'⟩ := s'
  change st' = st at c2
  subst c2
  cases c3
  have e : rngP low (high + 1) = ((List.range N).map fun (k : Nat) => low + (k : Int)).map PV.int := by
    unfold rngP
    rw [List.map_map, show (high + 1 - low).toNat = N by omega]
    rfl
  rw [e]
  exact ⟨a, b, c1⟩
end Ev

set_option linter.all false
set_option maxRecDepth 100000
set_option maxHeartbeats 1000000
namespace Ev
open PySem PySem.Spec L2
/-- the count near the ends -/
theorem count30 (k : Nat) {xs : List Sp} (h : RowV xs) {low high : Int} (l0 : -40 ≤ low ∧ low ≤ 40) (h0 : -40 ≤ high ∧ high ≤ 40) (x0 x1 x3 x4 x5 x8 x9 x10 x11 x13 x14 : Sl) (st : List Cell) :
    v8 (evP TT (k + 9)) ⟨[x0, x1, .val (.tup (xs.map spv)), x3, x4, x5, .val (.int low), .val (.int high), x8, x9, x10, x11, .none, x13, x14, .none], st⟩ = .ok .nx ⟨[x0, x1, .val (.tup (xs.map spv)), x3, x4, x5, .val (.int low), .val (.int high), x8, x9, x10, x11, .none, x13, x14, .none], st⟩ := by
  have g := f16 (k + 2) h (low := low) (high := high) (by omega) (by omega) st
  by_cases hlt : high + 1 < low
  · -- nothing lies between
    have z : (xs.map fun x => manyS x low high).sum = 0 := zero_sum _ _ fun x _ => many_none (by omega)
    rw [z] at g
    have e : rngP low (high + 1) = [] := by
      unfold rngP
      rw [show (high + 1 - low).toNat = 0 by omega]
      rfl
    have c1 : compGo [12, 15] (setSlot 15) (tst8c (evP TT (k + 9))) (rdSlot 15) true (rngP low (high + 1)) ⟨[x0, x1, .val (.tup (xs.map spv)), x3, x4, x5, .val (.int low), .val (.int high), x8, x9, x10, x11, .none, x13, x14, .none], st⟩ = .ok [] ⟨[x0, x1, .val (.tup (xs.map spv)), x3, x4, x5, .val (.int low), .val (.int high), x8, x9, x10, x11, .none, x13, x14, .none], st⟩ := by rw [e]; rfl
    exact v8r g (rngOk_s _ (by omega) (by omega)) (rngOk_s _ (by omega) (by omega)) c1 rfl (by simp) (repr_i (by unfold Sm; omega))
  · obtain ⟨N, hN⟩ : ∃ N : Nat, high + 1 = low + N := ⟨(high + 1 - low).toNat, by omega⟩
    obtain ⟨y12, y15, c1⟩ := comp8c k h low N high hN x0 x1 x3 x4 x5 x8 x9 x10 x11 x13 x14 st
    have ct := count_ok h low N
    rw [show low + (N : Int) - 1 = high by omega] at ct
    rw [ct] at g
    have fl := List.length_filter_le (hasS xs) ((List.range N).map fun (k : Nat) => low + (k : Int))
    rw [List.length_map, List.length_range] at fl
    exact v8r g (rngOk_s _ (by omega) (by omega)) (rngOk_s _ (by omega) (by omega)) c1 (by rw [List.length_map]) (by rw [List.length_map]; omega) (repr_i (by unfold Sm; omega))
theorem numbers_bad : ∀ W ∈ [PV.int 1000000001, .int (-1000000001), .bl true, .non, .str "5"], Dat W ∧ wholeB W (-1000000000) 1000000000 = false := fun W hW => by
  simp only [List.mem_cons, List.not_mem_nil, or_false] at hW
  rcases hW with rfl | rfl | rfl | rfl | rfl <;> exact ⟨trivial, rfl⟩
theorem fars_of {F : PV} (h : F ∈ [PV.int 5000, .int (-9000), .int 100000007, .int (-1000000000)]) : ∃ z : Int, F = .int z ∧ ((z < 0 ∧ -1000000000 ≤ z ∧ z ≤ -9000) ∨ (¬ z < 0 ∧ 5000 ≤ z ∧ z ≤ 100000007)) := by
  simp only [List.mem_cons, List.not_mem_nil, or_false] at h
  rcases h with rfl | rfl | rfl | rfl
  · exact ⟨_, rfl, .inr (by decide)⟩
  · exact ⟨_, rfl, .inl (by decide)⟩
  · exact ⟨_, rfl, .inr (by decide)⟩
  · exact ⟨_, rfl, .inl (by decide)⟩
/-- far out -/
theorem far30 (k : Nat) {xs : List Sp} (h : RowV xs) {far q : Int} (hf : (far < 0 ∧ -1000000000 ≤ far ∧ far ≤ -9000) ∨ (¬ far < 0 ∧ 5000 ≤ far ∧ far ≤ 100000007)) (q0 : 0 ≤ q) (q1 : q < 9) (x0 x1 x3 x4 x5 x6 x7 x10 x11 x12 x13 x14 x15 : Sl) (st : List Cell) : ∃ y10,
    v10 (evP TT (k + 9)) ⟨[x0, x1, .val (.tup (xs.map spv)), x3, x4, x5, x6, x7, .val (.int far), .val (.int (1 + q)), x10, x11, x12, x13, x14, x15], st⟩ = .ok .nx ⟨[x0, x1, .val (.tup (xs.map spv)), x3, x4, x5, x6, x7, .val (.int far), .val (.int (1 + q)), y10, x11, x12, x13, x14, x15], st⟩ ∧
    v11 (evP TT (k + 9)) ⟨[x0, x1, .val (.tup (xs.map spv)), x3, x4, x5, x6, x7, .val (.int far), .val (.int (1 + q)), y10, x11, x12, x13, x14, x15], st⟩ = .ok .nx ⟨[x0, x1, .val (.tup (xs.map spv)), x3, x4, x5, x6, x7, .val (.int far), .val (.int (1 + q)), y10, x11, x12, x13, x14, x15], st⟩ := by
  have key : ∀ x : Sp, Res x → (xs.map fun y => manyS y far (far + x.s * (1 + q) - 1)).sum = (1 + q) * x.r.length → v11 (evP TT (k + 9)) ⟨[x0, x1, .val (.tup (xs.map spv)), x3, x4, x5, x6, x7, .val (.int far), .val (.int (1 + q)), .val (spv x), x11, x12, x13, x14, x15], st⟩ = .ok .nx ⟨[x0, x1, .val (.tup (xs.map spv)), x3, x4, x5, x6, x7, .val (.int far), .val (.int (1 + q)), .val (spv x), x11, x12, x13, x14, x15], st⟩ := fun x hx e => by
    have s0 := hx.s0
    have s1 := hx.s1
    have rl := hx.len
    have b1 : x.s * (1 + q) ≤ 12 * 9 := Int.mul_le_mul s1 (by omega) (by omega) (by decide)
    have b2 : 1 ≤ x.s * (1 + q) := by
      have := Int.mul_le_mul s0 (show 1 ≤ 1 + q by omega) (by decide) (by omega)
      omega
    have b3 : (1 + q) * (x.r.length : Int) ≤ 9 * 12 := Int.mul_le_mul (by omega) (by omega) (by omega) (by decide)
    have b4 : 0 ≤ (1 + q) * (x.r.length : Int) := Int.mul_nonneg (by omega) (by omega)
    have g := f16 (k + 2) h (low := far) (high := far + x.s * (1 + q) - 1) (by omega) (by omega) st
    rw [e] at g
    have rl2 : ((x.r.map PV.int).length : Int) = x.r.length := by rw [List.length_map]
    rw [← rl2] at g b3 b4
    refine v11r (mulOk_r (by omega) (by omega)) g (mulOk_l (by omega) (by omega)) (repr_i ?_)
    unfold Sm
    omega
  rcases hf with ⟨hn, f1, f2⟩ | ⟨hn, f1, f2⟩
  · obtain ⟨x, rest, e, hx, hs⟩ := far_left h
    have s0 := hx.s0
    have s1 := hx.s1
    have b1 : x.s * (1 + q) ≤ 12 * 9 := Int.mul_le_mul s1 (by omega) (by omega) (by decide)
    refine ⟨.val (spv x), v10l hn ?_, key x hx (hs far (1 + q) (by omega) (by omega))⟩
    rw [e, List.map_cons, atI_0]
  · obtain ⟨x, e, _, hx, hs⟩ := far_right0 xs none h.1
    refine ⟨.val (spv x), v10g hn (atI_last ?_), key x hx (hs far (1 + q) (fun l hl => by cases hl) (by omega) (by omega))⟩
    rw [List.getLast?_map, e]
    rfl
theorem law30 (k : Nat) (ns : List Int) (hl : ns.length ≤ 63) : ∃ st, evP TT (k + 10) 28 [.scr ns] [] = .ok (.val (.bl true)) st := by
  obtain ⟨a, b, e1, a0, b0, b1⟩ := fcup (k + 8) ns [] hl
  have hc : Cups [.lst [.int a, .int b]] := ⟨a, b, rfl, a0, b0, b1⟩
  obtain ⟨xs, t2, e2, ch, xl, hc⟩ := f21 (k + 4) _ hc
  have h : RowV xs := ⟨ch, xl⟩
  have e3 := f13ok (k + 3) h t2
  have e4 := f27 (k + 8) t2
  obtain ⟨y12, y13, y14, c4⟩ := comp4 k (.val (.scr ns)) (.val (.box 0)) (.tup (xs.map spv)) t2
  have e5 := f23 (k + 8) h t2
  obtain ⟨r, t5, e5b, r0, r1, hc⟩ := froll (k + 8) 2000000000 (by decide) (by decide) t2 hc
  have el : (endsL xs).length ≤ 1000 := by
    unfold endsL
    rw [List.length_cons, List.length_map, List.length_dropLast]
    omega
  have s5 := v5r (x0 := .val (.scr ns)) (x3 := .none) (x4 := .none) (x5 := .none) (x6 := .none) (x7 := .none) (x8 := .none) (x9 := .none) (x10 := .none) (x11 := .none) (x12 := .none) (x13 := .none) (x14 := .none) (x15 := .none) e5 e5b (by rw [List.length_map]; exact el)
  have pe : (endsL xs).map PV.int ++ [.int 1000000000, .int (-1000000000), .int (r - 1000000000)] = (endsL xs ++ [1000000000, -1000000000, r - 1000000000]).map PV.int := by rw [List.map_append]; rfl
  rw [pe] at s5
  have p0 : 0 < (endsL xs ++ [1000000000, -1000000000, r - 1000000000]).length := by rw [List.length_append]; exact Nat.lt_of_lt_of_le (by decide) (Nat.le_add_left 3 _)
  have p1 : (endsL xs ++ [1000000000, -1000000000, r - 1000000000]).length ≤ 1000 := by
    unfold endsL
    rw [List.length_append, List.length_cons, List.length_map, List.length_dropLast]
    simp only [List.length_cons, List.length_nil]
    omega
  generalize endsL xs ++ [1000000000, -1000000000, r - 1000000000] = ps at s5 p0 p1
  obtain ⟨y3, y4, y5, t6, hc, e6⟩ := loop30 k h p0 p1 (.val (.scr ns)) .none .none .none .none .none .none .none .none .none .none (rngP 0 8) (.own (.lst (ps.map .int))) .none .none (.inl rfl) t5 hc
  obtain ⟨lo, t7, e7, l0, l1, hc⟩ := froll (k + 8) 60 (by decide) (by decide) t6 hc
  obtain ⟨hi, t8, e8, h0, h1, hc⟩ := froll (k + 8) 80 (by decide) (by decide) t7 hc
  have s8 := count30 k h (low := lo - 40) (high := hi - 40) (by omega) (by omega) (.val (.scr ns)) (.val (.box 0)) y3 y4 y5 .none .none .none .none .none .none t8
  obtain ⟨F, t9, e9, hF, hc⟩ := fsome (k + 7) [.int 5000, .int (-9000), .int 100000007, .int (-1000000000)] (by simp) (by simp) t8 hc
  obtain ⟨far, rfl, hfar⟩ := fars_of hF
  obtain ⟨q, t10, e10, q0, q1, hc⟩ := froll (k + 8) 9 (by decide) (by decide) t9 hc
  obtain ⟨y10, s10, s11⟩ := far30 k h hfar q0 q1 (.val (.scr ns)) (.val (.box 0)) y3 y4 y5 (.val (.int (lo - 40))) (.val (.int (hi - 40))) .none .none .none .none .none .none t10
  obtain ⟨bv, t12, e12, hb, hc⟩ := f24 (k + 6) h t10 hc
  have e13 := f13bad (k + 3) hb t12
  obtain ⟨w, t13, e13b, w0, w1, hc⟩ := froll (k + 8) 4 (by decide) (by decide) t12 hc
  have e13c := f25s (k + 1) hb (.int 10000000000) ⟨w0, w1⟩ t13
  obtain ⟨w', t14, e14, w0', w1', hc⟩ := froll (k + 8) 4 (by decide) (by decide) t13 hc
  obtain ⟨W, t15, e15, hW, hc⟩ := fsome (k + 7) [.int 1000000001, .int (-1000000001), .bl true, .non, .str "5"] (by simp) (by simp) t14 hc
  obtain ⟨dW, bW⟩ := numbers_bad W hW
  have e16 := f25n (k + 1) h dW bW ⟨w0', w1'⟩ t15
  refine ⟨t15, ?_⟩
  rw [p28, m28_eq]
  unfold vB
  generalize evP TT (k + 9) = Φ at *
  rw [seqB_cons, v1r e1, bind_ok]; dsimp only
  rw [seqB_cons, v2r e2, bind_ok]; dsimp only
  rw [seqB_cons, v3r e3, bind_ok]; dsimp only
  rw [seqB_cons, v4r e4 c4, bind_ok]; dsimp only
  rw [seqB_cons, s5, bind_ok]; dsimp only
  have a6 : iRng1 (ret (.val (.int 8))) ⟨[.val (.scr ns), .val (.box 0), .val (.tup (xs.map spv)), .own (.lst (ps.map .int)), .none, .none, .none, .none, .none, .none, .none, .none, .none, .none, .none, .none], t5⟩ = .ok (rngP 0 8) ⟨[.val (.scr ns), .val (.box 0), .val (.tup (xs.map spv)), .own (.lst (ps.map .int)), .none, .none, .none, .none, .none, .none, .none, .none, .none, .none, .none, .none], t5⟩ := rfl
  rw [seqB_cons]
  unfold v6
  rw [sFor_run, a6, bind_ok, e6, bind_ok]; dsimp only
  rw [seqB_cons, v7r e7 e8, bind_ok]; dsimp only
  rw [seqB_cons, s8, bind_ok]; dsimp only
  rw [seqB_cons, v9r e9 e10, bind_ok]; dsimp only
  rw [seqB_cons, s10, bind_ok]; dsimp only
  rw [seqB_cons, s11, bind_ok]; dsimp only
  rw [seqB_cons, v12r e12, bind_ok]; dsimp only
  rw [seqB_cons, v13r e13 e13b e13c, bind_ok]; dsimp only
  rw [seqB_one]
  exact v14r e14 e15 e16
theorem math (ns : List Int) (h : ns.length ≤ 63 ∧ ∀ z ∈ ns, Builtin.Int.intBits z ≤ 1048576) : ∃ st, evP (TAB.map DefT.e) 150 28 [.scr ns] [] = .ok (.val (.bl true)) st := law30 140 ns h.1
end Ev

namespace Ev
open PySem PySem.Spec L2
theorem scope_0 : FnScope N0 d0.ps (defScope (top 6)) := ⟨rfl, rfl, rfl, by decide +kernel, rfl, by decide +kernel, by decide +kernel⟩
theorem binds_0 : ∀ (kV dc pm : Value) (an : Option Addr) (cd ct : Value) (us : List Value), us.length = d0.ps.length → bindArgs (PySem.W.fnOf "is_whole" "is_whole" (defArgs (top 6)) (defBody (top 6)) (defScope (top 6)) .none kV dc pm an cd ct) ⟨us, []⟩ = pure (d0.ps.zip us) := fun _ _ _ _ _ _ us hl => match us, hl with | [_, _, _], _ => rfl
theorem scope_1 : FnScope N1 d1.ps (defScope (top 7)) := ⟨rfl, rfl, rfl, by decide +kernel, rfl, by decide +kernel, by decide +kernel⟩
theorem binds_1 : ∀ (kV dc pm : Value) (an : Option Addr) (cd ct : Value) (us : List Value), us.length = d1.ps.length → bindArgs (PySem.W.fnOf "is_tuple_of" "is_tuple_of" (defArgs (top 7)) (defBody (top 7)) (defScope (top 7)) .none kV dc pm an cd ct) ⟨us, []⟩ = pure (d1.ps.zip us) := fun _ _ _ _ _ _ us hl => match us, hl with | [_, _, _], _ => rfl
theorem scope_2 : FnScope N2 d2.ps (defScope (top 12)) := ⟨rfl, rfl, rfl, by decide +kernel, rfl, by decide +kernel, by decide +kernel⟩
theorem binds_2 : ∀ (kV dc pm : Value) (an : Option Addr) (cd ct : Value) (us : List Value), us.length = d2.ps.length → bindArgs (PySem.W.fnOf "ascends" "ascends" (defArgs (top 12)) (defBody (top 12)) (defScope (top 12)) .none kV dc pm an cd ct) ⟨us, []⟩ = pure (d2.ps.zip us) := fun _ _ _ _ _ _ us hl => match us, hl with | [_], _ => rfl
theorem scope_3 : FnScope N3 d3.ps (defScope (top 13)) := ⟨rfl, rfl, rfl, by decide +kernel, rfl, by decide +kernel, by decide +kernel⟩
theorem binds_3 : ∀ (kV dc pm : Value) (an : Option Addr) (cd ct : Value) (us : List Value), us.length = d3.ps.length → bindArgs (PySem.W.fnOf "is_place" "is_place" (defArgs (top 13)) (defBody (top 13)) (defScope (top 13)) .none kV dc pm an cd ct) ⟨us, []⟩ = pure (d3.ps.zip us) := fun _ _ _ _ _ _ us hl => match us, hl with | [_], _ => rfl
theorem scope_4 : FnScope N4 d4.ps (defScope (top 14)) := ⟨rfl, rfl, rfl, by decide +kernel, rfl, by decide +kernel, by decide +kernel⟩
theorem binds_4 : ∀ (kV dc pm : Value) (an : Option Addr) (cd ct : Value) (us : List Value), us.length = d4.ps.length → bindArgs (PySem.W.fnOf "fits_span" "fits_span" (defArgs (top 14)) (defBody (top 14)) (defScope (top 14)) .none kV dc pm an cd ct) ⟨us, []⟩ = pure (d4.ps.zip us) := fun _ _ _ _ _ _ us hl => match us, hl with | [_, _, _], _ => rfl
theorem scope_5 : FnScope N5 d5.ps (defScope (top 15)) := ⟨rfl, rfl, rfl, by decide +kernel, rfl, by decide +kernel, by decide +kernel⟩
theorem binds_5 : ∀ (kV dc pm : Value) (an : Option Addr) (cd ct : Value) (us : List Value), us.length = d5.ps.length → bindArgs (PySem.W.fnOf "fits_row" "fits_row" (defArgs (top 15)) (defBody (top 15)) (defScope (top 15)) .none kV dc pm an cd ct) ⟨us, []⟩ = pure (d5.ps.zip us) := fun _ _ _ _ _ _ us hl => match us, hl with | [_], _ => rfl
theorem scope_6 : FnScope N6 d6.ps (defScope (top 16)) := ⟨rfl, rfl, rfl, by decide +kernel, rfl, by decide +kernel, by decide +kernel⟩
theorem binds_6 : ∀ (kV dc pm : Value) (an : Option Addr) (cd ct : Value) (us : List Value), us.length = d6.ps.length → bindArgs (PySem.W.fnOf "need_spans" "need_spans" (defArgs (top 16)) (defBody (top 16)) (defScope (top 16)) .none kV dc pm an cd ct) ⟨us, []⟩ = pure (d6.ps.zip us) := fun _ _ _ _ _ _ us hl => match us, hl with | [_], _ => rfl
theorem scope_7 : FnScope N7 d7.ps (defScope (top 17)) := ⟨rfl, rfl, rfl, by decide +kernel, rfl, by decide +kernel, by decide +kernel⟩
theorem binds_7 : ∀ (kV dc pm : Value) (an : Option Addr) (cd ct : Value) (us : List Value), us.length = d7.ps.length → bindArgs (PySem.W.fnOf "need_place" "need_place" (defArgs (top 17)) (defBody (top 17)) (defScope (top 17)) .none kV dc pm an cd ct) ⟨us, []⟩ = pure (d7.ps.zip us) := fun _ _ _ _ _ _ us hl => match us, hl with | [_], _ => rfl
theorem scope_8 : FnScope N8 d8.ps (defScope (top 18)) := ⟨rfl, rfl, rfl, by decide +kernel, rfl, by decide +kernel, by decide +kernel⟩
theorem binds_8 : ∀ (kV dc pm : Value) (an : Option Addr) (cd ct : Value) (us : List Value), us.length = d8.ps.length → bindArgs (PySem.W.fnOf "span_at" "span_at" (defArgs (top 18)) (defBody (top 18)) (defScope (top 18)) .none kV dc pm an cd ct) ⟨us, []⟩ = pure (d8.ps.zip us) := fun _ _ _ _ _ _ us hl => match us, hl with | [_, _], _ => rfl
theorem scope_9 : FnScope N9 d9.ps (defScope (top 19)) := ⟨rfl, rfl, rfl, by decide +kernel, rfl, by decide +kernel, by decide +kernel⟩
theorem binds_9 : ∀ (kV dc pm : Value) (an : Option Addr) (cd ct : Value) (us : List Value), us.length = d9.ps.length → bindArgs (PySem.W.fnOf "is_in" "is_in" (defArgs (top 19)) (defBody (top 19)) (defScope (top 19)) .none kV dc pm an cd ct) ⟨us, []⟩ = pure (d9.ps.zip us) := fun _ _ _ _ _ _ us hl => match us, hl with | [_, _], _ => rfl
theorem scope_10 : FnScope N10 d10.ps (defScope (top 20)) := ⟨rfl, rfl, rfl, by decide +kernel, rfl, by decide +kernel, by decide +kernel⟩
theorem binds_10 : ∀ (kV dc pm : Value) (an : Option Addr) (cd ct : Value) (us : List Value), us.length = d10.ps.length → bindArgs (PySem.W.fnOf "next_of" "next_of" (defArgs (top 20)) (defBody (top 20)) (defScope (top 20)) .none kV dc pm an cd ct) ⟨us, []⟩ = pure (d10.ps.zip us) := fun _ _ _ _ _ _ us hl => match us, hl with | [_, _], _ => rfl
theorem scope_11 : FnScope N11 d11.ps (defScope (top 21)) := ⟨rfl, rfl, rfl, by decide +kernel, rfl, by decide +kernel, by decide +kernel⟩
theorem binds_11 : ∀ (kV dc pm : Value) (an : Option Addr) (cd ct : Value) (us : List Value), us.length = d11.ps.length → bindArgs (PySem.W.fnOf "many_up_to" "many_up_to" (defArgs (top 21)) (defBody (top 21)) (defScope (top 21)) .none kV dc pm an cd ct) ⟨us, []⟩ = pure (d11.ps.zip us) := fun _ _ _ _ _ _ us hl => match us, hl with | [_, _], _ => rfl
theorem scope_12 : FnScope N12 d12.ps (defScope (top 22)) := ⟨rfl, rfl, rfl, by decide +kernel, rfl, by decide +kernel, by decide +kernel⟩
theorem binds_12 : ∀ (kV dc pm : Value) (an : Option Addr) (cd ct : Value) (us : List Value), us.length = d12.ps.length → bindArgs (PySem.W.fnOf "many_in" "many_in" (defArgs (top 22)) (defBody (top 22)) (defScope (top 22)) .none kV dc pm an cd ct) ⟨us, []⟩ = pure (d12.ps.zip us) := fun _ _ _ _ _ _ us hl => match us, hl with | [_, _, _], _ => rfl
theorem scope_13 : FnScope N13 d13.ps (defScope (top 23)) := ⟨rfl, rfl, rfl, by decide +kernel, rfl, by decide +kernel, by decide +kernel⟩
theorem binds_13 : ∀ (kV dc pm : Value) (an : Option Addr) (cd ct : Value) (us : List Value), us.length = d13.ps.length → bindArgs (PySem.W.fnOf "is_row" "is_row" (defArgs (top 23)) (defBody (top 23)) (defScope (top 23)) .none kV dc pm an cd ct) ⟨us, []⟩ = pure (d13.ps.zip us) := fun _ _ _ _ _ _ us hl => match us, hl with | [_], _ => rfl
theorem scope_14 : FnScope N14 d14.ps (defScope (top 24)) := ⟨rfl, rfl, rfl, by decide +kernel, rfl, by decide +kernel, by decide +kernel⟩
theorem binds_14 : ∀ (kV dc pm : Value) (an : Option Addr) (cd ct : Value) (us : List Value), us.length = d14.ps.length → bindArgs (PySem.W.fnOf "has_number" "has_number" (defArgs (top 24)) (defBody (top 24)) (defScope (top 24)) .none kV dc pm an cd ct) ⟨us, []⟩ = pure (d14.ps.zip us) := fun _ _ _ _ _ _ us hl => match us, hl with | [_, _], _ => rfl
theorem scope_15 : FnScope N15 d15.ps (defScope (top 25)) := ⟨rfl, rfl, rfl, by decide +kernel, rfl, by decide +kernel, by decide +kernel⟩
theorem binds_15 : ∀ (kV dc pm : Value) (an : Option Addr) (cd ct : Value) (us : List Value), us.length = d15.ps.length → bindArgs (PySem.W.fnOf "next_in" "next_in" (defArgs (top 25)) (defBody (top 25)) (defScope (top 25)) .none kV dc pm an cd ct) ⟨us, []⟩ = pure (d15.ps.zip us) := fun _ _ _ _ _ _ us hl => match us, hl with | [_, _], _ => rfl
theorem scope_16 : FnScope N16 d16.ps (defScope (top 26)) := ⟨rfl, rfl, rfl, by decide +kernel, rfl, by decide +kernel, by decide +kernel⟩
theorem binds_16 : ∀ (kV dc pm : Value) (an : Option Addr) (cd ct : Value) (us : List Value), us.length = d16.ps.length → bindArgs (PySem.W.fnOf "count_in" "count_in" (defArgs (top 26)) (defBody (top 26)) (defScope (top 26)) .none kV dc pm an cd ct) ⟨us, []⟩ = pure (d16.ps.zip us) := fun _ _ _ _ _ _ us hl => match us, hl with | [_, _, _], _ => rfl
theorem scope_17 : FnScope N17 d17.ps (defScope (top 28)) := ⟨rfl, rfl, rfl, by decide +kernel, rfl, by decide +kernel, by decide +kernel⟩
theorem binds_17 : ∀ (kV dc pm : Value) (an : Option Addr) (cd ct : Value) (us : List Value), us.length = d17.ps.length → bindArgs (PySem.W.fnOf "_law_cup" "_law_cup" (defArgs (top 28)) (defBody (top 28)) (defScope (top 28)) .none kV dc pm an cd ct) ⟨us, []⟩ = pure (d17.ps.zip us) := fun _ _ _ _ _ _ us hl => match us, hl with | [_], _ => rfl
theorem scope_18 : FnScope N18 d18.ps (defScope (top 29)) := ⟨rfl, rfl, rfl, by decide +kernel, rfl, by decide +kernel, by decide +kernel⟩
theorem binds_18 : ∀ (kV dc pm : Value) (an : Option Addr) (cd ct : Value) (us : List Value), us.length = d18.ps.length → bindArgs (PySem.W.fnOf "_law_roll" "_law_roll" (defArgs (top 29)) (defBody (top 29)) (defScope (top 29)) .none kV dc pm an cd ct) ⟨us, []⟩ = pure (d18.ps.zip us) := fun _ _ _ _ _ _ us hl => match us, hl with | [_, _], _ => rfl
theorem scope_19 : FnScope N19 d19.ps (defScope (top 30)) := ⟨rfl, rfl, rfl, by decide +kernel, rfl, by decide +kernel, by decide +kernel⟩
theorem binds_19 : ∀ (kV dc pm : Value) (an : Option Addr) (cd ct : Value) (us : List Value), us.length = d19.ps.length → bindArgs (PySem.W.fnOf "_law_some" "_law_some" (defArgs (top 30)) (defBody (top 30)) (defScope (top 30)) .none kV dc pm an cd ct) ⟨us, []⟩ = pure (d19.ps.zip us) := fun _ _ _ _ _ _ us hl => match us, hl with | [_, _], _ => rfl
theorem scope_20 : FnScope N20 d20.ps (defScope (top 31)) := ⟨rfl, rfl, rfl, by decide +kernel, rfl, by decide +kernel, by decide +kernel⟩
theorem binds_20 : ∀ (kV dc pm : Value) (an : Option Addr) (cd ct : Value) (us : List Value), us.length = d20.ps.length → bindArgs (PySem.W.fnOf "_law_residues" "_law_residues" (defArgs (top 31)) (defBody (top 31)) (defScope (top 31)) .none kV dc pm an cd ct) ⟨us, []⟩ = pure (d20.ps.zip us) := fun _ _ _ _ _ _ us hl => match us, hl with | [_, _], _ => rfl
theorem scope_21 : FnScope N21 d21.ps (defScope (top 32)) := ⟨rfl, rfl, rfl, by decide +kernel, rfl, by decide +kernel, by decide +kernel⟩
theorem binds_21 : ∀ (kV dc pm : Value) (an : Option Addr) (cd ct : Value) (us : List Value), us.length = d21.ps.length → bindArgs (PySem.W.fnOf "_law_spans" "_law_spans" (defArgs (top 32)) (defBody (top 32)) (defScope (top 32)) .none kV dc pm an cd ct) ⟨us, []⟩ = pure (d21.ps.zip us) := fun _ _ _ _ _ _ us hl => match us, hl with | [_], _ => rfl
theorem scope_22 : FnScope N22 d22.ps (defScope (top 33)) := ⟨rfl, rfl, rfl, by decide +kernel, rfl, by decide +kernel, by decide +kernel⟩
theorem binds_22 : ∀ (kV dc pm : Value) (an : Option Addr) (cd ct : Value) (us : List Value), us.length = d22.ps.length → bindArgs (PySem.W.fnOf "_law_has" "_law_has" (defArgs (top 33)) (defBody (top 33)) (defScope (top 33)) .none kV dc pm an cd ct) ⟨us, []⟩ = pure (d22.ps.zip us) := fun _ _ _ _ _ _ us hl => match us, hl with | [_, _], _ => rfl
theorem scope_23 : FnScope N23 d23.ps (defScope (top 34)) := ⟨rfl, rfl, rfl, by decide +kernel, rfl, by decide +kernel, by decide +kernel⟩
theorem binds_23 : ∀ (kV dc pm : Value) (an : Option Addr) (cd ct : Value) (us : List Value), us.length = d23.ps.length → bindArgs (PySem.W.fnOf "_law_ends" "_law_ends" (defArgs (top 34)) (defBody (top 34)) (defScope (top 34)) .none kV dc pm an cd ct) ⟨us, []⟩ = pure (d23.ps.zip us) := fun _ _ _ _ _ _ us hl => match us, hl with | [_], _ => rfl
theorem scope_24 : FnScope N24 d24.ps (defScope (top 35)) := ⟨rfl, rfl, rfl, by decide +kernel, rfl, by decide +kernel, by decide +kernel⟩
theorem binds_24 : ∀ (kV dc pm : Value) (an : Option Addr) (cd ct : Value) (us : List Value), us.length = d24.ps.length → bindArgs (PySem.W.fnOf "_law_bent" "_law_bent" (defArgs (top 35)) (defBody (top 35)) (defScope (top 35)) .none kV dc pm an cd ct) ⟨us, []⟩ = pure (d24.ps.zip us) := fun _ _ _ _ _ _ us hl => match us, hl with | [_, _], _ => rfl
theorem scope_25 : FnScope N25 d25.ps (defScope (top 36)) := ⟨rfl, rfl, rfl, by decide +kernel, rfl, by decide +kernel, by decide +kernel⟩
theorem binds_25 : ∀ (kV dc pm : Value) (an : Option Addr) (cd ct : Value) (us : List Value), us.length = d25.ps.length → bindArgs (PySem.W.fnOf "_law_error" "_law_error" (defArgs (top 36)) (defBody (top 36)) (defScope (top 36)) .none kV dc pm an cd ct) ⟨us, []⟩ = pure (d25.ps.zip us) := fun _ _ _ _ _ _ us hl => match us, hl with | [_, _, _], _ => rfl
theorem scope_26 : FnScope N26 d26.ps (defScope (top 37)) := ⟨rfl, rfl, rfl, by decide +kernel, rfl, by decide +kernel, by decide +kernel⟩
theorem binds_26 : ∀ (kV dc pm : Value) (an : Option Addr) (cd ct : Value) (us : List Value), us.length = d26.ps.length → bindArgs (PySem.W.fnOf "_law_next" "_law_next" (defArgs (top 37)) (defBody (top 37)) (defScope (top 37)) .none kV dc pm an cd ct) ⟨us, []⟩ = pure (d26.ps.zip us) := fun _ _ _ _ _ _ us hl => match us, hl with | [_, _], _ => rfl
theorem scope_27 : FnScope N27 d27.ps (defScope (top 38)) := ⟨rfl, rfl, rfl, by decide +kernel, rfl, by decide +kernel, by decide +kernel⟩
theorem binds_27 : ∀ (kV dc pm : Value) (an : Option Addr) (cd ct : Value) (us : List Value), us.length = d27.ps.length → bindArgs (PySem.W.fnOf "_law_edges" "_law_edges" (defArgs (top 38)) (defBody (top 38)) (defScope (top 38)) .none kV dc pm an cd ct) ⟨us, []⟩ = pure (d27.ps.zip us) := fun _ _ _ _ _ _ us hl => match us, hl with | [], _ => rfl
theorem scope_28 : FnScope N28 d28.ps (defScope (top 39)) := ⟨rfl, rfl, rfl, by decide +kernel, rfl, by decide +kernel, by decide +kernel⟩
theorem binds_28 : ∀ (kV dc pm : Value) (an : Option Addr) (cd ct : Value) (us : List Value), us.length = d28.ps.length → bindArgs (PySem.W.fnOf "law" "law" (defArgs (top 39)) (defBody (top 39)) (defScope (top 39)) .none kV dc pm an cd ct) ⟨us, []⟩ = pure (d28.ps.zip us) := fun _ _ _ _ _ _ us hl => match us, hl with | [_], _ => rfl
theorem all_end {l : PySem.W.OpenLaw} {w : World} {K : PySem.W.Frag} {h : Heap} {mg : Str → Option Value} {fa : Addr} (X : K.In h) (G : h.Ns mainGlobals mg) (hfa : mg "law" = some (.ref fa))
    {f0 : Addr} {od0 an0 : Option Addr} {sl0 : Array (Option Value)} {oc0 kV0 dc0 pm0 cd0 ct0 : Value}
    {f1 : Addr} {od1 an1 : Option Addr} {sl1 : Array (Option Value)} {oc1 kV1 dc1 pm1 cd1 ct1 : Value}
    {f2 : Addr} {od2 an2 : Option Addr} {sl2 : Array (Option Value)} {oc2 kV2 dc2 pm2 cd2 ct2 : Value}
    {f3 : Addr} {od3 an3 : Option Addr} {sl3 : Array (Option Value)} {oc3 kV3 dc3 pm3 cd3 ct3 : Value}
    {f4 : Addr} {od4 an4 : Option Addr} {sl4 : Array (Option Value)} {oc4 kV4 dc4 pm4 cd4 ct4 : Value}
    {f5 : Addr} {od5 an5 : Option Addr} {sl5 : Array (Option Value)} {oc5 kV5 dc5 pm5 cd5 ct5 : Value}
    {f6 : Addr} {od6 an6 : Option Addr} {sl6 : Array (Option Value)} {oc6 kV6 dc6 pm6 cd6 ct6 : Value}
    {f7 : Addr} {od7 an7 : Option Addr} {sl7 : Array (Option Value)} {oc7 kV7 dc7 pm7 cd7 ct7 : Value}
    {f8 : Addr} {od8 an8 : Option Addr} {sl8 : Array (Option Value)} {oc8 kV8 dc8 pm8 cd8 ct8 : Value}
    {f9 : Addr} {od9 an9 : Option Addr} {sl9 : Array (Option Value)} {oc9 kV9 dc9 pm9 cd9 ct9 : Value}
    {f10 : Addr} {od10 an10 : Option Addr} {sl10 : Array (Option Value)} {oc10 kV10 dc10 pm10 cd10 ct10 : Value}
    {f11 : Addr} {od11 an11 : Option Addr} {sl11 : Array (Option Value)} {oc11 kV11 dc11 pm11 cd11 ct11 : Value}
    {f12 : Addr} {od12 an12 : Option Addr} {sl12 : Array (Option Value)} {oc12 kV12 dc12 pm12 cd12 ct12 : Value}
    {f13 : Addr} {od13 an13 : Option Addr} {sl13 : Array (Option Value)} {oc13 kV13 dc13 pm13 cd13 ct13 : Value}
    {f14 : Addr} {od14 an14 : Option Addr} {sl14 : Array (Option Value)} {oc14 kV14 dc14 pm14 cd14 ct14 : Value}
    {f15 : Addr} {od15 an15 : Option Addr} {sl15 : Array (Option Value)} {oc15 kV15 dc15 pm15 cd15 ct15 : Value}
    {f16 : Addr} {od16 an16 : Option Addr} {sl16 : Array (Option Value)} {oc16 kV16 dc16 pm16 cd16 ct16 : Value}
    {f17 : Addr} {od17 an17 : Option Addr} {sl17 : Array (Option Value)} {oc17 kV17 dc17 pm17 cd17 ct17 : Value}
    {f18 : Addr} {od18 an18 : Option Addr} {sl18 : Array (Option Value)} {oc18 kV18 dc18 pm18 cd18 ct18 : Value}
    {f19 : Addr} {od19 an19 : Option Addr} {sl19 : Array (Option Value)} {oc19 kV19 dc19 pm19 cd19 ct19 : Value}
    {f20 : Addr} {od20 an20 : Option Addr} {sl20 : Array (Option Value)} {oc20 kV20 dc20 pm20 cd20 ct20 : Value}
    {f21 : Addr} {od21 an21 : Option Addr} {sl21 : Array (Option Value)} {oc21 kV21 dc21 pm21 cd21 ct21 : Value}
    {f22 : Addr} {od22 an22 : Option Addr} {sl22 : Array (Option Value)} {oc22 kV22 dc22 pm22 cd22 ct22 : Value}
    {f23 : Addr} {od23 an23 : Option Addr} {sl23 : Array (Option Value)} {oc23 kV23 dc23 pm23 cd23 ct23 : Value}
    {f24 : Addr} {od24 an24 : Option Addr} {sl24 : Array (Option Value)} {oc24 kV24 dc24 pm24 cd24 ct24 : Value}
    {f25 : Addr} {od25 an25 : Option Addr} {sl25 : Array (Option Value)} {oc25 kV25 dc25 pm25 cd25 ct25 : Value}
    {f26 : Addr} {od26 an26 : Option Addr} {sl26 : Array (Option Value)} {oc26 kV26 dc26 pm26 cd26 ct26 : Value}
    {f27 : Addr} {od27 an27 : Option Addr} {sl27 : Array (Option Value)} {oc27 kV27 dc27 pm27 cd27 ct27 : Value}
    {f28 : Addr} {od28 an28 : Option Addr} {sl28 : Array (Option Value)} {oc28 kV28 dc28 pm28 cd28 ct28 : Value}
    {t0 : Tok}
    {t1 : Tok}
    {t2 : Tok}
    {t3 : Tok}
    {X0 : Addr}
    {X1 : Addr}
    {X2 : Addr}
    (a0 : PySem.W.nsIn K mainGlobals "is_whole" = some (some (.ref f0))) (l0 : K.lookup f0 = some ⟨oc0, od0, .func (PySem.W.fnOf "is_whole" "is_whole" (defArgs (top 6)) (defBody (top 6)) (defScope (top 6)) .none kV0 dc0 pm0 an0 cd0 ct0), sl0⟩) (c0 : PySem.W.codeIn K cd0 "is_whole" = true) (k0 : PySem.W.keepIn K (.ref f0) = true)
    (a1 : PySem.W.nsIn K mainGlobals "is_tuple_of" = some (some (.ref f1))) (l1 : K.lookup f1 = some ⟨oc1, od1, .func (PySem.W.fnOf "is_tuple_of" "is_tuple_of" (defArgs (top 7)) (defBody (top 7)) (defScope (top 7)) .none kV1 dc1 pm1 an1 cd1 ct1), sl1⟩) (c1 : PySem.W.codeIn K cd1 "is_tuple_of" = true) (k1 : PySem.W.keepIn K (.ref f1) = true)
    (a2 : PySem.W.nsIn K mainGlobals "ascends" = some (some (.ref f2))) (l2 : K.lookup f2 = some ⟨oc2, od2, .func (PySem.W.fnOf "ascends" "ascends" (defArgs (top 12)) (defBody (top 12)) (defScope (top 12)) .none kV2 dc2 pm2 an2 cd2 ct2), sl2⟩) (c2 : PySem.W.codeIn K cd2 "ascends" = true) (k2 : PySem.W.keepIn K (.ref f2) = true)
    (a3 : PySem.W.nsIn K mainGlobals "is_place" = some (some (.ref f3))) (l3 : K.lookup f3 = some ⟨oc3, od3, .func (PySem.W.fnOf "is_place" "is_place" (defArgs (top 13)) (defBody (top 13)) (defScope (top 13)) .none kV3 dc3 pm3 an3 cd3 ct3), sl3⟩) (c3 : PySem.W.codeIn K cd3 "is_place" = true) (k3 : PySem.W.keepIn K (.ref f3) = true)
    (a4 : PySem.W.nsIn K mainGlobals "fits_span" = some (some (.ref f4))) (l4 : K.lookup f4 = some ⟨oc4, od4, .func (PySem.W.fnOf "fits_span" "fits_span" (defArgs (top 14)) (defBody (top 14)) (defScope (top 14)) .none kV4 dc4 pm4 an4 cd4 ct4), sl4⟩) (c4 : PySem.W.codeIn K cd4 "fits_span" = true) (k4 : PySem.W.keepIn K (.ref f4) = true)
    (a5 : PySem.W.nsIn K mainGlobals "fits_row" = some (some (.ref f5))) (l5 : K.lookup f5 = some ⟨oc5, od5, .func (PySem.W.fnOf "fits_row" "fits_row" (defArgs (top 15)) (defBody (top 15)) (defScope (top 15)) .none kV5 dc5 pm5 an5 cd5 ct5), sl5⟩) (c5 : PySem.W.codeIn K cd5 "fits_row" = true) (k5 : PySem.W.keepIn K (.ref f5) = true)
    (a6 : PySem.W.nsIn K mainGlobals "need_spans" = some (some (.ref f6))) (l6 : K.lookup f6 = some ⟨oc6, od6, .func (PySem.W.fnOf "need_spans" "need_spans" (defArgs (top 16)) (defBody (top 16)) (defScope (top 16)) .none kV6 dc6 pm6 an6 cd6 ct6), sl6⟩) (c6 : PySem.W.codeIn K cd6 "need_spans" = true) (k6 : PySem.W.keepIn K (.ref f6) = true)
    (a7 : PySem.W.nsIn K mainGlobals "need_place" = some (some (.ref f7))) (l7 : K.lookup f7 = some ⟨oc7, od7, .func (PySem.W.fnOf "need_place" "need_place" (defArgs (top 17)) (defBody (top 17)) (defScope (top 17)) .none kV7 dc7 pm7 an7 cd7 ct7), sl7⟩) (c7 : PySem.W.codeIn K cd7 "need_place" = true) (k7 : PySem.W.keepIn K (.ref f7) = true)
    (a8 : PySem.W.nsIn K mainGlobals "span_at" = some (some (.ref f8))) (l8 : K.lookup f8 = some ⟨oc8, od8, .func (PySem.W.fnOf "span_at" "span_at" (defArgs (top 18)) (defBody (top 18)) (defScope (top 18)) .none kV8 dc8 pm8 an8 cd8 ct8), sl8⟩) (c8 : PySem.W.codeIn K cd8 "span_at" = true) (k8 : PySem.W.keepIn K (.ref f8) = true)
    (a9 : PySem.W.nsIn K mainGlobals "is_in" = some (some (.ref f9))) (l9 : K.lookup f9 = some ⟨oc9, od9, .func (PySem.W.fnOf "is_in" "is_in" (defArgs (top 19)) (defBody (top 19)) (defScope (top 19)) .none kV9 dc9 pm9 an9 cd9 ct9), sl9⟩) (c9 : PySem.W.codeIn K cd9 "is_in" = true) (k9 : PySem.W.keepIn K (.ref f9) = true)
    (a10 : PySem.W.nsIn K mainGlobals "next_of" = some (some (.ref f10))) (l10 : K.lookup f10 = some ⟨oc10, od10, .func (PySem.W.fnOf "next_of" "next_of" (defArgs (top 20)) (defBody (top 20)) (defScope (top 20)) .none kV10 dc10 pm10 an10 cd10 ct10), sl10⟩) (c10 : PySem.W.codeIn K cd10 "next_of" = true) (k10 : PySem.W.keepIn K (.ref f10) = true)
    (a11 : PySem.W.nsIn K mainGlobals "many_up_to" = some (some (.ref f11))) (l11 : K.lookup f11 = some ⟨oc11, od11, .func (PySem.W.fnOf "many_up_to" "many_up_to" (defArgs (top 21)) (defBody (top 21)) (defScope (top 21)) .none kV11 dc11 pm11 an11 cd11 ct11), sl11⟩) (c11 : PySem.W.codeIn K cd11 "many_up_to" = true) (k11 : PySem.W.keepIn K (.ref f11) = true)
    (a12 : PySem.W.nsIn K mainGlobals "many_in" = some (some (.ref f12))) (l12 : K.lookup f12 = some ⟨oc12, od12, .func (PySem.W.fnOf "many_in" "many_in" (defArgs (top 22)) (defBody (top 22)) (defScope (top 22)) .none kV12 dc12 pm12 an12 cd12 ct12), sl12⟩) (c12 : PySem.W.codeIn K cd12 "many_in" = true) (k12 : PySem.W.keepIn K (.ref f12) = true)
    (a13 : PySem.W.nsIn K mainGlobals "is_row" = some (some (.ref f13))) (l13 : K.lookup f13 = some ⟨oc13, od13, .func (PySem.W.fnOf "is_row" "is_row" (defArgs (top 23)) (defBody (top 23)) (defScope (top 23)) .none kV13 dc13 pm13 an13 cd13 ct13), sl13⟩) (c13 : PySem.W.codeIn K cd13 "is_row" = true) (k13 : PySem.W.keepIn K (.ref f13) = true)
    (a14 : PySem.W.nsIn K mainGlobals "has_number" = some (some (.ref f14))) (l14 : K.lookup f14 = some ⟨oc14, od14, .func (PySem.W.fnOf "has_number" "has_number" (defArgs (top 24)) (defBody (top 24)) (defScope (top 24)) .none kV14 dc14 pm14 an14 cd14 ct14), sl14⟩) (c14 : PySem.W.codeIn K cd14 "has_number" = true) (k14 : PySem.W.keepIn K (.ref f14) = true)
    (a15 : PySem.W.nsIn K mainGlobals "next_in" = some (some (.ref f15))) (l15 : K.lookup f15 = some ⟨oc15, od15, .func (PySem.W.fnOf "next_in" "next_in" (defArgs (top 25)) (defBody (top 25)) (defScope (top 25)) .none kV15 dc15 pm15 an15 cd15 ct15), sl15⟩) (c15 : PySem.W.codeIn K cd15 "next_in" = true) (k15 : PySem.W.keepIn K (.ref f15) = true)
    (a16 : PySem.W.nsIn K mainGlobals "count_in" = some (some (.ref f16))) (l16 : K.lookup f16 = some ⟨oc16, od16, .func (PySem.W.fnOf "count_in" "count_in" (defArgs (top 26)) (defBody (top 26)) (defScope (top 26)) .none kV16 dc16 pm16 an16 cd16 ct16), sl16⟩) (c16 : PySem.W.codeIn K cd16 "count_in" = true) (k16 : PySem.W.keepIn K (.ref f16) = true)
    (a17 : PySem.W.nsIn K mainGlobals "_law_cup" = some (some (.ref f17))) (l17 : K.lookup f17 = some ⟨oc17, od17, .func (PySem.W.fnOf "_law_cup" "_law_cup" (defArgs (top 28)) (defBody (top 28)) (defScope (top 28)) .none kV17 dc17 pm17 an17 cd17 ct17), sl17⟩) (c17 : PySem.W.codeIn K cd17 "_law_cup" = true) (k17 : PySem.W.keepIn K (.ref f17) = true)
    (a18 : PySem.W.nsIn K mainGlobals "_law_roll" = some (some (.ref f18))) (l18 : K.lookup f18 = some ⟨oc18, od18, .func (PySem.W.fnOf "_law_roll" "_law_roll" (defArgs (top 29)) (defBody (top 29)) (defScope (top 29)) .none kV18 dc18 pm18 an18 cd18 ct18), sl18⟩) (c18 : PySem.W.codeIn K cd18 "_law_roll" = true) (k18 : PySem.W.keepIn K (.ref f18) = true)
    (a19 : PySem.W.nsIn K mainGlobals "_law_some" = some (some (.ref f19))) (l19 : K.lookup f19 = some ⟨oc19, od19, .func (PySem.W.fnOf "_law_some" "_law_some" (defArgs (top 30)) (defBody (top 30)) (defScope (top 30)) .none kV19 dc19 pm19 an19 cd19 ct19), sl19⟩) (c19 : PySem.W.codeIn K cd19 "_law_some" = true) (k19 : PySem.W.keepIn K (.ref f19) = true)
    (a20 : PySem.W.nsIn K mainGlobals "_law_residues" = some (some (.ref f20))) (l20 : K.lookup f20 = some ⟨oc20, od20, .func (PySem.W.fnOf "_law_residues" "_law_residues" (defArgs (top 31)) (defBody (top 31)) (defScope (top 31)) .none kV20 dc20 pm20 an20 cd20 ct20), sl20⟩) (c20 : PySem.W.codeIn K cd20 "_law_residues" = true) (k20 : PySem.W.keepIn K (.ref f20) = true)
    (a21 : PySem.W.nsIn K mainGlobals "_law_spans" = some (some (.ref f21))) (l21 : K.lookup f21 = some ⟨oc21, od21, .func (PySem.W.fnOf "_law_spans" "_law_spans" (defArgs (top 32)) (defBody (top 32)) (defScope (top 32)) .none kV21 dc21 pm21 an21 cd21 ct21), sl21⟩) (c21 : PySem.W.codeIn K cd21 "_law_spans" = true) (k21 : PySem.W.keepIn K (.ref f21) = true)
    (a22 : PySem.W.nsIn K mainGlobals "_law_has" = some (some (.ref f22))) (l22 : K.lookup f22 = some ⟨oc22, od22, .func (PySem.W.fnOf "_law_has" "_law_has" (defArgs (top 33)) (defBody (top 33)) (defScope (top 33)) .none kV22 dc22 pm22 an22 cd22 ct22), sl22⟩) (c22 : PySem.W.codeIn K cd22 "_law_has" = true) (k22 : PySem.W.keepIn K (.ref f22) = true)
    (a23 : PySem.W.nsIn K mainGlobals "_law_ends" = some (some (.ref f23))) (l23 : K.lookup f23 = some ⟨oc23, od23, .func (PySem.W.fnOf "_law_ends" "_law_ends" (defArgs (top 34)) (defBody (top 34)) (defScope (top 34)) .none kV23 dc23 pm23 an23 cd23 ct23), sl23⟩) (c23 : PySem.W.codeIn K cd23 "_law_ends" = true) (k23 : PySem.W.keepIn K (.ref f23) = true)
    (a24 : PySem.W.nsIn K mainGlobals "_law_bent" = some (some (.ref f24))) (l24 : K.lookup f24 = some ⟨oc24, od24, .func (PySem.W.fnOf "_law_bent" "_law_bent" (defArgs (top 35)) (defBody (top 35)) (defScope (top 35)) .none kV24 dc24 pm24 an24 cd24 ct24), sl24⟩) (c24 : PySem.W.codeIn K cd24 "_law_bent" = true) (k24 : PySem.W.keepIn K (.ref f24) = true)
    (a25 : PySem.W.nsIn K mainGlobals "_law_error" = some (some (.ref f25))) (l25 : K.lookup f25 = some ⟨oc25, od25, .func (PySem.W.fnOf "_law_error" "_law_error" (defArgs (top 36)) (defBody (top 36)) (defScope (top 36)) .none kV25 dc25 pm25 an25 cd25 ct25), sl25⟩) (c25 : PySem.W.codeIn K cd25 "_law_error" = true) (k25 : PySem.W.keepIn K (.ref f25) = true)
    (a26 : PySem.W.nsIn K mainGlobals "_law_next" = some (some (.ref f26))) (l26 : K.lookup f26 = some ⟨oc26, od26, .func (PySem.W.fnOf "_law_next" "_law_next" (defArgs (top 37)) (defBody (top 37)) (defScope (top 37)) .none kV26 dc26 pm26 an26 cd26 ct26), sl26⟩) (c26 : PySem.W.codeIn K cd26 "_law_next" = true) (k26 : PySem.W.keepIn K (.ref f26) = true)
    (a27 : PySem.W.nsIn K mainGlobals "_law_edges" = some (some (.ref f27))) (l27 : K.lookup f27 = some ⟨oc27, od27, .func (PySem.W.fnOf "_law_edges" "_law_edges" (defArgs (top 38)) (defBody (top 38)) (defScope (top 38)) .none kV27 dc27 pm27 an27 cd27 ct27), sl27⟩) (c27 : PySem.W.codeIn K cd27 "_law_edges" = true) (k27 : PySem.W.keepIn K (.ref f27) = true)
    (a28 : PySem.W.nsIn K mainGlobals "law" = some (some (.ref f28))) (l28 : K.lookup f28 = some ⟨oc28, od28, .func (PySem.W.fnOf "law" "law" (defArgs (top 39)) (defBody (top 39)) (defScope (top 39)) .none kV28 dc28 pm28 an28 cd28 ct28), sl28⟩) (c28 : PySem.W.codeIn K cd28 "law" = true) (k28 : PySem.W.keepIn K (.ref f28) = true)
    (t0_ : PySem.W.nsIn K mainGlobals "SIZE" = some (some (.int (1000000000) t0)))
    (t1_ : PySem.W.nsIn K mainGlobals "ENDS" = some (some (.int (1000) t1)))
    (t2_ : PySem.W.nsIn K mainGlobals "STEPS" = some (some (.int (12) t2)))
    (t3_ : PySem.W.nsIn K mainGlobals "SPANS" = some (some (.int (400) t3)))
    (z0 : PySem.W.nsIn K mainGlobals "len" = some none)
    (z1 : PySem.W.nsIn K mainGlobals "all" = some none)
    (z2 : PySem.W.nsIn K mainGlobals "any" = some none)
    (z3 : PySem.W.nsIn K mainGlobals "sum" = some none)
    (z4 : PySem.W.nsIn K mainGlobals "abs" = some none)
    (z5 : PySem.W.nsIn K mainGlobals "tuple" = some none)
    (z6 : PySem.W.nsIn K mainGlobals "list" = some none)
    (z7 : PySem.W.nsIn K mainGlobals "int" = some none)
    (z8 : PySem.W.nsIn K mainGlobals "max" = some none)
    (z9 : PySem.W.nsIn K mainGlobals "min" = some none)
    (z10 : PySem.W.nsIn K mainGlobals "isinstance" = some none)
    (z11 : PySem.W.nsIn K mainGlobals "bool" = some none)
    (z12 : PySem.W.nsIn K mainGlobals "str" = some none)
    (z13 : PySem.W.nsIn K mainGlobals "range" = some none)
    (z14 : PySem.W.nsIn K mainGlobals "zip" = some none)
    (z15 : PySem.W.nsIn K mainGlobals "enumerate" = some none)
    (z16 : PySem.W.nsIn K mainGlobals "repr" = some none)
    (xa0 : PySem.W.nsIn K mainGlobals "InvalidSpans" = some (some (.ref X0)))
    (xa1 : PySem.W.nsIn K mainGlobals "InvalidNumber" = some (some (.ref X1)))
    (xa2 : PySem.W.nsIn K mainGlobals "CountError" = some (some (.ref X2)))
    (xb0 : PySem.W.excIn K X0 [.type "ValueError", .type "Exception", .type "BaseException", .type "object"] "ValueError.__new__" = true) (xc0 : PySem.W.keepIn K (.ref X0) = true) (xd0 : PySem.W.subIn K (.ref X0) (.type "BaseException") = some true) (xe0 : PySem.W.typeIn K (.ref X0) = some (.type "type"))
    (xf0 : PySem.W.findIn K (.ref X0) "__getattribute__" = some (some (.builtin "BaseException.__getattribute__"))) (xg0 : PySem.W.findIn K (.ref X0) "__getattr__" = some none) (xh0 : PySem.W.hasDictIn K X0 = true) (xi0 : PySem.W.findIn K (.ref X0) "__class__" = some (some (.builtin "object.__class__"))) (xj0 : PySem.W.mroIn K X0 (.type "object") = some true)
    (xb1 : PySem.W.excIn K X1 [.type "ValueError", .type "Exception", .type "BaseException", .type "object"] "ValueError.__new__" = true) (xc1 : PySem.W.keepIn K (.ref X1) = true) (xd1 : PySem.W.subIn K (.ref X1) (.type "BaseException") = some true) (xe1 : PySem.W.typeIn K (.ref X1) = some (.type "type"))
    (xf1 : PySem.W.findIn K (.ref X1) "__getattribute__" = some (some (.builtin "BaseException.__getattribute__"))) (xg1 : PySem.W.findIn K (.ref X1) "__getattr__" = some none) (xh1 : PySem.W.hasDictIn K X1 = true) (xi1 : PySem.W.findIn K (.ref X1) "__class__" = some (some (.builtin "object.__class__"))) (xj1 : PySem.W.mroIn K X1 (.type "object") = some true)
    (xk_ : PySem.W.specialIn K (.builtin "object.__class__") "__get__" = some (some (.builtin "getset_descriptor.__get__"))) (xl_ : PySem.W.takesIn K (.builtin "object.__class__") = some true)
    (xm0 : PySem.W.exmOne K (.ref X0) (.ref X2) = some true) (xn0 : PySem.W.kitOne K (.ref X0) (.ref X2) = some true)
    (xm1 : PySem.W.exmOne K (.ref X0) (.ref X0) = some true) (xn1 : PySem.W.kitOne K (.ref X0) (.ref X0) = some true)
    (xm2 : PySem.W.exmOne K (.ref X0) (.ref X1) = some false) (xn2 : PySem.W.kitOne K (.ref X0) (.ref X1) = some false)
    (xm3 : PySem.W.exmOne K (.ref X1) (.ref X2) = some true) (xn3 : PySem.W.kitOne K (.ref X1) (.ref X2) = some true)
    (xm4 : PySem.W.exmOne K (.ref X1) (.ref X0) = some false) (xn4 : PySem.W.kitOne K (.ref X1) (.ref X0) = some false)
    (xm5 : PySem.W.exmOne K (.ref X1) (.ref X1) = some true) (xn5 : PySem.W.kitOne K (.ref X1) (.ref X1) = some true) :
    ∃ fd : FuncData, (∀ (s : Shared) (v : Value), BindsTo s fd ⟨[v], []⟩ [("script", v)]) ∧ ∀ base : Heap, K.In base → base.Ns mainGlobals mg → FnG l.prog w K mg base (L2.CX l.prog w) 150 fa fd ["script"] (spLawE K fun ns => ns.length ≤ 63 ∧ ∀ z ∈ ns, Builtin.Int.intBits z ≤ 1048576) := by
  refine finishL (tab := TAB) (GL := GL) (EX := EXC) (SB := SUB) (nL := 28) (dL := d28) X G hfa ?_ ?_ rfl rfl rfl ?_ ?_ ?_ (fns_of (by decide +kernel)) (consts_of (P := fun p => CstOk K mg p.1 p.2) ?_) ?_ (by decide +kernel) (by decide +kernel) math
  · exact all_cons ⟨f0, defF_mk (nm := "is_whole") (st := top 6) rfl rfl a0 l0 c0 k0 binds_0⟩ (all_cons ⟨f1, defF_mk (nm := "is_tuple_of") (st := top 7) rfl rfl a1 l1 c1 k1 binds_1⟩ (all_cons ⟨f2, defF_mk (nm := "ascends") (st := top 12) rfl rfl a2 l2 c2 k2 binds_2⟩ (all_cons ⟨f3, defF_mk (nm := "is_place") (st := top 13) rfl rfl a3 l3 c3 k3 binds_3⟩ (all_cons ⟨f4, defF_mk (nm := "fits_span") (st := top 14) rfl rfl a4 l4 c4 k4 binds_4⟩ (all_cons ⟨f5, defF_mk (nm := "fits_row") (st := top 15) rfl rfl a5 l5 c5 k5 binds_5⟩ (all_cons ⟨f6, defF_mk (nm := "need_spans") (st := top 16) rfl rfl a6 l6 c6 k6 binds_6⟩ (all_cons ⟨f7, defF_mk (nm := "need_place") (st := top 17) rfl rfl a7 l7 c7 k7 binds_7⟩ (all_cons ⟨f8, defF_mk (nm := "span_at") (st := top 18) rfl rfl a8 l8 c8 k8 binds_8⟩ (all_cons ⟨f9, defF_mk (nm := "is_in") (st := top 19) rfl rfl a9 l9 c9 k9 binds_9⟩ (all_cons ⟨f10, defF_mk (nm := "next_of") (st := top 20) rfl rfl a10 l10 c10 k10 binds_10⟩ (all_cons ⟨f11, defF_mk (nm := "many_up_to") (st := top 21) rfl rfl a11 l11 c11 k11 binds_11⟩ (all_cons ⟨f12, defF_mk (nm := "many_in") (st := top 22) rfl rfl a12 l12 c12 k12 binds_12⟩ (all_cons ⟨f13, defF_mk (nm := "is_row") (st := top 23) rfl rfl a13 l13 c13 k13 binds_13⟩ (all_cons ⟨f14, defF_mk (nm := "has_number") (st := top 24) rfl rfl a14 l14 c14 k14 binds_14⟩ (all_cons ⟨f15, defF_mk (nm := "next_in") (st := top 25) rfl rfl a15 l15 c15 k15 binds_15⟩ (all_cons ⟨f16, defF_mk (nm := "count_in") (st := top 26) rfl rfl a16 l16 c16 k16 binds_16⟩ (all_cons ⟨f17, defF_mk (nm := "_law_cup") (st := top 28) rfl rfl a17 l17 c17 k17 binds_17⟩ (all_cons ⟨f18, defF_mk (nm := "_law_roll") (st := top 29) rfl rfl a18 l18 c18 k18 binds_18⟩ (all_cons ⟨f19, defF_mk (nm := "_law_some") (st := top 30) rfl rfl a19 l19 c19 k19 binds_19⟩ (all_cons ⟨f20, defF_mk (nm := "_law_residues") (st := top 31) rfl rfl a20 l20 c20 k20 binds_20⟩ (all_cons ⟨f21, defF_mk (nm := "_law_spans") (st := top 32) rfl rfl a21 l21 c21 k21 binds_21⟩ (all_cons ⟨f22, defF_mk (nm := "_law_has") (st := top 33) rfl rfl a22 l22 c22 k22 binds_22⟩ (all_cons ⟨f23, defF_mk (nm := "_law_ends") (st := top 34) rfl rfl a23 l23 c23 k23 binds_23⟩ (all_cons ⟨f24, defF_mk (nm := "_law_bent") (st := top 35) rfl rfl a24 l24 c24 k24 binds_24⟩ (all_cons ⟨f25, defF_mk (nm := "_law_error") (st := top 36) rfl rfl a25 l25 c25 k25 binds_25⟩ (all_cons ⟨f26, defF_mk (nm := "_law_next") (st := top 37) rfl rfl a26 l26 c26 k26 binds_26⟩ (all_cons ⟨f27, defF_mk (nm := "_law_edges") (st := top 38) rfl rfl a27 l27 c27 k27 binds_27⟩ (all_cons ⟨f28, defF_mk (nm := "law") (st := top 39) rfl rfl a28 l28 c28 k28 binds_28⟩ (all_nil)))))))))))))))))))))))))))))
  · exact all_cons scope_0 (all_cons scope_1 (all_cons scope_2 (all_cons scope_3 (all_cons scope_4 (all_cons scope_5 (all_cons scope_6 (all_cons scope_7 (all_cons scope_8 (all_cons scope_9 (all_cons scope_10 (all_cons scope_11 (all_cons scope_12 (all_cons scope_13 (all_cons scope_14 (all_cons scope_15 (all_cons scope_16 (all_cons scope_17 (all_cons scope_18 (all_cons scope_19 (all_cons scope_20 (all_cons scope_21 (all_cons scope_22 (all_cons scope_23 (all_cons scope_24 (all_cons scope_25 (all_cons scope_26 (all_cons scope_27 (all_cons scope_28 (all_nil)))))))))))))))))))))))))))))
  · exact all_cons ⟨rfl, rfl, rfl⟩ (all_cons ⟨rfl, rfl, rfl⟩ (all_cons ⟨rfl, rfl, rfl⟩ (all_cons ⟨rfl, rfl, rfl⟩ (all_cons ⟨rfl, rfl, rfl⟩ (all_cons ⟨rfl, rfl, rfl⟩ (all_cons ⟨rfl, rfl, rfl⟩ (all_cons ⟨rfl, rfl, rfl⟩ (all_cons ⟨rfl, rfl, rfl⟩ (all_cons ⟨rfl, rfl, rfl⟩ (all_cons ⟨rfl, rfl, rfl⟩ (all_cons ⟨rfl, rfl, rfl⟩ (all_cons ⟨rfl, rfl, rfl⟩ (all_cons ⟨rfl, rfl, rfl⟩ (all_cons ⟨rfl, rfl, rfl⟩ (all_cons ⟨rfl, rfl, rfl⟩ (all_cons ⟨rfl, rfl, rfl⟩ (all_cons ⟨rfl, rfl, rfl⟩ (all_cons ⟨rfl, rfl, rfl⟩ (all_cons ⟨rfl, rfl, rfl⟩ (all_cons ⟨rfl, rfl, rfl⟩ (all_cons ⟨rfl, rfl, rfl⟩ (all_cons ⟨rfl, rfl, rfl⟩ (all_cons ⟨rfl, rfl, rfl⟩ (all_cons ⟨rfl, rfl, rfl⟩ (all_cons ⟨rfl, rfl, rfl⟩ (all_cons ⟨rfl, rfl, rfl⟩ (all_cons ⟨rfl, rfl, rfl⟩ (all_cons ⟨rfl, rfl, rfl⟩ (all_nil)))))))))))))))))))))))))))))
  · exact all_cons (exk_mk X G xa0 (by decide +kernel) xb0 xc0 xd0 xe0) (all_cons (exk_mk X G xa1 (by decide +kernel) xb1 xc1 xd1 xe1) (all_nil))
  · exact all_cons (subk_mk X G (by decide +kernel) xa0 xa2 (by decide +kernel) xm0 xn0 ⟨xf0, xg0, xd0, xh0, xi0, xk_, xl_, xj0⟩) (all_cons (subk_mk X G (by decide +kernel) xa0 xa0 (by decide +kernel) xm1 xn1 ⟨xf0, xg0, xd0, xh0, xi0, xk_, xl_, xj0⟩) (all_cons (subk_mk X G (by decide +kernel) xa0 xa1 (by decide +kernel) xm2 xn2 ⟨xf0, xg0, xd0, xh0, xi0, xk_, xl_, xj0⟩) (all_cons (subk_mk X G (by decide +kernel) xa1 xa2 (by decide +kernel) xm3 xn3 ⟨xf1, xg1, xd1, xh1, xi1, xk_, xl_, xj1⟩) (all_cons (subk_mk X G (by decide +kernel) xa1 xa0 (by decide +kernel) xm4 xn4 ⟨xf1, xg1, xd1, xh1, xi1, xk_, xl_, xj1⟩) (all_cons (subk_mk X G (by decide +kernel) xa1 xa1 (by decide +kernel) xm5 xn5 ⟨xf1, xg1, xd1, xh1, xi1, xk_, xl_, xj1⟩) (all_nil))))))
  · exact all_cons (cst_int X G t0_) (all_cons (cst_int X G t1_) (all_cons (cst_int X G t2_) (all_cons (cst_int X G t3_) (all_nil))))
  · exact all_cons (fun _ => PySem.W.mg_none_of X G z0) (all_cons (fun _ => PySem.W.mg_none_of X G z1) (all_cons (fun _ => PySem.W.mg_none_of X G z2) (all_cons (fun _ => PySem.W.mg_none_of X G z3) (all_cons (fun _ => PySem.W.mg_none_of X G z4) (all_cons (fun _ => PySem.W.mg_none_of X G z5) (all_cons (fun _ => PySem.W.mg_none_of X G z6) (all_cons (fun _ => PySem.W.mg_none_of X G z7) (all_cons (fun _ => PySem.W.mg_none_of X G z8) (all_cons (fun _ => PySem.W.mg_none_of X G z9) (all_cons (fun _ => PySem.W.mg_none_of X G z10) (all_cons (fun _ => PySem.W.mg_none_of X G z11) (all_cons (fun _ => PySem.W.mg_none_of X G z12) (all_cons (fun _ => PySem.W.mg_none_of X G z13) (all_cons (fun _ => PySem.W.mg_none_of X G z14) (all_cons (fun _ => PySem.W.mg_none_of X G z15) (all_cons (fun _ => PySem.W.mg_none_of X G z16) (all_nil)))))))))))))))))
end Ev
open PySem PySem.W PyProof.Rows
set_option maxRecDepth 100000 in
set_option maxHeartbeats 0 in
theorem PySem.Challenge.cw_countrealm_k30_rows_of_spans_holds : PySem.Challenge.rw_countrealm_k30_rows_of_spans.Holds := by
  w_on; o_law; k_head; (case hw => w_witness2)
  k_fill
  refine Ev.walkE (l := PySem.Challenge.rw_countrealm_k30_rows_of_spans) rfl rfl (fun w h Y => PySem.W.kIn_of Y) ?F
  case F =>
    intro w mg fa h KX G hmg
    refine' Ev.all_end KX G hmg ?a0 ?l0 ?c0 ?k0 ?a1 ?l1 ?c1 ?k1 ?a2 ?l2 ?c2 ?k2 ?a3 ?l3 ?c3 ?k3 ?a4 ?l4 ?c4 ?k4 ?a5 ?l5 ?c5 ?k5 ?a6 ?l6 ?c6 ?k6 ?a7 ?l7 ?c7 ?k7 ?a8 ?l8 ?c8 ?k8 ?a9 ?l9 ?c9 ?k9 ?a10 ?l10 ?c10 ?k10 ?a11 ?l11 ?c11 ?k11 ?a12 ?l12 ?c12 ?k12 ?a13 ?l13 ?c13 ?k13 ?a14 ?l14 ?c14 ?k14 ?a15 ?l15 ?c15 ?k15 ?a16 ?l16 ?c16 ?k16 ?a17 ?l17 ?c17 ?k17 ?a18 ?l18 ?c18 ?k18 ?a19 ?l19 ?c19 ?k19 ?a20 ?l20 ?c20 ?k20 ?a21 ?l21 ?c21 ?k21 ?a22 ?l22 ?c22 ?k22 ?a23 ?l23 ?c23 ?k23 ?a24 ?l24 ?c24 ?k24 ?a25 ?l25 ?c25 ?k25 ?a26 ?l26 ?c26 ?k26 ?a27 ?l27 ?c27 ?k27 ?a28 ?l28 ?c28 ?k28 ?t0_ ?t1_ ?t2_ ?t3_ ?z0 ?z1 ?z2 ?z3 ?z4 ?z5 ?z6 ?z7 ?z8 ?z9 ?z10 ?z11 ?z12 ?z13 ?z14 ?z15 ?z16 ?xa0 ?xa1 ?xa2 ?xb0 ?xc0 ?xd0 ?xe0 ?xf0 ?xg0 ?xh0 ?xi0 ?xj0 ?xb1 ?xc1 ?xd1 ?xe1 ?xf1 ?xg1 ?xh1 ?xi1 ?xj1 ?xk_ ?xl_ ?xm0 ?xn0 ?xm1 ?xn1 ?xm2 ?xn2 ?xm3 ?xn3 ?xm4 ?xn4 ?xm5 ?xn5
    (case a0 => k_is)
    (case l0 => k_is)
    (case c0 => k_is)
    (case k0 => k_is)
    (case a1 => k_is)
    (case l1 => k_is)
    (case c1 => k_is)
    (case k1 => k_is)
    (case a2 => k_is)
    (case l2 => k_is)
    (case c2 => k_is)
    (case k2 => k_is)
    (case a3 => k_is)
    (case l3 => k_is)
    (case c3 => k_is)
    (case k3 => k_is)
    (case a4 => k_is)
    (case l4 => k_is)
    (case c4 => k_is)
    (case k4 => k_is)
    (case a5 => k_is)
    (case l5 => k_is)
    (case c5 => k_is)
    (case k5 => k_is)
    (case a6 => k_is)
    (case l6 => k_is)
    (case c6 => k_is)
    (case k6 => k_is)
    (case a7 => k_is)
    (case l7 => k_is)
    (case c7 => k_is)
    (case k7 => k_is)
    (case a8 => k_is)
    (case l8 => k_is)
    (case c8 => k_is)
    (case k8 => k_is)
    (case a9 => k_is)
    (case l9 => k_is)
    (case c9 => k_is)
    (case k9 => k_is)
    (case a10 => k_is)
    (case l10 => k_is)
    (case c10 => k_is)
    (case k10 => k_is)
    (case a11 => k_is)
    (case l11 => k_is)
    (case c11 => k_is)
    (case k11 => k_is)
    (case a12 => k_is)
    (case l12 => k_is)
    (case c12 => k_is)
    (case k12 => k_is)
    (case a13 => k_is)
    (case l13 => k_is)
    (case c13 => k_is)
    (case k13 => k_is)
    (case a14 => k_is)
    (case l14 => k_is)
    (case c14 => k_is)
    (case k14 => k_is)
    (case a15 => k_is)
    (case l15 => k_is)
    (case c15 => k_is)
    (case k15 => k_is)
    (case a16 => k_is)
    (case l16 => k_is)
    (case c16 => k_is)
    (case k16 => k_is)
    (case a17 => k_is)
    (case l17 => k_is)
    (case c17 => k_is)
    (case k17 => k_is)
    (case a18 => k_is)
    (case l18 => k_is)
    (case c18 => k_is)
    (case k18 => k_is)
    (case a19 => k_is)
    (case l19 => k_is)
    (case c19 => k_is)
    (case k19 => k_is)
    (case a20 => k_is)
    (case l20 => k_is)
    (case c20 => k_is)
    (case k20 => k_is)
    (case a21 => k_is)
    (case l21 => k_is)
    (case c21 => k_is)
    (case k21 => k_is)
    (case a22 => k_is)
    (case l22 => k_is)
    (case c22 => k_is)
    (case k22 => k_is)
    (case a23 => k_is)
    (case l23 => k_is)
    (case c23 => k_is)
    (case k23 => k_is)
    (case a24 => k_is)
    (case l24 => k_is)
    (case c24 => k_is)
    (case k24 => k_is)
    (case a25 => k_is)
    (case l25 => k_is)
    (case c25 => k_is)
    (case k25 => k_is)
    (case a26 => k_is)
    (case l26 => k_is)
    (case c26 => k_is)
    (case k26 => k_is)
    (case a27 => k_is)
    (case l27 => k_is)
    (case c27 => k_is)
    (case k27 => k_is)
    (case a28 => k_is)
    (case l28 => k_is)
    (case c28 => k_is)
    (case k28 => k_is)
    (case t0_ => k_is)
    (case t1_ => k_is)
    (case t2_ => k_is)
    (case t3_ => k_is)
    (case z0 => k_is)
    (case z1 => k_is)
    (case z2 => k_is)
    (case z3 => k_is)
    (case z4 => k_is)
    (case z5 => k_is)
    (case z6 => k_is)
    (case z7 => k_is)
    (case z8 => k_is)
    (case z9 => k_is)
    (case z10 => k_is)
    (case z11 => k_is)
    (case z12 => k_is)
    (case z13 => k_is)
    (case z14 => k_is)
    (case z15 => k_is)
    (case z16 => k_is)
    (case xa0 => k_is)
    (case xa1 => k_is)
    (case xa2 => k_is)
    (case xb0 => k_exc)
    (case xc0 => k_is)
    (case xd0 => k_is)
    (case xe0 => k_is)
    (case xf0 => k_is)
    (case xg0 => k_is)
    (case xh0 => k_is)
    (case xi0 => k_is)
    (case xj0 => k_is)
    (case xb1 => k_exc)
    (case xc1 => k_is)
    (case xd1 => k_is)
    (case xe1 => k_is)
    (case xf1 => k_is)
    (case xg1 => k_is)
    (case xh1 => k_is)
    (case xi1 => k_is)
    (case xj1 => k_is)
    (case xk_ => k_is)
    (case xl_ => k_is)
    (case xm0 => kts_exm)
    (case xn0 => kit_is)
    (case xm1 => kts_exm)
    (case xn1 => kit_is)
    (case xm2 => kts_exm)
    (case xn2 => kit_is)
    (case xm3 => kts_exm)
    (case xn3 => kit_is)
    (case xm4 => kts_exm)
    (case xn4 => kit_is)
    (case xm5 => kts_exm)
    (case xn5 => kit_is)
