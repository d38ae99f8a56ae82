import PyProof.Rows.All
import Wide.All
import OpenK.AllK
import Wide.FinOn
import PySem.Challenge.RW_circlesettle_k81_choices_put_in
import HandS.ForMost
import HandS.Walk
import HandS.Deep
import HandS.Lambda
import HandS.Style
import HandS.IsInst
import HandS.Ends
set_option Elab.async false
set_option linter.all false
section
/-! Dv1: values as data, the heap as a frozen part and owned cells; what a state of a def's run is, told over data. -/
namespace Dv
open PySem PySem.Spec L2
open PyProof.Rows hiding St

abbrev D := PyData

/-! ### specifications -/
/-- what a computation may end in: m φ says that it ends well and that each of its ends is in φ -/
abbrev W (α : Type) := (α → Prop) → Prop
namespace W
def pure {α : Type} (a : α) : W α := fun φ => φ a
def bind {α β : Type} (m : W α) (f : α → W β) : W β := fun φ => m fun a => f a φ
def fail {α : Type} : W α := fun _ => False
def opt {α : Type} : Option α → W α
  | some a => pure a
  | none => fail
/-- a condition, then the rest -/
def need {α : Type} (p : Prop) (m : W α) : W α := fun φ => p ∧ m φ
def ite {α : Type} (c : W Bool) (a b : W α) : W α := bind c fun x => if x = true then a else b
/-- two computations in a row, then f -/
def b2 {α β γ : Type} (f : α → β → W γ) (m : W α) (n : W β) : W γ := bind m fun x => bind n fun y => f x y
def cons {α : Type} (m : W α) (n : W (List α)) : W (List α) := bind m fun d => bind n fun ds => pure (d :: ds)
def tup (m : W (List PyData)) : W PyData := bind m fun ds => pure (.tuple ds)
def lst (m : W (List PyData)) : W PyData := bind m fun l => pure (.list l)
def bl (m : W Bool) : W PyData := bind m fun b => pure (.bool b)
def no (m : W Bool) : W Bool := bind m fun b => pure (!b)
@[simp] theorem b2_pure {α β γ : Type} (f : α → β → W γ) (a : α) (b : β) : b2 f (pure a) (pure b) = f a b := rfl
@[simp] theorem cons_pure {α : Type} (a : α) (b : List α) : cons (pure a) (pure b) = pure (a :: b) := rfl
@[simp] theorem tup_pure (a : List PyData) : tup (pure a) = pure (.tuple a) := rfl
@[simp] theorem lst_pure (a : List PyData) : lst (pure a) = pure (.list a) := rfl
@[simp] theorem bl_pure (a : Bool) : bl (pure a) = pure (.bool a) := rfl
@[simp] theorem no_pure (a : Bool) : no (pure a) = pure (!a) := rfl
@[simp] theorem bind_pure {α β : Type} (a : α) (f : α → W β) : bind (pure a) f = f a := rfl
@[simp] theorem pure_bind {α : Type} (m : W α) : bind m pure = m := rfl
theorem bind_assoc {α β γ : Type} (m : W α) (f : α → W β) (g : β → W γ) : bind (bind m f) g = bind m fun a => bind (f a) g := rfl
@[simp] theorem opt_some {α : Type} (a : α) : opt (some a) = pure a := rfl
@[simp] theorem ite_true' {α : Type} (a b : W α) : ite (pure true) a b = a := rfl
@[simp] theorem ite_false' {α : Type} (a b : W α) : ite (pure false) a b = b := rfl
theorem ite_pure {α : Type} (c : Bool) (a b : W α) : ite (pure c) a b = if c = true then a else b := rfl
theorem need_true {α : Type} {p : Prop} (h : p) (m : W α) : need p m = m := by
  funext φ
  exact propext ⟨fun q => q.2, fun q => ⟨h, q⟩⟩
end W

/-! ### data in a heap -/
def keyD : Key → D
  | .inl i => .int i
  | .inr x => .str x
mutual
/-- v stands for d, over the part F of the heap -/
inductive Rp (F : Hp) : V → D → Prop where
  | non : Rp F .non .none
  | bl (b : Bool) : Rp F (.bl b) (.bool b)
  | int (i : Int) : Rp F (.int i) (.int i)
  | str (x : Str) : Rp F (.str x) (.str x)
  | lst {a : Addr} {xs : List V} {ds : List D} : F a = some (.lst xs) → RpA F xs ds → Rp F (.ref a) (.list ds)
  | tup {a : Addr} {xs : List V} {ds : List D} : F a = some (.tup xs) → RpA F xs ds → Rp F (.ref a) (.tuple ds)
  | dic {a : Addr} {ks : List (Key × V)} {ds : List (D × D)} : F a = some (.dK ks) → RpK F ks ds → Rp F (.ref a) (.dict ds)
inductive RpA (F : Hp) : List V → List D → Prop where
  | nil : RpA F [] []
  | cons {v : V} {vs : List V} {d : D} {ds : List D} : Rp F v d → RpA F vs ds → RpA F (v :: vs) (d :: ds)
inductive RpK (F : Hp) : List (Key × V) → List (D × D) → Prop where
  | nil : RpK F [] []
  | cons {k : Key} {v : V} {ks : List (Key × V)} {d : D} {ds : List (D × D)} : Rp F v d → RpK F ks ds → RpK F ((k, v) :: ks) ((keyD k, d) :: ds)
end
section
variable {F F' : Hp}
mutual
theorem Rp.mono (h : Same F F') {v : V} {d : D} (r : Rp F v d) : Rp F' v d :=
  match r with
  | .non => .non
  | .bl b => .bl b
  | .int i => .int i
  | .str x => .str x
  | .lst e q => .lst (h _ _ e) (RpA.mono h q)
  | .tup e q => .tup (h _ _ e) (RpA.mono h q)
  | .dic e q => .dic (h _ _ e) (RpK.mono h q)
theorem RpA.mono (h : Same F F') {vs : List V} {ds : List D} (r : RpA F vs ds) : RpA F' vs ds :=
  match r with
  | .nil => .nil
  | .cons q t => .cons (Rp.mono h q) (RpA.mono h t)
theorem RpK.mono (h : Same F F') {ks : List (Key × V)} {ds : List (D × D)} (r : RpK F ks ds) : RpK F' ks ds :=
  match r with
  | .nil => .nil
  | .cons q t => .cons (Rp.mono h q) (RpK.mono h t)
end
theorem RpA.length : ∀ {vs : List V} {ds : List D}, RpA F vs ds → vs.length = ds.length
  | _, _, .nil => rfl
  | _, _, .cons _ t => congrArg (· + 1) t.length
theorem RpA.get : ∀ {vs : List V} {ds : List D} {i : Nat} {d : D}, RpA F vs ds → ds[i]? = some d → ∃ v, vs[i]? = some v ∧ Rp F v d
  | _, _, i, d, .nil, e => by simp at e
  | _, _, 0, d, .cons r _, e => by
    simp at e
    subst e
    exact ⟨_, rfl, r⟩
  | _, _, i + 1, d, .cons _ t, e => by
    obtain ⟨v, h1, h2⟩ := t.get (i := i) (d := d) (by simpa using e)
    exact ⟨v, by simpa using h1, h2⟩
theorem RpA.get' : ∀ {vs : List V} {ds : List D} {i : Nat} {v : V}, RpA F vs ds → vs[i]? = some v → ∃ d, ds[i]? = some d ∧ Rp F v d
  | _, _, i, d, .nil, e => by simp at e
  | _, _, 0, d, .cons r _, e => by
    simp at e
    subst e
    exact ⟨_, rfl, r⟩
  | _, _, i + 1, d, .cons _ t, e => by
    obtain ⟨v, h1, h2⟩ := t.get' (i := i) (v := d) (by simpa using e)
    exact ⟨v, by simpa using h1, h2⟩
theorem RpA.append : ∀ {vs us : List V} {ds es : List D}, RpA F vs ds → RpA F us es → RpA F (vs ++ us) (ds ++ es)
  | _, _, _, _, .nil, s => s
  | _, _, _, _, .cons r t, s => .cons r (t.append s)
theorem RpA.one {v : V} {d : D} (r : Rp F v d) : RpA F [v] [d] := .cons r .nil
theorem RpA.set {v : V} {d : D} (r : Rp F v d) : ∀ {vs : List V} {ds : List D} (i : Nat), RpA F vs ds → RpA F (vs.set i v) (ds.set i d)
  | _, _, _, .nil => .nil
  | _, _, 0, .cons _ t => .cons r t
  | _, _, i + 1, .cons q t => .cons q (t.set r i)
theorem RpA.take : ∀ {vs : List V} {ds : List D} (n : Nat), RpA F vs ds → RpA F (vs.take n) (ds.take n)
  | _, _, 0, _ => .nil
  | _, _, _ + 1, .nil => .nil
  | _, _, n + 1, .cons r t => .cons r (t.take n)
theorem RpA.drop : ∀ {vs : List V} {ds : List D} (n : Nat), RpA F vs ds → RpA F (vs.drop n) (ds.drop n)
  | _, _, 0, r => r
  | _, _, _ + 1, .nil => .nil
  | _, _, n + 1, .cons _ t => t.drop n
end
/-! ### Dp, for what holds no dict -/
mutual
def noDict : D → Bool
  | .none | .bool _ | .int _ | .str _ => true
  | .list xs | .tuple xs => noDictA xs
  | .dict _ => false
def noDictA : List D → Bool
  | [] => true
  | x :: xs => noDict x && noDictA xs
end
mutual
theorem Rp.dp {K : PySem.W.Frag} {F H : Hp} (h : Same F H) {v : V} {d : D} (r : Rp F v d) (n : d.canLay0 = true) : Dp K H v d :=
  match r with
  | .non => .non
  | .bl b => .bl b
  | .int i => .int i
  | .str x => .str x
  | .lst e q => .lst (SqL.of (h _ _ e)) (RpA.dp h q (by simpa [PyData.canLay0] using n))
  | .tup e q => .tup (SqT.of (h _ _ e)) (RpA.dp h q (by simpa [PyData.canLay0] using n))
  | .dic e q => by simp [PyData.canLay0] at n
theorem RpA.dp {K : PySem.W.Frag} {F H : Hp} (h : Same F H) {vs : List V} {ds : List D} (r : RpA F vs ds) (n : PyData.canLayAll0 ds = true) : DpAll K H vs ds :=
  match r with
  | .nil => .nil
  | .cons q t => by
    simp only [PyData.canLayAll0, Bool.and_eq_true] at n
    exact .cons (Rp.dp h q n.1) (RpA.dp h t n.2)
end

/-! ### the state -/
/-- what is known of a name: nothing; it holds data that stands in the frozen part; a list that is read only (the script); a list, a dict of the run's own, not yet frozen; a cell that others may change, kept under a word -/
inductive Sl where
  | un
  | va (d : D)
  | rd (l : List D)
  | ow (l : List D)
  | od (l : List (D × D))
  | iv (I : List D → Prop)
  | oz (Z : Hp) (l : List D)
def Sl.own : Sl → Bool
  | .ow _ => true
  | .od _ => true
  | .iv _ => true
  | .oz _ _ => true
  | _ => false
/-- a run's surroundings: the caller's cell that may be changed, with its word; the tables of code objects -/
structure Su where
  M : Option (Addr × (List D → Prop))
  T : List (Addr × Str)
/-- the entry: the frozen part, the heap -/
structure En where
  F0 : Hp
  H0 : Hp
/-- a pair of a text and a list: the list is none of Z's -/
def Nz (Z F : Hp) (v : V) (d : D) : Prop := ∀ s k, d = .tuple [.str s, .list k] → ∃ t w b, v = .ref t ∧ F t = some (.tup [w, .ref b]) ∧ Z b = none
def NzA (Z F : Hp) (vs : List V) (ds : List D) : Prop := ∀ (i : Nat) v d, vs[i]? = some v → ds[i]? = some d → Nz Z F v d
theorem Nz.mono {Z F F' : Hp} {v : V} {d : D} (h : Nz Z F v d) (s : Same F F') : Nz Z F' v d := fun x k e => by
  obtain ⟨t, w, b, h1, h2, h3⟩ := h x k e
  exact ⟨t, w, b, h1, s _ _ h2, h3⟩
theorem Nz.less {Z Z' F : Hp} {v : V} {d : D} (h : Nz Z F v d) (s : Same Z' Z) : Nz Z' F v d := fun x k e => by
  obtain ⟨t, w, b, h1, h2, h3⟩ := h x k e
  exact ⟨t, w, b, h1, h2, s.free h3⟩
theorem NzA.mono {Z F F' : Hp} {vs : List V} {ds : List D} (h : NzA Z F vs ds) (s : Same F F') : NzA Z F' vs ds := fun i v d h1 h2 => (h i v d h1 h2).mono s
theorem NzA.nil {Z F : Hp} : NzA Z F [] [] := fun i v d h => by simp at h
theorem NzA.snoc {Z F : Hp} {vs : List V} {ds : List D} {v : V} {d : D} (h : NzA Z F vs ds) (hl : vs.length = ds.length) (q : Nz Z F v d) : NzA Z F (vs ++ [v]) (ds ++ [d]) := fun i u e h1 h2 => by
  by_cases z : i < vs.length
  · rw [List.getElem?_append_left z] at h1
    rw [List.getElem?_append_left (by omega)] at h2
    exact h i u e h1 h2
  · rw [List.getElem?_append_right (by omega)] at h1
    rw [List.getElem?_append_right (by omega)] at h2
    have e0 : i - vs.length = 0 := by
      by_cases q : i - vs.length = 0
      · exact q
      · rw [List.getElem?_eq_none (by simp; omega)] at h1
        cases h1
    rw [e0] at h1
    rw [← hl, e0] at h2
    simp at h1 h2
    rw [← h1, ← h2]
    exact q
def NoTbl (o : HO) : Prop := ∀ ps, o ≠ .tbl ps
def SlOk (K : PySem.W.Frag) (S : Su) (N : En) (F H : Hp) (o : Option V) : Sl → Prop
  | .un => True
  | .va d => ∃ v, o = some v ∧ Rp F v d
  | .rd l => ∃ a vs, o = some (.ref a) ∧ SqL K F a vs ∧ RpA F vs l
  | .ow l => ∃ a vs, o = some (.ref a) ∧ H a = some (.lst vs) ∧ F a = none ∧ N.H0 a = none ∧ RpA F vs l
  | .od l => ∃ a ks, o = some (.ref a) ∧ H a = some (.dK ks) ∧ F a = none ∧ N.H0 a = none ∧ RpK F ks l
  | .iv I => ∃ a vs l, o = some (.ref a) ∧ H a = some (.lst vs) ∧ F a = none ∧ (N.H0 a = none ∨ S.M = some (a, I)) ∧ RpA F vs l ∧ I l
  | .oz Z l => ∃ a vs, o = some (.ref a) ∧ H a = some (.lst vs) ∧ F a = none ∧ N.H0 a = none ∧ RpA F vs l ∧ Same Z F ∧ NzA Z F vs l
abbrev Gm := List Sl
/-- the slot i holds an own cell, at a -/
def OwAt (Γ : Gm) (σ : St) (i : Nat) (a : Addr) : Prop := (∃ s, Γ[i]? = some s ∧ s.own = true) ∧ σ[i]? = some (some (.ref a))
/-- .. one that is kept under a word -/
def IvAt (Γ : Gm) (σ : St) (a : Addr) : Prop := ∃ (i : Nat) (I : List D → Prop), Γ[i]? = some (.iv I) ∧ σ[i]? = some (some (.ref a))
structure Rel (K : PySem.W.Frag) (S : Su) (N : En) (Γ : Gm) (σ : St) (F H : Hp) : Prop where
  f0 : Same N.F0 F
  fh : Same F H
  keep : ∀ b o, N.H0 b = some o → (∀ p, S.M = some p → b ≠ p.1) → NoTbl o → H b = some o
  al : ∀ b, N.H0 b ≠ none → H b ≠ none
  nw : ∀ b, F b ≠ none → N.F0 b = none → N.H0 b = none
  len : σ.length = Γ.length
  sl : ∀ (i : Nat) (s : Sl), Γ[i]? = some s → SlOk K S N F H (σ[i]?.join) s
  ap : ∀ (i j : Nat) (a : Addr), OwAt Γ σ i a → OwAt Γ σ j a → i = j
  tb : LamX.Tabs S.T H
  mc : ∀ p, S.M = some p → N.H0 p.1 ≠ none ∧ ∃ vs l, H p.1 = some (.lst vs) ∧ F p.1 = none ∧ RpA F vs l ∧ p.2 l
/-- a step of an expression -/
structure Xt (Γ : Gm) (σ : St) (F H F' H' : Hp) : Prop where
  sf : Same F F'
  kp : ∀ b o, H b = some o → NoTbl o → ¬ IvAt Γ σ b → H' b = some o
  al : ∀ b, H b ≠ none → H' b ≠ none
  nw : ∀ b, F' b ≠ none → F b = none → H b = none
theorem Xt.refl {Γ : Gm} {σ : St} {F H : Hp} : Xt Γ σ F H F H := ⟨Same.refl _, fun _ _ h _ _ => h, fun _ h => h, fun _ h e => absurd e h⟩
theorem Xt.trans {Γ : Gm} {σ : St} {F H F1 H1 F2 H2 : Hp} (a : Xt Γ σ F H F1 H1) (b : Xt Γ σ F1 H1 F2 H2) : Xt Γ σ F H F2 H2 where
  sf := a.sf.trans b.sf
  kp := fun c o h n m => b.kp c o (a.kp c o h n m) n m
  al := fun c h => b.al c (a.al c h)
  nw := fun c h e => by
    by_cases q : F1 c = none
    · have h1 := b.nw c h q
      by_cases q2 : H c = none
      · exact q2
      · exact absurd h1 (a.al c q2)
    · exact a.nw c q e
/-- the sizes of what stands in the heap -/
def SzOk (H : Hp) : Prop := (∀ a xs, H a = some (.lst xs) → xs.length ≤ sizeLine) ∧ (∀ a xs, H a = some (.tup xs) → xs.length ≤ sizeLine) ∧ (∀ a ks, H a = some (.dK ks) → ks.length ≤ sizeLine)
theorem Inv.sz {X : Cx} {pins : List (Addr × Obj)} {σ : St} {H : Hp} {s : Shared} (I : L2.Inv X pins σ H s) : SzOk H :=
  ⟨fun a xs e => (I.hok a _ e).1, fun a xs e => (I.hok a _ e).1, fun a xs e => (I.hok a _ e).1⟩

section
variable {K : PySem.W.Frag} {S : Su} {N : En} {Γ : Gm} {σ : St} {F H F' H' : Hp}
theorem join_some {i : Nat} {v : V} : (σ[i]?.join) = some v ↔ σ[i]? = some (some v) := by
  cases h : σ[i]? with
  | none => simp
  | some o => simp
theorem SlOk.mono_un {o : Option V} : SlOk K S N F H o .un := True.intro
theorem Rel.va (R : Rel K S N Γ σ F H) {i : Nat} {d : D} (h : Γ[i]? = some (.va d)) : ∃ v, σ[i]? = some (some v) ∧ Rp F v d := by
  obtain ⟨v, e, r⟩ := R.sl i _ h
  exact ⟨v, join_some.mp e, r⟩
theorem Rel.rd (R : Rel K S N Γ σ F H) {i : Nat} {l : List D} (h : Γ[i]? = some (.rd l)) : ∃ a vs, σ[i]? = some (some (.ref a)) ∧ SqL K F a vs ∧ RpA F vs l := by
  obtain ⟨a, vs, e, r⟩ := R.sl i _ h
  exact ⟨a, vs, join_some.mp e, r⟩
theorem Rel.ow (R : Rel K S N Γ σ F H) {i : Nat} {l : List D} (h : Γ[i]? = some (.ow l)) : ∃ a vs, σ[i]? = some (some (.ref a)) ∧ H a = some (.lst vs) ∧ F a = none ∧ N.H0 a = none ∧ RpA F vs l := by
  obtain ⟨a, vs, e, r⟩ := R.sl i _ h
  exact ⟨a, vs, join_some.mp e, r⟩
theorem Rel.od (R : Rel K S N Γ σ F H) {i : Nat} {l : List (D × D)} (h : Γ[i]? = some (.od l)) : ∃ a ks, σ[i]? = some (some (.ref a)) ∧ H a = some (.dK ks) ∧ F a = none ∧ N.H0 a = none ∧ RpK F ks l := by
  obtain ⟨a, vs, e, r⟩ := R.sl i _ h
  exact ⟨a, vs, join_some.mp e, r⟩
theorem Rel.iv (R : Rel K S N Γ σ F H) {i : Nat} {I : List D → Prop} (h : Γ[i]? = some (.iv I)) : ∃ a vs l, σ[i]? = some (some (.ref a)) ∧ H a = some (.lst vs) ∧ F a = none ∧ (N.H0 a = none ∨ S.M = some (a, I)) ∧ RpA F vs l ∧ I l := by
  obtain ⟨a, vs, l, e, r⟩ := R.sl i _ h
  exact ⟨a, vs, l, join_some.mp e, r⟩
theorem Rel.oz (R : Rel K S N Γ σ F H) {i : Nat} {Z : Hp} {l : List D} (h : Γ[i]? = some (.oz Z l)) : ∃ a vs, σ[i]? = some (some (.ref a)) ∧ H a = some (.lst vs) ∧ F a = none ∧ N.H0 a = none ∧ RpA F vs l ∧ Same Z F ∧ NzA Z F vs l := by
  obtain ⟨a, vs, e, r⟩ := R.sl i _ h
  exact ⟨a, vs, join_some.mp e, r⟩
theorem ow_iv {i : Nat} {a : Addr} {s : Sl} (R : Rel K S N Γ σ F H) (h : Γ[i]? = some s) (ho : s.own = true) (hs : ∀ I, s ≠ .iv I) (ha : σ[i]? = some (some (.ref a))) : ¬ IvAt Γ σ a := by
  rintro ⟨j, I, hj, haj⟩
  have e := R.ap i j a ⟨⟨s, h, ho⟩, ha⟩ ⟨⟨_, hj, rfl⟩, haj⟩
  subst e
  rw [h] at hj
  exact hs I (Option.some.inj hj)
theorem Same.seqF {a : Addr} {xs : List V} (e : Same F F') (h : SqL K F a xs) : SqL K F' a xs := Same.seq e h
/-- a new world, the names as they are; the cells under a word may have changed -/
theorem Rel.step (R : Rel K S N Γ σ F H) (sf : Same F F') (fh : Same F' H') (kp : ∀ b o, H b = some o → NoTbl o → ¬ IvAt Γ σ b → H' b = some o) (al : ∀ b, H b ≠ none → H' b ≠ none)
    (nw : ∀ b, F' b ≠ none → F b = none → H b = none) (tb : LamX.Tabs S.T H')
    (iv : ∀ (i : Nat) (I : List D → Prop) (a : Addr), Γ[i]? = some (.iv I) → σ[i]? = some (some (.ref a)) → ∃ vs l, H' a = some (.lst vs) ∧ RpA F' vs l ∧ I l) : Rel K S N Γ σ F' H' where
  f0 := R.f0.trans sf
  fh := fh
  keep := fun b o h m n => by
    have h1 := R.keep b o h m n
    refine kp b o h1 n ?_
    rintro ⟨i, I, hi, ha⟩
    obtain ⟨a, vs, l, ea, _, _, hz, _⟩ := R.iv hi
    rw [ha] at ea
    cases ea
    rcases hz with z | z
    · rw [z] at h; cases h
    · exact m _ z rfl
  al := fun b h => al b (R.al b h)
  nw := fun b h e => by
    by_cases q : F b = none
    · have h1 := nw b h q
      by_cases q2 : N.H0 b = none
      · exact q2
      · exact absurd h1 (R.al b q2)
    · exact R.nw b q e
  len := R.len
  sl := fun i s h => by
    have z := R.sl i s h
    have fnone : ∀ a, H a ≠ none → F a = none → F' a = none := fun a h1 h2 => by
      by_cases q : F' a = none
      · exact q
      · exact absurd (nw a q h2) h1
    cases s with
    | un => trivial
    | va d =>
      obtain ⟨v, e, r⟩ := z
      exact ⟨v, e, r.mono sf⟩
    | rd l =>
      obtain ⟨a, vs, e, q, r⟩ := z
      exact ⟨a, vs, e, Same.seq sf q, r.mono sf⟩
    | ow l =>
      obtain ⟨a, vs, e, h1, h2, h3, r⟩ := z
      have ni : ¬ IvAt Γ σ a := ow_iv R h rfl (fun I z => by cases z) (join_some.mp e)
      exact ⟨a, vs, e, kp a _ h1 (fun _ z => by cases z) ni, fnone a (by rw [h1]; simp) h2, h3, r.mono sf⟩
    | od l =>
      obtain ⟨a, vs, e, h1, h2, h3, r⟩ := z
      have ni : ¬ IvAt Γ σ a := ow_iv R h rfl (fun I z => by cases z) (join_some.mp e)
      exact ⟨a, vs, e, kp a _ h1 (fun _ z => by cases z) ni, fnone a (by rw [h1]; simp) h2, h3, r.mono sf⟩
    | iv I =>
      obtain ⟨a, vs, l, e, h1, h2, h3, r, q⟩ := z
      obtain ⟨vs', l', h1', r', q'⟩ := iv i I a h (join_some.mp e)
      exact ⟨a, vs', l', e, h1', fnone a (by rw [h1]; simp) h2, h3, r', q'⟩
    | oz Z l =>
      obtain ⟨a, vs, e, h1, h2, h3, r, g1, g2⟩ := z
      have ni : ¬ IvAt Γ σ a := ow_iv R h rfl (fun I z => by cases z) (join_some.mp e)
      exact ⟨a, vs, e, kp a _ h1 (fun _ z => by cases z) ni, fnone a (by rw [h1]; simp) h2, h3, r.mono sf, g1.trans sf, g2.mono sf⟩
  ap := R.ap
  tb := tb
  mc := fun p hp => by
    obtain ⟨h0, vs, l, h1, h2, h3, h4⟩ := R.mc p hp
    refine ⟨h0, ?_⟩
    have hf : F' p.1 = none := by
      by_cases q : F' p.1 = none
      · exact q
      · have := nw p.1 q h2
        rw [this] at h1
        cases h1
    by_cases z : IvAt Γ σ p.1
    · obtain ⟨i, I, hi, ha⟩ := z
      obtain ⟨vs', l', g1, g2, g3⟩ := iv i I p.1 hi ha
      obtain ⟨a, _, _, e, _, _, hz, _⟩ := R.iv hi
      rw [ha] at e
      cases e
      rcases hz with z | z
      · exact absurd z h0
      · have e2 : p = (p.1, I) := Option.some.inj (hp.symm.trans z)
        have e3 : p.2 = I := congrArg Prod.snd e2
        exact ⟨vs', l', g1, hf, g2, by rw [e3]; exact g3⟩
    · exact ⟨vs, l, kp _ _ h1 (fun _ z => by cases z) z, hf, h3.mono sf, h4⟩
theorem tabs_upd {T : List (Addr × Str)} {a : Addr} {o : HO} (t : LamX.Tabs T H) (h : ∀ ps, H a ≠ some (.tbl ps)) (hc : ∀ q, H a ≠ some (LamX.CodeO a q)) : LamX.Tabs T (upd H a o) := fun p hp => by
  obtain ⟨ps, h1, h2, h3⟩ := t p hp
  refine ⟨ps, ?_, h2, fun pos cv e => ?_⟩
  · rw [upd_ne]
    · exact h1
    · rintro rfl
      exact h ps h1
  · obtain ⟨c, e1, e2⟩ := h3 pos cv e
    refine ⟨c, e1, ?_⟩
    rw [upd_ne]
    · exact e2
    · rintro rfl
      exact hc _ e2
/-- a new object, frozen at once -/
theorem Rel.frz (R : Rel K S N Γ σ F H) {p : Addr} {o : HO} (np : H p = none) : Rel K S N Γ σ (upd F p o) (upd H p o) := by
  have nf : F p = none := R.fh.free np
  refine R.step (fun b x e => by rw [upd_ne (ne_of_none e nf)]; exact e) (fun b x e => ?_) (fun b x e _ _ => by rw [upd_ne (ne_of_none e np)]; exact e) (fun b e => ?_) (fun b e q => ?_)
    (tabs_upd R.tb (fun ps z => by rw [np] at z; cases z) (fun q z => by rw [np] at z; cases z)) (fun i I a hi ha => ?_)
  · by_cases q : b = p
    · subst q
      rw [upd_same] at e ⊢
      exact e
    · rw [upd_ne q] at e ⊢
      exact R.fh _ _ e
  · by_cases q : b = p
    · subst q
      rw [upd_same]
      simp
    · rw [upd_ne q]
      exact e
  · by_cases q2 : b = p
    · subst q2
      exact np
    · rw [upd_ne q2] at e
      exact absurd q e
  · obtain ⟨a', vs, l, e, h1, _, _, r, q⟩ := R.iv hi
    rw [ha] at e
    cases e
    have nf2 : F p = none := nf
    exact ⟨vs, l, by rw [upd_ne (ne_of_none h1 np)]; exact h1, r.mono (fun b x e => by rw [upd_ne (ne_of_none e nf)]; exact e), q⟩
theorem Xt.frz {p : Addr} {o : HO} (np : H p = none) (nf : F p = none) : Xt Γ σ F H (upd F p o) (upd H p o) where
  sf := fun b x e => by rw [upd_ne (ne_of_none e nf)]; exact e
  kp := fun b x e _ _ => by rw [upd_ne (ne_of_none e np)]; exact e
  al := fun b e => by
    by_cases q : b = p
    · subst q
      rw [upd_same]
      simp
    · rw [upd_ne q]
      exact e
  nw := fun b e q => by
    by_cases q2 : b = p
    · subst q2
      exact np
    · rw [upd_ne q2] at e
      exact absurd q e
/-- a new object, not frozen -/
theorem Rel.new (R : Rel K S N Γ σ F H) {p : Addr} {o : HO} (np : H p = none) : Rel K S N Γ σ F (upd H p o) := by
  refine R.step (Same.refl _) (fun b x e => by rw [upd_ne (ne_of_none (R.fh _ _ e) np)]; exact R.fh _ _ e) (fun b x e _ _ => by rw [upd_ne (ne_of_none e np)]; exact e) (fun b e => ?_) (fun b e q => absurd q e)
    (tabs_upd R.tb (fun ps z => by rw [np] at z; cases z) (fun q z => by rw [np] at z; cases z)) (fun i I a hi ha => ?_)
  · by_cases q : b = p
    · subst q
      rw [upd_same]
      simp
    · rw [upd_ne q]
      exact e
  · obtain ⟨a', vs, l, e, h1, _, _, r, q⟩ := R.iv hi
    rw [ha] at e
    cases e
    exact ⟨vs, l, by rw [upd_ne (ne_of_none h1 np)]; exact h1, r, q⟩
theorem Xt.new {p : Addr} {o : HO} (np : H p = none) : Xt Γ σ F H F (upd H p o) where
  sf := Same.refl _
  kp := fun b x e _ _ => by rw [upd_ne (ne_of_none e np)]; exact e
  al := fun b e => by
    by_cases q : b = p
    · subst q
      rw [upd_same]
      simp
    · rw [upd_ne q]
      exact e
  nw := fun b e q => absurd q e
end
end Dv
end
section
/-! Dv2: the judgements over data, and the rules of expressions. -/
namespace Dv
open PySem PySem.Spec L2
open PyProof.Rows hiding St

/-! ### where one stands -/
/-- the scope that runs, told by the written one: a captured name may be a cell there -/
def ScR (sc sc' : Scope) : Prop := ∀ (y : Str) (k : NameKind), sc.names.lookup y = some k → sc'.names.lookup y = some k ∨ (k = .free ∧ sc'.names.lookup y = some .cell)
theorem ScR.refl (sc : Scope) : ScR sc sc := fun _ _ h => .inl h
/-- the def's (or block's) names: all by slot, those that may be read, those that may be stored, the global ones -/
structure Cok (X : Cx) (sc : Scope) (N : List Str) (V O : List Nat) (G : List Str) : Prop where
  hN : X.N = N
  hsc : ScR sc X.env.scope
  nd : N.Nodup
  vis : ∀ (i : Nat) (x : Str), V.contains i = true → N[i]? = some x → Vis X.env.scope x
  loc : ∀ (i : Nat) (x : Str), O.contains i = true → N[i]? = some x → L2.Loc X.env.scope x ∧ (X.fn x = true ∨ X.env.scope.names.lookup x = some .local)
  gl : ∀ (j : Nat) (x : Str), G[j]? = some x → Gl X x
  dN : ∀ x ∈ N, (x == ("__debug__" : Str)) = false ∧ (x == ("__classdict__" : Str)) = false
  dG : ∀ x ∈ G, (x == ("__debug__" : Str)) = false ∧ x ≠ ("__name__" : Str)
  kd : X.env.scope.kind = .function
  calm : X.calm = true
  po : PassesOwn (model X.prog X.w) X.A X.env X.xe
  un : X.A.units + 200 < cLine
/-- the tests of a scope -/
def chkSc (fn : Bool) (N : List Str) (V O : List Nat) (G : List Str) (sc : Scope) : Bool :=
  decide N.Nodup && decide (sc.kind = .function) && V.all (fun i => match N[i]? with
    | some x => (match sc.names.lookup x with | some .local => true | some .cell => true | some .free => true | _ => false)
    | none => true) &&
  O.all (fun i => match N[i]? with
    | some x => (match sc.names.lookup x with | some .local => true | some .cell => fn | _ => false)
    | none => true) &&
  G.all (fun x => (match sc.names.lookup x with | some .globalImplicit => true | _ => false) && !(x == ("__debug__" : Str)) && !(x == ("__name__" : Str))) &&
  N.all (fun x => !(x == ("__debug__" : Str)) && !(x == ("__classdict__" : Str)))
theorem Cok.of {X : Cx} {fn : Bool} {N : List Str} {V O : List Nat} {G : List Str} {sc : Scope} (h : chkSc fn N V O G sc = true) (hs : ScR sc X.env.scope) (hN : X.N = N) (hf : fn = true → ∀ x, sc.names.lookup x = some .cell → X.fn x = true)
    (hk : sc.kind = .function → X.env.scope.kind = .function) (calm : X.calm = true) (po : PassesOwn (model X.prog X.w) X.A X.env X.xe) (un : X.A.units + 200 < cLine) : Cok X sc N V O G := by
  unfold chkSc at h
  simp only [Bool.and_eq_true, List.all_eq_true, Bool.not_eq_true', decide_eq_true_eq] at h
  obtain ⟨⟨⟨⟨⟨h1, h0⟩, h2⟩, h3⟩, h4⟩, h5⟩ := h
  refine ⟨hN, hs, h1, fun i x hi hx => ?_, fun i x hi hx => ?_, fun j x hx => ?_, fun x hx => h5 x hx, fun x hx => ?_, hk h0, calm, po, un⟩
  · have q := h2 i (List.contains_iff_mem.mp hi)
    simp only [hx] at q
    unfold Vis
    split at q
    · rename_i e
      rcases hs _ _ e with z | ⟨z, _⟩
      · exact .inl z
      · cases z
    · rename_i e
      rcases hs _ _ e with z | ⟨z, _⟩
      · exact .inr (.inl z)
      · cases z
    · rename_i e
      rcases hs _ _ e with z | ⟨_, z⟩
      · exact .inr (.inr z)
      · exact .inr (.inl z)
    · cases q
  · have q := h3 i (List.contains_iff_mem.mp hi)
    simp only [hx] at q
    unfold L2.Loc
    split at q
    · rename_i e
      rcases hs _ _ e with z | ⟨z, _⟩
      · exact ⟨.inl z, .inr z⟩
      · cases z
    · rename_i e
      rcases hs _ _ e with z | ⟨z, _⟩
      · exact ⟨.inr z, .inl (hf q x e)⟩
      · cases z
    · cases q
  · have q := (h4 x (List.mem_of_getElem? hx)).1.1
    show X.env.scope.names.lookup x = some .globalImplicit
    split at q
    · rename_i e
      rcases hs _ _ e with z | ⟨z, _⟩
      · exact z
      · cases z
    · cases q
  · have q := h4 x hx
    refine ⟨q.1.2, fun e => ?_⟩
    have := q.2
    rw [e] at this
    simp at this

theorem Cok.u64 {X : Cx} {sc : Scope} {N : List Str} {V O : List Nat} {G : List Str} (C : Cok X sc N V O G) : X.A.units + 64 < cLine := by
  have := C.un
  omega
theorem Cok.u65 {X : Cx} {sc : Scope} {N : List Str} {V O : List Nat} {G : List Str} (C : Cok X sc N V O G) : X.A.units + 65 < cLine := by
  have := C.un
  omega

/-! ### the view: the frozen part and the own cells -/
open Classical in
noncomputable def vw (Γ : Gm) (σ : St) (F H : Hp) : Hp := fun b => match F b with
  | some o => some o
  | none => if (∃ i, OwAt Γ σ i b) ∧ ¬ IvAt Γ σ b then H b else none
section
variable {K : PySem.W.Frag} {S : Su} {N : En} {Γ : Gm} {σ : St} {F H F' H' : Hp}
theorem vw_f : Same F (vw Γ σ F H) := fun b o e => by
  unfold vw
  rw [e]
theorem vw_own {i : Nat} {a : Addr} (h : OwAt Γ σ i a) (n : ¬ IvAt Γ σ a) (hf : F a = none) : vw Γ σ F H a = H a := by
  unfold vw
  rw [hf]
  exact if_pos ⟨⟨i, h⟩, n⟩
theorem vw_h (fh : Same F H) : Same (vw Γ σ F H) H := fun b o e => by
  unfold vw at e
  split at e
  · rename_i u hu
    rw [← e]
    exact fh _ _ hu
  · split at e
    · exact e
    · cases e
theorem Rel.vw_h (R : Rel K S N Γ σ F H) : Same (vw Γ σ F H) H := Dv.vw_h R.fh
theorem Rel.own_cell (R : Rel K S N Γ σ F H) {i : Nat} {a : Addr} (h : OwAt Γ σ i a) : ∃ o, H a = some o ∧ F a = none ∧ NoTbl o := by
  obtain ⟨⟨s, hs, ho⟩, ha⟩ := h
  cases s with
  | un => cases ho
  | va d => cases ho
  | rd l => cases ho
  | ow l =>
    obtain ⟨b, vs, e, h1, h2, _⟩ := R.ow hs
    rw [ha] at e
    cases e
    exact ⟨_, h1, h2, fun _ z => by cases z⟩
  | od l =>
    obtain ⟨b, vs, e, h1, h2, _⟩ := R.od hs
    rw [ha] at e
    cases e
    exact ⟨_, h1, h2, fun _ z => by cases z⟩
  | iv I =>
    obtain ⟨b, vs, l, e, h1, h2, _⟩ := R.iv hs
    rw [ha] at e
    cases e
    exact ⟨_, h1, h2, fun _ z => by cases z⟩
  | oz Z l =>
    obtain ⟨b, vs, e, h1, h2, _⟩ := R.oz hs
    rw [ha] at e
    cases e
    exact ⟨_, h1, h2, fun _ z => by cases z⟩
theorem Xt.vw (R : Rel K S N Γ σ F H) (x : Xt Γ σ F H F' H') : Same (vw Γ σ F H) (vw Γ σ F' H') := fun b o e => by
  by_cases q : F b = none
  · by_cases z : (∃ i, OwAt Γ σ i b) ∧ ¬ IvAt Γ σ b
    · obtain ⟨⟨i, hi⟩, n⟩ := z
      rw [vw_own hi n q] at e
      obtain ⟨o', h1, _, h3⟩ := R.own_cell hi
      rw [e] at h1
      cases h1
      have hf : F' b = none := by
        by_cases q' : F' b = none
        · exact q'
        · have := x.nw b q' q
          rw [this] at e
          cases e
      rw [vw_own hi n hf]
      exact x.kp b o e h3 n
    · unfold Dv.vw at e
      rw [q] at e
      simp only [if_neg z] at e
      cases e
  · cases hq : F b with
    | none => exact absurd hq q
    | some u =>
      unfold Dv.vw at e
      rw [hq] at e
      cases e
      exact vw_f b o (x.sf b o hq)
theorem Rel.tabs (R : Rel K S N Γ σ F H) : LamX.Tabs S.T H := R.tb
/-- a list that no name holds is frozen -/
theorem Rel.freeze (R : Rel K S N Γ σ F H) {a : Addr} {o : HO} (ha : H a = some o) (hf : F a = none) (h0 : N.H0 a = none) (hn : ∀ i, ¬ OwAt Γ σ i a) : Rel K S N Γ σ (upd F a o) H where
  f0 := fun b x e => by
    rw [upd_ne (ne_of_none (R.f0 b x e) hf)]
    exact R.f0 b x e
  fh := fun b x e => by
    by_cases q : b = a
    · subst q
      rw [upd_same] at e
      rw [← e]
      exact ha
    · rw [upd_ne q] at e
      exact R.fh b x e
  keep := R.keep
  al := R.al
  nw := fun b e q => by
    by_cases z : b = a
    · subst z
      exact h0
    · rw [upd_ne z] at e
      exact R.nw b e q
  len := R.len
  sl := fun i s h => by
    have z := R.sl i s h
    have sm : Same F (upd F a o) := fun b x e => by
      rw [upd_ne (ne_of_none e hf)]
      exact e
    cases s with
    | un => trivial
    | va d =>
      obtain ⟨v, e, r⟩ := z
      exact ⟨v, e, r.mono sm⟩
    | rd l =>
      obtain ⟨b, vs, e, q, r⟩ := z
      exact ⟨b, vs, e, Same.seq sm q, r.mono sm⟩
    | ow l =>
      obtain ⟨b, vs, e, h1, h2, h3, r⟩ := z
      have nb : b ≠ a := fun z => hn i ⟨⟨_, h, rfl⟩, by rw [← z]; exact join_some.mp e⟩
      exact ⟨b, vs, e, h1, by rw [upd_ne nb]; exact h2, h3, r.mono sm⟩
    | od l =>
      obtain ⟨b, vs, e, h1, h2, h3, r⟩ := z
      have nb : b ≠ a := fun z => hn i ⟨⟨_, h, rfl⟩, by rw [← z]; exact join_some.mp e⟩
      exact ⟨b, vs, e, h1, by rw [upd_ne nb]; exact h2, h3, r.mono sm⟩
    | iv I =>
      obtain ⟨b, vs, l, e, h1, h2, h3, r, q⟩ := z
      have nb : b ≠ a := fun z => hn i ⟨⟨_, h, rfl⟩, by rw [← z]; exact join_some.mp e⟩
      exact ⟨b, vs, l, e, h1, by rw [upd_ne nb]; exact h2, h3, r.mono sm, q⟩
    | oz Z l =>
      obtain ⟨b, vs, e, h1, h2, h3, r, g1, g2⟩ := z
      have nb : b ≠ a := fun z => hn i ⟨⟨_, h, rfl⟩, by rw [← z]; exact join_some.mp e⟩
      exact ⟨b, vs, e, h1, by rw [upd_ne nb]; exact h2, h3, r.mono sm, g1.trans sm, g2.mono sm⟩
  ap := R.ap
  tb := R.tb
  mc := fun p hp => by
    obtain ⟨g0, vs, l, h1, h2, h3, h4⟩ := R.mc p hp
    have np : p.1 ≠ a := fun z => g0 (by rw [z]; exact h0)
    exact ⟨g0, vs, l, h1, by rw [upd_ne np]; exact h2, h3.mono (fun b x e => by rw [upd_ne (ne_of_none e hf)]; exact e), h4⟩
end

/-! ### the judgements -/
structure Ev (X : Cx) (S : Su) (Γ : Gm) (e : Expr) (m : W D) : Prop where
  ex : ∃ t : TE, PE X e t ∧ ∀ (N : En) (σ : St) (F H : Hp) (Q : VK) (φ : D → Prop), Rel X.K S N Γ σ F H → SzOk H → m φ →
    (∀ v d F' H', φ d → Rel X.K S N Γ σ F' H' → Xt Γ σ F H F' H' → SzOk H' → Rp F' v d → Q v H') → t σ H Q
/-- a value that may be an own cell's, read at once -/
structure Eb (X : Cx) (S : Su) (Γ : Gm) (e : Expr) (m : W D) : Prop where
  ex : ∃ t : TE, PE X e t ∧ ∀ (N : En) (σ : St) (F H : Hp) (Q : VK) (φ : D → Prop), Rel X.K S N Γ σ F H → SzOk H → m φ →
    (∀ v d F' H', φ d → Rel X.K S N Γ σ F' H' → Xt Γ σ F H F' H' → SzOk H' → Rp (vw Γ σ F' H') v d → Q v H') → t σ H Q
/-- a new list, that nobody holds -/
structure Eo (X : Cx) (S : Su) (Γ : Gm) (e : Expr) (m : W (List D)) : Prop where
  ex : ∃ t : TE, PE X e t ∧ ∀ (N : En) (σ : St) (F H : Hp) (Q : VK) (φ : List D → Prop), Rel X.K S N Γ σ F H → SzOk H → m φ →
    (∀ a vs l F' H', φ l → Rel X.K S N Γ σ F' H' → Xt Γ σ F H F' H' → SzOk H' → H' a = some (.lst vs) → F' a = none → H a = none → RpA F' vs l → Q (.ref a) H') → t σ H Q
structure Tb (X : Cx) (S : Su) (Γ : Gm) (e : Expr) (m : W Bool) : Prop where
  ex : ∃ t : TT, PT X e t ∧ ∀ (N : En) (σ : St) (F H : Hp) (Q : Bool → Hp → Prop) (φ : Bool → Prop), Rel X.K S N Γ σ F H → SzOk H → m φ →
    (∀ b F' H', φ b → Rel X.K S N Γ σ F' H' → Xt Γ σ F H F' H' → SzOk H' → Q b H') → t σ H Q
/-- the same whatever its 'whole' is -/
structure Tw (X : Cx) (S : Su) (Γ : Gm) (e : Expr) (m : W Bool) : Prop where
  ex : ∃ t : TT, PW X e t ∧ ∀ (N : En) (σ : St) (F H : Hp) (Q : Bool → Hp → Prop) (φ : Bool → Prop), Rel X.K S N Γ σ F H → SzOk H → m φ →
    (∀ b F' H', φ b → Rel X.K S N Γ σ F' H' → Xt Γ σ F H F' H' → SzOk H' → Q b H') → t σ H Q
structure Av (X : Cx) (S : Su) (Γ : Gm) (es : List Expr) (m : W (List D)) : Prop where
  ex : ∃ t : TA, PA X es t ∧ ∀ (N : En) (σ : St) (F H : Hp) (Q : List V → Hp → Prop) (φ : List D → Prop), Rel X.K S N Γ σ F H → SzOk H → m φ →
    (∀ vs ds F' H', φ ds → Rel X.K S N Γ σ F' H' → Xt Γ σ F H F' H' → SzOk H' → RpA F' vs ds → ds.length = es.length → Q vs H') → t σ H Q
structure Ab (X : Cx) (S : Su) (Γ : Gm) (es : List Expr) (m : W (List D)) : Prop where
  ex : ∃ t : TA, PA X es t ∧ ∀ (N : En) (σ : St) (F H : Hp) (Q : List V → Hp → Prop) (φ : List D → Prop), Rel X.K S N Γ σ F H → SzOk H → m φ →
    (∀ vs ds F' H', φ ds → Rel X.K S N Γ σ F' H' → Xt Γ σ F H F' H' → SzOk H' → RpA (vw Γ σ F' H') vs ds → ds.length = es.length → Q vs H') → t σ H Q

section
variable {X : Cx} {S : Su} {Γ : Gm} {e : Expr} {es : List Expr}
/-- the sizes of a heap come with the state -/
theorem szPE {t : TE} (h : PE X e t) : PE X e fun σ H Q => SzOk H → t σ H fun v H' => SzOk H' → Q v H' :=
  ⟨fun pins s σ H Q I hw => thn (h.run pins s σ H _ I (hw (Inv.sz I))) fun _ _ ⟨v, H', I', r, q⟩ => ⟨v, H', I', r, q (Inv.sz I')⟩⟩
theorem szPT {t : TT} (h : PT X e t) : PT X e fun σ H Q => SzOk H → t σ H fun v H' => SzOk H' → Q v H' :=
  ⟨fun pins s σ H Q I hw => thn (h.run pins s σ H _ I (hw (Inv.sz I))) fun _ _ ⟨H', I', q⟩ => ⟨H', I', q (Inv.sz I')⟩⟩
theorem szPW {t : TT} (h : PW X e t) : PW X e fun σ H Q => SzOk H → t σ H fun v H' => SzOk H' → Q v H' :=
  ⟨fun w pins s σ H Q I hw => thn (h.run w pins s σ H _ I (hw (Inv.sz I))) fun _ _ ⟨H', I', q⟩ => ⟨H', I', q (Inv.sz I')⟩⟩
theorem szPA {t : TA} (h : PA X es t) : PA X es fun σ H Q => SzOk H → t σ H fun v H' => SzOk H' → Q v H' :=
  ⟨fun pos pins s σ H Q I hw => thn (h.run pos pins s σ H _ I (hw (Inv.sz I))) fun _ _ ⟨vs, H', I', r, q⟩ => ⟨vs, H', I', r, q (Inv.sz I')⟩⟩
theorem Ev.mk' {m : W D} {t : TE} (h : PE X e t) (k : ∀ (N : En) (σ : St) (F H : Hp) (Q : VK) (φ : D → Prop), Rel X.K S N Γ σ F H → SzOk H → m φ →
    (∀ v d F' H', φ d → Rel X.K S N Γ σ F' H' → Xt Γ σ F H F' H' → Rp F' v d → Q v H') → t σ H Q) : Ev X S Γ e m :=
  ⟨_, szPE h, fun N σ F H Q φ R z hm q _ => k N σ F H _ φ R z hm fun v d F' H' p R' x r z' => q v d F' H' p R' x z' r⟩
theorem Eb.mk' {m : W D} {t : TE} (h : PE X e t) (k : ∀ (N : En) (σ : St) (F H : Hp) (Q : VK) (φ : D → Prop), Rel X.K S N Γ σ F H → SzOk H → m φ →
    (∀ v d F' H', φ d → Rel X.K S N Γ σ F' H' → Xt Γ σ F H F' H' → Rp (vw Γ σ F' H') v d → Q v H') → t σ H Q) : Eb X S Γ e m :=
  ⟨_, szPE h, fun N σ F H Q φ R z hm q _ => k N σ F H _ φ R z hm fun v d F' H' p R' x r z' => q v d F' H' p R' x z' r⟩
theorem Eo.mk' {m : W (List D)} {t : TE} (h : PE X e t) (k : ∀ (N : En) (σ : St) (F H : Hp) (Q : VK) (φ : List D → Prop), Rel X.K S N Γ σ F H → SzOk H → m φ →
    (∀ a vs l F' H', φ l → Rel X.K S N Γ σ F' H' → Xt Γ σ F H F' H' → H' a = some (.lst vs) → F' a = none → H a = none → RpA F' vs l → Q (.ref a) H') → t σ H Q) : Eo X S Γ e m :=
  ⟨_, szPE h, fun N σ F H Q φ R z hm q _ => k N σ F H _ φ R z hm fun a vs l F' H' p R' x h1 h2 h3 r z' => q a vs l F' H' p R' x z' h1 h2 h3 r⟩
theorem Tb.mk' {m : W Bool} {t : TT} (h : PT X e t) (k : ∀ (N : En) (σ : St) (F H : Hp) (Q : Bool → Hp → Prop) (φ : Bool → Prop), Rel X.K S N Γ σ F H → SzOk H → m φ →
    (∀ b F' H', φ b → Rel X.K S N Γ σ F' H' → Xt Γ σ F H F' H' → Q b H') → t σ H Q) : Tb X S Γ e m :=
  ⟨_, szPT h, fun N σ F H Q φ R z hm q _ => k N σ F H _ φ R z hm fun b F' H' p R' x z' => q b F' H' p R' x z'⟩
theorem Tw.mk' {m : W Bool} {t : TT} (h : PW X e t) (k : ∀ (N : En) (σ : St) (F H : Hp) (Q : Bool → Hp → Prop) (φ : Bool → Prop), Rel X.K S N Γ σ F H → SzOk H → m φ →
    (∀ b F' H', φ b → Rel X.K S N Γ σ F' H' → Xt Γ σ F H F' H' → Q b H') → t σ H Q) : Tw X S Γ e m :=
  ⟨_, szPW h, fun N σ F H Q φ R z hm q _ => k N σ F H _ φ R z hm fun b F' H' p R' x z' => q b F' H' p R' x z'⟩
theorem Av.mk' {m : W (List D)} {t : TA} (h : PA X es t) (k : ∀ (N : En) (σ : St) (F H : Hp) (Q : List V → Hp → Prop) (φ : List D → Prop), Rel X.K S N Γ σ F H → SzOk H → m φ →
    (∀ vs ds F' H', φ ds → Rel X.K S N Γ σ F' H' → Xt Γ σ F H F' H' → RpA F' vs ds → ds.length = es.length → Q vs H') → t σ H Q) : Av X S Γ es m :=
  ⟨_, szPA h, fun N σ F H Q φ R z hm q _ => k N σ F H _ φ R z hm fun v d F' H' p R' x r n z' => q v d F' H' p R' x z' r n⟩
theorem Ab.mk' {m : W (List D)} {t : TA} (h : PA X es t) (k : ∀ (N : En) (σ : St) (F H : Hp) (Q : List V → Hp → Prop) (φ : List D → Prop), Rel X.K S N Γ σ F H → SzOk H → m φ →
    (∀ vs ds F' H', φ ds → Rel X.K S N Γ σ F' H' → Xt Γ σ F H F' H' → RpA (vw Γ σ F' H') vs ds → ds.length = es.length → Q vs H') → t σ H Q) : Ab X S Γ es m :=
  ⟨_, szPA h, fun N σ F H Q φ R z hm q _ => k N σ F H _ φ R z hm fun v d F' H' p R' x r n z' => q v d F' H' p R' x z' r n⟩
theorem Ev.b {m : W D} (h : Ev X S Γ e m) : Eb X S Γ e m := by
  obtain ⟨t, p, k⟩ := h.ex
  exact ⟨t, p, fun N σ F H Q φ R z hm q => k N σ F H Q φ R z hm fun v d F' H' a b c z' r => q v d F' H' a b c z' (r.mono vw_f)⟩
theorem Av.b {m : W (List D)} (h : Av X S Γ es m) : Ab X S Γ es m := by
  obtain ⟨t, p, k⟩ := h.ex
  exact ⟨t, p, fun N σ F H Q φ R z hm q => k N σ F H Q φ R z hm fun v d F' H' a b c z' r => q v d F' H' a b c z' (r.mono vw_f)⟩
theorem Tw.t {m : W Bool} (h : Tw X S Γ e m) : Tb X S Γ e m := by
  obtain ⟨t, p, k⟩ := h.ex
  exact ⟨t, p.pt, k⟩
/-- a new list is frozen -/
theorem Eo.v {m : W (List D)} (h : Eo X S Γ e m) : Ev X S Γ e (W.lst m) := by
  obtain ⟨t, p, k⟩ := h.ex
  refine ⟨t, p, fun N σ F H Q φ R z hm q => k N σ F H Q _ R z hm fun a vs l F' H' pl R' x z' h1 h2 h3 r => ?_⟩
  have h0 : N.H0 a = none := by
    by_cases z : N.H0 a = none
    · exact z
    · exact absurd h3 (R.al a z)
  have R2 := R'.freeze h1 h2 h0 fun i hi => by
    obtain ⟨o, e1, _⟩ := R.own_cell hi
    rw [e1] at h3
    cases h3
  have sm : Same F' (upd F' a (.lst vs)) := fun b o e => by
    rw [upd_ne (ne_of_none e h2)]
    exact e
  refine q (.ref a) (.list l) _ H' pl R2 ⟨x.sf.trans sm, x.kp, x.al, fun b e q => ?_⟩ z' (.lst upd_same (r.mono sm))
  by_cases hb : b = a
  · rw [hb]
    exact h3
  · rw [upd_ne hb] at e
    exact x.nw b e q
end
end Dv
end
section
/-! Dv3: names, constants, operators, comparisons, tests, items, displays. -/
namespace Dv
open PySem PySem.Spec L2
open PyProof.Rows hiding St

/-! ### what the operators give, over data -/
namespace P
def add : D → D → W D
  | .int i, .int j => W.pure (.int (i + j))
  | .str x, .str y => W.need (x.length + y.length ≤ sizeLine) (W.pure (.str (x ++ y)))
  | _, _ => W.fail
def sub : D → D → W D
  | .int i, .int j => W.pure (.int (i - j))
  | _, _ => W.fail
def mul : D → D → W D
  | .int i, .int j => W.need (CMul i j) (W.pure (.int (i * j)))
  | _, _ => W.fail
def fdiv : D → D → W D
  | .int i, .int j => W.need (CDiv i j) (W.pure (.int (i / j)))
  | _, _ => W.fail
def mod : D → D → W D
  | .int i, .int j => W.need (0 < j) (W.pure (.int (i % j)))
  | _, _ => W.fail
def pow : D → D → W D
  | .int i, .int j => W.need (CPow i j) (W.pure (.int (i ^ j.toNat)))
  | _, _ => W.fail
def neg : D → W D
  | .int i => W.pure (.int (-i))
  | _ => W.fail
def lt : D → D → W Bool
  | .int i, .int j => W.pure (decide (i < j))
  | _, _ => W.fail
def le : D → D → W Bool
  | .int i, .int j => W.pure (decide (i ≤ j))
  | _, _ => W.fail
def gt : D → D → W Bool
  | .int i, .int j => W.pure (decide (j < i))
  | _, _ => W.fail
def ge : D → D → W Bool
  | .int i, .int j => W.pure (decide (j ≤ i))
  | _, _ => W.fail
/-- two texts -/
def bothS : D → D → Bool
  | .str _, .str _ => true
  | _, _ => false
def eq (a b : D) : W Bool := W.need (bothS a b = true ∨ SeqAt.shaped a = true ∧ SeqAt.shaped b = true) (W.pure (PyData.eqv a b))
def ne (a b : D) : W Bool := W.need (bothS a b = true ∨ SeqAt.shaped a = true ∧ SeqAt.shaped b = true) (W.pure (!PyData.eqv a b))
def inL (d : D) : D → W Bool
  | .list ds => W.need (SeqAt.shaped d = true ∧ SeqAt.shaped (.list ds) = true) (W.pure (ds.any fun z => PyData.eqv z d))
  | _ => W.fail
def notInL (d : D) : D → W Bool
  | .list ds => W.need (SeqAt.shaped d = true ∧ SeqAt.shaped (.list ds) = true) (W.pure (!ds.any fun z => PyData.eqv z d))
  | _ => W.fail
def isNone : D → Bool
  | .none => true
  | _ => false
def isB (b : Bool) : D → Bool
  | .bool c => b == c
  | _ => false
def ix : D → D → W D
  | .list l, .int i => W.opt (atI l i)
  | .tuple l, .int i => W.opt (atI l i)
  | .str z, .int i => W.need (z.length ≤ sizeLine) (W.bind (W.opt (atI z.cps.toList i)) fun c => W.pure (.str ⟨#[c]⟩))
  | _, _ => W.fail
def cut {α : Type} (xs : List α) (lo hi : Option Int) : List α := (xs.drop (HT.sIx xs.length 0 lo)).take (HT.sIx xs.length xs.length hi - HT.sIx xs.length 0 lo)
def cutL (lo hi : Option Int) : D → W (List D)
  | .list l => W.pure (cut l lo hi)
  | _ => W.fail
def asInt : D → W Int
  | .int i => W.pure i
  | _ => W.fail
def asBool : D → W Bool
  | .bool b => W.pure b
  | _ => W.fail
def truth : D → W Bool
  | .none => W.pure false
  | .bool b => W.pure b
  | .int i => W.pure (i != 0)
  | .str z => W.need (z.length ≤ sizeLine) (W.pure ((z.length : Int) != 0))
  | .list l => W.pure (!l.isEmpty)
  | .tuple l => W.pure (!l.isEmpty)
  | _ => W.fail
/-- a value that needs no heap -/
def sc : D → Bool
  | .none => true
  | .bool _ => true
  | .int _ => true
  | .str _ => true
  | _ => false
end P

theorem Rp.sc {F : Hp} {v : V} {d : D} (r : Rp F v d) (h : P.sc d = true) (F' : Hp) : Rp F' v d := by
  cases r with
  | non => exact .non
  | bl b => exact .bl b
  | int i => exact .int i
  | str x => exact .str x
  | lst _ _ => cases h
  | tup _ _ => cases h
  | dic _ _ => cases h
theorem Rp.of_int {F : Hp} {v : V} {i : Int} (r : Rp F v (.int i)) : v = .int i := by cases r; rfl
theorem Rp.of_bl {F : Hp} {v : V} {i : Bool} (r : Rp F v (.bool i)) : v = .bl i := by cases r; rfl
theorem Rp.of_str {F : Hp} {v : V} {i : Str} (r : Rp F v (.str i)) : v = .str i := by cases r; rfl
theorem Rp.of_list {F : Hp} {v : V} {l : List D} (r : Rp F v (.list l)) : ∃ a vs, v = .ref a ∧ F a = some (.lst vs) ∧ RpA F vs l := by
  cases r with
  | lst e q => exact ⟨_, _, rfl, e, q⟩
theorem Rp.of_tup {F : Hp} {v : V} {l : List D} (r : Rp F v (.tuple l)) : ∃ a vs, v = .ref a ∧ F a = some (.tup vs) ∧ RpA F vs l := by
  cases r with
  | tup e q => exact ⟨_, _, rfl, e, q⟩
theorem atI_len {α β : Type} {xs : List α} {ys : List β} (h : xs.length = ys.length) {i : Int} {v : α} (e : atI xs i = some v) : ∃ (j : Nat), xs[j]? = some v ∧ ∀ w, ys[j]? = some w → atI ys i = some w := by
  unfold atI at e ⊢
  rw [← h]
  cases q : ixN xs.length i with
  | none => rw [q] at e; cases e
  | some j =>
    rw [q] at e
    exact ⟨j, e, fun w hw => hw⟩
theorem RpA.atI {F : Hp} {vs : List V} {ds : List D} (r : RpA F vs ds) {i : Int} {d : D} (e : atI ds i = some d) : ∃ v, L2.atI vs i = some v ∧ Rp F v d := by
  obtain ⟨j, h1, h2⟩ := atI_len (ys := vs) r.length.symm e
  obtain ⟨v, h3, h4⟩ := r.get h1
  exact ⟨v, h2 v h3, h4⟩
theorem RpA.cut {F : Hp} {vs : List V} {ds : List D} (r : RpA F vs ds) (lo hi : Option Int) : RpA F (cutV vs lo hi) (P.cut ds lo hi) := by
  unfold cutV P.cut
  rw [r.length]
  exact (r.drop _).take _

/-! ### operators by values -/
/-- a reading of two values, told over data; its answer needs no heap -/
def P2 (r : R2) (f : D → D → W D) : Prop :=
  ∀ (G H : Hp) (x y : V) (dx dy : D) (Q : VK) (φ : D → Prop), Same G H → SzOk H → Rp G x dx → Rp G y dy → f dx dy φ → (∀ v d, φ d → (∀ F, Rp F v d) → Q v H) → r x y H Q
def P2b (r : R2) (f : D → D → W Bool) : Prop :=
  ∀ (G H : Hp) (x y : V) (dx dy : D) (Q : VK) (φ : Bool → Prop), Same G H → SzOk H → Rp G x dx → Rp G y dy → f dx dy φ → (∀ b, φ b → Q (.bl b) H) → r x y H Q
theorem p2_of {f : D → D → W D} {r : R2} {g : Int → Int → W D} (hf : ∀ i j, f (.int i) (.int j) = g i j) (hn : ∀ x y, (∀ i j, ¬ (x = .int i ∧ y = .int j)) → f x y = W.fail)
    (h : ∀ (H : Hp) (i j : Int) (Q : VK) (φ : D → Prop), g i j φ → (∀ v d, φ d → (∀ F, Rp F v d) → Q v H) → r (.int i) (.int j) H Q) : P2 r f := by
  intro G H x y dx dy Q φ gs z rx ry hm q
  by_cases e : ∃ i j, dx = .int i ∧ dy = .int j
  · obtain ⟨i, j, rfl, rfl⟩ := e
    rw [hf] at hm
    rw [rx.of_int, ry.of_int]
    exact h H i j Q φ hm q
  · rw [hn dx dy fun i j z => e ⟨i, j, z⟩] at hm
    exact hm.elim
theorem p2_sub : P2 (rI0 fun i j => .int (i - j)) P.sub := by
  refine p2_of (g := fun i j => W.pure (.int (i - j))) (fun _ _ => rfl) (fun x y h => ?_) fun H i j Q φ hm q => ⟨i, j, rfl, rfl, q _ _ hm fun F => .int _⟩
  cases x <;> cases y <;> first | rfl | exact absurd ⟨rfl, rfl⟩ (h _ _)
theorem p2_mul : P2 (rI CMul fun i j => .int (i * j)) P.mul := by
  refine p2_of (g := fun i j => W.need (CMul i j) (W.pure (.int (i * j)))) (fun _ _ => rfl) (fun x y h => ?_) fun H i j Q φ hm q => ⟨i, j, rfl, rfl, hm.1, q _ _ hm.2 fun F => .int _⟩
  cases x <;> cases y <;> first | rfl | exact absurd ⟨rfl, rfl⟩ (h _ _)
theorem p2_fdiv : P2 (rI CDiv fun i j => .int (i / j)) P.fdiv := by
  refine p2_of (g := fun i j => W.need (CDiv i j) (W.pure (.int (i / j)))) (fun _ _ => rfl) (fun x y h => ?_) fun H i j Q φ hm q => ⟨i, j, rfl, rfl, hm.1, q _ _ hm.2 fun F => .int _⟩
  cases x <;> cases y <;> first | rfl | exact absurd ⟨rfl, rfl⟩ (h _ _)
theorem p2_mod : P2 (rI (fun _ j => 0 < j) fun i j => .int (i % j)) P.mod := by
  refine p2_of (g := fun i j => W.need (0 < j) (W.pure (.int (i % j)))) (fun _ _ => rfl) (fun x y h => ?_) fun H i j Q φ hm q => ⟨i, j, rfl, rfl, hm.1, q _ _ hm.2 fun F => .int _⟩
  cases x <;> cases y <;> first | rfl | exact absurd ⟨rfl, rfl⟩ (h _ _)
theorem p2_pow : P2 (rI CPow fun i j => .int (i ^ j.toNat)) P.pow := by
  refine p2_of (g := fun i j => W.need (CPow i j) (W.pure (.int (i ^ j.toNat)))) (fun _ _ => rfl) (fun x y h => ?_) fun H i j Q φ hm q => ⟨i, j, rfl, rfl, hm.1, q _ _ hm.2 fun F => .int _⟩
  cases x <;> cases y <;> first | rfl | exact absurd ⟨rfl, rfl⟩ (h _ _)
/-- + of two ints or of two texts -/
def rAdd2 : R2 := fun x y H Q => (rI0 fun i j => .int (i + j)) x y H Q ∨ ∃ i j, x = .str i ∧ y = .str j ∧ i.length + j.length ≤ sizeLine ∧ Q (.str (i ++ j)) H
theorem op_add2 {X : Cx} : OpR X (binaryOp .Add) rAdd2 := op_add.or op_add_str
theorem p2_add : P2 rAdd2 P.add := by
  intro G H x y dx dy Q φ gs z rx ry hm q
  cases dx with
  | int i =>
    cases dy with
    | int j => exact .inl ⟨i, j, rx.of_int, ry.of_int, q _ _ hm fun F => .int _⟩
    | _ => exact hm.elim
  | str i =>
    cases dy with
    | str j => exact .inr ⟨i, j, rx.of_str, ry.of_str, hm.1, q _ _ hm.2 fun F => .str _⟩
    | _ => exact hm.elim
  | _ => exact hm.elim
theorem p2b_of {f : D → D → W Bool} {r : R2} {g : Int → Int → Bool} (hf : ∀ i j, f (.int i) (.int j) = W.pure (g i j)) (hn : ∀ x y, (∀ i j, ¬ (x = .int i ∧ y = .int j)) → f x y = W.fail)
    (h : ∀ (H : Hp) (i j : Int) (Q : VK), Q (.bl (g i j)) H → r (.int i) (.int j) H Q) : P2b r f := by
  intro G H x y dx dy Q φ gs z rx ry hm q
  by_cases e : ∃ i j, dx = .int i ∧ dy = .int j
  · obtain ⟨i, j, rfl, rfl⟩ := e
    rw [hf] at hm
    rw [rx.of_int, ry.of_int]
    exact h H i j Q (q _ hm)
  · rw [hn dx dy fun i j z => e ⟨i, j, z⟩] at hm
    exact hm.elim
theorem p2_lt : P2b (rI0 fun i j => .bl (decide (i < j))) P.lt := by
  refine p2b_of (g := fun i j => decide (i < j)) (fun _ _ => rfl) (fun x y h => ?_) fun H i j Q q => ⟨i, j, rfl, rfl, q⟩
  cases x <;> cases y <;> first | rfl | exact absurd ⟨rfl, rfl⟩ (h _ _)
theorem p2_le : P2b (rI0 fun i j => .bl (decide (i ≤ j))) P.le := by
  refine p2b_of (g := fun i j => decide (i ≤ j)) (fun _ _ => rfl) (fun x y h => ?_) fun H i j Q q => ⟨i, j, rfl, rfl, q⟩
  cases x <;> cases y <;> first | rfl | exact absurd ⟨rfl, rfl⟩ (h _ _)
theorem p2_gt : P2b (rI0 fun i j => .bl (decide (j < i))) P.gt := by
  refine p2b_of (g := fun i j => decide (j < i)) (fun _ _ => rfl) (fun x y h => ?_) fun H i j Q q => ⟨i, j, rfl, rfl, q⟩
  cases x <;> cases y <;> first | rfl | exact absurd ⟨rfl, rfl⟩ (h _ _)
theorem p2_ge : P2b (rI0 fun i j => .bl (decide (j ≤ i))) P.ge := by
  refine p2b_of (g := fun i j => decide (j ≤ i)) (fun _ _ => rfl) (fun x y h => ?_) fun H i j Q q => ⟨i, j, rfl, rfl, q⟩
  cases x <;> cases y <;> first | rfl | exact absurd ⟨rfl, rfl⟩ (h _ _)
theorem strs_of {a b : D} (h : P.bothS a b = true) : ∃ x y, a = .str x ∧ b = .str y := by
  unfold P.bothS at h
  split at h
  · exact ⟨_, _, rfl, rfl⟩
  · cases h
def rEq2 (K : PySem.W.Frag) : R2 := fun x y H Q => rEqD K x y H Q ∨ rEq x y H Q
def rNe2 (K : PySem.W.Frag) : R2 := fun x y H Q => rNeD K x y H Q ∨ rNe x y H Q
theorem op_eq2 {X : Cx} (hu : X.A.units + 64 < cLine) : OpR X (compareOp .Eq) (rEq2 X.K) := (op_eqD hu).or op_eq
theorem op_ne2 {X : Cx} (hu : X.A.units + 64 < cLine) : OpR X (compareOp .NotEq) (rNe2 X.K) := (op_neD hu).or op_ne
theorem eqv_str (x y : Str) : PyData.eqv (.str x) (.str y) = decide (V.str x = V.str y) := by
  rw [dec_str]
  simp [PyData.eqv]
theorem p2_eq {K : PySem.W.Frag} : P2b (rEq2 K) P.eq := fun G H x y dx dy Q φ gs z rx ry hm q => by
  rcases hm.1 with h | h
  · obtain ⟨a, b, rfl, rfl⟩ := strs_of h
    rw [rx.of_str, ry.of_str]
    have hq := q _ hm.2
    rw [eqv_str] at hq
    exact .inr ⟨rfl, hq⟩
  · exact .inl ⟨dx, dy, rx.dp gs (SeqAt.canLay_of_shaped h.1), ry.dp gs (SeqAt.canLay_of_shaped h.2), h.1, h.2, q _ hm.2⟩
theorem p2_ne {K : PySem.W.Frag} : P2b (rNe2 K) P.ne := fun G H x y dx dy Q φ gs z rx ry hm q => by
  rcases hm.1 with h | h
  · obtain ⟨a, b, rfl, rfl⟩ := strs_of h
    rw [rx.of_str, ry.of_str]
    have hq := q _ hm.2
    rw [eqv_str] at hq
    exact .inr ⟨rfl, hq⟩
  · exact .inl ⟨dx, dy, rx.dp gs (SeqAt.canLay_of_shaped h.1), ry.dp gs (SeqAt.canLay_of_shaped h.2), h.1, h.2, q _ hm.2⟩
theorem p2_in {K : PySem.W.Frag} : P2b (rInD K) P.inL := fun G H x y dx dy Q φ gs z rx ry hm q => by
  cases dy with
  | list ds => exact ⟨dx, ds, rx.dp gs (SeqAt.canLay_of_shaped hm.1.1), ry.dp gs (SeqAt.canLay_of_shaped hm.1.2), hm.1.1, hm.1.2, q _ hm.2⟩
  | _ => exact hm.elim
theorem p2_notIn {K : PySem.W.Frag} : P2b (rNotInD K) P.notInL := fun G H x y dx dy Q φ gs z rx ry hm q => by
  cases dy with
  | list ds => exact ⟨dx, ds, rx.dp gs (SeqAt.canLay_of_shaped hm.1.1), ry.dp gs (SeqAt.canLay_of_shaped hm.1.2), hm.1.1, hm.1.2, q _ hm.2⟩
  | _ => exact hm.elim

section
variable {X : Cx} {S : Su} {Γ : Gm} {sc : Scope} {N : List Str} {Vs O : List Nat} {G : List Str} {a b c e : Expr} {es : List Expr} {pos : Pos} {ma mb mc : W D}
/-! ### names, constants -/
theorem ev_va (C : Cok X sc N Vs O G) {i : Nat} {x : Str} {d : D} (hi : N[i]? = some x) (hv : Vs.contains i = true) (hg : Γ[i]? = some (.va d)) : Ev X S Γ (.Name x pos) (W.pure d) := by
  have hx := C.dN x (List.mem_of_getElem? hi)
  refine Ev.mk' (pe_var (i := i) (by rw [C.hN]; exact hi) (C.vis i x hv hi) hx.1 hx.2) fun M σ F H Q φ R _ hm q => ?_
  obtain ⟨v, e, r⟩ := R.va hg
  exact ⟨v, e, q v d F H hm R Xt.refl r⟩
theorem eb_ow (C : Cok X sc N Vs O G) {i : Nat} {x : Str} {l : List D} (hi : N[i]? = some x) (hv : Vs.contains i = true) (hg : Γ[i]? = some (.ow l)) : Eb X S Γ (.Name x pos) (W.pure (.list l)) := by
  have hx := C.dN x (List.mem_of_getElem? hi)
  refine Eb.mk' (pe_var (i := i) (by rw [C.hN]; exact hi) (C.vis i x hv hi) hx.1 hx.2) fun M σ F H Q φ R _ hm q => ?_
  obtain ⟨a, vs, e, h1, h2, h3, r⟩ := R.ow hg
  have ho : OwAt Γ σ i a := ⟨⟨_, hg, rfl⟩, e⟩
  refine ⟨_, e, q _ _ F H hm R Xt.refl (.lst ?_ (r.mono vw_f))⟩
  rw [vw_own ho (ow_iv R hg rfl (fun I z => by cases z) e) h2]
  exact h1
theorem eb_od (C : Cok X sc N Vs O G) {i : Nat} {x : Str} {l : List (D × D)} (hi : N[i]? = some x) (hv : Vs.contains i = true) (hg : Γ[i]? = some (.od l)) : Eb X S Γ (.Name x pos) (W.pure (.dict l)) := by
  have hx := C.dN x (List.mem_of_getElem? hi)
  refine Eb.mk' (pe_var (i := i) (by rw [C.hN]; exact hi) (C.vis i x hv hi) hx.1 hx.2) fun M σ F H Q φ R _ hm q => ?_
  obtain ⟨a, vs, e, h1, h2, h3, r⟩ := R.od hg
  have ho : OwAt Γ σ i a := ⟨⟨_, hg, rfl⟩, e⟩
  refine ⟨_, e, q _ _ F H hm R Xt.refl (.dic ?_ (r.mono vw_f))⟩
  rw [vw_own ho (ow_iv R hg rfl (fun I z => by cases z) e) h2]
  exact h1
theorem ev_int {i : Int} {j : Nat} : Ev X S Γ (.Constant (.int i) j pos) (W.pure (.int i)) := Ev.mk' pe_int fun M σ F H Q φ R _ hm q => q _ _ F H hm R Xt.refl (.int i)
theorem ev_bl {i : Bool} {j : Nat} : Ev X S Γ (.Constant (.bool i) j pos) (W.pure (.bool i)) := Ev.mk' pe_bl fun M σ F H Q φ R _ hm q => q _ _ F H hm R Xt.refl (.bl i)
theorem ev_non {j : Nat} : Ev X S Γ (.Constant .none j pos) (W.pure .none) := Ev.mk' pe_non fun M σ F H Q φ R _ hm q => q _ _ F H hm R Xt.refl .non
theorem ev_str {x : Str} {j : Nat} : Ev X S Γ (.Constant (.str x) j pos) (W.pure (.str x)) := Ev.mk' pe_str fun M σ F H Q φ R _ hm q => q _ _ F H hm R Xt.refl (.str x)

/-! ### operators -/
/-- two values in a row, the first one carried over the second one's step -/
theorem two {K : PySem.W.Frag} {M : En} {σ : St} {F H F1 H1 F2 H2 : Hp} {x : V} {d : D} (R : Rel K S M Γ σ F1 H1) (r : Rp (vw Γ σ F1 H1) x d) (x2 : Xt Γ σ F1 H1 F2 H2) : Rp (vw Γ σ F2 H2) x d := r.mono (x2.vw R)
theorem ev_bin {op : Operator} {r : R2} {f : D → D → W D} (ho : OpR X (binaryOp op) r) (p : P2 r f) (ha : Eb X S Γ a ma) (hb : Eb X S Γ b mb) : Ev X S Γ (.BinOp a op b pos) (W.b2 f ma mb) := by
  obtain ⟨ta, pa, ka⟩ := ha.ex
  obtain ⟨tb, pb, kb⟩ := hb.ex
  refine Ev.mk' (pe_op ho pa pb) fun M σ F H Q φ R z hm q => ?_
  refine ka M σ F H _ _ R z hm fun v d F1 H1 hm1 R1 x1 z1 r1 => ?_
  refine kb M σ F1 H1 _ _ R1 z1 hm1 fun w e F2 H2 hm2 R2 x2 z2 r2 => ?_
  exact p _ H2 v w d e Q φ R2.vw_h z2 (r1.mono (x2.vw R1)) r2 hm2 fun u c hc hu => q u c F2 H2 hc R2 (x1.trans x2) (hu F2)
theorem un_neg' {X : Cx} : UnR X (unaryOp .USub) (rU fun i => .int (-i)) := un_neg
theorem ev_neg (ha : Eb X S Γ a ma) : Ev X S Γ (.UnaryOp .USub a pos) (W.bind ma P.neg) := by
  obtain ⟨ta, pa, ka⟩ := ha.ex
  refine Ev.mk' (pe_un un_neg pa) fun M σ F H Q φ R z hm q => ?_
  refine ka M σ F H _ _ R z hm fun v d F1 H1 hm1 R1 x1 z1 r1 => ?_
  cases d with
  | int i => exact ⟨i, r1.of_int, q _ _ F1 H1 hm1 R1 x1 (.int _)⟩
  | _ => exact hm1.elim
theorem ev_cmp {op : CmpOp} {r : R2} {f : D → D → W Bool} (ho : OpR X (compareOp op) r) (p : P2b r f) (ha : Eb X S Γ a ma) (hb : Eb X S Γ b mb) (hk : behindInMarks op b = false) :
    Ev X S Γ (.Compare a [op] [b] pos) (W.bl (W.b2 f ma mb)) := by
  obtain ⟨ta, pa, ka⟩ := ha.ex
  obtain ⟨tb, pb, kb⟩ := hb.ex
  refine Ev.mk' (pe_cmpR ho pa pb hk) fun M σ F H Q φ R z hm q => ?_
  refine ka M σ F H _ _ R z hm fun v d F1 H1 hm1 R1 x1 z1 r1 => ?_
  refine kb M σ F1 H1 _ _ R1 z1 hm1 fun w e F2 H2 hm2 R2 x2 z2 r2 => ?_
  exact p _ H2 v w d e Q _ R2.vw_h z2 (r1.mono (x2.vw R1)) r2 hm2 fun k hk' => q _ _ F2 H2 hk' R2 (x1.trans x2) (.bl k)
theorem tb_cmp {op : CmpOp} {r : R2} {f : D → D → W Bool} (ho : OpR X (compareOp op) r) (p : P2b r f) (ha : Eb X S Γ a ma) (hb : Eb X S Γ b mb) (hk : behindInMarks op b = false) :
    Tb X S Γ (.Compare a [op] [b] pos) (W.b2 f ma mb) := by
  obtain ⟨ta, pa, ka⟩ := ha.ex
  obtain ⟨tb, pb, kb⟩ := hb.ex
  refine Tb.mk' (pt_cmpR ho pa pb hk) fun M σ F H Q φ R z hm q => ?_
  refine ka M σ F H _ _ R z hm fun v d F1 H1 hm1 R1 x1 z1 r1 => ?_
  refine kb M σ F1 H1 _ _ R1 z1 hm1 fun w e F2 H2 hm2 R2 x2 z2 r2 => ?_
  exact p _ H2 v w d e _ _ R2.vw_h z2 (r1.mono (x2.vw R1)) r2 hm2 fun k hk' => ⟨k, rfl, q _ F2 H2 hk' R2 (x1.trans x2)⟩
/-- a < b < c -/
theorem tb_chain {op op' : CmpOp} {r r' : R2} {f f' : D → D → W Bool} (ho : OpR X (compareOp op) r) (ho' : OpR X (compareOp op') r') (p : P2b r f) (p' : P2b r' f') (ha : Eb X S Γ a ma) (hb : Eb X S Γ b mb) (hc : Eb X S Γ c mc)
    (hk : lastMarks [op, op'] [b, c] = false) : Tb X S Γ (.Compare a [op, op'] [b, c] pos) (W.bind ma fun x => W.bind mb fun y => W.ite (f x y) (W.bind mc fun z => f' y z) (W.pure false)) := by
  obtain ⟨ta, pa, ka⟩ := ha.ex
  obtain ⟨tb, pb, kb⟩ := hb.ex
  obtain ⟨tc, pc, kc⟩ := hc.ex
  refine Tb.mk' (pt_chain ho ho' pa pb pc hk) fun M σ F H Q φ R z hm q => ?_
  refine ka M σ F H _ _ R z hm fun v d F1 H1 hm1 R1 x1 z1 r1 => ?_
  refine kb M σ F1 H1 _ _ R1 z1 hm1 fun w e F2 H2 hm2 R2 x2 z2 r2 => ?_
  refine p _ H2 v w d e _ _ R2.vw_h z2 (r1.mono (x2.vw R1)) r2 hm2 fun k hk' => ⟨k, rfl, ?_⟩
  cases k with
  | false => exact ⟨false, rfl, q _ F2 H2 hk' R2 (x1.trans x2)⟩
  | true =>
    rw [if_pos rfl]
    refine kc M σ F2 H2 _ _ R2 z2 hk' fun u c' F3 H3 hm3 R3 x3 z3 r3 => ?_
    exact p' _ H3 w u e c' _ _ R3.vw_h z3 (r2.mono (x3.vw R2)) r3 hm3 fun k2 h2 => ⟨k2, rfl, q _ F3 H3 h2 R3 ((x1.trans x2).trans x3)⟩
/-! ### tests -/
theorem isN_iff {F : Hp} {v : V} {d : D} (r : Rp F v d) : decide (v = V.non) = P.isNone d := by
  cases r <;> first | rfl | exact decide_eq_false (fun z => by cases z)
theorem tb_isN {j : Nat} {p2 : Pos} (ha : Eb X S Γ a ma) : Tb X S Γ (.Compare a [.Is] [.Constant .none j p2] pos) (W.bind ma fun d => W.pure (P.isNone d)) := by
  obtain ⟨ta, pa, ka⟩ := ha.ex
  refine Tb.mk' (pt_cmp (pc_isN pa) (by rfl)) fun M σ F H Q φ R z hm q => ?_
  refine ka M σ F H _ _ R z hm fun v d F1 H1 hm1 R1 x1 z1 r1 => ⟨_, rfl, ?_⟩
  rw [isN_iff r1]
  exact q _ F1 H1 hm1 R1 x1
theorem tb_notN {j : Nat} {p2 : Pos} (ha : Eb X S Γ a ma) : Tb X S Γ (.Compare a [.IsNot] [.Constant .none j p2] pos) (W.bind ma fun d => W.pure (!P.isNone d)) := by
  obtain ⟨ta, pa, ka⟩ := ha.ex
  refine Tb.mk' (pt_cmp (pc_notN pa) (by rfl)) fun M σ F H Q φ R z hm q => ?_
  refine ka M σ F H _ _ R z hm fun v d F1 H1 hm1 R1 x1 z1 r1 => ⟨_, rfl, ?_⟩
  rw [isN_iff r1]
  exact q _ F1 H1 hm1 R1 x1
theorem ev_isN {j : Nat} {p2 : Pos} (ha : Eb X S Γ a ma) : Ev X S Γ (.Compare a [.Is] [.Constant .none j p2] pos) (W.bind ma fun d => W.pure (.bool (P.isNone d))) := by
  obtain ⟨ta, pa, ka⟩ := ha.ex
  refine Ev.mk' (pe_cmp (pc_isN pa) (by rfl)) fun M σ F H Q φ R z hm q => ?_
  refine ka M σ F H _ _ R z hm fun v d F1 H1 hm1 R1 x1 z1 r1 => ?_
  rw [isN_iff r1]
  exact q _ _ F1 H1 hm1 R1 x1 (.bl _)
theorem ev_notN {j : Nat} {p2 : Pos} (ha : Eb X S Γ a ma) : Ev X S Γ (.Compare a [.IsNot] [.Constant .none j p2] pos) (W.bind ma fun d => W.pure (.bool (!P.isNone d))) := by
  obtain ⟨ta, pa, ka⟩ := ha.ex
  refine Ev.mk' (pe_cmp (pc_notN pa) (by rfl)) fun M σ F H Q φ R z hm q => ?_
  refine ka M σ F H _ _ R z hm fun v d F1 H1 hm1 R1 x1 z1 r1 => ?_
  rw [isN_iff r1]
  exact q _ _ F1 H1 hm1 R1 x1 (.bl _)
/-- d is True, d is False, of truth values -/
def P.isBl : D → D → W Bool
  | .bool a, .bool b => W.pure (decide (a = b))
  | _, _ => W.fail
theorem p2_isBl : P2b rIsB P.isBl := fun G H x y dx dy Q φ gs z rx ry hm q => by
  cases dx with
  | bool i =>
    cases dy with
    | bool j => exact ⟨i, j, rx.of_bl, ry.of_bl, q _ hm⟩
    | _ => exact hm.elim
  | _ => exact hm.elim
theorem tb_val (ha : Eb X S Γ a ma) (he : ∀ whole, isTrue a X.env whole = (do let v ← whole; standAt a.pos; holding [v] (truthy v))) : Tb X S Γ a (W.bind ma P.asBool) := by
  obtain ⟨ta, pa, ka⟩ := ha.ex
  refine Tb.mk' (pt_val pa he) fun M σ F H Q φ R z hm q => ?_
  refine ka M σ F H _ _ R z hm fun v d F1 H1 hm1 R1 x1 z1 r1 => ?_
  cases d with
  | bool b => exact ⟨b, r1.of_bl, q _ F1 H1 hm1 R1 x1⟩
  | _ => exact hm1.elim
theorem tb_truth (ha : Eb X S Γ a ma) (he : ∀ whole, isTrue a X.env whole = (do let v ← whole; standAt a.pos; holding [v] (truthy v))) : Tb X S Γ a (W.bind ma P.truth) := by
  obtain ⟨ta, pa, ka⟩ := ha.ex
  refine Tb.mk' (pt_truth pa he) fun M σ F H Q φ R z hm q => ?_
  refine ka M σ F H _ _ R z hm fun v d F1 H1 hm1 R1 x1 z1 r1 => ?_
  cases r1 with
  | non => exact ⟨false, rfl, q _ F1 H1 hm1 R1 x1⟩
  | bl b => exact ⟨b, rfl, q _ F1 H1 hm1 R1 x1⟩
  | int i => exact ⟨i != 0, rfl, q _ F1 H1 hm1 R1 x1⟩
  | str x => exact ⟨(x.length : Int) != 0, ⟨hm1.1, rfl⟩, q _ F1 H1 hm1.2 R1 x1⟩
  | lst e r =>
    rename_i a' xs ds
    refine ⟨!ds.isEmpty, .inl ⟨xs, SqL.of (R1.vw_h _ _ e), ?_⟩, q _ F1 H1 hm1 R1 x1⟩
    cases r <;> rfl
  | tup e r =>
    rename_i a' xs ds
    refine ⟨!ds.isEmpty, .inr (.inl ⟨xs, SqT.of (R1.vw_h _ _ e), ?_⟩), q _ F1 H1 hm1 R1 x1⟩
    cases r <;> rfl
  | dic e r => exact hm1.elim
variable {ka kb : W Bool}
theorem tb_not (ha : Tb X S Γ a ka) : Tb X S Γ (.UnaryOp .Not a pos) (W.no ka) := by
  obtain ⟨ta, pa, k⟩ := ha.ex
  exact Tb.mk' (pt_not pa) fun M σ F H Q φ R z hm q => k M σ F H _ _ R z hm fun b F1 H1 hm1 R1 x1 z1 => q _ F1 H1 hm1 R1 x1
theorem tw_and1 (ha : Tb X S Γ a ka) : Tw X S Γ (.BoolOp .And [a] pos) ka := by
  obtain ⟨ta, pa, k⟩ := ha.ex
  exact ⟨ta, pw_and1 pa, k⟩
theorem tw_or1 (ha : Tb X S Γ a ka) : Tw X S Γ (.BoolOp .Or [a] pos) ka := by
  obtain ⟨ta, pa, k⟩ := ha.ex
  exact ⟨ta, pw_or1 pa, k⟩
theorem tw_and (ha : Tb X S Γ a ka) (hb : Tw X S Γ (.BoolOp .And (b :: es) pos) kb) : Tw X S Γ (.BoolOp .And (a :: b :: es) pos) (W.ite ka kb (W.pure false)) := by
  obtain ⟨ta, pa, k⟩ := ha.ex
  obtain ⟨tb, pb, k2⟩ := hb.ex
  refine Tw.mk' (pw_and pa pb) fun M σ F H Q φ R z hm q => k M σ F H _ _ R z hm fun b F1 H1 hm1 R1 x1 z1 => ?_
  cases b with
  | false => exact q _ F1 H1 hm1 R1 x1
  | true => exact k2 M σ F1 H1 _ _ R1 z1 hm1 fun b F2 H2 hm2 R2 x2 z2 => q _ F2 H2 hm2 R2 (x1.trans x2)
theorem tw_or (ha : Tb X S Γ a ka) (hb : Tw X S Γ (.BoolOp .Or (b :: es) pos) kb) : Tw X S Γ (.BoolOp .Or (a :: b :: es) pos) (W.ite ka (W.pure true) kb) := by
  obtain ⟨ta, pa, k⟩ := ha.ex
  obtain ⟨tb, pb, k2⟩ := hb.ex
  refine Tw.mk' (pw_or pa pb) fun M σ F H Q φ R z hm q => k M σ F H _ _ R z hm fun b F1 H1 hm1 R1 x1 z1 => ?_
  cases b with
  | true => exact q _ F1 H1 hm1 R1 x1
  | false => exact k2 M σ F1 H1 _ _ R1 z1 hm1 fun b F2 H2 hm2 R2 x2 z2 => q _ F2 H2 hm2 R2 (x1.trans x2)
/-! as values, of truth values -/
theorem ev_one {op : BoolOp} (ha : Ev X S Γ a ma) : Ev X S Γ (.BoolOp op [a] pos) ma := by
  obtain ⟨ta, pa, k⟩ := ha.ex
  exact ⟨ta, pe_one pa, k⟩
theorem ev_and (ha : Ev X S Γ a ma) (hb : Ev X S Γ (.BoolOp .And (b :: es) pos) mb) : Ev X S Γ (.BoolOp .And (a :: b :: es) pos) (W.ite (W.bind ma P.asBool) mb (W.pure (.bool false))) := by
  obtain ⟨ta, pa, k⟩ := ha.ex
  obtain ⟨tb, pb, k2⟩ := hb.ex
  refine Ev.mk' (pe_and pa pb) fun M σ F H Q φ R z hm q => k M σ F H _ _ R z hm fun v d F1 H1 hm1 R1 x1 z1 r1 => ?_
  cases d with
  | bool c =>
    refine ⟨c, r1.of_bl, ?_⟩
    cases c with
    | false => exact q _ _ F1 H1 hm1 R1 x1 (.bl _)
    | true => exact k2 M σ F1 H1 _ _ R1 z1 hm1 fun v d F2 H2 hm2 R2 x2 z2 r2 => q _ _ F2 H2 hm2 R2 (x1.trans x2) r2
  | _ => exact hm1.elim
theorem ev_or (ha : Ev X S Γ a ma) (hb : Ev X S Γ (.BoolOp .Or (b :: es) pos) mb) : Ev X S Γ (.BoolOp .Or (a :: b :: es) pos) (W.ite (W.bind ma P.asBool) (W.pure (.bool true)) mb) := by
  obtain ⟨ta, pa, k⟩ := ha.ex
  obtain ⟨tb, pb, k2⟩ := hb.ex
  refine Ev.mk' (pe_or pa pb) fun M σ F H Q φ R z hm q => k M σ F H _ _ R z hm fun v d F1 H1 hm1 R1 x1 z1 r1 => ?_
  cases d with
  | bool c =>
    refine ⟨c, r1.of_bl, ?_⟩
    cases c with
    | true => exact q _ _ F1 H1 hm1 R1 x1 (.bl _)
    | false => exact k2 M σ F1 H1 _ _ R1 z1 hm1 fun v d F2 H2 hm2 R2 x2 z2 r2 => q _ _ F2 H2 hm2 R2 (x1.trans x2) r2
  | _ => exact hm1.elim
theorem ev_not (ha : Eb X S Γ a ma) : Ev X S Γ (.UnaryOp .Not a pos) (W.bl (W.no (W.bind ma P.asBool))) := by
  obtain ⟨ta, pa, k⟩ := ha.ex
  refine Ev.mk' (pe_not pa) fun M σ F H Q φ R z hm q => k M σ F H _ _ R z hm fun v d F1 H1 hm1 R1 x1 z1 r1 => ?_
  cases d with
  | bool c => exact ⟨c, r1.of_bl, q _ _ F1 H1 hm1 R1 x1 (.bl _)⟩
  | _ => exact hm1.elim
theorem ev_ifx {c : Expr} (hc : Tb X S Γ c ka) (ha : Ev X S Γ a ma) (hb : Ev X S Γ b mb) : Ev X S Γ (.IfExp c a b pos) (W.ite ka ma mb) := by
  obtain ⟨tc, pc, k⟩ := hc.ex
  obtain ⟨ta, pa, k1⟩ := ha.ex
  obtain ⟨tb, pb, k2⟩ := hb.ex
  refine Ev.mk' (pe_ifExp pc pa pb) fun M σ F H Q φ R z hm q => k M σ F H _ _ R z hm fun b F1 H1 hm1 R1 x1 z1 => ?_
  cases b with
  | true => exact k1 M σ F1 H1 _ _ R1 z1 hm1 fun v d F2 H2 hm2 R2 x2 z2 r2 => q _ _ F2 H2 hm2 R2 (x1.trans x2) r2
  | false => exact k2 M σ F1 H1 _ _ R1 z1 hm1 fun v d F2 H2 hm2 R2 x2 z2 r2 => q _ _ F2 H2 hm2 R2 (x1.trans x2) r2

/-! ### items and slices -/
theorem ix_go {K : PySem.W.Frag} {G H : Hp} {v w : V} {d i : D} {Q : VK} {φ : D → Prop} (gs : Same G H) (r : Rp G v d) (ri : ∃ G', Rp G' w i) (hm : P.ix d i φ) (q : ∀ v d, φ d → Rp G v d → Q v H) : rIx K v w H Q := by
  obtain ⟨G', ri⟩ := ri
  cases i with
  | int k =>
    have ei := ri.of_int
    cases d with
    | list l =>
      obtain ⟨a, vs, rfl, h1, h2⟩ := r.of_list
      have hm : W.opt (atI l k) φ := hm
      cases e : atI l k with
      | none => rw [e] at hm; exact hm.elim
      | some u =>
        rw [e] at hm
        obtain ⟨u', e1, r1⟩ := h2.atI e
        exact .inl ⟨a, vs, k, u', rfl, ei, SqL.of (gs _ _ h1), e1, q u' u hm r1⟩
    | tuple l =>
      obtain ⟨a, vs, rfl, h1, h2⟩ := r.of_tup
      have hm : W.opt (atI l k) φ := hm
      cases e : atI l k with
      | none => rw [e] at hm; exact hm.elim
      | some u =>
        rw [e] at hm
        obtain ⟨u', e1, r1⟩ := h2.atI e
        exact .inr (.inl ⟨a, vs, k, u', rfl, ei, SqT.of (gs _ _ h1), e1, q u' u hm r1⟩)
    | str x =>
      obtain ⟨hz, hm⟩ := hm
      have hm : W.bind (W.opt (atI x.cps.toList k)) (fun c => W.pure (PyData.str ⟨#[c]⟩)) φ := hm
      cases e : atI x.cps.toList k with
      | none => rw [e] at hm; exact hm.elim
      | some u =>
        rw [e] at hm
        exact .inr (.inr ⟨x, k, u, r.of_str, ei, hz, e, q _ _ hm (.str _)⟩)
    | _ => exact hm.elim
  | _ => cases d <;> exact hm.elim
theorem ev_ix (ha : Ev X S Γ a ma) (hb : Eb X S Γ b mb) (hs : PlainIx b) : Ev X S Γ (.Subscript a b pos) (W.b2 P.ix ma mb) := by
  obtain ⟨ta, pa, k⟩ := ha.ex
  obtain ⟨tb, pb, k2⟩ := hb.ex
  refine Ev.mk' (pe_ix ix_seq pa pb hs) fun M σ F H Q φ R z hm q => k M σ F H _ _ R z hm fun v d F1 H1 hm1 R1 x1 z1 r1 => ?_
  refine k2 M σ F1 H1 _ _ R1 z1 hm1 fun w i F2 H2 hm2 R2 x2 z2 r2 => ?_
  exact ix_go R2.fh (r1.mono x2.sf) ⟨_, r2⟩ hm2 fun u c hc rc => q u c F2 H2 hc R2 (x1.trans x2) rc
theorem eb_ix (ha : Eb X S Γ a ma) (hb : Eb X S Γ b mb) (hs : PlainIx b) : Eb X S Γ (.Subscript a b pos) (W.b2 P.ix ma mb) := by
  obtain ⟨ta, pa, k⟩ := ha.ex
  obtain ⟨tb, pb, k2⟩ := hb.ex
  refine Eb.mk' (pe_ix ix_seq pa pb hs) fun M σ F H Q φ R z hm q => k M σ F H _ _ R z hm fun v d F1 H1 hm1 R1 x1 z1 r1 => ?_
  refine k2 M σ F1 H1 _ _ R1 z1 hm1 fun w i F2 H2 hm2 R2 x2 z2 r2 => ?_
  exact ix_go R2.vw_h (r1.mono (x2.vw R1)) ⟨_, r2⟩ hm2 fun u c hc rc => q u c F2 H2 hc R2 (x1.trans x2) rc
/-- an item of an own list: it stands in the frozen part -/
theorem ev_ixo (C : Cok X sc N Vs O G) {i : Nat} {x : Str} {l : List D} {p2 : Pos} (hi : N[i]? = some x) (hv : Vs.contains i = true) (hg : Γ[i]? = some (.ow l)) (hb : Eb X S Γ b mb) (hs : PlainIx b) :
    Ev X S Γ (.Subscript (.Name x p2) b pos) (W.bind mb fun j => P.ix (.list l) j) := by
  have hx := C.dN x (List.mem_of_getElem? hi)
  obtain ⟨tb, pb, k2⟩ := hb.ex
  refine Ev.mk' (pe_ix ix_seq (pe_var (i := i) (by rw [C.hN]; exact hi) (C.vis i x hv hi) hx.1 hx.2) pb hs) fun M σ F H Q φ R z hm q => ?_
  obtain ⟨a, vs, e, _⟩ := R.ow hg
  refine ⟨_, e, k2 M σ F H _ _ R z hm fun w j F2 H2 hm2 R2 x2 z2 r2 => ?_⟩
  obtain ⟨a', vs', e', h1, h2, h3, r⟩ := R2.ow hg
  rw [e] at e'
  cases e'
  cases j with
  | int k =>
    have hm2 : W.opt (atI l k) φ := hm2
    cases e3 : atI l k with
    | none => rw [e3] at hm2; exact hm2.elim
    | some u =>
      rw [e3] at hm2
      obtain ⟨u', e1, r1⟩ := r.atI e3
      exact .inl ⟨a, vs', k, u', rfl, r2.of_int, SqL.of h1, e1, q u' u F2 H2 hm2 R2 x2 r1⟩
  | _ => exact hm2.elim
/-- an item of a list that is read only -/
theorem ev_ixr (C : Cok X sc N Vs O G) {i : Nat} {x : Str} {l : List D} {p2 : Pos} (hi : N[i]? = some x) (hv : Vs.contains i = true) (hg : Γ[i]? = some (.rd l)) (hb : Eb X S Γ b mb) (hs : PlainIx b) :
    Ev X S Γ (.Subscript (.Name x p2) b pos) (W.bind mb fun j => P.ix (.list l) j) := by
  have hx := C.dN x (List.mem_of_getElem? hi)
  obtain ⟨tb, pb, k2⟩ := hb.ex
  refine Ev.mk' (pe_ix ix_seq (pe_var (i := i) (by rw [C.hN]; exact hi) (C.vis i x hv hi) hx.1 hx.2) pb hs) fun M σ F H Q φ R z hm q => ?_
  obtain ⟨a, vs, e, _⟩ := R.rd hg
  refine ⟨_, e, k2 M σ F H _ _ R z hm fun w j F2 H2 hm2 R2 x2 z2 r2 => ?_⟩
  obtain ⟨a', vs', e', h1, r⟩ := R2.rd hg
  rw [e] at e'
  cases e'
  cases j with
  | int k =>
    have hm2 : W.opt (atI l k) φ := hm2
    cases e3 : atI l k with
    | none => rw [e3] at hm2; exact hm2.elim
    | some u =>
      rw [e3] at hm2
      obtain ⟨u', e1, r1⟩ := r.atI e3
      exact .inl ⟨a, vs', k, u', rfl, r2.of_int, Same.seq R2.fh h1, e1, q u' u F2 H2 hm2 R2 x2 r1⟩
  | _ => exact hm2.elim
/-- the ends of a slice -/
structure Po (X : Cx) (S : Su) (Γ : Gm) (e : Option Expr) (m : W (Option Int)) : Prop where
  ex : ∃ t : TO, PO X e t ∧ ∀ (N : En) (σ : St) (F H : Hp) (Q : Option Int → Hp → Prop) (φ : Option Int → Prop), Rel X.K S N Γ σ F H → SzOk H → m φ →
    (∀ i F' H', φ i → Rel X.K S N Γ σ F' H' → Xt Γ σ F H F' H' → SzOk H' → Q i H') → t σ H Q
theorem po_no : Po X S Γ none (W.pure none) := ⟨_, po_none, fun M σ F H Q φ R z hm q => q _ F H hm R Xt.refl z⟩
theorem po_at (ha : Eb X S Γ a ma) : Po X S Γ (some a) (W.bind ma fun d => W.bind (P.asInt d) fun i => W.pure (some i)) := by
  obtain ⟨ta, pa, k⟩ := ha.ex
  refine ⟨_, po_some pa, fun M σ F H Q φ R z hm q => k M σ F H _ _ R z hm fun v d F1 H1 hm1 R1 x1 z1 r1 => ?_⟩
  cases d with
  | int i => exact ⟨i, r1.of_int, q _ F1 H1 hm1 R1 x1 z1⟩
  | _ => exact hm1.elim
theorem eo_cut {lo hi : Option Expr} {ml mh : W (Option Int)} {p2 : Pos} (ha : Ev X S Γ a ma) (hl : Po X S Γ lo ml) (hh : Po X S Γ hi mh) : Eo X S Γ (.Subscript a (.Slice lo hi none p2) pos) (W.bind ma fun x => W.bind ml fun i => W.bind mh fun j => P.cutL i j x) := by
  obtain ⟨ta, pa, k⟩ := ha.ex
  obtain ⟨tl, pl, k1⟩ := hl.ex
  obtain ⟨th, ph, k2⟩ := hh.ex
  refine Eo.mk' (pe_slice sl_list pa pl ph) fun M σ F H Q φ R z hm q => k M σ F H _ _ R z hm fun v d F1 H1 hm1 R1 x1 z1 r1 => ?_
  refine k1 M σ F1 H1 _ _ R1 z1 hm1 fun i F2 H2 hm2 R2 x2 z2 => ?_
  refine k2 M σ F2 H2 _ _ R2 z2 hm2 fun j F3 H3 hm3 R3 x3 z3 => ?_
  cases d with
  | list l =>
    obtain ⟨a, vs, rfl, h1, h2⟩ := r1.of_list
    have h1' := R3.fh _ _ (x3.sf _ _ (x2.sf _ _ h1))
    have xx := (x1.trans x2).trans x3
    refine ⟨a, vs, rfl, SqL.of h1', fun p np => ?_⟩
    have nf := R3.fh.free np
    have n0 : H p = none := by
      by_cases e : H p = none
      · exact e
      · exact absurd np (xx.al p e)
    exact q p _ _ F3 _ hm3 (R3.new np) (xx.trans (Xt.new np)) upd_same nf n0 (((h2.mono x2.sf).mono x3.sf).cut i j)
  | _ => exact hm3.elim
/-- a slice of an own list -/
theorem eo_cuto (C : Cok X sc N Vs O G) {i : Nat} {x : Str} {l : List D} {p3 : Pos} (hi : N[i]? = some x) (hv : Vs.contains i = true) (hg : Γ[i]? = some (.ow l)) {lo hi' : Option Expr} {ml mh : W (Option Int)} {p2 : Pos} (hl : Po X S Γ lo ml) (hh : Po X S Γ hi' mh) :
    Eo X S Γ (.Subscript (.Name x p3) (.Slice lo hi' none p2) pos) (W.bind ml fun i => W.bind mh fun j => W.pure (P.cut l i j)) := by
  have hx := C.dN x (List.mem_of_getElem? hi)
  obtain ⟨tl, pl, k1⟩ := hl.ex
  obtain ⟨th, ph, k2⟩ := hh.ex
  refine Eo.mk' (pe_slice sl_list (pe_var (i := i) (by rw [C.hN]; exact hi) (C.vis i x hv hi) hx.1 hx.2) pl ph) fun M σ F H Q φ R z hm q => ?_
  obtain ⟨a, vs, e, _⟩ := R.ow hg
  refine ⟨_, e, k1 M σ F H _ _ R z hm fun i F2 H2 hm2 R2 x2 z2 => ?_⟩
  refine k2 M σ F2 H2 _ _ R2 z2 hm2 fun j F3 H3 hm3 R3 x3 z3 => ?_
  obtain ⟨a', vs', e', h1, h2, h3, r⟩ := R3.ow hg
  rw [e] at e'
  cases e'
  have xx := x2.trans x3
  refine ⟨a, vs', rfl, SqL.of h1, fun p np => ?_⟩
  have n0 : H p = none := by
    by_cases e : H p = none
    · exact e
    · exact absurd np (xx.al p e)
  exact q p _ _ F3 _ hm3 (R3.new np) (xx.trans (Xt.new np)) upd_same (R3.fh.free np) n0 (r.cut i j)

/-! ### displays, arguments -/
theorem av_nil : Av X S Γ [] (W.pure []) := Av.mk' pa_nil fun M σ F H Q φ R z hm q => q _ _ F H hm R Xt.refl .nil rfl
theorem ab_nil : Ab X S Γ [] (W.pure []) := Ab.mk' pa_nil fun M σ F H Q φ R z hm q => q _ _ F H hm R Xt.refl .nil rfl
variable {mr : W (List D)}
theorem av_cons (ha : Ev X S Γ a ma) (hr : Av X S Γ es mr) (hs : starEach (a :: es) X.env = (false, eval a X.env) :: starEach es X.env) : Av X S Γ (a :: es) (W.cons ma mr) := by
  obtain ⟨ta, pa, k⟩ := ha.ex
  obtain ⟨tr, pr, k2⟩ := hr.ex
  refine Av.mk' (pa_cons pa pr hs) fun M σ F H Q φ R z hm q => k M σ F H _ _ R z hm fun v d F1 H1 hm1 R1 x1 z1 r1 => ?_
  exact k2 M σ F1 H1 _ _ R1 z1 hm1 fun vs ds F2 H2 hm2 R2 x2 z2 r2 n2 => q _ _ F2 H2 hm2 R2 (x1.trans x2) (.cons (r1.mono x2.sf) r2) (congrArg (· + 1) n2)
theorem ab_cons (ha : Eb X S Γ a ma) (hr : Ab X S Γ es mr) (hs : starEach (a :: es) X.env = (false, eval a X.env) :: starEach es X.env) : Ab X S Γ (a :: es) (W.cons ma mr) := by
  obtain ⟨ta, pa, k⟩ := ha.ex
  obtain ⟨tr, pr, k2⟩ := hr.ex
  refine Ab.mk' (pa_cons pa pr hs) fun M σ F H Q φ R z hm q => k M σ F H _ _ R z hm fun v d F1 H1 hm1 R1 x1 z1 r1 => ?_
  exact k2 M σ F1 H1 _ _ R1 z1 hm1 fun vs ds F2 H2 hm2 R2 x2 z2 r2 n2 => q _ _ F2 H2 hm2 R2 (x1.trans x2) (.cons (r1.mono (x2.vw R1)) r2) (congrArg (· + 1) n2)
theorem ev_tup {k : Nat} (hl : es.length ≤ 1000) (ha : Av X S Γ es mr) : Ev X S Γ (.Tuple es k pos) (W.tup mr) := by
  obtain ⟨tr, pr, k2⟩ := ha.ex
  refine Ev.mk' (pe_tup pr) fun M σ F H Q φ R z hm q => k2 M σ F H _ _ R z hm fun vs ds F1 H1 hm1 R1 x1 z1 r1 n1 => ⟨?_, fun p np => ?_⟩
  · rw [r1.length, n1]
    exact Nat.le_of_lt (small1000 hl)
  · have nf := R1.fh.free np
    exact q _ _ _ _ hm1 (R1.frz np) (x1.trans (Xt.frz np nf)) (.tup upd_same (r1.mono (Xt.frz (Γ := Γ) (σ := σ) np nf).sf))
theorem eo_lst (hl : es.length ≤ 1000) (ha : Av X S Γ es mr) : Eo X S Γ (.List es pos) mr := by
  obtain ⟨tr, pr, k2⟩ := ha.ex
  refine Eo.mk' (pe_lst pr) fun M σ F H Q φ R z hm q => k2 M σ F H _ _ R z hm fun vs ds F1 H1 hm1 R1 x1 z1 r1 n1 => ⟨?_, fun p np => ?_⟩
  · rw [r1.length, n1]
    exact Nat.le_of_lt (small1000 hl)
  · have n0 : H p = none := by
      by_cases e : H p = none
      · exact e
      · exact absurd np (x1.al p e)
    exact q p _ _ F1 _ hm1 (R1.new np) (x1.trans (Xt.new np)) upd_same (R1.fh.free np) n0 r1
end
end Dv
end
section
/-! Dv4: what a def promises over data, and its calls; built-in functions. -/
namespace Dv
open PySem PySem.Spec L2
open PyProof.Rows hiding St

/-- a step of a callee -/
abbrev Xp (F H F' H' : Hp) : Prop := Xt [] [] F H F' H'
theorem no_iv {σ : St} {b : Addr} : ¬ IvAt [] σ b := fun ⟨i, I, h, _⟩ => by simp at h
/-- data in, data out -/
def spW (T : List (Addr × Str)) (m : List D → W D) : Sp := fun vs H Q _ => ∃ (F : Hp) (ds : List D) (φ : D → Prop), Same F H ∧ RpA F vs ds ∧ LamX.Tabs T H ∧ m ds φ ∧
  ∀ d v F' H', φ d → Xp F H F' H' → Same F' H' → LamX.Tabs T H' → Rp F' v d → Q v H'
/-- data in, a new list out -/
def spO (T : List (Addr × Str)) (m : List D → W (List D)) : Sp := fun vs H Q _ => ∃ (F : Hp) (ds : List D) (φ : List D → Prop), Same F H ∧ RpA F vs ds ∧ LamX.Tabs T H ∧ m ds φ ∧
  ∀ l a us F' H', φ l → Xp F H F' H' → Same F' H' → LamX.Tabs T H' → H' a = some (.lst us) → F' a = none → H a = none → RpA F' us l → Q (.ref a) H'
/-- a cell under a word and data in, data out -/
def spI (T : List (Addr × Str)) (I : List D → Prop) (m : List D → W D) : Sp := fun vs H Q _ => ∃ (F : Hp) (a : Addr) (us : List V) (l : List D) (ws : List V) (ds : List D) (φ : D → Prop),
  vs = .ref a :: ws ∧ Same F H ∧ H a = some (.lst us) ∧ F a = none ∧ RpA F us l ∧ I l ∧ RpA F ws ds ∧ LamX.Tabs T H ∧ m ds φ ∧
  ∀ d v F' H' us' l', φ d → Xt [.iv I] [some (.ref a)] F H F' H' → Same F' H' → LamX.Tabs T H' → H' a = some (.lst us') → F' a = none → RpA F' us' l' → I l' → Rp F' v d → Q v H'
/-- a list that is read only (the script) first, then data; a new list out -/
def spR (K : PySem.W.Frag) (T : List (Addr × Str)) (m : List D → List D → W (List D)) : Sp := fun vs H Q _ => ∃ (F : Hp) (a : Addr) (us : List V) (l : List D) (ws : List V) (ds : List D) (φ : List D → Prop),
  vs = .ref a :: ws ∧ Same F H ∧ SqL K F a us ∧ RpA F us l ∧ RpA F ws ds ∧ LamX.Tabs T H ∧ m l ds φ ∧
  ∀ l' b us F' H', φ l' → Xp F H F' H' → Same F' H' → LamX.Tabs T H' → H' b = some (.lst us) → F' b = none → H b = none → RpA F' us l' → Q (.ref b) H'

/-- a def that may be called here -/
def Cal (X : Cx) (x : Str) (sp : Sp) : Prop := ∃ (k : Nat) (f : Addr) (fd : FuncData) (ps : List Str), FnOk X.prog X.w X.K X.mg X.base CX0 k f fd ps sp ∧ Room k X.A ∧ X.mg x = some (.ref f) ∧ PySem.W.keepIn X.K (.ref f) = true ∧ Binds X.K fd ps []
/-- .. with keywords: ks the keywords in the order of the call -/
def CalK (X : Cx) (x : Str) (ks : List Str) (gV : List V → List V → List V) (sp : Sp) : Prop := ∃ (k : Nat) (f : Addr) (fd : FuncData) (ps : List Str) (g : List Value → List Value → List Value),
  FnOk X.prog X.w X.K X.mg X.base CX0 k f fd ps sp ∧ Room k X.A ∧ X.mg x = some (.ref f) ∧ PySem.W.keepIn X.K (.ref f) = true ∧ KBinds X.K fd ps ks g gV

section
variable {X : Cx} {S : Su} {Γ : Gm} {sc : Scope} {N : List Str} {Vs O : List Nat} {G : List Str} {a b c e : Expr} {es : List Expr} {pos p : Pos} {ma mb mc : W D} {mr : W (List D)} {x : Str} {j : Nat}
theorem Rel.back {K : PySem.W.Frag} {M : En} {σ : St} {F H F' H' : Hp} (R : Rel K S M Γ σ F H) (x : Xp F H F' H') (fh : Same F' H') (t : LamX.Tabs S.T H') : Rel K S M Γ σ F' H' :=
  R.step x.sf fh (fun b o e n _ => x.kp b o e n no_iv) x.al x.nw t fun i I a hi ha => by
    obtain ⟨a', vs, l, e, h1, _, _, r, q⟩ := R.iv hi
    rw [ha] at e
    cases e
    exact ⟨vs, l, x.kp _ _ h1 (fun _ z => by cases z) no_iv, r.mono x.sf, q⟩
theorem Xp.xt {σ : St} {F H F' H' : Hp} (x : Xp F H F' H') : Xt Γ σ F H F' H' := ⟨x.sf, fun b o e n _ => x.kp b o e n no_iv, x.al, x.nw⟩
theorem ev_call {m : List D → W D} (C : Cok X sc N Vs O G) (hg : G[j]? = some x) (c : Cal X x (spW S.T m)) (ha : Av X S Γ (a :: es) mr) (hs : starEach (a :: es) X.env = (false, eval a X.env) :: starEach es X.env) (hp : (backTo pos (starEach es X.env)).any (·.1) = false) :
    Ev X S Γ (.Call (.Name x p) (a :: es) [] pos) (W.bind mr m) := by
  obtain ⟨k, f, fd, ps, F0, hr, hm, hk, hb⟩ := c
  obtain ⟨t, pa, ka⟩ := ha.ex
  refine Ev.mk' (pe_call F0 hr (C.gl j x hg) hm hk hb .nil (E := E0) pass0 pa (C.dG x (List.mem_of_getElem? hg)).1 hs hp) fun M σ F H Q φ R z hm q => ka M σ F H _ _ R z hm fun vs ds F1 H1 hm1 R1 x1 z1 r1 n1 => ?_
  rw [List.append_nil]
  exact ⟨F1, ds, φ, R1.fh, r1, R1.tb, hm1, fun d v F2 H2 hd x2 f2 t2 r2 => q v d F2 H2 hd (R1.back x2 f2 t2) (x1.trans x2.xt) r2⟩
/-- .. whose answer needs no heap: the arguments may be own cells -/
theorem ev_callB {m : List D → W D} (C : Cok X sc N Vs O G) (hg : G[j]? = some x) (c : Cal X x (spW S.T m)) (ha : Ab X S Γ (a :: es) mr) (hs : starEach (a :: es) X.env = (false, eval a X.env) :: starEach es X.env) (hp : (backTo pos (starEach es X.env)).any (·.1) = false) :
    Ev X S Γ (.Call (.Name x p) (a :: es) [] pos) (W.bind mr fun ds φ => m ds fun d => P.sc d = true ∧ φ d) := by
  obtain ⟨k, f, fd, ps, F0, hr, hm, hk, hb⟩ := c
  obtain ⟨t, pa, ka⟩ := ha.ex
  refine Ev.mk' (pe_call F0 hr (C.gl j x hg) hm hk hb .nil (E := E0) pass0 pa (C.dG x (List.mem_of_getElem? hg)).1 hs hp) fun M σ F H Q φ R z hm q => ka M σ F H _ _ R z hm fun vs ds F1 H1 hm1 R1 x1 z1 r1 n1 => ?_
  rw [List.append_nil]
  refine ⟨vw Γ σ F1 H1, ds, _, R1.vw_h, r1, R1.tb, hm1, fun d v F2 H2 hd x2 f2 t2 r2 => ?_⟩
  -- the callee's frozen part is dropped
  have fh : Same F1 H2 := fun b o e => f2 b o (x2.sf b o (vw_f b o e))
  have R2 : Rel X.K S M Γ σ F1 H2 := R1.step (Same.refl _) fh (fun b o e n _ => x2.kp b o e n no_iv) x2.al (fun b e q => absurd q e) t2 fun i I a hi ha => by
    obtain ⟨a', vs, l, e, h1, _, _, r, q⟩ := R1.iv hi
    rw [ha] at e
    cases e
    exact ⟨vs, l, x2.kp _ _ h1 (fun _ z => by cases z) no_iv, r, q⟩
  exact q v d F1 H2 hd.2 R2 (x1.trans ⟨Same.refl _, fun b o e n _ => x2.kp b o e n no_iv, x2.al, fun b e q => absurd q e⟩) (r2.sc hd.1 F1)
theorem eo_call {m : List D → W (List D)} (C : Cok X sc N Vs O G) (hg : G[j]? = some x) (c : Cal X x (spO S.T m)) (ha : Av X S Γ (a :: es) mr) (hs : starEach (a :: es) X.env = (false, eval a X.env) :: starEach es X.env) (hp : (backTo pos (starEach es X.env)).any (·.1) = false) :
    Eo X S Γ (.Call (.Name x p) (a :: es) [] pos) (W.bind mr m) := by
  obtain ⟨k, f, fd, ps, F0, hr, hm, hk, hb⟩ := c
  obtain ⟨t, pa, ka⟩ := ha.ex
  refine Eo.mk' (pe_call F0 hr (C.gl j x hg) hm hk hb .nil (E := E0) pass0 pa (C.dG x (List.mem_of_getElem? hg)).1 hs hp) fun M σ F H Q φ R z hm q => ka M σ F H _ _ R z hm fun vs ds F1 H1 hm1 R1 x1 z1 r1 n1 => ?_
  rw [List.append_nil]
  refine ⟨F1, ds, φ, R1.fh, r1, R1.tb, hm1, fun l a us F2 H2 hd x2 f2 t2 h1 h2 h3 r2 => q a us l F2 H2 hd (R1.back x2 f2 t2) (x1.trans x2.xt) h1 h2 ?_ r2⟩
  by_cases e : H a = none
  · exact e
  · exact absurd h3 (x1.al a e)
/-- a list that is read only, handed on -/
theorem eo_callR {m : List D → List D → W (List D)} {i : Nat} {y : Str} {l : List D} {p2 : Pos} (C : Cok X sc N Vs O G) (hg : G[j]? = some x) (c : Cal X x (spR X.K S.T m)) (hi : N[i]? = some y) (hv : Vs.contains i = true) (hl : Γ[i]? = some (.rd l)) (ha : Av X S Γ es mr)
    (hs : starEach (.Name y p2 :: es) X.env = (false, eval (.Name y p2) X.env) :: starEach es X.env) (hp : (backTo pos (starEach es X.env)).any (·.1) = false) :
    Eo X S Γ (.Call (.Name x p) (.Name y p2 :: es) [] pos) (W.bind mr (m l)) := by
  obtain ⟨k, f, fd, ps, F0, hr, hm, hk, hb⟩ := c
  obtain ⟨t, pa, ka⟩ := ha.ex
  have hx := C.dN y (List.mem_of_getElem? hi)
  refine Eo.mk' (pe_call F0 hr (C.gl j x hg) hm hk hb .nil (E := E0) pass0 (pa_cons (pe_var (i := i) (by rw [C.hN]; exact hi) (C.vis i y hv hi) hx.1 hx.2) pa hs) (C.dG x (List.mem_of_getElem? hg)).1 hs hp) fun M σ F H Q φ R z hm q => ?_
  obtain ⟨a, vs, e, _⟩ := R.rd hl
  refine ⟨_, e, ka M σ F H _ _ R z hm fun us ds F1 H1 hm1 R1 x1 z1 r1 n1 => ?_⟩
  obtain ⟨a', vs', e', h1, h2⟩ := R1.rd hl
  rw [e] at e'
  cases e'
  rw [List.append_nil]
  refine ⟨F1, a, vs', l, us, ds, φ, rfl, R1.fh, h1, h2, r1, R1.tb, hm1, fun l a us F2 H2 hd x2 f2 t2 h1 h2 h3 r2 => q a us l F2 H2 hd (R1.back x2 f2 t2) (x1.trans x2.xt) h1 h2 ?_ r2⟩
  by_cases e : H a = none
  · exact e
  · exact absurd h3 (x1.al a e)
/-- a cell under a word, handed on -/
theorem ev_callI {I : List D → Prop} {m : List D → W D} {i : Nat} {y : Str} {p2 : Pos} (C : Cok X sc N Vs O G) (hg : G[j]? = some x) (c : Cal X x (spI S.T I m)) (hi : N[i]? = some y) (hv : Vs.contains i = true) (hl : Γ[i]? = some (.iv I)) (ha : Av X S Γ es mr)
    (hs : starEach (.Name y p2 :: es) X.env = (false, eval (.Name y p2) X.env) :: starEach es X.env) (hp : (backTo pos (starEach es X.env)).any (·.1) = false) :
    Ev X S Γ (.Call (.Name x p) (.Name y p2 :: es) [] pos) (W.bind mr m) := by
  obtain ⟨k, f, fd, ps, F0, hr, hm, hk, hb⟩ := c
  obtain ⟨t, pa, ka⟩ := ha.ex
  have hx := C.dN y (List.mem_of_getElem? hi)
  refine Ev.mk' (pe_call F0 hr (C.gl j x hg) hm hk hb .nil (E := E0) pass0 (pa_cons (pe_var (i := i) (by rw [C.hN]; exact hi) (C.vis i y hv hi) hx.1 hx.2) pa hs) (C.dG x (List.mem_of_getElem? hg)).1 hs hp) fun M σ F H Q φ R z hm q => ?_
  obtain ⟨a, _, _, e, _⟩ := R.iv hl
  refine ⟨_, e, ka M σ F H _ _ R z hm fun us ds F1 H1 hm1 R1 x1 z1 r1 n1 => ?_⟩
  obtain ⟨a', vs', l, e', h1, h2, h3, r, hI⟩ := R1.iv hl
  rw [e] at e'
  cases e'
  rw [List.append_nil]
  refine ⟨F1, a, vs', l, us, ds, φ, rfl, R1.fh, h1, h2, r, hI, r1, R1.tb, hm1, fun d v F2 H2 us' l' hd x2 f2 t2 g1 g2 g3 g4 r2 => ?_⟩
  have sub : ∀ b, IvAt [.iv I] [some (.ref a)] b → b = a := by
    rintro b ⟨n, I', hn, hb⟩
    cases n with
    | zero =>
      simp at hb
      exact hb.symm
    | succ n => simp at hn
  have kp : ∀ b o, H1 b = some o → NoTbl o → ¬ IvAt Γ σ b → H2 b = some o := fun b o e' n ni => x2.kp b o e' n fun z => ni ⟨i, I, hl, by rw [sub b z]; exact e⟩
  have R2 : Rel X.K S M Γ σ F2 H2 := R1.step x2.sf f2 kp x2.al x2.nw t2 fun n I' a2 hn ha2 => by
    by_cases en : a2 = a
    · subst en
      have e3 : i = n := R1.ap i n a2 ⟨⟨_, hl, rfl⟩, e⟩ ⟨⟨_, hn, rfl⟩, ha2⟩
      subst e3
      rw [hl] at hn
      cases hn
      exact ⟨us', l', g1, g3, g4⟩
    · obtain ⟨a3, vs3, l3, e3, h4, _, _, r4, q4⟩ := R1.iv hn
      rw [ha2] at e3
      cases e3
      exact ⟨vs3, l3, x2.kp _ _ h4 (fun _ z => by cases z) (fun z => en (sub _ z)), r4.mono x2.sf, q4⟩
  exact q v d F2 H2 hd R2 (x1.trans ⟨x2.sf, kp, x2.al, x2.nw⟩) r2

/-! ### built-in functions -/
/-- the answer needs no heap, nothing is changed -/
def P1 (r : List V → Hp → VK → Prop) (f : List D → W D) : Prop :=
  ∀ (G H : Hp) (xs : List V) (ds : List D) (Q : VK) (φ : D → Prop), Same G H → SzOk H → RpA G xs ds → f ds φ → (∀ v d, φ d → (∀ F, Rp F v d) → Q v H) → r xs H Q
theorem ev_blt {id : String} {r : List V → Hp → VK → Prop} {f : List D → W D} (C : Cok X sc N Vs O G) (hg : G[j]? = some x) (hc : CallR X (.builtin id) r) (p1 : P1 r f) (hm : X.mg x = none) (hv : bootBuiltins x = some (.builtin id)) (ha : Ab X S Γ (a :: es) mr)
    (hs : starEach (a :: es) X.env = (false, eval a X.env) :: starEach es X.env) (hp : (backTo pos (starEach es X.env)).any (·.1) = false) : Ev X S Γ (.Call (.Name x p) (a :: es) [] pos) (W.bind mr f) := by
  obtain ⟨t, pa, ka⟩ := ha.ex
  have hx := C.dG x (List.mem_of_getElem? hg)
  refine Ev.mk' (pe_callB hc (C.gl j x hg) hm hv pa hx.2 hx.1 hs hp) fun M σ F H Q φ R z hm q => ka M σ F H _ _ R z hm fun vs ds F1 H1 hm1 R1 x1 z1 r1 n1 => ?_
  exact p1 _ H1 vs ds Q φ R1.vw_h z1 r1 hm1 fun v d hd r => q v d F1 H1 hd R1 x1 (r F1)
theorem ev_bty {T : String} {r : List V → Hp → VK → Prop} {f : List D → W D} (C : Cok X sc N Vs O G) (hg : G[j]? = some x) (hc : CallR X (.type T) r) (p1 : P1 r f) (hm : X.mg x = none) (hv : bootBuiltins x = some (.type T)) (ha : Ab X S Γ (a :: es) mr)
    (hs : starEach (a :: es) X.env = (false, eval a X.env) :: starEach es X.env) (hp : (backTo pos (starEach es X.env)).any (·.1) = false) : Ev X S Γ (.Call (.Name x p) (a :: es) [] pos) (W.bind mr f) := by
  obtain ⟨t, pa, ka⟩ := ha.ex
  have hx := C.dG x (List.mem_of_getElem? hg)
  refine Ev.mk' (pe_callTy hc (C.gl j x hg) hm hv pa hx.2 hx.1 hs hp) fun M σ F H Q φ R z hm q => ka M σ F H _ _ R z hm fun vs ds F1 H1 hm1 R1 x1 z1 r1 n1 => ?_
  exact p1 _ H1 vs ds Q φ R1.vw_h z1 r1 hm1 fun v d hd r => q v d F1 H1 hd R1 x1 (r F1)
/-- a new list -/
def P1o (r : List V → Hp → VK → Prop) (f : List D → W (List D)) : Prop :=
  ∀ (G H : Hp) (xs : List V) (ds : List D) (Q : VK) (φ : List D → Prop), Same G H → SzOk H → RpA G xs ds → f ds φ → (∀ us l, φ l → RpA G us l → ∀ p, H p = none → Q (.ref p) (upd H p (.lst us))) → r xs H Q
theorem eo_bty {T : String} {r : List V → Hp → VK → Prop} {f : List D → W (List D)} (C : Cok X sc N Vs O G) (hg : G[j]? = some x) (hc : CallR X (.type T) r) (p1 : P1o r f) (hm : X.mg x = none) (hv : bootBuiltins x = some (.type T)) (ha : Av X S Γ (a :: es) mr)
    (hs : starEach (a :: es) X.env = (false, eval a X.env) :: starEach es X.env) (hp : (backTo pos (starEach es X.env)).any (·.1) = false) : Eo X S Γ (.Call (.Name x p) (a :: es) [] pos) (W.bind mr f) := by
  obtain ⟨t, pa, ka⟩ := ha.ex
  have hx := C.dG x (List.mem_of_getElem? hg)
  refine Eo.mk' (pe_callTy hc (C.gl j x hg) hm hv pa hx.2 hx.1 hs hp) fun M σ F H Q φ R z hm q => ka M σ F H _ _ R z hm fun vs ds F1 H1 hm1 R1 x1 z1 r1 n1 => ?_
  refine p1 _ H1 vs ds Q φ R1.fh z1 r1 hm1 fun us l hl r p np => ?_
  have n0 : H p = none := by
    by_cases e : H p = none
    · exact e
    · exact absurd np (x1.al p e)
  exact q p us l F1 _ hl (R1.new np) (x1.trans (Xt.new np)) upd_same (R1.fh.free np) n0 r
theorem eo_blt {id : String} {r : List V → Hp → VK → Prop} {f : List D → W (List D)} (C : Cok X sc N Vs O G) (hg : G[j]? = some x) (hc : CallR X (.builtin id) r) (p1 : P1o r f) (hm : X.mg x = none) (hv : bootBuiltins x = some (.builtin id)) (ha : Av X S Γ (a :: es) mr)
    (hs : starEach (a :: es) X.env = (false, eval a X.env) :: starEach es X.env) (hp : (backTo pos (starEach es X.env)).any (·.1) = false) : Eo X S Γ (.Call (.Name x p) (a :: es) [] pos) (W.bind mr f) := by
  obtain ⟨t, pa, ka⟩ := ha.ex
  have hx := C.dG x (List.mem_of_getElem? hg)
  refine Eo.mk' (pe_callB hc (C.gl j x hg) hm hv pa hx.2 hx.1 hs hp) fun M σ F H Q φ R z hm q => ka M σ F H _ _ R z hm fun vs ds F1 H1 hm1 R1 x1 z1 r1 n1 => ?_
  refine p1 _ H1 vs ds Q φ R1.fh z1 r1 hm1 fun us l hl r p np => ?_
  have n0 : H p = none := by
    by_cases e : H p = none
    · exact e
    · exact absurd np (x1.al p e)
  exact q p us l F1 _ hl (R1.new np) (x1.trans (Xt.new np)) upd_same (R1.fh.free np) n0 r
end
namespace P
def len : List D → W D
  | [.list l] => W.pure (.int l.length)
  | [.tuple l] => W.pure (.int l.length)
  | [.str z] => W.need (z.length ≤ sizeLine) (W.pure (.int z.length))
  | _ => W.fail
def int1 : List D → W D
  | [.int i] => W.pure (.int i)
  | [.bool b] => W.pure (.int (if b then 1 else 0))
  | _ => W.fail
def max2 : List D → W D
  | [.int i, .int j] => W.pure (.int (if j > i then j else i))
  | _ => W.fail
def min2 : List D → W D
  | [.int i, .int j] => W.pure (.int (if j < i then j else i))
  | _ => W.fail
def abs1 : List D → W D
  | [.int i] => W.pure (.int (if i < 0 then -i else i))
  | _ => W.fail
def intsD : List D → Option (List Int)
  | [] => some []
  | .int i :: r => (intsD r).map (i :: ·)
  | _ => none
def boolsD : List D → Option (List Bool)
  | [] => some []
  | .bool i :: r => (boolsD r).map (i :: ·)
  | _ => none
def all1 : List D → W D
  | [.list l] => W.bind (W.opt (boolsD l)) fun bs => W.pure (.bool (bs.all id))
  | _ => W.fail
def any1 : List D → W D
  | [.list l] => W.bind (W.opt (boolsD l)) fun bs => W.pure (.bool (bs.any id))
  | _ => W.fail
def sum1 : List D → W D
  | [.list l] => W.bind (W.opt (intsD l)) fun ns => W.pure (.int ns.sum)
  | _ => W.fail
/-- the greatest one, told by what is true of it -/
def max1 : List D → W D
  | [.list l] => W.bind (W.opt (intsD l)) fun ns φ => 0 < ns.length ∧ ∀ m, m ∈ ns → (∀ y, y ∈ ns → y ≤ m) → φ (.int m)
  | _ => W.fail
def list1 : List D → W (List D)
  | [.list l] => W.pure l
  | [.tuple l] => W.pure l
  | _ => W.fail
end P
theorem rp1 {G : Hp} {xs : List V} {d : D} (r : RpA G xs [d]) : ∃ v, xs = [v] ∧ Rp G v d := by
  cases r with
  | cons a b =>
    cases b
    exact ⟨_, rfl, a⟩
theorem rp2 {G : Hp} {xs : List V} {d e : D} (r : RpA G xs [d, e]) : ∃ v w, xs = [v, w] ∧ Rp G v d ∧ Rp G w e := by
  cases r with
  | cons a b =>
    obtain ⟨w, rfl, h⟩ := rp1 b
    exact ⟨_, w, rfl, a, h⟩
theorem ints_of {G : Hp} : ∀ {l : List D} {ns : List Int} {vs : List V}, P.intsD l = some ns → RpA G vs l → vs = ns.map V.int
  | [], ns, vs, h, r => by
    cases r
    cases h
    rfl
  | .int i :: l, ns, vs, h, r => by
    cases r with
    | cons a b =>
      unfold P.intsD at h
      cases e : P.intsD l with
      | none => rw [e] at h; cases h
      | some ms =>
        rw [e] at h
        cases h
        rw [ints_of e b, a.of_int]
        rfl
  | .none :: _, _, _, h, _ => by cases h
  | .bool _ :: _, _, _, h, _ => by cases h
  | .str _ :: _, _, _, h, _ => by cases h
  | .list _ :: _, _, _, h, _ => by cases h
  | .tuple _ :: _, _, _, h, _ => by cases h
  | .dict _ :: _, _, _, h, _ => by cases h
theorem bools_of {G : Hp} : ∀ {l : List D} {ns : List Bool} {vs : List V}, P.boolsD l = some ns → RpA G vs l → vs = ns.map V.bl
  | [], ns, vs, h, r => by
    cases r
    cases h
    rfl
  | .bool i :: l, ns, vs, h, r => by
    cases r with
    | cons a b =>
      unfold P.boolsD at h
      cases e : P.boolsD l with
      | none => rw [e] at h; cases h
      | some ms =>
        rw [e] at h
        cases h
        rw [bools_of e b, a.of_bl]
        rfl
  | .none :: _, _, _, h, _ => by cases h
  | .int _ :: _, _, _, h, _ => by cases h
  | .str _ :: _, _, _, h, _ => by cases h
  | .list _ :: _, _, _, h, _ => by cases h
  | .tuple _ :: _, _, _, h, _ => by cases h
  | .dict _ :: _, _, _, h, _ => by cases h
/-- a list as the only argument -/
theorem p1_list {r : List V → Hp → VK → Prop} {f : List D → W D} {g : List D → W D} (hf : ∀ l, f [.list l] = g l) (hn : ∀ ds, (∀ l, ds ≠ [.list l]) → f ds = W.fail)
    (h : ∀ (G H : Hp) (a : Addr) (vs : List V) (l : List D) (Q : VK) (φ : D → Prop), SzOk H → H a = some (.lst vs) → RpA G vs l → g l φ → (∀ v d, φ d → (∀ F, Rp F v d) → Q v H) → r [.ref a] H Q) : P1 r f := by
  intro G H xs ds Q φ gs z rx hm q
  by_cases e : ∃ l, ds = [.list l]
  · obtain ⟨l, rfl⟩ := e
    obtain ⟨v, rfl, hv⟩ := rp1 rx
    obtain ⟨a, vs, rfl, h1, h2⟩ := hv.of_list
    rw [hf] at hm
    exact h G H a vs l Q φ z (gs _ _ h1) h2 hm q
  · rw [hn ds fun l z => e ⟨l, z⟩] at hm
    exact hm.elim
section
variable {X : Cx}
theorem p1_all : P1 (rAll X.K) P.all1 := by
  refine p1_list (g := fun l => W.bind (W.opt (P.boolsD l)) fun bs => W.pure (.bool (bs.all id))) (fun _ => rfl) (fun ds h => ?_) fun G H a vs l Q φ _ ha hr hm q => ?_
  · first
      | (unfold P.all1; split; exact absurd rfl (h _); rfl)
      | (unfold P.any1; split; exact absurd rfl (h _); rfl)
      | (unfold P.sum1; split; exact absurd rfl (h _); rfl)
      | (unfold P.max1; split; exact absurd rfl (h _); rfl)
  · cases e : P.boolsD l with
    | none => rw [e] at hm; exact hm.elim
    | some bs =>
      rw [e] at hm
      exact ⟨a, bs, rfl, by rw [← bools_of e hr]; exact SqL.of ha, q _ _ hm fun _ => .bl _⟩
theorem p1_any : P1 (rAny X.K) P.any1 := by
  refine p1_list (g := fun l => W.bind (W.opt (P.boolsD l)) fun bs => W.pure (.bool (bs.any id))) (fun _ => rfl) (fun ds h => ?_) fun G H a vs l Q φ _ ha hr hm q => ?_
  · first
      | (unfold P.all1; split; exact absurd rfl (h _); rfl)
      | (unfold P.any1; split; exact absurd rfl (h _); rfl)
      | (unfold P.sum1; split; exact absurd rfl (h _); rfl)
      | (unfold P.max1; split; exact absurd rfl (h _); rfl)
  · cases e : P.boolsD l with
    | none => rw [e] at hm; exact hm.elim
    | some bs =>
      rw [e] at hm
      exact ⟨a, bs, rfl, by rw [← bools_of e hr]; exact SqL.of ha, q _ _ hm fun _ => .bl _⟩
theorem p1_sum : P1 (rSum X.K) P.sum1 := by
  refine p1_list (g := fun l => W.bind (W.opt (P.intsD l)) fun bs => W.pure (.int bs.sum)) (fun _ => rfl) (fun ds h => ?_) fun G H a vs l Q φ _ ha hr hm q => ?_
  · first
      | (unfold P.all1; split; exact absurd rfl (h _); rfl)
      | (unfold P.any1; split; exact absurd rfl (h _); rfl)
      | (unfold P.sum1; split; exact absurd rfl (h _); rfl)
      | (unfold P.max1; split; exact absurd rfl (h _); rfl)
  · cases e : P.intsD l with
    | none => rw [e] at hm; exact hm.elim
    | some bs =>
      rw [e] at hm
      exact ⟨a, bs, rfl, by rw [← ints_of e hr]; exact SqL.of ha, q _ _ hm fun _ => .int _⟩
theorem p1_max1 : P1 (rMax X.K) P.max1 := by
  refine p1_list (g := fun l => W.bind (W.opt (P.intsD l)) fun ns φ => 0 < ns.length ∧ ∀ m, m ∈ ns → (∀ y, y ∈ ns → y ≤ m) → φ (.int m)) (fun _ => rfl) (fun ds h => ?_) fun G H a vs l Q φ _ ha hr hm q => ?_
  · first
      | (unfold P.all1; split; exact absurd rfl (h _); rfl)
      | (unfold P.any1; split; exact absurd rfl (h _); rfl)
      | (unfold P.sum1; split; exact absurd rfl (h _); rfl)
      | (unfold P.max1; split; exact absurd rfl (h _); rfl)
  · cases e : P.intsD l with
    | none => rw [e] at hm; exact hm.elim
    | some bs =>
      rw [e] at hm
      exact ⟨a, bs, rfl, by rw [← ints_of e hr]; exact SqL.of ha, hm.1, fun m h1 h2 => q _ _ (hm.2 m h1 h2) fun _ => .int _⟩
theorem call_len' : CallR X (.builtin "len") (fun xs H Q => (∃ p ys, xs = [.ref p] ∧ (SqL X.K H p ys ∨ SqT X.K H p ys) ∧ Q (.int ys.length) H) ∨ ∃ z, xs = [.str z] ∧ z.length ≤ sizeLine ∧ Q (.int z.length) H) := call_len_seq.or call_len_str
theorem p1_len : P1 (fun xs H Q => (∃ p ys, xs = [.ref p] ∧ (SqL X.K H p ys ∨ SqT X.K H p ys) ∧ Q (.int ys.length) H) ∨ ∃ z, xs = [.str z] ∧ z.length ≤ sizeLine ∧ Q (.int z.length) H) P.len := by
  intro G H xs ds Q φ gs z rx hm q
  unfold P.len at hm
  split at hm
  · obtain ⟨v, rfl, hv⟩ := rp1 rx
    obtain ⟨a, vs, rfl, h1, h2⟩ := hv.of_list
    exact .inl ⟨a, vs, rfl, .inl (SqL.of (gs _ _ h1)), by rw [h2.length]; exact q _ _ hm fun _ => .int _⟩
  · obtain ⟨v, rfl, hv⟩ := rp1 rx
    obtain ⟨a, vs, rfl, h1, h2⟩ := hv.of_tup
    exact .inl ⟨a, vs, rfl, .inr (SqT.of (gs _ _ h1)), by rw [h2.length]; exact q _ _ hm fun _ => .int _⟩
  · obtain ⟨v, rfl, hv⟩ := rp1 rx
    rw [hv.of_str]
    exact .inr ⟨_, rfl, hm.1, q _ _ hm.2 fun _ => .int _⟩
  · exact hm.elim
theorem p1_int : P1 (fun xs H Q => (∃ i, xs = [.int i] ∧ Q (.int i) H) ∨ ∃ k, xs = [.bl k] ∧ Q (.int (if k then 1 else 0)) H) P.int1 := by
  intro G H xs ds Q φ gs z rx hm q
  unfold P.int1 at hm
  split at hm
  · obtain ⟨v, rfl, hv⟩ := rp1 rx
    rw [hv.of_int]
    exact .inl ⟨_, rfl, q _ _ hm fun _ => .int _⟩
  · obtain ⟨v, rfl, hv⟩ := rp1 rx
    rw [hv.of_bl]
    exact .inr ⟨_, rfl, q _ _ hm fun _ => .int _⟩
  · exact hm.elim
theorem int2_of {f : List D → W D} {g : Int → Int → D} {r : List V → Hp → VK → Prop} (hf : ∀ i j, f [.int i, .int j] = W.pure (g i j)) (hn : ∀ ds, (∀ i j, ds ≠ [.int i, .int j]) → f ds = W.fail) (hg : ∀ i j, ∃ v, (∀ F, Rp F v (g i j)) ∧ ∀ H Q, Q v H → r [.int i, .int j] H Q) : P1 r f := by
  intro G H xs ds Q φ gs z rx hm q
  by_cases e : ∃ i j, ds = [.int i, .int j]
  · obtain ⟨i, j, rfl⟩ := e
    obtain ⟨v, w, rfl, h1, h2⟩ := rp2 rx
    rw [h1.of_int, h2.of_int]
    obtain ⟨u, h3, h4⟩ := hg i j
    rw [hf] at hm
    exact h4 H Q (q u _ hm h3)
  · rw [hn ds fun i j z => e ⟨i, j, z⟩] at hm
    exact hm.elim
theorem p1_max2 : P1 (fun xs H Q => ∃ i j, xs = [.int i, .int j] ∧ Q (.int (if j > i then j else i)) H) P.max2 := by
  refine int2_of (g := fun i j => .int (if j > i then j else i)) (fun _ _ => rfl) (fun ds h => ?_) fun i j => ⟨_, fun _ => .int _, fun H Q q => ⟨i, j, rfl, q⟩⟩
  unfold P.max2
  split
  · exact absurd rfl (h _ _)
  · rfl
theorem p1_min2 : P1 (fun xs H Q => ∃ i j, xs = [.int i, .int j] ∧ Q (.int (if j < i then j else i)) H) P.min2 := by
  refine int2_of (g := fun i j => .int (if j < i then j else i)) (fun _ _ => rfl) (fun ds h => ?_) fun i j => ⟨_, fun _ => .int _, fun H Q q => ⟨i, j, rfl, q⟩⟩
  unfold P.min2
  split
  · exact absurd rfl (h _ _)
  · rfl
theorem p1_list1 : P1o (fun xs H Q => ∃ p ys, xs = [.ref p] ∧ (SqL X.K H p ys ∨ SqT X.K H p ys) ∧ ∀ l, H l = none → Q (.ref l) (upd H l (.lst ys))) P.list1 := by
  intro G H xs ds Q φ gs z rx hm q
  unfold P.list1 at hm
  split at hm
  · obtain ⟨v, rfl, hv⟩ := rp1 rx
    obtain ⟨a, vs, rfl, h1, h2⟩ := hv.of_list
    exact ⟨a, vs, rfl, .inl (SqL.of (gs _ _ h1)), fun p np => q vs _ hm h2 p np⟩
  · obtain ⟨v, rfl, hv⟩ := rp1 rx
    obtain ⟨a, vs, rfl, h1, h2⟩ := hv.of_tup
    exact ⟨a, vs, rfl, .inr (SqT.of (gs _ _ h1)), fun p np => q vs _ hm h2 p np⟩
  · exact hm.elim
end
end Dv
end
section
/-! Dv5: statements, targets, loops, comprehensions; a def's promise by its body. -/
namespace Dv
open PySem PySem.Spec L2
open PyProof.Rows hiding St

/-- how a block ends: it goes on; it returns data, or a new list; it leaves the loop, or its turn -/
inductive Out (τ β : Type) where
  | nx (t : τ)
  | rt (d : D)
  | ro (l : List D)
  | bk (b : β)
  | ct (b : β)
namespace Out
def andThen {τ τ' β : Type} (k : τ → W (Out τ' β)) : Out τ β → W (Out τ' β)
  | .nx t => k t
  | .rt d => W.pure (.rt d)
  | .ro l => W.pure (.ro l)
  | .bk b => W.pure (.bk b)
  | .ct b => W.pure (.ct b)
end Out
namespace W
/-- a run that goes on -/
def nxt {τ β : Type} (m : W τ) : W (Out τ β) := bind m fun t => pure (.nx t)
def rtn {τ β : Type} (m : W D) : W (Out τ β) := bind m fun d => pure (.rt d)
def rto {τ β : Type} (m : W (List D)) : W (Out τ β) := bind m fun d => pure (.ro d)
def thn {τ τ' β : Type} (m : W (Out τ β)) (k : τ → W (Out τ' β)) : W (Out τ' β) := bind m (Out.andThen k)
@[simp] theorem thn_nxt {τ τ' β : Type} (m : W τ) (k : τ → W (Out τ' β)) : thn (nxt m) k = bind m k := rfl
@[simp] theorem thn_rtn {τ τ' β : Type} (m : W D) (k : τ → W (Out τ' β)) : thn (rtn m) k = rtn m := rfl
@[simp] theorem thn_rto {τ τ' β : Type} (m : W (List D)) (k : τ → W (Out τ' β)) : thn (rto m) k = rto m := rfl
/-- a loop over items, with its ways out -/
def loop {τ β : Type} (step : D → τ → W (Out τ τ)) : List D → τ → W (Out τ β)
  | [], t => pure (.nx t)
  | x :: xs, t => bind (step x t) fun o => match o with
    | .nx t' => loop step xs t'
    | .ct t' => loop step xs t'
    | .bk t' => pure (.nx t')
    | .rt d => pure (.rt d)
    | .ro l => pure (.ro l)
def fold {τ : Type} (step : D → τ → W τ) : List D → τ → W τ
  | [], t => pure t
  | x :: xs, t => bind (step x t) fun t' => fold step xs t'
/-- a loop under a test: at most n turns -/
def whilN {τ β : Type} (c : τ → W Bool) (step : τ → W (Out τ τ)) : Nat → τ → W (Out τ β)
  | 0, _ => fail
  | n + 1, t => bind (c t) fun b => if b = true then bind (step t) (fun o => match o with
    | .nx t' => whilN c step n t'
    | .ct t' => whilN c step n t'
    | .bk t' => pure (.nx t')
    | .rt d => pure (.rt d)
    | .ro l => pure (.ro l)) else pure (.nx t)
def whil {τ β : Type} (c : τ → W Bool) (step : τ → W (Out τ τ)) (t : τ) : W (Out τ β) := fun φ => ∃ n, whilN c step n t φ
/-- a comprehension: ms takes the item to pieces -/
def filt2 {α : Type} (ms : D → W α) (c : α → W Bool) (f : α → W D) : List D → W (List D)
  | [] => pure []
  | x :: xs => bind (ms x) fun a => bind (c a) fun b => if b = true then bind (f a) fun d => bind (filt2 ms c f xs) fun r => pure (d :: r) else filt2 ms c f xs
def mapD {α : Type} (ms : D → W α) (f : α → W D) : List D → W (List D)
  | [] => pure []
  | x :: xs => bind (ms x) fun a => bind (f a) fun d => bind (mapD ms f xs) fun r => pure (d :: r)
theorem filt_true {α : Type} (ms : D → W α) (f : α → W D) : ∀ xs : List D, filt2 ms (fun _ => pure true) f xs = mapD ms f xs
  | [] => rfl
  | x :: xs => by
    show bind (ms x) (fun a => bind (f a) fun d => bind (filt2 ms (fun _ => pure true) f xs) fun r => pure (d :: r)) = _
    rw [filt_true ms f xs]
    rfl
end W

/-! ### forgetting -/
inductive Le : Gm → Gm → Prop where
  | nil : Le [] []
  | k (s : Sl) {a b : Gm} : Le a b → Le (s :: a) (s :: b)
  | d (s : Sl) {a b : Gm} : Le a b → Le (s :: a) (.un :: b)
theorem Le.refl : ∀ Γ : Gm, Le Γ Γ
  | [] => .nil
  | s :: Γ => .k s (Le.refl Γ)
theorem Le.length : ∀ {a b : Gm}, Le a b → a.length = b.length
  | _, _, .nil => rfl
  | _, _, .k _ h => congrArg (· + 1) h.length
  | _, _, .d _ h => congrArg (· + 1) h.length
theorem Le.get : ∀ {a b : Gm} {i : Nat} {s : Sl}, Le a b → b[i]? = some s → s = .un ∨ a[i]? = some s
  | _, _, i, s, .nil, h => by simp at h
  | _, _, 0, s, .k s' _, h => .inr h
  | _, _, 0, s, .d s' _, h => by
    simp at h
    exact .inl h.symm
  | _, _, i + 1, s, .k s' l, h => by simpa using l.get (by simpa using h)
  | _, _, i + 1, s, .d s' l, h => by simpa using l.get (by simpa using h)
section
variable {K : PySem.W.Frag} {S : Su} {N : En} {Γ Γ' : Gm} {σ : St} {F H F' H' : Hp}
theorem Rel.weak (R : Rel K S N Γ σ F H) (l : Le Γ Γ') : Rel K S N Γ' σ F H where
  f0 := R.f0
  fh := R.fh
  keep := R.keep
  al := R.al
  nw := R.nw
  len := R.len.trans l.length
  sl := fun i s h => by
    rcases l.get h with z | z
    · rw [z]
      trivial
    · exact R.sl i s z
  ap := fun i j a hi hj => by
    have up : ∀ i, OwAt Γ' σ i a → OwAt Γ σ i a := fun i ⟨⟨s, h1, h2⟩, h3⟩ => by
      rcases l.get h1 with z | z
      · rw [z] at h2
        cases h2
      · exact ⟨⟨s, z, h2⟩, h3⟩
    exact R.ap i j a (up i hi) (up j hj)
  tb := R.tb
  mc := R.mc
theorem getset {α : Type} {l : List α} {i j : Nat} {x y : α} (h : (l.set i x)[j]? = some y) : (i = j ∧ x = y) ∨ (i ≠ j ∧ l[j]? = some y) := by
  by_cases e : i = j
  · subst e
    rw [List.getElem?_set_self'] at h
    cases q : l[i]? with
    | none => rw [q] at h; cases h
    | some z =>
      rw [q] at h
      exact .inl ⟨rfl, Option.some.inj h⟩
  · rw [List.getElem?_set_ne e] at h
    exact .inr ⟨e, h⟩
theorem setlt {α : Type} {l : List α} {i : Nat} {x y : α} (h : (l.set i x)[i]? = some y) : i < l.length := by
  by_cases q : i < l.length
  · exact q
  · rw [List.getElem?_eq_none (by rw [List.length_set]; omega)] at h
    cases h
/-- a name is stored -/
theorem Rel.set (R : Rel K S N Γ σ F H) {i : Nat} {v : V} {s : Sl} (h : SlOk K S N F H (some v) s) (ha : s.own = true → ∀ a, v = .ref a → ∀ j, ¬ OwAt Γ σ j a) : Rel K S N (Γ.set i s) (σ.set i (some v)) F H where
  f0 := R.f0
  fh := R.fh
  keep := R.keep
  al := R.al
  nw := R.nw
  len := by rw [List.length_set, List.length_set]; exact R.len
  sl := fun j u hj => by
    have hl := R.len
    rcases getset hj with ⟨e, e2⟩ | ⟨e, e2⟩
    · subst e
      subst e2
      have := setlt hj
      rw [List.getElem?_set_self (by omega)]
      exact h
    · rw [List.getElem?_set_ne e]
      exact R.sl j u e2
  ap := fun j k a hj hk => by
    have hl := R.len
    obtain ⟨⟨s1, g1, o1⟩, z1⟩ := hj
    obtain ⟨⟨s2, g2, o2⟩, z2⟩ := hk
    rcases getset g1 with ⟨e1, e1'⟩ | ⟨e1, e1'⟩
    · subst e1 e1'
      have := setlt g1
      rw [List.getElem?_set_self (by omega)] at z1
      have z1 : v = .ref a := Option.some.inj (Option.some.inj z1)
      rcases getset g2 with ⟨e2, e2'⟩ | ⟨e2, e2'⟩
      · exact e2
      · rw [List.getElem?_set_ne e2] at z2
        exact absurd ⟨⟨s2, e2', o2⟩, z2⟩ (ha o1 a z1 k)
    · rw [List.getElem?_set_ne e1] at z1
      rcases getset g2 with ⟨e2, e2'⟩ | ⟨e2, e2'⟩
      · subst e2 e2'
        have := setlt g2
        rw [List.getElem?_set_self (by omega)] at z2
        have z2 : v = .ref a := Option.some.inj (Option.some.inj z2)
        exact absurd ⟨⟨s1, e1', o1⟩, z1⟩ (ha o2 a z2 j)
      · rw [List.getElem?_set_ne e2] at z2
        exact R.ap j k a ⟨⟨s1, e1', o1⟩, z1⟩ ⟨⟨s2, e2', o2⟩, z2⟩
  tb := R.tb
  mc := R.mc
theorem Rel.setv (R : Rel K S N Γ σ F H) {i : Nat} {v : V} {d : D} (r : Rp F v d) : Rel K S N (Γ.set i (.va d)) (σ.set i (some v)) F H := R.set ⟨v, rfl, r⟩ fun z => by cases z
theorem Rel.seto (R : Rel K S N Γ σ F H) {i : Nat} {a : Addr} {vs : List V} {l : List D} (h1 : H a = some (.lst vs)) (h2 : F a = none) (h3 : N.H0 a = none) (r : RpA F vs l) (n : ∀ j, ¬ OwAt Γ σ j a) : Rel K S N (Γ.set i (.ow l)) (σ.set i (some (.ref a))) F H :=
  R.set ⟨a, vs, rfl, h1, h2, h3, r⟩ fun _ b e j => by
    cases e
    exact n j
/-- what a def's caller gets -/
structure Fin (S : Su) (N : En) (F H : Hp) : Prop where
  f0 : Same N.F0 F
  fh : Same F H
  keep : ∀ b o, N.H0 b = some o → (∀ p, S.M = some p → b ≠ p.1) → NoTbl o → H b = some o
  al : ∀ b, N.H0 b ≠ none → H b ≠ none
  nw : ∀ b, F b ≠ none → N.F0 b = none → N.H0 b = none
  tb : LamX.Tabs S.T H
  mc : ∀ p, S.M = some p → N.H0 p.1 ≠ none ∧ ∃ vs l, H p.1 = some (.lst vs) ∧ F p.1 = none ∧ RpA F vs l ∧ p.2 l
theorem Rel.fin (R : Rel K S N Γ σ F H) : Fin S N F H := ⟨R.f0, R.fh, R.keep, R.al, R.nw, R.tb, R.mc⟩
/-- the frozen part as it stands may be the entry's -/
theorem Rel.base (R : Rel K S N Γ σ F H) : Rel K S ⟨F, N.H0⟩ Γ σ F H := ⟨Same.refl _, R.fh, R.keep, R.al, fun b h e => absurd e h, R.len, fun i s h => by
    have z := R.sl i s h
    cases s <;> exact z, R.ap, R.tb, R.mc⟩
theorem nw_un {b : Addr} {F1 F0 H0 F : Hp} (a : ∀ b, F1 b ≠ none → F0 b = none → H0 b = none) (c : ∀ b, F b ≠ none → F1 b = none → H0 b = none) (h : F b ≠ none) (e : F0 b = none) : H0 b = none := by
  by_cases q : F1 b = none
  · exact c b h q
  · exact a b q e
theorem Rel.unbase {F1 : Hp} (R1 : Rel K S N Γ' σ F1 H') {Γ2 : Gm} {σ2 : St} (R : Rel K S ⟨F1, N.H0⟩ Γ2 σ2 F H) : Rel K S N Γ2 σ2 F H := ⟨R1.f0.trans R.f0, R.fh, R.keep, R.al, fun b h e => nw_un R1.nw R.nw h e, R.len, fun i s h => by
    have z := R.sl i s h
    cases s <;> exact z, R.ap, R.tb, R.mc⟩
theorem Fin.unbase {F1 : Hp} (R1 : Rel K S N Γ' σ F1 H') (R : Fin S ⟨F1, N.H0⟩ F H) : Fin S N F H := ⟨R1.f0.trans R.f0, R.fh, R.keep, R.al, fun b h e => nw_un R1.nw R.nw h e, R.tb, R.mc⟩
end

/-! ### statements -/
structure Sv (X : Cx) (S : Su) {τ β : Type} (st : Stmt) (Γ : Gm) (m : W (Out τ β)) (E : τ → Gm) (L : β → Gm) : Prop where
  ex : ∃ t : TS, PS X st t ∧ ∀ (N : En) (σ : St) (F H : Hp) (Z : Ends) (φ : Out τ β → Prop), Rel X.K S N Γ σ F H → SzOk H → m φ →
    (∀ t σ' F' H', φ (.nx t) → Rel X.K S N (E t) σ' F' H' → SzOk H' → Z.nx σ' H') →
    (∀ d v F' H', φ (.rt d) → Fin S N F' H' → Rp F' v d → Z.rt v H') →
    (∀ l a us F' H', φ (.ro l) → Fin S N F' H' → H' a = some (.lst us) → F' a = none → N.H0 a = none → RpA F' us l → Z.rt (.ref a) H') →
    (∀ b σ' F' H', φ (.bk b) → Rel X.K S N (L b) σ' F' H' → SzOk H' → Z.bk σ' H') →
    (∀ b σ' F' H', φ (.ct b) → Rel X.K S N (L b) σ' F' H' → SzOk H' → Z.ct σ' H') → t Z σ H
structure Bv (X : Cx) (S : Su) {τ β : Type} (sts : List Stmt) (Γ : Gm) (m : W (Out τ β)) (E : τ → Gm) (L : β → Gm) : Prop where
  ex : ∃ t : TS, PSs X sts t ∧ ∀ (N : En) (σ : St) (F H : Hp) (Z : Ends) (φ : Out τ β → Prop), Rel X.K S N Γ σ F H → SzOk H → m φ →
    (∀ t σ' F' H', φ (.nx t) → Rel X.K S N (E t) σ' F' H' → SzOk H' → Z.nx σ' H') →
    (∀ d v F' H', φ (.rt d) → Fin S N F' H' → Rp F' v d → Z.rt v H') →
    (∀ l a us F' H', φ (.ro l) → Fin S N F' H' → H' a = some (.lst us) → F' a = none → N.H0 a = none → RpA F' us l → Z.rt (.ref a) H') →
    (∀ b σ' F' H', φ (.bk b) → Rel X.K S N (L b) σ' F' H' → SzOk H' → Z.bk σ' H') →
    (∀ b σ' F' H', φ (.ct b) → Rel X.K S N (L b) σ' F' H' → SzOk H' → Z.ct σ' H') → t Z σ H
section
variable {X : Cx} {S : Su} {Γ : Gm} {sc : Scope} {N : List Str} {Vs O : List Nat} {G : List Str} {τ τ' β : Type} {st : Stmt} {sts : List Stmt} {e : Expr} {pos p2 : Pos} {E : τ → Gm} {E' : τ' → Gm} {L : β → Gm} {i j : Nat} {x : Str}
def szE (Z : Ends) : Ends := ⟨fun σ H => SzOk H → Z.nx σ H, Z.rt, fun σ H => SzOk H → Z.bk σ H, fun σ H => SzOk H → Z.ct σ H⟩
theorem SP.unsz {pins : List (Addr × Obj)} {Z : Ends} {f : Flow} {s : Shared} (h : SP X pins (szE Z) f s) : SP X pins Z f s := by
  cases f with
  | next =>
    obtain ⟨σ, H, I, q⟩ := h
    exact ⟨σ, H, I, q (Inv.sz I)⟩
  | brk =>
    obtain ⟨σ, H, I, q⟩ := h
    exact ⟨σ, H, I, q (Inv.sz I)⟩
  | cont =>
    obtain ⟨σ, H, I, q⟩ := h
    exact ⟨σ, H, I, q (Inv.sz I)⟩
  | ret u => exact h
theorem szPS {t : TS} (h : PS X st t) : PS X st fun Z σ H => SzOk H → t (szE Z) σ H := ⟨fun pins s σ H D I hw => thn (h.run pins s σ H _ I (hw (Inv.sz I))) fun _ _ q => SP.unsz q⟩
theorem szPSs {t : TS} (h : PSs X sts t) : PSs X sts fun Z σ H => SzOk H → t (szE Z) σ H := ⟨fun pins s σ H D I hw => thn (h.run pins s σ H _ I (hw (Inv.sz I))) fun _ _ q => SP.unsz q⟩

theorem bv_nil {t : τ} (l : Le Γ (E t)) : Bv X S [] Γ (W.pure (.nx t) : W (Out τ β)) E L := ⟨_, pss_nil, fun M σ F H Z φ R z hm h1 _ _ _ _ => h1 t σ F H hm (R.weak l) z⟩
theorem bv_cons {m : W (Out τ β)} {k : τ → W (Out τ' β)} (hs : Sv X S st Γ m E L) (hr : ∀ t, Bv X S sts (E t) (k t) E' L) : Bv X S (st :: sts) Γ (W.thn m k) E' L := by
  obtain ⟨t1, p1, k1⟩ := hs.ex
  refine ⟨_, pss_cons p1 (t := t1) (u := fun Z σ H => ∃ t N F φ, Rel X.K S N (E t) σ F H ∧ SzOk H ∧ k t φ ∧
    (∀ t σ' F' H', φ (.nx t) → Rel X.K S N (E' t) σ' F' H' → SzOk H' → Z.nx σ' H') ∧
    (∀ d v F' H', φ (.rt d) → Fin S N F' H' → Rp F' v d → Z.rt v H') ∧
    (∀ l a us F' H', φ (.ro l) → Fin S N F' H' → H' a = some (.lst us) → F' a = none → N.H0 a = none → RpA F' us l → Z.rt (.ref a) H') ∧
    (∀ b σ' F' H', φ (.bk b) → Rel X.K S N (L b) σ' F' H' → SzOk H' → Z.bk σ' H') ∧
    (∀ b σ' F' H', φ (.ct b) → Rel X.K S N (L b) σ' F' H' → SzOk H' → Z.ct σ' H')) ⟨fun pins s σ H D I ⟨t, M, F, φ, R, z, hm, h1, h2, h3, h4, h5⟩ => ?_⟩, fun M σ F H Z φ R z hm h1 h2 h3 h4 h5 => ?_⟩
  · obtain ⟨t2, p2, k2⟩ := (hr t).ex
    exact p2.run pins s σ H D I (k2 M σ F H D φ R z hm h1 h2 h3 h4 h5)
  · exact k1 M σ F H _ _ R z hm (fun t σ' F' H' ht R' z' => ⟨t, M, F', φ, R', z', ht, h1, h2, h3, h4, h5⟩) h2 h3 h4 h5
/-- a statement that only goes on -/
theorem bv_n {m : W τ} {k : τ → W (Out τ' β)} (hs : Sv X S st Γ (W.nxt m) E L) (hr : ∀ t, Bv X S sts (E t) (k t) E' L) : Bv X S (st :: sts) Γ (W.bind m k) E' L := bv_cons (m := W.nxt m) hs hr
/-- a statement that never goes on, last -/
theorem bv_last {m : W (Out τ β)} (hs : Sv X S st Γ m E L) : Bv X S [st] Γ m E L := by
  obtain ⟨t1, p1, k1⟩ := hs.ex
  exact ⟨t1, pss_one p1, k1⟩
theorem bv_weak {m : W (Out τ β)} {Γ' : Gm} (l : Le Γ Γ') (h : Bv X S sts Γ' m E L) : Bv X S sts Γ m E L := by
  obtain ⟨t1, p1, k1⟩ := h.ex
  exact ⟨t1, p1, fun M σ F H Z φ R z hm => k1 M σ F H Z φ (R.weak l) z hm⟩
/-- an own list is frozen -/
theorem Rel.frzAt {K : PySem.W.Frag} {M : En} {σ : St} {F H : Hp} (R : Rel K S M Γ σ F H) {l : List D} (hg : Γ[i]? = some (.ow l)) : ∃ F', Rel K S M (Γ.set i (.va (.list l))) σ F' H ∧ Same F F' ∧ ∀ b, F' b ≠ none → F b = none → M.H0 b = none := by
  obtain ⟨a, vs, e, h1, h2, h3, r⟩ := R.ow hg
  have il : i < Γ.length := by
    by_cases q : i < Γ.length
    · exact q
    · rw [List.getElem?_eq_none (by omega)] at hg
      cases hg
  -- first forget it, then freeze, then tell it
  have R1 : Rel K S M (Γ.set i .un) σ F H := by
    refine ⟨R.f0, R.fh, R.keep, R.al, R.nw, by rw [List.length_set]; exact R.len, fun j s h => ?_, fun j k b hj hk => ?_, R.tb, R.mc⟩
    · rcases getset h with ⟨e1, e2⟩ | ⟨e1, e2⟩
      · rw [← e2]
        trivial
      · exact R.sl j s e2
    · have up : ∀ j, OwAt (Γ.set i .un) σ j b → OwAt Γ σ j b := fun j ⟨⟨s, g1, g2⟩, g3⟩ => by
        rcases getset g1 with ⟨e1, e2⟩ | ⟨e1, e2⟩
        · rw [← e2] at g2
          cases g2
        · exact ⟨⟨s, e2, g2⟩, g3⟩
      exact R.ap j k b (up j hj) (up k hk)
  have n1 : ∀ j, ¬ OwAt (Γ.set i .un) σ j a := fun j ⟨⟨s, g1, g2⟩, g3⟩ => by
    rcases getset g1 with ⟨e1, e2⟩ | ⟨e1, e2⟩
    · rw [← e2] at g2
      cases g2
    · exact e1 (R.ap i j a ⟨⟨_, hg, rfl⟩, e⟩ ⟨⟨s, e2, g2⟩, g3⟩)
  have R2 := R1.freeze h1 h2 h3 n1
  have sm : Same F (upd F a (.lst vs)) := fun b x e => by
    rw [upd_ne (ne_of_none e h2)]
    exact e
  refine ⟨upd F a (.lst vs), ?_, sm, fun b e q => ?_⟩
  · have R3 := R2.set (i := i) (v := .ref a) (s := .va (.list l)) ⟨_, rfl, .lst upd_same (r.mono sm)⟩ (fun z => by cases z)
    rw [List.set_set] at R3
    have es : σ.set i (some (.ref a)) = σ := by
      refine List.ext_getElem? fun n => ?_
      by_cases q : i = n
      · subst q
        rw [List.getElem?_set_self (by rw [R.len]; exact il), e]
      · rw [List.getElem?_set_ne q]
    rw [es] at R3
    exact R3
  · by_cases z : b = a
    · rw [z]
      exact h3
    · rw [upd_ne z] at e
      exact absurd q e
theorem bv_frz {m : W (Out τ β)} {l : List D} (hg : Γ[i]? = some (.ow l)) (h : Bv X S sts (Γ.set i (.va (.list l))) m E L) : Bv X S sts Γ m E L := by
  obtain ⟨t1, p1, k1⟩ := h.ex
  refine ⟨t1, p1, fun M σ F H Z φ R z hm => ?_⟩
  obtain ⟨F', R', _⟩ := R.frzAt hg
  exact k1 M σ F' H Z φ R' z hm
/-- an own list is kept under a word from now on -/
theorem bv_iv {m : W (Out τ β)} {l : List D} {I : List D → Prop} (hg : Γ[i]? = some (.ow l)) (hI : I l) (h : Bv X S sts (Γ.set i (.iv I)) m E L) : Bv X S sts Γ m E L := by
  obtain ⟨t1, p1, k1⟩ := h.ex
  refine ⟨t1, p1, fun M σ F H Z φ R z hm => k1 M σ F H Z φ ?_ z hm⟩
  refine ⟨R.f0, R.fh, R.keep, R.al, R.nw, by rw [List.length_set]; exact R.len, fun j s h => ?_, fun j k b hj hk => ?_, R.tb, R.mc⟩
  · rcases getset h with ⟨e1, e2⟩ | ⟨e1, e2⟩
    · subst e1
      rw [← e2]
      obtain ⟨a, vs, e, h1, h2, h3, r⟩ := R.ow hg
      exact ⟨a, vs, l, join_some.mpr e, h1, h2, .inl h3, r, hI⟩
    · exact R.sl j s e2
  · have up : ∀ j, OwAt (Γ.set i (.iv I)) σ j b → OwAt Γ σ j b := fun j ⟨⟨s, g1, g2⟩, g3⟩ => by
      rcases getset g1 with ⟨e1, e2⟩ | ⟨e1, e2⟩
      · subst e1
        exact ⟨⟨_, hg, rfl⟩, g3⟩
      · exact ⟨⟨s, e2, g2⟩, g3⟩
    exact R.ap j k b (up j hj) (up k hk)
theorem sv_set {m : W D} (C : Cok X sc N Vs O G) (hi : N[i]? = some x) (ho : O.contains i = true) (he : Ev X S Γ e m) (hs : swapsWith e (some (.Name x p2)) pos.line X.env = pure false) :
    Sv X S (.Assign [.Name x p2] e pos) Γ (W.nxt m) (fun d => Γ.set i (.va d)) L := by
  obtain ⟨t, pe, k⟩ := he.ex
  have hx := C.loc i x ho hi
  refine ⟨_, ps_set (i := i) (by rw [C.hN]; exact C.nd) (by rw [C.hN]; exact hi) hx.1 pe hs hx.2, fun M σ F H Z φ R z hm h1 _ _ _ _ => k M σ F H _ _ R z hm fun v d F1 H1 hm1 R1 x1 z1 r1 => ?_⟩
  exact h1 d _ F1 H1 hm1 (R1.setv r1) z1
theorem new_apart {K : PySem.W.Frag} {M : En} {σ : St} {F H : Hp} {a : Addr} (R : Rel K S M Γ σ F H) (h : H a = none) (j : Nat) : ¬ OwAt Γ σ j a := fun hj => by
  obtain ⟨o, e, _⟩ := R.own_cell hj
  rw [e] at h
  cases h
theorem new_base {K : PySem.W.Frag} {M : En} {σ : St} {F H : Hp} {a : Addr} (R : Rel K S M Γ σ F H) (h : H a = none) : M.H0 a = none := by
  by_cases q : M.H0 a = none
  · exact q
  · exact absurd h (R.al a q)
theorem sv_seto {m : W (List D)} (C : Cok X sc N Vs O G) (hi : N[i]? = some x) (ho : O.contains i = true) (he : Eo X S Γ e m) (hs : swapsWith e (some (.Name x p2)) pos.line X.env = pure false) :
    Sv X S (.Assign [.Name x p2] e pos) Γ (W.nxt m) (fun l => Γ.set i (.ow l)) L := by
  obtain ⟨t, pe, k⟩ := he.ex
  have hx := C.loc i x ho hi
  refine ⟨_, ps_set (i := i) (by rw [C.hN]; exact C.nd) (by rw [C.hN]; exact hi) hx.1 pe hs hx.2, fun M σ F H Z φ R z hm h1 _ _ _ _ => k M σ F H _ _ R z hm fun a vs l F1 H1 hm1 R1 x1 z1 g1 g2 g3 r1 => ?_⟩
  exact h1 l _ F1 H1 hm1 (R1.seto g1 g2 (new_base R g3) r1 (new_apart R g3)) z1
theorem sv_ret {m : W D} (he : Ev X S Γ e m) : Sv X S (.Return (some e) pos) Γ (W.rtn m : W (Out τ β)) E L := by
  obtain ⟨t, pe, k⟩ := he.ex
  exact ⟨_, ps_ret pe, fun M σ F H Z φ R z hm _ h2 _ _ _ => k M σ F H _ _ R z hm fun v d F1 H1 hm1 R1 x1 z1 r1 => h2 d v F1 H1 hm1 R1.fin r1⟩
theorem sv_reto {m : W (List D)} (he : Eo X S Γ e m) : Sv X S (.Return (some e) pos) Γ (W.rto m : W (Out τ β)) E L := by
  obtain ⟨t, pe, k⟩ := he.ex
  exact ⟨_, ps_ret pe, fun M σ F H Z φ R z hm _ _ h3 _ _ => k M σ F H _ _ R z hm fun a vs l F1 H1 hm1 R1 x1 z1 g1 g2 g3 r1 => h3 l a vs F1 H1 hm1 R1.fin g1 g2 (new_base R g3) r1⟩
/-- an own list is handed back -/
theorem sv_retw {l : List D} (C : Cok X sc N Vs O G) (hi : N[i]? = some x) (hv : Vs.contains i = true) (hg : Γ[i]? = some (.ow l)) : Sv X S (.Return (some (.Name x p2)) pos) Γ (W.rto (W.pure l) : W (Out τ β)) E L := by
  have hx := C.dN x (List.mem_of_getElem? hi)
  refine ⟨_, ps_ret (pe_var (i := i) (by rw [C.hN]; exact hi) (C.vis i x hv hi) hx.1 hx.2), fun M σ F H Z φ R z hm _ _ h3 _ _ => ?_⟩
  obtain ⟨a, vs, e, h1, h2, h4, r⟩ := R.ow hg
  exact ⟨_, e, h3 l a vs F H hm R.fin h1 h2 h4 r⟩
theorem sv_retN : Sv X S (.Return none pos) Γ (W.rtn (W.pure .none) : W (Out τ β)) E L := ⟨_, ps_retN, fun M σ F H Z φ R z hm _ h2 _ _ _ => h2 _ _ F H hm R.fin .non⟩
theorem sv_if {c : Expr} {a b : List Stmt} {mc : W Bool} {m1 m2 : W (Out τ β)} (hc : Tb X S Γ c mc) (ha : Bv X S a Γ m1 E L) (hb : Bv X S b Γ m2 E L) : Sv X S (.If c a b pos) Γ (W.ite mc m1 m2) E L := by
  obtain ⟨tc, pc, kc⟩ := hc.ex
  obtain ⟨ta, pa, ka⟩ := ha.ex
  obtain ⟨tb, pb, kb⟩ := hb.ex
  refine ⟨_, ps_if pc pa pb, fun M σ F H Z φ R z hm h1 h2 h3 h4 h5 => kc M σ F H _ _ R z hm fun b F1 H1 hm1 R1 x1 z1 => ?_⟩
  cases b with
  | true => exact ka M σ F1 H1 Z φ R1 z1 hm1 h1 h2 h3 h4 h5
  | false => exact kb M σ F1 H1 Z φ R1 z1 hm1 h1 h2 h3 h4 h5
theorem sv_pass : Sv X S (.Pass pos) Γ (W.nxt (W.pure ()) : W (Out Unit β)) (fun _ => Γ) L := ⟨_, ps_pass, fun M σ F H Z φ R z hm h1 _ _ _ _ => h1 () σ F H hm R z⟩
theorem sv_break {b : β} (l : Le Γ (L b)) : Sv X S (.Break pos) Γ (W.pure (.bk b) : W (Out τ β)) E L := ⟨_, ps_break, fun M σ F H Z φ R z hm _ _ _ h4 _ => h4 b σ F H hm (R.weak l) z⟩
theorem sv_cont {b : β} (l : Le Γ (L b)) : Sv X S (.Continue pos) Γ (W.pure (.ct b) : W (Out τ β)) E L := ⟨_, ps_continue, fun M σ F H Z φ R z hm _ _ _ _ h5 => h5 b σ F H hm (R.weak l) z⟩
/-- an expression whose value is dropped -/
theorem sv_expr {m : W D} (he : Ev X S Γ e m) (hs : swapsWith e none pos.line X.env = pure false) : Sv X S (.Expr e pos) Γ (W.nxt (W.bind m fun _ => W.pure ()) : W (Out Unit β)) (fun _ => Γ) L := by
  obtain ⟨t, pe, k⟩ := he.ex
  exact ⟨_, ps_expr pe hs, fun M σ F H Z φ R z hm h1 _ _ _ _ => k M σ F H _ _ R z hm fun v d F1 H1 hm1 R1 x1 z1 r1 => h1 () σ F1 H1 hm1 R1 z1⟩
/-- the content of an own list changes -/
theorem Rel.chg {K : PySem.W.Frag} {M : En} {σ : St} {F H : Hp} (R : Rel K S M Γ σ F H) {l l' : List D} {a : Addr} {vs' : List V} (hg : Γ[i]? = some (.ow l)) (ha : σ[i]? = some (some (.ref a))) (r : RpA F vs' l') : Rel K S M (Γ.set i (.ow l')) σ F (upd H a (.lst vs')) := by
  obtain ⟨b, vs, e, h1, h2, h3, _⟩ := R.ow hg
  rw [ha] at e
  cases e
  have il : i < Γ.length := by
    by_cases q : i < Γ.length
    · exact q
    · rw [List.getElem?_eq_none (by omega)] at hg
      cases hg
  have nF : ∀ b o, F b = some o → b ≠ a := fun b o e => ne_of_none e h2
  refine ⟨R.f0, fun b o e => by rw [upd_ne (nF b o e)]; exact R.fh b o e, fun b o e m n => ?_, fun b e => ?_, R.nw, by rw [List.length_set]; exact R.len, fun j s h => ?_, fun j k b hj hk => ?_, ?_, fun p hp => ?_⟩
  · rw [upd_ne (ne_of_none e h3)]
    exact R.keep b o e m n
  · by_cases q : b = a
    · subst q
      exact absurd h3 e
    · rw [upd_ne q]
      exact R.al b e
  · rcases getset h with ⟨e1, e2⟩ | ⟨e1, e2⟩
    · subst e1
      rw [← e2]
      exact ⟨a, vs', join_some.mpr ha, upd_same, h2, h3, r⟩
    · have z := R.sl j s e2
      have ne : ∀ b, s.own = true → σ[j]? = some (some (.ref b)) → b ≠ a := fun b ho hb z => by
        subst z
        exact e1 (R.ap i j b ⟨⟨_, hg, rfl⟩, ha⟩ ⟨⟨_, e2, ho⟩, hb⟩)
      cases s with
      | un => trivial
      | va d => exact z
      | rd l => exact z
      | ow l =>
        obtain ⟨b, us, e, g⟩ := z
        exact ⟨b, us, e, by rw [upd_ne (ne b rfl (join_some.mp e))]; exact g.1, g.2⟩
      | od l =>
        obtain ⟨b, us, e, g⟩ := z
        exact ⟨b, us, e, by rw [upd_ne (ne b rfl (join_some.mp e))]; exact g.1, g.2⟩
      | iv I =>
        obtain ⟨b, us, l, e, g⟩ := z
        exact ⟨b, us, l, e, by rw [upd_ne (ne b rfl (join_some.mp e))]; exact g.1, g.2⟩
      | oz Z l =>
        obtain ⟨b, us, e, g⟩ := z
        exact ⟨b, us, e, by rw [upd_ne (ne b rfl (join_some.mp e))]; exact g.1, g.2⟩
  · have up : ∀ j, OwAt (Γ.set i (.ow l')) σ j b → OwAt Γ σ j b := fun j ⟨⟨s, g1, g2⟩, g3⟩ => by
      rcases getset g1 with ⟨e1, e2⟩ | ⟨e1, e2⟩
      · subst e1
        exact ⟨⟨_, hg, rfl⟩, g3⟩
      · exact ⟨⟨s, e2, g2⟩, g3⟩
    exact R.ap j k b (up j hj) (up k hk)
  · exact tabs_upd R.tb (fun ps z => by rw [h1] at z; cases z) (fun q z => by rw [h1] at z; cases z)
  · obtain ⟨g0, us, l, g1, g2⟩ := R.mc p hp
    have np : p.1 ≠ a := fun z => g0 (by rw [z]; exact h3)
    exact ⟨g0, us, l, by rw [upd_ne np]; exact g1, g2⟩
/-- x.append(e) -/
theorem sv_app {m : W D} {l : List D} {ap cp : Pos} (C : Cok X sc N Vs O G) (hi : N[i]? = some x) (hv : Vs.contains i = true) (hg : Γ[i]? = some (.ow l)) (he : Ev X S Γ e m)
    (hb : attributeBase (.Name x p2) "append" X.env (eval (.Name x p2) X.env) = eval (.Name x p2) X.env) (hl : (ap.endLine == cp.line) = true)
    (hst : starEach [e] X.env = [(false, eval e X.env)]) (hs : swapsWith (.Call (.Attribute (.Name x p2) "append" ap) [e] [] cp) none pos.line X.env = pure false) :
    Sv X S (.Expr (.Call (.Attribute (.Name x p2) "append" ap) [e] [] cp) pos) Γ (W.nxt (W.bind m fun d => W.need (l.length < sizeLine) (W.pure d))) (fun d => Γ.set i (.ow (l ++ [d]))) L := by
  obtain ⟨t, pe, k⟩ := he.ex
  have hx := C.dN x (List.mem_of_getElem? hi)
  refine ⟨_, ps_expr (pe_bm PySem.F.plainAttrs_list PySem.F.slot_list_append PySem.F.type_list_append mt_append (pe_var (i := i) (by rw [C.hN]; exact hi) (C.vis i x hv hi) hx.1 hx.2) (pa_cons pe pa_nil hst) hb (by rw [hst]; rfl) hl hst (by rfl)) hs, fun M σ F H Z φ R z hm q1 _ _ _ _ => ?_⟩
  obtain ⟨a, vs, e0, g1, _⟩ := R.ow hg
  refine ⟨_, e0, .inl ⟨rfl, _, .inl (.inl g1)⟩, k M σ F H _ _ R z hm fun v d F1 H1 hm1 R1 x1 z1 r1 => ?_⟩
  obtain ⟨a', vs', e', g1', g2, g3, r⟩ := R1.ow hg
  rw [e0] at e'
  cases e'
  have hsz : vs'.length < sizeLine := by rw [r.length]; exact hm1.1
  refine ⟨a, vs', v, rfl, rfl, g1', hsz, q1 d σ F1 _ hm1.2 (R1.chg hg e0 (r.append (RpA.one r1))) ⟨fun b us e => ?_, fun b us e => ?_, fun b us e => ?_⟩⟩
  · by_cases q : b = a
    · subst q
      rw [upd_same] at e
      cases e
      rw [List.length_append]
      exact hsz
    · rw [upd_ne q] at e
      exact z1.1 b us e
  · by_cases q : b = a
    · subst q
      rw [upd_same] at e
      cases e
    · rw [upd_ne q] at e
      exact z1.2.1 b us e
  · by_cases q : b = a
    · subst q
      rw [upd_same] at e
      cases e
    · rw [upd_ne q] at e
      exact z1.2.2 b us e
end
end Dv
end
section
/-! Dv6: targets, loops, comprehensions; a def's promise by its body. -/
namespace Dv
open PySem PySem.Spec L2
open PyProof.Rows hiding St

namespace P
def pr2 {α β : Type} (f : D → W α) (g : D → W β) : D → W (α × β)
  | .tuple [a, b] => W.bind (f a) fun x => W.bind (g b) fun y => W.pure (x, y)
  | _ => W.fail
def pr3 {α β γ : Type} (f : D → W α) (g : D → W β) (h : D → W γ) : D → W (α × β × γ)
  | .tuple [a, b, c] => W.bind (f a) fun x => W.bind (g b) fun y => W.bind (h c) fun z => W.pure (x, y, z)
  | _ => W.fail
def pr4 {α β γ δ : Type} (f : D → W α) (g : D → W β) (h : D → W γ) (k : D → W δ) : D → W (α × β × γ × δ)
  | .tuple [a, b, c, d] => W.bind (f a) fun x => W.bind (g b) fun y => W.bind (h c) fun z => W.bind (k d) fun u => W.pure (x, y, z, u)
  | _ => W.fail
def pr5 {α β γ δ ε : Type} (f : D → W α) (g : D → W β) (h : D → W γ) (k : D → W δ) (l : D → W ε) : D → W (α × β × γ × δ × ε)
  | .tuple [a, b, c, d, e] => W.bind (f a) fun x => W.bind (g b) fun y => W.bind (h c) fun z => W.bind (k d) fun u => W.bind (l e) fun v => W.pure (x, y, z, u, v)
  | _ => W.fail
end P

/-! ### targets -/
/-- a target: the slots that it stores, what it takes of the data, the names behind it -/
structure Tg (X : Cx) (S : Su) (tg : Expr) (is : List Nat) {α : Type} (ms : D → W α) (env : Gm → α → Gm) : Prop where
  ex : ∃ g : TG, PG X tg g ∧ ∀ (N : En) (Γ : Gm) (σ : St) (F H : Hp) (v : V) (d : D) (φ : α → Prop) (Q : St → Hp → Prop), Rel X.K S N Γ σ F H → Rp F v d → ms d φ →
    (∀ x σ', φ x → Rel X.K S N (env Γ x) σ' F H → (∀ n, n ∉ is → σ'[n]? = σ[n]?) → σ'.length = σ.length → Q σ' H) → g v σ H Q
  fr : ∀ Γ x n, n ∉ is → (env Γ x)[n]? = Γ[n]?
  ln : ∀ Γ x, (env Γ x).length = Γ.length
section
variable {X : Cx} {S : Su} {Γ : Gm} {sc : Scope} {N : List Str} {Vs O : List Nat} {G : List Str} {i j : Nat} {x : Str} {pos p2 : Pos}
theorem tg_nm (C : Cok X sc N Vs O G) (hi : N[i]? = some x) (ho : O.contains i = true) : Tg X S (.Name x p2) [i] (fun d => W.pure d) (fun Γ d => Γ.set i (.va d)) := by
  have hx := C.loc i x ho hi
  refine ⟨⟨_, pg_name (i := i) (by rw [C.hN]; exact C.nd) (by rw [C.hN]; exact hi) hx.1 hx.2, fun M Γ σ F H v d φ Q R r hm q => ?_⟩, fun Γ d n hn => ?_, fun Γ d => List.length_set⟩
  · exact q d _ hm (R.setv r) (fun n hn => List.getElem?_set_ne (fun z => hn (by simp [z]))) List.length_set
  · exact List.getElem?_set_ne (fun z => hn (by simp [z]))
/-- several targets in a row -/
structure Tgs (X : Cx) (S : Su) (tgs : List Expr) (is : List Nat) {α : Type} (ms : List D → W α) (env : Gm → α → Gm) : Prop where
  ex : ∃ g : TGs, PGs X tgs g ∧ ∀ (N : En) (Γ : Gm) (σ : St) (F H : Hp) (vs : List V) (ds : List D) (φ : α → Prop) (Q : St → Hp → Prop), Rel X.K S N Γ σ F H → RpA F vs ds → ms ds φ →
    (∀ x σ', φ x → Rel X.K S N (env Γ x) σ' F H → (∀ n, n ∉ is → σ'[n]? = σ[n]?) → σ'.length = σ.length → Q σ' H) → g vs σ H Q
  fr : ∀ Γ x n, n ∉ is → (env Γ x)[n]? = Γ[n]?
  ln : ∀ Γ x, (env Γ x).length = Γ.length
theorem tgs_nil : Tgs X S [] [] (α := Unit) (fun ds => match ds with | [] => W.pure () | _ => W.fail) (fun Γ _ => Γ) :=
  ⟨⟨_, pgs_nil, fun M Γ σ F H vs ds φ Q R r hm q => by
    cases r with
    | nil => exact ⟨rfl, q () σ hm R (fun _ _ => rfl) rfl⟩
    | cons _ _ => exact hm.elim⟩, fun _ _ _ _ => rfl, fun _ _ => rfl⟩
variable {α β : Type}
theorem tgs_cons {e : Expr} {es : List Expr} {is js : List Nat} {m1 : D → W α} {m2 : List D → W β} {e1 : Gm → α → Gm} {e2 : Gm → β → Gm} (h1 : Tg X S e is m1 e1) (h2 : Tgs X S es js m2 e2)
    (hs : (assignEach (e :: es) X.env).map (·.2) = assign e X.env :: (assignEach es X.env).map (·.2)) :
    Tgs X S (e :: es) (is ++ js) (α := α × β) (fun ds => match ds with | d :: r => W.bind (m1 d) fun a => W.bind (m2 r) fun b => W.pure (a, b) | [] => W.fail) (fun Γ x => e2 (e1 Γ x.1) x.2) := by
  obtain ⟨⟨g1, p1, k1⟩, f1, l1⟩ := h1
  obtain ⟨⟨g2, p2, k2⟩, f2, l2⟩ := h2
  refine ⟨⟨_, pgs_cons p1 p2 hs, fun M Γ σ F H vs ds φ Q R r hm q => ?_⟩, fun Γ x n hn => ?_, fun Γ x => by rw [l2, l1]⟩
  · cases r with
    | nil => exact hm.elim
    | cons r1 r2 =>
      refine ⟨_, _, rfl, k1 M Γ σ F H _ _ _ _ R r1 hm fun a σ1 ha R1 fr1 ln1 => ?_⟩
      exact k2 M _ σ1 F H _ _ _ _ R1 r2 ha fun b σ2 hb R2 fr2 ln2 => q (a, b) σ2 hb R2 (fun n hn => by rw [fr2 n (fun z => hn (List.mem_append_right _ z)), fr1 n (fun z => hn (List.mem_append_left _ z))]) (ln2.trans ln1)
  · rw [f2 _ _ _ (fun z => hn (List.mem_append_right _ z)), f1 _ _ _ (fun z => hn (List.mem_append_left _ z))]
/-- a, b, .. = a tuple -/
theorem tg_tup {es : List Expr} {is : List Nat} {k n : Nat} {m : List D → W α} {env : Gm → α → Gm} (hc : X.calm = true) (h : Tgs X S es is m env) (hn : (assignEach es X.env).length = n) (hst : (assignEach es X.env).findIdx? (·.1) = none) :
    Tg X S (.Tuple es k pos) is (fun d => match d with | .tuple ds => W.need (ds.length = n) (m ds) | _ => W.fail) env := by
  obtain ⟨⟨g1, p1, k1⟩, f1, l1⟩ := h
  refine ⟨⟨_, pg_tup (n := n) hc p1 hn hst, fun M Γ σ F H v d φ Q R r h q => ?_⟩, f1, l1⟩
  cases d with
  | tuple ds =>
    obtain ⟨a, vs, rfl, h1, h2⟩ := r.of_tup
    exact ⟨a, vs, rfl, SqT.of (R.fh _ _ h1), by rw [h2.length]; exact h.1, k1 M Γ σ F H vs ds φ Q R h2 h.2 q⟩
  | _ => exact h.elim
theorem Tg.imp {tg : Expr} {is : List Nat} {m m' : D → W α} {env : Gm → α → Gm} (h : Tg X S tg is m env) (e : ∀ d φ, m' d φ → m d φ) : Tg X S tg is m' env := by
  obtain ⟨⟨g1, p1, k1⟩, f1, l1⟩ := h
  exact ⟨⟨g1, p1, fun M Γ σ F H v d φ Q R r h q => k1 M Γ σ F H v d φ Q R r (e d φ h) q⟩, f1, l1⟩
theorem Tg.map {γ : Type} {tg : Expr} {is : List Nat} {m : D → W α} {m' : D → W γ} {env : Gm → α → Gm} {env' : Gm → γ → Gm} (f : α → γ) (h : Tg X S tg is m env) (e : ∀ d φ, m' d φ → m d fun a => φ (f a)) (he : ∀ Γ a, env' Γ (f a) = env Γ a) (hf : ∀ Γ x n, n ∉ is → (env' Γ x)[n]? = Γ[n]?) (hl : ∀ Γ x, (env' Γ x).length = Γ.length) : Tg X S tg is m' env' := by
  obtain ⟨⟨g1, p1, k1⟩, f1, l1⟩ := h
  exact ⟨⟨g1, p1, fun M Γ σ F H v d φ Q R r h q => k1 M Γ σ F H v d _ Q R r (e d φ h) fun x σ' hx R' => q (f x) σ' hx (by rw [he]; exact R')⟩, hf, hl⟩
theorem tg_pr2 {a b : Expr} {is js : List Nat} {k : Nat} {f : D → W α} {g : D → W β} {e1 : Gm → α → Gm} {e2 : Gm → β → Gm} (C : Cok X sc N Vs O G) (h1 : Tg X S a is f e1) (h2 : Tg X S b js g e2)
    (hs1 : (assignEach [a, b] X.env).map (·.2) = assign a X.env :: (assignEach [b] X.env).map (·.2)) (hs2 : (assignEach [b] X.env).map (·.2) = assign b X.env :: (assignEach [] X.env).map (·.2)) (hn : (assignEach [a, b] X.env).length = 2) (hst : (assignEach [a, b] X.env).findIdx? (·.1) = none) :
    Tg X S (.Tuple [a, b] k pos) (is ++ (js ++ [])) (P.pr2 f g) (fun Γ x => e2 (e1 Γ x.1) x.2) := by
  refine Tg.map (fun x : α × β × Unit => (x.1, x.2.1)) (tg_tup C.calm (tgs_cons h1 (tgs_cons h2 tgs_nil hs2) hs1) hn hst) (fun d φ h => ?_) (fun _ _ => rfl) (fun Γ x n hn => ?_) (fun Γ x => by rw [h2.ln, h1.ln])
  · unfold P.pr2 at h
    split at h
    · exact ⟨rfl, h⟩
    · exact h.elim
  · rw [h2.fr _ _ _ (fun z => hn (List.mem_append_right _ (List.mem_append_left _ z))), h1.fr _ _ _ (fun z => hn (List.mem_append_left _ z))]
theorem tg_pr3 {γ : Type} {a b c : Expr} {is js ks : List Nat} {k : Nat} {f : D → W α} {g : D → W β} {h : D → W γ} {e1 : Gm → α → Gm} {e2 : Gm → β → Gm} {e3 : Gm → γ → Gm} (C : Cok X sc N Vs O G) (h1 : Tg X S a is f e1) (h2 : Tg X S b js g e2) (h3 : Tg X S c ks h e3)
    (hs1 : (assignEach [a, b, c] X.env).map (·.2) = assign a X.env :: (assignEach [b, c] X.env).map (·.2)) (hs2 : (assignEach [b, c] X.env).map (·.2) = assign b X.env :: (assignEach [c] X.env).map (·.2)) (hs3 : (assignEach [c] X.env).map (·.2) = assign c X.env :: (assignEach [] X.env).map (·.2))
    (hn : (assignEach [a, b, c] X.env).length = 3) (hst : (assignEach [a, b, c] X.env).findIdx? (·.1) = none) :
    Tg X S (.Tuple [a, b, c] k pos) (is ++ (js ++ (ks ++ []))) (P.pr3 f g h) (fun Γ x => e3 (e2 (e1 Γ x.1) x.2.1) x.2.2) := by
  refine Tg.map (fun x : α × β × γ × Unit => (x.1, x.2.1, x.2.2.1)) (tg_tup C.calm (tgs_cons h1 (tgs_cons h2 (tgs_cons h3 tgs_nil hs3) hs2) hs1) hn hst) (fun d φ h => ?_) (fun _ _ => rfl) (fun Γ x n hn => ?_) (fun Γ x => by rw [h3.ln, h2.ln, h1.ln])
  · unfold P.pr3 at h
    split at h
    · exact ⟨rfl, h⟩
    · exact h.elim
  · rw [h3.fr _ _ _ (fun z => hn (by simp [z])), h2.fr _ _ _ (fun z => hn (by simp [z])), h1.fr _ _ _ (fun z => hn (by simp [z]))]
theorem tg_pr4 {γ δ : Type} {a b c d : Expr} {is js ks ls : List Nat} {k : Nat} {f : D → W α} {g : D → W β} {h : D → W γ} {m : D → W δ} {e1 : Gm → α → Gm} {e2 : Gm → β → Gm} {e3 : Gm → γ → Gm} {e4 : Gm → δ → Gm} (C : Cok X sc N Vs O G) (h1 : Tg X S a is f e1) (h2 : Tg X S b js g e2) (h3 : Tg X S c ks h e3) (h4 : Tg X S d ls m e4)
    (hs1 : (assignEach [a, b, c, d] X.env).map (·.2) = assign a X.env :: (assignEach [b, c, d] X.env).map (·.2)) (hs2 : (assignEach [b, c, d] X.env).map (·.2) = assign b X.env :: (assignEach [c, d] X.env).map (·.2)) (hs3 : (assignEach [c, d] X.env).map (·.2) = assign c X.env :: (assignEach [d] X.env).map (·.2)) (hs4 : (assignEach [d] X.env).map (·.2) = assign d X.env :: (assignEach [] X.env).map (·.2))
    (hn : (assignEach [a, b, c, d] X.env).length = 4) (hst : (assignEach [a, b, c, d] X.env).findIdx? (·.1) = none) :
    Tg X S (.Tuple [a, b, c, d] k pos) (is ++ (js ++ (ks ++ (ls ++ [])))) (P.pr4 f g h m) (fun Γ x => e4 (e3 (e2 (e1 Γ x.1) x.2.1) x.2.2.1) x.2.2.2) := by
  refine Tg.map (fun x : α × β × γ × δ × Unit => (x.1, x.2.1, x.2.2.1, x.2.2.2.1)) (tg_tup C.calm (tgs_cons h1 (tgs_cons h2 (tgs_cons h3 (tgs_cons h4 tgs_nil hs4) hs3) hs2) hs1) hn hst) (fun d φ h => ?_) (fun _ _ => rfl) (fun Γ x n hn => ?_) (fun Γ x => by rw [h4.ln, h3.ln, h2.ln, h1.ln])
  · unfold P.pr4 at h
    split at h
    · exact ⟨rfl, h⟩
    · exact h.elim
  · rw [h4.fr _ _ _ (fun z => hn (by simp [z])), h3.fr _ _ _ (fun z => hn (by simp [z])), h2.fr _ _ _ (fun z => hn (by simp [z])), h1.fr _ _ _ (fun z => hn (by simp [z]))]
/-- a, b = e -/
theorem sv_asg {τ β' : Type} {tg e : Expr} {is : List Nat} {ms : D → W τ} {env : Gm → τ → Gm} {m : W D} {L : β' → Gm} (h : Tg X S tg is ms env) (he : Ev X S Γ e m) (hs : swapsWithSole [tg] e pos.line X.env = pure false) (hw : swappedStores [tg] e X.env = pure none) (h1 : (assignEach [tg] X.env).map (·.2) = [assign tg X.env]) :
    Sv X S (.Assign [tg] e pos) Γ (W.nxt (W.bind m ms)) (env Γ) L := by
  obtain ⟨t, pe, k⟩ := he.ex
  obtain ⟨⟨g, pg, kg⟩, _, _⟩ := h
  refine ⟨_, ps_asg pe pg hs hw h1, fun M σ F H Z φ R z hm q1 _ _ _ _ => k M σ F H _ _ R z hm fun v d F1 H1 hm1 R1 x1 z1 r1 => ?_⟩
  exact kg M Γ σ F1 H1 v d _ _ R1 r1 hm1 fun x σ' hx R' _ _ => q1 x σ' F1 H1 hx R' z1

/-! ### what is walked -/
/-- the iterator gives ds, one after another, as long as what is frozen stands -/
structure WalkD (J : It) (ds : List D) (F1 : Hp) : Prop where
  sz : ds.length ≤ sizeLine
  go : ∀ i H, i < ds.length → Same F1 H → J.go i H
  stop : ∀ H, Same F1 H → J.stop ds.length H
  yld : ∀ i H x H' F, i < ds.length → Same F1 F → Same F H → J.yld i H x H' → ∃ d F', ds[i]? = some d ∧ Rp F' x d ∧ ((F' = F ∧ H' = H) ∨ ∃ T o, H T = none ∧ F' = upd F T o ∧ H' = upd H T o)
structure Iv (X : Cx) (S : Su) (Γ : Gm) (tg iter : Expr) (m : W (List D)) : Prop where
  ex : ∃ wi : TI, PI X tg iter wi ∧ ∀ (N : En) (σ : St) (F H : Hp) (R : It → Hp → Prop) (φ : List D → Prop), Rel X.K S N Γ σ F H → SzOk H → m φ →
    (∀ ds J F' H', φ ds → Rel X.K S N Γ σ F' H' → Xt Γ σ F H F' H' → SzOk H' → WalkD J ds F' → R J H') → wi σ H R
theorem szPI {X : Cx} {tg iter : Expr} {wi : TI} (h : PI X tg iter wi) : PI X tg iter fun σ H R => SzOk H → wi σ H fun J H' => SzOk H' → R J H' :=
  ⟨fun pins s σ H R I hw => thn (h.run pins s σ H _ I (hw (Inv.sz I))) fun _ _ q => thn q fun _ _ ⟨it, fp, tn, J, H', e, I', T, st, f, r⟩ => ⟨it, fp, tn, J, H', e, I', T, st, f, r (Inv.sz I')⟩⟩
theorem Iv.mk' {X : Cx} {S : Su} {Γ : Gm} {tg iter : Expr} {m : W (List D)} {wi : TI} (h : PI X tg iter wi) (k : ∀ (N : En) (σ : St) (F H : Hp) (R : It → Hp → Prop) (φ : List D → Prop), Rel X.K S N Γ σ F H → SzOk H → m φ →
    (∀ ds J F' H', φ ds → Rel X.K S N Γ σ F' H' → Xt Γ σ F H F' H' → WalkD J ds F' → R J H') → wi σ H R) : Iv X S Γ tg iter m :=
  ⟨_, szPI h, fun N σ F H R φ Rr z hm q _ => k N σ F H _ φ Rr z hm fun ds J F' H' a b c w z' => q ds J F' H' a b c z' w⟩
variable {tg e : Expr}
/-- the items of data -/
def P.items : D → W (List D)
  | .list l => W.pure l
  | _ => W.fail
theorem iv_list {m : W D} (he : Ev X S Γ e m) : Iv X S Γ tg e (W.bind m P.items) := by
  obtain ⟨t, pe, k⟩ := he.ex
  refine Iv.mk' (pi_list pe) fun M σ F H R φ Rr z hm q => k M σ F H _ _ Rr z hm fun v d F1 H1 hm1 R1 x1 z1 r1 => ?_
  cases d with
  | list l =>
    obtain ⟨a, vs, rfl, h1, h2⟩ := r1.of_list
    have w := walk_list (K := X.K) (a := a) (xs := vs)
    refine ⟨a, rfl, ⟨vs, SqL.of (R1.fh _ _ h1)⟩, q l _ F1 H1 hm1 R1 x1 ⟨by rw [← h2.length]; exact z1.1 _ _ (R1.fh _ _ h1), fun i H hi s => w.goes i H (by rw [h2.length]; exact hi) (SqL.of (s _ _ h1)), fun H s => by rw [← h2.length]; exact w.stops H (SqL.of (s _ _ h1)), fun i H x H' F hi s1 s2 y => ?_⟩⟩
    obtain ⟨rfl, hy⟩ := w.yields i H x H' (by rw [h2.length]; exact hi) (SqL.of (s2 _ _ (s1 _ _ h1))) y
    obtain ⟨d, hd, rd⟩ := h2.get' hy
    exact ⟨d, F, hd, rd.mono s1, .inl ⟨rfl, rfl⟩⟩
  | _ => exact hm1.elim
theorem iv_tup {m : W D} (he : Ev X S Γ e m) : Iv X S Γ tg e (W.bind m fun d => match d with | .tuple l => W.pure l | _ => W.fail) := by
  obtain ⟨t, pe, k⟩ := he.ex
  refine Iv.mk' (pi_tup pe) fun M σ F H R φ Rr z hm q => k M σ F H _ _ Rr z hm fun v d F1 H1 hm1 R1 x1 z1 r1 => ?_
  cases d with
  | tuple l =>
    obtain ⟨a, vs, rfl, h1, h2⟩ := r1.of_tup
    have w := walk_tup (K := X.K) (a := a) (xs := vs)
    refine ⟨a, rfl, ⟨vs, SqT.of (R1.fh _ _ h1)⟩, q l _ F1 H1 hm1 R1 x1 ⟨by rw [← h2.length]; exact z1.2.1 _ _ (R1.fh _ _ h1), fun i H hi s => w.goes i H (by rw [h2.length]; exact hi) (SqT.of (s _ _ h1)), fun H s => by rw [← h2.length]; exact w.stops H (SqT.of (s _ _ h1)), fun i H x H' F hi s1 s2 y => ?_⟩⟩
    obtain ⟨rfl, hy⟩ := w.yields i H x H' (by rw [h2.length]; exact hi) (SqT.of (s2 _ _ (s1 _ _ h1))) y
    obtain ⟨d, hd, rd⟩ := h2.get' hy
    exact ⟨d, F, hd, rd.mono s1, .inl ⟨rfl, rfl⟩⟩
  | _ => exact hm1.elim
/-- a list that is read only -/
theorem iv_rd {l : List D} (C : Cok X sc N Vs O G) (hi : N[i]? = some x) (hv : Vs.contains i = true) (hg : Γ[i]? = some (.rd l)) : Iv X S Γ tg (.Name x p2) (W.need (l.length ≤ sizeLine) (W.pure l)) := by
  have hx := C.dN x (List.mem_of_getElem? hi)
  refine Iv.mk' (pi_list (pe_var (i := i) (by rw [C.hN]; exact hi) (C.vis i x hv hi) hx.1 hx.2)) fun M σ F H R φ Rr z hm q => ?_
  obtain ⟨a, vs, e, h1, h2⟩ := Rr.rd hg
  have w := walk_list (K := X.K) (a := a) (xs := vs)
  refine ⟨_, e, a, rfl, ⟨vs, Same.seq Rr.fh h1⟩, q l _ F H hm.2 Rr Xt.refl ⟨hm.1, fun i H hi s => w.goes i H (by rw [h2.length]; exact hi) (Same.seq s h1), fun H s => by rw [← h2.length]; exact w.stops H (Same.seq s h1), fun i H x H' F hi s1 s2 y => ?_⟩⟩
  obtain ⟨rfl, hy⟩ := w.yields i H x H' (by rw [h2.length]; exact hi) (Same.seq s2 (Same.seq s1 h1)) y
  obtain ⟨d, hd, rd⟩ := h2.get' hy
  exact ⟨d, F, hd, rd.mono s1, .inl ⟨rfl, rfl⟩⟩
/-- a new list -/
theorem iv_new {m : W (List D)} (he : Eo X S Γ e m) : Iv X S Γ tg e m := by
  have h := iv_list (tg := tg) he.v
  exact h
namespace P
def rangeL (lo hi : Int) : List D := (List.range (hi - lo).toNat).map fun i => .int (lo + (i : Nat))
def range1 : List D → W (List D)
  | [.int j] => W.need ((j - 0).toNat ≤ sizeLine ∧ -(2 ^ 62) ≤ j ∧ j < 2 ^ 62) (W.pure (rangeL 0 j))
  | _ => W.fail
def range2 : List D → W (List D)
  | [.int i, .int j] => W.need ((j - i).toNat ≤ sizeLine ∧ -(2 ^ 62) ≤ i ∧ i < 2 ^ 62 ∧ -(2 ^ 62) ≤ j ∧ j < 2 ^ 62) (W.pure (rangeL i j))
  | _ => W.fail
def enum (l : List D) : List D := l.zipIdx.map fun p => .tuple [.int (p.2 : Nat), p.1]
def zip2 (l r : List D) : List D := (l.zip r).map fun p => .tuple [p.1, p.2]
def enum1 : List D → W (List D)
  | [.list l] => W.pure (enum l)
  | _ => W.fail
def zip1 : List D → W (List D)
  | [.list l, .list r] => W.pure (zip2 l r)
  | _ => W.fail
end P
theorem walk_rangeD {K : PySem.W.Frag} {lo hi : Int} {F1 : Hp} (hz : (hi - lo).toNat ≤ sizeLine) : WalkD (Itr lo (hi - lo).toNat) (P.rangeL lo hi) F1 := by
  have hl : (P.rangeL lo hi).length = (hi - lo).toNat := by unfold P.rangeL; rw [List.length_map, List.length_range]
  refine ⟨by rw [hl]; exact hz, fun i H h _ => by rw [hl] at h; exact h, fun H _ => by rw [hl]; exact Nat.le_refl _, fun i H x H' F h _ _ y => ?_⟩
  obtain ⟨rfl, rfl⟩ := y
  rw [hl] at h
  refine ⟨.int (lo + (i : Nat)), F, ?_, .int _, .inl ⟨rfl, rfl⟩⟩
  unfold P.rangeL
  rw [List.getElem?_map, List.getElem?_range h]
  rfl
variable {a b : Expr} {p : Pos} {mr : W (List D)}
theorem iv_range1 (C : Cok X sc N Vs O G) (hg : G[j]? = some ("range" : Str)) (hm : X.mg "range" = none) (ha : Av X S Γ [a] mr) (hs : starEach [a] X.env = [(false, eval a X.env)]) : Iv X S Γ tg (.Call (.Name "range" p) [a] [] pos) (W.bind mr P.range1) := by
  obtain ⟨t, pa, k⟩ := ha.ex
  refine Iv.mk' (pi_range1 (C.gl j _ hg) hm pa hs) fun M σ F H R φ Rr z hm q => k M σ F H _ _ Rr z hm fun vs ds F1 H1 hm1 R1 x1 z1 r1 n1 => ?_
  unfold P.range1 at hm1
  split at hm1
  · obtain ⟨v, rfl, hv⟩ := rp1 r1
    rw [hv.of_int]
    refine ⟨_, rfl, hm1.1.2.1, hm1.1.2.2, q _ _ F1 H1 hm1.2 R1 x1 ?_⟩
    have w := walk_rangeD (K := X.K) (lo := 0) (hi := ‹Int›) (F1 := F1) hm1.1.1
    rw [Int.sub_zero] at w
    exact w
  · exact hm1.elim
theorem iv_range2 (C : Cok X sc N Vs O G) (hg : G[j]? = some ("range" : Str)) (hm : X.mg "range" = none) (ha : Av X S Γ [a, b] mr) (hs : starEach [a, b] X.env = [(false, eval a X.env), (false, eval b X.env)]) (hs2 : starEach [b] X.env = [(false, eval b X.env)]) : Iv X S Γ tg (.Call (.Name "range" p) [a, b] [] pos) (W.bind mr P.range2) := by
  obtain ⟨t, pa, k⟩ := ha.ex
  refine Iv.mk' (pi_range2 (C.gl j _ hg) hm pa hs hs2) fun M σ F H R φ Rr z hm q => k M σ F H _ _ Rr z hm fun vs ds F1 H1 hm1 R1 x1 z1 r1 n1 => ?_
  unfold P.range2 at hm1
  split at hm1
  · obtain ⟨v, w, rfl, hv, hw⟩ := rp2 r1
    rw [hv.of_int, hw.of_int]
    exact ⟨_, _, rfl, hm1.1.2, q _ _ F1 H1 hm1.2 R1 x1 (walk_rangeD (K := X.K) hm1.1.1)⟩
  · exact hm1.elim
theorem iv_enum {elts : List Expr} {kk : Nat} {tpos : Pos} (C : Cok X sc N Vs O G) (hg : G[j]? = some ("enumerate" : Str)) (hm : X.mg "enumerate" = none) (ha : Av X S Γ [e] mr) (hs : starEach [e] X.env = [(false, eval e X.env)]) : Iv X S Γ (.Tuple elts kk tpos) (.Call (.Name "enumerate" p) [e] [] pos) (W.bind mr P.enum1) := by
  obtain ⟨t, pa, k⟩ := ha.ex
  refine Iv.mk' (pi_enum (C.gl j _ hg) hm pa hs) fun M σ F H R φ Rr z hm q => k M σ F H _ _ Rr z hm fun vs ds F1 H1 hm1 R1 x1 z1 r1 n1 => ?_
  unfold P.enum1 at hm1
  split at hm1
  · rename_i l
    obtain ⟨v, rfl, hv⟩ := rp1 r1
    obtain ⟨a, vs, rfl, h1, h2⟩ := hv.of_list
    have w := walk_enum (K := X.K) (a := a) (xs := vs)
    have hl : (P.enum l).length = vs.length := by unfold P.enum; rw [List.length_map, List.length_zipIdx, h2.length]
    refine ⟨a, vs, rfl, SqL.of (R1.fh _ _ h1), q _ _ F1 H1 hm1 R1 x1 ⟨by rw [hl]; exact z1.1 _ _ (R1.fh _ _ h1), fun i H hi s => w.goes i H (by rw [← hl]; exact hi) (SqL.of (s _ _ h1)), fun H s => by rw [hl]; exact w.stops H (SqL.of (s _ _ h1)), fun i H x H' F hi s1 s2 y => ?_⟩⟩
    rw [hl] at hi
    obtain ⟨T, u, w', rfl, nT, rfl, hu, hw⟩ := w.yields i H x H' hi (SqL.of (s2 _ _ (s1 _ _ h1))) y
    obtain ⟨d, hd, rd⟩ := h2.get' hw
    have e : u = .int (i : Nat) := (Option.some.inj hu).symm
    subst e
    have nF := s2.free nT
    refine ⟨.tuple [.int (i : Nat), d], upd F T (.tup [.int (i : Nat), w']), ?_, .tup upd_same (.cons (.int _) (.cons ((rd.mono s1).mono fun b o e => by rw [upd_ne (ne_of_none e nF)]; exact e) .nil)), .inr ⟨T, _, nT, rfl, rfl⟩⟩
    unfold P.enum
    rw [List.getElem?_map, List.getElem?_zipIdx, hd]
    simp
  · exact hm1.elim
theorem iv_zip {elts : List Expr} {kk : Nat} {tpos : Pos} (C : Cok X sc N Vs O G) (hg : G[j]? = some ("zip" : Str)) (hm : X.mg "zip" = none) (ha : Av X S Γ [a, b] mr) (hs : starEach [a, b] X.env = (false, eval a X.env) :: starEach [b] X.env) (hpl : (backTo pos (starEach [b] X.env)).any (·.1) = false) : Iv X S Γ (.Tuple elts kk tpos) (.Call (.Name "zip" p) [a, b] [] pos) (W.bind mr P.zip1) := by
  obtain ⟨t, pa, k⟩ := ha.ex
  refine Iv.mk' (pi_zip (C.gl j _ hg) hm pa hs hpl) fun M σ F H R φ Rr z hm q => k M σ F H _ _ Rr z hm fun vs ds F1 H1 hm1 R1 x1 z1 r1 n1 => ?_
  unfold P.zip1 at hm1
  split at hm1
  · rename_i l r
    obtain ⟨v, v2, rfl, hv, hv2⟩ := rp2 r1
    obtain ⟨a, vs, rfl, h1, h2⟩ := hv.of_list
    obtain ⟨a2, ws, rfl, g1, g2⟩ := hv2.of_list
    have w := walk_zip (K := X.K) (a := a) (b := a2) (xs := vs) (ys := ws) rfl
    have hl : (P.zip2 l r).length = min vs.length ws.length := by unfold P.zip2; rw [List.length_map, List.length_zip, h2.length, g2.length]
    have both : ∀ H, Same F1 H → SqL X.K H a vs ∧ SqL X.K H a2 ws := fun H s => ⟨SqL.of (s _ _ h1), SqL.of (s _ _ g1)⟩
    refine ⟨a, a2, vs, ws, rfl, (both _ R1.fh).1, (both _ R1.fh).2, q _ _ F1 H1 hm1 R1 x1 ⟨by rw [hl]; exact Nat.le_trans (Nat.min_le_left _ _) (z1.1 _ _ (R1.fh _ _ h1)), fun i H hi s => w.goes i H (by rw [← hl]; exact hi) (both H s), fun H s => by rw [hl]; exact w.stops H (both H s), fun i H x H' F hi s1 s2 y => ?_⟩⟩
    rw [hl] at hi
    obtain ⟨T, u, w', rfl, nT, rfl, hu, hw⟩ := w.yields i H x H' hi (both H (s1.trans s2)) y
    obtain ⟨d, hd, rd⟩ := h2.get' hu
    obtain ⟨d2, hd2, rd2⟩ := g2.get' hw
    have nF := s2.free nT
    have sm : Same F (upd F T (.tup [u, w'])) := fun b o e => by rw [upd_ne (ne_of_none e nF)]; exact e
    refine ⟨.tuple [d, d2], upd F T (.tup [u, w']), ?_, .tup upd_same (.cons ((rd.mono s1).mono sm) (.cons ((rd2.mono s1).mono sm) .nil)), .inr ⟨T, _, nT, rfl, rfl⟩⟩
    unfold P.zip2
    rw [List.getElem?_map, show (l.zip r)[i]? = some (d, d2) from List.getElem?_zip_eq_some.mpr ⟨hd, hd2⟩]
    rfl
  · exact hm1.elim
end
end Dv
end
section
/-! Dv7: loops, comprehensions, a store into an own list; a def's promise by its body. -/
namespace Dv
open PySem PySem.Spec L2
open PyProof.Rows hiding St

section
variable {K : PySem.W.Frag} {S : Su} {M : En} {Γ : Gm} {σ : St} {F H F' H' : Hp}
/-- a step of an iterator: a new tuple, or nothing -/
theorem Rel.item (R : Rel K S M Γ σ F H) (h : (F' = F ∧ H' = H) ∨ ∃ T o, H T = none ∧ F' = upd F T o ∧ H' = upd H T o) : Rel K S M Γ σ F' H' ∧ Xt Γ σ F H F' H' := by
  rcases h with ⟨rfl, rfl⟩ | ⟨T, o, nT, rfl, rfl⟩
  · exact ⟨R, Xt.refl⟩
  · exact ⟨R.frz nT, Xt.frz nT (R.fh.free nT)⟩
end
section
variable {X : Cx} {S : Su} {Γ : Gm} {sc : Scope} {N : List Str} {Vs O : List Nat} {G : List Str} {i j : Nat} {x : Str} {pos p2 : Pos} {τ β α : Type} {L : β → Gm}
/-- for tg in iter: body -/
theorem sv_for {tg iter : Expr} {body : List Stmt} {is : List Nat} {ms : D → W α} {env : Gm → α → Gm} {mi : W (List D)} {step : α → τ → W (Out τ τ)} {E : τ → Gm} {t0 : τ} (C : Cok X sc N Vs O G) (hi : Iv X S Γ tg iter mi) (ht : Tg X S tg is ms env) (hw : Le Γ (E t0))
    (hb : ∀ a t, Bv X S body (env (E t) a) (step a t) E E) (hs : ∀ x, foldedSetIterable iter X.env x = pure x) :
    Sv X S (.For tg iter body [] pos) Γ (W.bind mi fun ds => W.loop (fun d t => W.bind (ms d) fun a => step a t) ds t0) E L := by
  obtain ⟨wi, pi, ki⟩ := hi.ex
  obtain ⟨⟨g, pg, kg⟩, _, _⟩ := ht
  -- the body's reading, for each item and state
  have hbx := fun a t => (hb a t).ex
  refine ⟨_, ps_for C.po C.calm pi pg (body := body) (tb := fun Z σ H => ∃ a t M F φ, Rel X.K S M (env (E t) a) σ F H ∧ step a t φ ∧
    (∀ t σ' F' H', φ (.nx t) → Rel X.K S M (E t) σ' F' H' → SzOk H' → Z.nx σ' H') ∧
    (∀ d v F' H', φ (.rt d) → Fin S M F' H' → Rp F' v d → Z.rt v H') ∧
    (∀ l a us F' H', φ (.ro l) → Fin S M F' H' → H' a = some (.lst us) → F' a = none → M.H0 a = none → RpA F' us l → Z.rt (.ref a) H') ∧
    (∀ b σ' F' H', φ (.bk b) → Rel X.K S M (E b) σ' F' H' → SzOk H' → Z.bk σ' H') ∧
    (∀ b σ' F' H', φ (.ct b) → Rel X.K S M (E b) σ' F' H' → SzOk H' → Z.ct σ' H')) ⟨fun pins s σ H Z I ⟨a, t, M, F, φ, R, hm, h1, h2, h3, h4, h5⟩ => ?_⟩ hs, fun M σ F H Z φ R z hm h1 h2 h3 h4 h5 => ?_⟩
  · obtain ⟨tb, pb, kb⟩ := hbx a t
    exact pb.run pins s σ H Z I (kb M σ F H Z φ R (Inv.sz I) hm h1 h2 h3 h4 h5)
  · refine ki M σ F H _ _ R z hm fun ds J F1 H1 hds R1 x1 z1 w => ?_
    -- the words of a turn
    refine ⟨fun i n σ' H' => n = ds.length - i ∧ i ≤ ds.length ∧ ∃ t F', Rel X.K S ⟨F1, M.H0⟩ (E t) σ' F' H' ∧ SzOk H' ∧ W.loop (fun d t => W.bind (ms d) fun a => step a t) (ds.drop i) t φ, ⟨ds.length, rfl, Nat.zero_le _, t0, F1, (R1.weak hw).base, z1, hds⟩, ?_⟩
    · rintro i n σ' H' ⟨rfl, hi, t, F', R', z', hl⟩
      by_cases hlt : i < ds.length
      · have hdr : ds.drop i = ds[i] :: ds.drop (i + 1) := List.drop_eq_getElem_cons hlt
        rw [hdr] at hl
        refine .inr ⟨w.go i H' hlt (R'.f0.trans R'.fh), fun σ2 H2 => ∃ t F2, Rel X.K S ⟨F1, M.H0⟩ (E t) σ2 F2 H2 ∧ SzOk H2 ∧ W.loop (fun d t => W.bind (ms d) fun a => step a t) (ds.drop (i + 1)) t φ, fun σ2 H2 h => ⟨ds.length - (i + 1), by omega, rfl, hlt, h⟩, fun x H2 y => ?_⟩
        obtain ⟨d, F2, hd, rd, st⟩ := w.yld i H' x H2 F' hlt R'.f0 R'.fh y
        have ed : ds[i] = d := by
          rw [List.getElem?_eq_getElem hlt] at hd
          exact Option.some.inj hd
        rw [ed] at hl
        obtain ⟨R2, _⟩ := R'.item st
        refine kg _ _ σ' F2 H2 x d _ _ R2 rd hl fun a σ3 ha R3 _ _ => ?_
        refine ⟨a, t, _, F2, _, R3, ha, fun t' σ4 F4 H4 hq R4 z4 => ⟨t', F4, R4, z4, hq⟩, fun d v F4 H4 hq f4 r4 => h2 d v F4 H4 hq (f4.unbase R1) r4, fun l a us F4 H4 hq f4 => h3 l a us F4 H4 hq (f4.unbase R1), fun b σ4 F4 H4 hq R4 z4 => h1 b σ4 F4 H4 hq (R1.unbase R4) z4, fun t' σ4 F4 H4 hq R4 z4 => ⟨t', F4, R4, z4, hq⟩⟩
      · have e : i = ds.length := by omega
        subst e
        rw [List.drop_length] at hl
        exact .inl ⟨w.stop H' (R'.f0.trans R'.fh), h1 t σ' F' H' hl (R1.unbase R') z'⟩
/-- while c: body -/
theorem sv_while {c : Expr} {body : List Stmt} {mc : τ → W Bool} {step : τ → W (Out τ τ)} {E : τ → Gm} {t0 : τ} (C : Cok X sc N Vs O G) (hw : Le Γ (E t0)) (hc : ∀ t, Tb X S (E t) c (mc t)) (hb : ∀ t, Bv X S body (E t) (step t) E E) :
    Sv X S (.While c body [] pos) Γ (W.whil mc step t0) E L := by
  have hcx := fun t => (hc t).ex
  have hbx := fun t => (hb t).ex
  refine ⟨_, ps_while C.po (c := c) (body := body) (tc := fun σ H Q => ∃ t M F φ, Rel X.K S M (E t) σ F H ∧ mc t φ ∧ ∀ b F' H', φ b → Rel X.K S M (E t) σ F' H' → SzOk H' → Q b H') (tb := fun Z σ H => ∃ t M F φ, Rel X.K S M (E t) σ F H ∧ step t φ ∧
    (∀ t σ' F' H', φ (.nx t) → Rel X.K S M (E t) σ' F' H' → SzOk H' → Z.nx σ' H') ∧
    (∀ d v F' H', φ (.rt d) → Fin S M F' H' → Rp F' v d → Z.rt v H') ∧
    (∀ l a us F' H', φ (.ro l) → Fin S M F' H' → H' a = some (.lst us) → F' a = none → M.H0 a = none → RpA F' us l → Z.rt (.ref a) H') ∧
    (∀ b σ' F' H', φ (.bk b) → Rel X.K S M (E b) σ' F' H' → SzOk H' → Z.bk σ' H') ∧
    (∀ b σ' F' H', φ (.ct b) → Rel X.K S M (E b) σ' F' H' → SzOk H' → Z.ct σ' H')) ⟨fun pins s σ H Q I ⟨t, M, F, φ, R, hm, h1⟩ => ?_⟩ ⟨fun pins s σ H Z I ⟨t, M, F, φ, R, hm, h1, h2, h3, h4, h5⟩ => ?_⟩, fun M σ F H Z φ R z hm h1 h2 h3 h4 h5 => ?_⟩
  · obtain ⟨tb, pb, kb⟩ := hcx t
    exact pb.run pins s σ H Q I (kb M σ F H Q φ R (Inv.sz I) hm fun b F' H' hb R' _ z' => h1 b F' H' hb R' z')
  · obtain ⟨tb, pb, kb⟩ := hbx t
    exact pb.run pins s σ H Z I (kb M σ F H Z φ R (Inv.sz I) hm h1 h2 h3 h4 h5)
  · obtain ⟨n0, hn0⟩ := hm
    refine ⟨fun n σ' H' => ∃ t F', Rel X.K S M (E t) σ' F' H' ∧ SzOk H' ∧ W.whilN mc step n t φ, ⟨n0, t0, F, R.weak hw, z, hn0⟩, ?_⟩
    rintro n σ' H' ⟨t, F', R', z', hl⟩
    cases n with
    | zero => exact hl.elim
    | succ n =>
      refine ⟨t, M, F', _, R', hl, fun b F2 H2 hb R2 z2 => ?_⟩
      cases b with
      | false => exact h1 t σ' F2 H2 hb R2 z2
      | true =>
        rw [if_pos rfl]
        have hb : (W.bind (step t) _ : W (Out τ β)) φ := hb
        refine ⟨fun σ3 H3 => ∃ t F', Rel X.K S M (E t) σ3 F' H3 ∧ SzOk H3 ∧ W.whilN mc step n t φ, fun σ3 H3 h => ⟨n, Nat.lt_succ_self n, h⟩, t, M, F2, _, R2, hb, ?_⟩
        exact ⟨fun t' σ4 F4 H4 hq R4 z4 => ⟨t', F4, R4, z4, hq⟩, fun d v F4 H4 hq f4 r4 => h2 d v F4 H4 hq f4 r4, fun l a us F4 H4 hq f4 => h3 l a us F4 H4 hq f4, fun b σ4 F4 H4 hq R4 z4 => h1 b σ4 F4 H4 hq R4 z4, fun t' σ4 F4 H4 hq R4 z4 => ⟨t', F4, R4, z4, hq⟩⟩
/-- x[i] = e, x an own list -/
theorem sv_setix {e ix : Expr} {m mi : W D} {l : List D} {p3 : Pos} (C : Cok X sc N Vs O G) (hi : N[i]? = some x) (hv : Vs.contains i = true) (hg : Γ[i]? = some (.ow l)) (he : Ev X S Γ e m) (hx : Eb X S Γ ix mi)
    (hs : swapsWithSole [.Subscript (.Name x p2) ix p3] e pos.line X.env = pure false) (hw : swappedStores [.Subscript (.Name x p2) ix p3] e X.env = pure none) (h1 : (assignEach [.Subscript (.Name x p2) ix p3] X.env).map (·.2) = [assign (.Subscript (.Name x p2) ix p3) X.env])
    (hp : ∀ v, assign (.Subscript (.Name x p2) ix p3) X.env v = (do
      let ov ← holding [v] (eval (.Name x p2) X.env)
      let iv ← holding [v, ov] (eval ix X.env)
      standAt p3
      holding [v, ov, iv] (setItem ov iv v)
      release [v, ov, iv] [])) :
    Sv X S (.Assign [.Subscript (.Name x p2) ix p3] e pos) Γ (W.nxt (W.bind m fun d => W.bind mi fun k => W.bind (P.asInt k) fun k => W.bind (W.opt (ixN l.length k)) fun j => W.pure (l.set j d))) (fun l' => Γ.set i (.ow l')) L := by
  obtain ⟨t, pe, k⟩ := he.ex
  obtain ⟨t2, pe2, k2⟩ := hx.ex
  have hn := C.dN x (List.mem_of_getElem? hi)
  refine ⟨_, ps_asg pe (pg_sub (pe_var (i := i) (by rw [C.hN]; exact hi) (C.vis i x hv hi) hn.1 hn.2) pe2 set_list hp) hs hw h1, fun M σ F H Z φ R z hm q1 _ _ _ _ => k M σ F H _ _ R z hm fun v d F1 H1 hm1 R1 x1 z1 r1 => ?_⟩
  obtain ⟨a, vs, e0, g1, _⟩ := R1.ow hg
  refine ⟨_, e0, k2 M σ F1 H1 _ _ R1 z1 hm1 fun w k F2 H2 hm2 R2 x2 z2 r2 => ?_⟩
  obtain ⟨a', vs', e', g1', g2, g3, r⟩ := R2.ow hg
  rw [e0] at e'
  cases e'
  cases k with
  | int n =>
    have hm2 : W.bind (W.opt (ixN l.length n)) (fun j => W.pure (l.set j d)) (fun t => φ (.nx t)) := hm2
    cases e3 : ixN l.length n with
    | none => rw [e3] at hm2; exact hm2.elim
    | some j =>
      rw [e3] at hm2
      refine ⟨a, vs', n, j, rfl, r2.of_int, g1', by rw [r.length]; exact e3, q1 (l.set j d) σ F2 _ hm2 (R2.chg hg e0 (r.set (r1.mono x2.sf) j)) ⟨fun b us e => ?_, fun b us e => ?_, fun b us e => ?_⟩⟩
      · by_cases q : b = a
        · subst q
          rw [upd_same] at e
          cases e
          rw [List.length_set]
          exact z2.1 _ _ g1'
        · rw [upd_ne q] at e
          exact z2.1 b us e
      · by_cases q : b = a
        · subst q
          rw [upd_same] at e
          cases e
        · rw [upd_ne q] at e
          exact z2.2.1 b us e
      · by_cases q : b = a
        · subst q
          rw [upd_same] at e
          cases e
        · rw [upd_ne q] at e
          exact z2.2.2 b us e
  | _ => exact hm2.elim

/-! ### comprehensions -/
/-- a comprehension's block -/
structure Blk (X : Cx) (scope : Scope) (X' : Cx) : Prop where
  ex : ∃ (s : Shared) (H : Hp) (C : Addr) (cl : List (Str × Addr)) (fp : List Addr), X' = X.blk s H scope (compEnvC scope cl C X.env) fp
theorem Blk.scr {scope : Scope} {X' : Cx} (B : Blk X scope X') : ScR scope X'.env.scope := by
  obtain ⟨s, H, C, cl, fp, rfl⟩ := B.ex
  intro y k h
  show (relabel scope X.env).names.lookup y = some k ∨ _
  have go : ∀ (names : List (Str × NameKind)), names.lookup y = some k →
      (names.map fun (n, k) => if (k == NameKind.free && X.env.scope.kind == .function && X.env.kindOf n == some .cell) then (n, NameKind.cell) else (n, k)).lookup y = some k ∨
      (k = .free ∧ (names.map fun (n, k) => if (k == NameKind.free && X.env.scope.kind == .function && X.env.kindOf n == some .cell) then (n, NameKind.cell) else (n, k)).lookup y = some .cell) := by
    intro names
    induction names with
    | nil => intro h; simp at h
    | cons p r ih =>
      obtain ⟨n, k0⟩ := p
      intro h
      rw [List.map_cons]
      dsimp only
      cases hx : y == n with
      | true =>
        simp only [List.lookup_cons, hx] at h
        cases h
        by_cases hc : (k == NameKind.free && X.env.scope.kind == .function && X.env.kindOf n == some .cell) = true
        · rw [if_pos hc]
          simp only [Bool.and_eq_true, beq_iff_eq] at hc
          exact .inr ⟨hc.1.1, by simp only [List.lookup_cons, hx]⟩
        · rw [if_neg hc]
          exact .inl (by simp only [List.lookup_cons, hx])
      | false =>
        simp only [List.lookup_cons, hx] at h
        by_cases hc : (k0 == NameKind.free && X.env.scope.kind == .function && X.env.kindOf n == some .cell) = true
        · rw [if_pos hc]
          simp only [List.lookup_cons, hx]
          exact ih h
        · rw [if_neg hc]
          simp only [List.lookup_cons, hx]
          exact ih h
  exact go scope.names h
theorem Cok.blk {scope : Scope} {X' : Cx} {V' O' : List Nat} {G' : List Str} (C : Cok X sc N Vs O G) (B : Blk X scope X') (h : chkSc true N V' O' G' scope = true) : Cok X' scope N V' O' G' := by
  have hs := B.scr
  obtain ⟨s, H, A, cl, fp, rfl⟩ := B.ex
  exact Cok.of h hs C.hN (fun _ x e => by
    show (scope.names.lookup x == some .cell) = true
    rw [e]
    rfl) (fun z => z) C.calm PassesOwn.never C.un
theorem Cal.blk {scope : Scope} {X' : Cx} {y : Str} {sp : Sp} (c : Cal X y sp) (B : Blk X scope X') : Cal X' y sp := by
  obtain ⟨s, H, A, cl, fp, rfl⟩ := B.ex
  exact c
theorem mg_blk {scope : Scope} {X' : Cx} {y : Str} (c : X.mg y = none) (B : Blk X scope X') : X'.mg y = none := by
  obtain ⟨s, H, A, cl, fp, rfl⟩ := B.ex
  exact c
theorem wipe_get {σ : St} {n : Nat} : ∀ {vs : List Nat}, (wipe σ vs)[n]? = if n ∈ vs then (σ[n]?.map fun _ => none) else σ[n]?
  | [] => by simp [wipe]
  | v :: vs => by
    unfold wipe
    have ih := wipe_get (σ := σ) (n := n) (vs := vs)
    by_cases e : v = n
    · subst e
      rw [List.getElem?_set_self', ih]
      simp only [List.mem_cons, true_or, if_true]
      by_cases q : v ∈ vs
      · rw [if_pos q]
        cases σ[v]? <;> rfl
      · rw [if_neg q]
        cases σ[v]? <;> rfl
    · rw [List.getElem?_set_ne e, ih]
      have : (n ∈ v :: vs) ↔ n ∈ vs := by simp [Ne.symm e]
      by_cases q : n ∈ vs
      · rw [if_pos q, if_pos (this.mpr q)]
      · rw [if_neg q, if_neg (fun z => q (this.mp z))]
/-- the names that the block forgets are known by nothing -/
theorem Rel.wipe {K : PySem.W.Frag} {M : En} {σ : St} {F H : Hp} {vs : List Nat} (R : Rel K S M Γ σ F H) (hu : ∀ n ∈ vs, Γ[n]? = some .un) : Rel K S M Γ (L2.wipe σ vs) F H := by
  have at_ : ∀ (n : Nat) (s : Sl), Γ[n]? = some s → s ≠ .un → (L2.wipe σ vs)[n]? = σ[n]? := fun n s h ne => by
    rw [wipe_get, if_neg (fun z => by rw [hu n z] at h; exact ne (Option.some.inj h).symm)]
  refine ⟨R.f0, R.fh, R.keep, R.al, R.nw, by rw [wipe_length]; exact R.len, fun n s h => ?_, fun n k a hn hk => ?_, R.tb, R.mc⟩
  · cases s with
    | un => trivial
    | _ => rw [at_ n _ h (by intro z; cases z)]; exact R.sl n _ h
  · have up : ∀ n, OwAt Γ (L2.wipe σ vs) n a → OwAt Γ σ n a := fun n ⟨⟨s, g1, g2⟩, g3⟩ => ⟨⟨s, g1, g2⟩, by rw [← at_ n s g1 (by intro z; rw [z] at g2; cases g2)]; exact g3⟩
    exact R.ap n k a (up n hn) (up k hk)
/-- back from the block -/
theorem Rel.unblk {K : PySem.W.Frag} {M : En} {σ σ2 : St} {F H F' H' : Hp} {vs : List Nat} {Γ2 : Gm} (R : Rel K S M Γ σ F H) (hu : ∀ n ∈ vs, Γ[n]? = some .un) (R2 : Rel K S M Γ2 σ2 F' H') (h1 : ∀ n, n ∉ vs → Γ2[n]? = Γ[n]?) (h2 : ∀ n, n ∉ vs → σ2[n]? = σ[n]?) : Rel K S M Γ σ F' H' := by
  have nv : ∀ (n : Nat) (s : Sl), Γ[n]? = some s → s ≠ .un → n ∉ vs := fun n s h ne z => by rw [hu n z] at h; exact ne (Option.some.inj h).symm
  refine ⟨R2.f0, R2.fh, R2.keep, R2.al, R2.nw, R.len, fun n s h => ?_, fun n k a hn hk => ?_, R2.tb, R2.mc⟩
  · cases s with
    | un => trivial
    | _ =>
      have z := nv n _ h (by intro z; cases z)
      have := R2.sl n _ ((h1 n z).trans h)
      rw [h2 n z] at this
      exact this
  · have up : ∀ n, OwAt Γ σ n a → OwAt Γ2 σ2 n a := fun n ⟨⟨s, g1, g2⟩, g3⟩ => by
      have z := nv n s g1 (by intro z; rw [z] at g2; cases g2)
      exact ⟨⟨s, (h1 n z).trans g1, g2⟩, (h2 n z).trans g3⟩
    exact R2.ap n k a (up n hn) (up k hk)
theorem Ivb {K : PySem.W.Frag} {M : En} {σ σ2 : St} {F H : Hp} {vs : List Nat} {Γ2 : Gm} (R : Rel K S M Γ σ F H) (hu : ∀ n ∈ vs, Γ[n]? = some .un) (hv : ∀ n ∈ vs, ∀ I, Γ2[n]? ≠ some (.iv I)) (h1 : ∀ n, n ∉ vs → Γ2[n]? = Γ[n]?) (h2 : ∀ n, n ∉ vs → σ2[n]? = σ[n]?) {b : Addr} (h : IvAt Γ2 σ2 b) : IvAt Γ σ b := by
  obtain ⟨n, I, g1, g2⟩ := h
  have z : n ∉ vs := fun z => hv n z I g1
  exact ⟨n, I, (h1 n z).symm.trans g1, (h2 n z).symm.trans g2⟩
/-- a list that no name holds is changed -/
theorem Rel.loose {K : PySem.W.Frag} {M : En} {σ : St} {F H : Hp} {a : Addr} {vs us : List V} (R : Rel K S M Γ σ F H) (h1 : H a = some (.lst vs)) (h2 : F a = none) (h3 : M.H0 a = none) (hn : ∀ i, ¬ OwAt Γ σ i a) : Rel K S M Γ σ F (upd H a (.lst us)) := by
  have nF : ∀ b o, F b = some o → b ≠ a := fun b o e => ne_of_none e h2
  refine ⟨R.f0, fun b o e => by rw [upd_ne (nF b o e)]; exact R.fh b o e, fun b o e m n => ?_, fun b e => ?_, R.nw, R.len, fun j s h => ?_, R.ap, ?_, fun p hp => ?_⟩
  · rw [upd_ne (ne_of_none e h3)]
    exact R.keep b o e m n
  · by_cases q : b = a
    · subst q
      exact absurd h3 e
    · rw [upd_ne q]
      exact R.al b e
  · have z := R.sl j s h
    have ne : ∀ b, s.own = true → σ[j]? = some (some (.ref b)) → b ≠ a := fun b ho hb z => hn j ⟨⟨_, h, ho⟩, by rw [← z]; exact hb⟩
    cases s with
    | un => trivial
    | va d => exact z
    | rd l => exact z
    | ow l =>
      obtain ⟨b, us, e, g⟩ := z
      exact ⟨b, us, e, by rw [upd_ne (ne b rfl (join_some.mp e))]; exact g.1, g.2⟩
    | od l =>
      obtain ⟨b, us, e, g⟩ := z
      exact ⟨b, us, e, by rw [upd_ne (ne b rfl (join_some.mp e))]; exact g.1, g.2⟩
    | iv I =>
      obtain ⟨b, us, l, e, g⟩ := z
      exact ⟨b, us, l, e, by rw [upd_ne (ne b rfl (join_some.mp e))]; exact g.1, g.2⟩
    | oz Z l =>
      obtain ⟨b, us, e, g⟩ := z
      exact ⟨b, us, e, by rw [upd_ne (ne b rfl (join_some.mp e))]; exact g.1, g.2⟩
  · exact tabs_upd R.tb (fun ps z => by rw [h1] at z; cases z) (fun q z => by rw [h1] at z; cases z)
  · obtain ⟨g0, us, l, g1, g2⟩ := R.mc p hp
    have np : p.1 ≠ a := fun z => g0 (by rw [z]; exact h3)
    exact ⟨g0, us, l, by rw [upd_ne np]; exact g1, g2⟩
/-- what a comprehension's list is behind some turns -/
structure Lc (K : PySem.W.Frag) (S : Su) (M : En) (Γ : Gm) (σ : St) (F1 H1 : Hp) (A : Addr) (acc : List D) (F H : Hp) : Prop where
  rel : Rel K S M Γ σ F H
  xt : Xt Γ σ F1 H1 F H
  sz : SzOk H
  at_ : ∃ vs, H A = some (.lst vs) ∧ RpA F vs acc
  nf : F A = none
/-- the tests of a comprehension -/
structure Tl (X : Cx) (S : Su) (Γ : Gm) (ifs : List Expr) (m : W Bool) : Prop where
  ex : ∃ t : TT, PTs X ifs t ∧ ∀ (N : En) (σ : St) (F H : Hp) (Q : Bool → Hp → Prop) (φ : Bool → Prop), Rel X.K S N Γ σ F H → SzOk H → m φ →
    (∀ b F' H', φ b → Rel X.K S N Γ σ F' H' → Xt Γ σ F H F' H' → SzOk H' → Q b H') → t σ H Q
theorem tl_nil : Tl X S Γ [] (W.pure true) := ⟨_, pts_nil, fun M σ F H Q φ R z hm q => q true F H hm R Xt.refl z⟩
theorem tl_one {c : Expr} {m : W Bool} (h : Tb X S Γ c m) : Tl X S Γ [c] m := by
  obtain ⟨t, p, k⟩ := h.ex
  exact ⟨t, pts_one p, k⟩
theorem szok_upd {H : Hp} {a : Addr} {vs : List V} (z : SzOk H) (h : vs.length ≤ sizeLine) : SzOk (upd H a (.lst vs)) := by
  refine ⟨fun b us e => ?_, fun b us e => ?_, fun b us e => ?_⟩
  all_goals
    by_cases q : b = a
    · subst q
      rw [upd_same] at e
      first
        | (cases e; exact h)
        | cases e
    · rw [upd_ne q] at e
      first
        | exact z.1 b us e
        | exact z.2.1 b us e
        | exact z.2.2 b us e
/-- the parts of [elt for tg in iter if ..] and their readings -/
structure Lq (X : Cx) (S : Su) (Γ : Gm) (elt tg iter : Expr) (ifs : List Expr) (scope : Scope) (own : List (Str × Nat)) (m : W (List D)) : Prop where
  ex : ∃ (wi : TI) (g : TG) (tt : TT) (te : TE), PI X tg iter wi ∧ BlkOk X.N X.env.scope scope own ∧
    (∀ (s : Shared) (H : Hp) (C : Addr) (cl : List (Str × Addr)) (fp : List Addr), PG (X.blk s H scope (compEnvC scope cl C X.env) fp) tg g) ∧
    (∀ (s : Shared) (H : Hp) (C : Addr) (cl : List (Str × Addr)) (fp : List Addr), PTs (X.blk s H scope (compEnvC scope cl C X.env) fp) ifs tt) ∧
    (∀ (s : Shared) (H : Hp) (C : Addr) (cl : List (Str × Addr)) (fp : List Addr), PE (X.blk s H scope (compEnvC scope cl C X.env) fp) elt te) ∧
    ∀ (N : En) (σ : St) (F H : Hp) (Q : VK) (φ : List D → Prop), Rel X.K S N Γ σ F H → SzOk H → m φ →
      (∀ a vs l F' H', φ l → Rel X.K S N Γ σ F' H' → Xt Γ σ F H F' H' → H' a = some (.lst vs) → F' a = none → H a = none → RpA F' vs l → Q (.ref a) H') → tLc wi g tt te (own.map (·.2)) σ H Q
theorem lq_comp {elt tg iter : Expr} {ifs : List Expr} {scope : Scope} {own : List (Str × Nat)} {is : List Nat} {ms : D → W α} {env : Gm → α → Gm} {mi : W (List D)} {mc : α → W Bool} {me : α → W D} (C : Cok X sc N Vs O G) (hi : Iv X S Γ tg iter mi) (ok : blkC N sc scope own = true) (hu : ∀ n ∈ own.map (·.2), Γ[n]? = some .un)
    (ht : ∀ X', Blk X scope X' → Tg X' S tg is ms env) (his : ∀ n ∈ is, n ∈ own.map (·.2)) (hiv : ∀ a n I, n ∈ own.map (·.2) → (env Γ a)[n]? ≠ some (.iv I)) (hc : ∀ X', Blk X scope X' → ∀ a, Tl X' S (env Γ a) ifs (mc a)) (he : ∀ X', Blk X scope X' → ∀ a, Ev X' S (env Γ a) elt (me a)) :
    Lq X S Γ elt tg iter ifs scope own (W.bind mi fun ds => W.filt2 ms mc me ds) := by
  obtain ⟨wi, pi, ki⟩ := hi.ex
  have okX : BlkOk X.N X.env.scope scope own := by
    have b := blkOk_by ok
    rw [C.hN]
    refine ⟨b.kind, b.uniq, b.ix, fun y hy e => ?_, b.own⟩
    rcases b.free y hy e with q | q
    · rcases C.hsc _ _ q with z | ⟨z, _⟩
      · exact .inl z
      · cases z
    · rcases C.hsc _ _ q with z | ⟨_, z⟩
      · exact .inr z
      · exact .inl z
  have fre : ∀ a n, n ∉ own.map (·.2) → ∀ (s : Shared) (H : Hp) (A : Addr) (cl : List (Str × Addr)) (fp : List Addr), (env Γ a)[n]? = Γ[n]? := fun a n hn s H A cl fp => (ht _ ⟨s, H, A, cl, fp, rfl⟩).fr Γ a n fun z => hn (his n z)
  refine ⟨wi, (fun v σ H Q => ∃ M F d φ, Rel X.K S M Γ σ F H ∧ Rp F v d ∧ ms d φ ∧ ∀ x σ', φ x → Rel X.K S M (env Γ x) σ' F H → (∀ n, n ∉ is → σ'[n]? = σ[n]?) → σ'.length = σ.length → (∀ n, n ∉ own.map (·.2) → (env Γ x)[n]? = Γ[n]?) → Q σ' H),
    (fun σ H Q => ∃ M F a φ, Rel X.K S M (env Γ a) σ F H ∧ mc a φ ∧ ∀ b F' H', φ b → Rel X.K S M (env Γ a) σ F' H' → Xt (env Γ a) σ F H F' H' → SzOk H' → Q b H'),
    (fun σ H Q => ∃ M F a φ, Rel X.K S M (env Γ a) σ F H ∧ me a φ ∧ ∀ v d F' H', φ d → Rel X.K S M (env Γ a) σ F' H' → Xt (env Γ a) σ F H F' H' → SzOk H' → Rp F' v d → Q v H'),
    pi, okX, fun s H A cl fp => ?_, fun s H A cl fp => ?_, fun s H A cl fp => ?_, fun M σ F H Q φ R z hm q => ?_⟩
  · obtain ⟨⟨g, pg, kg⟩, fr, ln⟩ := ht _ ⟨s, H, A, cl, fp, rfl⟩
    refine ⟨fun pins s' σ H' v u Q I r ⟨M, F, d, φ, R, rd, hd, k⟩ => pg.run pins s' σ H' v u Q I r (kg M Γ σ F H' v d φ Q R rd hd fun x σ' hx R' f1 l1 => k x σ' hx R' f1 l1 fun n hn => fr Γ x n fun z => hn (his n z))⟩
  · refine ⟨fun pins s' σ H' Q I ⟨M, F, a, φ, R, ha, k⟩ => ?_⟩
    obtain ⟨t, pt, kt⟩ := (hc _ ⟨s, H, A, cl, fp, rfl⟩ a).ex
    exact pt.run pins s' σ H' Q I (kt M σ F H' Q φ R (Inv.sz I) ha k)
  · refine ⟨fun pins s' σ H' Q I ⟨M, F, a, φ, R, ha, k⟩ => ?_⟩
    obtain ⟨t, pt, kt⟩ := (he _ ⟨s, H, A, cl, fp, rfl⟩ a).ex
    exact pt.run pins s' σ H' Q I (kt M σ F H' Q φ R (Inv.sz I) ha k)
  · refine ki M σ F H _ _ R z hm fun ds J F1 H1 hds R1 x1 z1 w A nA => ?_
    have nF1 : F1 A = none := R1.fh.free nA
    have nIv : ∀ {σ'} {Γ2 : Gm}, (∀ b, IvAt Γ2 σ' b → IvAt Γ σ b) → ¬ IvAt Γ2 σ' A := fun h z => by
      obtain ⟨n, I, g1, g2⟩ := h A z
      obtain ⟨_, _, _, e, g, _⟩ := R1.iv g1
      rw [g2] at e
      cases e
      rw [g] at nA
      cases nA
    refine ⟨fun i n H' => n = ds.length - i ∧ i ≤ ds.length ∧ ∃ F' acc, Lc X.K S ⟨F1, M.H0⟩ Γ σ F1 H1 A acc F' H' ∧ acc.length ≤ i ∧ W.filt2 ms mc me (ds.drop i) (fun r => φ (acc ++ r)), ⟨ds.length, rfl, Nat.zero_le _, F1, [], ⟨(R1.new nA).base, Xt.new nA, szok_upd z1 (Nat.zero_le _), ⟨[], upd_same, .nil⟩, nF1⟩, Nat.le_refl _, hds⟩, ?_⟩
    rintro i n H' ⟨rfl, hi, F', acc, lc, la, hl⟩
    obtain ⟨vs, eA, rA⟩ := lc.at_
    by_cases hlt : i < ds.length
    · have hdr : ds.drop i = ds[i] :: ds.drop (i + 1) := List.drop_eq_getElem_cons hlt
      rw [hdr] at hl
      refine .inr ⟨w.go i H' hlt (lc.rel.f0.trans lc.rel.fh), fun H2 => ∃ F2 acc, Lc X.K S ⟨F1, M.H0⟩ Γ σ F1 H1 A acc F2 H2 ∧ acc.length ≤ i + 1 ∧ W.filt2 ms mc me (ds.drop (i + 1)) (fun r => φ (acc ++ r)), fun H2 h => ⟨ds.length - (i + 1), by omega, rfl, hlt, h⟩, fun x H2 y => ?_⟩
      obtain ⟨d, F2, hd, rd, st⟩ := w.yld i H' x H2 F' hlt lc.rel.f0 lc.rel.fh y
      have ed : ds[i] = d := by
        rw [List.getElem?_eq_getElem hlt] at hd
        exact Option.some.inj hd
      rw [ed] at hl
      obtain ⟨R2, x2⟩ := lc.rel.item st
      have eA2 : H2 A = some (.lst vs) := x2.kp _ _ eA (fun _ z => by cases z) (nIv fun b h => h)
      refine ⟨_, F2, d, _, R2.wipe hu, rd, hl, fun a σ3 ha R3 fr3 ln3 fe3 => ?_⟩
      have f3 : ∀ n, n ∉ own.map (·.2) → σ3[n]? = σ[n]? := fun n hn => by
        rw [fr3 n fun z => hn (his n z), wipe_get, if_neg hn]
      have bk : ∀ {b}, IvAt (env Γ a) σ3 b → IvAt Γ σ b := fun h => Ivb (vs := own.map (·.2)) R1 hu (fun n hn I => hiv a n I hn) fe3 f3 h
      have lift : ∀ {Fa Ha Fb Hb}, Xt (env Γ a) σ3 Fa Ha Fb Hb → Xt Γ σ Fa Ha Fb Hb := fun x => ⟨x.sf, fun b o h n m => x.kp b o h n fun z => m (bk z), x.al, x.nw⟩
      refine ⟨List.ext_getElem? fun n => ?_, _, F2, a, _, R3, ha, fun b F4 H4 hb R4 x4 z4 => ?_⟩
      · rw [wipe_get, wipe_get]
        by_cases hn : n ∈ own.map (·.2)
        · rw [if_pos hn, if_pos hn]
          have l3 : σ3.length = σ.length := by rw [ln3, wipe_length]
          by_cases q : n < σ.length
          · rw [List.getElem?_eq_getElem q, List.getElem?_eq_getElem (by omega)]
            rfl
          · rw [List.getElem?_eq_none (by omega), List.getElem?_eq_none (by omega)]
        · rw [if_neg hn, if_neg hn, f3 n hn]
      · have eA4 : H4 A = some (.lst vs) := (lift x4).kp _ _ eA2 (fun _ z => by cases z) (nIv fun b h => h)
        have nF2 : F2 A = none := by
          by_cases q : F2 A = none
          · exact q
          · have := x2.nw A q lc.nf
            rw [eA] at this
            cases this
        have nF4 : F4 A = none := by
          by_cases q : F4 A = none
          · exact q
          · have := x4.nw A q nF2
            rw [eA2] at this
            cases this
        cases b with
        | false => exact ⟨F4, acc, ⟨R1.base.unblk hu R4 fe3 f3, (lc.xt.trans x2).trans (lift x4), z4, ⟨vs, eA4, (rA.mono x2.sf).mono x4.sf⟩, nF4⟩, by omega, hb⟩
        | true =>
          show ∃ _, _
          refine ⟨_, F4, a, _, R4, hb, fun v d' F5 H5 hd5 R5 x5 z5 r5 => ?_⟩
          have eA5 : H5 A = some (.lst vs) := (lift x5).kp _ _ eA4 (fun _ z => by cases z) (nIv fun b h => h)
          have nF5 : F5 A = none := by
            by_cases q : F5 A = none
            · exact q
            · have := x5.nw A q nF4
              rw [eA4] at this
              cases this
          have rA5 := ((rA.mono x2.sf).mono x4.sf).mono x5.sf
          have Rb := R1.base.unblk hu R5 fe3 f3
          have xb := ((lc.xt.trans x2).trans (lift x4)).trans (lift x5)
          have hz : vs.length < sizeLine := by
            have h1 := rA.length
            have h2 := w.sz
            omega
          refine ⟨vs, eA5, hz, F5, acc ++ [d'], ⟨?_, ?_, szok_upd z5 (by rw [List.length_append]; exact hz), ⟨vs ++ [v], upd_same, rA5.append (RpA.one r5)⟩, nF5⟩, by rw [List.length_append]; exact Nat.succ_le_succ la, ?_⟩
          · exact Rb.loose eA5 nF5 (show M.H0 A = none from new_base R1 nA) (new_apart R1 nA)
          · refine ⟨xb.sf, fun b o h n m => ?_, fun b h => ?_, xb.nw⟩
            · rw [upd_ne (ne_of_none h nA)]
              exact xb.kp b o h n m
            · by_cases q : b = A
              · rw [q, upd_same]
                simp
              · rw [upd_ne q]
                exact xb.al b h
          · have e2 : (fun r => φ (acc ++ [d'] ++ r)) = fun r => φ (acc ++ d' :: r) := by
              funext r
              rw [List.append_assoc]
              rfl
            rw [e2]
            exact hd5
    · have e : i = ds.length := by omega
      subst e
      rw [List.drop_length] at hl
      have hl : φ (acc ++ []) := hl
      rw [List.append_nil] at hl
      have n0 : H A = none := by
        by_cases e : H A = none
        · exact e
        · exact absurd nA (x1.al A e)
      exact .inl ⟨w.stop H' (lc.rel.f0.trans lc.rel.fh), q A vs acc F' H' hl (R1.unbase lc.rel) (x1.trans lc.xt) eA lc.nf n0 rA⟩
theorem Lq.map {elt tg iter : Expr} {scope : Scope} {own : List (Str × Nat)} {mi : W (List D)} {ms : D → W α} {me : α → W D} (h : Lq X S Γ elt tg iter [] scope own (W.bind mi fun ds => W.filt2 ms (fun _ => W.pure true) me ds)) : Lq X S Γ elt tg iter [] scope own (W.bind mi fun ds => W.mapD ms me ds) := by
  have e : (fun ds => W.filt2 ms (fun _ => W.pure true) me ds) = fun ds => W.mapD ms me ds := funext fun ds => W.filt_true ms me ds
  rw [e] at h
  exact h
/-- [elt for tg in iter] -/
theorem lq_map {elt tg iter : Expr} {scope : Scope} {own : List (Str × Nat)} {is : List Nat} {ms : D → W α} {env : Gm → α → Gm} {mi : W (List D)} {me : α → W D} (C : Cok X sc N Vs O G) (hi : Iv X S Γ tg iter mi) (ok : blkC N sc scope own = true) (hu : ∀ n ∈ own.map (·.2), Γ[n]? = some .un)
    (ht : ∀ X', Blk X scope X' → Tg X' S tg is ms env) (his : ∀ n ∈ is, n ∈ own.map (·.2)) (hiv : ∀ a n I, n ∈ own.map (·.2) → (env Γ a)[n]? ≠ some (.iv I)) (he : ∀ X', Blk X scope X' → ∀ a, Ev X' S (env Γ a) elt (me a)) :
    Lq X S Γ elt tg iter [] scope own (W.bind mi fun ds => W.mapD ms me ds) := Lq.map (lq_comp (mc := fun _ => W.pure true) C hi ok hu ht his hiv (fun _ _ _ => tl_nil) he)
theorem eo_lq {elt tg iter : Expr} {ifs : List Expr} {scope : Scope} {own : List (Str × Nat)} {m : W (List D)} (C : Cok X sc N Vs O G) (h : Lq X S Γ elt tg iter ifs scope own m) (hs : ∀ x, foldedSetIterable iter X.env x = pure x) : Eo X S Γ (.ListComp elt [⟨tg, iter, ifs, 0⟩] scope pos) m := by
  obtain ⟨wi, g, tt, te, pi, ok, hg, ht, he, k⟩ := h.ex
  exact Eo.mk' (pe_lc C.calm (by rw [C.hN]; exact C.nd) pi ok hg ht he hs) fun M σ F H Q φ R z hm q => k M σ F H Q φ R z hm q
/-- y = [..] on one line: the name is stored from within -/
theorem sv_setc {elt tg iter : Expr} {ifs : List Expr} {scope : Scope} {own : List (Str × Nat)} {m : W (List D)} {cpos : Pos} (C : Cok X sc N Vs O G) (hi : N[i]? = some x) (hl : sc.names.lookup x = some .local)
    (hp : (p2.line == cpos.line) = true) (ha : (scope.names.any fun (n, k) => n == x && (k == .local || k == .cell)) = false)
    (h : Lq X S Γ elt tg iter ifs scope own m) (hs : ∀ x, foldedSetIterable iter X.env x = pure x) : Sv X S (.Assign [.Name x p2] (.ListComp elt [⟨tg, iter, ifs, 0⟩] scope cpos) pos) Γ (W.nxt m) (fun l => Γ.set i (.ow l)) L := by
  obtain ⟨wi, g, tt, te, pi, ok, hg, ht, he, k⟩ := h.ex
  have hlX : X.env.scope.names.lookup x = some .local := by
    rcases C.hsc _ _ hl with z | ⟨z, _⟩
    · exact z
    · cases z
  refine ⟨_, szPS (ps_setLc (i := i) C.calm (by rw [C.hN]; exact C.nd) (by rw [C.hN]; exact hi) hlX (sw_true C.kd hlX hp ha) pi ok hg ht he hs), fun M σ F H Z φ R z hm h1 _ _ _ _ _ => k M σ F H _ _ R z hm fun a vs l F1 H1 hm1 R1 x1 g1 g2 g3 r1 z1 => ?_⟩
  exact h1 l _ F1 H1 hm1 (R1.seto g1 g2 (new_base R g3) r1 (new_apart R g3)) z1
end

/-! ### a def -/
section
variable {P : Program} {w : World} {K : PySem.W.Frag} {mg : Str → Option Value} {base : Heap}
/-- a def's run -/
structure Run (P : Program) (w : World) (K : PySem.W.Frag) (mg : Str → Option Value) (base : Heap) (N : List Str) (sc : Scope) (k : Nat) (X : Cx) : Prop where
  prog : X.prog = P
  w : X.w = w
  K : X.K = K
  mg : X.mg = mg
  base : X.base = base
  N : X.N = N
  sc : X.env.scope = sc
  room : Room k X.A
  calm : X.calm = true
  po : PassesOwn (model X.prog X.w) X.A X.env X.xe
  fn : ∀ x, X.fn x = true
theorem Run.of {CX : CXT} {N : List Str} {qual : Str} {sc : Scope} {f : Addr} {cdv : Value} {A : Around} {outer : List Env} {s : Shared} {H : Hp} {E : XK} {k : Nat} (hr : Room k (A.deeper (envOfC qual sc s.heap.objs.size f cdv))) :
    Run P w K mg base N sc k (cxOf CX P w K mg base N qual sc f cdv A outer s H E).nox := ⟨rfl, rfl, rfl, rfl, rfl, rfl, rfl, hr, rfl, PassesOwn.never, fun _ => rfl⟩
theorem Run.cok {N : List Str} {sc : Scope} {k : Nat} {X : Cx} (R : Run P w K mg base N sc k X) {V O : List Nat} {G : List Str} (h : chkSc true N V O G sc = true) : Cok X sc N V O G :=
  Cok.of h (by rw [R.sc]; exact ScR.refl sc) R.N (fun _ x _ => R.fn x) (fun z => by rw [R.sc]; exact z) R.calm R.po (by have := R.room.un; omega)
theorem Run.cal {N : List Str} {sc : Scope} {k j : Nat} {X : Cx} (R : Run P w K mg base N sc k X) {f : Addr} {fd : FuncData} {ps : List Str} {sp : Sp} {x : Str} (F : FnOk P w K mg base CX0 j f fd ps sp) (h : j ≤ k) (hm : mg x = some (.ref f)) (hk : PySem.W.keepIn K (.ref f) = true) (hb : Binds K fd ps []) : Cal X x sp := by
  refine ⟨j, f, fd, ps, ?_, R.room.mono h, ?_, ?_, ?_⟩
  · rw [R.prog, R.w, R.K, R.mg, R.base]
    exact F
  · rw [R.mg]
    exact hm
  · rw [R.K]
    exact hk
  · rw [R.K]
    exact hb
theorem Run.no {N : List Str} {sc : Scope} {k : Nat} {X : Cx} (R : Run P w K mg base N sc k X) {x : Str} (h : mg x = none) : X.mg x = none := by
  rw [R.mg]
  exact h
/-- how a def's body ends, as data -/
def Out.val : Out Unit Empty → W D
  | .nx _ => W.pure .none
  | .rt d => W.pure d
  | .ro l => W.pure (.list l)
  | .bk b => nomatch b
  | .ct b => nomatch b
def Out.lst : Out Unit Empty → W (List D)
  | .ro l => W.pure l
  | _ => W.fail
theorem start_rel {T : List (Addr × Str)} {N : List Str} {vs : List V} {ds : List D} {F H : Hp} (n : Nat) (hn : N.length = vs.length + n) (fh : Same F H) (r : RpA F vs ds) (t : LamX.Tabs T H) :
    Rel K ⟨none, T⟩ ⟨F, H⟩ (ds.map .va ++ List.replicate n .un) (L2.start N vs) F H := by
  have hl := r.length
  have noown : ∀ (i : Nat) (s : Sl), (ds.map Sl.va ++ List.replicate n Sl.un)[i]? = some s → s.own = false := fun i s h => by
    have := List.mem_of_getElem? h
    rcases List.mem_append.mp this with z | z
    · obtain ⟨d, _, rfl⟩ := List.mem_map.mp z
      rfl
    · rw [(List.mem_replicate.mp z).2]
      rfl
  refine ⟨Same.refl _, fh, fun _ _ h _ _ => h, fun _ h => h, fun b h e => absurd e h, ?_, fun i s h => ?_, fun i j a hi hj => ?_, t, fun p hp => nomatch hp⟩
  · unfold L2.start
    rw [List.length_append, List.length_map, List.length_replicate, List.length_append, List.length_map, List.length_replicate]
    omega
  · by_cases q : i < ds.length
    · rw [List.getElem?_append_left (by rw [List.length_map]; exact q), List.getElem?_map, List.getElem?_eq_getElem q] at h
      cases h
      obtain ⟨v, hv, rv⟩ := r.get (List.getElem?_eq_getElem q)
      refine ⟨v, ?_, rv⟩
      unfold L2.start
      rw [List.getElem?_append_left (by rw [List.length_map]; omega), List.getElem?_map, hv]
      rfl
    · rw [List.getElem?_append_right (by rw [List.length_map]; omega)] at h
      rw [(List.mem_replicate.mp (List.mem_of_getElem? h)).2]
      trivial
  · obtain ⟨⟨s, h1, h2⟩, _⟩ := hi
    rw [noown i s h1] at h2
    cases h2
/-- data in, data out -/
theorem fn_w {x qual : Str} {st : Stmt} {f : Addr} {fd : FuncData} {N ps : List Str} {k : Nat} {T : List (Addr × Str)} {m : List D → W D} (F : Fun K x qual st f fd) (Sc : FnScope N ps (defScope st)) (n : Nat) (hn : N.length = ps.length + n) (hm : ∀ ds φ, m ds φ → ds.length = ps.length)
    (hb : ∀ X, Run P w K mg base N (defScope st) k X → ∀ ds, ds.length = ps.length → ∃ mb : W (Out Unit Empty), (∀ φ, m ds φ → mb fun o => Out.val o φ) ∧ Bv X ⟨none, T⟩ (defBody st) (ds.map .va ++ List.replicate n .un) mb (fun _ => List.replicate N.length .un) (fun b => nomatch b)) :
    FnOk P w K mg base CX0 (k + 1) f fd ps (spW T m) := by
  refine F.ok Sc (fun vs H Q E ⟨F0, ds, φ, _, r, _, hd, _⟩ => by rw [r.length]; exact hm ds φ hd) fun cdv A outer s H vs Q E hr ⟨F0, ds, φ, fh, r, t, hd, q⟩ => ?_
  obtain ⟨mb, h1, hB⟩ := hb _ (Run.of hr) ds (hm ds φ hd)
  obtain ⟨tb, pb, kb⟩ := hB.ex
  refine ⟨_, szPSs pb, fun z => kb ⟨F0, H⟩ _ F0 H _ _ (start_rel (T := T) (N := N) n (by rw [r.length, hm ds φ hd]; exact hn) fh r t) z (h1 φ hd) ?_ ?_ ?_ (fun b => nomatch b) (fun b => nomatch b)⟩
  · exact fun u σ' F' H' hq R' z' _ => q _ _ F' H' hq ⟨R'.f0, fun b o e n _ => R'.keep b o e (fun p hp => nomatch hp) n, R'.al, R'.nw⟩ R'.fh R'.tb .non
  · exact fun d v F' H' hq R' rv => q _ _ F' H' hq ⟨R'.f0, fun b o e n _ => R'.keep b o e (fun p hp => nomatch hp) n, R'.al, R'.nw⟩ R'.fh R'.tb rv
  · intro l a us F' H' hq R' g1 g2 g3 rv
    have sm : Same F' (upd F' a (.lst us)) := fun b o e => by
      rw [upd_ne (ne_of_none e g2)]
      exact e
    refine q _ _ (upd F' a (.lst us)) H' hq ⟨R'.f0.trans sm, fun b o e n _ => R'.keep b o e (fun p hp => nomatch hp) n, R'.al, fun b e hb => ?_⟩ (fun b o e => ?_) R'.tb (.lst upd_same (rv.mono sm))
    · by_cases z : b = a
      · rw [z]
        exact g3
      · rw [upd_ne z] at e
        exact R'.nw b e hb
    · by_cases z : b = a
      · subst z
        rw [upd_same] at e
        rw [← e]
        exact g1
      · rw [upd_ne z] at e
        exact R'.fh b o e
/-- data in, a new list out -/
theorem fn_o {x qual : Str} {st : Stmt} {f : Addr} {fd : FuncData} {N ps : List Str} {k : Nat} {T : List (Addr × Str)} {m : List D → W (List D)} (F : Fun K x qual st f fd) (Sc : FnScope N ps (defScope st)) (n : Nat) (hn : N.length = ps.length + n) (hm : ∀ ds φ, m ds φ → ds.length = ps.length)
    (hb : ∀ X, Run P w K mg base N (defScope st) k X → ∀ ds, ds.length = ps.length → ∃ mb : W (Out Unit Empty), (∀ φ, m ds φ → mb fun o => Out.lst o φ) ∧ Bv X ⟨none, T⟩ (defBody st) (ds.map .va ++ List.replicate n .un) mb (fun _ => List.replicate N.length .un) (fun b => nomatch b)) :
    FnOk P w K mg base CX0 (k + 1) f fd ps (spO T m) := by
  refine F.ok Sc (fun vs H Q E ⟨F0, ds, φ, _, r, _, hd, _⟩ => by rw [r.length]; exact hm ds φ hd) fun cdv A outer s H vs Q E hr ⟨F0, ds, φ, fh, r, t, hd, q⟩ => ?_
  obtain ⟨mb, h1, hB⟩ := hb _ (Run.of hr) ds (hm ds φ hd)
  obtain ⟨tb, pb, kb⟩ := hB.ex
  refine ⟨_, szPSs pb, fun z => kb ⟨F0, H⟩ _ F0 H _ _ (start_rel (T := T) (N := N) n (by rw [r.length, hm ds φ hd]; exact hn) fh r t) z (h1 φ hd) ?_ ?_ ?_ (fun b => nomatch b) (fun b => nomatch b)⟩
  · exact fun u σ' F' H' hq R' z' _ => hq.elim
  · exact fun d v F' H' hq R' rv => hq.elim
  · exact fun l a us F' H' hq R' g1 g2 g3 rv => q _ _ _ F' H' hq ⟨R'.f0, fun b o e n _ => R'.keep b o e (fun p hp => nomatch hp) n, R'.al, R'.nw⟩ R'.fh R'.tb g1 g2 g3 rv
end
end Dv
end
section
/-! Dv8: further rules: joins of lists, the length of a list that is read only, dead ifs; facts of built-in names. -/
namespace Dv
open PySem PySem.Spec L2
open PyProof.Rows hiding St

namespace P
def addI : D → D → W D
  | .int i, .int j => W.pure (.int (i + j))
  | _, _ => W.fail
def catL : D → D → W (List D)
  | .list a, .list b => W.need (a.length + b.length ≤ sizeLine) (W.pure (a ++ b))
  | _, _ => W.fail
end P
namespace W
/-- a run that never goes on -/
def stop {τ β : Type} (m : W (Out Empty β)) : W (Out τ β) := bind m fun o => match o with
  | .nx e => nomatch e
  | .rt d => pure (.rt d)
  | .ro l => pure (.ro l)
  | .bk b => pure (.bk b)
  | .ct b => pure (.ct b)
end W
/-- tests on names that reduce -/
def unAt (Γ : Gm) (vs : List Nat) : Bool := vs.all fun n => match Γ[n]? with
  | some .un => true
  | _ => false
def noIv (Γ : Gm) (vs : List Nat) : Bool := vs.all fun n => match Γ[n]? with
  | some (.iv _) => false
  | _ => true
theorem unAt_of {Γ : Gm} {vs : List Nat} (h : unAt Γ vs = true) : ∀ n ∈ vs, Γ[n]? = some .un := fun n hn => by
  have := List.all_eq_true.mp h n hn
  split at this
  · assumption
  · cases this
theorem noIv_of {Γ : Gm} {vs : List Nat} (h : noIv Γ vs = true) : ∀ n I, n ∈ vs → Γ[n]? ≠ some (.iv I) := fun n I hn e => by
  have := List.all_eq_true.mp h n hn
  rw [e] at this
  cases this
theorem sub_of {is vs : List Nat} (h : (is.all fun n => vs.contains n) = true) : ∀ n ∈ is, n ∈ vs := fun n hn => List.contains_iff_mem.mp (List.all_eq_true.mp h n hn)
section
variable {X : Cx} {S : Su} {Γ : Gm} {sc : Scope} {N : List Str} {Vs O : List Nat} {G : List Str} {i j : Nat} {x : Str} {pos p2 p : Pos} {τ β α : Type} {L : β → Gm} {E : τ → Gm} {a b c e : Expr} {es : List Expr} {ma mb mc : W D} {mr : W (List D)} {sts : List Stmt}
theorem lqm {elt tg iter : Expr} {scope : Scope} {own : List (Str × Nat)} {is : List Nat} {ms : D → W α} {env : Gm → α → Gm} {mi : W (List D)} {me : α → W D} (C : Cok X sc N Vs O G) (hi : Iv X S Γ tg iter mi) (ok : blkC N sc scope own = true) (hu : unAt Γ (own.map (·.2)) = true)
    (ht : ∀ X', Blk X scope X' → Tg X' S tg is ms env) (his : (is.all fun n => (own.map (·.2)).contains n) = true) (hiv : ∀ a, noIv (env Γ a) (own.map (·.2)) = true) (he : ∀ X', Blk X scope X' → ∀ a, Ev X' S (env Γ a) elt (me a)) :
    Lq X S Γ elt tg iter [] scope own (W.bind mi fun ds => W.mapD ms me ds) := lq_map C hi ok (unAt_of hu) ht (sub_of his) (fun a => noIv_of (hiv a)) he
theorem lqf {elt tg iter cnd : Expr} {scope : Scope} {own : List (Str × Nat)} {is : List Nat} {ms : D → W α} {env : Gm → α → Gm} {mi : W (List D)} {mc : α → W Bool} {me : α → W D} (C : Cok X sc N Vs O G) (hi : Iv X S Γ tg iter mi) (ok : blkC N sc scope own = true) (hu : unAt Γ (own.map (·.2)) = true)
    (ht : ∀ X', Blk X scope X' → Tg X' S tg is ms env) (his : (is.all fun n => (own.map (·.2)).contains n) = true) (hiv : ∀ a, noIv (env Γ a) (own.map (·.2)) = true) (hc : ∀ X', Blk X scope X' → ∀ a, Tb X' S (env Γ a) cnd (mc a)) (he : ∀ X', Blk X scope X' → ∀ a, Ev X' S (env Γ a) elt (me a)) :
    Lq X S Γ elt tg iter [cnd] scope own (W.bind mi fun ds => W.filt2 ms mc me ds) := lq_comp C hi ok (unAt_of hu) ht (sub_of his) (fun a => noIv_of (hiv a)) (fun X' B a => tl_one (hc X' B a)) he
/-- a + b, two lists -/
theorem eo_cat (ha : Ev X S Γ a ma) (hb : Ev X S Γ b mb) : Eo X S Γ (.BinOp a .Add b pos) (W.b2 P.catL ma mb) := by
  obtain ⟨ta, pa, k⟩ := ha.ex
  obtain ⟨tb, pb, k2⟩ := hb.ex
  refine Eo.mk' (pe_op op_cat pa pb) fun M σ F H Q φ R z hm q => k M σ F H _ _ R z hm fun v d F1 H1 hm1 R1 x1 z1 r1 => ?_
  refine k2 M σ F1 H1 _ _ R1 z1 hm1 fun w e F2 H2 hm2 R2 x2 z2 r2 => ?_
  have hm2 : P.catL d e φ := hm2
  unfold P.catL at hm2
  split at hm2
  · obtain ⟨a, vs, rfl, h1, h2⟩ := r1.of_list
    obtain ⟨b, ws, rfl, g1, g2⟩ := r2.of_list
    refine ⟨a, b, vs, ws, rfl, rfl, R2.fh _ _ (x2.sf _ _ h1), R2.fh _ _ g1, by rw [h2.length, g2.length]; exact hm2.1, fun p np => ?_⟩
    have xx := x1.trans x2
    have n0 : H p = none := by
      by_cases e : H p = none
      · exact e
      · exact absurd np (xx.al p e)
    exact q p _ _ F2 _ hm2.2 (R2.new np) (xx.trans (Xt.new np)) upd_same (R2.fh.free np) n0 ((h2.mono x2.sf).append g2)
  · exact hm2.elim
/-- len of a list that is read only -/
theorem ev_lenr {l : List D} (C : Cok X sc N Vs O G) (hg : G[j]? = some ("len" : Str)) (hm : X.mg "len" = none) (hi : N[i]? = some x) (hv : Vs.contains i = true) (hl : Γ[i]? = some (.rd l)) : Ev X S Γ (.Call (.Name "len" p) [.Name x p2] [] pos) (W.pure (.int l.length)) := by
  have hx := C.dN x (List.mem_of_getElem? hi)
  have hy := C.dG _ (List.mem_of_getElem? hg)
  refine Ev.mk' (pe_callB call_len_seq (C.gl j _ hg) hm PySem.boot_len (pa_cons (pe_var (i := i) (by rw [C.hN]; exact hi) (C.vis i x hv hi) hx.1 hx.2) pa_nil (by rfl)) hy.2 hy.1 (by rfl) (by rfl)) fun M σ F H Q φ R z hm q => ?_
  obtain ⟨a, vs, e, h1, h2⟩ := R.rd hl
  exact ⟨_, e, a, vs, rfl, .inl (Same.seq R.fh h1), by rw [h2.length]; exact q _ _ F H hm R Xt.refl (.int _)⟩
/-- x += e, whole numbers -/
theorem sv_aug {d : D} (C : Cok X sc N Vs O G) (hi : N[i]? = some x) (hv : Vs.contains i = true) (ho : O.contains i = true) (hg : Γ[i]? = some (.va d)) (he : Eb X S Γ e ma) : Sv X S (.AugAssign (.Name x p2) .Add e pos) Γ (W.nxt (W.bind ma fun y => P.addI d y)) (fun d => Γ.set i (.va d)) L := by
  obtain ⟨t, pe, k⟩ := he.ex
  have hx := C.loc i x ho hi
  refine ⟨_, ps_aug (i := i) (by rw [C.hN]; exact C.nd) (by rw [C.hN]; exact hi) hx.1 pe ip_add hx.2, fun M σ F H Z φ R z hm h1 _ _ _ _ => ?_⟩
  obtain ⟨v, e0, r⟩ := R.va hg
  refine ⟨v, e0, k M σ F H _ _ R z hm fun w c F1 H1 hm1 R1 x1 z1 r1 => ?_⟩
  have hm1 : W.nxt (P.addI d c) φ := hm1
  cases d with
  | int n =>
    cases c with
    | int k => exact ⟨n, k, r.of_int, r1.of_int, h1 _ _ F1 H1 hm1 (R1.setv (.int _)) z1⟩
    | _ => exact hm1.elim
  | _ => cases c <;> exact hm1.elim
/-- if c: .. (which never goes on), then the rest -/
theorem bv_ifr {sa : List Stmt} {mc : W Bool} {m1 : W (Out Empty β)} {m2 : W (Out τ β)} (hc : Tb X S Γ c mc) (ha : Bv X S sa Γ m1 (fun e => nomatch e) L) (hb : Bv X S sts Γ m2 E L) : Bv X S (.If c sa [] pos :: sts) Γ (W.ite mc (W.stop m1) m2) E L := by
  obtain ⟨tc, pc, kc⟩ := hc.ex
  obtain ⟨ta, pa, ka⟩ := ha.ex
  obtain ⟨tb, pb, kb⟩ := hb.ex
  refine ⟨_, pss_cons (ps_if pc pa (szPSs pss_nil)) pb, fun M σ F H Z φ R z hm h1 h2 h3 h4 h5 => kc M σ F H _ _ R z hm fun k F1 H1 hm1 R1 x1 z1 => ?_⟩
  cases k with
  | true => exact ka M σ F1 H1 _ _ R1 z1 hm1 (fun t => nomatch t) h2 h3 h4 h5
  | false => exact fun _ _ => kb M σ F1 H1 Z φ R1 z1 hm1 h1 h2 h3 h4 h5
end
/-! ### the defs of a text -/
section
variable {P : Program} {w : World} {K : PySem.W.Frag} {mg : Str → Option Value} {base : Heap}
/-- a def that keeps its promise, where its name tells it -/
def Dfn (P : Program) (w : World) (K : PySem.W.Frag) (mg : Str → Option Value) (base : Heap) (k : Nat) (x : Str) (sp : Sp) : Prop :=
  ∃ (f : Addr) (fd : FuncData) (ps : List Str), FnOk P w K mg base CX0 k f fd ps sp ∧ mg x = some (.ref f) ∧ PySem.W.keepIn K (.ref f) = true ∧ Binds K fd ps []
/-- a def of the text as it stands behind the top -/
def Here (K : PySem.W.Frag) (mg : Str → Option Value) (x : Str) (st : Stmt) (ps : List Str) : Prop :=
  ∃ (f : Addr) (fd : FuncData), Fun K x x st f fd ∧ mg x = some (.ref f) ∧ Binds K fd ps []
theorem Run.d {N : List Str} {sc : Scope} {k j : Nat} {X : Cx} {x : Str} {sp : Sp} (R : Run P w K mg base N sc k X) (d : Dfn P w K mg base j x sp) (h : j ≤ k) : Cal X x sp := by
  obtain ⟨f, fd, ps, F, hm, hk, hb⟩ := d
  exact R.cal F h hm hk hb
theorem Dfn.mono {k j : Nat} {x : Str} {sp : Sp} (d : Dfn P w K mg base j x sp) (h : j ≤ k) : Dfn P w K mg base k x sp := by
  obtain ⟨f, fd, ps, F, r⟩ := d
  exact ⟨f, fd, ps, F.mono h, r⟩
theorem dfn_w {x : Str} {st : Stmt} {N ps : List Str} {k : Nat} {T : List (Addr × Str)} {m : List D → W D} (F : Here K mg x st ps) (Sc : FnScope N ps (defScope st)) (n : Nat) (hn : N.length = ps.length + n) (hm : ∀ ds φ, m ds φ → ds.length = ps.length)
    (hb : ∀ X, Run P w K mg base N (defScope st) k X → ∀ ds, ds.length = ps.length → ∃ mb : W (Out Unit Empty), (∀ φ, m ds φ → mb fun o => Out.val o φ) ∧ Bv X ⟨none, T⟩ (defBody st) (ds.map .va ++ List.replicate n .un) mb (fun _ => List.replicate N.length .un) (fun b => nomatch b)) :
    Dfn P w K mg base (k + 1) x (spW T m) := by
  obtain ⟨f, fd, F0, hm', hb'⟩ := F
  exact ⟨f, fd, ps, fn_w F0 Sc n hn hm hb, hm', F0.kp, hb'⟩
theorem dfn_o {x : Str} {st : Stmt} {N ps : List Str} {k : Nat} {T : List (Addr × Str)} {m : List D → W (List D)} (F : Here K mg x st ps) (Sc : FnScope N ps (defScope st)) (n : Nat) (hn : N.length = ps.length + n) (hm : ∀ ds φ, m ds φ → ds.length = ps.length)
    (hb : ∀ X, Run P w K mg base N (defScope st) k X → ∀ ds, ds.length = ps.length → ∃ mb : W (Out Unit Empty), (∀ φ, m ds φ → mb fun o => Out.lst o φ) ∧ Bv X ⟨none, T⟩ (defBody st) (ds.map .va ++ List.replicate n .un) mb (fun _ => List.replicate N.length .un) (fun b => nomatch b)) :
    Dfn P w K mg base (k + 1) x (spO T m) := by
  obtain ⟨f, fd, F0, hm', hb'⟩ := F
  exact ⟨f, fd, ps, fn_o F0 Sc n hn hm hb, hm', F0.kp, hb'⟩
end
theorem bb_all : bootBuiltins "all" = some (.builtin "all") := by first | exact PySem.boot_all | exact PyProof.Rows.boot_all | decide +kernel
theorem bb_any : bootBuiltins "any" = some (.builtin "any") := by first | exact PySem.boot_any | exact PyProof.Rows.boot_any | decide +kernel
theorem bb_sum : bootBuiltins "sum" = some (.builtin "sum") := by first | exact PySem.boot_sum | exact PyProof.Rows.boot_sum | decide +kernel
theorem bb_max : bootBuiltins "max" = some (.builtin "max") := by first | exact PySem.boot_max | exact PyProof.Rows.boot_max | decide +kernel
theorem bb_min : bootBuiltins "min" = some (.builtin "min") := by first | exact PySem.boot_min | exact PyProof.Rows.boot_min | decide +kernel
theorem bb_abs : bootBuiltins "abs" = some (.builtin "abs") := by first | exact PySem.boot_abs | exact PyProof.Rows.boot_abs | decide +kernel
theorem bb_repr : bootBuiltins "repr" = some (.builtin "repr") := by first | exact PySem.boot_repr | exact PyProof.Rows.boot_repr | decide +kernel
theorem bb_isinstance : bootBuiltins "isinstance" = some (.builtin "isinstance") := by first | exact PySem.boot_isinstance | exact PyProof.Rows.boot_isinstance | decide +kernel
theorem bb_sorted : bootBuiltins "sorted" = some (.builtin "sorted") := by first | exact PySem.boot_sorted | exact PyProof.Rows.boot_sorted | decide +kernel
theorem bb_int : bootBuiltins "int" = some (.type "int") := by first | exact PySem.boot_int | exact PyProof.Rows.boot_int | decide +kernel
theorem bb_bool : bootBuiltins "bool" = some (.type "bool") := by first | exact PySem.boot_bool | exact PyProof.Rows.boot_bool | decide +kernel
theorem bb_str : bootBuiltins "str" = some (.type "str") := by first | exact PySem.boot_str | exact PyProof.Rows.boot_str | decide +kernel
theorem bb_list : bootBuiltins "list" = some (.type "list") := by first | exact PySem.boot_list | exact PyProof.Rows.boot_list | decide +kernel
theorem bb_dict : bootBuiltins "dict" = some (.type "dict") := by first | exact PySem.boot_dict | exact PyProof.Rows.boot_dict | decide +kernel
theorem bb_set : bootBuiltins "set" = some (.type "set") := by first | exact PySem.boot_set | exact PyProof.Rows.boot_set | decide +kernel
theorem bb_tuple : bootBuiltins "tuple" = some (.type "tuple") := by first | exact PySem.boot_tuple | exact PyProof.Rows.boot_tuple | decide +kernel
end Dv
end
section
/-! Dv9: a cell under a word, the script, keywords, isinstance, repr. -/
namespace Dv
open PySem PySem.Spec L2
open PyProof.Rows hiding St

namespace P
def tyOf : D → String
  | .none => "NoneType"
  | .bool _ => "bool"
  | .int _ => "int"
  | .str _ => "str"
  | .list _ => "list"
  | .tuple _ => "tuple"
  | .dict _ => "dict"
def isTyS (T t : String) : Bool := t == T || (T == "int" && t == "bool")
def isTy (T : String) (d : D) : Bool := isTyS T (tyOf d)
/-- the text of data -/
def reprD (d : D) : W D := W.need ((match d with | .list _ => true | .tuple _ => true | _ => false) = true ∧ d.canLay0 = true ∧ d.showable = true ∧ d.hasDict = false ∧ d.depth ≤ 60 ∧ d.shown.length ≤ sizeLine) (W.pure (.str d.shown))
def repr1 : List D → W D
  | [d] => reprD d
  | _ => W.fail
end P
theorem kit_all (T : String) (h : T = "list" ∨ T = "tuple" ∨ T = "int" ∨ T = "bool" ∨ T = "str" ∨ T = "dict") (d : D) : kitB (P.tyOf d) T = some (P.isTy T d) := by
  have go : ∀ t, t ∈ ["NoneType", "bool", "int", "str", "list", "tuple", "dict"] → kitB t T = some (P.isTyS T t) := by
    rcases h with rfl | rfl | rfl | rfl | rfl | rfl <;> decide +kernel
  refine go _ ?_
  cases d <;> simp [P.tyOf]
theorem Rp.ty {K : PySem.W.Frag} {G H : Hp} (s : Same G H) {v : V} {d : D} (r : Rp G v d) : TyX K H v (.type (P.tyOf d)) := by
  cases r with
  | non => exact .base .non
  | bl b => exact .base (.bl b)
  | int i => exact .base (.int i)
  | str x => exact .base (.str x)
  | lst e _ => exact .base (.lst (s _ _ e))
  | tup e _ => exact .base (.tup (s _ _ e))
  | dic e _ => exact .base (.dK (s _ _ e))
section
variable {X : Cx} {S : Su} {Γ : Gm} {sc : Scope} {N : List Str} {Vs O : List Nat} {G : List Str} {i j j2 : Nat} {x y : Str} {pos p2 p3 p : Pos} {τ β α : Type} {L : β → Gm} {E : τ → Gm} {a b c e : Expr} {es : List Expr} {ma mb mc : W D} {mr mk : W (List D)} {sts : List Stmt}
theorem ev_isi (T : String) (C : Cok X sc N Vs O G) (hg : G[j]? = some ("isinstance" : Str)) (hm : X.mg "isinstance" = none) (hg2 : G[j2]? = some (Str.ofString T)) (hm2 : X.mg (Str.ofString T) = none) (hb : bootBuiltins (Str.ofString T) = some (.type T)) (hT : T = "list" ∨ T = "tuple" ∨ T = "int" ∨ T = "bool" ∨ T = "str" ∨ T = "dict") (ha : Eb X S Γ a ma)
    (hs : starEach [a, .Name (Str.ofString T) p2] X.env = (false, eval a X.env) :: starEach [.Name (Str.ofString T) p2] X.env) (hs2 : starEach [.Name (Str.ofString T) p2] X.env = (false, eval (.Name (Str.ofString T) p2) X.env) :: starEach [] X.env) (hp : (backTo pos (starEach [.Name (Str.ofString T) p2] X.env)).any (·.1) = false) :
    Ev X S Γ (.Call (.Name "isinstance" p) [a, .Name (Str.ofString T) p2] [] pos) (W.bind ma fun d => W.pure (.bool (P.isTy T d))) := by
  obtain ⟨t, pa, k⟩ := ha.ex
  have hx := C.dG _ (List.mem_of_getElem? hg)
  have hx2 := C.dG _ (List.mem_of_getElem? hg2)
  refine Ev.mk' (pe_callB call_isi (C.gl j _ hg) hm (by first | exact PySem.boot_isinstance | exact PyProof.Rows.boot_isinstance) (pa_cons pa (pa_cons (pe_bltn (v := .ty T) (C.gl j2 _ hg2) hm2 hb rfl hx2.2 hx2.1) pa_nil hs2) hs) hx.2 hx.1 hs hp) fun M σ F H Q φ R z hm q => k M σ F H _ _ R z hm fun v d F1 H1 hm1 R1 x1 z1 r1 => ?_
  exact ⟨v, .ty T, .type (P.tyOf d), .type T, P.isTy T d, rfl, .ty T, r1.ty R1.vw_h, kit_ty (kit_all T hT d), q _ _ F1 H1 hm1 R1 x1 (.bl _)⟩
/-! ### repr -/
def rRepr (K : PySem.W.Frag) : List V → Hp → VK → Prop := fun xs H Q => ∃ (a : Addr) (d : D), xs = [.ref a] ∧ Dp K H (.ref a) d ∧ d.showable = true ∧ d.hasDict = false ∧ d.depth ≤ 60 ∧ d.shown.length ≤ sizeLine ∧ Q (.str d.shown) H
theorem call_reprD (hg : X.A.guards = some []) (hu : X.A.units + 100 < cLine) : CallR X (.builtin "repr") (rRepr X.K) := by
  intro pins s σ H xs us Q I r h
  obtain ⟨a, d, rfl, hd, h1, h2, h3, h4, q⟩ := h
  obtain ⟨u, rfl, ru⟩ := vals1 r
  cases ru
  obtain ⟨as, rd⟩ := Dp.reads I d _ _ hd rfl
  refine PySem.repr_of_reads' rd h1 (fun z => by rw [h2] at z; cases z) hg (by omega) (fun b o e => e) (fun h' u tk hk => ⟨.str d.shown, H, I.kept hk, ⟨_, rfl⟩, q⟩) h4
theorem p1_repr : P1 (rRepr X.K) P.repr1 := by
  intro G H xs ds Q φ gs z rx hm q
  unfold P.repr1 at hm
  split at hm
  · rename_i d
    obtain ⟨v, rfl, hv⟩ := rp1 rx
    obtain ⟨⟨h0, h1, h2, h3, h4, h5⟩, hm⟩ := hm
    have hd := hv.dp (K := X.K) gs h1
    cases hv with
    | lst e r => exact ⟨_, _, rfl, hd, h2, h3, h4, h5, q _ _ hm fun _ => .str _⟩
    | tup e r => exact ⟨_, _, rfl, hd, h2, h3, h4, h5, q _ _ hm fun _ => .str _⟩
    | _ => cases h0
  · exact hm.elim
/-! ### cells under a word -/
/-- an item of such a cell -/
theorem ev_ixv {I : List D → Prop} (C : Cok X sc N Vs O G) (hi : N[i]? = some x) (hv : Vs.contains i = true) (hg : Γ[i]? = some (.iv I)) (hb : Eb X S Γ b mb) (hs : PlainIx b) :
    Ev X S Γ (.Subscript (.Name x p2) b pos) (W.bind mb fun j φ => ∀ l, I l → P.ix (.list l) j φ) := by
  have hx := C.dN x (List.mem_of_getElem? hi)
  obtain ⟨tb, pb, k2⟩ := hb.ex
  refine Ev.mk' (pe_ix ix_seq (pe_var (i := i) (by rw [C.hN]; exact hi) (C.vis i x hv hi) hx.1 hx.2) pb hs) fun M σ F H Q φ R z hm q => ?_
  obtain ⟨a, vs, l, e, _⟩ := R.iv hg
  refine ⟨_, e, k2 M σ F H _ _ R z hm fun w j F2 H2 hm2 R2 x2 z2 r2 => ?_⟩
  obtain ⟨a', vs', l', e', h1, h2, h3, r, hI⟩ := R2.iv hg
  rw [e] at e'
  cases e'
  have hm2 := hm2 l' hI
  cases j with
  | int k =>
    have hm2 : W.opt (atI l' k) φ := hm2
    cases e3 : atI l' k with
    | none => rw [e3] at hm2; exact hm2.elim
    | some u =>
      rw [e3] at hm2
      obtain ⟨u', e1, r1⟩ := r.atI e3
      exact .inl ⟨a, vs', k, u', rfl, r2.of_int, SqL.of h1, e1, q u' u F2 H2 hm2 R2 x2 r1⟩
  | _ => exact hm2.elim
theorem ev_lenv {I : List D → Prop} (C : Cok X sc N Vs O G) (hg : G[j]? = some ("len" : Str)) (hm : X.mg "len" = none) (hi : N[i]? = some x) (hv : Vs.contains i = true) (hl : Γ[i]? = some (.iv I)) : Ev X S Γ (.Call (.Name "len" p) [.Name x p2] [] pos) (fun φ => ∀ l, I l → φ (.int l.length)) := by
  have hx := C.dN x (List.mem_of_getElem? hi)
  have hy := C.dG _ (List.mem_of_getElem? hg)
  refine Ev.mk' (pe_callB call_len_seq (C.gl j _ hg) hm PySem.boot_len (pa_cons (pe_var (i := i) (by rw [C.hN]; exact hi) (C.vis i x hv hi) hx.1 hx.2) pa_nil (by rfl)) hy.2 hy.1 (by rfl) (by rfl)) fun M σ F H Q φ R z hm q => ?_
  obtain ⟨a, vs, l, e, h1, h2, h3, r, hI⟩ := R.iv hl
  exact ⟨_, e, a, vs, rfl, .inl (SqL.of h1), by rw [r.length]; exact q _ _ F H (hm l hI) R Xt.refl (.int _)⟩
/-- x[i] = e, x such a cell: the word stays -/
theorem sv_setv {ix : Expr} {mi : W D} {I : List D → Prop} (C : Cok X sc N Vs O G) (hi : N[i]? = some x) (hv : Vs.contains i = true) (hg : Γ[i]? = some (.iv I)) (he : Ev X S Γ e ma) (hx : Eb X S Γ ix mi)
    (hs : swapsWithSole [.Subscript (.Name x p2) ix p3] e pos.line X.env = pure false) (hw : swappedStores [.Subscript (.Name x p2) ix p3] e X.env = pure none) (h1 : (assignEach [.Subscript (.Name x p2) ix p3] X.env).map (·.2) = [assign (.Subscript (.Name x p2) ix p3) X.env])
    (hp : ∀ v, assign (.Subscript (.Name x p2) ix p3) X.env v = (do
      let ov ← holding [v] (eval (.Name x p2) X.env)
      let iv ← holding [v, ov] (eval ix X.env)
      standAt p3
      holding [v, ov, iv] (setItem ov iv v)
      release [v, ov, iv] [])) :
    Sv X S (.Assign [.Subscript (.Name x p2) ix p3] e pos) Γ (W.nxt (W.bind ma fun d => W.bind mi fun k φ => (∀ l, I l → ∃ (n : Int) (j : Nat), k = .int n ∧ ixN l.length n = some j ∧ I (l.set j d)) ∧ φ ())) (fun _ => Γ) L := by
  obtain ⟨t, pe, k⟩ := he.ex
  obtain ⟨t2, pe2, k2⟩ := hx.ex
  have hn := C.dN x (List.mem_of_getElem? hi)
  refine ⟨_, ps_asg pe (pg_sub (pe_var (i := i) (by rw [C.hN]; exact hi) (C.vis i x hv hi) hn.1 hn.2) pe2 set_list hp) hs hw h1, fun M σ F H Z φ R z hm q1 _ _ _ _ => k M σ F H _ _ R z hm fun v d F1 H1 hm1 R1 x1 z1 r1 => ?_⟩
  obtain ⟨a, vs, l, e0, g1, _⟩ := R1.iv hg
  refine ⟨_, e0, k2 M σ F1 H1 _ _ R1 z1 hm1 fun w k F2 H2 hm2 R2 x2 z2 r2 => ?_⟩
  obtain ⟨a', vs', l', e', g1', g2, g3, r, hI⟩ := R2.iv hg
  rw [e0] at e'
  cases e'
  obtain ⟨n, j, rfl, hj, hI'⟩ := hm2.1 l' hI
  have nF : ∀ b o, F2 b = some o → b ≠ a := fun b o e => ne_of_none e g2
  have rset := r.set (r1.mono x2.sf) j
  have own : ∀ m b, OwAt Γ σ m b → b = a → m = i := fun m b hm e => by
    subst e
    exact R2.ap m i b hm ⟨⟨_, hg, rfl⟩, e0⟩
  have R3 : Rel X.K S M Γ σ F2 (upd H2 a (.lst (vs'.set j v))) := by
    refine R2.step (Same.refl _) (fun b o e => by rw [upd_ne (nF b o e)]; exact R2.fh b o e) (fun b o e _ ni => ?_) (fun b e => ?_) (fun b h e => absurd e h) (tabs_upd R2.tb (fun ps z => by rw [g1'] at z; cases z) (fun q z => by rw [g1'] at z; cases z)) fun m I' b hm hb => ?_
    · rw [upd_ne (fun z => ni ⟨i, I, hg, by rw [z]; exact e0⟩)]
      exact e
    · by_cases q : b = a
      · rw [q, upd_same]
        simp
      · rw [upd_ne q]
        exact e
    · by_cases q : b = a
      · have em := own m b ⟨⟨_, hm, rfl⟩, hb⟩ q
        subst em
        rw [hg] at hm
        cases hm
        rw [q]
        exact ⟨_, _, upd_same, rset, hI'⟩
      · obtain ⟨b', us, l2, e2, k1, _, _, k4, k5⟩ := R2.iv hm
        rw [hb] at e2
        cases e2
        exact ⟨us, l2, by rw [upd_ne q]; exact k1, k4, k5⟩
  exact ⟨a, vs', n, j, rfl, r2.of_int, g1', by rw [r.length]; exact hj, q1 () σ F2 _ hm2.2 R3 (szok_upd z2 (by rw [List.length_set]; exact z2.1 _ _ g1'))⟩
/-- an own list is kept under a word from now on, if it is in it -/
theorem bv_ivn {m : W (Out τ β)} {l : List D} {I : List D → Prop} (hg : Γ[i]? = some (.ow l)) (h : Bv X S sts (Γ.set i (.iv I)) m E L) : Bv X S sts Γ (W.need (I l) m) E L := by
  by_cases hI : I l
  · rw [W.need_true hI]
    exact bv_iv hg hI h
  · obtain ⟨t, p, k⟩ := h.ex
    exact ⟨t, p, fun M σ F H Z φ R z hm => absurd hm.1 hI⟩
/-! ### keywords -/
def gk {α : Type} (n m : Nat) (us ws : List α) : List α := if us.length = n ∧ ws.length = m then us ++ ws else []
theorem kb_of {K : PySem.W.Frag} {fd : FuncData} {ps ks : List Str} (n m : Nat) (hps : ps.length ≠ 0) (h : ∀ us ws : List Value, us.length = n → ws.length = m → bindArgs fd ⟨us, ks.zip ws⟩ = pure (ps.zip (us ++ ws))) : KBinds K fd ps ks (gk n m) (gk n m) where
  to := fun s us ws _ hl => by
    unfold gk at hl ⊢
    split at hl
    · rename_i e
      rw [if_pos e]
      exact .of_eq (h us ws e.1 e.2)
    · exact absurd hl.symm hps
  rel := fun {vs us zs ws} r q => by
    unfold gk
    rw [r.length, q.length]
    split
    · exact r.append q
    · exact .nil
structure Kv (X : Cx) (S : Su) (Γ : Gm) (kws : List Keyword) (m : W (List D)) : Prop where
  ex : ∃ t : TA, PK X kws t ∧ ∀ (N : En) (σ : St) (F H : Hp) (Q : List V → Hp → Prop) (φ : List D → Prop), Rel X.K S N Γ σ F H → SzOk H → m φ →
    (∀ vs ds F' H', φ ds → Rel X.K S N Γ σ F' H' → Xt Γ σ F H F' H' → RpA F' vs ds → ds.length = kws.length → Q vs H') → t σ H Q
theorem kv_nil : Kv X S Γ [] (W.pure []) := ⟨_, pk_nil, fun M σ F H Q φ R z hm q => q _ _ F H hm R Xt.refl .nil rfl⟩
theorem kv_cons {nm : Option Str} {kpos : Pos} {kws : List Keyword} (ha : Ev X S Γ a ma) (hr : Kv X S Γ kws mr) : Kv X S Γ (⟨nm, a, kpos⟩ :: kws) (W.cons ma mr) := by
  obtain ⟨ta, pa, k⟩ := ha.ex
  obtain ⟨tr, pr, k2⟩ := hr.ex
  refine ⟨_, pk_cons pa pr, fun M σ F H Q φ R z hm q => k M σ F H _ _ R z hm fun v d F1 H1 hm1 R1 x1 z1 r1 => ?_⟩
  exact k2 M σ F1 H1 _ _ R1 z1 hm1 fun vs ds F2 H2 hm2 R2 x2 r2 n2 => q _ _ F2 H2 hm2 R2 (x1.trans x2) (.cons (r1.mono x2.sf) r2) (congrArg (· + 1) n2)
def CalG (X : Cx) (x : Str) (ks : List Str) (n m : Nat) (sp : Sp) : Prop := ∃ (k : Nat) (f : Addr) (fd : FuncData) (ps : List Str),
  FnOk X.prog X.w X.K X.mg X.base CX0 k f fd ps sp ∧ Room k X.A ∧ X.mg x = some (.ref f) ∧ PySem.W.keepIn X.K (.ref f) = true ∧ KBinds X.K fd ps ks (gk n m) (gk n m)
theorem CalG.blk {scope : Scope} {X' : Cx} {ks : List Str} {n m : Nat} {sp : Sp} (c : CalG X y ks n m sp) (B : Blk X scope X') : CalG X' y ks n m sp := by
  obtain ⟨s, H, A, cl, fp, rfl⟩ := B.ex
  exact c
theorem ev_callK {m : List D → W D} {ks : List Str} {kws : List Keyword} (C : Cok X sc N Vs O G) (hg : G[j]? = some x) (c : CalG X x ks (a :: es).length kws.length (spW S.T m)) (ha : Av X S Γ (a :: es) mr) (hkw : Kv X S Γ kws mk)
    (hall : (backToKw pos (keywordEach kws X.env)).all (·.1.isSome) = true) (hks : (backToKw pos (keywordEach kws X.env)).filterMap (·.1) = ks) (hs : starEach (a :: es) X.env = (false, eval a X.env) :: starEach es X.env)
    (hp : ((backTo pos (starEach (a :: es) X.env)).any (·.1) || (backToKw pos (keywordEach kws X.env)).any (·.1.isNone)) = false) :
    Ev X S Γ (.Call (.Name x p) (a :: es) kws pos) (W.bind mr fun us => W.bind mk fun ws => m (us ++ ws)) := by
  obtain ⟨k, f, fd, ps, F0, hr, hm, hk, hb⟩ := c
  obtain ⟨t, pa, ka⟩ := ha.ex
  obtain ⟨tk, pk, kk⟩ := hkw.ex
  refine Ev.mk' (pe_callK F0 hr (C.gl j x hg) hm hk hb (E := E0) pass0 pa pk hall hks (C.dG x (List.mem_of_getElem? hg)).1 hs hp) fun M σ F H Q φ R z hm q => ka M σ F H _ _ R z hm fun vs ds F1 H1 hm1 R1 x1 z1 r1 n1 => ?_
  refine kk M σ F1 H1 _ _ R1 z1 hm1 fun ws es' F2 H2 hm2 R2 x2 r2 n2 => ?_
  have eg : gk (a :: es).length kws.length vs ws = vs ++ ws := by
    unfold gk
    rw [if_pos ⟨by rw [r1.length, n1], by rw [r2.length, n2]⟩]
  rw [eg]
  exact ⟨F2, ds ++ es', φ, R2.fh, (r1.mono x2.sf).append r2, R2.tb, hm2, fun d v F3 H3 hd x3 f3 t3 r3 => q v d F3 H3 hd (R2.back x3 f3 t3) ((x1.trans x2).trans x3.xt) r3⟩
theorem eo_callK {m : List D → W (List D)} {ks : List Str} {kws : List Keyword} (C : Cok X sc N Vs O G) (hg : G[j]? = some x) (c : CalG X x ks (a :: es).length kws.length (spO S.T m)) (ha : Av X S Γ (a :: es) mr) (hkw : Kv X S Γ kws mk)
    (hall : (backToKw pos (keywordEach kws X.env)).all (·.1.isSome) = true) (hks : (backToKw pos (keywordEach kws X.env)).filterMap (·.1) = ks) (hs : starEach (a :: es) X.env = (false, eval a X.env) :: starEach es X.env)
    (hp : ((backTo pos (starEach (a :: es) X.env)).any (·.1) || (backToKw pos (keywordEach kws X.env)).any (·.1.isNone)) = false) :
    Eo X S Γ (.Call (.Name x p) (a :: es) kws pos) (W.bind mr fun us => W.bind mk fun ws => m (us ++ ws)) := by
  obtain ⟨k, f, fd, ps, F0, hr, hm, hk, hb⟩ := c
  obtain ⟨t, pa, ka⟩ := ha.ex
  obtain ⟨tk, pk, kk⟩ := hkw.ex
  refine Eo.mk' (pe_callK F0 hr (C.gl j x hg) hm hk hb (E := E0) pass0 pa pk hall hks (C.dG x (List.mem_of_getElem? hg)).1 hs hp) fun M σ F H Q φ R z hm q => ka M σ F H _ _ R z hm fun vs ds F1 H1 hm1 R1 x1 z1 r1 n1 => ?_
  refine kk M σ F1 H1 _ _ R1 z1 hm1 fun ws es' F2 H2 hm2 R2 x2 r2 n2 => ?_
  have eg : gk (a :: es).length kws.length vs ws = vs ++ ws := by
    unfold gk
    rw [if_pos ⟨by rw [r1.length, n1], by rw [r2.length, n2]⟩]
  rw [eg]
  refine ⟨F2, ds ++ es', φ, R2.fh, (r1.mono x2.sf).append r2, R2.tb, hm2, fun l a us F3 H3 hd x3 f3 t3 h1 h2 h3 r3 => q a us l F3 H3 hd (R2.back x3 f3 t3) ((x1.trans x2).trans x3.xt) h1 h2 ?_ r3⟩
  by_cases e : H a = none
  · exact e
  · exact absurd h3 ((x1.trans x2).al a e)
end
section
variable {P : Program} {w : World} {K : PySem.W.Frag} {mg : Str → Option Value} {base : Heap}
def DfnK (P : Program) (w : World) (K : PySem.W.Frag) (mg : Str → Option Value) (base : Heap) (k : Nat) (x : Str) (ks : List Str) (n m : Nat) (sp : Sp) : Prop :=
  ∃ (f : Addr) (fd : FuncData) (ps : List Str), FnOk P w K mg base CX0 k f fd ps sp ∧ mg x = some (.ref f) ∧ PySem.W.keepIn K (.ref f) = true ∧ KBinds K fd ps ks (gk n m) (gk n m)
def HereK (K : PySem.W.Frag) (mg : Str → Option Value) (x : Str) (st : Stmt) (ps ks : List Str) (n m : Nat) : Prop :=
  ∃ (f : Addr) (fd : FuncData), Fun K x x st f fd ∧ mg x = some (.ref f) ∧ KBinds K fd ps ks (gk n m) (gk n m)
theorem Run.g {N : List Str} {sc : Scope} {k j : Nat} {X : Cx} {x : Str} {ks : List Str} {n m : Nat} {sp : Sp} (R : Run P w K mg base N sc k X) (d : DfnK P w K mg base j x ks n m sp) (h : j ≤ k) : CalG X x ks n m sp := by
  obtain ⟨f, fd, ps, F, hm, hk, hb⟩ := d
  refine ⟨j, f, fd, ps, ?_, R.room.mono h, ?_, ?_, ?_⟩
  · rw [R.prog, R.w, R.K, R.mg, R.base]
    exact F
  · rw [R.mg]
    exact hm
  · rw [R.K]
    exact hk
  · rw [R.K]
    exact hb
theorem dfnk_w {x : Str} {st : Stmt} {N ps ks : List Str} {k a b : Nat} {T : List (Addr × Str)} {m : List D → W D} (F : HereK K mg x st ps ks a b) (Sc : FnScope N ps (defScope st)) (n : Nat) (hn : N.length = ps.length + n) (hm : ∀ ds φ, m ds φ → ds.length = ps.length)
    (hb : ∀ X, Run P w K mg base N (defScope st) k X → ∀ ds, ds.length = ps.length → ∃ mb : W (Out Unit Empty), (∀ φ, m ds φ → mb fun o => Out.val o φ) ∧ Bv X ⟨none, T⟩ (defBody st) (ds.map .va ++ List.replicate n .un) mb (fun _ => List.replicate N.length .un) (fun b => nomatch b)) :
    DfnK P w K mg base (k + 1) x ks a b (spW T m) := by
  obtain ⟨f, fd, F0, hm', hb'⟩ := F
  exact ⟨f, fd, ps, fn_w F0 Sc n hn hm hb, hm', F0.kp, hb'⟩
theorem dfnk_o {x : Str} {st : Stmt} {N ps ks : List Str} {k a b : Nat} {T : List (Addr × Str)} {m : List D → W (List D)} (F : HereK K mg x st ps ks a b) (Sc : FnScope N ps (defScope st)) (n : Nat) (hn : N.length = ps.length + n) (hm : ∀ ds φ, m ds φ → ds.length = ps.length)
    (hb : ∀ X, Run P w K mg base N (defScope st) k X → ∀ ds, ds.length = ps.length → ∃ mb : W (Out Unit Empty), (∀ φ, m ds φ → mb fun o => Out.lst o φ) ∧ Bv X ⟨none, T⟩ (defBody st) (ds.map .va ++ List.replicate n .un) mb (fun _ => List.replicate N.length .un) (fun b => nomatch b)) :
    DfnK P w K mg base (k + 1) x ks a b (spO T m) := by
  obtain ⟨f, fd, F0, hm', hb'⟩ := F
  exact ⟨f, fd, ps, fn_o F0 Sc n hn hm hb, hm', F0.kp, hb'⟩
/-! ### a cell under a word, or the script, first -/
theorem start_iv {T : List (Addr × Str)} {I : List D → Prop} {N : List Str} {a : Addr} {us : List V} {l : List D} {ws : List V} {ds : List D} {F H : Hp} (n : Nat) (hn : N.length = ws.length + 1 + n) (fh : Same F H) (ha : H a = some (.lst us)) (hf : F a = none) (hu : RpA F us l) (hI : I l) (r : RpA F ws ds) (t : LamX.Tabs T H) :
    Rel K ⟨some (a, I), T⟩ ⟨F, H⟩ (.iv I :: (ds.map .va ++ List.replicate n .un)) (L2.start N (.ref a :: ws)) F H := by
  have R0 := start_rel (K := K) (T := T) (N := N.tail) n (by rw [List.length_tail]; omega) fh r t
  have e : L2.start N (.ref a :: ws) = some (.ref a) :: L2.start N.tail ws := by
    unfold L2.start
    rw [List.map_cons, List.cons_append, List.length_cons, List.length_tail]
    congr 3
    omega
  rw [e]
  have no : ∀ i b, ¬ OwAt (ds.map .va ++ List.replicate n .un) (L2.start N.tail ws) i b := fun i b h => by
    obtain ⟨⟨s, h1, h2⟩, _⟩ := h
    rcases List.mem_append.mp (List.mem_of_getElem? h1) with z | z
    · obtain ⟨d, _, rfl⟩ := List.mem_map.mp z
      cases h2
    · rw [(List.mem_replicate.mp z).2] at h2
      cases h2
  refine ⟨R0.f0, fh, fun _ _ h _ _ => h, fun _ h => h, fun b h e => absurd e h, by simpa using R0.len, fun i s h => ?_, fun i j b hi hj => ?_, t, fun p hp => ?_⟩
  · cases i with
    | zero =>
      simp at h
      subst h
      exact ⟨a, us, l, rfl, ha, hf, .inr rfl, hu, hI⟩
    | succ i =>
      have := R0.sl i s (by simpa using h)
      rcases List.mem_append.mp (List.mem_of_getElem? (show (ds.map Sl.va ++ List.replicate n Sl.un)[i]? = some s by simpa using h)) with z | z
      · obtain ⟨d, _, rfl⟩ := List.mem_map.mp z
        exact this
      · rw [(List.mem_replicate.mp z).2]
        trivial
  · have up : ∀ i, OwAt (.iv I :: (ds.map Sl.va ++ List.replicate n .un)) (some (.ref a) :: L2.start N.tail ws) i b → i = 0 := fun i ⟨⟨s, h1, h2⟩, h3⟩ => by
      cases i with
      | zero => rfl
      | succ i => exact absurd ⟨⟨s, by simpa using h1, h2⟩, by simpa using h3⟩ (no i b)
    rw [up i hi, up j hj]
  · cases hp
    exact ⟨by show H a ≠ none; rw [ha]; simp, us, l, ha, hf, hu, hI⟩
theorem dfn_i {x : Str} {st : Stmt} {N ps : List Str} {k : Nat} {T : List (Addr × Str)} {I : List D → Prop} {m : List D → W D} (F : Here K mg x st ps) (Sc : FnScope N ps (defScope st)) (n : Nat) (hn : N.length = ps.length + n) (hm : ∀ ds φ, m ds φ → ds.length + 1 = ps.length)
    (hb : ∀ X, Run P w K mg base N (defScope st) k X → ∀ a ds, ds.length + 1 = ps.length → ∃ mb : W (Out Unit Empty), (∀ φ, m ds φ → mb fun o => Out.val o φ) ∧ Bv X ⟨some (a, I), T⟩ (defBody st) (.iv I :: (ds.map .va ++ List.replicate n .un)) mb (fun _ => List.replicate N.length .un) (fun b => nomatch b)) :
    Dfn P w K mg base (k + 1) x (spI T I m) := by
  obtain ⟨f, fd, F0, hm', hb'⟩ := F
  refine ⟨f, fd, ps, ?_, hm', F0.kp, hb'⟩
  refine F0.ok Sc (fun vs H Q E ⟨F, a, us, l, ws, ds, φ, e, _, _, _, _, _, r, _, hd, _⟩ => by rw [e, List.length_cons, r.length]; exact hm ds φ hd) fun cdv A outer s H vs Q E hr ⟨F, a, us, l, ws, ds, φ, e, fh, ha, hf, hu, hI, r, t, hd, q⟩ => ?_
  subst e
  obtain ⟨mb, h1, hB⟩ := hb _ (Run.of hr) a ds (hm ds φ hd)
  obtain ⟨tb, pb, kb⟩ := hB.ex
  have fin : ∀ {F' H'}, Fin ⟨some (a, I), T⟩ ⟨F, H⟩ F' H' → Xt [.iv I] [some (.ref a)] F H F' H' := fun {F' H'} R' => ⟨R'.f0, fun b o e n ni => R'.keep b o e (fun p hp => by
      cases hp
      exact fun z => ni ⟨0, I, rfl, by rw [z]; rfl⟩) n, R'.al, R'.nw⟩
  have hl := hm ds φ hd
  refine ⟨_, szPSs pb, fun z => kb ⟨F, H⟩ _ F H _ _ (start_iv (T := T) (N := N) n (by rw [r.length]; omega) fh ha hf hu hI r t) z (h1 φ hd) ?_ ?_ ?_ (fun b => nomatch b) (fun b => nomatch b)⟩
  · intro u σ' F' H' hq R' z' _
    obtain ⟨_, us', l', g1, g2, g3, g4⟩ := R'.mc _ rfl
    exact q _ _ F' H' us' l' hq (fin R'.fin) R'.fh R'.tb g1 g2 g3 g4 .non
  · intro d v F' H' hq R' rv
    obtain ⟨_, us', l', g1, g2, g3, g4⟩ := R'.mc _ rfl
    exact q _ _ F' H' us' l' hq (fin R') R'.fh R'.tb g1 g2 g3 g4 rv
  · intro l2 b us2 F' H' hq R' k1 k2 k3 rv
    obtain ⟨h0, us', l', g1, g2, g3, g4⟩ := R'.mc _ rfl
    have sm : Same F' (upd F' b (.lst us2)) := fun c o e => by
      rw [upd_ne (ne_of_none e k2)]
      exact e
    have nb : a ≠ b := fun z => h0 (by rw [z]; exact k3)
    have X' := fin R'
    refine q _ _ (upd F' b (.lst us2)) H' us' l' hq ⟨X'.sf.trans sm, X'.kp, X'.al, fun c e hc => ?_⟩ (fun c o e => ?_) R'.tb g1 (by rw [upd_ne nb]; exact g2) (g3.mono sm) g4 (.lst upd_same (rv.mono sm))
    · by_cases z : c = b
      · rw [z]
        exact k3
      · rw [upd_ne z] at e
        exact X'.nw c e hc
    · by_cases z : c = b
      · subst z
        rw [upd_same] at e
        rw [← e]
        exact k1
      · rw [upd_ne z] at e
        exact R'.fh c o e
theorem start_rd {T : List (Addr × Str)} {N : List Str} {a : Addr} {us : List V} {l : List D} {ws : List V} {ds : List D} {F H : Hp} (n : Nat) (hn : N.length = ws.length + 1 + n) (fh : Same F H) (ha : SqL K F a us) (hu : RpA F us l) (r : RpA F ws ds) (t : LamX.Tabs T H) :
    Rel K ⟨none, T⟩ ⟨F, H⟩ (.rd l :: (ds.map .va ++ List.replicate n .un)) (L2.start N (.ref a :: ws)) F H := by
  have R0 := start_rel (K := K) (T := T) (N := N.tail) n (by rw [List.length_tail]; omega) fh r t
  have e : L2.start N (.ref a :: ws) = some (.ref a) :: L2.start N.tail ws := by
    unfold L2.start
    rw [List.map_cons, List.cons_append, List.length_cons, List.length_tail]
    congr 3
    omega
  rw [e]
  refine ⟨R0.f0, fh, fun _ _ h _ _ => h, fun _ h => h, fun b h e => absurd e h, by simpa using R0.len, fun i s h => ?_, fun i j b hi hj => ?_, t, fun p hp => nomatch hp⟩
  · cases i with
    | zero =>
      simp at h
      subst h
      exact ⟨a, us, rfl, ha, hu⟩
    | succ i => exact R0.sl i s (by simpa using h)
  · have up : ∀ i, OwAt (.rd l :: (ds.map Sl.va ++ List.replicate n .un)) (some (.ref a) :: L2.start N.tail ws) i b → ∃ k, i = k + 1 ∧ OwAt (ds.map .va ++ List.replicate n .un) (L2.start N.tail ws) k b := fun i ⟨⟨s, h1, h2⟩, h3⟩ => by
      cases i with
      | zero =>
        simp at h1
        subst h1
        cases h2
      | succ i => exact ⟨i, rfl, ⟨⟨s, by simpa using h1, h2⟩, by simpa using h3⟩⟩
    obtain ⟨k1, rfl, o1⟩ := up i hi
    obtain ⟨k2, rfl, o2⟩ := up j hj
    rw [R0.ap k1 k2 b o1 o2]
theorem dfn_r {x : Str} {st : Stmt} {N ps : List Str} {k : Nat} {T : List (Addr × Str)} {m : List D → List D → W (List D)} (F : Here K mg x st ps) (Sc : FnScope N ps (defScope st)) (n : Nat) (hn : N.length = ps.length + n) (hm : ∀ l ds φ, m l ds φ → ds.length + 1 = ps.length)
    (hb : ∀ X, Run P w K mg base N (defScope st) k X → ∀ l ds, ds.length + 1 = ps.length → ∃ mb : W (Out Unit Empty), (∀ φ, m l ds φ → mb fun o => Out.lst o φ) ∧ Bv X ⟨none, T⟩ (defBody st) (.rd l :: (ds.map .va ++ List.replicate n .un)) mb (fun _ => List.replicate N.length .un) (fun b => nomatch b)) :
    Dfn P w K mg base (k + 1) x (spR K T m) := by
  obtain ⟨f, fd, F0, hm', hb'⟩ := F
  refine ⟨f, fd, ps, ?_, hm', F0.kp, hb'⟩
  refine F0.ok Sc (fun vs H Q E ⟨F, a, us, l, ws, ds, φ, e, _, _, _, r, _, hd, _⟩ => by rw [e, List.length_cons, r.length]; exact hm l ds φ hd) fun cdv A outer s H vs Q E hr ⟨F, a, us, l, ws, ds, φ, e, fh, ha, hu, r, t, hd, q⟩ => ?_
  subst e
  obtain ⟨mb, h1, hB⟩ := hb _ (Run.of hr) l ds (hm l ds φ hd)
  obtain ⟨tb, pb, kb⟩ := hB.ex
  have hl := hm l ds φ hd
  refine ⟨_, szPSs pb, fun z => kb ⟨F, H⟩ _ F H _ _ (start_rd (T := T) (N := N) n (by rw [r.length]; omega) fh ha hu r t) z (h1 φ hd) ?_ ?_ ?_ (fun b => nomatch b) (fun b => nomatch b)⟩
  · exact fun u σ' F' H' hq R' z' _ => hq.elim
  · exact fun d v F' H' hq R' rv => hq.elim
  · exact fun l a us F' H' hq R' g1 g2 g3 rv => q _ _ _ F' H' hq ⟨R'.f0, fun b o e n _ => R'.keep b o e (fun p hp => nomatch hp) n, R'.al, R'.nw⟩ R'.fh R'.tb g1 g2 g3 rv
end
end Dv
end
section
/-! Dv10: lists whose pairs hold lists of their own (what a def hands back, to be changed by its caller). -/
namespace Dv
open PySem PySem.Spec L2
open PyProof.Rows hiding St

def NoPair (d : D) : Prop := ∀ s k, d ≠ .tuple [.str s, .list k]
structure Ez (X : Cx) (S : Su) (Γ : Gm) (e : Expr) (m : W D) : Prop where
  ex : ∃ t : TE, PE X e t ∧ ∀ (N : En) (σ : St) (F H : Hp) (Q : VK) (φ : D → Prop), Rel X.K S N Γ σ F H → SzOk H → m φ →
    (∀ v d F' H', φ d → Rel X.K S N Γ σ F' H' → Xt Γ σ F H F' H' → SzOk H' → Rp F' v d → Nz F F' v d → Q v H') → t σ H Q
section
variable {X : Cx} {S : Su} {Γ : Gm} {sc : Scope} {N : List Str} {Vs O : List Nat} {G : List Str} {τ β : Type} {e a b : Expr} {pos p2 : Pos} {i j : Nat} {x : Str} {L : β → Gm}
theorem ez_ev {m : W D} (h : Ev X S Γ e m) : Ez X S Γ e (W.bind m fun d => W.need (NoPair d) (W.pure d)) := by
  obtain ⟨t, p, k⟩ := h.ex
  exact ⟨t, p, fun M σ F H Q φ R z hm q => k M σ F H Q _ R z hm fun v d F' H' hd R' x' z' r => q v d F' H' hd.2 R' x' z' r fun s l e => absurd e (hd.1 s l)⟩
theorem none_back {H H' : Hp} (al : ∀ b, H b ≠ none → H' b ≠ none) {c : Addr} (h : H' c = none) : H c = none := by
  by_cases e : H c = none
  · exact e
  · exact absurd h (al c e)
theorem ez_pair {k : Nat} {ma : W D} {mb : W (List D)} (ha : Ev X S Γ a ma) (hb : Eo X S Γ b mb) (h1 : starEach [a, b] X.env = (false, eval a X.env) :: starEach [b] X.env) (h2 : starEach [b] X.env = (false, eval b X.env) :: starEach [] X.env) :
    Ez X S Γ (.Tuple [a, b] k pos) (W.tup (W.cons ma (W.cons (W.lst mb) (W.pure [])))) := by
  obtain ⟨ta, pa, ka⟩ := ha.ex
  obtain ⟨tb, pb, kb⟩ := hb.ex
  refine ⟨_, szPE (pe_tup (pa_cons pa (pa_cons pb pa_nil h2) h1)), fun M σ F H Q φ R z hm q _ => ka M σ F H _ _ R z hm fun v d F1 H1 hm1 R1 x1 z1 r1 => ?_⟩
  refine kb M σ F1 H1 _ _ R1 z1 hm1 fun c vs l F2 H2 hm2 R2 x2 z2 g1 g2 g3 r2 => ⟨Nat.le_of_lt (small1000 (show 2 ≤ 1000 by decide)), fun p np z3 => ?_⟩
  have gH := none_back x1.al g3
  have R3 := R2.freeze g1 g2 (none_back R1.al g3) fun i hi => by
    obtain ⟨o, e1, _⟩ := R1.own_cell hi
    rw [e1] at g3
    cases g3
  have sm : Same F2 (upd F2 c (.lst vs)) := fun b o e => by
    rw [upd_ne (ne_of_none e g2)]
    exact e
  have x := x1.trans x2
  have x3 : Xt Γ σ F H (upd F2 c (.lst vs)) H2 := ⟨x.sf.trans sm, x.kp, x.al, fun b e q => by
    by_cases hb : b = c
    · rw [hb]
      exact gH
    · rw [upd_ne hb] at e
      exact x.nw b e q⟩
  have nf := R3.fh.free np
  have sm2 := (Xt.frz (Γ := Γ) (σ := σ) (o := .tup [v, V.ref c]) np nf).sf
  refine q (.ref p) (.tuple [d, .list l]) _ _ hm2 (R3.frz np) (x3.trans (Xt.frz np nf)) z3 (.tup upd_same (.cons (((r1.mono x2.sf).mono sm).mono sm2) (.cons ((Rp.lst upd_same (r2.mono sm)).mono sm2) .nil))) fun s k' _ => ⟨p, v, c, rfl, upd_same, R.fh.free gH⟩
/-- x.append(e), e new since Z, or no pair -/
theorem Rel.chgz {K : PySem.W.Frag} {M : En} {σ : St} {F H : Hp} (R : Rel K S M Γ σ F H) {Z : Hp} {l l' : List D} {a : Addr} {vs' : List V} (hg : Γ[i]? = some (.oz Z l)) (ha : σ[i]? = some (some (.ref a))) (r : RpA F vs' l') (hz : NzA Z F vs' l') : Rel K S M (Γ.set i (.oz Z l')) σ F (upd H a (.lst vs')) := by
  obtain ⟨a', vs, e, h1, h2, h3, _, sz, _⟩ := R.oz hg
  rw [ha] at e
  cases e
  have hlt : i < Γ.length := by
    by_cases q : i < Γ.length
    · exact q
    · rw [List.getElem?_eq_none (by omega)] at hg
      cases hg
  -- as an own list
  have R1 : Rel K S M (Γ.set i (.ow l)) σ F H := by
    have up : ∀ j b, OwAt (Γ.set i (.ow l)) σ j b → OwAt Γ σ j b := fun j b ⟨⟨s, g1, g2⟩, g3⟩ => by
      rcases getset g1 with ⟨e1, e2⟩ | ⟨e1, e2⟩
      · subst e1
        exact ⟨⟨_, hg, rfl⟩, g3⟩
      · exact ⟨⟨s, e2, g2⟩, g3⟩
    refine ⟨R.f0, R.fh, R.keep, R.al, R.nw, by rw [List.length_set]; exact R.len, fun j s h => ?_, fun j k b hj hk => R.ap j k b (up j b hj) (up k b hk), R.tb, R.mc⟩
    rcases getset h with ⟨e1, e2⟩ | ⟨e1, e2⟩
    · subst e1
      rw [← e2]
      obtain ⟨a2, vs2, e3, g1, g2, g3, g4, _⟩ := R.oz hg
      exact ⟨a2, vs2, join_some.mpr e3, g1, g2, g3, g4⟩
    · exact R.sl j s e2
  have R2 := R1.chg (i := i) (l := l) (l' := l') (List.getElem?_set_self hlt) ha r
  have up : ∀ j b, OwAt (Γ.set i (.oz Z l')) σ j b → OwAt ((Γ.set i (.ow l)).set i (.ow l')) σ j b := fun j b ⟨⟨s, g1, g2⟩, g3⟩ => by
    rw [List.set_set]
    rcases getset g1 with ⟨e1, e2⟩ | ⟨e1, e2⟩
    · subst e1
      exact ⟨⟨.ow l', List.getElem?_set_self hlt, rfl⟩, g3⟩
    · exact ⟨⟨s, by rw [List.getElem?_set_ne e1]; exact e2, g2⟩, g3⟩
  refine ⟨R2.f0, R2.fh, R2.keep, R2.al, R2.nw, by rw [List.length_set]; exact R.len, fun j s h => ?_, fun j k b hj hk => R2.ap j k b (up j b hj) (up k b hk), R2.tb, R2.mc⟩
  rcases getset h with ⟨e1, e2⟩ | ⟨e1, e2⟩
  · subst e1
    rw [← e2]
    exact ⟨a, vs', join_some.mpr ha, upd_same, h2, h3, r, sz, hz⟩
  · exact R2.sl j s (by rw [List.set_set, List.getElem?_set_ne e1]; exact e2)
theorem sv_appz {m : W D} {Z : Hp} {l : List D} {ap cp : Pos} (C : Cok X sc N Vs O G) (hi : N[i]? = some x) (hv : Vs.contains i = true) (hg : Γ[i]? = some (.oz Z l)) (he : Ez X S Γ e m)
    (hb : attributeBase (.Name x p2) "append" X.env (eval (.Name x p2) X.env) = eval (.Name x p2) X.env) (hl : (ap.endLine == cp.line) = true)
    (hst : starEach [e] X.env = [(false, eval e X.env)]) (hs : swapsWith (.Call (.Attribute (.Name x p2) "append" ap) [e] [] cp) none pos.line X.env = pure false) :
    Sv X S (.Expr (.Call (.Attribute (.Name x p2) "append" ap) [e] [] cp) pos) Γ (W.nxt (W.bind m fun d => W.need (l.length < sizeLine) (W.pure d))) (fun d => Γ.set i (.oz Z (l ++ [d]))) L := by
  obtain ⟨t, pe, k⟩ := he.ex
  have hx := C.dN x (List.mem_of_getElem? hi)
  refine ⟨_, ps_expr (pe_bm PySem.F.plainAttrs_list PySem.F.slot_list_append PySem.F.type_list_append mt_append (pe_var (i := i) (by rw [C.hN]; exact hi) (C.vis i x hv hi) hx.1 hx.2) (pa_cons pe pa_nil hst) hb (by rw [hst]; rfl) hl hst (by rfl)) hs, fun M σ F H Y φ R z hm q1 _ _ _ _ => ?_⟩
  obtain ⟨a, vs, e0, g1, _⟩ := R.oz hg
  refine ⟨_, e0, .inl ⟨rfl, _, .inl (.inl g1)⟩, k M σ F H _ _ R z hm fun v d F1 H1 hm1 R1 x1 z1 r1 n1 => ?_⟩
  obtain ⟨a', vs', e', g1', g2, g3, r, sz, nz⟩ := R1.oz hg
  rw [e0] at e'
  cases e'
  have hsz : vs'.length < sizeLine := by rw [r.length]; exact hm1.1
  obtain ⟨_, _, _, _, _, _, _, sz0, _⟩ := R.oz hg
  exact ⟨a, vs', v, rfl, rfl, g1', hsz, q1 d σ F1 _ hm1.2 (R1.chgz hg e0 (r.append (RpA.one r1)) (nz.snoc r.length (n1.less sz0))) (szok_upd z1 (by rw [List.length_append]; exact hsz))⟩
end
end Dv
end
section
/-! Dv11: a def that hands back pairs with lists of their own, and a caller that clears these. -/
namespace Dv
open PySem PySem.Spec L2
open PyProof.Rows hiding St

/-- data in, a new list out whose pairs hold new lists -/
def spZ (T : List (Addr × Str)) (m : List D → W (List D)) : Sp := fun vs H Q _ => ∃ (F : Hp) (ds : List D) (φ : List D → Prop), Same F H ∧ RpA F vs ds ∧ LamX.Tabs T H ∧ m ds φ ∧
  ∀ l a us F' H', φ l → Xp F H F' H' → Same F' H' → LamX.Tabs T H' → H' a = some (.lst us) → F' a = none → H a = none → RpA F' us l → NzA F F' us l → Q (.ref a) H'
section
variable {X : Cx} {S : Su} {Γ : Gm} {sc : Scope} {N : List Str} {Vs O : List Nat} {G : List Str} {τ β : Type} {e a b : Expr} {pos p2 : Pos} {i j : Nat} {x : Str} {L : β → Gm}
theorem Rel.tooz {K : PySem.W.Frag} {M : En} {σ : St} {F H Z : Hp} (R : Rel K S M Γ σ F H) (hg : Γ[i]? = some (.ow [])) (sz : Same Z F) : Rel K S M (Γ.set i (.oz Z [])) σ F H := by
  have up : ∀ j b, OwAt (Γ.set i (.oz Z [])) σ j b → OwAt Γ σ j b := fun j b ⟨⟨s, g1, g2⟩, g3⟩ => by
    rcases getset g1 with ⟨e1, e2⟩ | ⟨e1, e2⟩
    · subst e1
      exact ⟨⟨_, hg, rfl⟩, g3⟩
    · exact ⟨⟨s, e2, g2⟩, g3⟩
  refine ⟨R.f0, R.fh, R.keep, R.al, R.nw, by rw [List.length_set]; exact R.len, fun j s h => ?_, fun j k b hj hk => R.ap j k b (up j b hj) (up k b hk), R.tb, R.mc⟩
  rcases getset h with ⟨e1, e2⟩ | ⟨e1, e2⟩
  · subst e1
    rw [← e2]
    obtain ⟨a2, vs2, e3, g1, g2, g3, g4⟩ := R.ow hg
    cases g4
    exact ⟨a2, [], join_some.mpr e3, g1, g2, g3, .nil, sz, NzA.nil⟩
  · exact R.sl j s e2
/-- a block that ends by handing back such a list -/
structure Bz (X : Cx) (S : Su) (sts : List Stmt) (Γ : Gm) (m : W (List D)) : Prop where
  ex : ∃ t : TS, PSs X sts t ∧ ∀ (N : En) (σ : St) (F H : Hp) (Z : Ends) (φ : List D → Prop), Rel X.K S N Γ σ F H → SzOk H → m φ →
    (∀ l a us F' H', φ l → Fin S N F' H' → H' a = some (.lst us) → F' a = none → N.H0 a = none → RpA F' us l → NzA N.F0 F' us l → Z.rt (.ref a) H') → t Z σ H
/-- x = []; a loop; return x -/
theorem bz_loop {s1 s2 : Stmt} {Γ1 : Gm} {mb : W (Out (List D) Empty)} {E : Hp → List D → Gm} (C : Cok X sc N Vs O G) (hi : N[i]? = some x) (hv : Vs.contains i = true)
    (h1 : Sv X S s1 Γ (W.nxt (W.pure []) : W (Out (List D) Empty)) (fun l => Γ1.set i (.ow l)) (fun b => nomatch b)) (hl : i < Γ1.length) (hE : ∀ Z l, (E Z l)[i]? = some (.oz Z l)) (h2 : ∀ Z, Sv X S s2 (Γ1.set i (.oz Z [])) mb (E Z) (fun b => nomatch b)) :
    Bz X S [s1, s2, .Return (some (.Name x p2)) pos] Γ (W.bind mb fun o => match o with | .nx t => W.pure t | _ => W.fail) := by
  obtain ⟨t1, p1, k1⟩ := h1.ex
  have hx := C.dN x (List.mem_of_getElem? hi)
  have p3 := ps_ret (pos := pos) (pe_var (i := i) (pos := p2) (by rw [C.hN]; exact hi) (C.vis i x hv hi) hx.1 hx.2)
  have p2' : PS X s2 fun Z σ H => ∃ F0 M F φ, Rel X.K S M (Γ1.set i (.oz F0 [])) σ F H ∧ SzOk H ∧ mb φ ∧ (∀ l σ' F' H', φ (.nx l) → Rel X.K S M (E F0 l) σ' F' H' → SzOk H' → Z.nx σ' H') ∧ (∀ d, ¬ φ (.rt d)) ∧ ∀ d, ¬ φ (.ro d) := ⟨fun pins s σ H D I ⟨F0, M, F, φ, R, z, hm, q1, q2, q3⟩ => by
    obtain ⟨t2, p2', k2⟩ := (h2 F0).ex
    exact p2'.run pins s σ H D I (k2 M σ F H D φ R z hm q1 (fun d _ _ _ h => absurd h (q2 d)) (fun l _ _ _ _ h => absurd h (q3 l)) (fun b => nomatch b) (fun b => nomatch b))⟩
  refine ⟨_, pss_cons p1 (pss_cons p2' (pss_one p3)), fun M σ F H Z φ R z hm q => ?_⟩
  refine k1 M σ F H _ (fun o => o = .nx []) R z rfl (fun l σ1 F1 H1 hl1 R1 z1 => ?_) (fun _ _ _ _ h => nomatch h) (fun _ _ _ _ _ h => nomatch h) (fun b => nomatch b) (fun b => nomatch b)
  cases hl1
  have R2 := R1.tooz (i := i) (List.getElem?_set_self hl) R1.f0
  rw [List.set_set] at R2
  refine ⟨M.F0, M, F1, _, R2, z1, hm, fun l σ2 F2 H2 hl2 R2 z2 => ?_, fun d h => h.elim, fun d h => h.elim⟩
  obtain ⟨c, vs2, e3, q1, q2, q3, q4, _, q5⟩ := R2.oz (hE M.F0 l)
  exact ⟨_, e3, q l c vs2 F2 H2 hl2 R2.fin q1 q2 q3 q4 q5⟩
theorem dfnk_z {P : Program} {w : World} {K : PySem.W.Frag} {mg : Str → Option Value} {base : Heap} {x : Str} {st : Stmt} {N ps ks : List Str} {k a b : Nat} {T : List (Addr × Str)} {m : List D → W (List D)} (F : HereK K mg x st ps ks a b) (Sc : FnScope N ps (defScope st)) (n : Nat) (hn : N.length = ps.length + n) (hm : ∀ ds φ, m ds φ → ds.length = ps.length)
    (hb : ∀ X, Run P w K mg base N (defScope st) k X → ∀ ds, ds.length = ps.length → Bz X ⟨none, T⟩ (defBody st) (ds.map .va ++ List.replicate n .un) (m ds)) : DfnK P w K mg base (k + 1) x ks a b (spZ T m) := by
  obtain ⟨f, fd, F0, hm', hb'⟩ := F
  refine ⟨f, fd, ps, ?_, hm', F0.kp, hb'⟩
  refine F0.ok Sc (fun vs H Q E ⟨F0, ds, φ, _, r, _, hd, _⟩ => by rw [r.length]; exact hm ds φ hd) fun cdv A outer s H vs Q E hr ⟨F0, ds, φ, fh, r, t, hd, q⟩ => ?_
  obtain ⟨tb, pb, kb⟩ := (hb _ (Run.of hr) ds (hm ds φ hd)).ex
  exact ⟨_, szPSs pb, fun z => kb ⟨F0, H⟩ _ F0 H _ _ (start_rel (T := T) (N := N) n (by rw [r.length, hm ds φ hd]; exact hn) fh r t) z hd fun l c us F' H' hl R' q1 q2 q3 q4 q5 => q l c us F' H' hl ⟨R'.f0, fun b o e n _ => R'.keep b o e (fun p hp => nomatch hp) n, R'.al, R'.nw⟩ R'.fh R'.tb q1 q2 q3 q4 q5⟩
end
end Dv
end
section
/-! Dv12: for f in x: if f[0] != 'amount': f[1].clear() -/
namespace Dv
open PySem PySem.Spec L2
open PyProof.Rows hiding St
/-- the cells under a word hold whole numbers -/
def ivAll : Gm → Prop
  | [] => True
  | s :: r => (match s with | .iv I => ∀ l, I l → ∀ d ∈ l, ∃ k, d = PyData.int k | _ => True) ∧ ivAll r
theorem ivAll_get : ∀ {Γ : Gm}, ivAll Γ → ∀ (n : Nat) (I : List D → Prop), Γ[n]? = some (Sl.iv I) → ∀ l, I l → ∀ d ∈ l, ∃ k, d = PyData.int k
  | [], _, n, I, h => by simp at h
  | s :: r, h, 0, I, e => by
    simp at e
    subst e
    exact h.1
  | s :: r, h, n + 1, I, e => ivAll_get h.2 n I (by simpa using e)
section
variable {X : Cx} {S : Su} {Γ : Gm} {sc : Scope} {N : List Str} {Vs O : List Nat} {G : List Str} {τ β : Type} {pos p2 : Pos} {i j : Nat} {x y : Str} {L : β → Gm}
/-- a pair; its second item, where it is cleared: a list that no name holds -/
def Clr (tag : Str) (M : En) (F : Hp) (a : Addr) (own : Addr → Prop) (H : Hp) (u : V) : Prop :=
  ∃ t s z, u = .ref t ∧ H t = some (.tup [.str s, z]) ∧ (s ≠ tag → ∃ b ys, z = .ref b ∧ H b = some (.lst ys) ∧ F b = none ∧ M.H0 b = none ∧ b ≠ a ∧ ¬ own b)
theorem Clr.upd {tag : Str} {M : En} {F : Hp} {a : Addr} {own : Addr → Prop} {H : Hp} {u : V} {c : Addr} {ys us : List V} (h : Clr tag M F a own H u) (hc : H c = some (.lst ys)) : Clr tag M F a own (upd H c (.lst us)) u := by
  obtain ⟨t, s, z, rfl, h1, h2⟩ := h
  have nt : t ≠ c := fun e => by
    rw [e, hc] at h1
    cases h1
  refine ⟨t, s, z, rfl, by rw [upd_ne nt]; exact h1, fun hs => ?_⟩
  obtain ⟨b, ys', rfl, g1, g2⟩ := h2 hs
  by_cases e : b = c
  · subst e
    exact ⟨b, us, rfl, upd_same, g2⟩
  · exact ⟨b, ys', rfl, by rw [upd_ne e]; exact g1, g2⟩
theorem ps_clear {tag : Str} {ap cp q1 q2 q3 q4 q5 q6 q7 q8 q9 q10 q13 q14 : Pos} {k1 k2 k3 : Nat} (C : Cok X sc N Vs O G) (hi : N[i]? = some x) (hv : Vs.contains i = true) (hj : N[j]? = some y) (hvj : Vs.contains j = true) (hoj : O.contains j = true) (hij : i ≠ j)
    (hl : (ap.endLine == cp.line) = true) (hb : attributeBase (.Subscript (.Name y q6) (.Constant (.int 1) k3 q7) q8) "clear" X.env (eval (.Subscript (.Name y q6) (.Constant (.int 1) k3 q7) q8) X.env) = eval (.Subscript (.Name y q6) (.Constant (.int 1) k3 q7) q8) X.env)
    (hs : swapsWith (.Call (.Attribute (.Subscript (.Name y q6) (.Constant (.int 1) k3 q7) q8) "clear" ap) [] [] cp) none q9.line X.env = pure false)
    (hf : ∀ z, foldedSetIterable (.Name x q2) X.env z = pure z) :
    ∃ t : TS, PS X (.For (.Name y q1) (.Name x q2) [.If (.Compare (.Subscript (.Name y q3) (.Constant (.int 0) k1 q4) q5) [.NotEq] [.Constant (.str tag) k2 q14] q13) [.Expr (.Call (.Attribute (.Subscript (.Name y q6) (.Constant (.int 1) k3 q7) q8) "clear" ap) [] [] cp) q9] [] q10] [] pos) t ∧
      ∀ (M : En) (σ : St) (F H : Hp) (Z : Ends) (a : Addr) (us : List V), Rel X.K S M Γ σ F H → SzOk H → Γ[i]? = some .un → Γ[j]? = some .un → σ[i]? = some (some (.ref a)) → H a = some (.lst us) → (∀ u ∈ us, Clr tag M F a (fun b => ∃ n, OwAt Γ σ n b) H u) →
        (∀ σ' H', Rel X.K S M Γ σ' F H' → SzOk H' → Z.nx σ' H') → t Z σ H := by
  have hxi := C.dN x (List.mem_of_getElem? hi)
  have hxj := C.dN y (List.mem_of_getElem? hj)
  have hlj := C.loc j y hoj hj
  have vi := fun q => pe_var (i := i) (pos := q) (by rw [C.hN]; exact hi) (C.vis i x hv hi) hxi.1 hxi.2
  have vj := fun q => pe_var (i := j) (pos := q) (by rw [C.hN]; exact hj) (C.vis j y hvj hj) hxj.1 hxj.2
  have pt := pt_cmpR (pos := q13) (op_ne2 C.u64) (pe_ix (pos := q5) ix_seq (vj q3) (pe_int (i := 0) (j := k1) (pos := q4)) (fun _ _ => rfl)) (pe_str (x := tag) (j := k2) (pos := q14)) rfl
  have pc := ps_expr (pos := q9) (pe_bm0 (apos := ap) (cpos := cp) PySem.F.plainAttrs_list PySem.F.slot_list_clear PySem.F.type_list_clear mt_clear (pe_ix (pos := q8) ix_seq (vj q6) (pe_int (i := 1) (j := k3) (pos := q7)) (fun _ _ => rfl)) hb hl) hs
  have pb := pss_one (ps_if (pos := q10) pt (pss_one pc) pss_nil)
  refine ⟨_, ps_for C.po C.calm (pi_list (tg := .Name y q1) (vi q2)) (pg_name (pos := q1) (i := j) (by rw [C.hN]; exact C.nd) (by rw [C.hN]; exact hj) hlj.1 hlj.2) pb hf, fun M σ F H Z a us R z gi gj ea ha hu q => ?_⟩
  have w := walk_list (K := X.K) (a := a) (xs := us)
  refine ⟨_, ea, a, rfl, ⟨us, SqL.of ha⟩, fun k m σ' H' => m = us.length - k ∧ k ≤ us.length ∧ Rel X.K S M Γ σ' F H' ∧ SzOk H' ∧ H' a = some (.lst us) ∧ (∀ n, n ≠ j → σ'[n]? = σ[n]?) ∧ ∀ u ∈ us, Clr tag M F a (fun b => ∃ n, OwAt Γ σ n b) H' u, ⟨us.length, rfl, Nat.zero_le _, R, z, ha, fun _ _ => rfl, hu⟩, ?_⟩
  rintro k m σ' H' ⟨rfl, hk, R', z', ha', hσ, hu'⟩
  by_cases hlt : k < us.length
  · refine .inr ⟨w.goes k H' hlt (SqL.of ha'), fun σ2 H2 => Rel X.K S M Γ σ2 F H2 ∧ SzOk H2 ∧ H2 a = some (.lst us) ∧ (∀ n, n ≠ j → σ2[n]? = σ[n]?) ∧ ∀ u ∈ us, Clr tag M F a (fun b => ∃ n, OwAt Γ σ n b) H2 u, fun σ2 H2 h => ⟨us.length - (k + 1), by omega, rfl, hlt, h⟩, fun v H2 yl => ?_⟩
    obtain ⟨rfl, hy⟩ := w.yields k H' v H2 hlt (SqL.of ha') yl
    have hm : v ∈ us := List.mem_of_getElem? hy
    obtain ⟨t, s, zz, rfl, h1, h2⟩ := hu' v hm
    have hjl : j < σ'.length := by
      rw [R'.len]
      by_cases q : j < Γ.length
      · exact q
      · rw [List.getElem?_eq_none (by omega)] at gj
        cases gj
    have R2 : Rel X.K S M Γ (σ'.set j (some (.ref t))) F H2 := by
      have := R'.set (i := j) (v := .ref t) (s := .un) trivial (fun z => by cases z)
      have e : Γ.set j .un = Γ := by
        apply List.ext_getElem?
        intro n
        by_cases q : j = n
        · subst q
          rw [List.getElem?_set_self (by rw [← R'.len]; exact hjl), gj]
        · rw [List.getElem?_set_ne q]
      rw [e] at this
      exact this
    have ej : (σ'.set j (some (.ref t)))[j]? = some (some (.ref t)) := List.getElem?_set_self hjl
    have hσ2 : ∀ n, n ≠ j → (σ'.set j (some (.ref t)))[n]? = σ[n]? := fun n hn => by
      rw [List.getElem?_set_ne (Ne.symm hn)]
      exact hσ n hn
    -- the test
    refine ⟨_, ej, .inr (.inl ⟨t, [.str s, zz], 0, .str s, rfl, rfl, SqT.of h1, rfl, ?_⟩)⟩
    refine p2_ne F H2 (.str s) (.str tag) (.str s) (.str tag) _ (fun b => b = decide (s ≠ tag)) R2.fh z' (.str _) (.str _) ?_ fun b hb => ⟨b, rfl, ?_⟩
    · refine ⟨.inl rfl, ?_⟩
      show (!PyData.eqv (.str s) (.str tag)) = decide (s ≠ tag)
      rw [eqv_str, dec_str]
      by_cases h : s = tag <;> simp [h]
    · subst hb
      by_cases hs : s = tag
      · simp only [hs, ne_eq, not_true_eq_false, decide_false]
        exact ⟨R2, z', ha', hσ2, hu'⟩
      · simp only [hs, ne_eq, not_false_eq_true, decide_true, if_true]
        obtain ⟨b, ys, rfl, g1, g2, g3, g4, g5⟩ := h2 hs
        refine ⟨_, ej, .inr (.inl ⟨t, [.str s, .ref b], 1, .ref b, rfl, rfl, SqT.of h1, rfl, .inl ⟨rfl, _, SqL.of g1⟩, b, ys, rfl, rfl, g1, ?_⟩)⟩
        have nown : ∀ n, ¬ OwAt Γ (σ'.set j (some (.ref t))) n b := fun n ⟨⟨s', e1, e2⟩, e3⟩ => by
          by_cases q : n = j
          · subst q
            rw [gj] at e1
            cases e1
            cases e2
          · exact g5 ⟨n, ⟨s', e1, e2⟩, by rw [← hσ2 n q]; exact e3⟩
        exact ⟨R2.loose g1 g2 g3 nown, szok_upd z' (Nat.zero_le _), by rw [upd_ne (Ne.symm g4)]; exact ha', hσ2, fun u hu => (hu' u hu).upd g1⟩
  · have e : k = us.length := by omega
    subst e
    exact .inl ⟨w.stops H' (SqL.of ha'), q σ' H' R' z'⟩
theorem RpA.ints {F F' : Hp} : ∀ {vs : List V} {ds : List D}, RpA F vs ds → (∀ d ∈ ds, ∃ k, d = PyData.int k) → RpA F' vs ds
  | _, _, .nil, _ => .nil
  | _, _, .cons (d := d) r t, h => by
    obtain ⟨k, rfl⟩ := h d (List.mem_cons_self ..)
    rw [r.of_int]
    exact .cons (.int k) (RpA.ints t fun e he => h e (List.mem_cons_of_mem _ he))
/-- x = f(..): pairs with new lists; a test; the lists are cleared: what is frozen is again what stood before -/
theorem bv_turn {ea test : Expr} {es : List Expr} {kws : List Keyword} {ks : List Str} {p q0 q1 q2 q3 q4 q5 q6 q7 q8 q9 q10 q11 q12 q13 q14 ap cp : Pos} {k1 k2 k3 g0 : Nat} {tag f : Str} {bt : List Stmt} {m : List D → W (List D)} {mr mk : W (List D)} {mt : List D → W Bool} {mf : W (Out Empty β)}
    (C : Cok X sc N Vs O G) (hi : N[i]? = some x) (hv : Vs.contains i = true) (hoi : O.contains i = true) (hj : N[j]? = some y) (hvj : Vs.contains j = true) (hoj : O.contains j = true) (hij : i ≠ j) (gi : Γ[i]? = some .un) (gj : Γ[j]? = some .un)
    (hg : G[g0]? = some f) (c : CalG X f ks (ea :: es).length kws.length (spZ S.T m)) (ha : Av X S Γ (ea :: es) mr) (hkw : Kv X S Γ kws mk)
    (hall : (backToKw p (keywordEach kws X.env)).all (·.1.isSome) = true) (hks : (backToKw p (keywordEach kws X.env)).filterMap (·.1) = ks) (hs1 : starEach (ea :: es) X.env = (false, eval ea X.env) :: starEach es X.env)
    (hp : ((backTo p (starEach (ea :: es) X.env)).any (·.1) || (backToKw p (keywordEach kws X.env)).any (·.1.isNone)) = false)
    (hsw : swapsWith (.Call (.Name f q12) (ea :: es) kws p) (some (.Name x q0)) q11.line X.env = pure false)
    (ht : ∀ l, Tb X S (Γ.set i (.ow l)) test (mt l)) (hbt : ∀ l, Bv X S bt (Γ.set i (.ow l)) mf (fun e => nomatch e) L)
    (hIv : ivAll Γ)
    (hl : (ap.endLine == cp.line) = true) (hb : attributeBase (.Subscript (.Name y q6) (.Constant (.int 1) k3 q7) q8) "clear" X.env (eval (.Subscript (.Name y q6) (.Constant (.int 1) k3 q7) q8) X.env) = eval (.Subscript (.Name y q6) (.Constant (.int 1) k3 q7) q8) X.env)
    (hs : swapsWith (.Call (.Attribute (.Subscript (.Name y q6) (.Constant (.int 1) k3 q7) q8) "clear" ap) [] [] cp) none q9.line X.env = pure false)
    (hf : ∀ z, foldedSetIterable (.Name x q2) X.env z = pure z) :
    Bv X S [.Assign [.Name x q0] (.Call (.Name f q12) (ea :: es) kws p) q11, .If test bt [] p2, .For (.Name y q1) (.Name x q2) [.If (.Compare (.Subscript (.Name y q3) (.Constant (.int 0) k1 q4) q5) [.NotEq] [.Constant (.str tag) k2 q14] q13) [.Expr (.Call (.Attribute (.Subscript (.Name y q6) (.Constant (.int 1) k3 q7) q8) "clear" ap) [] [] cp) q9] [] q10] [] pos] Γ
      (W.bind (W.bind mr fun us => W.bind mk fun ws => m (us ++ ws)) fun l => W.ite (mt l) (W.stop mf) (W.need (∀ d ∈ l, ∃ s z, d = .tuple [.str s, z] ∧ (s ≠ tag → ∃ k, z = .list k)) (W.pure (.nx ())))) (fun _ => Γ) L := by
  have hI := ivAll_get hIv
  obtain ⟨k0, fa, fd, ps, F0, hr, hm', hk, hbd⟩ := c
  obtain ⟨t, pa, ka⟩ := ha.ex
  obtain ⟨tk, pk, kk⟩ := hkw.ex
  have hxi := C.loc i x hoi hi
  have pe := pe_callK (p := q12) F0 hr (C.gl g0 f hg) hm' hk hbd (E := E0) pass0 pa pk hall hks (C.dG f (List.mem_of_getElem? hg)).1 hs1 hp
  have p1 := ps_set (pos := q11) (i := i) (by rw [C.hN]; exact C.nd) (by rw [C.hN]; exact hi) hxi.1 (szPE pe) hsw hxi.2
  have pt : PT X test fun σ H Q => ∃ l M F φ, Rel X.K S M (Γ.set i (.ow l)) σ F H ∧ SzOk H ∧ mt l φ ∧ ∀ b F' H', φ b → Rel X.K S M (Γ.set i (.ow l)) σ F' H' → Xt (Γ.set i (.ow l)) σ F H F' H' → SzOk H' → Q b H' := ⟨fun pins s σ H Q I ⟨l, M, F, φ, R, z, hm, h1⟩ => by
    obtain ⟨tb, pb, kb⟩ := (ht l).ex
    exact pb.run pins s σ H Q I (kb M σ F H Q φ R z hm h1)⟩
  have pbt : PSs X bt fun Z σ H => ∃ l M F φ, Rel X.K S M (Γ.set i (.ow l)) σ F H ∧ SzOk H ∧ mf φ ∧
    (∀ d v F' H', φ (.rt d) → Fin S M F' H' → Rp F' v d → Z.rt v H') ∧
    (∀ l a us F' H', φ (.ro l) → Fin S M F' H' → H' a = some (.lst us) → F' a = none → M.H0 a = none → RpA F' us l → Z.rt (.ref a) H') ∧
    (∀ b σ' F' H', φ (.bk b) → Rel X.K S M (L b) σ' F' H' → SzOk H' → Z.bk σ' H') ∧
    (∀ b σ' F' H', φ (.ct b) → Rel X.K S M (L b) σ' F' H' → SzOk H' → Z.ct σ' H') := ⟨fun pins s σ H Z I ⟨l, M, F, φ, R, z, hm, h2, h3, h4, h5⟩ => by
    obtain ⟨tb, pb, kb⟩ := (hbt l).ex
    exact pb.run pins s σ H Z I (kb M σ F H Z φ R z hm (fun e => nomatch e) h2 h3 h4 h5)⟩
  obtain ⟨t3, p3, k3⟩ := ps_clear (S := S) (Γ := Γ) (tag := tag) (ap := ap) (cp := cp) (q1 := q1) (q2 := q2) (q3 := q3) (q4 := q4) (q5 := q5) (q6 := q6) (q7 := q7) (q8 := q8) (q9 := q9) (q10 := q10) (q13 := q13) (q14 := q14) (pos := pos) (k1 := k1) (k2 := k2) (k3 := k3) C hi hv hj hvj hoj hij hl hb hs hf
  refine ⟨_, pss_cons p1 (pss_cons (ps_if (pos := p2) pt pbt pss_nil) (pss_one p3)), fun M σ F H Z φ R z hm h1 h2 h3 h4 h5 => ?_⟩
  intro _
  refine ka M σ F H _ _ R z hm fun vs ds F1 H1 hm1 R1 x1 z1 r1 n1 => ?_
  refine kk M σ F1 H1 _ _ R1 z1 hm1 fun ws es' F2 H2 hm2 R2 x2 r2 n2 => ?_
  have eg : gk (ea :: es).length kws.length vs ws = vs ++ ws := by
    unfold gk
    rw [if_pos ⟨by rw [r1.length, n1], by rw [r2.length, n2]⟩]
  rw [eg]
  refine ⟨F2, ds ++ es', _, R2.fh, (r1.mono x2.sf).append r2, R2.tb, hm2, fun l a us F3 H3 hd x3 f3 t3' g1 g2 g3 r3 nz hH => ?_⟩
  have R3 := R2.back x3 f3 t3'
  have R3' := R3.seto (i := i) g1 g2 (none_back R2.al g3) r3 (new_apart R2 g3)
  have il : i < Γ.length := by
    by_cases q : i < Γ.length
    · exact q
    · rw [List.getElem?_eq_none (by omega)] at gi
      cases gi
  have ea : (σ.set i (some (V.ref a)))[i]? = some (some (.ref a)) := List.getElem?_set_self (by rw [R.len]; exact il)
  refine ⟨l, M, F3, _, R3', hH, hd, fun b F4 H4 hb4 R4 x4 z4 => ?_⟩
  cases b with
  | true => exact ⟨l, M, F4, _, R4, z4, hb4, fun d v F' H' h => h2 d v F' H' h, fun l a us F' H' h => h3 l a us F' H' h, fun b σ' F' H' h => h4 b σ' F' H' h, fun b σ' F' H' h => h5 b σ' F' H' h⟩
  | false =>
    obtain ⟨hsh, hφ⟩ := hb4
    have hsh : ∀ d ∈ l, ∃ s z, d = .tuple [.str s, z] ∧ (s ≠ tag → ∃ k, z = .list k) := hsh
    have ivn : ∀ b, IvAt (Γ.set i (.ow l)) (σ.set i (some (.ref a))) b → IvAt Γ σ b ∧ IvAt Γ (σ.set i (some (.ref a))) b := fun b ⟨n, I, e1, e2⟩ => by
      rcases getset e1 with ⟨_, e4⟩ | ⟨e3, e4⟩
      · cases e4
      · exact ⟨⟨n, I, e4, by rw [List.getElem?_set_ne e3] at e2; exact e2⟩, ⟨n, I, e4, e2⟩⟩
    have a4 : H4 a = some (.lst us) := by
      refine x4.kp a _ g1 (fun _ z => by cases z) fun h => ?_
      obtain ⟨⟨n, I, e1, e2⟩, _⟩ := ivn a h
      obtain ⟨o, e3, _⟩ := R2.own_cell ⟨⟨_, e1, rfl⟩, e2⟩
      rw [e3] at g3
      cases g3
    have eΓ : Γ.set i .un = Γ := by
      apply List.ext_getElem?
      intro n
      by_cases q : i = n
      · subst q
        rw [List.getElem?_set_self il, gi]
      · rw [List.getElem?_set_ne q]
    have R5 : Rel X.K S M Γ (σ.set i (some (.ref a))) F2 H2 := by
      have := R2.set (i := i) (v := .ref a) (s := .un) trivial (fun z => by cases z)
      rw [eΓ] at this
      exact this
    have s24 : Same F2 H4 := fun b o e => R4.fh b o (x4.sf b o (x3.sf b o e))
    have R6 : Rel X.K S M Γ (σ.set i (some (.ref a))) F2 H4 := by
      refine R5.step (Same.refl _) s24 (fun b o e n ni => x4.kp b o (x3.kp b o e n no_iv) n fun h => ni (ivn b h).2) (fun b e => x4.al b (x3.al b e)) (fun b e q => absurd q e) R4.tb fun n I c e1 e2 => ?_
      have hn : i ≠ n := fun z => by
        subst z
        rw [gi] at e1
        cases e1
      obtain ⟨c', vs', l', e3, k1', _, _, k4, k5⟩ := R4.iv (i := n) (I := I) (by rw [List.getElem?_set_ne hn]; exact e1)
      rw [e2] at e3
      cases e3
      refine ⟨vs', l', k1', ?_, k5⟩
      have all := hI n I e1 l' k5
      exact RpA.ints k4 all
    refine k3 M _ F2 H4 _ a us R6 z4 gi gj ea a4 (fun u hu => ?_) fun σ' H' R' z' => h1 () σ' F2 H' hφ R' z'
    obtain ⟨n, hn⟩ := List.getElem?_of_mem hu
    obtain ⟨d, hd1, rd⟩ := r3.get' hn
    obtain ⟨s, zz, rfl, hz⟩ := hsh d (List.mem_of_getElem? hd1)
    obtain ⟨c, vs', rfl, q1', q2'⟩ := rd.of_tup
    cases q2' with
    | cons ra rb =>
      cases rb with
      | cons rz rn =>
        cases rn
        rw [ra.of_str] at q1'
        refine ⟨c, s, _, rfl, R4.fh _ _ (x4.sf _ _ q1'), fun hs => ?_⟩
        obtain ⟨k, rfl⟩ := hz hs
        obtain ⟨b, ys, rfl, b1, b2⟩ := rz.of_list
        obtain ⟨c2, w2, b', e1, e2, e3⟩ := nz n _ _ hn hd1 s k rfl
        cases e1
        rw [q1'] at e2
        cases e2
        have bH : H2 b = none := x3.nw b (by rw [b1]; simp) e3
        refine ⟨b, ys, rfl, R4.fh _ _ (x4.sf _ _ b1), e3, none_back R2.al bH, (fun z => by rw [z, g2] at b1; cases b1), ?_⟩
        rintro ⟨n2, ⟨s2, o1, o2⟩, o3⟩
        have hn2 : i ≠ n2 := fun z => by
          subst z
          rw [gi] at o1
          cases o1
          cases o2
        obtain ⟨o, e5, _⟩ := R2.own_cell ⟨⟨s2, o1, o2⟩, by rw [List.getElem?_set_ne hn2] at o3; exact o3⟩
        rw [bH] at e5
        cases e5
end
end Dv
end
section
/-! Dv13: the law's own call, where nothing is being shown (repr is at hand); the law's head. -/
namespace Dv
open PySem PySem.Spec L2
open PyProof.Rows hiding St

/-- what is wanted of the law's call -/
abbrev LawEnd (s₁ : Shared) : Result → Shared → Prop := fun r s' =>
  r = .ok (.ret (.bool true)) ∧ OldK s₁.heap s'.heap ∧ s'.os = s₁.os ∧ AllBare s'.gens
/-- the law's call at a heap in which the script alone may be tracked -/
def LawGo (P : Program) (w : World) (K : PySem.W.Frag) (mg : Str → Option Value) (fa : Addr) (most : Nat) : Prop :=
  ∀ (base : Heap) (s₁ : Shared) (H : Hp) (a : Addr) (ns : List Int), ns.length ≤ most → K.In base → base.Ns mainGlobals mg → SqL K H a (ns.map V.int) → Only H →
    Env0 P w K mg base callerA [] s₁ H → codeAny (model P w) callerA (.call (.ref fa) ⟨[.ref a], []⟩) (CR CX0 [] P w H s₁ (fun v _ => v = .bl true) fun _ _ _ => False) s₁
section
variable {P : Program} {w : World} {K : PySem.W.Frag} {mg mb : Str → Option Value} {fa a : Addr} {s₁ : Shared} {vs : List Value} {ns : List Int}
theorem lawEnd_of {H : Hp} (hok : HOk P w H s₁.heap) (hO : Only H) {r : Result} {s' : Shared} (h : CR CX0 [] P w H s₁ (fun v _ => v = .bl true) (fun _ _ _ => False) r s') : LawEnd s₁ r s' := by
  match r, h with
  | .ok (.ret u), ⟨v, H', os, bare, un, ok', rv, q⟩ =>
    have q : v = .bl true := q
    cases q
    have eu : u = Value.bool true := rv
    cases eu
    refine ⟨rfl, OldK.of_keep ?_, os, bare⟩
    intro b o e
    match q : H b with
    | none => exact un.keep b o e q (fun z => nomatch z) (by simp)
    | some x =>
      obtain z | ⟨ob, xs, z⟩ := hO b
      · exact nomatch q.symm.trans z
      · have e1 := (hok b _ z).1
        have e2 := (ok' b _ (un.frzs b ob _ z)).1
        rw [← Option.some.inj (e1.symm.trans e)]
        exact e2
/-- the script is a list of whole numbers; it stands in the module's own part, or it is tracked and frozen -/
theorem law_start {most : Nat} (go : LawGo P w K mg fa most) (hm : ns.length ≤ most) (h1 : K.In s₁.heap) (h2 : s₁.heap.Ns mainGlobals mg) (h3 : s₁.heap.Ns builtinsNs mb) (h4 : ∀ x : Str, x ≠ "__name__" → mb x = bootBuiltins x) (h5 : s₁.heap.NoLimit) (h6 : s₁.gens = #[])
    (h7 : s₁.heap.get? a = some { cls := .type "list", data := .seq vs.toArray }) (h8 : IntsAre vs ns) (h9 : ns.length ≤ sizeLine) :
    codeAny (model P w) callerA (.call (.ref fa) ⟨[.ref a], []⟩) (LawEnd s₁) s₁ := by
  -- a heap that holds at most the script
  have at_ : ∀ H : Hp, (∀ b u, H b = some u → b = a ∧ K.lookup a = none) → Only H → HOk P w H s₁.heap → SqL K H a (ns.map V.int) → codeAny (model P w) callerA (.call (.ref fa) ⟨[.ref a], []⟩) (LawEnd s₁) s₁ := by
    intro H hA hO hok hS
    have free : ∀ b, b ≠ a → H b = none := fun b hb => by
      match q : H b with
      | none => rfl
      | some u => exact absurd (hA b u q).1 hb
    have dict : ∀ {b : Addr} {m : Str → Option Value}, s₁.heap.Ns b m → (hidT s₁.heap H).Ns b m := by
      rintro b m ⟨o, es, ep, e, d, r⟩
      have nb : b ≠ a := fun z => by
        rw [z, h7] at e
        have eo := Option.some.inj e
        rw [← eo] at d
        exact nomatch d
      exact ⟨o, es, ep, hidT_get e (free b nb), d, r⟩
    have kin : K.In (hidT s₁.heap H) := fun b o e => by
      refine hidT_get (h1 b o e) ?_
      match q : H b with
      | none => rfl
      | some u =>
        obtain ⟨rfl, z⟩ := hA b u q
        exact nomatch e.symm.trans z
    have lim : (hidT s₁.heap H).NoLimit := by
      obtain ⟨mc, l1, l2⟩ := h5
      exact ⟨mc, dict l1, l2⟩
    have env : Env0 P w K mg (hidT s₁.heap H) callerA [] s₁ H :=
      { frames := rfl, mod := ⟨kin, dict h2, ⟨mb, dict h3, h4⟩, lim⟩, bs := fun b o e => of_hidT e, bsz := Nat.le_of_eq (hidT_size _ _), funs := trivial, frf := (fun b z => nomatch z), hok := hok, bare := .of_eq h6 }
    exact codeAny_mono (go _ s₁ H a ns hm kin (dict h2) hS hO env) fun r s' h => lawEnd_of hok hO h
  have vi := vals_ints h8
  match q : K.lookup a with
  | some o =>
    have eo := Option.some.inj ((h1 a o q).symm.trans h7)
    subst eo
    exact at_ (fun _ => none) (fun b u z => nomatch z) (fun _ => .inl rfl) (fun b u z => nomatch z) (.inr ⟨_, vs.toArray, _, q, rfl, rfl, rfl, by rw [List.size_toArray, h8.length]; exact h9, by simpa using vi⟩)
  | none =>
    have one : ∀ b u, (if b = a then some (HO.frz { cls := .type "list", data := .seq vs.toArray } (.lst (ns.map V.int))) else none) = some u → b = a ∧ u = .frz { cls := .type "list", data := .seq vs.toArray } (.lst (ns.map V.int)) := fun b u z => by
      by_cases hb : b = a
      · rw [if_pos hb] at z
        exact ⟨hb, (Option.some.inj z).symm⟩
      · rw [if_neg hb] at z
        exact nomatch z
    refine at_ (fun b => if b = a then some (.frz { cls := .type "list", data := .seq vs.toArray } (.lst (ns.map V.int))) else none) (fun b u z => ⟨(one b u z).1, q⟩) (fun b => ?_) (fun b u z => ?_) (.inl (.inr ⟨_, if_pos rfl⟩))
    · by_cases hb : b = a
      · exact .inr ⟨_, _, if_pos hb⟩
      · exact .inl (if_neg hb)
    · obtain ⟨rfl, rfl⟩ := one b u z
      exact ⟨h7, by rw [List.length_map]; exact h9, vs, _, vi, h7⟩
/-- the law's def, run where nothing is being shown -/
theorem law_go {st : Stmt} {N ps : List Str} {x : Str} {fd : FuncData} {k n most : Nat} (F : Fun K x x st fa fd) (Sc : FnScope N ps (defScope st)) (hps : ps.length = 1) (hn : N.length = 1 + n) (hb : ∀ (s : Shared) (u : Value), BindsTo s fd ⟨[u], []⟩ [(ps.headD "", u)])
    (hr : Room (k + 1) callerA) {m : List D → W (Out Unit Empty)} (hm : ∀ l : List Int, l.length ≤ most → m (l.map .int) fun o => Out.val o fun d => d = .bool true)
    (hB : ∀ (base : Heap), K.In base → base.Ns mainGlobals mg → ∀ X, Run P w K mg base N (defScope st) k X → X.A.guards = some [] → ∀ l, Bv X ⟨none, []⟩ (defBody st) (.rd l :: List.replicate n .un) (m l) (fun _ => List.replicate N.length .un) (fun b => nomatch b)) :
    LawGo P w K mg fa most := by
  intro base s₁ H a ns hl hin hns hS hO env
  obtain ⟨⟨oc, od, kV, doc, pm, an, cdv, ct, osl, e, lk, hcd⟩, kp⟩ := F
  subst e
  obtain ⟨p, rfl⟩ : ∃ p, ps = [p] := by
    match ps, hps with
    | [p], _ => exact ⟨p, rfl⟩
  have ri : ∀ js : List Int, RpA H (js.map V.int) (js.map PyData.int) := fun js => by
    induction js with
    | nil => exact .nil
    | cons i r ih => exact .cons (.int i) ih
  refine LamX.run_ofS lk hcd Sc (us := [.ref a]) (vs := [.ref a]) hr env (hb s₁ _) (.cons rfl .nil) rfl fun hroom => ?_
  obtain ⟨tb, pb, kb⟩ := (hB base hin hns _ (Run.of hroom) rfl (ns.map .int)).ex
  refine ⟨_, (szPSs pb).nox, fun z => kb ⟨H, H⟩ _ H H _ _ (start_rd (ds := []) (T := []) (N := N) n (by rw [hn]; simp) (Same.refl _) hS (ri ns) .nil (fun p hp => nomatch hp)) z (hm ns hl) ?_ ?_ ?_ (fun b => nomatch b) (fun b => nomatch b)⟩
  · intro u σ' F' H' hq R' z' _
    exact nomatch hq
  · intro d v F' H' hq R' rv
    have hq : d = .bool true := hq
    subst hq
    exact rv.of_bl
  · intro l b us F' H' hq R' _ _ _ _
    exact nomatch hq
/-- the walk: from the head's facts to the law's call -/
theorem walkA {l : PySem.W.OpenLaw} {q : Program} {loose : List Str} {XP : (Str → Option Value) → Heap → Prop} {YP : World → Heap → Prop} {d : DefRec} {K : Params → PySem.W.Frag} {most : Nat} (e1 : l.most = some most) (e2 : most ≤ sizeLine) (e3 : d.params.defaults = [])
    (hK : ∀ (w : World) (h : Heap), YP w h → (K w.params).In h) (go : ∀ (w : World) (mg : Str → Option Value) (fa : Addr) (h : Heap), (K w.params).In h → h.Ns mainGlobals mg → mg d.name = some (.ref fa) → LawGo l.prog w (K w.params) mg fa most) :
    PySem.W.WalkO q loose XP YP l.row.toRowW d [] fun f vs => PySem.call f vs := by
  apply Att.attach_call e1 e3
  intro w s₀ s₁ mg mb fa o pm cd doc a vs ns G Y _ _ _ named script whole short gens
  have kin := hK w _ Y
  exact law_start (go w mg fa _ kin G.T.g named) short kin G.T.g G.T.b G.T.builtins G.T.nolimit gens script whole (Nat.le_trans short e2)
end
section
variable {P : Program} {w : World} {K : PySem.W.Frag} {mg : Str → Option Value} {base : Heap}
theorem Dfn.imp {k : Nat} {x : Str} {sp sp' : Sp} (d : Dfn P w K mg base k x sp) (h : ∀ vs H Q E, sp' vs H Q E → sp vs H Q E) : Dfn P w K mg base k x sp' := by
  obtain ⟨f, fd, ps, F, r⟩ := d
  exact ⟨f, fd, ps, F.imp h, r⟩
theorem spI_imp {T : List (Addr × Str)} {I : List D → Prop} {m m' : List D → W D} (h : ∀ ds φ, m' ds φ → m ds φ) : ∀ vs H Q E, spI T I m' vs H Q E → spI T I m vs H Q E := fun vs H Q E ⟨F, a, us, l, ws, ds, φ, e, h1, h2, h3, h4, h5, h6, h7, hd, q⟩ => ⟨F, a, us, l, ws, ds, φ, e, h1, h2, h3, h4, h5, h6, h7, h ds φ hd, q⟩
theorem spW_imp {T : List (Addr × Str)} {m m' : List D → W D} (h : ∀ ds φ, m' ds φ → m ds φ) : ∀ vs H Q E, spW T m' vs H Q E → spW T m vs H Q E := fun vs H Q E ⟨F, ds, φ, h1, h2, h3, hd, q⟩ => ⟨F, ds, φ, h1, h2, h3, h ds φ hd, q⟩
theorem spO_imp {T : List (Addr × Str)} {m m' : List D → W (List D)} (h : ∀ ds φ, m' ds φ → m ds φ) : ∀ vs H Q E, spO T m' vs H Q E → spO T m vs H Q E := fun vs H Q E ⟨F, ds, φ, h1, h2, h3, hd, q⟩ => ⟨F, ds, φ, h1, h2, h3, h ds φ hd, q⟩
end
end Dv
end
section
/-! Dv14: the plain side: what a mirror says, in plain Lean; sizes and depths of data. -/
namespace Dv
open PySem PySem.Spec L2
open PyProof.Rows hiding St

/-! ### data of bounded shape -/
def leafP : D → Prop
  | .none => True
  | .bool _ => True
  | .int i => i.natAbs < 10 ^ 12
  | .str x => PyData.canLay0 (.str x) = true ∧ x.cps.size ≤ 40
  | _ => False
/-- bs: the most items of a list or a tuple at each depth -/
def fits : List Nat → D → Prop
  | [], d => leafP d
  | b :: bs, d => leafP d ∨ ∃ l, (d = .list l ∨ d = .tuple l) ∧ l.length ≤ b ∧ ∀ x ∈ l, fits bs x
def wB : List Nat → Nat
  | [] => 40
  | b :: bs => max 40 (b * (wB bs + 1))
theorem fits_leaf {bs : List Nat} {d : D} (h : leafP d) : fits bs d := by
  cases bs with
  | nil => exact h
  | cons b bs => exact .inl h
theorem fits_list {b : Nat} {bs : List Nat} {l : List D} (h : l.length ≤ b) (q : ∀ x ∈ l, fits bs x) : fits (b :: bs) (.list l) := .inr ⟨l, .inl rfl, h, q⟩
theorem fits_tup {b : Nat} {bs : List Nat} {l : List D} (h : l.length ≤ b) (q : ∀ x ∈ l, fits bs x) : fits (b :: bs) (.tuple l) := .inr ⟨l, .inr rfl, h, q⟩
theorem leaf_int {i : Int} (h : i.natAbs < 10 ^ 12) : leafP (.int i) := h
section
variable {α : Type}
theorem layAll : ∀ {l : List D}, (∀ x ∈ l, x.canLay0 = true) → PyData.canLayAll0 l = true
  | [], _ => by simp only [PyData.canLayAll0]
  | x :: l, h => by
    simp only [PyData.canLayAll0, Bool.and_eq_true]
    exact ⟨h x (List.mem_cons_self ..), layAll fun y hy => h y (List.mem_cons_of_mem _ hy)⟩
theorem showAll : ∀ {l : List D}, (∀ x ∈ l, x.showable = true) → PyData.showableAll l = true
  | [], _ => by simp only [PyData.showableAll]
  | x :: l, h => by
    simp only [PyData.showableAll, Bool.and_eq_true]
    exact ⟨h x (List.mem_cons_self ..), showAll fun y hy => h y (List.mem_cons_of_mem _ hy)⟩
theorem shortAll {B : Nat} : ∀ {l : List D}, (∀ x ∈ l, x.intsShort B = true) → PyData.intsShortAll B l = true
  | [], _ => by simp only [PyData.intsShortAll]
  | x :: l, h => by
    simp only [PyData.intsShortAll, Bool.and_eq_true]
    exact ⟨h x (List.mem_cons_self ..), shortAll fun y hy => h y (List.mem_cons_of_mem _ hy)⟩
theorem depAll {n : Nat} : ∀ {l : List D}, (∀ x ∈ l, x.depth ≤ n) → PyData.depthAll l ≤ n
  | [], _ => by simp only [PyData.depthAll]; omega
  | x :: l, h => by
    simp only [PyData.depthAll]
    exact Nat.max_le.mpr ⟨h x (List.mem_cons_self ..), depAll fun y hy => h y (List.mem_cons_of_mem _ hy)⟩
theorem wAll {n : Nat} : ∀ {l : List D}, (∀ x ∈ l, x.weight ≤ n) → PyData.weightAll l ≤ l.length * (n + 1)
  | [], _ => by simp only [PyData.weightAll]; omega
  | x :: l, h => by
    simp only [PyData.weightAll, List.length_cons]
    have h1 := h x (List.mem_cons_self ..)
    have h2 := wAll (n := n) fun y hy => h y (List.mem_cons_of_mem x hy)
    rw [Nat.add_mul, Nat.one_mul]
    omega
end
theorem leaf_all {d : D} (h : leafP d) : d.canLay0 = true ∧ d.showable = true ∧ d.intsShort 13 = true ∧ d.depth = 0 ∧ d.weight ≤ 40 := by
  cases d with
  | none => exact ⟨rfl, rfl, rfl, rfl, by simp [PyData.weight]⟩
  | bool b => exact ⟨rfl, rfl, rfl, rfl, by simp [PyData.weight]⟩
  | int i =>
    have h : i.natAbs < 10 ^ 12 := h
    have hl : i.natAbs.log2 < 40 := by
      by_cases z : i.natAbs = 0
      · rw [z]
        decide
      · exact (Nat.log2_lt z).mpr (by omega)
    refine ⟨rfl, ?_, ?_, rfl, ?_⟩
    · simp only [PyData.showable, decide_eq_true_eq]
      omega
    · simp only [PyData.intsShort, decide_eq_true_eq]
      exact PyData.shown_int_le h
    · simp only [PyData.weight]
      split <;> omega
  | str x => exact ⟨h.1, rfl, rfl, rfl, by simp only [PyData.weight]; exact h.2⟩
  | list l => exact h.elim
  | tuple l => exact h.elim
  | dict l => exact h.elim
theorem fits_all : ∀ {bs : List Nat} {d : D}, fits bs d → d.canLay0 = true ∧ d.showable = true ∧ d.intsShort 13 = true ∧ d.depth ≤ bs.length ∧ d.weight ≤ wB bs
  | [], d, h => by
    obtain ⟨a, b, c, e, f⟩ := leaf_all h
    exact ⟨a, b, c, by rw [e]; exact Nat.zero_le _, f⟩
  | n :: bs, d, .inl h => by
    obtain ⟨a, b, c, e, f⟩ := leaf_all h
    exact ⟨a, b, c, by rw [e]; exact Nat.zero_le _, Nat.le_trans f (Nat.le_max_left _ _)⟩
  | n :: bs, d, .inr ⟨l, e, hl, hx⟩ => by
    have a := layAll fun x hm => (fits_all (hx x hm)).1
    have b := showAll fun x hm => (fits_all (hx x hm)).2.1
    have c := shortAll fun x hm => (fits_all (hx x hm)).2.2.1
    have d1 := depAll fun x hm => (fits_all (hx x hm)).2.2.2.1
    have w := wAll fun x hm => (fits_all (hx x hm)).2.2.2.2
    have w2 : l.length * (wB bs + 1) ≤ n * (wB bs + 1) := Nat.mul_le_mul_right _ hl
    have w3 : PyData.weightAll l ≤ wB (n :: bs) := by
      show _ ≤ max 40 (n * (wB bs + 1))
      omega
    rcases e with rfl | rfl
    · exact ⟨by simpa only [PyData.canLay0] using a, by simpa only [PyData.showable] using b, by simpa only [PyData.intsShort] using c, by simp only [PyData.depth, List.length_cons]; omega, by simpa only [PyData.weight] using w3⟩
    · exact ⟨by simpa only [PyData.canLay0] using a, by simpa only [PyData.showable] using b, by simpa only [PyData.intsShort] using c, by simp only [PyData.depth, List.length_cons]; omega, by simpa only [PyData.weight] using w3⟩
theorem fits_shaped {bs : List Nat} {d : D} (h : fits bs d) (hb : bs.length ≤ 60) : SeqAt.shaped d = true := by
  obtain ⟨a, _, _, e, _⟩ := fits_all h
  unfold SeqAt.shaped
  simp only [Bool.and_eq_true, decide_eq_true_eq]
  exact ⟨a, by omega⟩
theorem repr_fits {bs : List Nat} {d : D} (h : fits bs d) (hb : bs.length ≤ 60) (hw : wB bs ≤ 2 ^ 20) (hs : (∃ l, d = .list l) ∨ ∃ l, d = .tuple l) : P.repr1 [d] = W.pure (.str d.shown) := by
  obtain ⟨a, b, c, e, f⟩ := fits_all h
  refine W.need_true ⟨?_, a, b, PyData.hasDict_of_canLay d a, by omega, PyData.shown_fits (B := 13) (by decide) (by decide) (PyData.leavesShort_of_canLay0 13 d a c) (by omega)⟩ _
  rcases hs with ⟨l, rfl⟩ | ⟨l, rfl⟩ <;> rfl
theorem eq_fits {bs cs : List Nat} {a b : D} (h : fits bs a) (q : fits cs b) (hb : bs.length ≤ 60) (hc : cs.length ≤ 60) : P.eq a b = W.pure (PyData.eqv a b) := W.need_true (.inr ⟨fits_shaped h hb, fits_shaped q hc⟩) _
theorem ne_fits {bs cs : List Nat} {a b : D} (h : fits bs a) (q : fits cs b) (hb : bs.length ≤ 60) (hc : cs.length ≤ 60) : P.ne a b = W.pure (!PyData.eqv a b) := W.need_true (.inr ⟨fits_shaped h hb, fits_shaped q hc⟩) _

/-! ### operators on data -/
theorem shp_int (i : Int) : SeqAt.shaped (.int i) = true := by
  unfold SeqAt.shaped
  simp [PyData.canLay0, PyData.depth]
@[simp] theorem eq_ii (i j : Int) : P.eq (.int i) (.int j) = W.pure (decide (i = j)) := by
  unfold P.eq
  rw [W.need_true (.inr ⟨shp_int i, shp_int j⟩)]
  have e : PyData.eqv (.int i) (.int j) = decide (i = j) := by
    simp only [PyData.eqv]
    rfl
  rw [e]
@[simp] theorem ne_ii (i j : Int) : P.ne (.int i) (.int j) = W.pure (!decide (i = j)) := by
  unfold P.ne
  rw [W.need_true (.inr ⟨shp_int i, shp_int j⟩)]
  have e : PyData.eqv (.int i) (.int j) = decide (i = j) := by
    simp only [PyData.eqv]
    rfl
  rw [e]
@[simp] theorem eq_ss (x y : Str) : P.eq (.str x) (.str y) = W.pure (decide (x = y)) := by
  unfold P.eq
  rw [W.need_true (.inl rfl), eqv_str, dec_str]
  rfl
@[simp] theorem ne_ss (x y : Str) : P.ne (.str x) (.str y) = W.pure (!decide (x = y)) := by
  unfold P.ne
  rw [W.need_true (.inl rfl), eqv_str, dec_str]
  rfl
@[simp] theorem mod_ii (i j : Int) (h : 0 < j) : P.mod (.int i) (.int j) = W.pure (.int (i % j)) := W.need_true h _
@[simp] theorem add_ii (i j : Int) : P.add (.int i) (.int j) = W.pure (.int (i + j)) := rfl
@[simp] theorem sub_ii (i j : Int) : P.sub (.int i) (.int j) = W.pure (.int (i - j)) := rfl
@[simp] theorem lt_ii (i j : Int) : P.lt (.int i) (.int j) = W.pure (decide (i < j)) := rfl
@[simp] theorem le_ii (i j : Int) : P.le (.int i) (.int j) = W.pure (decide (i ≤ j)) := rfl
@[simp] theorem gt_ii (i j : Int) : P.gt (.int i) (.int j) = W.pure (decide (j < i)) := rfl
@[simp] theorem ge_ii (i j : Int) : P.ge (.int i) (.int j) = W.pure (decide (j ≤ i)) := rfl
@[simp] theorem neg_i (i : Int) : P.neg (.int i) = W.pure (.int (-i)) := rfl
@[simp] theorem int1_i (i : Int) : P.int1 [.int i] = W.pure (.int i) := rfl
@[simp] theorem len_l (l : List D) : P.len [.list l] = W.pure (.int l.length) := rfl
@[simp] theorem len_t (l : List D) : P.len [.tuple l] = W.pure (.int l.length) := rfl
theorem mul_ii (i j : Int) (h : CMul i j) : P.mul (.int i) (.int j) = W.pure (.int (i * j)) := W.need_true h _
theorem fdiv_ii (i j : Int) (h : CDiv i j) : P.fdiv (.int i) (.int j) = W.pure (.int (i / j)) := W.need_true h _
theorem cmul_r (i j : Int) (h1 : -(2 ^ 64) < j) (h2 : j < 2 ^ 64) : CMul i j := .inr ⟨h1, h2⟩
theorem range_i (n : Nat) (h : n ≤ 2 ^ 20) : P.range1 [.int n] = W.pure (P.rangeL 0 n) := by
  refine W.need_true ⟨?_, ?_, ?_⟩ _
  · show ((n : Int) - 0).toNat ≤ 2 ^ 24
    omega
  · omega
  · omega
theorem atI_ok {α : Type} {l : List α} {i : Nat} {d : α} (h : l[i]? = some d) : atI l (i : Int) = some d := atI_nat h
theorem ix_l {l : List D} {i : Nat} {d : D} (h : l[i]? = some d) : P.ix (.list l) (.int (i : Nat)) = W.pure d := by
  show W.opt (atI l (i : Int)) = _
  rw [atI_ok h]
  rfl
theorem ix_t {l : List D} {i : Nat} {d : D} (h : l[i]? = some d) : P.ix (.tuple l) (.int (i : Nat)) = W.pure d := by
  show W.opt (atI l (i : Int)) = _
  rw [atI_ok h]
  rfl
@[simp] theorem ix_t0 (a : D) (l : List D) : P.ix (.tuple (a :: l)) (.int 0) = W.pure a := ix_t (i := 0) rfl
@[simp] theorem ix_t1 (a b : D) (l : List D) : P.ix (.tuple (a :: b :: l)) (.int 1) = W.pure b := ix_t (i := 1) rfl
@[simp] theorem ix_t2 (a b c : D) (l : List D) : P.ix (.tuple (a :: b :: c :: l)) (.int 2) = W.pure c := ix_t (i := 2) rfl
@[simp] theorem ix_t3 (a b c d : D) (l : List D) : P.ix (.tuple (a :: b :: c :: d :: l)) (.int 3) = W.pure d := ix_t (i := 3) rfl
theorem ix_int {l : List D} {k : Int} (h0 : 0 ≤ k) (h1 : k < l.length) : ∃ d, l[k.toNat]? = some d ∧ P.ix (.list l) (.int k) = W.pure d := by
  have hk : k.toNat < l.length := by omega
  refine ⟨l[k.toNat], List.getElem?_eq_getElem hk, ?_⟩
  have := ix_l (i := k.toNat) (List.getElem?_eq_getElem hk)
  rw [show ((k.toNat : Nat) : Int) = k by omega] at this
  exact this
theorem rangeL_get {n i : Nat} (h : i < n) : (P.rangeL 0 n)[i]? = some (.int (i : Nat)) := by
  unfold P.rangeL
  rw [List.getElem?_map, List.getElem?_range (by omega)]
  simp
theorem rangeL_len (n : Nat) : (P.rangeL 0 n).length = n := by
  unfold P.rangeL
  rw [List.length_map, List.length_range]
  omega
/-! ### loops -/
/-- a loop that only goes on, under a word -/
theorem loop_inv {τ β : Type} {step : D → τ → W (Out τ τ)} (I : Nat → τ → Prop) : ∀ (ds : List D) (k : Nat) (t : τ) (φ : Out τ β → Prop), I k t →
    (∀ i d t ψ, ds[i]? = some d → I (k + i) t → (∀ t', I (k + i + 1) t' → ψ (.nx t')) → step d t ψ) → (∀ t, I (k + ds.length) t → φ (.nx t)) → W.loop step ds t φ
  | [], k, t, φ, h0, _, he => he t h0
  | d :: ds, k, t, φ, h0, hs, he => by
    refine hs 0 d t _ rfl h0 fun t' h' => ?_
    refine loop_inv I ds (k + 1) t' φ h' (fun i d t ψ hd hi q => hs (i + 1) d t ψ hd (by rw [show k + (i + 1) = k + 1 + i by omega]; exact hi) fun t' h => q t' (by rw [show k + 1 + i + 1 = k + (i + 1) + 1 by omega]; exact h)) fun t h => he t (by rw [List.length_cons, show k + (ds.length + 1) = k + 1 + ds.length by omega]; exact h)
theorem mapD_inv {α : Type} {ms : D → W α} {f : α → W D} (R : Nat → D → Prop) : ∀ (ds : List D) (k : Nat) (φ : List D → Prop), (∀ i d ψ, ds[i]? = some d → (∀ e, R (k + i) e → ψ e) → W.bind (ms d) f ψ) →
    (∀ l, l.length = ds.length → (∀ i e, l[i]? = some e → R (k + i) e) → φ l) → W.mapD ms f ds φ
  | [], k, φ, _, he => he [] rfl fun i e h => by simp at h
  | d :: ds, k, φ, hs, he => by
    refine hs 0 d _ rfl fun e he0 => ?_
    refine mapD_inv R ds (k + 1) _ (fun i d ψ hd q => hs (i + 1) d ψ hd fun e h => q e (by rw [show k + 1 + i = k + (i + 1) by omega]; exact h)) fun l hl hr => he (e :: l) (by simp [hl]) fun i e' h => ?_
    cases i with
    | zero =>
      simp at h
      rw [← h]
      exact he0
    | succ i => rw [show k + (i + 1) = k + 1 + i by omega]; exact hr i e' (by simpa using h)
/-- a loop that goes on as long as p holds, and hands back r where it does not -/
theorem loop_all {β : Type} {step : D → Unit → W (Out Unit Unit)} (p : Nat → Bool) (r : D) : ∀ (ds : List D) (k : Nat) (φ : Out Unit β → Prop),
    (∀ i d ψ, ds[i]? = some d → (p (k + i) = true → ψ (.nx ())) → (p (k + i) = false → ψ (.rt r)) → step d () ψ) →
    ((∀ i, i < ds.length → p (k + i) = true) → φ (.nx ())) → ((∃ i, i < ds.length ∧ p (k + i) = false) → φ (.rt r)) → W.loop step ds () φ
  | [], k, φ, _, h1, _ => h1 fun i hi => absurd hi (Nat.not_lt_zero i)
  | d :: ds, k, φ, hs, h1, h2 => by
    refine hs 0 d _ rfl (fun hp => ?_) (fun hp => h2 ⟨0, Nat.succ_pos _, hp⟩)
    refine loop_all p r ds (k + 1) φ (fun i d ψ hd => ?_) (fun q => h1 fun i hi => ?_) (fun ⟨i, hi, hq⟩ => h2 ⟨i + 1, Nat.succ_lt_succ hi, ?_⟩)
    · have := hs (i + 1) d ψ hd
      rw [show k + (i + 1) = k + 1 + i by omega] at this
      exact this
    · cases i with
      | zero => exact hp
      | succ i =>
        have := q i (Nat.lt_of_succ_lt_succ hi)
        rw [show k + (i + 1) = k + 1 + i by omega]
        exact this
    · rw [show k + (i + 1) = k + 1 + i by omega]
      exact hq
/-- a def's mirror, taken to pieces -/
theorem thn_eq {τ τ' β : Type} (m : W (Out τ β)) (k : τ → W (Out τ' β)) (φ : Out τ' β → Prop) : W.thn m k φ = m fun o => (Out.andThen k o) φ := rfl
theorem bind_eq {α β : Type} (m : W α) (f : α → W β) (φ : β → Prop) : W.bind m f φ = m fun a => f a φ := rfl
@[simp] theorem thn_pure {τ τ' β : Type} (t : τ) (k : τ → W (Out τ' β)) : W.thn (W.pure (.nx t) : W (Out τ β)) k = k t := rfl
theorem W.ite_app {α : Type} (c : Prop) [Decidable c] (a b : W α) (φ : α → Prop) : (if c then a else b) φ = if c then a φ else b φ := by split <;> rfl
theorem W.thn_bind {α τ τ' β : Type} (m : W α) (f : α → W (Out τ β)) (k : τ → W (Out τ' β)) : W.thn (W.bind m f) k = W.bind m fun a => W.thn (f a) k := rfl
end Dv
end
section
set_option maxRecDepth 100000
set_option maxHeartbeats 4000000
namespace Pr
open PySem PySem.Spec L2 Dv
open PyProof.Rows hiding St
/-- the pool: whole numbers, at least two, the first one a place -/
structure PI (n : Nat) (l : List D) : Prop where
  len : l.length = n
  two : 2 ≤ n
  sz : n ≤ 100000
  all : ∀ d ∈ l, ∃ k : Int, d = PyData.int k
  at0 : ∃ k : Int, l[0]? = some (PyData.int k) ∧ 0 ≤ k ∧ k < n
theorem PI_ints (n : Nat) : ∀ l, PI n l → ∀ d ∈ l, ∃ k, d = PyData.int k := fun l h => h.all
def pickW : List D → W D
  | [.int n] => fun φ => 0 < n ∧ ∀ k : Int, 0 ≤ k → k < n → φ (.int k)
  | _ => W.fail
def topS (i : Nat) : Stmt := PySem.Challenge.pw_circlesettle_k81_choices_put_in.main.body.getD i (.Pass ⟨0, 0, 0, 0⟩)

/-! ### _law_pick -/
abbrev s__law_pick : Stmt := topS 6
theorem sc__law_pick : FnScope ["_law_pool_here", "_law_many"] ["_law_pool_here", "_law_many"] (defScope s__law_pick) := ⟨rfl, rfl, rfl, by decide +kernel, rfl, by decide +kernel, by decide +kernel⟩
theorem ck__law_pick : chkSc true ["_law_pool_here", "_law_many"] [0, 1] [0, 1] ["int", "len"] (defScope s__law_pick) = true := by decide +kernel
def m__law_pick (n : Nat) (v_law_many : D) : W (Out Unit Empty) :=
(W.bind (W.bind (W.b2 P.add (W.pure (.int 1)) (W.b2 P.mod (W.bind (W.cons (W.bind (W.pure (.int 0)) fun (j : D) φ => ∀ l, (PI n) l → P.ix (.list l) j φ) (W.pure [])) P.int1) (W.b2 P.sub (fun φ => ∀ l, (PI n) l → φ (.int l.length)) (W.pure (.int 1))))) fun d => W.bind (W.pure (.int 0)) fun (k : D) φ => (∀ l, (PI n) l → ∃ (i : Int) (j : Nat), k = .int i ∧ ixN l.length i = some j ∧ (PI n) (l.set j d)) ∧ φ ()) fun _ =>
 (W.rtn (W.b2 P.mod (W.bind (W.cons (W.bind (W.bind (W.pure (.int 0)) fun (j : D) φ => ∀ l, (PI n) l → P.ix (.list l) j φ) fun (j : D) φ => ∀ l, (PI n) l → P.ix (.list l) j φ) (W.pure [])) P.int1) (W.pure v_law_many))))
def w__law_pick (n : Nat) : List D → W (D)
  | [v_law_many] => W.bind (m__law_pick n v_law_many) Out.val
  | _ => W.fail
theorem d__law_pick {X : Cx} {S : Su} {n : Nat} (C : Cok X (defScope s__law_pick) ["_law_pool_here", "_law_many"] [0, 1] [0, 1] ["int", "len"]) (b_int : X.mg "int" = none) (b_len : X.mg "len" = none) (v_law_many : D) : Bv X S (defBody s__law_pick) [.iv (PI n), .va v_law_many] (m__law_pick n v_law_many) (fun _ : Unit => [.un, .un]) (fun b : Empty => nomatch b) :=
(bv_n (E := fun _ => [.iv (PI n), .va v_law_many]) (sv_setv C (i := 0) rfl rfl rfl (ev_bin op_add2 p2_add ev_int.b (ev_bin op_mod p2_mod (ev_bty C (j := 0) rfl call_int1 p1_int b_int bb_int (ab_cons (ev_ixv C (i := 0) rfl rfl rfl ev_int.b (fun _ _ => rfl)).b ab_nil rfl) rfl rfl).b (ev_bin op_sub p2_sub (ev_lenv C (j := 1) (i := 0) rfl b_len rfl rfl rfl).b ev_int.b).b).b) ev_int.b rfl rfl rfl (fun _ => rfl)) fun _ =>
 (bv_last (sv_ret (ev_bin op_mod p2_mod (ev_bty C (j := 0) rfl call_int1 p1_int b_int bb_int (ab_cons (ev_ixv C (i := 0) rfl rfl rfl (ev_ixv C (i := 0) rfl rfl rfl ev_int.b (fun _ _ => rfl)).b (fun _ _ => rfl)).b ab_nil rfl) rfl rfl).b (ev_va C (i := 1) rfl rfl rfl).b))))
theorem k__law_pick {P : Program} {w : World} {K : PySem.W.Frag} {mg : Str → Option Value} {base : Heap} {T : List (Addr × Str)} (F : Here K mg "_law_pick" s__law_pick ["_law_pool_here", "_law_many"]) (b_int : mg "int" = none) (b_len : mg "len" = none) (n : Nat) : Dfn P w K mg base 1 "_law_pick" (spI T (PI n) (w__law_pick n)) :=
  dfn_i F sc__law_pick 0 rfl (fun ds φ h => by unfold w__law_pick at h; split at h; rfl; exact h.elim) fun X R a ds hl => match ds, hl with
    | [v_law_many], _ => ⟨m__law_pick n v_law_many, fun φ h => h, d__law_pick (R.cok ck__law_pick)  (R.no b_int) (R.no b_len) v_law_many⟩
/-! ### _law_choice -/
abbrev s__law_choice : Stmt := topS 10
theorem sc__law_choice : FnScope ["_law_pool_here", "_law_flat_here", "_law_kind", "_law_found", "_law_formula"] ["_law_pool_here", "_law_flat_here", "_law_kind"] (defScope s__law_choice) := ⟨rfl, rfl, rfl, by decide +kernel, rfl, by decide +kernel, by decide +kernel⟩
theorem ck__law_choice : chkSc true ["_law_pool_here", "_law_flat_here", "_law_kind", "_law_found", "_law_formula"] [0, 1, 2, 3, 4] [0, 1, 2, 3, 4] ["_law_pick", "len"] (defScope s__law_choice) = true := by decide +kernel
def m__law_choice (v_law_flat_here v_law_kind : D) : W (Out Unit Empty) :=
(W.bind (W.pure []) fun l1 =>
 (W.thn (τ := (List D)) (W.bind (W.bind (W.pure v_law_flat_here) P.items) fun ds => W.loop (τ := (List D)) (fun d t2 => W.bind ((fun d => W.pure d) d) fun a3 =>
 (W.ite (W.b2 P.eq (W.b2 P.ix (W.pure a3) (W.pure (.int 0))) (W.pure v_law_kind))
 (W.bind (W.bind (W.bind (W.cons (W.bind (W.cons (W.b2 P.ix (W.pure a3) (W.pure (.int 1))) (W.pure [])) P.len) (W.pure [])) pickW) fun d => W.need (t2.length < sizeLine) (W.pure d)) fun d4 =>
 (W.pure (.nx (t2 ++ [d4]))))
 (W.bind (W.bind (W.pure .none) fun d => W.need (t2.length < sizeLine) (W.pure d)) fun d5 =>
 (W.pure (.nx (t2 ++ [d5])))))) ds l1) fun t6 =>
 (W.rto (W.pure t6))))
def w__law_choice : List D → W (D)
  | [v_law_flat_here, v_law_kind] => W.bind (m__law_choice v_law_flat_here v_law_kind) Out.val
  | _ => W.fail
theorem d__law_choice {X : Cx} {S : Su} {n : Nat} (C : Cok X (defScope s__law_choice) ["_law_pool_here", "_law_flat_here", "_law_kind", "_law_found", "_law_formula"] [0, 1, 2, 3, 4] [0, 1, 2, 3, 4] ["_law_pick", "len"]) (c__law_pick : ∀ n, Cal X "_law_pick" (spI S.T (PI n) pickW)) (b_len : X.mg "len" = none) (v_law_flat_here v_law_kind : D) : Bv X S (defBody s__law_choice) [.iv (PI n), .va v_law_flat_here, .va v_law_kind, .un, .un] (m__law_choice v_law_flat_here v_law_kind) (fun _ : Unit => [.un, .un, .un, .un, .un]) (fun b : Empty => nomatch b) :=
(bv_n (E := fun l1 => [.iv (PI n), .va v_law_flat_here, .va v_law_kind, .ow l1, .un]) (sv_seto C (i := 3) rfl rfl (eo_lst (by decide) av_nil) rfl) fun l1 =>
 (bv_cons (E := (fun (t : (List D)) => [.iv (PI n), .va v_law_flat_here, .va v_law_kind, .ow t, .un])) (sv_for (E := (fun (t : (List D)) => [.iv (PI n), .va v_law_flat_here, .va v_law_kind, .ow t, .un])) (t0 := l1) C (iv_list (ev_va C (i := 1) rfl rfl rfl)) (tg_nm C (i := 4) rfl rfl) (.k _ (.k _ (.k _ (.k _ (.k _ (.nil)))))) (fun a3 (t2 : (List D)) =>
 (bv_last (sv_if (tb_cmp (op_eq2 C.u64) p2_eq (ev_ix (ev_va C (i := 4) rfl rfl rfl) ev_int.b (fun _ _ => rfl)).b (ev_va C (i := 2) rfl rfl rfl).b rfl)
 (bv_n (E := fun d4 => [.iv (PI n), .va v_law_flat_here, .va v_law_kind, .ow (t2 ++ [d4]), .va a3]) (sv_app C (i := 3) rfl rfl rfl (ev_callI C (j := 0) (i := 0) rfl (c__law_pick _) rfl rfl rfl (av_cons (ev_blt C (j := 1) rfl call_len' p1_len b_len PySem.boot_len (ab_cons (ev_ix (ev_va C (i := 4) rfl rfl rfl) ev_int.b (fun _ _ => rfl)).b ab_nil rfl) rfl rfl) av_nil rfl) rfl rfl) rfl rfl rfl rfl) fun d4 =>
 (bv_nil (t := (t2 ++ [d4])) (.k _ (.k _ (.k _ (.k _ (.d _ (.nil))))))))
 (bv_n (E := fun d5 => [.iv (PI n), .va v_law_flat_here, .va v_law_kind, .ow (t2 ++ [d5]), .va a3]) (sv_app C (i := 3) rfl rfl rfl ev_non rfl rfl rfl rfl) fun d5 =>
 (bv_nil (t := (t2 ++ [d5])) (.k _ (.k _ (.k _ (.k _ (.d _ (.nil))))))))))) (fun _ => rfl)) fun (t6 : (List D)) =>
 (bv_last (sv_retw C (i := 3) rfl rfl rfl))))
theorem k__law_choice {P : Program} {w : World} {K : PySem.W.Frag} {mg : Str → Option Value} {base : Heap} {T : List (Addr × Str)} (F : Here K mg "_law_choice" s__law_choice ["_law_pool_here", "_law_flat_here", "_law_kind"]) (c__law_pick : ∀ n, Dfn P w K mg base 1 "_law_pick" (spI T (PI n) pickW)) (b_len : mg "len" = none) (n : Nat) : Dfn P w K mg base 2 "_law_choice" (spI T (PI n) w__law_choice) :=
  dfn_i F sc__law_choice 2 rfl (fun ds φ h => by unfold w__law_choice at h; split at h; rfl; exact h.elim) fun X R a ds hl => match ds, hl with
    | [v_law_flat_here, v_law_kind], _ => ⟨m__law_choice v_law_flat_here v_law_kind, fun φ h => h, d__law_choice (R.cok ck__law_choice) (fun n => R.d (c__law_pick n) (by decide)) (R.no b_len) v_law_flat_here v_law_kind⟩
/-! ### _law_amount -/
abbrev s__law_amount : Stmt := topS 7
theorem sc__law_amount : FnScope ["_law_pool_here", "_law_kind"] ["_law_pool_here"] (defScope s__law_amount) := ⟨rfl, rfl, rfl, by decide +kernel, rfl, by decide +kernel, by decide +kernel⟩
theorem ck__law_amount : chkSc true ["_law_pool_here", "_law_kind"] [0, 1] [0, 1] ["_law_pick", "int"] (defScope s__law_amount) = true := by decide +kernel
def m__law_amount : W (Out Unit Empty) :=
(W.bind (W.bind (W.cons (W.pure (.int 10)) (W.pure [])) pickW) fun d1 =>
 (W.ite (W.b2 P.eq (W.pure d1) (W.pure (.int 0))) (W.stop (W.rtn (W.pure .none)))
 (W.rtn (W.b2 P.ix (W.lst (W.cons (W.bind (W.cons (W.pure (.int 12)) (W.pure [])) pickW) (W.cons (W.pure (.int 0)) (W.pure [])))) (W.bind (W.cons (W.bl (W.b2 P.eq (W.pure d1) (W.pure (.int 1)))) (W.pure [])) P.int1)))))
def w__law_amount : List D → W (D)
  | [] => W.bind (m__law_amount ) Out.val
  | _ => W.fail
theorem d__law_amount {X : Cx} {S : Su} {n : Nat} (C : Cok X (defScope s__law_amount) ["_law_pool_here", "_law_kind"] [0, 1] [0, 1] ["_law_pick", "int"]) (c__law_pick : ∀ n, Cal X "_law_pick" (spI S.T (PI n) pickW)) (b_int : X.mg "int" = none) : Bv X S (defBody s__law_amount) [.iv (PI n), .un] (m__law_amount ) (fun _ : Unit => [.un, .un]) (fun b : Empty => nomatch b) :=
(bv_n (E := fun d1 => [.iv (PI n), .va d1]) (sv_set C (i := 1) rfl rfl (ev_callI C (j := 0) (i := 0) rfl (c__law_pick _) rfl rfl rfl (av_cons ev_int av_nil rfl) rfl rfl) rfl) fun d1 =>
 (bv_ifr (tb_cmp (op_eq2 C.u64) p2_eq (ev_va C (i := 1) rfl rfl rfl).b ev_int.b rfl) (bv_last (sv_ret ev_non))
 (bv_last (sv_ret (ev_ix ((eo_lst (by decide) (av_cons (ev_callI C (j := 0) (i := 0) rfl (c__law_pick _) rfl rfl rfl (av_cons ev_int av_nil rfl) rfl rfl) (av_cons ev_int av_nil rfl) rfl))).v (ev_bty C (j := 1) rfl call_int1 p1_int b_int bb_int (ab_cons (ev_cmp (op_eq2 C.u64) p2_eq (ev_va C (i := 1) rfl rfl rfl).b ev_int.b rfl).b ab_nil rfl) rfl rfl).b (fun _ _ => rfl))))))
theorem k__law_amount {P : Program} {w : World} {K : PySem.W.Frag} {mg : Str → Option Value} {base : Heap} {T : List (Addr × Str)} (F : Here K mg "_law_amount" s__law_amount ["_law_pool_here"]) (c__law_pick : ∀ n, Dfn P w K mg base 1 "_law_pick" (spI T (PI n) pickW)) (b_int : mg "int" = none) (n : Nat) : Dfn P w K mg base 2 "_law_amount" (spI T (PI n) w__law_amount) :=
  dfn_i F sc__law_amount 1 rfl (fun ds φ h => by unfold w__law_amount at h; split at h; rfl; exact h.elim) fun X R a ds hl => match ds, hl with
    | [], _ => ⟨m__law_amount , fun φ h => h, d__law_amount (R.cok ck__law_amount) (fun n => R.d (c__law_pick n) (by decide)) (R.no b_int) ⟩
/-! ### _law_arcs -/
abbrev s__law_arcs : Stmt := topS 8
theorem sc__law_arcs : FnScope ["_law_pool_here", "_law_many", "_law_size", "_law_k"] ["_law_pool_here", "_law_many"] (defScope s__law_arcs) := ⟨rfl, rfl, rfl, by decide +kernel, rfl, by decide +kernel, by decide +kernel⟩
theorem ck__law_arcs : chkSc true ["_law_pool_here", "_law_many", "_law_size", "_law_k"] [0, 1, 2] [0, 1, 2] ["_law_pick", "range"] (defScope s__law_arcs) = true := by decide +kernel
def m__law_arcs (v_law_many : D) : W (Out Unit Empty) :=
(W.bind (W.b2 P.ix (W.lst (W.cons (W.pure (.int 1)) (W.cons (W.pure (.int 2)) (W.cons (W.pure (.int 2)) (W.cons (W.pure (.int 3)) (W.cons (W.pure (.int 2)) (W.cons (W.pure (.int 6)) (W.pure [])))))))) (W.bind (W.cons (W.pure (.int 6)) (W.pure [])) pickW)) fun d1 =>
 (W.rto (W.bind (W.bind (W.cons (W.pure d1) (W.pure [])) P.range1) fun ds => W.mapD (fun d => W.pure d) (fun a5 => (W.tup (W.cons (W.bind (W.cons (W.pure v_law_many) (W.pure [])) pickW) (W.cons (W.b2 P.ix (W.lst (W.cons (W.pure (.int 0)) (W.cons (W.pure (.int 1)) (W.cons (W.bind (W.pure (.int 1)) P.neg) (W.cons (W.pure (.int 2)) (W.cons (W.bind (W.pure (.int 2)) P.neg) (W.cons (W.pure (.int 0)) (W.cons (W.pure (.int 3)) (W.cons (W.pure (.int 1)) (W.cons (W.bind (W.pure (.int 4)) P.neg) (W.cons (W.pure (.int 4)) (W.pure [])))))))))))) (W.bind (W.cons (W.pure (.int 10)) (W.pure [])) pickW)) (W.pure []))))) ds)))
def w__law_arcs : List D → W (D)
  | [v_law_many] => W.bind (m__law_arcs v_law_many) Out.val
  | _ => W.fail
theorem d__law_arcs {X : Cx} {S : Su} {n : Nat} (C : Cok X (defScope s__law_arcs) ["_law_pool_here", "_law_many", "_law_size", "_law_k"] [0, 1, 2] [0, 1, 2] ["_law_pick", "range"]) (c__law_pick : ∀ n, Cal X "_law_pick" (spI S.T (PI n) pickW)) (b_range : X.mg "range" = none) (v_law_many : D) : Bv X S (defBody s__law_arcs) [.iv (PI n), .va v_law_many, .un, .un] (m__law_arcs v_law_many) (fun _ : Unit => [.un, .un, .un, .un]) (fun b : Empty => nomatch b) :=
(bv_n (E := fun d1 => [.iv (PI n), .va v_law_many, .va d1, .un]) (sv_set C (i := 2) rfl rfl (ev_ix ((eo_lst (by decide) (av_cons ev_int (av_cons ev_int (av_cons ev_int (av_cons ev_int (av_cons ev_int (av_cons ev_int av_nil rfl) rfl) rfl) rfl) rfl) rfl))).v (ev_callI C (j := 0) (i := 0) rfl (c__law_pick _) rfl rfl rfl (av_cons ev_int av_nil rfl) rfl rfl).b (fun _ _ => rfl)) rfl) fun d1 =>
 (bv_last (sv_reto (eo_lq C (lqm (own := [("_law_k", 3)]) C (iv_range1 C (j := 1) rfl b_range (av_cons (ev_va C (i := 2) rfl rfl rfl) av_nil rfl) rfl) (by decide +kernel) rfl (fun X2 B3 => have C4 := Cok.blk (V' := [0, 1, 3]) (O' := [3]) (G' := ["_law_pick"]) C B3 (by decide +kernel); (tg_nm C4 (i := 3) rfl rfl)) rfl (fun _ => rfl) (fun X2 B3 a5 => have C4 := Cok.blk (V' := [0, 1, 3]) (O' := [3]) (G' := ["_law_pick"]) C B3 (by decide +kernel); (ev_tup (by decide) (av_cons (ev_callI C4 (j := 0) (i := 0) rfl (Cal.blk (c__law_pick _) B3) rfl rfl rfl (av_cons (ev_va C4 (i := 1) rfl rfl rfl) av_nil rfl) rfl rfl) (av_cons (ev_ix ((eo_lst (by decide) (av_cons ev_int (av_cons ev_int (av_cons (ev_neg ev_int.b) (av_cons ev_int (av_cons (ev_neg ev_int.b) (av_cons ev_int (av_cons ev_int (av_cons ev_int (av_cons (ev_neg ev_int.b) (av_cons ev_int av_nil rfl) rfl) rfl) rfl) rfl) rfl) rfl) rfl) rfl) rfl))).v (ev_callI C4 (j := 0) (i := 0) rfl (Cal.blk (c__law_pick _) B3) rfl rfl rfl (av_cons ev_int av_nil rfl) rfl rfl).b (fun _ _ => rfl)) av_nil rfl) rfl)))) (fun _ => rfl)))))
theorem k__law_arcs {P : Program} {w : World} {K : PySem.W.Frag} {mg : Str → Option Value} {base : Heap} {T : List (Addr × Str)} (F : Here K mg "_law_arcs" s__law_arcs ["_law_pool_here", "_law_many"]) (c__law_pick : ∀ n, Dfn P w K mg base 1 "_law_pick" (spI T (PI n) pickW)) (b_range : mg "range" = none) (n : Nat) : Dfn P w K mg base 2 "_law_arcs" (spI T (PI n) w__law_arcs) :=
  dfn_i F sc__law_arcs 2 rfl (fun ds φ h => by unfold w__law_arcs at h; split at h; rfl; exact h.elim) fun X R a ds hl => match ds, hl with
    | [v_law_many], _ => ⟨m__law_arcs v_law_many, fun φ h => h, d__law_arcs (R.cok ck__law_arcs) (fun n => R.d (c__law_pick n) (by decide)) (R.no b_range) v_law_many⟩
/-! ### _law_flat -/
abbrev s__law_flat : Stmt := topS 9
theorem sc__law_flat : FnScope ["_law_pool_here", "_law_most", "_law_conditions", "_law_many", "_law_flat_here", "_law_k", "_law_kind"] ["_law_pool_here", "_law_most", "_law_conditions"] (defScope s__law_flat) := ⟨rfl, rfl, rfl, by decide +kernel, rfl, by decide +kernel, by decide +kernel⟩
theorem ck__law_flat : chkSc true ["_law_pool_here", "_law_most", "_law_conditions", "_law_many", "_law_flat_here", "_law_k", "_law_kind"] [0, 1, 2, 3, 4, 5, 6] [0, 1, 2, 3, 4, 5, 6] ["_law_pick", "range", "_law_amount", "_law_arcs"] (defScope s__law_flat) = true := by decide +kernel
def m__law_flat (v_law_most v_law_conditions : D) : W (Out Unit Empty) :=
(W.bind (W.b2 P.add (W.pure (.int 1)) (W.bind (W.cons (W.pure v_law_most) (W.pure [])) pickW)) fun d1 =>
 (W.thn (τ := D) (W.ite (W.b2 P.eq (W.bind (W.cons (W.pure (.int 30)) (W.pure [])) pickW) (W.pure (.int 0)))
 (W.bind (W.b2 P.add (W.pure v_law_most) (W.pure (.int 7))) fun d3 =>
 (W.pure (.nx d3)))
 (W.pure (.nx d1))) fun t4 =>
 (W.bind (W.pure []) fun l5 =>
 (W.thn (τ := (List D)) (W.bind (W.bind (W.cons (W.pure t4) (W.pure [])) P.range1) fun ds => W.loop (τ := (List D)) (fun d t6 => W.bind ((fun d => W.pure d) d) fun a7 =>
 (W.bind (W.b2 P.ix (W.lst (W.cons (W.pure (.str "least")) (W.cons (W.pure (.str "greatest")) (W.cons (W.pure (.str "least")) (W.cons (W.pure (.str "greatest")) (W.cons (W.pure (.str "amount")) (W.cons (W.pure (.str "when")) (W.cons (W.pure (.str "greatest")) (W.pure []))))))))) (W.bind (W.cons (W.pure (.int 7)) (W.pure [])) pickW)) fun d8 =>
 (W.ite (W.b2 P.eq (W.pure d8) (W.pure (.str "amount")))
 (W.bind (W.bind (W.tup (W.cons (W.pure (.str "amount")) (W.cons (W.bind (W.pure []) w__law_amount) (W.pure [])))) fun d => W.need (t6.length < sizeLine) (W.pure d)) fun d9 =>
 (W.pure (.nx (t6 ++ [d9]))))
 (W.ite (W.ite (W.b2 P.eq (W.pure d8) (W.pure (.str "when"))) (W.bind (W.pure v_law_conditions) P.truth) (W.pure false))
 (W.bind (W.bind (W.tup (W.cons (W.pure (.str "when")) (W.cons (W.bind (W.cons (W.pure t4) (W.pure [])) pickW) (W.cons (W.b2 P.add (W.pure (.int 1)) (W.bind (W.cons (W.pure (.int 9)) (W.pure [])) pickW)) (W.cons (W.bind (W.cons (W.pure t4) (W.pure [])) pickW) (W.pure [])))))) fun d => W.need (t6.length < sizeLine) (W.pure d)) fun d10 =>
 (W.pure (.nx (t6 ++ [d10]))))
 (W.ite (W.b2 P.eq (W.pure d8) (W.pure (.str "when")))
 (W.bind (W.bind (W.tup (W.cons (W.pure (.str "least")) (W.cons (W.lst (W.cons (W.tup (W.cons (W.bind (W.cons (W.pure t4) (W.pure [])) pickW) (W.cons (W.pure (.int 0)) (W.pure [])))) (W.cons (W.tup (W.cons (W.bind (W.cons (W.pure t4) (W.pure [])) pickW) (W.cons (W.pure (.int 1)) (W.pure [])))) (W.pure [])))) (W.pure [])))) fun d => W.need (t6.length < sizeLine) (W.pure d)) fun d11 =>
 (W.pure (.nx (t6 ++ [d11]))))
 (W.bind (W.bind (W.tup (W.cons (W.pure d8) (W.cons (W.bind (W.cons (W.pure t4) (W.pure [])) w__law_arcs) (W.pure [])))) fun d => W.need (t6.length < sizeLine) (W.pure d)) fun d12 =>
 (W.pure (.nx (t6 ++ [d12]))))))))) ds l5) fun t13 =>
 (W.rto (W.pure t13))))))
def w__law_flat : List D → W (D)
  | [v_law_most, v_law_conditions] => W.bind (m__law_flat v_law_most v_law_conditions) Out.val
  | _ => W.fail
theorem d__law_flat {X : Cx} {S : Su} {n : Nat} (C : Cok X (defScope s__law_flat) ["_law_pool_here", "_law_most", "_law_conditions", "_law_many", "_law_flat_here", "_law_k", "_law_kind"] [0, 1, 2, 3, 4, 5, 6] [0, 1, 2, 3, 4, 5, 6] ["_law_pick", "range", "_law_amount", "_law_arcs"]) (c__law_amount : ∀ n, Cal X "_law_amount" (spI S.T (PI n) w__law_amount)) (c__law_arcs : ∀ n, Cal X "_law_arcs" (spI S.T (PI n) w__law_arcs)) (c__law_pick : ∀ n, Cal X "_law_pick" (spI S.T (PI n) pickW)) (b_range : X.mg "range" = none) (v_law_most v_law_conditions : D) : Bv X S (defBody s__law_flat) [.iv (PI n), .va v_law_most, .va v_law_conditions, .un, .un, .un, .un] (m__law_flat v_law_most v_law_conditions) (fun _ : Unit => [.un, .un, .un, .un, .un, .un, .un]) (fun b : Empty => nomatch b) :=
(bv_n (E := fun d1 => [.iv (PI n), .va v_law_most, .va v_law_conditions, .va d1, .un, .un, .un]) (sv_set C (i := 3) rfl rfl (ev_bin op_add2 p2_add ev_int.b (ev_callI C (j := 0) (i := 0) rfl (c__law_pick _) rfl rfl rfl (av_cons (ev_va C (i := 1) rfl rfl rfl) av_nil rfl) rfl rfl).b) rfl) fun d1 =>
 (bv_cons (E := (fun (t : D) => [.iv (PI n), .va v_law_most, .va v_law_conditions, .va t, .un, .un, .un])) (sv_if (tb_cmp (op_eq2 C.u64) p2_eq (ev_callI C (j := 0) (i := 0) rfl (c__law_pick _) rfl rfl rfl (av_cons ev_int av_nil rfl) rfl rfl).b ev_int.b rfl)
 (bv_n (E := fun d3 => [.iv (PI n), .va v_law_most, .va v_law_conditions, .va d3, .un, .un, .un]) (sv_set C (i := 3) rfl rfl (ev_bin op_add2 p2_add (ev_va C (i := 1) rfl rfl rfl).b ev_int.b) rfl) fun d3 =>
 (bv_nil (t := d3) (.k _ (.k _ (.k _ (.k _ (.k _ (.k _ (.k _ (.nil))))))))))
 (bv_nil (t := d1) (.k _ (.k _ (.k _ (.k _ (.k _ (.k _ (.k _ (.nil)))))))))) fun (t4 : D) =>
 (bv_n (E := fun l5 => [.iv (PI n), .va v_law_most, .va v_law_conditions, .va t4, .ow l5, .un, .un]) (sv_seto C (i := 4) rfl rfl (eo_lst (by decide) av_nil) rfl) fun l5 =>
 (bv_cons (E := (fun (t : (List D)) => [.iv (PI n), .va v_law_most, .va v_law_conditions, .va t4, .ow t, .un, .un])) (sv_for (E := (fun (t : (List D)) => [.iv (PI n), .va v_law_most, .va v_law_conditions, .va t4, .ow t, .un, .un])) (t0 := l5) C (iv_range1 C (j := 1) rfl b_range (av_cons (ev_va C (i := 3) rfl rfl rfl) av_nil rfl) rfl) (tg_nm C (i := 5) rfl rfl) (.k _ (.k _ (.k _ (.k _ (.k _ (.k _ (.k _ (.nil)))))))) (fun a7 (t6 : (List D)) =>
 (bv_n (E := fun d8 => [.iv (PI n), .va v_law_most, .va v_law_conditions, .va t4, .ow t6, .va a7, .va d8]) (sv_set C (i := 6) rfl rfl (ev_ix ((eo_lst (by decide) (av_cons ev_str (av_cons ev_str (av_cons ev_str (av_cons ev_str (av_cons ev_str (av_cons ev_str (av_cons ev_str av_nil rfl) rfl) rfl) rfl) rfl) rfl) rfl))).v (ev_callI C (j := 0) (i := 0) rfl (c__law_pick _) rfl rfl rfl (av_cons ev_int av_nil rfl) rfl rfl).b (fun _ _ => rfl)) rfl) fun d8 =>
 (bv_last (sv_if (tb_cmp (op_eq2 C.u64) p2_eq (ev_va C (i := 6) rfl rfl rfl).b ev_str.b rfl)
 (bv_n (E := fun d9 => [.iv (PI n), .va v_law_most, .va v_law_conditions, .va t4, .ow (t6 ++ [d9]), .va a7, .va d8]) (sv_app C (i := 4) rfl rfl rfl (ev_tup (by decide) (av_cons ev_str (av_cons (ev_callI C (j := 2) (i := 0) rfl (c__law_amount _) rfl rfl rfl av_nil rfl rfl) av_nil rfl) rfl)) rfl rfl rfl rfl) fun d9 =>
 (bv_nil (t := (t6 ++ [d9])) (.k _ (.k _ (.k _ (.k _ (.k _ (.d _ (.d _ (.nil))))))))))
 (bv_last (sv_if (tw_and (tb_cmp (op_eq2 C.u64) p2_eq (ev_va C (i := 6) rfl rfl rfl).b ev_str.b rfl) (tw_and1 (tb_truth (ev_va C (i := 2) rfl rfl rfl).b (fun _ => rfl)))).t
 (bv_n (E := fun d10 => [.iv (PI n), .va v_law_most, .va v_law_conditions, .va t4, .ow (t6 ++ [d10]), .va a7, .va d8]) (sv_app C (i := 4) rfl rfl rfl (ev_tup (by decide) (av_cons ev_str (av_cons (ev_callI C (j := 0) (i := 0) rfl (c__law_pick _) rfl rfl rfl (av_cons (ev_va C (i := 3) rfl rfl rfl) av_nil rfl) rfl rfl) (av_cons (ev_bin op_add2 p2_add ev_int.b (ev_callI C (j := 0) (i := 0) rfl (c__law_pick _) rfl rfl rfl (av_cons ev_int av_nil rfl) rfl rfl).b) (av_cons (ev_callI C (j := 0) (i := 0) rfl (c__law_pick _) rfl rfl rfl (av_cons (ev_va C (i := 3) rfl rfl rfl) av_nil rfl) rfl rfl) av_nil rfl) rfl) rfl) rfl)) rfl rfl rfl rfl) fun d10 =>
 (bv_nil (t := (t6 ++ [d10])) (.k _ (.k _ (.k _ (.k _ (.k _ (.d _ (.d _ (.nil))))))))))
 (bv_last (sv_if (tb_cmp (op_eq2 C.u64) p2_eq (ev_va C (i := 6) rfl rfl rfl).b ev_str.b rfl)
 (bv_n (E := fun d11 => [.iv (PI n), .va v_law_most, .va v_law_conditions, .va t4, .ow (t6 ++ [d11]), .va a7, .va d8]) (sv_app C (i := 4) rfl rfl rfl (ev_tup (by decide) (av_cons ev_str (av_cons ((eo_lst (by decide) (av_cons (ev_tup (by decide) (av_cons (ev_callI C (j := 0) (i := 0) rfl (c__law_pick _) rfl rfl rfl (av_cons (ev_va C (i := 3) rfl rfl rfl) av_nil rfl) rfl rfl) (av_cons ev_int av_nil rfl) rfl)) (av_cons (ev_tup (by decide) (av_cons (ev_callI C (j := 0) (i := 0) rfl (c__law_pick _) rfl rfl rfl (av_cons (ev_va C (i := 3) rfl rfl rfl) av_nil rfl) rfl rfl) (av_cons ev_int av_nil rfl) rfl)) av_nil rfl) rfl))).v av_nil rfl) rfl)) rfl rfl rfl rfl) fun d11 =>
 (bv_nil (t := (t6 ++ [d11])) (.k _ (.k _ (.k _ (.k _ (.k _ (.d _ (.d _ (.nil))))))))))
 (bv_n (E := fun d12 => [.iv (PI n), .va v_law_most, .va v_law_conditions, .va t4, .ow (t6 ++ [d12]), .va a7, .va d8]) (sv_app C (i := 4) rfl rfl rfl (ev_tup (by decide) (av_cons (ev_va C (i := 6) rfl rfl rfl) (av_cons (ev_callI C (j := 3) (i := 0) rfl (c__law_arcs _) rfl rfl rfl (av_cons (ev_va C (i := 3) rfl rfl rfl) av_nil rfl) rfl rfl) av_nil rfl) rfl)) rfl rfl rfl rfl) fun d12 =>
 (bv_nil (t := (t6 ++ [d12])) (.k _ (.k _ (.k _ (.k _ (.k _ (.d _ (.d _ (.nil)))))))))))))))))) (fun _ => rfl)) fun (t13 : (List D)) =>
 (bv_last (sv_retw C (i := 4) rfl rfl rfl))))))
theorem k__law_flat {P : Program} {w : World} {K : PySem.W.Frag} {mg : Str → Option Value} {base : Heap} {T : List (Addr × Str)} (F : Here K mg "_law_flat" s__law_flat ["_law_pool_here", "_law_most", "_law_conditions"]) (c__law_amount : ∀ n, Dfn P w K mg base 2 "_law_amount" (spI T (PI n) w__law_amount)) (c__law_arcs : ∀ n, Dfn P w K mg base 2 "_law_arcs" (spI T (PI n) w__law_arcs)) (c__law_pick : ∀ n, Dfn P w K mg base 1 "_law_pick" (spI T (PI n) pickW)) (b_range : mg "range" = none) (n : Nat) : Dfn P w K mg base 3 "_law_flat" (spI T (PI n) w__law_flat) :=
  dfn_i F sc__law_flat 4 rfl (fun ds φ h => by unfold w__law_flat at h; split at h; rfl; exact h.elim) fun X R a ds hl => match ds, hl with
    | [v_law_most, v_law_conditions], _ => ⟨m__law_flat v_law_most v_law_conditions, fun φ h => h, d__law_flat (R.cok ck__law_flat) (fun n => R.d (c__law_amount n) (by decide)) (fun n => R.d (c__law_arcs n) (by decide)) (fun n => R.d (c__law_pick n) (by decide)) (R.no b_range) v_law_most v_law_conditions⟩
/-! ### _law_is_choice -/
abbrev s__law_is_choice : Stmt := topS 12
theorem sc__law_is_choice : FnScope ["_law_flat_here", "_law_choice_here", "_law_kind", "_law_k"] ["_law_flat_here", "_law_choice_here", "_law_kind"] (defScope s__law_is_choice) := ⟨rfl, rfl, rfl, by decide +kernel, rfl, by decide +kernel, by decide +kernel⟩
theorem ck__law_is_choice : chkSc true ["_law_flat_here", "_law_choice_here", "_law_kind", "_law_k"] [0, 1, 2, 3] [0, 1, 2, 3] ["isinstance", "list", "len", "range", "int", "bool"] (defScope s__law_is_choice) = true := by decide +kernel
def m__law_is_choice (v_law_flat_here v_law_choice_here v_law_kind : D) : W (Out Unit Empty) :=
(W.ite (W.ite (W.no (W.bind (W.bind (W.pure v_law_choice_here) fun d => W.pure (.bool (P.isTy "list" d))) P.truth)) (W.pure true) (W.b2 P.ne (W.bind (W.cons (W.pure v_law_choice_here) (W.pure [])) P.len) (W.bind (W.cons (W.pure v_law_flat_here) (W.pure [])) P.len))) (W.stop (W.rtn (W.pure (.bool false))))
 (W.thn (τ := Unit) (W.bind (W.bind (W.cons (W.bind (W.cons (W.pure v_law_flat_here) (W.pure [])) P.len) (W.pure [])) P.range1) fun ds => W.loop (τ := Unit) (fun d t1 => W.bind ((fun d => W.pure d) d) fun a2 =>
 (W.ite (W.b2 P.ne (W.b2 P.ix (W.b2 P.ix (W.pure v_law_flat_here) (W.pure a2)) (W.pure (.int 0))) (W.pure v_law_kind))
 (W.ite (W.bind (W.b2 P.ix (W.pure v_law_choice_here) (W.pure a2)) fun d => W.pure (!P.isNone d)) (W.stop (W.rtn (W.pure (.bool false))))
 (W.pure (.nx ())))
 (W.ite (W.ite (W.no (W.bind (W.bind (W.b2 P.ix (W.pure v_law_choice_here) (W.pure a2)) fun d => W.pure (.bool (P.isTy "int" d))) P.truth)) (W.pure true) (W.ite (W.bind (W.bind (W.b2 P.ix (W.pure v_law_choice_here) (W.pure a2)) fun d => W.pure (.bool (P.isTy "bool" d))) P.truth) (W.pure true) (W.no (W.bind (W.pure (.int 0)) fun x => W.bind (W.b2 P.ix (W.pure v_law_choice_here) (W.pure a2)) fun y => W.ite (P.le x y) (W.bind (W.bind (W.cons (W.b2 P.ix (W.b2 P.ix (W.pure v_law_flat_here) (W.pure a2)) (W.pure (.int 1))) (W.pure [])) P.len) fun z => P.lt y z) (W.pure false))))) (W.stop (W.rtn (W.pure (.bool false))))
 (W.pure (.nx ()))))) ds ()) fun t3 =>
 (W.rtn (W.pure (.bool true)))))
def w__law_is_choice : List D → W (D)
  | [v_law_flat_here, v_law_choice_here, v_law_kind] => W.bind (m__law_is_choice v_law_flat_here v_law_choice_here v_law_kind) Out.val
  | _ => W.fail
theorem d__law_is_choice {X : Cx} {S : Su} (C : Cok X (defScope s__law_is_choice) ["_law_flat_here", "_law_choice_here", "_law_kind", "_law_k"] [0, 1, 2, 3] [0, 1, 2, 3] ["isinstance", "list", "len", "range", "int", "bool"]) (b_bool : X.mg "bool" = none) (b_int : X.mg "int" = none) (b_isinstance : X.mg "isinstance" = none) (b_len : X.mg "len" = none) (b_list : X.mg "list" = none) (b_range : X.mg "range" = none) (v_law_flat_here v_law_choice_here v_law_kind : D) : Bv X S (defBody s__law_is_choice) [.va v_law_flat_here, .va v_law_choice_here, .va v_law_kind, .un] (m__law_is_choice v_law_flat_here v_law_choice_here v_law_kind) (fun _ : Unit => [.un, .un, .un, .un]) (fun b : Empty => nomatch b) :=
(bv_ifr (tw_or (tb_not (tb_truth (ev_isi "list" C (j := 0) (j2 := 1) rfl b_isinstance rfl b_list bb_list (by simp) (ev_va C (i := 1) rfl rfl rfl).b rfl rfl rfl).b (fun _ => rfl))) (tw_or1 (tb_cmp (op_ne2 C.u64) p2_ne (ev_blt C (j := 2) rfl call_len' p1_len b_len PySem.boot_len (ab_cons (ev_va C (i := 1) rfl rfl rfl).b ab_nil rfl) rfl rfl).b (ev_blt C (j := 2) rfl call_len' p1_len b_len PySem.boot_len (ab_cons (ev_va C (i := 0) rfl rfl rfl).b ab_nil rfl) rfl rfl).b rfl))).t (bv_last (sv_ret ev_bl))
 (bv_cons (E := (fun (_ : Unit) => [.va v_law_flat_here, .va v_law_choice_here, .va v_law_kind, .un])) (sv_for (E := (fun (_ : Unit) => [.va v_law_flat_here, .va v_law_choice_here, .va v_law_kind, .un])) (t0 := ()) C (iv_range1 C (j := 3) rfl b_range (av_cons (ev_blt C (j := 2) rfl call_len' p1_len b_len PySem.boot_len (ab_cons (ev_va C (i := 0) rfl rfl rfl).b ab_nil rfl) rfl rfl) av_nil rfl) rfl) (tg_nm C (i := 3) rfl rfl) (.k _ (.k _ (.k _ (.k _ (.nil))))) (fun a2 (t1 : Unit) =>
 (bv_last (sv_if (tb_cmp (op_ne2 C.u64) p2_ne (ev_ix (ev_ix (ev_va C (i := 0) rfl rfl rfl) (ev_va C (i := 3) rfl rfl rfl).b (fun _ _ => rfl)) ev_int.b (fun _ _ => rfl)).b (ev_va C (i := 2) rfl rfl rfl).b rfl)
 (bv_ifr (tb_notN (ev_ix (ev_va C (i := 1) rfl rfl rfl) (ev_va C (i := 3) rfl rfl rfl).b (fun _ _ => rfl)).b) (bv_last (sv_ret ev_bl))
 (bv_nil (t := ()) (.k _ (.k _ (.k _ (.d _ (.nil)))))))
 (bv_ifr (tw_or (tb_not (tb_truth (ev_isi "int" C (j := 0) (j2 := 4) rfl b_isinstance rfl b_int bb_int (by simp) (ev_ix (ev_va C (i := 1) rfl rfl rfl) (ev_va C (i := 3) rfl rfl rfl).b (fun _ _ => rfl)).b rfl rfl rfl).b (fun _ => rfl))) (tw_or (tb_truth (ev_isi "bool" C (j := 0) (j2 := 5) rfl b_isinstance rfl b_bool bb_bool (by simp) (ev_ix (ev_va C (i := 1) rfl rfl rfl) (ev_va C (i := 3) rfl rfl rfl).b (fun _ _ => rfl)).b rfl rfl rfl).b (fun _ => rfl)) (tw_or1 (tb_not (tb_chain op_le op_lt p2_le p2_lt ev_int.b (ev_ix (ev_va C (i := 1) rfl rfl rfl) (ev_va C (i := 3) rfl rfl rfl).b (fun _ _ => rfl)).b (ev_blt C (j := 2) rfl call_len' p1_len b_len PySem.boot_len (ab_cons (ev_ix (ev_ix (ev_va C (i := 0) rfl rfl rfl) (ev_va C (i := 3) rfl rfl rfl).b (fun _ _ => rfl)) ev_int.b (fun _ _ => rfl)).b ab_nil rfl) rfl rfl).b (by with_unfolding_all rfl)))))).t (bv_last (sv_ret ev_bl))
 (bv_nil (t := ()) (.k _ (.k _ (.k _ (.d _ (.nil)))))))))) (fun _ => rfl)) fun (t3 : Unit) =>
 (bv_last (sv_ret ev_bl))))
theorem k__law_is_choice {P : Program} {w : World} {K : PySem.W.Frag} {mg : Str → Option Value} {base : Heap} {T : List (Addr × Str)} (F : Here K mg "_law_is_choice" s__law_is_choice ["_law_flat_here", "_law_choice_here", "_law_kind"]) (b_bool : mg "bool" = none) (b_int : mg "int" = none) (b_isinstance : mg "isinstance" = none) (b_len : mg "len" = none) (b_list : mg "list" = none) (b_range : mg "range" = none) : Dfn P w K mg base 1 "_law_is_choice" (spW T w__law_is_choice) :=
  dfn_w F sc__law_is_choice 1 rfl (fun ds φ h => by unfold w__law_is_choice at h; split at h; rfl; exact h.elim) fun X R ds hl => match ds, hl with
    | [v_law_flat_here, v_law_choice_here, v_law_kind], _ => ⟨m__law_is_choice v_law_flat_here v_law_choice_here v_law_kind, fun φ h => h, d__law_is_choice (R.cok ck__law_is_choice)  (R.no b_bool) (R.no b_int) (R.no b_isinstance) (R.no b_len) (R.no b_list) (R.no b_range) v_law_flat_here v_law_choice_here v_law_kind⟩
/-! ### _law_put_in -/
abbrev s__law_put_in : Stmt := topS 13
theorem sc__law_put_in : FnScope ["_law_flat_here", "_law_choice_here", "_law_kind", "_law_found", "_law_k", "_law_formula"] ["_law_flat_here", "_law_choice_here", "_law_kind"] (defScope s__law_put_in) := ⟨rfl, rfl, rfl, by decide +kernel, rfl, by decide +kernel, by decide +kernel⟩
theorem ck__law_put_in : chkSc true ["_law_flat_here", "_law_choice_here", "_law_kind", "_law_found", "_law_k", "_law_formula"] [0, 1, 2, 3, 4, 5] [0, 1, 2, 3, 4, 5] ["range", "len"] (defScope s__law_put_in) = true := by decide +kernel
def m__law_put_in (v_law_flat_here v_law_choice_here v_law_kind : D) : W (Out Unit Empty) :=
(W.bind (W.pure []) fun l1 =>
 (W.thn (τ := (List D)) (W.bind (W.bind (W.cons (W.bind (W.cons (W.pure v_law_flat_here) (W.pure [])) P.len) (W.pure [])) P.range1) fun ds => W.loop (τ := (List D)) (fun d t2 => W.bind ((fun d => W.pure d) d) fun a3 =>
 (W.bind (W.b2 P.ix (W.pure v_law_flat_here) (W.pure a3)) fun d4 =>
 (W.thn (τ := D) (W.ite (W.b2 P.eq (W.b2 P.ix (W.pure d4) (W.pure (.int 0))) (W.pure v_law_kind))
 (W.bind (W.tup (W.cons (W.pure (.str "greatest")) (W.cons (W.lst (W.cons (W.b2 P.ix (W.b2 P.ix (W.pure d4) (W.pure (.int 1))) (W.b2 P.ix (W.pure v_law_choice_here) (W.pure a3))) (W.pure []))) (W.pure [])))) fun d6 =>
 (W.pure (.nx d6)))
 (W.pure (.nx d4))) fun t7 =>
 (W.bind (W.bind (W.pure t7) fun d => W.need (t2.length < sizeLine) (W.pure d)) fun d8 =>
 (W.pure (.nx (t2 ++ [d8]))))))) ds l1) fun t9 =>
 (W.rto (W.pure t9))))
def w__law_put_in : List D → W (List D)
  | [v_law_flat_here, v_law_choice_here, v_law_kind] => W.bind (m__law_put_in v_law_flat_here v_law_choice_here v_law_kind) Out.lst
  | _ => W.fail
theorem d__law_put_in {X : Cx} {S : Su} (C : Cok X (defScope s__law_put_in) ["_law_flat_here", "_law_choice_here", "_law_kind", "_law_found", "_law_k", "_law_formula"] [0, 1, 2, 3, 4, 5] [0, 1, 2, 3, 4, 5] ["range", "len"]) (b_len : X.mg "len" = none) (b_range : X.mg "range" = none) (v_law_flat_here v_law_choice_here v_law_kind : D) : Bv X S (defBody s__law_put_in) [.va v_law_flat_here, .va v_law_choice_here, .va v_law_kind, .un, .un, .un] (m__law_put_in v_law_flat_here v_law_choice_here v_law_kind) (fun _ : Unit => [.un, .un, .un, .un, .un, .un]) (fun b : Empty => nomatch b) :=
(bv_n (E := fun l1 => [.va v_law_flat_here, .va v_law_choice_here, .va v_law_kind, .ow l1, .un, .un]) (sv_seto C (i := 3) rfl rfl (eo_lst (by decide) av_nil) rfl) fun l1 =>
 (bv_cons (E := (fun (t : (List D)) => [.va v_law_flat_here, .va v_law_choice_here, .va v_law_kind, .ow t, .un, .un])) (sv_for (E := (fun (t : (List D)) => [.va v_law_flat_here, .va v_law_choice_here, .va v_law_kind, .ow t, .un, .un])) (t0 := l1) C (iv_range1 C (j := 0) rfl b_range (av_cons (ev_blt C (j := 1) rfl call_len' p1_len b_len PySem.boot_len (ab_cons (ev_va C (i := 0) rfl rfl rfl).b ab_nil rfl) rfl rfl) av_nil rfl) rfl) (tg_nm C (i := 4) rfl rfl) (.k _ (.k _ (.k _ (.k _ (.k _ (.k _ (.nil))))))) (fun a3 (t2 : (List D)) =>
 (bv_n (E := fun d4 => [.va v_law_flat_here, .va v_law_choice_here, .va v_law_kind, .ow t2, .va a3, .va d4]) (sv_set C (i := 5) rfl rfl (ev_ix (ev_va C (i := 0) rfl rfl rfl) (ev_va C (i := 4) rfl rfl rfl).b (fun _ _ => rfl)) rfl) fun d4 =>
 (bv_cons (E := (fun (t : D) => [.va v_law_flat_here, .va v_law_choice_here, .va v_law_kind, .ow t2, .va a3, .va t])) (sv_if (tb_cmp (op_eq2 C.u64) p2_eq (ev_ix (ev_va C (i := 5) rfl rfl rfl) ev_int.b (fun _ _ => rfl)).b (ev_va C (i := 2) rfl rfl rfl).b rfl)
 (bv_n (E := fun d6 => [.va v_law_flat_here, .va v_law_choice_here, .va v_law_kind, .ow t2, .va a3, .va d6]) (sv_set C (i := 5) rfl rfl (ev_tup (by decide) (av_cons ev_str (av_cons ((eo_lst (by decide) (av_cons (ev_ix (ev_ix (ev_va C (i := 5) rfl rfl rfl) ev_int.b (fun _ _ => rfl)) (ev_ix (ev_va C (i := 1) rfl rfl rfl) (ev_va C (i := 4) rfl rfl rfl).b (fun _ _ => rfl)).b (fun _ _ => rfl)) av_nil rfl))).v av_nil rfl) rfl)) rfl) fun d6 =>
 (bv_nil (t := d6) (.k _ (.k _ (.k _ (.k _ (.k _ (.k _ (.nil)))))))))
 (bv_nil (t := d4) (.k _ (.k _ (.k _ (.k _ (.k _ (.k _ (.nil))))))))) fun (t7 : D) =>
 (bv_n (E := fun d8 => [.va v_law_flat_here, .va v_law_choice_here, .va v_law_kind, .ow (t2 ++ [d8]), .va a3, .va t7]) (sv_app C (i := 3) rfl rfl rfl (ev_va C (i := 5) rfl rfl rfl) rfl rfl rfl rfl) fun d8 =>
 (bv_nil (t := (t2 ++ [d8])) (.k _ (.k _ (.k _ (.k _ (.d _ (.d _ (.nil)))))))))))) (fun _ => rfl)) fun (t9 : (List D)) =>
 (bv_last (sv_retw C (i := 3) rfl rfl rfl))))
theorem k__law_put_in {P : Program} {w : World} {K : PySem.W.Frag} {mg : Str → Option Value} {base : Heap} {T : List (Addr × Str)} (F : Here K mg "_law_put_in" s__law_put_in ["_law_flat_here", "_law_choice_here", "_law_kind"]) (b_len : mg "len" = none) (b_range : mg "range" = none) : Dfn P w K mg base 1 "_law_put_in" (spO T w__law_put_in) :=
  dfn_o F sc__law_put_in 3 rfl (fun ds φ h => by unfold w__law_put_in at h; split at h; rfl; exact h.elim) fun X R ds hl => match ds, hl with
    | [v_law_flat_here, v_law_choice_here, v_law_kind], _ => ⟨m__law_put_in v_law_flat_here v_law_choice_here v_law_kind, fun φ h => h, d__law_put_in (R.cok ck__law_put_in)  (R.no b_len) (R.no b_range) v_law_flat_here v_law_choice_here v_law_kind⟩
/-! ### _law_same -/
abbrev s__law_same : Stmt := topS 11
theorem sc__law_same : FnScope ["_law_actual", "_law_due"] ["_law_actual", "_law_due"] (defScope s__law_same) := ⟨rfl, rfl, rfl, by decide +kernel, rfl, by decide +kernel, by decide +kernel⟩
theorem ck__law_same : chkSc true ["_law_actual", "_law_due"] [0, 1] [0, 1] [] (defScope s__law_same) = true := by decide +kernel
def m__law_same (v_law_actual v_law_due : D) : W (Out Unit Empty) :=
(W.ite (W.bind (W.pure v_law_due) P.truth) (W.stop (W.rtn (W.bl (W.b2 P.isBl (W.pure v_law_actual) (W.pure (.bool true))))))
 (W.rtn (W.bl (W.b2 P.isBl (W.pure v_law_actual) (W.pure (.bool false))))))
def w__law_same : List D → W (D)
  | [v_law_actual, v_law_due] => W.bind (m__law_same v_law_actual v_law_due) Out.val
  | _ => W.fail
theorem d__law_same {X : Cx} {S : Su} (C : Cok X (defScope s__law_same) ["_law_actual", "_law_due"] [0, 1] [0, 1] []) (v_law_actual v_law_due : D) : Bv X S (defBody s__law_same) [.va v_law_actual, .va v_law_due] (m__law_same v_law_actual v_law_due) (fun _ : Unit => [.un, .un]) (fun b : Empty => nomatch b) :=
(bv_ifr (tb_truth (ev_va C (i := 1) rfl rfl rfl).b (fun _ => rfl)) (bv_last (sv_ret (ev_cmp op_isBl p2_isBl (ev_va C (i := 0) rfl rfl rfl).b ev_bl.b rfl)))
 (bv_last (sv_ret (ev_cmp op_isBl p2_isBl (ev_va C (i := 0) rfl rfl rfl).b ev_bl.b rfl))))
theorem k__law_same {P : Program} {w : World} {K : PySem.W.Frag} {mg : Str → Option Value} {base : Heap} {T : List (Addr × Str)} (F : Here K mg "_law_same" s__law_same ["_law_actual", "_law_due"]) : Dfn P w K mg base 1 "_law_same" (spW T w__law_same) :=
  dfn_w F sc__law_same 0 rfl (fun ds φ h => by unfold w__law_same at h; split at h; rfl; exact h.elim) fun X R ds hl => match ds, hl with
    | [v_law_actual, v_law_due], _ => ⟨m__law_same v_law_actual v_law_due, fun φ h => h, d__law_same (R.cok ck__law_same)   v_law_actual v_law_due⟩
/-! ### _law_pool -/
abbrev s__law_pool : Stmt := topS 4
theorem sc__law_pool : FnScope ["_law_script", "_law_pool_here", "_law_state", "_law_k", "_law_cell", "_law_step", "_law_one", "_law_two"] ["_law_script"] (defScope s__law_pool) := ⟨rfl, rfl, rfl, by decide +kernel, rfl, by decide +kernel, by decide +kernel⟩
theorem ck__law_pool : chkSc true ["_law_script", "_law_pool_here", "_law_state", "_law_k", "_law_cell", "_law_step", "_law_one", "_law_two"] [0, 1, 2, 3, 4, 5, 6, 7] [0, 1, 2, 3, 4, 5, 6, 7] ["range", "min", "len", "int"] (defScope s__law_pool) = true := by decide +kernel
def m__law_pool (v_law_script : List D) : W (Out Unit Empty) :=
(W.bind (W.pure []) fun l1 =>
 (W.bind (W.pure (.int 17)) fun d2 =>
 (W.thn (τ := (List D) × D) (W.bind (W.bind (W.cons (W.bind (W.cons (W.pure (.int v_law_script.length)) (W.cons (W.pure (.int 63)) (W.pure []))) P.min2) (W.pure [])) P.range1) fun ds => W.loop (τ := (List D) × D) (fun d t3 => W.bind ((fun d => W.pure d) d) fun a4 =>
 (W.bind (W.bind (W.pure a4) fun j => P.ix (.list v_law_script) j) fun d5 =>
 (W.bind (W.b2 P.mod (W.bind (W.cons (W.b2 P.add (W.b2 P.add (W.b2 P.mul (W.pure t3.2) (W.pure (.int 69621))) (W.b2 P.mul (W.pure d5) (W.pure (.int 48271)))) (W.pure a4)) (W.pure [])) P.int1) (W.pure (.int 2147483647))) fun d6 =>
 (W.ite (W.b2 P.ge (W.pure d5) (W.b2 P.pow (W.pure (.int 10)) (W.pure (.int 18))))
 (W.thn (τ := (List D) × D) (W.bind (W.bind (W.cons (W.pure (.int 60)) (W.pure [])) P.range1) fun ds => W.loop (τ := (List D) × D) (fun d t7 => W.bind ((fun d => W.pure d) d) fun a8 =>
 (W.bind (W.bind (W.b2 P.mod (W.bind (W.cons (W.pure t7.2) (W.pure [])) P.int1) (W.pure (.int 60))) fun d => W.need (t7.1.length < sizeLine) (W.pure d)) fun d9 =>
 (W.bind (W.b2 P.fdiv (W.pure t7.2) (W.pure (.int 60))) fun d10 =>
 (W.pure (.nx ((t7.1 ++ [d9]), d10)))))) ds (t3.1, d5)) fun t11 =>
 (W.pure (.nx (t11.1, d6))))
 (W.bind (W.b2 P.mod (W.bind (W.cons (W.b2 P.add (W.b2 P.add (W.b2 P.mul (W.pure d5) (W.pure (.int 48271))) (W.b2 P.mul (W.pure a4) (W.pure (.int 69621)))) (W.pure (.int 7))) (W.pure [])) P.int1) (W.pure (.int 2147483647))) fun d12 =>
 (W.bind (W.b2 P.mod (W.bind (W.cons (W.b2 P.add (W.b2 P.add (W.b2 P.mul (W.pure d12) (W.pure (.int 16807))) (W.b2 P.mul (W.pure d5) (W.pure (.int 31)))) (W.pure a4)) (W.pure [])) P.int1) (W.pure (.int 1000003))) fun d13 =>
 (W.bind (W.b2 P.catL (W.pure (.list t3.1)) (W.lst (W.cons (W.b2 P.mod (W.bind (W.cons (W.b2 P.fdiv (W.pure d12) (W.pure (.int 11))) (W.pure [])) P.int1) (W.pure (.int 60))) (W.cons (W.b2 P.mod (W.bind (W.cons (W.pure d13) (W.pure [])) P.int1) (W.pure (.int 60))) (W.pure []))))) fun l14 =>
 (W.pure (.nx (l14, d6)))))))))) ds (l1, d2)) fun t15 =>
 (W.thn (τ := (List D) × D) (W.bind (W.bind (W.cons (W.pure (.int 300)) (W.pure [])) P.range1) fun ds => W.loop (τ := (List D) × D) (fun d t16 => W.bind ((fun d => W.pure d) d) fun a17 =>
 (W.bind (W.b2 P.mod (W.bind (W.cons (W.b2 P.add (W.b2 P.mul (W.pure t16.2) (W.pure (.int 48271))) (W.pure (.int 11))) (W.pure [])) P.int1) (W.pure (.int 2147483647))) fun d18 =>
 (W.bind (W.bind (W.b2 P.mod (W.bind (W.cons (W.b2 P.fdiv (W.pure d18) (W.pure (.int 97))) (W.pure [])) P.int1) (W.pure (.int 60))) fun d => W.need (t16.1.length < sizeLine) (W.pure d)) fun d19 =>
 (W.pure (.nx ((t16.1 ++ [d19]), d18)))))) ds (t15.1, t15.2)) fun t20 =>
 (W.rto (W.pure t20.1))))))
def w__law_pool : List D → List D → W (List D)
  | v_law_script, [] => W.bind (m__law_pool v_law_script ) Out.lst
  | _, _ => W.fail
theorem d__law_pool {X : Cx} {S : Su} (C : Cok X (defScope s__law_pool) ["_law_script", "_law_pool_here", "_law_state", "_law_k", "_law_cell", "_law_step", "_law_one", "_law_two"] [0, 1, 2, 3, 4, 5, 6, 7] [0, 1, 2, 3, 4, 5, 6, 7] ["range", "min", "len", "int"]) (b_int : X.mg "int" = none) (b_len : X.mg "len" = none) (b_min : X.mg "min" = none) (b_range : X.mg "range" = none) (v_law_script : List D) : Bv X S (defBody s__law_pool) [.rd v_law_script, .un, .un, .un, .un, .un, .un, .un] (m__law_pool v_law_script ) (fun _ : Unit => [.un, .un, .un, .un, .un, .un, .un, .un]) (fun b : Empty => nomatch b) :=
(bv_n (E := fun l1 => [.rd v_law_script, .ow l1, .un, .un, .un, .un, .un, .un]) (sv_seto C (i := 1) rfl rfl (eo_lst (by decide) av_nil) rfl) fun l1 =>
 (bv_n (E := fun d2 => [.rd v_law_script, .ow l1, .va d2, .un, .un, .un, .un, .un]) (sv_set C (i := 2) rfl rfl ev_int rfl) fun d2 =>
 (bv_cons (E := (fun (t : (List D) × D) => [.rd v_law_script, .ow t.1, .va t.2, .un, .un, .un, .un, .un])) (sv_for (E := (fun (t : (List D) × D) => [.rd v_law_script, .ow t.1, .va t.2, .un, .un, .un, .un, .un])) (t0 := (l1, d2)) C (iv_range1 C (j := 0) rfl b_range (av_cons (ev_blt C (j := 1) rfl (call_min2 C.calm) p1_min2 b_min bb_min (ab_cons (ev_lenr C (j := 2) (i := 0) rfl b_len rfl rfl rfl).b (ab_cons ev_int.b ab_nil rfl) rfl) rfl rfl) av_nil rfl) rfl) (tg_nm C (i := 3) rfl rfl) (.k _ (.k _ (.k _ (.k _ (.k _ (.k _ (.k _ (.k _ (.nil))))))))) (fun a4 (t3 : (List D) × D) =>
 (bv_n (E := fun d5 => [.rd v_law_script, .ow t3.1, .va t3.2, .va a4, .va d5, .un, .un, .un]) (sv_set C (i := 4) rfl rfl (ev_ixr C (i := 0) rfl rfl rfl (ev_va C (i := 3) rfl rfl rfl).b (fun _ _ => rfl)) rfl) fun d5 =>
 (bv_n (E := fun d6 => [.rd v_law_script, .ow t3.1, .va d6, .va a4, .va d5, .un, .un, .un]) (sv_set C (i := 2) rfl rfl (ev_bin op_mod p2_mod (ev_bty C (j := 3) rfl call_int1 p1_int b_int bb_int (ab_cons (ev_bin op_add2 p2_add (ev_bin op_add2 p2_add (ev_bin op_mul p2_mul (ev_va C (i := 2) rfl rfl rfl).b ev_int.b).b (ev_bin op_mul p2_mul (ev_va C (i := 4) rfl rfl rfl).b ev_int.b).b).b (ev_va C (i := 3) rfl rfl rfl).b).b ab_nil rfl) rfl rfl).b ev_int.b) rfl) fun d6 =>
 (bv_last (sv_if (tb_cmp op_ge p2_ge (ev_va C (i := 4) rfl rfl rfl).b (ev_bin op_pow p2_pow ev_int.b ev_int.b).b rfl)
 (bv_cons (E := (fun (t : (List D) × D) => [.rd v_law_script, .ow t.1, .va d6, .va a4, .va t.2, .un, .un, .un])) (sv_for (E := (fun (t : (List D) × D) => [.rd v_law_script, .ow t.1, .va d6, .va a4, .va t.2, .un, .un, .un])) (t0 := (t3.1, d5)) C (iv_range1 C (j := 0) rfl b_range (av_cons ev_int av_nil rfl) rfl) (tg_nm C (i := 5) rfl rfl) (.k _ (.k _ (.k _ (.k _ (.k _ (.k _ (.k _ (.k _ (.nil))))))))) (fun a8 (t7 : (List D) × D) =>
 (bv_n (E := fun d9 => [.rd v_law_script, .ow (t7.1 ++ [d9]), .va d6, .va a4, .va t7.2, .va a8, .un, .un]) (sv_app C (i := 1) rfl rfl rfl (ev_bin op_mod p2_mod (ev_bty C (j := 3) rfl call_int1 p1_int b_int bb_int (ab_cons (ev_va C (i := 4) rfl rfl rfl).b ab_nil rfl) rfl rfl).b ev_int.b) rfl rfl rfl rfl) fun d9 =>
 (bv_n (E := fun d10 => [.rd v_law_script, .ow (t7.1 ++ [d9]), .va d6, .va a4, .va d10, .va a8, .un, .un]) (sv_set C (i := 4) rfl rfl (ev_bin op_fdiv p2_fdiv (ev_va C (i := 4) rfl rfl rfl).b ev_int.b) rfl) fun d10 =>
 (bv_nil (t := ((t7.1 ++ [d9]), d10)) (.k _ (.k _ (.k _ (.k _ (.k _ (.d _ (.k _ (.k _ (.nil))))))))))))) (fun _ => rfl)) fun (t11 : (List D) × D) =>
 (bv_nil (t := (t11.1, d6)) (.k _ (.k _ (.k _ (.d _ (.d _ (.k _ (.k _ (.k _ (.nil)))))))))))
 (bv_n (E := fun d12 => [.rd v_law_script, .ow t3.1, .va d6, .va a4, .va d5, .un, .va d12, .un]) (sv_set C (i := 6) rfl rfl (ev_bin op_mod p2_mod (ev_bty C (j := 3) rfl call_int1 p1_int b_int bb_int (ab_cons (ev_bin op_add2 p2_add (ev_bin op_add2 p2_add (ev_bin op_mul p2_mul (ev_va C (i := 4) rfl rfl rfl).b ev_int.b).b (ev_bin op_mul p2_mul (ev_va C (i := 3) rfl rfl rfl).b ev_int.b).b).b ev_int.b).b ab_nil rfl) rfl rfl).b ev_int.b) rfl) fun d12 =>
 (bv_n (E := fun d13 => [.rd v_law_script, .ow t3.1, .va d6, .va a4, .va d5, .un, .va d12, .va d13]) (sv_set C (i := 7) rfl rfl (ev_bin op_mod p2_mod (ev_bty C (j := 3) rfl call_int1 p1_int b_int bb_int (ab_cons (ev_bin op_add2 p2_add (ev_bin op_add2 p2_add (ev_bin op_mul p2_mul (ev_va C (i := 6) rfl rfl rfl).b ev_int.b).b (ev_bin op_mul p2_mul (ev_va C (i := 4) rfl rfl rfl).b ev_int.b).b).b (ev_va C (i := 3) rfl rfl rfl).b).b ab_nil rfl) rfl rfl).b ev_int.b) rfl) fun d13 =>
 (bv_frz (i := 1) rfl (bv_n (E := fun l14 => [.rd v_law_script, .ow l14, .va d6, .va a4, .va d5, .un, .va d12, .va d13]) (sv_seto C (i := 1) rfl rfl (eo_cat (ev_va C (i := 1) rfl rfl rfl) ((eo_lst (by decide) (av_cons (ev_bin op_mod p2_mod (ev_bty C (j := 3) rfl call_int1 p1_int b_int bb_int (ab_cons (ev_bin op_fdiv p2_fdiv (ev_va C (i := 6) rfl rfl rfl).b ev_int.b).b ab_nil rfl) rfl rfl).b ev_int.b) (av_cons (ev_bin op_mod p2_mod (ev_bty C (j := 3) rfl call_int1 p1_int b_int bb_int (ab_cons (ev_va C (i := 7) rfl rfl rfl).b ab_nil rfl) rfl rfl).b ev_int.b) av_nil rfl) rfl))).v) rfl) fun l14 =>
 (bv_nil (t := (l14, d6)) (.k _ (.k _ (.k _ (.d _ (.d _ (.k _ (.d _ (.d _ (.nil))))))))))))))))))) (fun _ => rfl)) fun (t15 : (List D) × D) =>
 (bv_cons (E := (fun (t : (List D) × D) => [.rd v_law_script, .ow t.1, .va t.2, .un, .un, .un, .un, .un])) (sv_for (E := (fun (t : (List D) × D) => [.rd v_law_script, .ow t.1, .va t.2, .un, .un, .un, .un, .un])) (t0 := (t15.1, t15.2)) C (iv_range1 C (j := 0) rfl b_range (av_cons ev_int av_nil rfl) rfl) (tg_nm C (i := 5) rfl rfl) (.k _ (.k _ (.k _ (.k _ (.k _ (.k _ (.k _ (.k _ (.nil))))))))) (fun a17 (t16 : (List D) × D) =>
 (bv_n (E := fun d18 => [.rd v_law_script, .ow t16.1, .va d18, .un, .un, .va a17, .un, .un]) (sv_set C (i := 2) rfl rfl (ev_bin op_mod p2_mod (ev_bty C (j := 3) rfl call_int1 p1_int b_int bb_int (ab_cons (ev_bin op_add2 p2_add (ev_bin op_mul p2_mul (ev_va C (i := 2) rfl rfl rfl).b ev_int.b).b ev_int.b).b ab_nil rfl) rfl rfl).b ev_int.b) rfl) fun d18 =>
 (bv_n (E := fun d19 => [.rd v_law_script, .ow (t16.1 ++ [d19]), .va d18, .un, .un, .va a17, .un, .un]) (sv_app C (i := 1) rfl rfl rfl (ev_bin op_mod p2_mod (ev_bty C (j := 3) rfl call_int1 p1_int b_int bb_int (ab_cons (ev_bin op_fdiv p2_fdiv (ev_va C (i := 2) rfl rfl rfl).b ev_int.b).b ab_nil rfl) rfl rfl).b ev_int.b) rfl rfl rfl rfl) fun d19 =>
 (bv_nil (t := ((t16.1 ++ [d19]), d18)) (.k _ (.k _ (.k _ (.k _ (.k _ (.d _ (.k _ (.k _ (.nil))))))))))))) (fun _ => rfl)) fun (t20 : (List D) × D) =>
 (bv_last (sv_retw C (i := 1) rfl rfl rfl))))))
theorem k__law_pool {P : Program} {w : World} {K : PySem.W.Frag} {mg : Str → Option Value} {base : Heap} {T : List (Addr × Str)} (F : Here K mg "_law_pool" s__law_pool ["_law_script"]) (b_int : mg "int" = none) (b_len : mg "len" = none) (b_min : mg "min" = none) (b_range : mg "range" = none) : Dfn P w K mg base 1 "_law_pool" (spR K T w__law_pool) :=
  dfn_r F sc__law_pool 7 rfl (fun l ds φ h => by unfold w__law_pool at h; split at h; rfl; exact h.elim) fun X R v_law_script ds hl => match ds, hl with
    | [], _ => ⟨m__law_pool v_law_script , fun φ h => h, d__law_pool (R.cok ck__law_pool)  (R.no b_int) (R.no b_len) (R.no b_min) (R.no b_range) v_law_script ⟩
/-! ### _law_stream -/
abbrev s__law_stream : Stmt := topS 5
theorem sc__law_stream : FnScope ["_law_script"] ["_law_script"] (defScope s__law_stream) := ⟨rfl, rfl, rfl, by decide +kernel, rfl, by decide +kernel, by decide +kernel⟩
theorem ck__law_stream : chkSc true ["_law_script"] [0] [0] ["_law_pool"] (defScope s__law_stream) = true := by decide +kernel
def m__law_stream (v_law_script : List D) : W (Out Unit Empty) :=
(W.rto (W.b2 P.catL (W.lst (W.cons (W.pure (.int 0)) (W.pure []))) (W.lst (W.bind (W.pure []) (w__law_pool v_law_script)))))
def w__law_stream : List D → List D → W (List D)
  | v_law_script, [] => W.bind (m__law_stream v_law_script ) Out.lst
  | _, _ => W.fail
theorem d__law_stream {X : Cx} {S : Su} (C : Cok X (defScope s__law_stream) ["_law_script"] [0] [0] ["_law_pool"]) (c__law_pool : Cal X "_law_pool" (spR X.K S.T w__law_pool)) (v_law_script : List D) : Bv X S (defBody s__law_stream) [.rd v_law_script] (m__law_stream v_law_script ) (fun _ : Unit => [.un]) (fun b : Empty => nomatch b) :=
(bv_last (sv_reto (eo_cat ((eo_lst (by decide) (av_cons ev_int av_nil rfl))).v ((eo_callR C (j := 0) (i := 0) rfl c__law_pool rfl rfl rfl av_nil rfl rfl)).v)))
theorem k__law_stream {P : Program} {w : World} {K : PySem.W.Frag} {mg : Str → Option Value} {base : Heap} {T : List (Addr × Str)} (F : Here K mg "_law_stream" s__law_stream ["_law_script"]) (c__law_pool : Dfn P w K mg base 1 "_law_pool" (spR K T w__law_pool)) : Dfn P w K mg base 2 "_law_stream" (spR K T w__law_stream) :=
  dfn_r F sc__law_stream 0 rfl (fun l ds φ h => by unfold w__law_stream at h; split at h; rfl; exact h.elim) fun X R v_law_script ds hl => match ds, hl with
    | [], _ => ⟨m__law_stream v_law_script , fun φ h => h, d__law_stream (R.cok ck__law_stream) (by have z := R.d c__law_pool (by decide); rw [← R.K] at z; exact z)  v_law_script ⟩
/-! ### is_choice -/
abbrev s_is_choice : Stmt := topS 1
theorem sc_is_choice : FnScope ["flat", "choice", "kind", "formula", "number"] ["flat", "choice", "kind"] (defScope s_is_choice) := ⟨rfl, rfl, rfl, by decide +kernel, rfl, by decide +kernel, by decide +kernel⟩
theorem ck_is_choice : chkSc true ["flat", "choice", "kind", "formula", "number"] [0, 1, 2, 3, 4] [0, 1, 2, 3, 4] ["len", "zip"] (defScope s_is_choice) = true := by decide +kernel
def m_is_choice (v_flat v_choice v_kind : D) : W (Out Unit Empty) :=
(W.ite (W.b2 P.ne (W.bind (W.cons (W.pure v_choice) (W.pure [])) P.len) (W.bind (W.cons (W.pure v_flat) (W.pure [])) P.len)) (W.stop (W.rtn (W.pure (.bool false))))
 (W.thn (τ := Unit) (W.bind (W.bind (W.cons (W.pure v_flat) (W.cons (W.pure v_choice) (W.pure []))) P.zip1) fun ds => W.loop (τ := Unit) (fun d t1 => W.bind ((P.pr2 (fun d => W.pure d) (fun d => W.pure d)) d) fun a2 =>
 (W.ite (W.b2 P.eq (W.b2 P.ix (W.pure a2.1) (W.pure (.int 0))) (W.pure v_kind))
 (W.ite (W.ite (W.bind (W.pure a2.2) fun d => W.pure (P.isNone d)) (W.pure true) (W.no (W.bind (W.pure (.int 0)) fun x => W.bind (W.pure a2.2) fun y => W.ite (P.le x y) (W.bind (W.bind (W.cons (W.b2 P.ix (W.pure a2.1) (W.pure (.int 1))) (W.pure [])) P.len) fun z => P.lt y z) (W.pure false)))) (W.stop (W.rtn (W.pure (.bool false))))
 (W.pure (.nx ())))
 (W.ite (W.bind (W.pure a2.2) fun d => W.pure (!P.isNone d)) (W.stop (W.rtn (W.pure (.bool false))))
 (W.pure (.nx ()))))) ds ()) fun t3 =>
 (W.rtn (W.pure (.bool true)))))
def w_is_choice : List D → W (D)
  | [v_flat, v_choice, v_kind] => W.bind (m_is_choice v_flat v_choice v_kind) Out.val
  | _ => W.fail
theorem d_is_choice {X : Cx} {S : Su} (C : Cok X (defScope s_is_choice) ["flat", "choice", "kind", "formula", "number"] [0, 1, 2, 3, 4] [0, 1, 2, 3, 4] ["len", "zip"]) (b_len : X.mg "len" = none) (b_zip : X.mg "zip" = none) (v_flat v_choice v_kind : D) : Bv X S (defBody s_is_choice) [.va v_flat, .va v_choice, .va v_kind, .un, .un] (m_is_choice v_flat v_choice v_kind) (fun _ : Unit => [.un, .un, .un, .un, .un]) (fun b : Empty => nomatch b) :=
(bv_ifr (tb_cmp (op_ne2 C.u64) p2_ne (ev_blt C (j := 0) rfl call_len' p1_len b_len PySem.boot_len (ab_cons (ev_va C (i := 1) rfl rfl rfl).b ab_nil rfl) rfl rfl).b (ev_blt C (j := 0) rfl call_len' p1_len b_len PySem.boot_len (ab_cons (ev_va C (i := 0) rfl rfl rfl).b ab_nil rfl) rfl rfl).b rfl) (bv_last (sv_ret ev_bl))
 (bv_cons (E := (fun (_ : Unit) => [.va v_flat, .va v_choice, .va v_kind, .un, .un])) (sv_for (E := (fun (_ : Unit) => [.va v_flat, .va v_choice, .va v_kind, .un, .un])) (t0 := ()) C (iv_zip C (j := 1) rfl b_zip (av_cons (ev_va C (i := 0) rfl rfl rfl) (av_cons (ev_va C (i := 1) rfl rfl rfl) av_nil rfl) rfl) rfl rfl) (tg_pr2 C (tg_nm C (i := 3) rfl rfl) (tg_nm C (i := 4) rfl rfl) rfl rfl rfl rfl) (.k _ (.k _ (.k _ (.k _ (.k _ (.nil)))))) (fun a2 (t1 : Unit) =>
 (bv_last (sv_if (tb_cmp (op_eq2 C.u64) p2_eq (ev_ix (ev_va C (i := 3) rfl rfl rfl) ev_int.b (fun _ _ => rfl)).b (ev_va C (i := 2) rfl rfl rfl).b rfl)
 (bv_ifr (tw_or (tb_isN (ev_va C (i := 4) rfl rfl rfl).b) (tw_or1 (tb_not (tb_chain op_le op_lt p2_le p2_lt ev_int.b (ev_va C (i := 4) rfl rfl rfl).b (ev_blt C (j := 0) rfl call_len' p1_len b_len PySem.boot_len (ab_cons (ev_ix (ev_va C (i := 3) rfl rfl rfl) ev_int.b (fun _ _ => rfl)).b ab_nil rfl) rfl rfl).b (by with_unfolding_all rfl))))).t (bv_last (sv_ret ev_bl))
 (bv_nil (t := ()) (.k _ (.k _ (.k _ (.d _ (.d _ (.nil))))))))
 (bv_ifr (tb_notN (ev_va C (i := 4) rfl rfl rfl).b) (bv_last (sv_ret ev_bl))
 (bv_nil (t := ()) (.k _ (.k _ (.k _ (.d _ (.d _ (.nil))))))))))) (fun _ => rfl)) fun (t3 : Unit) =>
 (bv_last (sv_ret ev_bl))))
theorem k_is_choice {P : Program} {w : World} {K : PySem.W.Frag} {mg : Str → Option Value} {base : Heap} {T : List (Addr × Str)} (F : HereK K mg "is_choice" s_is_choice ["flat", "choice", "kind"] ["kind"] 2 1) (b_len : mg "len" = none) (b_zip : mg "zip" = none) : DfnK P w K mg base 1 "is_choice" ["kind"] 2 1 (spW T w_is_choice) :=
  dfnk_w F sc_is_choice 2 rfl (fun ds φ h => by unfold w_is_choice at h; split at h; rfl; exact h.elim) fun X R ds hl => match ds, hl with
    | [v_flat, v_choice, v_kind], _ => ⟨m_is_choice v_flat v_choice v_kind, fun φ h => h, d_is_choice (R.cok ck_is_choice)  (R.no b_len) (R.no b_zip) v_flat v_choice v_kind⟩
/-! ### put_in -/
abbrev s_put_in : Stmt := topS 2
theorem sc_put_in : FnScope ["flat", "choice", "kind", "found", "formula", "number"] ["flat", "choice", "kind"] (defScope s_put_in) := ⟨rfl, rfl, rfl, by decide +kernel, rfl, by decide +kernel, by decide +kernel⟩
theorem ck_put_in : chkSc true ["flat", "choice", "kind", "found", "formula", "number"] [0, 1, 2, 3, 4, 5] [0, 1, 2, 3, 4, 5] ["zip", "list"] (defScope s_put_in) = true := by decide +kernel
def m_put_in (v_flat v_choice v_kind : D) : W (List D) :=
(W.bind ((W.bind (W.bind (W.cons (W.pure v_flat) (W.cons (W.pure v_choice) (W.pure []))) P.zip1) fun ds => W.loop (τ := (List D)) (fun d t1 => W.bind ((P.pr2 (fun d => W.pure d) (fun d => W.pure d)) d) fun a2 =>
 (W.ite (W.b2 P.eq (W.b2 P.ix (W.pure a2.1) (W.pure (.int 0))) (W.pure v_kind))
 (W.bind (W.bind (W.tup (W.cons (W.pure (.str "greatest")) (W.cons (W.lst (W.cons (W.b2 P.ix (W.b2 P.ix (W.pure a2.1) (W.pure (.int 1))) (W.pure a2.2)) (W.pure []))) (W.pure [])))) fun d => W.need (t1.length < sizeLine) (W.pure d)) fun d3 =>
 (W.pure (.nx (t1 ++ [d3]))))
 (W.ite (W.b2 P.eq (W.b2 P.ix (W.pure a2.1) (W.pure (.int 0))) (W.pure (.str "amount")))
 (W.bind (W.bind (W.bind (W.pure a2.1) fun d => W.need (NoPair d) (W.pure d)) fun d => W.need (t1.length < sizeLine) (W.pure d)) fun d4 =>
 (W.pure (.nx (t1 ++ [d4]))))
 (W.bind (W.bind (W.tup (W.cons (W.b2 P.ix (W.pure a2.1) (W.pure (.int 0))) (W.cons (W.lst (W.bind (W.cons (W.b2 P.ix (W.pure a2.1) (W.pure (.int 1))) (W.pure [])) P.list1)) (W.pure [])))) fun d => W.need (t1.length < sizeLine) (W.pure d)) fun d5 =>
 (W.pure (.nx (t1 ++ [d5]))))))) ds ([])) : W (Out (List D) Empty)) fun o => match o with | .nx t => W.pure t | _ => W.fail)
def w_put_in : List D → W (List D)
  | [v_flat, v_choice, v_kind] => m_put_in v_flat v_choice v_kind
  | _ => W.fail
theorem d_put_in {X : Cx} {S : Su} (C : Cok X (defScope s_put_in) ["flat", "choice", "kind", "found", "formula", "number"] [0, 1, 2, 3, 4, 5] [0, 1, 2, 3, 4, 5] ["zip", "list"]) (b_list : X.mg "list" = none) (b_zip : X.mg "zip" = none) (v_flat v_choice v_kind : D) : Bz X S (defBody s_put_in) [.va v_flat, .va v_choice, .va v_kind, .un, .un, .un] (m_put_in v_flat v_choice v_kind) :=
bz_loop (Γ1 := [.va v_flat, .va v_choice, .va v_kind, .un, .un, .un]) (E := fun Z l => [.va v_flat, .va v_choice, .va v_kind, .oz Z l, .un, .un]) C (i := 3) rfl rfl (sv_seto C (i := 3) rfl rfl (eo_lst (by decide) av_nil) rfl) (show 3 < 6 by decide) (fun _ _ => rfl) (fun Z => (sv_for (E := (fun (t : (List D)) => [.va v_flat, .va v_choice, .va v_kind, .oz Z t, .un, .un])) (t0 := []) C (iv_zip C (j := 0) rfl b_zip (av_cons (ev_va C (i := 0) rfl rfl rfl) (av_cons (ev_va C (i := 1) rfl rfl rfl) av_nil rfl) rfl) rfl rfl) (tg_pr2 C (tg_nm C (i := 4) rfl rfl) (tg_nm C (i := 5) rfl rfl) rfl rfl rfl rfl) (.k _ (.k _ (.k _ (.k _ (.k _ (.k _ (.nil))))))) (fun a2 (t1 : (List D)) =>
 (bv_last (sv_if (tb_cmp (op_eq2 C.u64) p2_eq (ev_ix (ev_va C (i := 4) rfl rfl rfl) ev_int.b (fun _ _ => rfl)).b (ev_va C (i := 2) rfl rfl rfl).b rfl)
 (bv_n (E := fun d3 => [.va v_flat, .va v_choice, .va v_kind, .oz Z (t1 ++ [d3]), .va a2.1, .va a2.2]) (sv_appz C (i := 3) rfl rfl rfl (ez_pair ev_str (eo_lst (by decide) (av_cons (ev_ix (ev_ix (ev_va C (i := 4) rfl rfl rfl) ev_int.b (fun _ _ => rfl)) (ev_va C (i := 5) rfl rfl rfl).b (fun _ _ => rfl)) av_nil rfl)) rfl rfl) rfl rfl rfl rfl) fun d3 =>
 (bv_nil (t := (t1 ++ [d3])) (.k _ (.k _ (.k _ (.k _ (.d _ (.d _ (.nil)))))))))
 (bv_last (sv_if (tb_cmp (op_eq2 C.u64) p2_eq (ev_ix (ev_va C (i := 4) rfl rfl rfl) ev_int.b (fun _ _ => rfl)).b ev_str.b rfl)
 (bv_n (E := fun d4 => [.va v_flat, .va v_choice, .va v_kind, .oz Z (t1 ++ [d4]), .va a2.1, .va a2.2]) (sv_appz C (i := 3) rfl rfl rfl (ez_ev (ev_va C (i := 4) rfl rfl rfl)) rfl rfl rfl rfl) fun d4 =>
 (bv_nil (t := (t1 ++ [d4])) (.k _ (.k _ (.k _ (.k _ (.d _ (.d _ (.nil)))))))))
 (bv_n (E := fun d5 => [.va v_flat, .va v_choice, .va v_kind, .oz Z (t1 ++ [d5]), .va a2.1, .va a2.2]) (sv_appz C (i := 3) rfl rfl rfl (ez_pair (ev_ix (ev_va C (i := 4) rfl rfl rfl) ev_int.b (fun _ _ => rfl)) (eo_bty C (j := 1) rfl call_list_of p1_list1 b_list bb_list (av_cons (ev_ix (ev_va C (i := 4) rfl rfl rfl) ev_int.b (fun _ _ => rfl)) av_nil rfl) rfl rfl) rfl rfl) rfl rfl rfl rfl) fun d5 =>
 (bv_nil (t := (t1 ++ [d5])) (.k _ (.k _ (.k _ (.k _ (.d _ (.d _ (.nil)))))))))))))) (fun _ => rfl)))
theorem k_put_in {P : Program} {w : World} {K : PySem.W.Frag} {mg : Str → Option Value} {base : Heap} {T : List (Addr × Str)} (F : HereK K mg "put_in" s_put_in ["flat", "choice", "kind"] ["kind"] 2 1) (b_list : mg "list" = none) (b_zip : mg "zip" = none) : DfnK P w K mg base 1 "put_in" ["kind"] 2 1 (spZ T w_put_in) :=
  dfnk_z F sc_put_in 3 rfl (fun ds φ h => by unfold w_put_in at h; split at h; rfl; exact h.elim) fun X R ds hl => match ds, hl with
    | [v_flat, v_choice, v_kind], _ => d_put_in (R.cok ck_put_in) (R.no b_list) (R.no b_zip) v_flat v_choice v_kind
/-! ### law -/
abbrev s_law : Stmt := topS 14
theorem sc_law : FnScope ["_law_script", "_law_pool_here", "_law_flat_here", "_law_kind", "_law_choice_here", "_law_at", "_law_tried", "_law_kept", "_law_one", "_law_turn", "_law_actual", "_law_formula"] ["_law_script"] (defScope s_law) := ⟨rfl, rfl, rfl, by decide +kernel, rfl, by decide +kernel, by decide +kernel⟩
theorem ck_law : chkSc true ["_law_script", "_law_pool_here", "_law_flat_here", "_law_kind", "_law_choice_here", "_law_at", "_law_tried", "_law_kept", "_law_one", "_law_turn", "_law_actual", "_law_formula"] [0, 1, 2, 3, 4, 5, 6, 7, 8, 9, 10, 11] [0, 1, 2, 3, 4, 5, 6, 7, 8, 9, 10, 11] ["_law_stream", "_law_flat", "_law_choice", "_law_pick", "len", "repr", "_law_same", "is_choice", "_law_is_choice", "range", "put_in", "isinstance", "list", "_law_put_in"] (defScope s_law) = true := by decide +kernel
def m_law (v_law_script : List D) : W (Out Unit Empty) :=
(W.bind (W.bind (W.pure []) (w__law_stream v_law_script)) fun l1 => W.need ((PI l1.length) l1)
 (W.bind (W.bind (W.cons (W.pure (.int 6)) (W.cons (W.pure (.bool false)) (W.pure []))) w__law_flat) fun d2 =>
 (W.thn (τ := Unit) (W.bind (W.bind (W.lst (W.cons (W.pure (.str "least")) (W.cons (W.pure (.str "greatest")) (W.pure [])))) P.items) fun ds => W.loop (τ := Unit) (fun d t3 => W.bind ((fun d => W.pure d) d) fun a4 =>
 (W.bind (W.bind (W.cons (W.pure d2) (W.cons (W.pure a4) (W.pure []))) w__law_choice) fun d5 =>
 (W.bind (W.bind (W.cons (W.bind (W.cons (W.pure d5) (W.pure [])) P.len) (W.pure [])) pickW) fun d6 =>
 (W.bind (W.cons (W.pure d5) (W.cons (W.lst (W.bind (W.pure d5) fun x => W.bind (W.bind (W.pure (.int 1)) fun d => W.bind (P.asInt d) fun i => W.pure (some i)) fun i => W.bind (W.pure none) fun j => P.cutL i j x)) (W.cons (W.lst (W.b2 P.catL (W.pure d5) (W.lst (W.cons (W.pure .none) (W.pure []))))) (W.cons (W.lst (W.b2 P.catL (W.pure d5) (W.lst (W.cons (W.pure (.int 0)) (W.pure []))))) (W.pure []))))) fun l7 =>
 (W.bind (W.bind (W.lst (W.b2 P.catL (W.lst (W.b2 P.catL (W.lst (W.bind (W.pure d5) fun x => W.bind (W.pure none) fun i => W.bind (W.bind (W.pure d6) fun d => W.bind (P.asInt d) fun i => W.pure (some i)) fun j => P.cutL i j x)) (W.lst (W.cons (W.b2 P.ix (W.lst (W.cons (W.pure .none) (W.cons (W.pure (.int 0)) (W.cons (W.bind (W.pure (.int 1)) P.neg) (W.cons (W.pure (.int 6)) (W.cons (W.pure (.int 2)) (W.pure []))))))) (W.bind (W.cons (W.pure (.int 5)) (W.pure [])) pickW)) (W.pure []))))) (W.lst (W.bind (W.pure d5) fun x => W.bind (W.bind (W.b2 P.add (W.pure d6) (W.pure (.int 1))) fun d => W.bind (P.asInt d) fun i => W.pure (some i)) fun i => W.bind (W.pure none) fun j => P.cutL i j x)))) fun d => W.need (l7.length < sizeLine) (W.pure d)) fun d8 =>
 (W.bind (W.bind (W.cons (W.tup (W.cons (W.pure d2) (W.cons (W.pure (.list (l7 ++ [d8]))) (W.pure [])))) (W.pure [])) P.repr1) fun d9 =>
 (W.thn (τ := Unit) (W.bind (W.bind (W.pure (.list (l7 ++ [d8]))) P.items) fun ds => W.loop (τ := Unit) (fun d t10 => W.bind ((fun d => W.pure d) d) fun a11 =>
 (W.ite (W.no (W.bind (W.bind (W.cons (W.bind (W.cons (W.pure d2) (W.cons (W.pure a11) (W.pure []))) fun us => W.bind (W.cons (W.pure a4) (W.pure [])) fun ws => w_is_choice (us ++ ws)) (W.cons (W.bind (W.cons (W.pure d2) (W.cons (W.pure a11) (W.cons (W.pure a4) (W.pure [])))) w__law_is_choice) (W.pure []))) w__law_same) P.truth)) (W.stop (W.rtn (W.pure (.bool false))))
 (W.pure (.nx ())))) ds ()) fun t12 =>
 (W.thn (τ := Unit) (W.bind (W.bind (W.cons (W.pure (.int 2)) (W.pure [])) P.range1) fun ds => W.loop (τ := Unit) (fun d t13 => W.bind ((fun d => W.pure d) d) fun a14 =>
 (W.bind (W.bind (W.cons (W.pure d2) (W.cons (W.pure d5) (W.pure []))) fun us => W.bind (W.cons (W.pure a4) (W.pure [])) fun ws => w_put_in (us ++ ws)) fun l15 => W.ite (W.ite (W.no (W.bind (W.bind (W.pure (.list l15)) fun d => W.pure (.bool (P.isTy "list" d))) P.truth)) (W.pure true) (W.b2 P.ne (W.pure (.list l15)) (W.lst (W.bind (W.cons (W.pure d2) (W.cons (W.pure d5) (W.cons (W.pure a4) (W.pure [])))) w__law_put_in)))) (W.stop (W.rtn (W.pure (.bool false)))) (W.need (∀ d ∈ l15, ∃ s z, d = .tuple [.str s, z] ∧ (s ≠ "amount" → ∃ k, z = .list k)) (W.pure (.nx ()))))) ds ()) fun t16 =>
 (W.ite (W.b2 P.ne (W.bind (W.cons (W.tup (W.cons (W.pure d2) (W.cons (W.pure (.list (l7 ++ [d8]))) (W.pure [])))) (W.pure [])) P.repr1) (W.pure d9)) (W.stop (W.rtn (W.pure (.bool false))))
 (W.pure (.nx ()))))))))))) ds ()) fun t17 =>
 (W.rtn (W.pure (.bool true))))))
theorem d_law {X : Cx} {S : Su} (C : Cok X (defScope s_law) ["_law_script", "_law_pool_here", "_law_flat_here", "_law_kind", "_law_choice_here", "_law_at", "_law_tried", "_law_kept", "_law_one", "_law_turn", "_law_actual", "_law_formula"] [0, 1, 2, 3, 4, 5, 6, 7, 8, 9, 10, 11] [0, 1, 2, 3, 4, 5, 6, 7, 8, 9, 10, 11] ["_law_stream", "_law_flat", "_law_choice", "_law_pick", "len", "repr", "_law_same", "is_choice", "_law_is_choice", "range", "put_in", "isinstance", "list", "_law_put_in"]) (c__law_choice : ∀ n, Cal X "_law_choice" (spI S.T (PI n) w__law_choice)) (c__law_flat : ∀ n, Cal X "_law_flat" (spI S.T (PI n) w__law_flat)) (c__law_is_choice : Cal X "_law_is_choice" (spW S.T w__law_is_choice)) (c__law_pick : ∀ n, Cal X "_law_pick" (spI S.T (PI n) pickW)) (c__law_put_in : Cal X "_law_put_in" (spO S.T w__law_put_in)) (c__law_same : Cal X "_law_same" (spW S.T w__law_same)) (c__law_stream : Cal X "_law_stream" (spR X.K S.T w__law_stream)) (c_is_choice : CalG X "is_choice" ["kind"] 2 1 (spW S.T w_is_choice)) (c_put_in : CalG X "put_in" ["kind"] 2 1 (spZ S.T w_put_in)) (b_isinstance : X.mg "isinstance" = none) (b_len : X.mg "len" = none) (b_list : X.mg "list" = none) (b_range : X.mg "range" = none) (b_repr : X.mg "repr" = none) (hG : X.A.guards = some []) (v_law_script : List D) : Bv X S (defBody s_law) [.rd v_law_script, .un, .un, .un, .un, .un, .un, .un, .un, .un, .un, .un] (m_law v_law_script ) (fun _ : Unit => [.un, .un, .un, .un, .un, .un, .un, .un, .un, .un, .un, .un]) (fun b : Empty => nomatch b) :=
(bv_n (E := fun l1 => [.rd v_law_script, .ow l1, .un, .un, .un, .un, .un, .un, .un, .un, .un, .un]) (sv_seto C (i := 1) rfl rfl (eo_callR C (j := 0) (i := 0) rfl c__law_stream rfl rfl rfl av_nil rfl rfl) rfl) fun l1 => (bv_ivn (i := 1) (I := (PI l1.length)) rfl
 (bv_n (E := fun d2 => [.rd v_law_script, .iv (PI l1.length), .va d2, .un, .un, .un, .un, .un, .un, .un, .un, .un]) (sv_set C (i := 2) rfl rfl (ev_callI C (j := 1) (i := 1) rfl (c__law_flat _) rfl rfl rfl (av_cons ev_int (av_cons ev_bl av_nil rfl) rfl) rfl rfl) rfl) fun d2 =>
 (bv_cons (E := (fun (_ : Unit) => [.rd v_law_script, .iv (PI l1.length), .va d2, .un, .un, .un, .un, .un, .un, .un, .un, .un])) (sv_for (E := (fun (_ : Unit) => [.rd v_law_script, .iv (PI l1.length), .va d2, .un, .un, .un, .un, .un, .un, .un, .un, .un])) (t0 := ()) C (iv_list ((eo_lst (by decide) (av_cons ev_str (av_cons ev_str av_nil rfl) rfl))).v) (tg_nm C (i := 3) rfl rfl) (.k _ (.k _ (.k _ (.k _ (.k _ (.k _ (.k _ (.k _ (.k _ (.k _ (.k _ (.k _ (.nil))))))))))))) (fun a4 (t3 : Unit) =>
 (bv_n (E := fun d5 => [.rd v_law_script, .iv (PI l1.length), .va d2, .va a4, .va d5, .un, .un, .un, .un, .un, .un, .un]) (sv_set C (i := 4) rfl rfl (ev_callI C (j := 2) (i := 1) rfl (c__law_choice _) rfl rfl rfl (av_cons (ev_va C (i := 2) rfl rfl rfl) (av_cons (ev_va C (i := 3) rfl rfl rfl) av_nil rfl) rfl) rfl rfl) rfl) fun d5 =>
 (bv_n (E := fun d6 => [.rd v_law_script, .iv (PI l1.length), .va d2, .va a4, .va d5, .va d6, .un, .un, .un, .un, .un, .un]) (sv_set C (i := 5) rfl rfl (ev_callI C (j := 3) (i := 1) rfl (c__law_pick _) rfl rfl rfl (av_cons (ev_blt C (j := 4) rfl call_len' p1_len b_len PySem.boot_len (ab_cons (ev_va C (i := 4) rfl rfl rfl).b ab_nil rfl) rfl rfl) av_nil rfl) rfl rfl) rfl) fun d6 =>
 (bv_n (E := fun l7 => [.rd v_law_script, .iv (PI l1.length), .va d2, .va a4, .va d5, .va d6, .ow l7, .un, .un, .un, .un, .un]) (sv_seto C (i := 6) rfl rfl (eo_lst (by decide) (av_cons (ev_va C (i := 4) rfl rfl rfl) (av_cons ((eo_cut (ev_va C (i := 4) rfl rfl rfl) (po_at ev_int.b) po_no)).v (av_cons ((eo_cat (ev_va C (i := 4) rfl rfl rfl) ((eo_lst (by decide) (av_cons ev_non av_nil rfl))).v)).v (av_cons ((eo_cat (ev_va C (i := 4) rfl rfl rfl) ((eo_lst (by decide) (av_cons ev_int av_nil rfl))).v)).v av_nil rfl) rfl) rfl) rfl)) rfl) fun l7 =>
 (bv_n (E := fun d8 => [.rd v_law_script, .iv (PI l1.length), .va d2, .va a4, .va d5, .va d6, .ow (l7 ++ [d8]), .un, .un, .un, .un, .un]) (sv_app C (i := 6) rfl rfl rfl ((eo_cat ((eo_cat ((eo_cut (ev_va C (i := 4) rfl rfl rfl) po_no (po_at (ev_va C (i := 5) rfl rfl rfl).b))).v ((eo_lst (by decide) (av_cons (ev_ix ((eo_lst (by decide) (av_cons ev_non (av_cons ev_int (av_cons (ev_neg ev_int.b) (av_cons ev_int (av_cons ev_int av_nil rfl) rfl) rfl) rfl) rfl))).v (ev_callI C (j := 3) (i := 1) rfl (c__law_pick _) rfl rfl rfl (av_cons ev_int av_nil rfl) rfl rfl).b (fun _ _ => rfl)) av_nil rfl))).v)).v ((eo_cut (ev_va C (i := 4) rfl rfl rfl) (po_at (ev_bin op_add2 p2_add (ev_va C (i := 5) rfl rfl rfl).b ev_int.b).b) po_no)).v)).v rfl rfl rfl rfl) fun d8 =>
 (bv_frz (i := 6) rfl (bv_n (E := fun d9 => [.rd v_law_script, .iv (PI l1.length), .va d2, .va a4, .va d5, .va d6, .va (.list (l7 ++ [d8])), .va d9, .un, .un, .un, .un]) (sv_set C (i := 7) rfl rfl (ev_blt C (j := 5) rfl (call_reprD hG (by have := C.un; omega)) p1_repr b_repr bb_repr (ab_cons (ev_tup (by decide) (av_cons (ev_va C (i := 2) rfl rfl rfl) (av_cons (ev_va C (i := 6) rfl rfl rfl) av_nil rfl) rfl)).b ab_nil rfl) rfl rfl) rfl) fun d9 =>
 (bv_cons (E := (fun (_ : Unit) => [.rd v_law_script, .iv (PI l1.length), .va d2, .va a4, .va d5, .va d6, .va (.list (l7 ++ [d8])), .va d9, .un, .un, .un, .un])) (sv_for (E := (fun (_ : Unit) => [.rd v_law_script, .iv (PI l1.length), .va d2, .va a4, .va d5, .va d6, .va (.list (l7 ++ [d8])), .va d9, .un, .un, .un, .un])) (t0 := ()) C (iv_list (ev_va C (i := 6) rfl rfl rfl)) (tg_nm C (i := 8) rfl rfl) (.k _ (.k _ (.k _ (.k _ (.k _ (.k _ (.k _ (.k _ (.k _ (.k _ (.k _ (.k _ (.nil))))))))))))) (fun a11 (t10 : Unit) =>
 (bv_ifr (tb_not (tb_truth (ev_call C (j := 6) rfl c__law_same (av_cons (ev_callK C (j := 7) rfl c_is_choice (av_cons (ev_va C (i := 2) rfl rfl rfl) (av_cons (ev_va C (i := 8) rfl rfl rfl) av_nil rfl) rfl) (kv_cons (ev_va C (i := 3) rfl rfl rfl) kv_nil) rfl rfl rfl rfl) (av_cons (ev_call C (j := 8) rfl c__law_is_choice (av_cons (ev_va C (i := 2) rfl rfl rfl) (av_cons (ev_va C (i := 8) rfl rfl rfl) (av_cons (ev_va C (i := 3) rfl rfl rfl) av_nil rfl) rfl) rfl) rfl rfl) av_nil rfl) rfl) rfl rfl).b (fun _ => rfl))) (bv_last (sv_ret ev_bl))
 (bv_nil (t := ()) (.k _ (.k _ (.k _ (.k _ (.k _ (.k _ (.k _ (.k _ (.d _ (.k _ (.k _ (.k _ (.nil)))))))))))))))) (fun _ => rfl)) fun (t12 : Unit) =>
 (bv_cons (E := (fun (_ : Unit) => [.rd v_law_script, .iv (PI l1.length), .va d2, .va a4, .va d5, .va d6, .va (.list (l7 ++ [d8])), .va d9, .un, .un, .un, .un])) (sv_for (E := (fun (_ : Unit) => [.rd v_law_script, .iv (PI l1.length), .va d2, .va a4, .va d5, .va d6, .va (.list (l7 ++ [d8])), .va d9, .un, .un, .un, .un])) (t0 := ()) C (iv_range1 C (j := 9) rfl b_range (av_cons ev_int av_nil rfl) rfl) (tg_nm C (i := 9) rfl rfl) (.k _ (.k _ (.k _ (.k _ (.k _ (.k _ (.k _ (.k _ (.k _ (.k _ (.k _ (.k _ (.nil))))))))))))) (fun a14 (t13 : Unit) =>
 (bv_weak (.k _ (.k _ (.k _ (.k _ (.k _ (.k _ (.k _ (.k _ (.k _ (.d _ (.k _ (.k _ (.nil))))))))))))) (bv_turn (Γ := [.rd v_law_script, .iv (PI l1.length), .va d2, .va a4, .va d5, .va d6, .va (.list (l7 ++ [d8])), .va d9, .un, .un, .un, .un]) (tag := "amount") C (i := 10) (j := 11) rfl rfl rfl rfl rfl rfl (by decide) rfl rfl (g0 := 10) rfl c_put_in (av_cons (ev_va C (i := 2) rfl rfl rfl) (av_cons (ev_va C (i := 4) rfl rfl rfl) av_nil rfl) rfl) (kv_cons (ev_va C (i := 3) rfl rfl rfl) kv_nil) rfl rfl rfl rfl rfl (fun l15 => (tw_or (tb_not (tb_truth (ev_isi "list" C (j := 11) (j2 := 12) rfl b_isinstance rfl b_list bb_list (by simp) (eb_ow C (i := 10) rfl rfl rfl) rfl rfl rfl).b (fun _ => rfl))) (tw_or1 (tb_cmp (op_ne2 C.u64) p2_ne (eb_ow C (i := 10) rfl rfl rfl) ((eo_call C (j := 13) rfl c__law_put_in (av_cons (ev_va C (i := 2) rfl rfl rfl) (av_cons (ev_va C (i := 4) rfl rfl rfl) (av_cons (ev_va C (i := 3) rfl rfl rfl) av_nil rfl) rfl) rfl) rfl rfl)).v.b rfl))).t) (fun l15 => (bv_last (sv_ret ev_bl))) (by exact ⟨trivial, PI_ints _, trivial, trivial, trivial, trivial, trivial, trivial, trivial, trivial, trivial, trivial, trivial⟩) rfl rfl rfl (fun _ => rfl)))) (fun _ => rfl)) fun (t16 : Unit) =>
 (bv_ifr (tb_cmp (op_ne2 C.u64) p2_ne (ev_blt C (j := 5) rfl (call_reprD hG (by have := C.un; omega)) p1_repr b_repr bb_repr (ab_cons (ev_tup (by decide) (av_cons (ev_va C (i := 2) rfl rfl rfl) (av_cons (ev_va C (i := 6) rfl rfl rfl) av_nil rfl) rfl)).b ab_nil rfl) rfl rfl).b (ev_va C (i := 7) rfl rfl rfl).b rfl) (bv_last (sv_ret ev_bl))
 (bv_nil (t := ()) (.k _ (.k _ (.k _ (.d _ (.d _ (.d _ (.d _ (.d _ (.k _ (.k _ (.k _ (.k _ (.nil)))))))))))))))))))))))) (fun _ => rfl)) fun (t17 : Unit) =>
 (bv_last (sv_ret ev_bl))))))
end Pr
end
section
set_option maxRecDepth 100000
namespace Pr
open PySem PySem.Spec L2 Dv
open PyProof.Rows hiding St

theorem PI_get {n : Nat} {l : List D} (h : PI n l) {k : Int} (h0 : 0 ≤ k) (h1 : k < n) : ∃ i : Int, P.ix (.list l) (.int k) = W.pure (.int i) := by
  obtain ⟨d, hd, e⟩ := ix_int (l := l) h0 (by rw [h.len]; exact h1)
  obtain ⟨i, rfl⟩ := h.all d (List.mem_of_getElem? hd)
  exact ⟨i, e⟩
theorem PI_at0 {n : Nat} {l : List D} (h : PI n l) : ∃ i : Int, P.ix (.list l) (.int 0) = W.pure (.int i) ∧ 0 ≤ i ∧ i < n := by
  obtain ⟨k, e, h0, h1⟩ := h.at0
  exact ⟨k, ix_l (i := 0) e, h0, h1⟩
theorem PI_set {n : Nat} {l : List D} (h : PI n l) (i : Int) (h0 : 0 ≤ i) (h1 : i < n) : PI n (l.set 0 (.int i)) := ⟨by rw [List.length_set]; exact h.len, h.two, h.sz, fun d hd => by
  rcases List.mem_or_eq_of_mem_set hd with z | z
  · exact h.all d z
  · exact ⟨i, z⟩, i, List.getElem?_set_self (by rw [h.len]; have := h.two; omega), h0, h1⟩
theorem pick_ok (n : Nat) (ds : List D) (φ : D → Prop) (h : pickW ds φ) : w__law_pick n ds φ := by
  match ds, h with
  | [.int m], ⟨hm, h⟩ =>
    show W.bind (m__law_pick n (.int m)) Out.val φ
    unfold m__law_pick
    simp only [W.bind_pure, W.bind_assoc, W.b2, W.cons, W.rtn]
    intro l hl
    obtain ⟨i, e⟩ := PI_get hl (k := 0) (by omega) (by have := hl.two; omega)
    rw [e]
    intro l2 hl2
    have hn := hl.two
    have h2 : l2.length = n := hl2.len
    show W.bind (P.mod (.int i) (.int (l2.length - 1))) _ _
    rw [mod_ii _ _ (by omega)]
    have b0 := Int.emod_nonneg i (b := ((l2.length : Int) - 1)) (by omega)
    have b1 := Int.emod_lt_of_pos i (b := ((l2.length : Int) - 1)) (by omega)
    generalize he : i % ((l2.length : Int) - 1) = r at b0 b1
    refine ⟨fun l3 hl3 => ⟨0, 0, rfl, ?_, PI_set hl3 (1 + r) (by omega) (by omega)⟩, ?_⟩
    · unfold ixN
      rw [if_pos (by omega), if_pos (by rw [hl3.len]; omega)]
      rfl
    · intro l4 hl4
      obtain ⟨j, e4, j0, j1⟩ := PI_at0 hl4
      rw [e4]
      intro l5 hl5
      obtain ⟨q, e5⟩ := PI_get hl5 j0 j1
      rw [e5]
      show W.bind (P.mod (.int q) (.int m)) _ _
      rw [mod_ii _ _ hm]
      exact h _ (Int.emod_nonneg q (by omega)) (Int.emod_lt_of_pos q hm)
/-- pick(n), n a number -/
theorem pick_i {n : Int} {φ : D → Prop} (h0 : 0 < n) (h : ∀ k : Int, 0 ≤ k → k < n → φ (.int k)) : pickW [.int n] φ := ⟨h0, h⟩
/-! ### the pool -/
theorem cm {i j : Int} (h : 0 ≤ j ∧ j < 2 ^ 64) : CMul i j := .inr ⟨by omega, h.2⟩
theorem mulc (i j : Int) (h : 0 ≤ j ∧ j < 2 ^ 64) : P.mul (.int i) (.int j) = W.pure (.int (i * j)) := mul_ii i j (cm h)
theorem divc (i j : Int) (h : 0 < j ∧ j < 1073741824) : P.fdiv (.int i) (.int j) = W.pure (.int (i / j)) := fdiv_ii i j h
def Ints (l : List D) : Prop := ∀ d ∈ l, ∃ k : Int, d = PyData.int k
theorem Ints.snoc {l : List D} (h : Ints l) (i : Int) : Ints (l ++ [.int i]) := fun d hd => by
  rcases List.mem_append.mp hd with z | z
  · exact h d z
  · exact ⟨i, List.mem_singleton.mp z⟩
theorem pool_ok (ns : List Int) (hl : ns.length ≤ 63) (φ : List D → Prop) (h : ∀ l, Ints l → 1 ≤ l.length → l.length ≤ 10000 → φ l) : w__law_pool (ns.map .int) [] φ := by
  show W.bind (m__law_pool (ns.map .int)) Out.lst φ
  unfold m__law_pool
  have e1 : (if (63 : Int) < ((ns.map PyData.int).length : Int) then (63 : Int) else ((ns.map PyData.int).length : Int)) = (ns.length : Nat) := by
    rw [List.length_map, if_neg (by omega)]
  simp only [W.bind_pure, W.bind_assoc, W.cons, P.min2, e1]
  rw [range_i _ (by omega)]
  refine loop_inv (fun k t => Ints t.1 ∧ t.1.length ≤ 60 * k ∧ ∃ s : Int, t.2 = .int s) _ 0 _ _ ⟨fun d hd => (by simp at hd), by simp, 17, rfl⟩ (fun i d t ψ hd hi q => ?_) fun t ht => ?_
  · have hin : i < ns.length := by
      have := (List.getElem?_eq_some_iff.mp hd).1
      rw [rangeL_len] at this
      exact this
    rw [rangeL_get hin] at hd
    cases hd
    obtain ⟨h1, h2, s, h3⟩ := hi
    obtain ⟨l, d2⟩ := t
    have h3 : d2 = .int s := h3
    subst h3
    have g : (ns.map PyData.int)[i]? = some (.int ns[i]) := by
      rw [List.getElem?_map, List.getElem?_eq_getElem hin]
      rfl
    simp only [W.bind_pure]
    rw [ix_l g]
    simp only [W.bind_pure, W.b2, mulc _ 69621 (by decide), mulc _ 48271 (by decide), add_ii, int1_i, mod_ii _ 2147483647 (by decide), mod_ii _ 1000003 (by decide), mod_ii _ 60 (by decide)]
    have ep : P.pow (.int 10) (.int 18) = W.pure (.int (10 ^ 18)) := W.need_true ⟨by decide, by decide, by decide⟩ _
    simp only [ep, W.bind_pure, ge_ii, W.ite_pure]
    split
    · rw [W.thn_bind, show (60 : Int) = ((60 : Nat) : Int) from rfl, range_i 60 (by decide)]
      refine loop_inv (fun k u => Ints u.1 ∧ u.1.length ≤ l.length + k ∧ ∃ s : Int, u.2 = .int s) _ 0 _ _ ⟨h1, Nat.le_refl _, _, rfl⟩ (fun j d u ψ' hd2 hj q' => ?_) fun u hu => ?_
      · obtain ⟨g1, g2, s2, g3⟩ := hj
        obtain ⟨l2, d2⟩ := u
        have g3 : d2 = .int s2 := g3
        subst g3
        have hj60 : j < 60 := by
          have := (List.getElem?_eq_some_iff.mp hd2).1
          rw [rangeL_len] at this
          exact this
        have g2 : l2.length ≤ l.length + (0 + j) := g2
        have h2 : l.length ≤ 60 * (0 + i) := h2
        simp only [W.bind_pure, W.b2, int1_i, mod_ii _ ((60 : Nat) : Int) (by decide), divc _ ((60 : Nat) : Int) (by decide)]
        rw [W.need_true (by show l2.length < 2 ^ 24; omega)]
        exact q' _ ⟨g1.snoc _, by simp; omega, _, rfl⟩
      · obtain ⟨g1, g2, s2, g3⟩ := hu
        refine q _ ⟨g1, ?_, _, rfl⟩
        have g2 : u.1.length ≤ l.length + (0 + (P.rangeL 0 ((60 : Nat) : Int)).length) := g2
        rw [rangeL_len] at g2
        have h2 : l.length ≤ 60 * (0 + i) := h2
        show u.1.length ≤ _
        omega
    · have h2 : l.length ≤ 60 * (0 + i) := h2
      simp only [W.bind_pure, mulc _ 16807 (by decide), mulc _ 31 (by decide), add_ii, divc _ 11 (by decide), int1_i, mod_ii _ 60 (by decide), mod_ii _ 1000003 (by decide), W.cons_pure, W.lst_pure]
      have ec : ∀ a b : Int, P.catL (.list l) (.list [.int a, .int b]) = W.pure (l ++ [.int a, .int b]) := fun a b => W.need_true (by show l.length + 2 ≤ 2 ^ 24; omega) _
      rw [ec]
      refine q _ ⟨fun d hd => ?_, by simp; omega, _, rfl⟩
      rcases List.mem_append.mp hd with z | z
      · exact h1 d z
      · simp at z
        rcases z with z | z <;> exact ⟨_, z⟩
  · obtain ⟨h1, h2, s, h3⟩ := ht
    obtain ⟨l, d2⟩ := t
    have h3 : d2 = .int s := h3
    subst h3
    have h2 : l.length ≤ 60 * (0 + (P.rangeL 0 (ns.length : Nat)).length) := h2
    rw [rangeL_len] at h2
    show W.thn _ _ _
    rw [W.thn_bind, show (300 : Int) = ((300 : Nat) : Int) from rfl, range_i 300 (by decide)]
    refine loop_inv (fun k u => Ints u.1 ∧ u.1.length = l.length + k ∧ ∃ s : Int, u.2 = .int s) _ 0 _ _ ⟨h1, rfl, _, rfl⟩ (fun j d u ψ' hd2 hj q' => ?_) fun u hu => ?_
    · obtain ⟨g1, g2, s2, g3⟩ := hj
      obtain ⟨l2, d2⟩ := u
      have g3 : d2 = .int s2 := g3
      subst g3
      have hj60 : j < 300 := by
        have := (List.getElem?_eq_some_iff.mp hd2).1
        rw [rangeL_len] at this
        exact this
      have g2 : l2.length = l.length + (0 + j) := g2
      simp only [W.bind_pure, W.b2, W.cons_pure, mulc _ 48271 (by decide), add_ii, int1_i, mod_ii _ 2147483647 (by decide), divc _ 97 (by decide), mod_ii _ 60 (by decide)]
      rw [W.need_true (by show l2.length < 2 ^ 24; omega)]
      exact q' _ ⟨g1.snoc _, by simp; omega, _, rfl⟩
    · obtain ⟨g1, g2, s2, g3⟩ := hu
      have g2 : u.1.length = l.length + (0 + (P.rangeL 0 ((300 : Nat) : Int)).length) := g2
      rw [rangeL_len] at g2
      exact h u.1 g1 (by omega) (by omega)
theorem stream_ok (ns : List Int) (hl : ns.length ≤ 63) (φ : List D → Prop) (h : ∀ l, PI l.length l → φ l) : w__law_stream (ns.map .int) [] φ := by
  show W.bind (m__law_stream (ns.map .int)) Out.lst φ
  unfold m__law_stream
  simp only [W.bind_pure, W.bind_assoc, W.b2, W.cons_pure, W.lst_pure, W.rto, W.lst]
  refine pool_ok ns hl _ fun l h1 h2 h3 => ?_
  have ec : P.catL (.list [.int 0]) (.list l) = W.pure (.int 0 :: l) := W.need_true (by show 1 + l.length ≤ 2 ^ 24; omega) _
  show W.bind (P.catL (.list [.int 0]) (.list l)) _ _
  rw [ec]
  exact h _ ⟨rfl, by simp only [List.length_cons]; omega, by simp only [List.length_cons]; omega, fun d hd => by
    rcases List.mem_cons.mp hd with z | z
    · exact ⟨0, z⟩
    · exact h1 d z, 0, rfl, by omega, by simp only [List.length_cons]; omega⟩

/-! ### formulas -/
inductive Fm where
  | amt (a : Option Int)
  | op (g : Bool) (as : List (Int × Int))
def optD : Option Int → D
  | none => .none
  | some k => .int k
def arcD (p : Int × Int) : D := .tuple [.int p.1, .int p.2]
def gname : Bool → Str
  | true => "greatest"
  | false => "least"
def Fm.tag : Fm → Str
  | .amt _ => "amount"
  | .op g _ => gname g
def Fm.d : Fm → D
  | .amt a => .tuple [.str "amount", optD a]
  | .op g as => .tuple [.str (gname g), .list (as.map arcD)]
def Fm.d1 : Fm → D
  | .amt a => optD a
  | .op _ as => .list (as.map arcD)
theorem Fm.d_eq (f : Fm) : f.d = .tuple [.str f.tag, f.d1] := by cases f <;> rfl
structure OkA (n : Nat) (p : Int × Int) : Prop where
  l0 : 0 ≤ p.1
  l1 : p.1 < n
  s0 : -4 ≤ p.2
  s1 : p.2 ≤ 4
def OkF (n : Nat) : Fm → Prop
  | .amt a => ∀ k, a = some k → 0 ≤ k ∧ k < 12
  | .op _ as => 1 ≤ as.length ∧ as.length ≤ 6 ∧ ∀ p ∈ as, OkA n p
theorem ix_some {l : List D} (k : Int) (h0 : 0 ≤ k) (h1 : k < l.length) (φ : D → Prop) (h : ∀ d ∈ l, φ d) : P.ix (.list l) (.int k) φ := by
  obtain ⟨d, hd, e⟩ := ix_int h0 h1
  rw [e]
  exact h d (List.mem_of_getElem? hd)
theorem amount_ok (φ : D → Prop) (h : ∀ a, OkF 0 (.amt a) → φ (optD a)) : w__law_amount [] φ := by
  simp only [w__law_amount, m__law_amount, W.bind, W.cons, W.lst, W.tup, W.ite, W.thn, W.b2, W.pure, W.bl, W.no, W.rtn, W.rto, W.stop, W.need, W.ite_app, Out.andThen, Out.val, Out.lst, decide_eq_true_eq]
  refine pick_i (n := 10) (by decide) fun k h0 h1 => ?_
  simp only [eq_ii, W.bind, W.cons, W.lst, W.tup, W.ite, W.thn, W.b2, W.pure, W.bl, W.no, W.rtn, W.rto, W.stop, W.need, W.ite_app, Out.andThen, Out.val, Out.lst, decide_eq_true_eq]
  split
  · exact h none (fun k h => nomatch h)
  · refine pick_i (n := 12) (by decide) fun j j0 j1 => ?_
    have go : ∀ b : Bool, P.ix (.list [.int j, .int 0]) (.int (if b then 1 else 0)) (fun d => φ d) := fun b => by
      cases b with
      | true => exact h (some 0) fun k e => by cases e; omega
      | false => exact h (some j) fun k e => by cases e; omega
    exact go _
theorem arcs_ok (n : Nat) (hn : 1 ≤ n) (φ : D → Prop) (h : ∀ as : List (Int × Int), 1 ≤ as.length → as.length ≤ 6 → (∀ p ∈ as, OkA n p) → φ (.list (as.map arcD))) : w__law_arcs [.int n] φ := by
  simp only [w__law_arcs, m__law_arcs, W.bind, W.cons, W.lst, W.tup, W.ite, W.thn, W.b2, W.pure, W.bl, W.no, W.rtn, W.rto, W.stop, W.need, W.ite_app, Out.andThen, Out.val, Out.lst, decide_eq_true_eq]
  refine pick_i (n := 6) (by decide) fun k h0 h1 => ?_
  refine ix_some k h0 (by exact h1) _ fun d hd => ?_
  obtain ⟨m, rfl, m0, m1⟩ : ∃ m : Nat, d = .int m ∧ 1 ≤ m ∧ m ≤ 6 := by
    simp only [List.mem_cons, List.not_mem_nil, or_false] at hd
    rcases hd with rfl | rfl | rfl | rfl | rfl | rfl
    · exact ⟨1, rfl, by decide, by decide⟩
    · exact ⟨2, rfl, by decide, by decide⟩
    · exact ⟨2, rfl, by decide, by decide⟩
    · exact ⟨3, rfl, by decide, by decide⟩
    · exact ⟨2, rfl, by decide, by decide⟩
    · exact ⟨6, rfl, by decide, by decide⟩
  rw [range_i m (by omega)]
  refine mapD_inv (fun _ d => ∃ p, OkA n p ∧ d = arcD p) _ 0 _ (fun i d ψ hd q => ?_) fun l hl hr => ?_
  · simp only [W.bind, W.cons, W.lst, W.tup, W.ite, W.thn, W.b2, W.pure, W.bl, W.no, W.rtn, W.rto, W.stop, W.need, W.ite_app, Out.andThen, Out.val, Out.lst, decide_eq_true_eq]
    refine pick_i (n := n) (by omega) fun c c0 c1 => ?_
    simp only [neg_i, W.bind, W.cons, W.lst, W.tup, W.ite, W.thn, W.b2, W.pure, W.bl, W.no, W.rtn, W.rto, W.stop, W.need, W.ite_app, Out.andThen, Out.val, Out.lst, decide_eq_true_eq]
    refine pick_i (n := 10) (by decide) fun z z0 z1 => ?_
    refine ix_some z z0 (by exact z1) _ fun e he => ?_
    have he : ∃ s : Int, e = .int s ∧ -4 ≤ s ∧ s ≤ 4 := by
      simp only [List.mem_cons, List.not_mem_nil, or_false] at he
      rcases he with rfl | rfl | rfl | rfl | rfl | rfl | rfl | rfl | rfl | rfl
      all_goals exact ⟨_, rfl, by decide, by decide⟩
    obtain ⟨s, rfl, s0, s1⟩ := he
    exact q _ ⟨(c, s), ⟨c0, c1, s0, s1⟩, rfl⟩
  · rw [rangeL_len] at hl
    have go : ∀ l : List D, (∀ e ∈ l, ∃ p, OkA n p ∧ e = arcD p) → ∃ as : List (Int × Int), as.map arcD = l ∧ ∀ p ∈ as, OkA n p := fun l => by
      induction l with
      | nil => exact fun _ => ⟨[], rfl, fun p hp => by simp at hp⟩
      | cons e l ih =>
        intro hr
        obtain ⟨as, h1, h2⟩ := ih fun x hx => hr x (List.mem_cons_of_mem _ hx)
        obtain ⟨p, hp, rfl⟩ := hr e (List.mem_cons_self ..)
        exact ⟨p :: as, by rw [List.map_cons, h1], fun x hx => by
          rcases List.mem_cons.mp hx with z | z
          · rw [z]
            exact hp
          · exact h2 x z⟩
    obtain ⟨as, rfl, ha⟩ := go l fun e he => by
      obtain ⟨i, hi⟩ := List.getElem?_of_mem he
      exact hr i e hi
    rw [List.length_map] at hl
    exact h as (by omega) (by omega) ha
theorem s_la : (("least" : Str) = "amount") = False := eq_false (by decide)
theorem s_ga : (("greatest" : Str) = "amount") = False := eq_false (by decide)
theorem s_wa : (("when" : Str) = "amount") = False := eq_false (by decide)
theorem s_lw : (("least" : Str) = "when") = False := eq_false (by decide)
theorem s_gw : (("greatest" : Str) = "when") = False := eq_false (by decide)
theorem s_aw : (("amount" : Str) = "when") = False := eq_false (by decide)
theorem snoc_f {n : Nat} {fs : List Fm} {f : Fm} (h : ∀ f ∈ fs, OkF n f) (q : OkF n f) : ∀ g ∈ fs ++ [f], OkF n g := fun g hg => by
  rcases List.mem_append.mp hg with z | z
  · exact h g z
  · rw [List.mem_singleton.mp z]
    exact q
/-- one more formula -/
theorem flat_one {n i : Nat} {ψ : Out (List D) (List D) → Prop} (q : ∀ t' : List D, (∃ fs : List Fm, t' = fs.map Fm.d ∧ fs.length = 0 + i + 1 ∧ ∀ f ∈ fs, OkF n f) → ψ (.nx t')) (fs : List Fm) (hl : fs.length = 0 + i) (hf : ∀ f ∈ fs, OkF n f) (f : Fm) (h : OkF n f) (d : D) (e : d = f.d) : ψ (.nx (fs.map Fm.d ++ [d])) :=
  q _ ⟨fs ++ [f], by rw [List.map_append, e]; rfl, by rw [List.length_append, hl]; rfl, snoc_f hf h⟩
theorem flat_ok (φ : D → Prop) (h : ∀ (n : Nat) (fs : List Fm), 1 ≤ n → n ≤ 13 → fs.length = n → (∀ f ∈ fs, OkF n f) → φ (.list (fs.map Fm.d))) : w__law_flat [.int 6, .bool false] φ := by
  simp only [w__law_flat, m__law_flat, W.bind, W.cons, W.lst, W.tup, W.ite, W.thn, W.b2, W.pure, W.bl, W.no, W.rtn, W.rto, W.stop, W.need, W.ite_app, Out.andThen, Out.val, Out.lst, decide_eq_true_eq]
  refine pick_i (n := 6) (by decide) fun k h0 h1 => ?_
  simp only [add_ii, W.bind, W.cons, W.lst, W.tup, W.ite, W.thn, W.b2, W.pure, W.bl, W.no, W.rtn, W.rto, W.stop, W.need, W.ite_app, Out.andThen, Out.val, Out.lst, decide_eq_true_eq]
  refine pick_i (n := 30) (by decide) fun k2 _ _ => ?_
  simp only [eq_ii, add_ii, W.bind, W.cons, W.lst, W.tup, W.ite, W.thn, W.b2, W.pure, W.bl, W.no, W.rtn, W.rto, W.stop, W.need, W.ite_app, Out.andThen, Out.val, Out.lst, decide_eq_true_eq]
  obtain ⟨n, hn, n1, n2⟩ : ∃ n : Nat, (1 + k = n) ∧ 1 ≤ n ∧ n ≤ 13 := ⟨(1 + k).toNat, by omega, by omega, by omega⟩
  rw [hn]
  clear hn h0 h1
  split
  · clear n1 n2 n
    obtain ⟨n, hn, n1, n2⟩ : ∃ n : Nat, ((6 + 7 : Int) = n) ∧ 1 ≤ n ∧ n ≤ 13 := ⟨13, rfl, by decide, by decide⟩
    rw [hn]
    clear hn
    rw [range_i n (by omega)]
    refine loop_inv (fun k t => ∃ fs : List Fm, t = fs.map Fm.d ∧ fs.length = k ∧ ∀ f ∈ fs, OkF n f) _ 0 _ _ ⟨[], rfl, rfl, fun f hf => by simp at hf⟩ (fun i d t ψ hd hi q => ?_) fun t ht => ?_
    · obtain ⟨fs, rfl, hl, hf⟩ := hi
      have hi13 : i < n := by
        have := (List.getElem?_eq_some_iff.mp hd).1
        rw [rangeL_len] at this
        exact this
      have hsz : (fs.map Fm.d).length < sizeLine := by
        rw [List.length_map]
        show _ < 2 ^ 24
        omega
      simp only [W.bind, W.cons, W.lst, W.tup, W.ite, W.thn, W.b2, W.pure, W.bl, W.no, W.rtn, W.rto, W.stop, W.need, W.ite_app, Out.andThen, Out.val, Out.lst, decide_eq_true_eq]
      refine pick_i (n := 7) (by decide) fun z z0 z1 => ?_
      refine ix_some z z0 (by exact z1) _ fun e he => ?_
      simp only [List.mem_cons, List.not_mem_nil, or_false] at he
      rcases he with rfl | rfl | rfl | rfl | rfl | rfl | rfl
      all_goals simp only [eq_ss, s_la, s_ga, s_wa, s_lw, s_gw, s_aw, if_false, if_true, P.truth, Bool.false_eq_true, W.bind, W.cons, W.lst, W.tup, W.ite, W.thn, W.b2, W.pure, W.bl, W.no, W.rtn, W.rto, W.stop, W.need, W.ite_app, Out.andThen, Out.val, Out.lst, decide_eq_true_eq]
      · exact arcs_ok n n1 _ fun as a1 a2 a3 => ⟨hsz, flat_one q fs hl hf (.op false as) ⟨a1, a2, a3⟩ _ rfl⟩
      · exact arcs_ok n n1 _ fun as a1 a2 a3 => ⟨hsz, flat_one q fs hl hf (.op true as) ⟨a1, a2, a3⟩ _ rfl⟩
      · exact arcs_ok n n1 _ fun as a1 a2 a3 => ⟨hsz, flat_one q fs hl hf (.op false as) ⟨a1, a2, a3⟩ _ rfl⟩
      · exact arcs_ok n n1 _ fun as a1 a2 a3 => ⟨hsz, flat_one q fs hl hf (.op true as) ⟨a1, a2, a3⟩ _ rfl⟩
      · exact amount_ok _ fun a ha => ⟨hsz, flat_one q fs hl hf (.amt a) ha _ rfl⟩
      · refine pick_i (n := n) (by omega) fun c c0 c1 => ?_
        refine pick_i (n := n) (by omega) fun c2 d0 d1 => ?_
        refine ⟨hsz, flat_one q fs hl hf (.op false [(c, 0), (c2, 1)]) ⟨show 1 ≤ 2 by decide, show 2 ≤ 6 by decide, fun p hp => ?_⟩ _ rfl⟩
        simp only [List.mem_cons, List.not_mem_nil, or_false] at hp
        rcases hp with rfl | rfl
        · exact ⟨c0, c1, show (-4 : Int) ≤ 0 by decide, show (0 : Int) ≤ 4 by decide⟩
        · exact ⟨d0, d1, show (-4 : Int) ≤ 1 by decide, show (1 : Int) ≤ 4 by decide⟩
      · exact arcs_ok n n1 _ fun as a1 a2 a3 => ⟨hsz, flat_one q fs hl hf (.op true as) ⟨a1, a2, a3⟩ _ rfl⟩
    · obtain ⟨fs, rfl, hl, hf⟩ := ht
      rw [rangeL_len] at hl
      exact h n fs n1 n2 (by omega) hf
  · rw [range_i n (by omega)]
    refine loop_inv (fun k t => ∃ fs : List Fm, t = fs.map Fm.d ∧ fs.length = k ∧ ∀ f ∈ fs, OkF n f) _ 0 _ _ ⟨[], rfl, rfl, fun f hf => by simp at hf⟩ (fun i d t ψ hd hi q => ?_) fun t ht => ?_
    · obtain ⟨fs, rfl, hl, hf⟩ := hi
      have hi13 : i < n := by
        have := (List.getElem?_eq_some_iff.mp hd).1
        rw [rangeL_len] at this
        exact this
      have hsz : (fs.map Fm.d).length < sizeLine := by
        rw [List.length_map]
        show _ < 2 ^ 24
        omega
      simp only [W.bind, W.cons, W.lst, W.tup, W.ite, W.thn, W.b2, W.pure, W.bl, W.no, W.rtn, W.rto, W.stop, W.need, W.ite_app, Out.andThen, Out.val, Out.lst, decide_eq_true_eq]
      refine pick_i (n := 7) (by decide) fun z z0 z1 => ?_
      refine ix_some z z0 (by exact z1) _ fun e he => ?_
      simp only [List.mem_cons, List.not_mem_nil, or_false] at he
      rcases he with rfl | rfl | rfl | rfl | rfl | rfl | rfl
      all_goals simp only [eq_ss, s_la, s_ga, s_wa, s_lw, s_gw, s_aw, if_false, if_true, P.truth, Bool.false_eq_true, W.bind, W.cons, W.lst, W.tup, W.ite, W.thn, W.b2, W.pure, W.bl, W.no, W.rtn, W.rto, W.stop, W.need, W.ite_app, Out.andThen, Out.val, Out.lst, decide_eq_true_eq]
      · exact arcs_ok n n1 _ fun as a1 a2 a3 => ⟨hsz, flat_one q fs hl hf (.op false as) ⟨a1, a2, a3⟩ _ rfl⟩
      · exact arcs_ok n n1 _ fun as a1 a2 a3 => ⟨hsz, flat_one q fs hl hf (.op true as) ⟨a1, a2, a3⟩ _ rfl⟩
      · exact arcs_ok n n1 _ fun as a1 a2 a3 => ⟨hsz, flat_one q fs hl hf (.op false as) ⟨a1, a2, a3⟩ _ rfl⟩
      · exact arcs_ok n n1 _ fun as a1 a2 a3 => ⟨hsz, flat_one q fs hl hf (.op true as) ⟨a1, a2, a3⟩ _ rfl⟩
      · exact amount_ok _ fun a ha => ⟨hsz, flat_one q fs hl hf (.amt a) ha _ rfl⟩
      · refine pick_i (n := n) (by omega) fun c c0 c1 => ?_
        refine pick_i (n := n) (by omega) fun c2 d0 d1 => ?_
        refine ⟨hsz, flat_one q fs hl hf (.op false [(c, 0), (c2, 1)]) ⟨show 1 ≤ 2 by decide, show 2 ≤ 6 by decide, fun p hp => ?_⟩ _ rfl⟩
        simp only [List.mem_cons, List.not_mem_nil, or_false] at hp
        rcases hp with rfl | rfl
        · exact ⟨c0, c1, show (-4 : Int) ≤ 0 by decide, show (0 : Int) ≤ 4 by decide⟩
        · exact ⟨d0, d1, show (-4 : Int) ≤ 1 by decide, show (1 : Int) ≤ 4 by decide⟩
      · exact arcs_ok n n1 _ fun as a1 a2 a3 => ⟨hsz, flat_one q fs hl hf (.op true as) ⟨a1, a2, a3⟩ _ rfl⟩
    · obtain ⟨fs, rfl, hl, hf⟩ := ht
      rw [rangeL_len] at hl
      exact h n fs n1 n2 (by omega) hf

/-! ### choices -/
def Fm.args : Fm → List (Int × Int)
  | .amt _ => []
  | .op _ as => as
theorem gname_inj : ∀ {a b : Bool}, gname a = gname b → a = b
  | true, true, _ => rfl
  | false, false, _ => rfl
  | true, false, h => absurd h (by decide)
  | false, true, h => absurd h (by decide)
theorem gname_amt : ∀ b : Bool, ("amount" : Str) ≠ gname b
  | true => by decide
  | false => by decide
theorem tag_op {f : Fm} {g : Bool} (h : f.tag = gname g) : f = .op g f.args := by
  cases f with
  | amt a => exact absurd h (gname_amt g)
  | op g' as =>
    have e := gname_inj (h : gname g' = gname g)
    rw [e]
    rfl
/-- what a choice tells of a formula -/
def OkC (g : Bool) (f : Fm) (o : Option Int) : Prop := (f.tag = gname g → ∃ k, o = some k ∧ 0 ≤ k ∧ k < f.args.length) ∧ (f.tag ≠ gname g → o = none)
theorem map_get {α : Type} {f : α → D} {l : List α} {i : Nat} {d : D} (h : (l.map f)[i]? = some d) : ∃ a, l[i]? = some a ∧ d = f a := by
  rw [List.getElem?_map] at h
  cases e : l[i]? with
  | none => rw [e] at h; cases h
  | some a =>
    rw [e] at h
    exact ⟨a, rfl, (Option.some.inj h).symm⟩
theorem args_pos {n : Nat} {f : Fm} {g : Bool} (h : OkF n f) (e : f.tag = gname g) : 1 ≤ f.args.length ∧ f.args.length ≤ 6 := by
  rw [tag_op e] at h
  exact ⟨h.1, h.2.1⟩
theorem d1_op {f : Fm} {g : Bool} (e : f.tag = gname g) : f.d1 = .list (f.args.map arcD) := by
  have h := tag_op e
  rw [h]
  rfl
theorem get_lt {α : Type} {l : List α} {i : Nat} {a : α} (h : l[i]? = some a) : i < l.length := (List.getElem?_eq_some_iff.mp h).1
theorem choice_ok (n : Nat) (fs : List Fm) (hn : fs.length ≤ 13) (hf : ∀ f ∈ fs, OkF n f) (g : Bool) (φ : D → Prop) (h : ∀ c : List (Option Int), c.length = fs.length → (∀ (i : Nat) f o, fs[i]? = some f → c[i]? = some o → OkC g f o) → φ (.list (c.map optD))) : w__law_choice [.list (fs.map Fm.d), .str (gname g)] φ := by
  simp only [w__law_choice, m__law_choice, P.items, W.bind, W.cons, W.lst, W.tup, W.ite, W.thn, W.b2, W.pure, W.bl, W.no, W.rtn, W.rto, W.stop, W.need, W.ite_app, Out.andThen, Out.val, Out.lst, decide_eq_true_eq]
  refine loop_inv (fun k t => ∃ c : List (Option Int), t = c.map optD ∧ c.length = k ∧ ∀ (i : Nat) f o, fs[i]? = some f → c[i]? = some o → OkC g f o) _ 0 _ _ ⟨[], rfl, rfl, fun i f o _ h => by simp at h⟩ (fun i d t ψ hd hi q => ?_) fun t ht => ?_
  · obtain ⟨f, hfi, rfl⟩ := map_get hd
    obtain ⟨c, rfl, hl, hc⟩ := hi
    have hlt := get_lt hfi
    have hsz : (c.map optD).length < sizeLine := by
      rw [List.length_map]
      show _ < 2 ^ 24
      omega
    have hok := hf f (List.mem_of_getElem? hfi)
    have go : ∀ o : Option Int, OkC g f o → ψ (.nx (c.map optD ++ [optD o])) := fun o ho => by
      refine q _ ⟨c ++ [o], by rw [List.map_append]; rfl, by rw [List.length_append, hl]; rfl, fun j f' o' hj hj2 => ?_⟩
      by_cases z : j < c.length
      · rw [List.getElem?_append_left z] at hj2
        exact hc j f' o' hj hj2
      · have hj3 := get_lt hj2
        rw [List.length_append] at hj3
        have hj4 : j = i := by
          have : j < c.length + 1 := hj3
          omega
        subst hj4
        rw [List.getElem?_append_right (by omega), show j - c.length = 0 by omega] at hj2
        rw [hfi] at hj
        cases hj
        cases hj2
        exact ho
    simp only [Fm.d_eq, ix_t0, ix_t1, eq_ss, W.bind, W.cons, W.lst, W.tup, W.ite, W.thn, W.b2, W.pure, W.bl, W.no, W.rtn, W.rto, W.stop, W.need, W.ite_app, Out.andThen, Out.val, Out.lst, decide_eq_true_eq]
    split
    · rename_i e
      rw [d1_op e]
      simp only [len_l, List.length_map, W.bind, W.cons, W.lst, W.tup, W.ite, W.thn, W.b2, W.pure, W.bl, W.no, W.rtn, W.rto, W.stop, W.need, W.ite_app, Out.andThen, Out.val, Out.lst, decide_eq_true_eq]
      have b := args_pos hok e
      exact pick_i (n := f.args.length) (by omega) fun k h0 h1 => ⟨by rw [List.length_map] at hsz; exact hsz, go (some k) ⟨fun _ => ⟨k, rfl, h0, h1⟩, fun z => absurd e z⟩⟩
    · rename_i e
      exact ⟨hsz, go none ⟨fun z => absurd z e, fun _ => rfl⟩⟩
  · obtain ⟨c, rfl, hl, hc⟩ := ht
    rw [List.length_map] at hl
    exact h c (by omega) hc
/-! ### is_choice -/
def elemOk (g : Bool) (f : Fm) (o : Option Int) : Bool := if f.tag = gname g then (match o with | some k => decide (0 ≤ k) && decide (k < f.args.length) | none => false) else o.isNone
def pAt (g : Bool) (fs : List Fm) (c : List (Option Int)) (i : Nat) : Bool :=
  match fs[i]?, c[i]? with
  | some f, some o => elemOk g f o
  | _, _ => true
def isCh (g : Bool) (fs : List Fm) (c : List (Option Int)) : Bool := decide (c.length = fs.length ∧ ∀ i, i < fs.length → pAt g fs c i = true)
theorem isNone_opt (o : Option Int) : P.isNone (optD o) = o.isNone := by cases o <;> rfl
theorem isc_ok (fs : List Fm) (c : List (Option Int)) (g : Bool) (φ : D → Prop) (h : φ (.bool (isCh g fs c))) : w_is_choice [.list (fs.map Fm.d), .list (c.map optD), .str (gname g)] φ := by
  simp only [w_is_choice, m_is_choice, len_l, ne_ii, List.length_map, Bool.not_eq_true', decide_eq_false_iff_not, W.bind, W.cons, W.lst, W.tup, W.ite, W.thn, W.b2, W.pure, W.bl, W.no, W.rtn, W.rto, W.stop, W.need, W.ite_app, Out.andThen, Out.val, Out.lst, decide_eq_true_eq]
  split
  · rename_i e
    have : isCh g fs c = false := decide_eq_false fun z => e (by exact_mod_cast z.1)
    rw [this] at h
    exact h
  · rename_i e
    have e : c.length = fs.length := by omega
    simp only [P.zip1, W.bind, W.cons, W.lst, W.tup, W.ite, W.thn, W.b2, W.pure, W.bl, W.no, W.rtn, W.rto, W.stop, W.need, W.ite_app, Out.andThen, Out.val, Out.lst, decide_eq_true_eq]
    refine loop_all (pAt g fs c) (.bool false) _ 0 _ (fun i d ψ hd y n => ?_) (fun hall => ?_) fun ⟨i, hi, hf⟩ => ?_
    · obtain ⟨⟨a, b⟩, hab, rfl⟩ := map_get hd
      obtain ⟨ha, hb⟩ := List.getElem?_zip_eq_some.mp hab
      obtain ⟨f, hfi, rfl⟩ := map_get ha
      obtain ⟨o, hoi, rfl⟩ := map_get hb
      have hp : pAt g fs c (0 + i) = elemOk g f o := by
        unfold pAt
        rw [Nat.zero_add, hfi, hoi]
      rw [hp] at y n
      simp only [P.pr2, Fm.d_eq, ix_t0, eq_ss, isNone_opt, W.bind, W.cons, W.lst, W.tup, W.ite, W.thn, W.b2, W.pure, W.bl, W.no, W.rtn, W.rto, W.stop, W.need, W.ite_app, Out.andThen, Out.val, Out.lst, decide_eq_true_eq]
      unfold elemOk at y n
      split
      · rename_i e
        rw [if_pos e] at y n
        cases o with
        | none => exact n rfl
        | some k =>
          simp only [optD, Option.isNone, le_ii, d1_op e, ix_t1, len_l, lt_ii, List.length_map, Bool.false_eq_true, if_false, W.bind, W.cons, W.lst, W.tup, W.ite, W.thn, W.b2, W.pure, W.bl, W.no, W.rtn, W.rto, W.stop, W.need, W.ite_app, Out.andThen, Out.val, Out.lst, decide_eq_true_eq]
          by_cases h0 : 0 ≤ k
          · by_cases h1 : k < f.args.length
            · simp only [h0, h1, if_true, decide_true, Bool.not_true, Bool.false_eq_true, if_false]
              exact y (by simp [h0, h1])
            · simp only [h0, h1, if_true, decide_true, decide_false, Bool.not_false]
              exact n (by simp [h1])
          · simp only [h0, if_false, Bool.not_false, if_true]
            exact n (by simp [h0])
      · rename_i e
        rw [if_neg e] at y n
        cases o with
        | none => exact y rfl
        | some k => exact n rfl
    · have : isCh g fs c = true := decide_eq_true ⟨e, fun i hi => by
        have := hall i (by rw [P.zip2, List.length_map, List.length_zip, List.length_map, List.length_map]; omega)
        rwa [Nat.zero_add] at this⟩
      rw [this] at h
      exact h
    · have : isCh g fs c = false := decide_eq_false fun z => by
        rw [P.zip2, List.length_map, List.length_zip, List.length_map, List.length_map] at hi
        have := z.2 i (by omega)
        rw [Nat.zero_add, this] at hf
        cases hf
      rw [this] at h
      exact h
theorem lisc_ok (fs : List Fm) (c : List (Option Int)) (g : Bool) (hn : fs.length ≤ 13) (φ : D → Prop) (h : φ (.bool (isCh g fs c))) : w__law_is_choice [.list (fs.map Fm.d), .list (c.map optD), .str (gname g)] φ := by
  have ty : P.isTy "list" (.list (c.map optD)) = true := rfl
  simp only [w__law_is_choice, m__law_is_choice, ty, P.truth, len_l, ne_ii, List.length_map, Bool.not_eq_true', decide_eq_false_iff_not, Bool.true_eq_false, if_false, W.bind, W.cons, W.lst, W.tup, W.ite, W.thn, W.b2, W.pure, W.bl, W.no, W.rtn, W.rto, W.stop, W.need, W.ite_app, Out.andThen, Out.val, Out.lst, decide_eq_true_eq]
  split
  · rename_i e
    have : isCh g fs c = false := decide_eq_false fun z => e (by exact_mod_cast z.1)
    rw [this] at h
    exact h
  · rename_i e
    have e : c.length = fs.length := by omega
    rw [range_i _ (by omega)]
    refine loop_all (pAt g fs c) (.bool false) _ 0 _ (fun i d ψ hd y n => ?_) (fun hall => ?_) fun ⟨i, hi, hf⟩ => ?_
    · have hin := get_lt hd
      rw [rangeL_len] at hin
      rw [rangeL_get hin] at hd
      cases hd
      have hfi : fs[i]? = some fs[i] := List.getElem?_eq_getElem hin
      have hoi : c[i]? = some c[i] := List.getElem?_eq_getElem (by omega)
      generalize fs[i] = f at hfi
      generalize c[i] = o at hoi
      have g1 : (fs.map Fm.d)[i]? = some f.d := by rw [List.getElem?_map, hfi]; rfl
      have g2 : (c.map optD)[i]? = some (optD o) := by rw [List.getElem?_map, hoi]; rfl
      have hp : pAt g fs c (0 + i) = elemOk g f o := by
        unfold pAt
        rw [Nat.zero_add, hfi, hoi]
      rw [hp] at y n
      simp only [ix_l g1, ix_l g2, Fm.d_eq, ix_t0, ne_ss, isNone_opt, Bool.not_eq_true', decide_eq_false_iff_not, W.bind, W.cons, W.lst, W.tup, W.ite, W.thn, W.b2, W.pure, W.bl, W.no, W.rtn, W.rto, W.stop, W.need, W.ite_app, Out.andThen, Out.val, Out.lst, decide_eq_true_eq]
      unfold elemOk at y n
      by_cases e : f.tag = gname g
      · rw [if_pos e] at y n
        rw [if_neg (fun z => z e)]
        cases o with
        | none =>
          have t1 : P.isTy "int" (optD none) = false := rfl
          simp only [t1, P.truth, Bool.not_false, if_true, W.bind, W.cons, W.lst, W.tup, W.ite, W.thn, W.b2, W.pure, W.bl, W.no, W.rtn, W.rto, W.stop, W.need, W.ite_app, Out.andThen, Out.val, Out.lst, decide_eq_true_eq]
          exact n rfl
        | some k =>
          have t1 : P.isTy "int" (optD (some k)) = true := rfl
          have t2 : P.isTy "bool" (optD (some k)) = false := rfl
          simp only [t1, t2, P.truth, Bool.not_true, Bool.false_eq_true, if_false, W.bind, W.cons, W.lst, W.tup, W.ite, W.thn, W.b2, W.pure, W.bl, W.no, W.rtn, W.rto, W.stop, W.need, W.ite_app, Out.andThen, Out.val, Out.lst, decide_eq_true_eq]
          simp only [optD, le_ii, d1_op e, ix_t1, len_l, lt_ii, List.length_map, W.bind, W.cons, W.lst, W.tup, W.ite, W.thn, W.b2, W.pure, W.bl, W.no, W.rtn, W.rto, W.stop, W.need, W.ite_app, Out.andThen, Out.val, Out.lst, decide_eq_true_eq]
          by_cases h0 : 0 ≤ k
          · by_cases h1 : k < f.args.length
            · simp only [h0, h1, if_true, decide_true, Bool.not_true, Bool.false_eq_true, if_false]
              exact y (by simp [h0, h1])
            · simp only [h0, h1, if_true, decide_true, decide_false, Bool.not_false]
              exact n (by simp [h1])
          · simp only [h0, if_false, Bool.not_false, if_true]
            exact n (by simp [h0])
      · rw [if_neg e] at y n
        rw [if_pos e]
        cases o with
        | none => exact y rfl
        | some k => exact n rfl
    · have : isCh g fs c = true := decide_eq_true ⟨e, fun i hi => by
        have := hall i (by rw [rangeL_len]; omega)
        rwa [Nat.zero_add] at this⟩
      rw [this] at h
      exact h
    · have : isCh g fs c = false := decide_eq_false fun z => by
        rw [rangeL_len] at hi
        have := z.2 i (by omega)
        rw [Nat.zero_add, this] at hf
        cases hf
      rw [this] at h
      exact h
theorem same_ok (a : Bool) (φ : D → Prop) (h : φ (.bool true)) : w__law_same [.bool a, .bool a] φ := by
  cases a <;> exact h

/-! ### put_in -/
def putE (g : Bool) (f : Fm) (o : Option Int) : D :=
  if f.tag = gname g then .tuple [.str "greatest", .list [arcD (f.args.getD ((o.getD 0).toNat) (0, 0))]] else f.d
def putL (g : Bool) (fs : List Fm) (c : List (Option Int)) : List D := (fs.zip c).map fun p => putE g p.1 p.2
theorem putL_get {g : Bool} {fs : List Fm} {c : List (Option Int)} {i : Nat} {f : Fm} {o : Option Int} (h1 : fs[i]? = some f) (h2 : c[i]? = some o) : (putL g fs c)[i]? = some (putE g f o) := by
  unfold putL
  rw [List.getElem?_map, show (fs.zip c)[i]? = some (f, o) from List.getElem?_zip_eq_some.mpr ⟨h1, h2⟩]
  rfl
theorem putL_len {g : Bool} {fs : List Fm} {c : List (Option Int)} (h : c.length = fs.length) : (putL g fs c).length = fs.length := by
  unfold putL
  rw [List.length_map, List.length_zip]
  omega
theorem ix_arc {as : List (Int × Int)} {k : Int} (h0 : 0 ≤ k) (h1 : k < as.length) : P.ix (.list (as.map arcD)) (.int k) = W.pure (arcD (as.getD k.toNat (0, 0))) := by
  have hk : k.toNat < as.length := by omega
  have := ix_l (l := as.map arcD) (i := k.toNat) (d := arcD (as.getD k.toNat (0, 0))) (by
    rw [List.getElem?_map, List.getD_eq_getElem?_getD, List.getElem?_eq_getElem hk]
    rfl)
  rw [show ((k.toNat : Nat) : Int) = k by omega] at this
  exact this
theorem put_ok (fs : List Fm) (c : List (Option Int)) (g : Bool) (hn : fs.length ≤ 13) (hl : c.length = fs.length) (hc : ∀ (i : Nat) f o, fs[i]? = some f → c[i]? = some o → OkC g f o) (φ : List D → Prop) (h : φ (putL g fs c)) : w_put_in [.list (fs.map Fm.d), .list (c.map optD), .str (gname g)] φ := by
  simp only [w_put_in, m_put_in, P.zip1, W.bind, W.cons, W.lst, W.tup, W.ite, W.thn, W.b2, W.pure, W.bl, W.no, W.rtn, W.rto, W.stop, W.need, W.ite_app, Out.andThen, Out.val, Out.lst, decide_eq_true_eq]
  refine loop_inv (fun k t => t = (putL g fs c).take k) _ 0 _ _ rfl (fun i d t ψ hd hi q => ?_) fun t ht => ?_
  · obtain ⟨⟨a, b⟩, hab, rfl⟩ := map_get hd
    obtain ⟨ha, hb⟩ := List.getElem?_zip_eq_some.mp hab
    obtain ⟨f, hfi, rfl⟩ := map_get ha
    obtain ⟨o, hoi, rfl⟩ := map_get hb
    have hlt := get_lt hfi
    have hsz : t.length < sizeLine := by
      rw [hi, List.length_take]
      show _ < 2 ^ 24
      omega
    have go : ∀ d, d = putE g f o → ψ (.nx (t ++ [d])) := fun d hd => q _ (by
      rw [hd, List.take_add_one, ← hi, show 0 + i = i by omega, putL_get hfi hoi]
      rfl)
    have ho := hc i f o hfi hoi
    simp only [P.pr2, Fm.d_eq, ix_t0, ix_t1, eq_ss, W.bind, W.cons, W.lst, W.tup, W.ite, W.thn, W.b2, W.pure, W.bl, W.no, W.rtn, W.rto, W.stop, W.need, W.ite_app, Out.andThen, Out.val, Out.lst, decide_eq_true_eq]
    split
    · rename_i e
      obtain ⟨k, rfl, k0, k1⟩ := ho.1 e
      simp only [d1_op e, optD, ix_arc k0 k1, W.bind, W.cons, W.lst, W.tup, W.ite, W.thn, W.b2, W.pure, W.bl, W.no, W.rtn, W.rto, W.stop, W.need, W.ite_app, Out.andThen, Out.val, Out.lst, decide_eq_true_eq]
      exact ⟨hsz, go _ (by unfold putE; rw [if_pos e]; rfl)⟩
    · rename_i e
      have hd : putE g f o = f.d := by
        unfold putE
        rw [if_neg e]
      split
      · rename_i e2
        refine ⟨?_, hsz, go _ (by rw [hd, Fm.d_eq])⟩
        cases f with
        | amt a =>
          intro s k z
          cases a <;> cases z
        | op g' as => exact absurd e2.symm (gname_amt g')
      · rename_i e2
        cases f with
        | amt a => exact absurd rfl e2
        | op g' as =>
          simp only [Fm.d1, P.list1, W.bind, W.cons, W.lst, W.tup, W.ite, W.thn, W.b2, W.pure, W.bl, W.no, W.rtn, W.rto, W.stop, W.need, W.ite_app, Out.andThen, Out.val, Out.lst, decide_eq_true_eq]
          exact ⟨hsz, go _ hd.symm⟩
  · rw [ht, P.zip2, List.length_map, List.length_zip, List.length_map, List.length_map, List.take_of_length_le (by rw [putL_len hl]; omega)]
    exact h
theorem lput_ok (fs : List Fm) (c : List (Option Int)) (g : Bool) (hn : fs.length ≤ 13) (hl : c.length = fs.length) (hc : ∀ (i : Nat) f o, fs[i]? = some f → c[i]? = some o → OkC g f o) (φ : List D → Prop) (h : φ (putL g fs c)) : w__law_put_in [.list (fs.map Fm.d), .list (c.map optD), .str (gname g)] φ := by
  simp only [w__law_put_in, m__law_put_in, len_l, List.length_map, W.bind, W.cons, W.lst, W.tup, W.ite, W.thn, W.b2, W.pure, W.bl, W.no, W.rtn, W.rto, W.stop, W.need, W.ite_app, Out.andThen, Out.val, Out.lst, decide_eq_true_eq]
  rw [range_i _ (by omega)]
  refine loop_inv (fun k t => t = (putL g fs c).take k) _ 0 _ _ rfl (fun i d t ψ hd hi q => ?_) fun t ht => ?_
  · have hin := get_lt hd
    rw [rangeL_len] at hin
    rw [rangeL_get hin] at hd
    cases hd
    have hfi : fs[i]? = some fs[i] := List.getElem?_eq_getElem hin
    have hoi : c[i]? = some c[i] := List.getElem?_eq_getElem (by omega)
    generalize fs[i] = f at hfi
    generalize c[i] = o at hoi
    have g1 : (fs.map Fm.d)[i]? = some f.d := by rw [List.getElem?_map, hfi]; rfl
    have g2 : (c.map optD)[i]? = some (optD o) := by rw [List.getElem?_map, hoi]; rfl
    have hsz : t.length < sizeLine := by
      rw [hi, List.length_take]
      show _ < 2 ^ 24
      omega
    have go : ∀ d, d = putE g f o → ψ (.nx (t ++ [d])) := fun d hd => q _ (by
      rw [hd, List.take_add_one, ← hi, show 0 + i = i by omega, putL_get hfi hoi]
      rfl)
    have ho := hc i f o hfi hoi
    simp only [ix_l g1, ix_l g2, Fm.d_eq, ix_t0, ix_t1, eq_ss, W.bind, W.cons, W.lst, W.tup, W.ite, W.thn, W.b2, W.pure, W.bl, W.no, W.rtn, W.rto, W.stop, W.need, W.ite_app, Out.andThen, Out.val, Out.lst, decide_eq_true_eq]
    split
    · rename_i e
      obtain ⟨k, rfl, k0, k1⟩ := ho.1 e
      simp only [d1_op e, optD, ix_arc k0 k1, W.bind, W.cons, W.lst, W.tup, W.ite, W.thn, W.b2, W.pure, W.bl, W.no, W.rtn, W.rto, W.stop, W.need, W.ite_app, Out.andThen, Out.val, Out.lst, decide_eq_true_eq]
      exact ⟨hsz, go _ (by unfold putE; rw [if_pos e]; rfl)⟩
    · rename_i e
      have hd : putE g f o = f.d := by
        unfold putE
        rw [if_neg e]
      exact ⟨hsz, go _ (by rw [hd, Fm.d_eq])⟩
  · rw [ht, rangeL_len, List.take_of_length_le (by rw [putL_len hl]; omega)]
    exact h
/-! ### sizes -/
theorem leaf_g (g : Bool) : leafP (.str (gname g)) := by
  cases g
  · exact ⟨by decide +kernel, by decide +kernel⟩
  · exact ⟨by decide +kernel, by decide +kernel⟩
theorem leaf_amt : leafP (.str "amount") := ⟨by decide +kernel, by decide +kernel⟩
theorem fits_arc {n : Nat} {p : Int × Int} (h : OkA n p) (hn : n ≤ 13) : fits [2] (arcD p) := by
  obtain ⟨h1, h2, h3, h4⟩ := h
  refine fits_tup (show 2 ≤ 2 by decide) fun x hx => ?_
  simp only [List.mem_cons, List.not_mem_nil, or_false] at hx
  rcases hx with rfl | rfl
  · exact leaf_int (by omega)
  · exact leaf_int (by omega)
theorem fits_arcs {n : Nat} {as : List (Int × Int)} (hl : as.length ≤ 6) (h : ∀ p ∈ as, OkA n p) (hn : n ≤ 13) : fits [6, 2] (.list (as.map arcD)) := by
  refine fits_list (by rw [List.length_map]; exact hl) fun x hx => ?_
  obtain ⟨p, hp, rfl⟩ := List.mem_map.mp hx
  exact fits_arc (h p hp) hn
theorem fits_f {n : Nat} {f : Fm} (h : OkF n f) (hn : n ≤ 13) : fits [14, 6, 2] f.d := by
  cases f with
  | amt a =>
    refine fits_tup (show 2 ≤ 14 by decide) fun x hx => ?_
    simp only [List.mem_cons, List.not_mem_nil, or_false] at hx
    rcases hx with rfl | rfl
    · exact fits_leaf leaf_amt
    · cases a with
      | none => exact fits_leaf trivial
      | some k =>
        have := h k rfl
        exact fits_leaf (leaf_int (by omega))
  | op g as =>
    refine fits_tup (show 2 ≤ 14 by decide) fun x hx => ?_
    simp only [List.mem_cons, List.not_mem_nil, or_false] at hx
    rcases hx with rfl | rfl
    · exact fits_leaf (leaf_g g)
    · exact fits_arcs h.2.1 h.2.2 hn
theorem fits_put {n : Nat} {f : Fm} {g : Bool} {o : Option Int} (h : OkF n f) (hn : n ≤ 13) (ho : OkC g f o) : fits [14, 6, 2] (putE g f o) := by
  unfold putE
  split
  · rename_i e
    obtain ⟨k, rfl, k0, k1⟩ := ho.1 e
    refine fits_tup (show 2 ≤ 14 by decide) fun x hx => ?_
    simp only [List.mem_cons, List.not_mem_nil, or_false] at hx
    rcases hx with rfl | rfl
    · exact fits_leaf (leaf_g true)
    · refine fits_list (show 1 ≤ 6 by decide) fun x hx => ?_
      rw [List.mem_singleton.mp hx]
      rw [tag_op e] at h
      have hk : k.toNat < f.args.length := by omega
      refine fits_arc (h.2.2 _ ?_) hn
      show f.args.getD k.toNat (0, 0) ∈ _
      rw [List.getD_eq_getElem?_getD, List.getElem?_eq_getElem hk]
      exact List.getElem_mem hk
  · exact fits_f h hn

/-! ### the law -/
/-- a list that may be tried: none or small numbers -/
structure SmC (c : List (Option Int)) : Prop where
  len : c.length ≤ 14
  sm : ∀ o ∈ c, ∀ k, o = some k → -20 ≤ k ∧ k ≤ 20
theorem SmC.fits {c : List (Option Int)} (h : SmC c) : fits [14, 6, 2] (.list (c.map optD)) := by
  refine fits_list (by rw [List.length_map]; exact h.len) fun x hx => ?_
  obtain ⟨o, ho, rfl⟩ := List.mem_map.mp hx
  cases o with
  | none => exact fits_leaf trivial
  | some k =>
    have := h.sm _ ho k rfl
    exact fits_leaf (leaf_int (by omega))
theorem cut_map (c : List (Option Int)) (a b : Option Int) : P.cut (c.map optD) a b = (P.cut c a b).map optD := by
  unfold P.cut
  rw [List.length_map, List.map_take, List.map_drop]
theorem cut_mem {c : List (Option Int)} {a b : Option Int} {o : Option Int} (h : o ∈ P.cut c a b) : o ∈ c := List.mem_of_mem_drop (List.mem_of_mem_take h)
theorem cut_len (c : List (Option Int)) (a b : Option Int) : (P.cut c a b).length ≤ c.length := by
  unfold P.cut
  rw [List.length_take, List.length_drop]
  omega
theorem cat_ok (a b : List (Option Int)) (ha : a.length ≤ 1000) (hb : b.length ≤ 1000) : P.catL (.list (a.map optD)) (.list (b.map optD)) = W.pure ((a ++ b).map optD) := by
  have e : P.catL (.list (a.map optD)) (.list (b.map optD)) = W.pure (a.map optD ++ b.map optD) := W.need_true (by rw [List.length_map, List.length_map]; show _ ≤ 2 ^ 24; omega) _
  rw [e, List.map_append]
theorem cut_ok (c : List (Option Int)) (a b : Option Int) : P.cutL a b (.list (c.map optD)) = W.pure ((P.cut c a b).map optD) := by
  show W.pure (P.cut (c.map optD) a b) = _
  rw [cut_map]
theorem choice_small {n : Nat} {fs : List Fm} {g : Bool} {c : List (Option Int)} (hf : ∀ f ∈ fs, OkF n f) (hl : c.length = fs.length) (hn : fs.length ≤ 13) (hc : ∀ (i : Nat) f o, fs[i]? = some f → c[i]? = some o → OkC g f o) : SmC c ∧ c.length ≤ 13 := by
  refine ⟨⟨by omega, fun o ho k hk => ?_⟩, by omega⟩
  obtain ⟨i, hi⟩ := List.getElem?_of_mem ho
  have hil := get_lt hi
  have hfi : fs[i]? = some fs[i] := List.getElem?_eq_getElem (by omega)
  have hm := List.mem_of_getElem? hfi
  generalize fs[i] = f at hfi hm
  have q := hc i f o hfi hi
  by_cases e : f.tag = gname g
  · obtain ⟨k', e', k0, k1⟩ := q.1 e
    have b := args_pos (hf f hm) e
    rw [hk] at e'
    cases e'
    omega
  · rw [q.2 e] at hk
    cases hk
theorem law_ok (ns : List Int) (hl : ns.length ≤ 63) : m_law (ns.map .int) fun o => Out.val o fun d => d = .bool true := by
  simp only [m_law, W.bind, W.cons, W.lst, W.tup, W.ite, W.thn, W.b2, W.pure, W.bl, W.no, W.rtn, W.rto, W.stop, W.need, W.ite_app, Out.andThen, Out.val, Out.lst, decide_eq_true_eq]
  refine stream_ok ns hl _ fun l1 hp => ⟨hp, ?_⟩
  refine flat_ok _ fun n fs n1 n2 hfl hf => ?_
  simp only [P.items, W.bind, W.cons, W.lst, W.tup, W.ite, W.thn, W.b2, W.pure, W.bl, W.no, W.rtn, W.rto, W.stop, W.need, W.ite_app, Out.andThen, Out.val, Out.lst, decide_eq_true_eq]
  refine loop_inv (fun _ _ => True) _ 0 _ _ trivial (fun i d t ψ hd _ q => ?_) fun t _ => rfl
  obtain ⟨g, rfl⟩ : ∃ g, d = .str (gname g) := by
    have := List.mem_of_getElem? hd
    simp only [List.mem_cons, List.not_mem_nil, or_false] at this
    rcases this with rfl | rfl
    · exact ⟨false, rfl⟩
    · exact ⟨true, rfl⟩
  simp only [W.bind, W.cons, W.lst, W.tup, W.ite, W.thn, W.b2, W.pure, W.bl, W.no, W.rtn, W.rto, W.stop, W.need, W.ite_app, Out.andThen, Out.val, Out.lst, decide_eq_true_eq]
  refine choice_ok n fs (by omega) hf g _ fun c hcl hc => ?_
  obtain ⟨sm, c13⟩ := choice_small hf hcl (by omega) hc
  simp only [len_l, List.length_map, W.bind, W.cons, W.lst, W.tup, W.ite, W.thn, W.b2, W.pure, W.bl, W.no, W.rtn, W.rto, W.stop, W.need, W.ite_app, Out.andThen, Out.val, Out.lst, decide_eq_true_eq]
  refine pick_i (n := c.length) (by omega) fun at_ a0 a1 => ?_
  have e1 : ([.none] : List D) = ([none] : List (Option Int)).map optD := rfl
  have e2 : ([.int 0] : List D) = ([some 0] : List (Option Int)).map optD := rfl
  simp only [P.asInt, cut_ok, e1, e2, cat_ok c [none] (by omega) (by decide), cat_ok c [some 0] (by omega) (by decide), add_ii, neg_i, W.bind, W.cons, W.lst, W.tup, W.ite, W.thn, W.b2, W.pure, W.bl, W.no, W.rtn, W.rto, W.stop, W.need, W.ite_app, Out.andThen, Out.val, Out.lst, decide_eq_true_eq]
  refine pick_i (n := 5) (by decide) fun z z0 z1 => ?_
  refine ix_some z z0 (by exact z1) _ fun e he => ?_
  obtain ⟨o, rfl, ho⟩ : ∃ o : Option Int, e = optD o ∧ ∀ k, o = some k → -20 ≤ k ∧ k ≤ 20 := by
    simp only [List.mem_cons, List.not_mem_nil, or_false] at he
    rcases he with rfl | rfl | rfl | rfl | rfl
    · exact ⟨none, rfl, fun k h => nomatch h⟩
    · exact ⟨some 0, rfl, fun k h => by cases h; omega⟩
    · exact ⟨some (-1), rfl, fun k h => by cases h; omega⟩
    · exact ⟨some 6, rfl, fun k h => by cases h; omega⟩
    · exact ⟨some 2, rfl, fun k h => by cases h; omega⟩
  have e3 : ([optD o] : List D) = ([o] : List (Option Int)).map optD := rfl
  have b1 := cut_len c none (some at_)
  have b2 := cut_len c (some (at_ + 1)) none
  simp only [P.asInt, cut_ok, e3, cat_ok (P.cut c none (some at_)) [o] (by omega) (by simp), cat_ok (P.cut c none (some at_) ++ [o]) (P.cut c (some (at_ + 1)) none) (by rw [List.length_append]; show _ + 1 ≤ 1000; omega) (by omega), add_ii, W.bind, W.cons, W.lst, W.tup, W.ite, W.thn, W.b2, W.pure, W.bl, W.no, W.rtn, W.rto, W.stop, W.need, W.ite_app, Out.andThen, Out.val, Out.lst, decide_eq_true_eq]
  have hx : SmC (P.cut c none (some at_) ++ [o] ++ P.cut c (some (at_ + 1)) none) := by
    refine ⟨?_, fun o' ho' => ?_⟩
    · rw [List.length_append, List.length_append]
      have q1 : (P.cut c none (some at_)).length ≤ at_.toNat := by
        unfold P.cut
        rw [List.length_take]
        refine Nat.le_trans (Nat.min_le_left _ _) (Nat.le_trans (Nat.sub_le _ _) ?_)
        have : HT.sIx c.length c.length (some at_) = min at_.toNat c.length := by
          have := HT.sIx_nat c.length c.length at_.toNat
          rw [show ((at_.toNat : Nat) : Int) = at_ by omega] at this
          exact this
        rw [this]
        exact Nat.min_le_left _ _
      have q2 : (P.cut c (some (at_ + 1)) none).length ≤ c.length - (at_.toNat + 1) := by
        unfold P.cut
        rw [List.length_take, List.length_drop]
        have : HT.sIx c.length 0 (some (at_ + 1)) = min (at_.toNat + 1) c.length := by
          have := HT.sIx_nat c.length 0 (at_.toNat + 1)
          rw [show ((at_.toNat + 1 : Nat) : Int) = at_ + 1 by omega] at this
          exact this
        rw [this]
        omega
      show _ + 1 + _ ≤ 14
      omega
    · rcases List.mem_append.mp ho' with z | z
      · rcases List.mem_append.mp z with z | z
        · exact sm.sm o' (cut_mem z)
        · rw [List.mem_singleton.mp z]
          exact ho
      · exact sm.sm o' (cut_mem z)
  refine ⟨show 4 < 2 ^ 24 by decide, ?_⟩
  generalize hT : P.cut c none (some at_) ++ [o] ++ P.cut c (some (at_ + 1)) none = x at hx
  obtain ⟨T, eT, hTl, hTs⟩ : ∃ T : List (List (Option Int)), [PyData.list (c.map optD), .list ((P.cut c (some 1) none).map optD), .list ((c ++ [none]).map optD), .list ((c ++ [some 0]).map optD)] ++ [PyData.list (x.map optD)] = T.map (fun c => PyData.list (c.map optD)) ∧ T.length = 5 ∧ ∀ c ∈ T, SmC c := by
    refine ⟨[c, P.cut c (some 1) none, c ++ [none], c ++ [some 0], x], rfl, rfl, fun c' hc' => ?_⟩
    simp only [List.mem_cons, List.not_mem_nil, or_false] at hc'
    rcases hc' with rfl | rfl | rfl | rfl | rfl
    · exact sm
    · exact ⟨Nat.le_trans (cut_len ..) sm.len, fun o' ho' => sm.sm o' (cut_mem ho')⟩
    · refine ⟨by rw [List.length_append]; show _ + 1 ≤ 14; omega, fun o' ho' k hk => ?_⟩
      rcases List.mem_append.mp ho' with z | z
      · exact sm.sm o' z k hk
      · rw [List.mem_singleton.mp z] at hk
        cases hk
    · refine ⟨by rw [List.length_append]; show _ + 1 ≤ 14; omega, fun o' ho' k hk => ?_⟩
      rcases List.mem_append.mp ho' with z | z
      · exact sm.sm o' z k hk
      · rw [List.mem_singleton.mp z] at hk
        cases hk
        decide
    · exact hx
  rw [eT]
  have fF : fits [14, 14, 6, 2] (.list (fs.map Fm.d)) := fits_list (by rw [List.length_map]; omega) fun y hy => by
    obtain ⟨f, hm, rfl⟩ := List.mem_map.mp hy
    exact fits_f (hf f hm) n2
  have fT : fits [14, 14, 6, 2] (.list (T.map fun c => PyData.list (c.map optD))) := fits_list (by rw [List.length_map, hTl]; decide) fun y hy => by
    obtain ⟨c', hm, rfl⟩ := List.mem_map.mp hy
    exact (hTs c' hm).fits
  have fB : fits [2, 14, 14, 6, 2] (.tuple [.list (fs.map Fm.d), .list (T.map fun c => PyData.list (c.map optD))]) := fits_tup (show 2 ≤ 2 by decide) fun y hy => by
    simp only [List.mem_cons, List.not_mem_nil, or_false] at hy
    rcases hy with rfl | rfl
    · exact fF
    · exact fT
  have er := repr_fits fB (by decide) (by decide) (.inr ⟨_, rfl⟩)
  simp only [er, W.bind, W.cons, W.lst, W.tup, W.ite, W.thn, W.b2, W.pure, W.bl, W.no, W.rtn, W.rto, W.stop, W.need, W.ite_app, Out.andThen, Out.val, Out.lst, decide_eq_true_eq]
  refine loop_inv (fun _ _ => True) _ 0 _ _ trivial (fun i2 d t ψ hd _ q2 => ?_) fun t _ => ?_
  · obtain ⟨c', hc', rfl⟩ := map_get hd
    simp only [W.bind, W.cons, W.lst, W.tup, W.ite, W.thn, W.b2, W.pure, W.bl, W.no, W.rtn, W.rto, W.stop, W.need, W.ite_app, Out.andThen, Out.val, Out.lst, decide_eq_true_eq]
    refine isc_ok fs c' g _ ?_
    refine lisc_ok fs c' g (by omega) _ ?_
    refine same_ok _ _ ?_
    exact q2 () trivial
  · simp only [W.bind, W.cons, W.lst, W.tup, W.ite, W.thn, W.b2, W.pure, W.bl, W.no, W.rtn, W.rto, W.stop, W.need, W.ite_app, Out.andThen, Out.val, Out.lst, decide_eq_true_eq]
    rw [show (2 : Int) = ((2 : Nat) : Int) from rfl, range_i 2 (by decide)]
    refine loop_inv (fun _ _ => True) _ 0 _ _ trivial (fun i3 d t ψ3 _ _ q3 => ?_) fun t _ => ?_
    · simp only [W.bind, W.cons, W.lst, W.tup, W.ite, W.thn, W.b2, W.pure, W.bl, W.no, W.rtn, W.rto, W.stop, W.need, W.ite_app, Out.andThen, Out.val, Out.lst, decide_eq_true_eq]
      refine put_ok fs c g (by omega) hcl hc _ ?_
      have ty : P.isTy "list" (.list (putL g fs c)) = true := rfl
      have hmem : ∀ d ∈ putL g fs c, ∃ f o, f ∈ fs ∧ OkC g f o ∧ d = putE g f o := fun d hd => by
        obtain ⟨j, hj⟩ := List.getElem?_of_mem hd
        have hjl := get_lt hj
        rw [putL_len hcl] at hjl
        have hfi : fs[j]? = some fs[j] := List.getElem?_eq_getElem hjl
        have hoi : c[j]? = some c[j] := List.getElem?_eq_getElem (by omega)
        rw [putL_get hfi hoi] at hj
        exact ⟨_, _, List.mem_of_getElem? hfi, hc j _ _ hfi hoi, (Option.some.inj hj).symm⟩
      have fP : fits [14, 14, 6, 2] (.list (putL g fs c)) := fits_list (by rw [putL_len hcl]; omega) fun y hy => by
        obtain ⟨f, o, h1, h2, rfl⟩ := hmem y hy
        exact fits_put (hf f h1) n2 h2
      simp only [ty, P.truth, Bool.not_true, Bool.false_eq_true, if_false, W.bind, W.cons, W.lst, W.tup, W.ite, W.thn, W.b2, W.pure, W.bl, W.no, W.rtn, W.rto, W.stop, W.need, W.ite_app, Out.andThen, Out.val, Out.lst, decide_eq_true_eq]
      refine lput_ok fs c g (by omega) hcl hc _ ?_
      rw [ne_fits fP fP (by decide) (by decide), SeqAt.eqv_refl _ (fits_all fP).1]
      simp only [Bool.not_true, Bool.false_eq_true, if_false, W.bind, W.cons, W.lst, W.tup, W.ite, W.thn, W.b2, W.pure, W.bl, W.no, W.rtn, W.rto, W.stop, W.need, W.ite_app, Out.andThen, Out.val, Out.lst, decide_eq_true_eq]
      refine ⟨fun d hd => ?_, q3 () trivial⟩
      obtain ⟨f, o, h1, h2, rfl⟩ := hmem d hd
      unfold putE
      split
      · exact ⟨_, _, rfl, fun _ => ⟨_, rfl⟩⟩
      · refine ⟨f.tag, f.d1, f.d_eq, fun z => ?_⟩
        cases f with
        | amt a => exact absurd rfl z
        | op g' as => exact ⟨_, rfl⟩
    · simp only [er, ne_ss, decide_true, Bool.not_true, Bool.false_eq_true, if_false, W.bind, W.cons, W.lst, W.tup, W.ite, W.thn, W.b2, W.pure, W.bl, W.no, W.rtn, W.rto, W.stop, W.need, W.ite_app, Out.andThen, Out.val, Out.lst, decide_eq_true_eq]
      exact q () trivial
end Pr
end
section
set_option maxRecDepth 100000
namespace Pr
open PySem PySem.Spec L2 Dv
open PyProof.Rows hiding St
theorem here__law_pick {K : PySem.W.Frag} {h : Heap} {mg : Str → Option Value} (X : K.In h) (G : h.Ns mainGlobals mg) {f0 : Addr} {od0 an0 : Option Addr} {sl0 : Array (Option Value)} {oc0 kV0 dc0 pm0 cd0 ct0 : Value} (a0 : PySem.W.nsIn K mainGlobals "_law_pick" = some (some (.ref f0))) (l0 : K.lookup f0 = some ⟨oc0, od0, .func (PySem.W.fnOf "_law_pick" "_law_pick" (defArgs s__law_pick) (defBody s__law_pick) (defScope s__law_pick) .none kV0 dc0 pm0 an0 cd0 ct0), sl0⟩) (c0 : PySem.W.codeIn K cd0 "_law_pick" = true) (k0 : PySem.W.keepIn K (.ref f0) = true) : Here K mg "_law_pick" s__law_pick ["_law_pool_here", "_law_many"] :=
  ⟨f0, _, fun_mk (st := s__law_pick) l0 c0 k0, PySem.W.mg_of X G a0, (fun_mk (st := s__law_pick) l0 c0 k0).binds (ps := ["_law_pool_here", "_law_many"]) fun _ _ _ _ _ _ us hl => match us, hl with
    | [_, _], _ => rfl⟩
theorem here__law_choice {K : PySem.W.Frag} {h : Heap} {mg : Str → Option Value} (X : K.In h) (G : h.Ns mainGlobals mg) {f0 : Addr} {od0 an0 : Option Addr} {sl0 : Array (Option Value)} {oc0 kV0 dc0 pm0 cd0 ct0 : Value} (a0 : PySem.W.nsIn K mainGlobals "_law_choice" = some (some (.ref f0))) (l0 : K.lookup f0 = some ⟨oc0, od0, .func (PySem.W.fnOf "_law_choice" "_law_choice" (defArgs s__law_choice) (defBody s__law_choice) (defScope s__law_choice) .none kV0 dc0 pm0 an0 cd0 ct0), sl0⟩) (c0 : PySem.W.codeIn K cd0 "_law_choice" = true) (k0 : PySem.W.keepIn K (.ref f0) = true) : Here K mg "_law_choice" s__law_choice ["_law_pool_here", "_law_flat_here", "_law_kind"] :=
  ⟨f0, _, fun_mk (st := s__law_choice) l0 c0 k0, PySem.W.mg_of X G a0, (fun_mk (st := s__law_choice) l0 c0 k0).binds (ps := ["_law_pool_here", "_law_flat_here", "_law_kind"]) fun _ _ _ _ _ _ us hl => match us, hl with
    | [_, _, _], _ => rfl⟩
theorem here__law_amount {K : PySem.W.Frag} {h : Heap} {mg : Str → Option Value} (X : K.In h) (G : h.Ns mainGlobals mg) {f0 : Addr} {od0 an0 : Option Addr} {sl0 : Array (Option Value)} {oc0 kV0 dc0 pm0 cd0 ct0 : Value} (a0 : PySem.W.nsIn K mainGlobals "_law_amount" = some (some (.ref f0))) (l0 : K.lookup f0 = some ⟨oc0, od0, .func (PySem.W.fnOf "_law_amount" "_law_amount" (defArgs s__law_amount) (defBody s__law_amount) (defScope s__law_amount) .none kV0 dc0 pm0 an0 cd0 ct0), sl0⟩) (c0 : PySem.W.codeIn K cd0 "_law_amount" = true) (k0 : PySem.W.keepIn K (.ref f0) = true) : Here K mg "_law_amount" s__law_amount ["_law_pool_here"] :=
  ⟨f0, _, fun_mk (st := s__law_amount) l0 c0 k0, PySem.W.mg_of X G a0, (fun_mk (st := s__law_amount) l0 c0 k0).binds (ps := ["_law_pool_here"]) fun _ _ _ _ _ _ us hl => match us, hl with
    | [_], _ => rfl⟩
theorem here__law_arcs {K : PySem.W.Frag} {h : Heap} {mg : Str → Option Value} (X : K.In h) (G : h.Ns mainGlobals mg) {f0 : Addr} {od0 an0 : Option Addr} {sl0 : Array (Option Value)} {oc0 kV0 dc0 pm0 cd0 ct0 : Value} (a0 : PySem.W.nsIn K mainGlobals "_law_arcs" = some (some (.ref f0))) (l0 : K.lookup f0 = some ⟨oc0, od0, .func (PySem.W.fnOf "_law_arcs" "_law_arcs" (defArgs s__law_arcs) (defBody s__law_arcs) (defScope s__law_arcs) .none kV0 dc0 pm0 an0 cd0 ct0), sl0⟩) (c0 : PySem.W.codeIn K cd0 "_law_arcs" = true) (k0 : PySem.W.keepIn K (.ref f0) = true) : Here K mg "_law_arcs" s__law_arcs ["_law_pool_here", "_law_many"] :=
  ⟨f0, _, fun_mk (st := s__law_arcs) l0 c0 k0, PySem.W.mg_of X G a0, (fun_mk (st := s__law_arcs) l0 c0 k0).binds (ps := ["_law_pool_here", "_law_many"]) fun _ _ _ _ _ _ us hl => match us, hl with
    | [_, _], _ => rfl⟩
theorem here__law_flat {K : PySem.W.Frag} {h : Heap} {mg : Str → Option Value} (X : K.In h) (G : h.Ns mainGlobals mg) {f0 : Addr} {od0 an0 : Option Addr} {sl0 : Array (Option Value)} {oc0 kV0 dc0 pm0 cd0 ct0 : Value} (a0 : PySem.W.nsIn K mainGlobals "_law_flat" = some (some (.ref f0))) (l0 : K.lookup f0 = some ⟨oc0, od0, .func (PySem.W.fnOf "_law_flat" "_law_flat" (defArgs s__law_flat) (defBody s__law_flat) (defScope s__law_flat) .none kV0 dc0 pm0 an0 cd0 ct0), sl0⟩) (c0 : PySem.W.codeIn K cd0 "_law_flat" = true) (k0 : PySem.W.keepIn K (.ref f0) = true) : Here K mg "_law_flat" s__law_flat ["_law_pool_here", "_law_most", "_law_conditions"] :=
  ⟨f0, _, fun_mk (st := s__law_flat) l0 c0 k0, PySem.W.mg_of X G a0, (fun_mk (st := s__law_flat) l0 c0 k0).binds (ps := ["_law_pool_here", "_law_most", "_law_conditions"]) fun _ _ _ _ _ _ us hl => match us, hl with
    | [_, _, _], _ => rfl⟩
theorem here__law_is_choice {K : PySem.W.Frag} {h : Heap} {mg : Str → Option Value} (X : K.In h) (G : h.Ns mainGlobals mg) {f0 : Addr} {od0 an0 : Option Addr} {sl0 : Array (Option Value)} {oc0 kV0 dc0 pm0 cd0 ct0 : Value} (a0 : PySem.W.nsIn K mainGlobals "_law_is_choice" = some (some (.ref f0))) (l0 : K.lookup f0 = some ⟨oc0, od0, .func (PySem.W.fnOf "_law_is_choice" "_law_is_choice" (defArgs s__law_is_choice) (defBody s__law_is_choice) (defScope s__law_is_choice) .none kV0 dc0 pm0 an0 cd0 ct0), sl0⟩) (c0 : PySem.W.codeIn K cd0 "_law_is_choice" = true) (k0 : PySem.W.keepIn K (.ref f0) = true) : Here K mg "_law_is_choice" s__law_is_choice ["_law_flat_here", "_law_choice_here", "_law_kind"] :=
  ⟨f0, _, fun_mk (st := s__law_is_choice) l0 c0 k0, PySem.W.mg_of X G a0, (fun_mk (st := s__law_is_choice) l0 c0 k0).binds (ps := ["_law_flat_here", "_law_choice_here", "_law_kind"]) fun _ _ _ _ _ _ us hl => match us, hl with
    | [_, _, _], _ => rfl⟩
theorem here__law_put_in {K : PySem.W.Frag} {h : Heap} {mg : Str → Option Value} (X : K.In h) (G : h.Ns mainGlobals mg) {f0 : Addr} {od0 an0 : Option Addr} {sl0 : Array (Option Value)} {oc0 kV0 dc0 pm0 cd0 ct0 : Value} (a0 : PySem.W.nsIn K mainGlobals "_law_put_in" = some (some (.ref f0))) (l0 : K.lookup f0 = some ⟨oc0, od0, .func (PySem.W.fnOf "_law_put_in" "_law_put_in" (defArgs s__law_put_in) (defBody s__law_put_in) (defScope s__law_put_in) .none kV0 dc0 pm0 an0 cd0 ct0), sl0⟩) (c0 : PySem.W.codeIn K cd0 "_law_put_in" = true) (k0 : PySem.W.keepIn K (.ref f0) = true) : Here K mg "_law_put_in" s__law_put_in ["_law_flat_here", "_law_choice_here", "_law_kind"] :=
  ⟨f0, _, fun_mk (st := s__law_put_in) l0 c0 k0, PySem.W.mg_of X G a0, (fun_mk (st := s__law_put_in) l0 c0 k0).binds (ps := ["_law_flat_here", "_law_choice_here", "_law_kind"]) fun _ _ _ _ _ _ us hl => match us, hl with
    | [_, _, _], _ => rfl⟩
theorem here__law_same {K : PySem.W.Frag} {h : Heap} {mg : Str → Option Value} (X : K.In h) (G : h.Ns mainGlobals mg) {f0 : Addr} {od0 an0 : Option Addr} {sl0 : Array (Option Value)} {oc0 kV0 dc0 pm0 cd0 ct0 : Value} (a0 : PySem.W.nsIn K mainGlobals "_law_same" = some (some (.ref f0))) (l0 : K.lookup f0 = some ⟨oc0, od0, .func (PySem.W.fnOf "_law_same" "_law_same" (defArgs s__law_same) (defBody s__law_same) (defScope s__law_same) .none kV0 dc0 pm0 an0 cd0 ct0), sl0⟩) (c0 : PySem.W.codeIn K cd0 "_law_same" = true) (k0 : PySem.W.keepIn K (.ref f0) = true) : Here K mg "_law_same" s__law_same ["_law_actual", "_law_due"] :=
  ⟨f0, _, fun_mk (st := s__law_same) l0 c0 k0, PySem.W.mg_of X G a0, (fun_mk (st := s__law_same) l0 c0 k0).binds (ps := ["_law_actual", "_law_due"]) fun _ _ _ _ _ _ us hl => match us, hl with
    | [_, _], _ => rfl⟩
theorem here__law_pool {K : PySem.W.Frag} {h : Heap} {mg : Str → Option Value} (X : K.In h) (G : h.Ns mainGlobals mg) {f0 : Addr} {od0 an0 : Option Addr} {sl0 : Array (Option Value)} {oc0 kV0 dc0 pm0 cd0 ct0 : Value} (a0 : PySem.W.nsIn K mainGlobals "_law_pool" = some (some (.ref f0))) (l0 : K.lookup f0 = some ⟨oc0, od0, .func (PySem.W.fnOf "_law_pool" "_law_pool" (defArgs s__law_pool) (defBody s__law_pool) (defScope s__law_pool) .none kV0 dc0 pm0 an0 cd0 ct0), sl0⟩) (c0 : PySem.W.codeIn K cd0 "_law_pool" = true) (k0 : PySem.W.keepIn K (.ref f0) = true) : Here K mg "_law_pool" s__law_pool ["_law_script"] :=
  ⟨f0, _, fun_mk (st := s__law_pool) l0 c0 k0, PySem.W.mg_of X G a0, (fun_mk (st := s__law_pool) l0 c0 k0).binds (ps := ["_law_script"]) fun _ _ _ _ _ _ us hl => match us, hl with
    | [_], _ => rfl⟩
theorem here__law_stream {K : PySem.W.Frag} {h : Heap} {mg : Str → Option Value} (X : K.In h) (G : h.Ns mainGlobals mg) {f0 : Addr} {od0 an0 : Option Addr} {sl0 : Array (Option Value)} {oc0 kV0 dc0 pm0 cd0 ct0 : Value} (a0 : PySem.W.nsIn K mainGlobals "_law_stream" = some (some (.ref f0))) (l0 : K.lookup f0 = some ⟨oc0, od0, .func (PySem.W.fnOf "_law_stream" "_law_stream" (defArgs s__law_stream) (defBody s__law_stream) (defScope s__law_stream) .none kV0 dc0 pm0 an0 cd0 ct0), sl0⟩) (c0 : PySem.W.codeIn K cd0 "_law_stream" = true) (k0 : PySem.W.keepIn K (.ref f0) = true) : Here K mg "_law_stream" s__law_stream ["_law_script"] :=
  ⟨f0, _, fun_mk (st := s__law_stream) l0 c0 k0, PySem.W.mg_of X G a0, (fun_mk (st := s__law_stream) l0 c0 k0).binds (ps := ["_law_script"]) fun _ _ _ _ _ _ us hl => match us, hl with
    | [_], _ => rfl⟩
theorem here_is_choice {K : PySem.W.Frag} {h : Heap} {mg : Str → Option Value} (X : K.In h) (G : h.Ns mainGlobals mg) {f0 : Addr} {od0 an0 : Option Addr} {sl0 : Array (Option Value)} {oc0 kV0 dc0 pm0 cd0 ct0 : Value} (a0 : PySem.W.nsIn K mainGlobals "is_choice" = some (some (.ref f0))) (l0 : K.lookup f0 = some ⟨oc0, od0, .func (PySem.W.fnOf "is_choice" "is_choice" (defArgs s_is_choice) (defBody s_is_choice) (defScope s_is_choice) .none kV0 dc0 pm0 an0 cd0 ct0), sl0⟩) (c0 : PySem.W.codeIn K cd0 "is_choice" = true) (k0 : PySem.W.keepIn K (.ref f0) = true) : HereK K mg "is_choice" s_is_choice ["flat", "choice", "kind"] ["kind"] 2 1 :=
  ⟨f0, _, fun_mk (st := s_is_choice) l0 c0 k0, PySem.W.mg_of X G a0, kb_of 2 1 (by decide) fun us ws h1 h2 => match us, ws, h1, h2 with
    | [_, _], [_], _, _ => rfl⟩
theorem here_put_in {K : PySem.W.Frag} {h : Heap} {mg : Str → Option Value} (X : K.In h) (G : h.Ns mainGlobals mg) {f0 : Addr} {od0 an0 : Option Addr} {sl0 : Array (Option Value)} {oc0 kV0 dc0 pm0 cd0 ct0 : Value} (a0 : PySem.W.nsIn K mainGlobals "put_in" = some (some (.ref f0))) (l0 : K.lookup f0 = some ⟨oc0, od0, .func (PySem.W.fnOf "put_in" "put_in" (defArgs s_put_in) (defBody s_put_in) (defScope s_put_in) .none kV0 dc0 pm0 an0 cd0 ct0), sl0⟩) (c0 : PySem.W.codeIn K cd0 "put_in" = true) (k0 : PySem.W.keepIn K (.ref f0) = true) : HereK K mg "put_in" s_put_in ["flat", "choice", "kind"] ["kind"] 2 1 :=
  ⟨f0, _, fun_mk (st := s_put_in) l0 c0 k0, PySem.W.mg_of X G a0, kb_of 2 1 (by decide) fun us ws h1 h2 => match us, ws, h1, h2 with
    | [_, _], [_], _, _ => rfl⟩
theorem all_mk {P : Program} {w : World} {K : PySem.W.Frag} {h : Heap} {mg : Str → Option Value} {fa : Addr} (X : K.In h) (G : h.Ns mainGlobals mg) (hfa : mg "law" = some (.ref fa))
    {f0 : Addr} {od0 an0 : Option Addr} {sl0 : Array (Option Value)} {oc0 kV0 dc0 pm0 cd0 ct0 : Value}
    (a0 : PySem.W.nsIn K mainGlobals "_law_pick" = some (some (.ref f0))) (l0 : K.lookup f0 = some ⟨oc0, od0, .func (PySem.W.fnOf "_law_pick" "_law_pick" (defArgs s__law_pick) (defBody s__law_pick) (defScope s__law_pick) .none kV0 dc0 pm0 an0 cd0 ct0), sl0⟩) (c0 : PySem.W.codeIn K cd0 "_law_pick" = true) (k0 : PySem.W.keepIn K (.ref f0) = true)
    {f1 : Addr} {od1 an1 : Option Addr} {sl1 : Array (Option Value)} {oc1 kV1 dc1 pm1 cd1 ct1 : Value}
    (a1 : PySem.W.nsIn K mainGlobals "_law_choice" = some (some (.ref f1))) (l1 : K.lookup f1 = some ⟨oc1, od1, .func (PySem.W.fnOf "_law_choice" "_law_choice" (defArgs s__law_choice) (defBody s__law_choice) (defScope s__law_choice) .none kV1 dc1 pm1 an1 cd1 ct1), sl1⟩) (c1 : PySem.W.codeIn K cd1 "_law_choice" = true) (k1 : PySem.W.keepIn K (.ref f1) = true)
    {f2 : Addr} {od2 an2 : Option Addr} {sl2 : Array (Option Value)} {oc2 kV2 dc2 pm2 cd2 ct2 : Value}
    (a2 : PySem.W.nsIn K mainGlobals "_law_amount" = some (some (.ref f2))) (l2 : K.lookup f2 = some ⟨oc2, od2, .func (PySem.W.fnOf "_law_amount" "_law_amount" (defArgs s__law_amount) (defBody s__law_amount) (defScope s__law_amount) .none kV2 dc2 pm2 an2 cd2 ct2), sl2⟩) (c2 : PySem.W.codeIn K cd2 "_law_amount" = true) (k2 : PySem.W.keepIn K (.ref f2) = true)
    {f3 : Addr} {od3 an3 : Option Addr} {sl3 : Array (Option Value)} {oc3 kV3 dc3 pm3 cd3 ct3 : Value}
    (a3 : PySem.W.nsIn K mainGlobals "_law_arcs" = some (some (.ref f3))) (l3 : K.lookup f3 = some ⟨oc3, od3, .func (PySem.W.fnOf "_law_arcs" "_law_arcs" (defArgs s__law_arcs) (defBody s__law_arcs) (defScope s__law_arcs) .none kV3 dc3 pm3 an3 cd3 ct3), sl3⟩) (c3 : PySem.W.codeIn K cd3 "_law_arcs" = true) (k3 : PySem.W.keepIn K (.ref f3) = true)
    {f4 : Addr} {od4 an4 : Option Addr} {sl4 : Array (Option Value)} {oc4 kV4 dc4 pm4 cd4 ct4 : Value}
    (a4 : PySem.W.nsIn K mainGlobals "_law_flat" = some (some (.ref f4))) (l4 : K.lookup f4 = some ⟨oc4, od4, .func (PySem.W.fnOf "_law_flat" "_law_flat" (defArgs s__law_flat) (defBody s__law_flat) (defScope s__law_flat) .none kV4 dc4 pm4 an4 cd4 ct4), sl4⟩) (c4 : PySem.W.codeIn K cd4 "_law_flat" = true) (k4 : PySem.W.keepIn K (.ref f4) = true)
    {f5 : Addr} {od5 an5 : Option Addr} {sl5 : Array (Option Value)} {oc5 kV5 dc5 pm5 cd5 ct5 : Value}
    (a5 : PySem.W.nsIn K mainGlobals "_law_is_choice" = some (some (.ref f5))) (l5 : K.lookup f5 = some ⟨oc5, od5, .func (PySem.W.fnOf "_law_is_choice" "_law_is_choice" (defArgs s__law_is_choice) (defBody s__law_is_choice) (defScope s__law_is_choice) .none kV5 dc5 pm5 an5 cd5 ct5), sl5⟩) (c5 : PySem.W.codeIn K cd5 "_law_is_choice" = true) (k5 : PySem.W.keepIn K (.ref f5) = true)
    {f6 : Addr} {od6 an6 : Option Addr} {sl6 : Array (Option Value)} {oc6 kV6 dc6 pm6 cd6 ct6 : Value}
    (a6 : PySem.W.nsIn K mainGlobals "_law_put_in" = some (some (.ref f6))) (l6 : K.lookup f6 = some ⟨oc6, od6, .func (PySem.W.fnOf "_law_put_in" "_law_put_in" (defArgs s__law_put_in) (defBody s__law_put_in) (defScope s__law_put_in) .none kV6 dc6 pm6 an6 cd6 ct6), sl6⟩) (c6 : PySem.W.codeIn K cd6 "_law_put_in" = true) (k6 : PySem.W.keepIn K (.ref f6) = true)
    {f7 : Addr} {od7 an7 : Option Addr} {sl7 : Array (Option Value)} {oc7 kV7 dc7 pm7 cd7 ct7 : Value}
    (a7 : PySem.W.nsIn K mainGlobals "_law_same" = some (some (.ref f7))) (l7 : K.lookup f7 = some ⟨oc7, od7, .func (PySem.W.fnOf "_law_same" "_law_same" (defArgs s__law_same) (defBody s__law_same) (defScope s__law_same) .none kV7 dc7 pm7 an7 cd7 ct7), sl7⟩) (c7 : PySem.W.codeIn K cd7 "_law_same" = true) (k7 : PySem.W.keepIn K (.ref f7) = true)
    {f8 : Addr} {od8 an8 : Option Addr} {sl8 : Array (Option Value)} {oc8 kV8 dc8 pm8 cd8 ct8 : Value}
    (a8 : PySem.W.nsIn K mainGlobals "_law_pool" = some (some (.ref f8))) (l8 : K.lookup f8 = some ⟨oc8, od8, .func (PySem.W.fnOf "_law_pool" "_law_pool" (defArgs s__law_pool) (defBody s__law_pool) (defScope s__law_pool) .none kV8 dc8 pm8 an8 cd8 ct8), sl8⟩) (c8 : PySem.W.codeIn K cd8 "_law_pool" = true) (k8 : PySem.W.keepIn K (.ref f8) = true)
    {f9 : Addr} {od9 an9 : Option Addr} {sl9 : Array (Option Value)} {oc9 kV9 dc9 pm9 cd9 ct9 : Value}
    (a9 : PySem.W.nsIn K mainGlobals "_law_stream" = some (some (.ref f9))) (l9 : K.lookup f9 = some ⟨oc9, od9, .func (PySem.W.fnOf "_law_stream" "_law_stream" (defArgs s__law_stream) (defBody s__law_stream) (defScope s__law_stream) .none kV9 dc9 pm9 an9 cd9 ct9), sl9⟩) (c9 : PySem.W.codeIn K cd9 "_law_stream" = true) (k9 : PySem.W.keepIn K (.ref f9) = true)
    {f10 : Addr} {od10 an10 : Option Addr} {sl10 : Array (Option Value)} {oc10 kV10 dc10 pm10 cd10 ct10 : Value}
    (a10 : PySem.W.nsIn K mainGlobals "is_choice" = some (some (.ref f10))) (l10 : K.lookup f10 = some ⟨oc10, od10, .func (PySem.W.fnOf "is_choice" "is_choice" (defArgs s_is_choice) (defBody s_is_choice) (defScope s_is_choice) .none kV10 dc10 pm10 an10 cd10 ct10), sl10⟩) (c10 : PySem.W.codeIn K cd10 "is_choice" = true) (k10 : PySem.W.keepIn K (.ref f10) = true)
    {f11 : Addr} {od11 an11 : Option Addr} {sl11 : Array (Option Value)} {oc11 kV11 dc11 pm11 cd11 ct11 : Value}
    (a11 : PySem.W.nsIn K mainGlobals "put_in" = some (some (.ref f11))) (l11 : K.lookup f11 = some ⟨oc11, od11, .func (PySem.W.fnOf "put_in" "put_in" (defArgs s_put_in) (defBody s_put_in) (defScope s_put_in) .none kV11 dc11 pm11 an11 cd11 ct11), sl11⟩) (c11 : PySem.W.codeIn K cd11 "put_in" = true) (k11 : PySem.W.keepIn K (.ref f11) = true)
    {f12 : Addr} {od12 an12 : Option Addr} {sl12 : Array (Option Value)} {oc12 kV12 dc12 pm12 cd12 ct12 : Value}
    (a12 : PySem.W.nsIn K mainGlobals "law" = some (some (.ref f12))) (l12 : K.lookup f12 = some ⟨oc12, od12, .func (PySem.W.fnOf "law" "law" (defArgs s_law) (defBody s_law) (defScope s_law) .none kV12 dc12 pm12 an12 cd12 ct12), sl12⟩) (c12 : PySem.W.codeIn K cd12 "law" = true) (k12 : PySem.W.keepIn K (.ref f12) = true)
    (z0 : PySem.W.nsIn K mainGlobals "bool" = some none)
    (z1 : PySem.W.nsIn K mainGlobals "int" = some none)
    (z2 : PySem.W.nsIn K mainGlobals "isinstance" = some none)
    (z3 : PySem.W.nsIn K mainGlobals "len" = some none)
    (z4 : PySem.W.nsIn K mainGlobals "list" = some none)
    (z5 : PySem.W.nsIn K mainGlobals "min" = some none)
    (z6 : PySem.W.nsIn K mainGlobals "range" = some none)
    (z7 : PySem.W.nsIn K mainGlobals "repr" = some none)
    (z8 : PySem.W.nsIn K mainGlobals "zip" = some none)
    : LawGo P w K mg fa 63 := by
  have e := hfa.symm.trans (PySem.W.mg_of X G a12)
  cases e
  have b_bool := PySem.W.mg_none_of X G z0
  have b_int := PySem.W.mg_none_of X G z1
  have b_isinstance := PySem.W.mg_none_of X G z2
  have b_len := PySem.W.mg_none_of X G z3
  have b_list := PySem.W.mg_none_of X G z4
  have b_min := PySem.W.mg_none_of X G z5
  have b_range := PySem.W.mg_none_of X G z6
  have b_repr := PySem.W.mg_none_of X G z7
  have b_zip := PySem.W.mg_none_of X G z8
  have H__law_pick := here__law_pick X G a0 l0 c0 k0
  have H__law_choice := here__law_choice X G a1 l1 c1 k1
  have H__law_amount := here__law_amount X G a2 l2 c2 k2
  have H__law_arcs := here__law_arcs X G a3 l3 c3 k3
  have H__law_flat := here__law_flat X G a4 l4 c4 k4
  have H__law_is_choice := here__law_is_choice X G a5 l5 c5 k5
  have H__law_put_in := here__law_put_in X G a6 l6 c6 k6
  have H__law_same := here__law_same X G a7 l7 c7 k7
  have H__law_pool := here__law_pool X G a8 l8 c8 k8
  have H__law_stream := here__law_stream X G a9 l9 c9 k9
  have H_is_choice := here_is_choice X G a10 l10 c10 k10
  have H_put_in := here_put_in X G a11 l11 c11 k11
  refine law_go (k := 3) (n := 11) (ps := ["_law_script"]) (fun_mk (st := s_law) l12 c12 k12) sc_law rfl rfl (fun s v => .of_eq rfl) ⟨rfl, by decide, by decide⟩ (m := m_law) law_ok fun base _ _ X R hG l => ?_
  have D__law_pick := fun n => (k__law_pick (P := P) (w := w) (base := base) (T := []) H__law_pick b_int b_len n).imp (spI_imp (pick_ok n))
  have D__law_choice := fun n => k__law_choice (P := P) (w := w) (base := base) (T := []) H__law_choice D__law_pick b_len n
  have D__law_amount := fun n => k__law_amount (P := P) (w := w) (base := base) (T := []) H__law_amount D__law_pick b_int n
  have D__law_arcs := fun n => k__law_arcs (P := P) (w := w) (base := base) (T := []) H__law_arcs D__law_pick b_range n
  have D__law_flat := fun n => k__law_flat (P := P) (w := w) (base := base) (T := []) H__law_flat D__law_amount D__law_arcs D__law_pick b_range n
  have D__law_is_choice := k__law_is_choice (P := P) (w := w) (base := base) (T := []) H__law_is_choice b_bool b_int b_isinstance b_len b_list b_range
  have D__law_put_in := k__law_put_in (P := P) (w := w) (base := base) (T := []) H__law_put_in b_len b_range
  have D__law_same := k__law_same (P := P) (w := w) (base := base) (T := []) H__law_same
  have D__law_pool := k__law_pool (P := P) (w := w) (base := base) (T := []) H__law_pool b_int b_len b_min b_range
  have D__law_stream := k__law_stream (P := P) (w := w) (base := base) (T := []) H__law_stream D__law_pool
  have D_is_choice := k_is_choice (P := P) (w := w) (base := base) (T := []) H_is_choice b_len b_zip
  have D_put_in := k_put_in (P := P) (w := w) (base := base) (T := []) H_put_in b_list b_zip
  exact d_law (R.cok ck_law) (fun n => R.d (D__law_choice n) (by decide)) (fun n => R.d (D__law_flat n) (by decide)) (R.d D__law_is_choice (by decide)) (fun n => R.d (D__law_pick n) (by decide)) (R.d D__law_put_in (by decide)) (R.d D__law_same (by decide)) (by have z := R.d D__law_stream (by decide); rw [← R.K] at z; exact z) (R.g D_is_choice (by decide)) (R.g D_put_in (by decide)) (R.no b_isinstance) (R.no b_len) (R.no b_list) (R.no b_range) (R.no b_repr) hG l
end Pr
open PySem PySem.W PyProof.Rows
set_option maxHeartbeats 0 in
theorem PySem.Challenge.cw_circlesettle_k81_choices_put_in_holds : PySem.Challenge.rw_circlesettle_k81_choices_put_in.Holds := by
  w_on; o_law; k_head; (case hw => w_witness2)
  k_fill
  refine Dv.walkA (most := 63) rfl (by decide) rfl (fun w h Y => PySem.W.kIn_of Y) ?F
  case F =>
    intro w mg fa h KX G hmg
    refine' Pr.all_mk KX G hmg ?a0 ?l0 ?c0 ?k0 ?a1 ?l1 ?c1 ?k1 ?a2 ?l2 ?c2 ?k2 ?a3 ?l3 ?c3 ?k3 ?a4 ?l4 ?c4 ?k4 ?a5 ?l5 ?c5 ?k5 ?a6 ?l6 ?c6 ?k6 ?a7 ?l7 ?c7 ?k7 ?a8 ?l8 ?c8 ?k8 ?a9 ?l9 ?c9 ?k9 ?a10 ?l10 ?c10 ?k10 ?a11 ?l11 ?c11 ?k11 ?a12 ?l12 ?c12 ?k12 ?z0 ?z1 ?z2 ?z3 ?z4 ?z5 ?z6 ?z7 ?z8
    (case a0 => k_is); (case l0 => k_is); (case c0 => k_is); (case k0 => k_is); (case a1 => k_is); (case l1 => k_is); (case c1 => k_is); (case k1 => k_is); (case a2 => k_is); (case l2 => k_is); (case c2 => k_is); (case k2 => k_is); (case a3 => k_is); (case l3 => k_is); (case c3 => k_is); (case k3 => k_is); (case a4 => k_is); (case l4 => k_is); (case c4 => k_is); (case k4 => k_is); (case a5 => k_is); (case l5 => k_is); (case c5 => k_is); (case k5 => k_is); (case a6 => k_is); (case l6 => k_is); (case c6 => k_is); (case k6 => k_is); (case a7 => k_is); (case l7 => k_is); (case c7 => k_is); (case k7 => k_is); (case a8 => k_is); (case l8 => k_is); (case c8 => k_is); (case k8 => k_is); (case a9 => k_is); (case l9 => k_is); (case c9 => k_is); (case k9 => k_is); (case a10 => k_is); (case l10 => k_is); (case c10 => k_is); (case k10 => k_is); (case a11 => k_is); (case l11 => k_is); (case c11 => k_is); (case k11 => k_is); (case a12 => k_is); (case l12 => k_is); (case c12 => k_is); (case k12 => k_is)
    (case z0 => k_is); (case z1 => k_is); (case z2 => k_is); (case z3 => k_is); (case z4 => k_is); (case z5 => k_is); (case z6 => k_is); (case z7 => k_is); (case z8 => k_is)
end
