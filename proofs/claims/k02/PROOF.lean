import PyProof.Rows.All
import Wide.All
import OpenK.AllK
import Wide.FinOn
import HandS.ForMost
import HandS.ForExc
import HandS.Evl
import HandS.Walk
import HandS.Zip
import HandS.Deep
import HandS.IsInst
import HandS.ExcCtx
import HandS.HotCalls
import HandS.ExcIs
import HandS.Sort
import HandS.SortRule
import HandS.SortInts
import HandS.Style
import HandS.TryMany
import HandS.Rev
import KE.KDictList
import KE.KDictKeyed
import KE.RegKIsAll
import PySem.Challenge.RW_markcounts_k02_counts_known
set_option Elab.async false
set_option linter.all false
set_option maxRecDepth 100000
set_option maxHeartbeats 2000000

/-! A typed layer over the readings: R says how a Lean datum stands in the heap, EV what an expression's reading comes to. -/
namespace MK
open PySem L2 Evl

abbrev St := L2.St

def isSeq : HO → Bool
  | .lst _ => true
  | .tup _ => true
  | _ => false
/-- all lists and tuples are kept -/
def Sx (H H' : Hp) : Prop := ∀ a o, isSeq o = true → H a = some o → H' a = some o
theorem Sx.of {H H' : Hp} (e : Ex H H') : Sx H H' := fun a o _ h => e a o h
theorem Sx.refl (H : Hp) : Sx H H := fun _ _ _ h => h
theorem Sx.trans {H H1 H2 : Hp} (a : Sx H H1) (b : Sx H1 H2) : Sx H H2 := fun x o s h => b x o s (a x o s h)
theorem Sx.l {H H' : Hp} {a : Addr} {vs : List V} (e : Sx H H') (h : H a = some (.lst vs)) : H' a = some (.lst vs) := e a _ rfl h
theorem Sx.t {H H' : Hp} {a : Addr} {vs : List V} (e : Sx H H') (h : H a = some (.tup vs)) : H' a = some (.tup vs) := e a _ rfl h

/-! ### data and how they stand -/
structure R (α : Type) where
  p : Hp → V → α → Prop
  st : ∀ {H H' : Hp} {v : V} {x : α}, Sx H H' → p H v x → p H' v x
  enc : α → PyData
  dp : ∀ {K : PySem.W.Frag} {H : Hp} {v : V} {x : α}, p H v x → Dp K H v (enc x)
  inj : ∀ x y : α, PyData.eqv (enc x) (enc y) = true ↔ x = y
  lay : ∀ x, (enc x).canLay0 = true
  d : Nat
  dpt : ∀ x, (enc x).depth ≤ d

theorem paired_imp {α β : Type} {F G : α → β → Prop} (h : ∀ a b, F a b → G a b) : ∀ {l : List α} {m : List β}, Paired F l m → Paired G l m
  | _, _, .nil => .nil
  | _, _, .cons a t => .cons (h _ _ a) (paired_imp h t)
theorem paired_len {α β : Type} {F : α → β → Prop} : ∀ {l : List α} {m : List β}, Paired F l m → l.length = m.length
  | _, _, .nil => rfl
  | _, _, .cons _ t => by rw [List.length_cons, List.length_cons, paired_len t]
theorem paired_app {α β : Type} {F : α → β → Prop} : ∀ {l l' : List α} {m m' : List β}, Paired F l m → Paired F l' m' → Paired F (l ++ l') (m ++ m')
  | _, _, _, _, .nil, s => s
  | _, _, _, _, .cons a t, s => .cons a (paired_app t s)
theorem paired_get {α β : Type} {F : α → β → Prop} : ∀ {l : List α} {m : List β} {i : Nat} {y : β}, Paired F l m → m[i]? = some y → ∃ x, l[i]? = some x ∧ F x y
  | _, _, _, _, .nil, h => by simp at h
  | _, _, 0, y, .cons a t, h => by
    simp only [List.getElem?_cons_zero, Option.some.injEq] at h
    subst h
    exact ⟨_, rfl, a⟩
  | _, _, i + 1, y, .cons a t, h => by
    simp only [List.getElem?_cons_succ] at h ⊢
    exact paired_get t h
theorem paired_getL {α β : Type} {F : α → β → Prop} : ∀ {l : List α} {m : List β} {i : Nat} {x : α}, Paired F l m → l[i]? = some x → ∃ y, m[i]? = some y ∧ F x y
  | _, _, _, _, .nil, h => by simp at h
  | _, _, 0, y, .cons a t, h => by
    simp only [List.getElem?_cons_zero, Option.some.injEq] at h
    subst h
    exact ⟨_, rfl, a⟩
  | _, _, i + 1, y, .cons a t, h => by
    simp only [List.getElem?_cons_succ] at h ⊢
    exact paired_getL t h
theorem paired_take {α β : Type} {F : α → β → Prop} : ∀ (n : Nat) {l : List α} {m : List β}, Paired F l m → Paired F (l.take n) (m.take n)
  | 0, _, _, _ => by simp only [List.take_zero]; exact .nil
  | n + 1, _, _, .nil => .nil
  | n + 1, _, _, .cons a t => .cons a (paired_take n t)
theorem paired_drop {α β : Type} {F : α → β → Prop} : ∀ (n : Nat) {l : List α} {m : List β}, Paired F l m → Paired F (l.drop n) (m.drop n)
  | 0, _, _, h => h
  | n + 1, _, _, .nil => .nil
  | n + 1, _, _, .cons a t => paired_drop n t
theorem paired_set {α β : Type} {F : α → β → Prop} {x : α} {y : β} (h : F x y) : ∀ (n : Nat) {l : List α} {m : List β}, Paired F l m → Paired F (l.set n x) (m.set n y)
  | _, _, _, .nil => .nil
  | 0, _, _, .cons _ t => .cons h t
  | n + 1, _, _, .cons a t => .cons a (paired_set h n t)
theorem paired_rev {α β : Type} {F : α → β → Prop} : ∀ {l : List α} {m : List β}, Paired F l m → Paired F l.reverse m.reverse
  | _, _, .nil => .nil
  | _, _, .cons a t => by
    rw [List.reverse_cons, List.reverse_cons]
    exact paired_app (paired_rev t) (.cons a .nil)

def int : R Int where
  p := fun _ v i => v = .int i
  st := fun _ h => h
  enc := .int
  dp := fun h => by cases h; exact .int _
  inj := fun x y => by simp [PyData.eqv]
  lay := fun x => by simp [PyData.canLay0]
  d := 0
  dpt := fun x => by simp [PyData.depth]
def bl : R Bool where
  p := fun _ v i => v = .bl i
  st := fun _ h => h
  enc := .bool
  dp := fun h => by cases h; exact .bl _
  inj := fun x y => by simp [PyData.eqv]
  lay := fun x => by simp [PyData.canLay0]
  d := 0
  dpt := fun x => by simp [PyData.depth]

theorem dpAll_of {α : Type} (r : R α) {K : PySem.W.Frag} {H : Hp} : ∀ {vs : List V} {xs : List α}, Paired (r.p H) vs xs → DpAll K H vs (xs.map r.enc)
  | _, _, .nil => .nil
  | _, _, .cons a t => .cons (r.dp a) (dpAll_of r t)
theorem eqvAll_inj {α : Type} (r : R α) : ∀ xs ys : List α, PyData.eqvAll (xs.map r.enc) (ys.map r.enc) = true ↔ xs = ys
  | [], [] => by simp [PyData.eqvAll]
  | [], y :: ys => by simp [PyData.eqvAll]
  | x :: xs, [] => by simp [PyData.eqvAll]
  | x :: xs, y :: ys => by
    simp only [List.map_cons, PyData.eqvAll, Bool.and_eq_true, r.inj, eqvAll_inj r xs ys, List.cons.injEq]
theorem layAll_of {α : Type} (r : R α) : ∀ xs : List α, PyData.canLayAll0 (xs.map r.enc) = true
  | [] => by simp [PyData.canLayAll0]
  | x :: xs => by simp only [List.map_cons, PyData.canLayAll0, Bool.and_eq_true]; exact ⟨r.lay x, layAll_of r xs⟩
theorem depthAll_of {α : Type} (r : R α) : ∀ xs : List α, PyData.depthAll (xs.map r.enc) ≤ r.d
  | [] => by simp [PyData.depthAll]
  | x :: xs => by
    have h1 := r.dpt x
    have h2 := depthAll_of r xs
    simp only [List.map_cons, PyData.depthAll]
    omega
def lst {α : Type} (r : R α) : R (List α) where
  p := fun H v xs => ∃ a vs, v = .ref a ∧ H a = some (.lst vs) ∧ Paired (r.p H) vs xs
  st := fun e ⟨a, vs, h1, h2, h3⟩ => ⟨a, vs, h1, e.l h2, paired_imp (fun _ _ h => r.st e h) h3⟩
  enc := fun xs => .list (xs.map r.enc)
  dp := fun ⟨a, vs, h1, h2, h3⟩ => by subst h1; exact .lst (SqL.of h2) (dpAll_of r h3)
  inj := fun x y => by simp only [PyData.eqv]; exact eqvAll_inj r x y
  lay := fun x => by simp only [PyData.canLay0]; exact layAll_of r x
  d := r.d + 1
  dpt := fun x => by simp only [PyData.depth]; have := depthAll_of r x; omega
/-- a pair -/
def pr {α β : Type} (r : R α) (q : R β) : R (α × β) where
  p := fun H v x => ∃ a v1 v2, v = .ref a ∧ H a = some (.tup [v1, v2]) ∧ r.p H v1 x.1 ∧ q.p H v2 x.2
  st := fun e ⟨a, v1, v2, h1, h2, h3, h4⟩ => ⟨a, v1, v2, h1, e.t h2, r.st e h3, q.st e h4⟩
  enc := fun x => .tuple [r.enc x.1, q.enc x.2]
  dp := fun ⟨a, v1, v2, h1, h2, h3, h4⟩ => by subst h1; exact .tup (SqT.of h2) (.cons (r.dp h3) (.cons (q.dp h4) .nil))
  inj := fun x y => by
    obtain ⟨x1, x2⟩ := x
    obtain ⟨y1, y2⟩ := y
    simp only [PyData.eqv, PyData.eqvAll, Bool.and_eq_true, r.inj, q.inj, Prod.mk.injEq, Bool.and_true, and_true]
  lay := fun x => by simp only [PyData.canLay0, PyData.canLayAll0, Bool.and_eq_true, r.lay, q.lay, and_true]
  d := max r.d q.d + 1
  dpt := fun x => by simp only [PyData.depth, PyData.depthAll]; have := r.dpt x.1; have := q.dpt x.2; omega
/-- four of a kind -/
def qd {α : Type} (r : R α) : R (α × α × α × α) where
  p := fun H v x => ∃ a v1 v2 v3 v4, v = .ref a ∧ H a = some (.tup [v1, v2, v3, v4]) ∧ r.p H v1 x.1 ∧ r.p H v2 x.2.1 ∧ r.p H v3 x.2.2.1 ∧ r.p H v4 x.2.2.2
  st := fun e ⟨a, v1, v2, v3, v4, h1, h2, h3, h4, h5, h6⟩ => ⟨a, v1, v2, v3, v4, h1, e.t h2, r.st e h3, r.st e h4, r.st e h5, r.st e h6⟩
  enc := fun x => .tuple [r.enc x.1, r.enc x.2.1, r.enc x.2.2.1, r.enc x.2.2.2]
  dp := fun ⟨a, v1, v2, v3, v4, h1, h2, h3, h4, h5, h6⟩ => by subst h1; exact .tup (SqT.of h2) (.cons (r.dp h3) (.cons (r.dp h4) (.cons (r.dp h5) (.cons (r.dp h6) .nil))))
  inj := fun x y => by
    obtain ⟨x1, x2, x3, x4⟩ := x
    obtain ⟨y1, y2, y3, y4⟩ := y
    simp only [PyData.eqv, PyData.eqvAll, Bool.and_eq_true, r.inj, Prod.mk.injEq, Bool.and_true, and_true]
  lay := fun x => by simp only [PyData.canLay0, PyData.canLayAll0, Bool.and_eq_true, r.lay, and_true]
  d := r.d + 1
  dpt := fun x => by simp only [PyData.depth, PyData.depthAll]; have := r.dpt x.1; have := r.dpt x.2.1; have := r.dpt x.2.2.1; have := r.dpt x.2.2.2; omega
abbrev il : R (List Int) := lst int
abbrev bd : R (List (List Int)) := lst (lst int)
theorem R.stE {α : Type} (r : R α) {H H' : Hp} {v : V} {x : α} (e : Ex H H') (h : r.p H v x) : r.p H' v x := r.st (Sx.of e) h
theorem paired_int {H : Hp} : ∀ {vs : List V} {ns : List Int}, Paired (int.p H) vs ns → vs = ns.map V.int
  | _, _, .nil => rfl
  | _, _, .cons a t => by
    have e := paired_int t
    subst e
    cases a
    rfl
theorem paired_ints (H : Hp) : ∀ ns : List Int, Paired (int.p H) (ns.map V.int) ns
  | [] => .nil
  | n :: ns => .cons rfl (paired_ints H ns)
theorem il_of {H : Hp} {a : Addr} {ns : List Int} (h : H a = some (.lst (ns.map V.int))) : il.p H (.ref a) ns := ⟨a, _, rfl, h, paired_ints H ns⟩
theorem il_at {H : Hp} {v : V} {ns : List Int} (h : il.p H v ns) : ∃ a, v = .ref a ∧ H a = some (.lst (ns.map V.int)) := by
  obtain ⟨a, vs, h1, h2, h3⟩ := h
  rw [paired_int h3] at h2
  exact ⟨a, h1, h2⟩
theorem paired_bl {H : Hp} : ∀ {vs : List V} {ns : List Bool}, Paired (bl.p H) vs ns → vs = ns.map V.bl
  | _, _, .nil => rfl
  | _, _, .cons a t => by
    have e := paired_bl t
    subst e
    cases a
    rfl

/-! ### what an expression's reading comes to: B is the part of the heap that is known to stay, H the heap -/
/-- behind H: what was known, and what is new -/
def res (B H H' : Hp) : Hp := fun a => match H a with
  | some _ => B a
  | none => H' a
theorem res_none {B H H' : Hp} {a : Addr} (h : H a = none) : res B H H' a = H' a := by unfold res; rw [h]
theorem res_some {B H H' : Hp} {a : Addr} {o : HO} (h : H a = some o) : res B H H' a = B a := by unfold res; rw [h]
theorem res_base {B H H' : Hp} (e : Ex B H) : Ex B (res B H H') := fun a o h => by rw [res_some (e a o h)]; exact h
theorem res_sub {B H H' : Hp} (e : Ex B H) (e1 : Ex H H') : Ex (res B H H') H' := fun a o h => by
  cases q : H a with
  | none => rw [res_none q] at h; exact h
  | some u => rw [res_some q] at h; exact e1 a o (e a o h)
theorem res_trans {B H H1 H2 : Hp} (e1 : Ex H H1) (e2 : Ex H1 H2) : res (res B H H1) H1 H2 = res B H H2 := by
  funext a
  cases q : H1 a with
  | none => rw [res_none q, res_none (fresh_back e1 q)]
  | some o =>
    rw [res_some q]
    cases q0 : H a with
    | none => rw [res_none q0, res_none q0, q, e2 a o q]
    | some u => rw [res_some q0, res_some q0]
theorem res_mono {B B1 H H' : Hp} (e : Ex B B1) : Ex (res B H H') (res B1 H H') := fun a o h => by
  cases q : H a with
  | none => rw [res_none q] at h ⊢; exact h
  | some u => rw [res_some q] at h ⊢; exact e a o h
theorem res_self {B H : Hp} (e : Ex B H) : Ex (res B H H) B := fun a o h => by
  cases q : H a with
  | none => rw [res_none q, q] at h; cases h
  | some u => rw [res_some q] at h; exact h
/-- from B, H to B', H' -/
structure Nw (B H B' H' : Hp) : Prop where
  bb : Ex B B'
  bh : Ex B' H'
  hh : Ex H H'
  fr : ∀ a, H a ≠ none → B' a = B a
theorem nw_res {B H H' : Hp} (e : Ex B H) (e1 : Ex H H') : Nw B H (res B H H') H' := ⟨res_base e, res_sub e e1, e1, fun a h => by
  cases q : H a with
  | none => exact absurd q h
  | some u => exact res_some q⟩
theorem Nw.refl {B H : Hp} (e : Ex B H) : Nw B H B H := ⟨Ex.refl _, e, Ex.refl _, fun _ _ => rfl⟩
theorem Nw.trans {B H B1 H1 B2 H2 : Hp} (a : Nw B H B1 H1) (b : Nw B1 H1 B2 H2) : Nw B H B2 H2 := ⟨a.bb.trans b.bb, b.bh, a.hh.trans b.hh, fun x h => by
  rw [← a.fr x h]
  refine b.fr x fun q => ?_
  exact h (fresh_back a.hh q)⟩
theorem Nw.new {B H : Hp} {p : Addr} {o : HO} (e : Ex B H) (h : H p = none) : Nw B H (upd B p o) (upd H p o) := ⟨Ex.new (fresh_back e h), fun a u q => by
  by_cases ha : a = p
  · subst ha; rw [upd_same] at q ⊢; exact q
  · rw [upd_ne ha] at q ⊢; exact e a u q, Ex.new h, fun a q => by
  have ha : a ≠ p := fun z => by subst z; exact q h
  rw [upd_ne ha]⟩
/-- into the canonical form -/
theorem Nw.res {B H B' H' : Hp} (n : Nw B H B' H') : Ex B' (MK.res B H H') := fun a o h => by
  cases q : H a with
  | none => rw [res_none q]; exact n.bh a o h
  | some u =>
    rw [res_some q]
    rw [n.fr a (by rw [q]; intro z; cases z)] at h
    exact h
theorem Nw.ne {B H B' H' : Hp} (n : Nw B H B' H') {a : Addr} (h : H a ≠ none) (hb : B a = none) : B' a = none := by rw [n.fr a h]; exact hb

/-- what is told of a value: of the heap ahead, the known part behind -/
structure Po where
  P : Hp → Hp → V → Prop
  up : ∀ {H B B' : Hp} {v : V}, Ex B B' → P H B v → P H B' v
  dn : ∀ {H H' B : Hp} {v : V}, Ex H H' → P H' B v → P H B v
def EV (te : TE) (σ : St) (B : Hp) (P : Po) : Prop := ∀ H, Ex B H → ∀ Q : VK, (∀ v H', Ex H H' → P.P H (res B H H') v → Q v H') → te σ H Q
def poR {α : Type} (r : R α) (x : α) : Po := ⟨fun _ B v => r.p B v x, fun e h => r.stE e h, fun _ h => h⟩
/-- a new list of data -/
def poL {α : Type} (r : R α) (xs : List α) : Po where
  P := fun H B v => ∃ a vs B0, v = .ref a ∧ H a = none ∧ B0 a = none ∧ B = upd B0 a (.lst vs) ∧ Paired (r.p B0) vs xs
  up := fun {H B B' v} e ⟨a, vs, B0, h1, h2, h3, h4, h5⟩ => by
    subst h4
    have ha : B' a = some (.lst vs) := e a _ upd_same
    refine ⟨a, vs, fun b => if b = a then none else B' b, h1, h2, if_pos rfl, ?_, paired_imp (fun _ _ h => r.stE (fun b o q => ?_) h) h5⟩
    · funext b
      by_cases hb : b = a
      · subst hb; rw [upd_same, ha]
      · rw [upd_ne hb, if_neg hb]
    · have hb : b ≠ a := fun z => by rw [z, h3] at q; cases q
      rw [if_neg hb]
      exact e b o (by rw [upd_ne hb]; exact q)
  dn := fun e ⟨a, vs, B0, h1, h2, h3⟩ => ⟨a, vs, B0, h1, fresh_back e h2, h3⟩
abbrev EVr {α : Type} (te : TE) (σ : St) (B : Hp) (r : R α) (x : α) : Prop := EV te σ B (poR r x)
abbrev EVn {α : Type} (te : TE) (σ : St) (B : Hp) (r : R α) (xs : List α) : Prop := EV te σ B (poL r xs)
abbrev EVT (tt : TT) (σ : St) (H : Hp) (b : Bool) : Prop := Evl.EvT tt σ H b
theorem poL_lst {α : Type} {r : R α} {xs : List α} {H B : Hp} {v : V} (h : (poL r xs).P H B v) : (lst r).p B v xs := by
  obtain ⟨a, vs, B0, h1, h2, h3, h4, h5⟩ := h
  subst h4
  exact ⟨a, vs, h1, upd_same, paired_imp (fun _ _ h => r.stE (Ex.new h3) h) h5⟩

section
variable {α β γ : Type} {r : R α} {q : R β} {x : α} {y : β} {σ : St} {B B' : Hp} {ta tb tc te : TE} {P P' : Po} {b c : Bool} {i j z : Int} {K : PySem.W.Frag}
theorem EV.imp (h : EV te σ B P) (k : ∀ H B' v, Ex B H → P.P H B' v → P'.P H B' v) : EV te σ B P' := fun H e Q q => h H e Q fun v H2 e2 p => q v H2 e2 (k H _ v e p)
theorem EV.mono (e : Ex B B') (h : EV te σ B P) : EV te σ B' P := fun H e1 Q q => h H (e.trans e1) Q fun v H2 e2 p => q v H2 e2 (P.up (res_mono e) p)
theorem EV.of_n {xs : List α} (h : EVn te σ B r xs) : EVr te σ B (lst r) xs := h.imp fun _ _ _ _ p => poL_lst p
theorem EV.eq {x' : α} (h : EVr te σ B r x) (e : x = x') : EVr te σ B r x' := by
  subst e
  exact h
theorem EV.eqn {x x' : List α} (h : EVn te σ B r x) (e : x = x') : EVn te σ B r x' := by
  subst e
  exact h
/-- one after another: b's base is what a left -/
theorem EV.run (h : EV te σ B P) {H : Hp} (e : Ex B H) {Q : VK} (k : ∀ v B1 H1, Nw B H B1 H1 → P.P H B1 v → Q v H1) : te σ H Q := h H e Q fun v H' e' p => k v _ H' (nw_res e e') p
/-- the way back: shown from any step -/
theorem EV.of (h : ∀ H, Ex B H → ∀ Q : VK, (∀ v B1 H1, Nw B H B1 H1 → P.P H B1 v → Q v H1) → te σ H Q) : EV te σ B P := fun H e Q k => h H e Q fun v _ H1 n p => k v H1 n.hh (P.up n.res p)
theorem ev_var {i : Nat} {v : V} (h : σ[i]? = some (some v)) (hr : r.p B v x) : EVr (tVar i) σ B r x := EV.of fun H e Q k => ⟨v, h, k v B H (Nw.refl e) hr⟩
/-- for the tactic: no reading of a text -/
def tDummy : TE := fun _ _ _ => False
theorem ev_dummy (h : EVr tDummy σ B r x) : EVr tDummy σ B r x := h
theorem ev_varI {i : Nat} (h : σ[i]? = some (some (.int z))) : EVr (tVar i) σ B int z := ev_var h rfl
theorem ev_varB {i : Nat} (h : σ[i]? = some (some (.bl b))) : EVr (tVar i) σ B bl b := ev_var h rfl
theorem ev_int : EVr (tC (.int z)) σ B int z := EV.of fun H e Q k => k _ B H (Nw.refl e) rfl
theorem ev_bl : EVr (tC (.bl b)) σ B bl b := EV.of fun H e Q k => k _ B H (Nw.refl e) rfl
/-- two readings in a row -/
theorem ev_two {f : R2} (ha : EVr ta σ B r x) (hb : EVr tb σ B q y) (hf : ∀ B1 H1 v w, Ex B1 H1 → r.p B1 v x → q.p B1 w y → ∀ Q : VK, (∀ u B2 H2, Nw B1 H1 B2 H2 → P.P H1 B2 u → Q u H2) → f v w H1 Q) : EV (tOp f ta tb) σ B P :=
  EV.of fun H e Q k => ha.run e fun v B1 H1 n1 hv => (hb.mono n1.bb).run n1.bh fun w B2 H2 n2 hw => hf B2 H2 v w n2.bh (r.stE n2.bb hv) hw Q fun u B3 H3 n3 hu => k u B3 H3 ((n1.trans n2).trans n3) (P.dn (n1.hh.trans n2.hh) hu)
theorem ev_ii {g : Int → Int → V} (ha : EVr ta σ B int i) (hb : EVr tb σ B int j) (e : g i j = .int z) : EVr (tOp (rI0 g) ta tb) σ B int z :=
  ev_two ha hb fun B1 H1 v w e1 hv hw Q k => by cases hv; cases hw; exact ⟨i, j, rfl, rfl, by rw [e]; exact k _ _ H1 (Nw.refl e1) rfl⟩
theorem ev_iic {C : Int → Int → Prop} {g : Int → Int → V} (ha : EVr ta σ B int i) (hb : EVr tb σ B int j) (hc : C i j) (e : g i j = .int z) : EVr (tOp (rI C g) ta tb) σ B int z :=
  ev_two ha hb fun B1 H1 v w e1 hv hw Q k => by cases hv; cases hw; exact ⟨i, j, rfl, rfl, hc, by rw [e]; exact k _ _ H1 (Nw.refl e1) rfl⟩
theorem ev_iib {g : Int → Int → V} (ha : EVr ta σ B int i) (hb : EVr tb σ B int j) (e : g i j = .bl b) : EVr (tOp (rI0 g) ta tb) σ B bl b :=
  ev_two ha hb fun B1 H1 v w e1 hv hw Q k => by cases hv; cases hw; exact ⟨i, j, rfl, rfl, by rw [e]; exact k _ _ H1 (Nw.refl e1) rfl⟩
theorem ev_eqI (ha : EVr ta σ B int i) (hb : EVr tb σ B int j) : EVr (tOp rEq ta tb) σ B bl (decide (i = j)) :=
  ev_two ha hb fun B1 H1 v w e1 hv hw Q k => by cases hv; cases hw; exact ⟨rfl, k _ _ H1 (Nw.refl e1) (by show _ = _; rw [dec_int, Bool.beq_eq_decide_eq])⟩
theorem ev_neI (ha : EVr ta σ B int i) (hb : EVr tb σ B int j) : EVr (tOp rNe ta tb) σ B bl (!decide (i = j)) :=
  ev_two ha hb fun B1 H1 v w e1 hv hw Q k => by cases hv; cases hw; exact ⟨rfl, k _ _ H1 (Nw.refl e1) (by show _ = _; rw [dec_int, Bool.beq_eq_decide_eq])⟩
theorem ev_eqB (ha : EVr ta σ B bl b) (hb : EVr tb σ B bl c) : EVr (tOp rEq ta tb) σ B bl (decide (b = c)) :=
  ev_two ha hb fun B1 H1 v w e1 hv hw Q k => by cases hv; cases hw; exact ⟨rfl, k _ _ H1 (Nw.refl e1) (by show _ = _; rw [dec_bl, Bool.beq_eq_decide_eq])⟩
theorem ev_neB (ha : EVr ta σ B bl b) (hb : EVr tb σ B bl c) : EVr (tOp rNe ta tb) σ B bl (!decide (b = c)) :=
  ev_two ha hb fun B1 H1 v w e1 hv hw Q k => by cases hv; cases hw; exact ⟨rfl, k _ _ H1 (Nw.refl e1) (by show _ = _; rw [dec_bl, Bool.beq_eq_decide_eq])⟩
theorem shaped_of (r : R α) (h : r.d ≤ 64) (x : α) : SeqAt.shaped (r.enc x) = true := by
  unfold SeqAt.shaped
  rw [r.lay x, decide_eq_true (Nat.le_trans (r.dpt x) h)]
  rfl
theorem eqv_dec (r : R α) [DecidableEq α] (x y : α) : PyData.eqv (r.enc x) (r.enc y) = decide (x = y) := by
  by_cases e : x = y
  · rw [decide_eq_true e]; exact (r.inj x y).mpr e
  · rw [decide_eq_false e]
    cases h : PyData.eqv (r.enc x) (r.enc y) with
    | false => rfl
    | true => exact absurd ((r.inj x y).mp h) e
theorem ev_eqD [DecidableEq α] {y : α} (ha : EVr ta σ B r x) (hb : EVr tb σ B r y) (hd : r.d ≤ 64) : EVr (tOp (rEqD K) ta tb) σ B bl (decide (x = y)) :=
  ev_two ha hb fun B1 H1 v w e1 hv hw Q k => ⟨_, _, r.dp (r.stE e1 hv), r.dp (r.stE e1 hw), shaped_of r hd x, shaped_of r hd y, k _ _ H1 (Nw.refl e1) (by show _ = _; rw [eqv_dec])⟩
theorem ev_neD [DecidableEq α] {y : α} (ha : EVr ta σ B r x) (hb : EVr tb σ B r y) (hd : r.d ≤ 64) : EVr (tOp (rNeD K) ta tb) σ B bl (!decide (x = y)) :=
  ev_two ha hb fun B1 H1 v w e1 hv hw Q k => ⟨_, _, r.dp (r.stE e1 hv), r.dp (r.stE e1 hw), shaped_of r hd x, shaped_of r hd y, k _ _ H1 (Nw.refl e1) (by show _ = _; rw [eqv_dec])⟩
/-- xs[i] -/
theorem at_paired {F : V → α → Prop} {vs : List V} {xs : List α} {i : Int} {x : α} (hp : Paired F vs xs) (h : atI xs i = some x) : ∃ v, atI vs i = some v ∧ F v x := by
  unfold atI at h ⊢
  rw [paired_len hp]
  cases e : ixN xs.length i with
  | none => rw [e] at h; cases h
  | some j =>
    rw [e] at h
    exact paired_get hp h
theorem ev_ix {xs : List α} (ha : EVr ta σ B (lst r) xs) (hb : EVr tb σ B int i) (h : atI xs i = some x) : EVr (tOp (rIxL K) ta tb) σ B r x :=
  ev_two ha hb fun B1 H1 v w e1 hv hw Q k => by
    obtain ⟨a, vs, rfl, h2, h3⟩ := hv
    cases hw
    obtain ⟨u, hu, hr⟩ := at_paired h3 h
    exact ⟨a, vs, i, u, rfl, rfl, SqL.of (e1 _ _ h2), hu, k u _ H1 (Nw.refl e1) hr⟩
/-- a pair's item -/
theorem ev_fst (ha : EVr ta σ B (pr r q) (x, y)) (hb : EVr tb σ B int 0) : EVr (tOp (rIxT K) ta tb) σ B r x :=
  ev_two ha hb fun B1 H1 v w e1 hv hw Q k => by
    obtain ⟨a, v1, v2, rfl, h2, h3, h4⟩ := hv
    cases hw
    exact ⟨a, _, 0, v1, rfl, rfl, SqT.of (e1 _ _ h2), rfl, k v1 _ H1 (Nw.refl e1) h3⟩
theorem ev_snd (ha : EVr ta σ B (pr r q) (x, y)) (hb : EVr tb σ B int 1) : EVr (tOp (rIxT K) ta tb) σ B q y :=
  ev_two ha hb fun B1 H1 v w e1 hv hw Q k => by
    obtain ⟨a, v1, v2, rfl, h2, h3, h4⟩ := hv
    cases hw
    exact ⟨a, _, 1, v2, rfl, rfl, SqT.of (e1 _ _ h2), rfl, k v2 _ H1 (Nw.refl e1) h4⟩
/-- a new list comes -/
theorem new_list {B H : Hp} {vs : List V} {xs : List α} {Q : VK} (e : Ex B H) (h : Paired (r.p B) vs xs) (k : ∀ u B1 H1, Nw B H B1 H1 → (poL r xs).P H B1 u → Q u H1) {p : Addr} (hp : H p = none) : Q (.ref p) (upd H p (.lst vs)) :=
  k _ _ _ (Nw.new e hp) ⟨p, vs, B, rfl, hp, fresh_back e hp, rfl, h⟩
/-- xs + ys -/
theorem ev_cat {xs ys : List α} (ha : EVr ta σ B (lst r) xs) (hb : EVr tb σ B (lst r) ys) (hz : xs.length + ys.length ≤ 100000) : EVn (tOp rCat ta tb) σ B r (xs ++ ys) :=
  ev_two ha hb fun B1 H1 v w e1 hv hw Q k => by
    obtain ⟨a, vs, rfl, h2, h3⟩ := hv
    obtain ⟨a', vs', rfl, h2', h3'⟩ := hw
    exact ⟨a, a', vs, vs', rfl, rfl, e1 _ _ h2, e1 _ _ h2', sz_of (by rw [paired_len h3, paired_len h3']; exact hz), fun p hp => new_list e1 (paired_app h3 h3') k hp⟩
end
end MK

namespace MK
open PySem PySem.Spec PyProof.Rows L2 Evl
section
variable {α β γ : Type} {r : R α} {q : R β} {x : α} {y : β} {σ : St} {B B' : Hp} {ta tb tc td te : TE} {P P' : Po} {b c : Bool} {i j k z : Int} {K : PySem.W.Frag}

/-! ### tests -/
theorem t_test (h : EVr te σ B bl b) : EVT (tTest te) σ B b := fun H1 e Q q => h.run e fun v B1 H2 n hv => ⟨b, hv, q H2 n.hh⟩
theorem t_B (h : EVr te σ B bl b) : EVT (tB te) σ B b := fun H1 e Q q => h.run e fun v B1 H2 n hv => ⟨b, hv, q H2 n.hh⟩
def tDummyT : TT := fun _ _ _ => False
theorem t_dummy (h : EVT tDummyT σ B b) : EVT tDummyT σ B b := h
theorem t_eq {t : TT} (h : EVT t σ B b) (e : b = c) : EVT t σ B c := by
  subst e
  exact h
theorem t_mono {t : TT} (e : Ex B B') (h : EVT t σ B b) : EVT t σ B' b := fun H1 e1 Q q => h H1 (e.trans e1) Q q
theorem t_chain {g g' : Int → Int → V} (ha : EVr ta σ B int i) (hb : EVr tb σ B int j) (e : g i j = .bl b) (hc : b = true → EVr tc σ B int k) (e' : g' j k = .bl c) : EVT (tTest (tChain (rI0 g) (rI0 g') ta tb tc)) σ B (b && c) := fun H1 e1 Q q =>
  ha.run e1 fun v B2 H2 n2 hv => (hb.mono n2.bb).run n2.bh fun w B3 H3 n3 hw => by
    cases hv
    cases hw
    refine ⟨i, j, rfl, rfl, b, e, ?_⟩
    cases b with
    | false => exact iteF ⟨false, rfl, q H3 (n2.hh.trans n3.hh)⟩
    | true => exact iteT (((hc rfl).mono (n2.bb.trans n3.bb)).run n3.bh fun u B4 H4 n4 hu => by
        cases hu
        exact ⟨j, k, rfl, rfl, c, e', q H4 ((n2.hh.trans n3.hh).trans n4.hh)⟩)
/-- three comparisons of ints in a row -/
def tCh3 (g1 g2 g3 : Int → Int → Bool) (ta tb tc td : TE) : TT := fun σ H Q => ta σ H fun x H1 => tb σ H1 fun y H2 => ∃ i j, x = .int i ∧ y = .int j ∧
  if g1 i j = true then tc σ H2 fun z H3 => ∃ k, z = .int k ∧ if g2 j k = true then td σ H3 fun u H4 => ∃ l, u = .int l ∧ Q (g3 k l) H4 else Q false H3 else Q false H2
theorem t_ch3 {g1 g2 g3 : Int → Int → Bool} {l : Int} (ha : EVr ta σ B int i) (hb : EVr tb σ B int j) (hc : EVr tc σ B int k) (hd : EVr td σ B int l) : EVT (tCh3 g1 g2 g3 ta tb tc td) σ B (g1 i j && g2 j k && g3 k l) := fun H1 e1 Q q =>
  ha.run e1 fun v B2 H2 n2 hv => (hb.mono n2.bb).run n2.bh fun w B3 H3 n3 hw => by
    cases hv
    cases hw
    refine ⟨i, j, rfl, rfl, ?_⟩
    cases h1 : g1 i j with
    | false =>
      rw [h1] at q
      exact iteF (q H3 (n2.hh.trans n3.hh))
    | true =>
      rw [h1] at q
      refine iteT ((hc.mono (n2.bb.trans n3.bb)).run n3.bh fun u B4 H4 n4 hu => ?_)
      cases hu
      refine ⟨k, rfl, ?_⟩
      cases h2 : g2 j k with
      | false =>
        rw [h2] at q
        exact iteF (q H4 ((n2.hh.trans n3.hh).trans n4.hh))
      | true =>
        rw [h2] at q
        refine iteT ((hd.mono ((n2.bb.trans n3.bb).trans n4.bb)).run n4.bh fun u B5 H5 n5 hu => ?_)
        cases hu
        exact ⟨l, rfl, q H5 (((n2.hh.trans n3.hh).trans n4.hh).trans n5.hh)⟩
theorem pt_ch3 {X : Cx} {op1 op2 op3 : CmpOp} {g1 g2 g3 : Int → Int → Bool} {a e1 e2 e3 : Expr} {pos : Pos} {t1 t2 t3 t0 : TE}
    (ho1 : OpR X (compareOp op1) (rI0 fun i j => .bl (g1 i j))) (ho2 : OpR X (compareOp op2) (rI0 fun i j => .bl (g2 i j))) (ho3 : OpR X (compareOp op3) (rI0 fun i j => .bl (g3 i j)))
    (h0 : PE X a t0) (h1 : PE X e1 t1) (h2 : PE X e2 t2) (h3 : PE X e3 t3) (hm : lastMarks [op1, op2, op3] [e1, e2, e3] = false := by with_unfolding_all rfl) :
    PT X (.Compare a [op1, op2, op3] [e1, e2, e3] pos) (tCh3 g1 g2 g3 t0 t1 t2 t3) := by
  refine ⟨fun pins s σ H Q I h => ?_⟩
  refine isTrue_chain (thn (h0.run pins s σ H _ I h) fun v s1 ⟨x, H1, I1, r1, q1⟩ => test_link (thn (h1.run pins s1 σ H1 _ I1 q1) fun u s2 ⟨y, H2, I2, r2, i, j, ex, ey, q2⟩ => ?_)) hm
  refine thn (ho1 pins s2 σ H2 x y v u (fun z H3 => z = .bl (g1 i j) ∧ H3 = H2) I2 r1 r2 ⟨i, j, ex, ey, rfl, rfl⟩) fun d s3 ⟨z, H3, I3, r3, ez, eH⟩ => ?_
  subst ez
  subst eH
  cases r3
  refine wpAny_truthy_bool ?_
  cases hg : g1 i j with
  | false =>
    rw [hg] at q2
    exact ite_ff ⟨_, I3, q2⟩
  | true =>
    rw [hg] at q2
    refine ite_tt (test_link (thn (h2.run pins s3 σ _ _ I3 q2) fun w s4 ⟨z2, H4, I4, r4, k, ek, q4⟩ => ?_))
    refine thn (ho2 pins s4 σ H4 y z2 u w (fun z H5 => z = .bl (g2 j k) ∧ H5 = H4) I4 r2 r4 ⟨j, k, ey, ek, rfl, rfl⟩) fun d s5 ⟨z5, H5, I5, r5, ez, eH⟩ => ?_
    subst ez
    subst eH
    cases r5
    refine wpAny_truthy_bool ?_
    cases hg2 : g2 j k with
    | false =>
      rw [hg2] at q4
      exact ite_ff ⟨_, I5, q4⟩
    | true =>
      rw [hg2] at q4
      refine ite_tt (test_last (thn (h3.run pins s5 σ _ _ I5 q4) fun w' s6 ⟨z6, H6, I6, r6, l, el, q6⟩ => ?_))
      refine thn (ho3 pins s6 σ H6 z2 z6 w w' (fun z H7 => z = .bl (g3 k l) ∧ H7 = H6) I6 r4 r6 ⟨k, l, ek, el, rfl, rfl⟩) fun d s7 ⟨z7, H7, I7, r7, ez, eH⟩ => ?_
      subst ez
      subst eH
      cases r7
      exact wpAny_truthy_bool ⟨_, I7, q6⟩

/-! ### truth values as values -/
theorem ev_andV (h1 : EVr ta σ B bl b) (h2 : b = true → EVr tb σ B bl c) : EVr (tAndV ta tb) σ B bl (b && c) := EV.of fun H e Q q => h1.run e fun v B1 H1 n1 hv => ⟨b, hv, by
  cases b with
  | true => exact iteT (((h2 rfl).mono n1.bb).run n1.bh fun u B2 H2 n2 hu => q u B2 H2 (n1.trans n2) hu)
  | false => exact iteF (q _ B1 H1 n1 rfl)⟩
theorem ev_orV (h1 : EVr ta σ B bl b) (h2 : b = false → EVr tb σ B bl c) : EVr (tOrV ta tb) σ B bl (b || c) := EV.of fun H e Q q => h1.run e fun v B1 H1 n1 hv => ⟨b, hv, by
  cases b with
  | true => exact iteT (q _ B1 H1 n1 rfl)
  | false => exact iteF (((h2 rfl).mono n1.bb).run n1.bh fun u B2 H2 n2 hu => q u B2 H2 (n1.trans n2) hu)⟩
theorem ev_notV (h1 : EVr ta σ B bl b) : EVr (tNotV ta) σ B bl (!b) := EV.of fun H e Q q => h1.run e fun v B1 H1 n1 hv => ⟨b, hv, q _ B1 H1 n1 rfl⟩
/-- -a -/
theorem ev_neg (h : EVr ta σ B int i) : EVr (tUn (rU fun i => .int (-i)) ta) σ B int (-i) := EV.of fun H e Q q => h.run e fun v B1 H1 n1 hv => ⟨i, hv, q _ B1 H1 n1 rfl⟩
/-- a value that is an object -/
def rNotNone : R2 := fun x y H Q => y = .non ∧ Q (.bl (!decide (x = .non))) H
theorem ev_isSome {xs : List α} (h : EVr ta σ B (lst r) xs) : EVr (tOp rNotNone ta (tC .non)) σ B bl true := EV.of fun H e Q q => h.run e fun v B1 H1 n1 ⟨a, vs, h1, _⟩ => by
  subst h1
  exact ⟨rfl, q _ B1 H1 n1 rfl⟩

/-! ### argument lists, displays -/
def EVA (ta : TA) (σ : St) (B : Hp) (r : R α) (xs : List α) : Prop := ∀ H, Ex B H → ∀ Q : List V → Hp → Prop, (∀ vs B1 H1, Nw B H B1 H1 → Paired (r.p B1) vs xs → Q vs H1) → ta σ H Q
theorem ea_nil : EVA tNil σ B r [] := fun H e _ q => q _ B H (Nw.refl e) .nil
theorem EVA.mono {ta : TA} {xs : List α} (e : Ex B B') (h : EVA ta σ B r xs) : EVA ta σ B' r xs := fun H e1 Q q => h H (e.trans e1) Q fun vs B1 H1 n hv => q vs _ H1 (nw_res e1 n.hh) (paired_imp (fun _ _ h => r.stE (n.res.trans (res_mono e)) h) hv)
theorem ea_cons {tr : TA} {xs : List α} (h : EVr ta σ B r x) (hr : EVA tr σ B r xs) : EVA (tCons ta tr) σ B r (x :: xs) := fun H e Q q =>
  h.run e fun v B1 H1 n1 hv => (hr.mono n1.bb) H1 n1.bh _ fun vs B2 H2 n2 hvs => q _ B2 H2 (n1.trans n2) (.cons (r.stE n2.bb hv) hvs)
theorem ev_lst {ta : TA} {xs : List α} (h : EVA ta σ B r xs) (hz : xs.length ≤ 100000) : EVn (tLst ta) σ B r xs := EV.of fun H e Q q =>
  h H e _ fun vs B1 H1 n1 hvs => ⟨sz_of (by rw [paired_len hvs]; exact hz), fun p hp => new_list (Q := Q) n1.bh hvs (fun u B2 H2 n2 hu => q u B2 H2 (n1.trans n2) ((poL r xs).dn n1.hh hu)) hp⟩
theorem ev_tup2 (h1 : EVr ta σ B r x) (h2 : EVr tb σ B q y) : EVr (tTup (tCons ta (tCons tb tNil))) σ B (pr r q) (x, y) := EV.of fun H e Q k =>
  h1.run e fun v B1 H1 n1 hv => (h2.mono n1.bb).run n1.bh fun w B2 H2 n2 hw => ⟨sz_of (by show 2 ≤ 100000; decide), fun p hp => k _ _ _ ((n1.trans n2).trans (Nw.new n2.bh hp))
    ⟨p, v, w, rfl, upd_same, r.stE (n2.bb.trans (Ex.new (fresh_back n2.bh hp))) hv, q.stE (Ex.new (fresh_back n2.bh hp)) hw⟩⟩
theorem ev_tup4 {x1 x2 x3 x4 : α} (h1 : EVr ta σ B r x1) (h2 : EVr tb σ B r x2) (h3 : EVr tc σ B r x3) (h4 : EVr td σ B r x4) : EVr (tTup (tCons ta (tCons tb (tCons tc (tCons td tNil))))) σ B (qd r) (x1, x2, x3, x4) := EV.of fun H e Q k =>
  h1.run e fun v B1 H1 n1 hv => (h2.mono n1.bb).run n1.bh fun w B2 H2 n2 hw => (h3.mono (n1.bb.trans n2.bb)).run n2.bh fun u B3 H3 n3 hu => (h4.mono ((n1.bb.trans n2.bb).trans n3.bb)).run n3.bh fun t B4 H4 n4 ht =>
    ⟨sz_of (by show 4 ≤ 100000; decide), fun p hp => k _ _ _ ((((n1.trans n2).trans n3).trans n4).trans (Nw.new n4.bh hp)) (by
      have e5 := Ex.new (o := .tup [v, w, u, t]) (fresh_back n4.bh hp)
      exact ⟨p, v, w, u, t, rfl, upd_same, r.stE (((n2.bb.trans n3.bb).trans n4.bb).trans e5) hv, r.stE ((n3.bb.trans n4.bb).trans e5) hw, r.stE (n4.bb.trans e5) hu, r.stE e5 ht⟩)⟩

/-! ### calls of built-ins -/
theorem ev_len {xs : List α} (h : EVr ta σ B (lst r) xs) : EVr (tCB (rLenS K) (tCons ta tNil)) σ B int (xs.length : Int) := EV.of fun H e Q k =>
  h.run e fun v B1 H1 n1 ⟨a, vs, h1, h2, h3⟩ => ⟨a, vs, by rw [h1], Or.inl (SqL.of (n1.bh _ _ h2)), k _ B1 H1 n1 (by show _ = _; rw [paired_len h3])⟩
theorem ev_list {xs : List α} (h : EVr ta σ B (lst r) xs) : EVn (tCB (rListS K) (tCons ta tNil)) σ B r xs := EV.of fun H e Q k =>
  h.run e fun v B1 H1 n1 ⟨a, vs, h1, h2, h3⟩ => ⟨a, vs, by rw [h1], Or.inl (SqL.of (n1.bh _ _ h2)), fun p hp => new_list (Q := Q) n1.bh h3 (fun u B2 H2 n2 hu => k u B2 H2 (n1.trans n2) ((poL r xs).dn n1.hh hu)) hp⟩
theorem ev_sum {ns : List Int} (h : EVr ta σ B il ns) : EVr (tCB (rSum K) (tCons ta tNil)) σ B int ns.sum := EV.of fun H e Q k =>
  h.run e fun v B1 H1 n1 hv => by
    obtain ⟨a, rfl, h2⟩ := il_at hv
    exact ⟨a, ns, rfl, SqL.of (n1.bh _ _ h2), k _ B1 H1 n1 rfl⟩
/-- the least, the greatest -/
def minL : List Int → Int
  | [] => 0
  | [x] => x
  | x :: y :: r => if x ≤ minL (y :: r) then x else minL (y :: r)
def maxL : List Int → Int
  | [] => 0
  | [x] => x
  | x :: y :: r => if maxL (y :: r) ≤ x then x else maxL (y :: r)
theorem minL_le : ∀ {ns : List Int} {y : Int}, y ∈ ns → minL ns ≤ y
  | [x], y, h => by
    have e : y = x := by simpa using h
    rw [e]
    exact Int.le_refl _
  | x :: z :: r, y, h => by
    unfold minL
    rcases List.mem_cons.mp h with e | h
    · rw [e]; split <;> omega
    · have := minL_le h
      split <;> omega
theorem minL_mem : ∀ {ns : List Int}, 0 < ns.length → minL ns ∈ ns
  | [x], _ => by simp [minL]
  | x :: z :: r, _ => by
    have := minL_mem (ns := z :: r) (by simp)
    unfold minL
    split
    · exact List.mem_cons_self
    · exact List.mem_cons_of_mem _ this
theorem maxL_ge : ∀ {ns : List Int} {y : Int}, y ∈ ns → y ≤ maxL ns
  | [x], y, h => by
    have e : y = x := by simpa using h
    rw [e]
    exact Int.le_refl _
  | x :: z :: r, y, h => by
    unfold maxL
    rcases List.mem_cons.mp h with e | h
    · rw [e]; split <;> omega
    · have := maxL_ge h
      split <;> omega
theorem maxL_mem : ∀ {ns : List Int}, 0 < ns.length → maxL ns ∈ ns
  | [x], _ => by simp [maxL]
  | x :: z :: r, _ => by
    have := maxL_mem (ns := z :: r) (by simp)
    unfold maxL
    split
    · exact List.mem_cons_self
    · exact List.mem_cons_of_mem _ this
theorem ev_min {ns : List Int} (h : EVr ta σ B il ns) (hn : 0 < ns.length) : EVr (tCB (rMin K) (tCons ta tNil)) σ B int (minL ns) := EV.of fun H e Q k =>
  h.run e fun v B1 H1 n1 hv => by
    obtain ⟨a, rfl, h2⟩ := il_at hv
    refine ⟨a, ns, rfl, SqL.of (n1.bh _ _ h2), hn, fun m hm hle => k _ B1 H1 n1 ?_⟩
    show V.int m = V.int (minL ns)
    rw [Int.le_antisymm (hle _ (minL_mem hn)) (minL_le hm)]
theorem ev_max {ns : List Int} (h : EVr ta σ B il ns) (hn : 0 < ns.length) : EVr (tCB (rMax K) (tCons ta tNil)) σ B int (maxL ns) := EV.of fun H e Q k =>
  h.run e fun v B1 H1 n1 hv => by
    obtain ⟨a, rfl, h2⟩ := il_at hv
    refine ⟨a, ns, rfl, SqL.of (n1.bh _ _ h2), hn, fun m hm hle => k _ B1 H1 n1 ?_⟩
    show V.int m = V.int (maxL ns)
    rw [Int.le_antisymm (maxL_ge hm) (hle _ (maxL_mem hn))]
def rMin2 : List V → Hp → VK → Prop := fun xs H Q => ∃ i j, xs = [.int i, .int j] ∧ Q (.int (if j < i then j else i)) H
theorem ev_max2 (ha : EVr ta σ B int i) (hb : EVr tb σ B int j) : EVr (tCB rMax2 (tCons ta (tCons tb tNil))) σ B int (if j > i then j else i) := EV.of fun H e Q k =>
  ha.run e fun v B1 H1 n1 hv => (hb.mono n1.bb).run n1.bh fun w B2 H2 n2 hw => ⟨i, j, by rw [hv, hw], k _ B2 H2 (n1.trans n2) rfl⟩
theorem ev_min2 (ha : EVr ta σ B int i) (hb : EVr tb σ B int j) : EVr (tCB rMin2 (tCons ta (tCons tb tNil))) σ B int (if j < i then j else i) := EV.of fun H e Q k =>
  ha.run e fun v B1 H1 n1 hv => (hb.mono n1.bb).run n1.bh fun w B2 H2 n2 hw => ⟨i, j, by rw [hv, hw], k _ B2 H2 (n1.trans n2) rfl⟩
def rInt1 : List V → Hp → VK → Prop := fun xs H Q => (∃ i, xs = [.int i] ∧ Q (.int i) H) ∨ ∃ k, xs = [.bl k] ∧ Q (.int (if k then 1 else 0)) H
theorem ev_intB (ha : EVr ta σ B bl b) : EVr (tCB rInt1 (tCons ta tNil)) σ B int (if b then 1 else 0) := EV.of fun H e Q k =>
  ha.run e fun v B1 H1 n1 hv => .inr ⟨b, by rw [hv], k _ B1 H1 n1 rfl⟩
/-- sorted -/
def poSorted (ns : List Int) : Po where
  P := fun H B v => ∃ ns' : List Int, ns'.Perm ns ∧ ns'.Pairwise (· ≤ ·) ∧ (poL int ns').P H B v
  up := fun e ⟨ns', h1, h2, h3⟩ => ⟨ns', h1, h2, (poL int ns').up e h3⟩
  dn := fun e ⟨ns', h1, h2, h3⟩ => ⟨ns', h1, h2, (poL int ns').dn e h3⟩
theorem ev_sorted {ns : List Int} (h : EVr ta σ B il ns) : EV (tCB (rSortedI K) (tCons ta tNil)) σ B (poSorted ns) := EV.of fun H e Q k =>
  h.run e fun v B1 H1 n1 hv => by
    obtain ⟨a, rfl, h2⟩ := il_at hv
    exact ⟨a, ns, rfl, SqL.of (n1.bh _ _ h2), fun ns' p hp hs hn => new_list (Q := Q) n1.bh (paired_ints B1 ns') (fun u B2 H2 n2 hu => k u B2 H2 (n1.trans n2) ⟨ns', hp, hs, (poL int ns').dn n1.hh hu⟩) hn⟩

/-! ### slices -/
def EVO (to : TO) (σ : St) (B : Hp) (o : Option Int) : Prop := ∀ H1, Ex B H1 → ∀ Q : Option Int → Hp → Prop, (∀ H2, Ex H1 H2 → Q o H2) → to σ H1 Q
theorem eo_none : EVO tNoPart σ B none := fun H1 _ _ q => q H1 (Ex.refl H1)
theorem eo_some (h : EVr te σ B int i) : EVO (tPart te) σ B (some i) := fun H1 e Q q => h.run e fun v B1 H2 n hv => ⟨i, hv, q H2 n.hh⟩
def cutA (xs : List α) (lo hi : Option Int) : List α := (xs.drop (HT.sIx xs.length 0 lo)).take (HT.sIx xs.length xs.length hi - HT.sIx xs.length 0 lo)
theorem paired_cut {F : V → α → Prop} {vs : List V} {xs : List α} (h : Paired F vs xs) (lo hi : Option Int) : Paired F (cutV vs lo hi) (cutA xs lo hi) := by
  unfold cutV cutA
  rw [paired_len h]
  exact paired_take _ (paired_drop _ h)
theorem ev_slice {tl th : TO} {xs : List α} {lo hi : Option Int} (h : EVr te σ B (lst r) xs) (hl : EVO tl σ B lo) (hh : EVO th σ B hi) : EVn (tSl (rSlL K) te tl th) σ B r (cutA xs lo hi) := EV.of fun H e Q k =>
  h.run e fun v B1 H1 n1 ⟨a, vs, h1, h2, h3⟩ => hl H1 (e.trans n1.hh) _ fun H3 e3 => hh H3 ((e.trans n1.hh).trans e3) _ fun H4 e4 => ⟨a, vs, h1, SqL.of (e4 _ _ (e3 _ _ (n1.bh _ _ h2))), fun p hp => by
    have n2 : Nw B H B1 H4 := ⟨n1.bb, (n1.bh.trans e3).trans e4, (n1.hh.trans e3).trans e4, n1.fr⟩
    exact new_list (Q := Q) n2.bh (paired_cut h3 lo hi) (fun u B5 H5 n5 hu => k u B5 H5 (n2.trans n5) ((poL r _).dn n2.hh hu)) hp⟩
theorem cut_from (xs : List α) (n : Nat) : cutA xs (some (n : Int)) none = xs.drop n := by
  unfold cutA
  rw [HT.sIx_nat, HT.sIx_none]
  by_cases h : n ≤ xs.length
  · rw [Nat.min_eq_left h, List.take_of_length_le (by rw [List.length_drop]; omega)]
  · rw [Nat.min_eq_right (by omega), List.drop_eq_nil_of_le (Nat.le_refl _), List.drop_eq_nil_of_le (by omega), List.take_nil]
theorem cut_to (xs : List α) (n : Nat) : cutA xs none (some (n : Int)) = xs.take n := by
  unfold cutA
  rw [HT.sIx_nat, HT.sIx_none, List.drop_zero, Nat.sub_zero]
  by_cases h : n ≤ xs.length
  · rw [Nat.min_eq_left h]
  · rw [Nat.min_eq_right (by omega), List.take_of_length_le (Nat.le_refl _), List.take_of_length_le (by omega)]
end
end MK

namespace MK
open PySem PySem.Spec PyProof.Rows L2 Evl
section
variable {α β γ ζ : Type} {r : R α} {q : R β} {s : R γ} {x : α} {y : β} {σ : St} {B B' : Hp} {ta tb tc td te tl : TE} {P P' : Po} {b c : Bool} {i k z : Int} {K : PySem.W.Frag} {j : Nat} {ws : List Nat} {tt : TT}

/-! ### comprehensions -/
/-- behind some turns: the new list at D holds what they gave -/
def CW (q : R β) (B1 H1 : Hp) (D : Addr) (ys : List β) (H' : Hp) : Prop := ∃ Bi vs, Nw B1 H1 Bi H' ∧ Bi D = none ∧ H1 D = none ∧ H' D = some (.lst vs) ∧ Paired (q.p Bi) vs ys
theorem take_succ' {l : List ζ} {i : Nat} {x : ζ} (h : l[i]? = some x) : l.take (i + 1) = l.take i ++ [x] := by
  rw [List.take_add_one, h]
  rfl
theorem given_yes {zs : List ζ} {ok : ζ → Bool} {f : ζ → β} {i : Nat} {x : ζ} (h : zs[i]? = some x) (hk : ok x = true) : ((zs.take (i + 1)).filter ok).map f = ((zs.take i).filter ok).map f ++ [f x] := by
  rw [take_succ' h, List.filter_append, List.map_append, List.filter_cons, if_pos hk] <;> rfl
theorem given_no {zs : List ζ} {ok : ζ → Bool} {f : ζ → β} {i : Nat} {x : ζ} (h : zs[i]? = some x) (hk : ok x = false) : ((zs.take (i + 1)).filter ok).map f = ((zs.take i).filter ok).map f := by
  rw [take_succ' h, List.filter_append, List.map_append, List.filter_cons, if_neg (by rw [hk]; decide)]
  show _ ++ [] = _
  rw [List.append_nil]
theorem given_len (zs : List ζ) (ok : ζ → Bool) (f : ζ → β) (i : Nat) : (((zs.take i).filter ok).map f).length ≤ i := by
  rw [List.length_map]
  have h := List.length_filter_le ok (zs.take i)
  rw [List.length_take] at h
  omega
theorem cw_turn {B1 H1 H2 : Hp} {D : Addr} {zs : List ζ} {ok : ζ → Bool} {f : ζ → β} {i : Nat} {x : ζ} {σ2 : St} (p : CW q B1 H1 D (((zs.take i).filter ok).map f) H2) (hx : zs[i]? = some x) (hi : i < 50000) (ht : EVT tt σ2 B1 (ok x)) (he : ok x = true → EVr te σ2 B1 q (f x)) :
    tt σ2 H2 fun b H3 => if b = true then te σ2 H3 fun y H4 => ∃ acc, H4 D = some (.lst acc) ∧ acc.length < sizeLine ∧ CW q B1 H1 D (((zs.take (i + 1)).filter ok).map f) (upd H4 D (.lst (acc ++ [y]))) else CW q B1 H1 D (((zs.take (i + 1)).filter ok).map f) H3 := by
  obtain ⟨Bi, vs, n, p1, p2, p3, p4⟩ := p
  refine ht H2 (n.bb.trans n.bh) _ fun H3 e3 => ?_
  have n3 : Nw B1 H1 Bi H3 := ⟨n.bb, n.bh.trans e3, n.hh.trans e3, n.fr⟩
  cases hk : ok x with
  | false =>
    refine iteF ?_
    rw [given_no hx hk]
    exact ⟨Bi, vs, n3, p1, p2, e3 _ _ p3, p4⟩
  | true =>
    refine iteT (((he hk).mono n3.bb).run n3.bh fun v B4 H4 n4 hv => ?_)
    have hD : H4 D = some (.lst vs) := n4.hh _ _ (e3 _ _ p3)
    have nD : B4 D = none := n4.ne (by rw [e3 _ _ p3]; intro z; cases z) p1
    refine ⟨vs, hD, sz_lt (by have := given_len zs ok f i; rw [paired_len p4]; omega), B4, vs ++ [v], ?_, nD, p2, upd_same, ?_⟩
    · have n5 := n3.trans n4
      refine ⟨n5.bb, Ex.mut n5.bh nD, Ex.mut n5.hh p2, n5.fr⟩
    · rw [given_yes hx hk]
      exact paired_app (paired_imp (fun _ _ h => q.stE n4.bb h) p4) (.cons hv .nil)
theorem cw_start {B1 H1 : Hp} {D : Addr} (e : Ex B1 H1) (hD : H1 D = none) : CW q B1 H1 D [] (upd H1 D (.lst [])) := ⟨B1, [], ⟨Ex.refl _, e.trans (Ex.new hD), Ex.new hD, fun _ _ => rfl⟩, fresh_back e hD, hD, upd_same, .nil⟩
theorem cw_end {B H B1 H1 H' : Hp} {D : Addr} {ys : List β} {Q : VK} (n : Nw B H B1 H1) (p : CW q B1 H1 D ys H') (k : ∀ v B2 H2, Nw B H B2 H2 → (poL q ys).P H B2 v → Q v H2) : Q (.ref D) H' := by
  obtain ⟨Bi, vs, n1, p1, p2, p3, p4⟩ := p
  refine k _ (upd Bi D (.lst vs)) H' ?_ ⟨D, vs, Bi, rfl, fresh_back n.hh p2, p1, rfl, p4⟩
  refine n.trans ⟨n1.bb.trans (Ex.new p1), fun a o h => ?_, n1.hh, fun a h => ?_⟩
  · by_cases ha : a = D
    · subst ha; rw [upd_same] at h; cases h; exact p3
    · rw [upd_ne ha] at h; exact n1.bh a o h
  · have ha : a ≠ D := fun z => by subst z; exact h p2
    rw [upd_ne ha]; exact n1.fr a h
theorem t_yes : EVT tYes σ B true := fun H1 _ Q q => q H1 (Ex.refl H1)
/-- [te for x in xs if tt] -/
theorem ev_lcF {xs : List α} {ok : α → Bool} {f : α → β} (h : EVr tl σ B (lst r) xs) (hz : xs.length ≤ 40000) (hw : ∀ v, wipe ((wipe σ ws).set j (some v)) ws = wipe σ ws)
    (ht : ∀ x v B1, x ∈ xs → Ex B B1 → r.p B1 v x → EVT tt ((wipe σ ws).set j (some v)) B1 (ok x))
    (he : ∀ x v B1, x ∈ xs → ok x = true → Ex B B1 → r.p B1 v x → EVr te ((wipe σ ws).set j (some v)) B1 q (f x)) : EVn (tLc (iList K tl) (gName j) tt te ws) σ B q ((xs.filter ok).map f) :=
  EV.of fun H e Q k => h.run e fun v B1 H1 n1 ⟨a, vs, h1, h2, h3⟩ => ⟨a, h1, ⟨vs, SqL.of (n1.bh _ _ h2)⟩, fun D hD =>
    lc_list (K := K) (a := a) (xs := vs) (fun i H' => CW q B1 H1 D (((xs.take i).filter ok).map f) H') (by rw [List.take_zero]; exact cw_start n1.bh hD)
      (fun i H' _ ⟨Bi, us, n, _⟩ => SqL.of (n.bh _ _ (n.bb _ _ h2)))
      (fun i v H' hi p => by
        obtain ⟨x, hx, hr⟩ := paired_getL h3 hi
        have hm := List.mem_of_getElem? hx
        exact ⟨hw v, cw_turn p hx (by have := (List.getElem?_eq_some_iff.mp hx).1; omega) (ht x v B1 hm n1.bb hr) (fun hk => he x v B1 hm hk n1.bb hr)⟩)
      (fun H' p => by
        rw [paired_len h3, List.take_length] at p
        exact cw_end n1 p k)⟩
theorem filter_true (xs : List α) : xs.filter (fun _ => true) = xs := List.filter_eq_self.mpr fun _ _ => rfl
theorem ev_lc {xs : List α} {f : α → β} (h : EVr tl σ B (lst r) xs) (hz : xs.length ≤ 40000) (hw : ∀ v, wipe ((wipe σ ws).set j (some v)) ws = wipe σ ws)
    (he : ∀ x v B1, x ∈ xs → Ex B B1 → r.p B1 v x → EVr te ((wipe σ ws).set j (some v)) B1 q (f x)) : EVn (tLc (iList K tl) (gName j) tYes te ws) σ B q (xs.map f) := by
  have := ev_lcF (K := K) (tt := tYes) (ws := ws) (j := j) (q := q) (ok := fun _ => true) (f := f) h hz hw (fun _ _ _ _ _ _ => t_yes) (fun x v B1 hm _ e hr => he x v B1 hm e hr)
  rw [filter_true] at this
  exact this
/-- [te for k in range(n) if tt] -/
theorem ev_lcRF {n : Nat} {ok : Nat → Bool} {f : Nat → β} (h : EVr ta σ B int (n : Int)) (hz : n ≤ 40000) (hw : ∀ v, wipe ((wipe σ ws).set j (some v)) ws = wipe σ ws)
    (ht : ∀ (i : Nat) B1, i < n → Ex B B1 → EVT tt ((wipe σ ws).set j (some (.int (i : Int)))) B1 (ok i))
    (he : ∀ (i : Nat) B1, i < n → ok i = true → Ex B B1 → EVr te ((wipe σ ws).set j (some (.int (i : Int)))) B1 q (f i)) : EVn (tLc (iRng1 (tCons ta tNil)) (gName j) tt te ws) σ B q (((List.range n).filter ok).map f) :=
  EV.of fun H e Q k => h.run e fun v B1 H1 n1 hv => ⟨(n : Int), by rw [hv], by omega, by omega, fun D hD => by
    have e2 : (n : Int).toNat = n := by omega
    rw [e2]
    refine lc_range (lo := 0) (n := n) (fun i H' => CW q B1 H1 D ((((List.range n).take i).filter ok).map f) H') (by rw [List.take_zero]; exact cw_start n1.bh hD)
      (fun i H' hi p => ?_) (fun H' p => ?_)
    · have hx : (List.range n)[i]? = some i := by rw [List.getElem?_range hi]
      have e0 : (0 : Int) + (i : Int) = (i : Int) := Int.zero_add _
      rw [e0]
      exact ⟨hw _, cw_turn p hx (by omega) (ht i B1 hi n1.bb) (fun hk => he i B1 hi hk n1.bb)⟩
    · have e3 : (List.range n).take n = List.range n := List.take_of_length_le (by rw [List.length_range]; exact Nat.le_refl _)
      rw [e3] at p
      exact cw_end n1 p k⟩
theorem ev_lcR {n : Nat} {f : Nat → β} (h : EVr ta σ B int (n : Int)) (hz : n ≤ 40000) (hw : ∀ v, wipe ((wipe σ ws).set j (some v)) ws = wipe σ ws)
    (he : ∀ (i : Nat) B1, i < n → Ex B B1 → EVr te ((wipe σ ws).set j (some (.int (i : Int)))) B1 q (f i)) : EVn (tLc (iRng1 (tCons ta tNil)) (gName j) tYes te ws) σ B q ((List.range n).map f) := by
  have := ev_lcRF (tt := tYes) (ws := ws) (j := j) (q := q) (ok := fun _ => true) (f := f) h hz hw (fun _ _ _ _ => t_yes) (fun i B1 hm _ e => he i B1 hm e)
  rw [filter_true] at this
  exact this
/-- [te for x, y in zip(xs, ys)] -/
def iZip (K : PySem.W.Frag) (ta : TA) : TI := fun σ H R => ta σ H fun vs H1 => ∃ a b xs ys, vs = [.ref a, .ref b] ∧ SqL K H1 a xs ∧ SqL K H1 b ys ∧ R (Itz K a b) H1
theorem ev_lcZ {xs : List α} {ys : List γ} {j2 : Nat} {f : α → γ → β} (h1 : EVr ta σ B (lst r) xs) (h2 : EVr tb σ B (lst s) ys) (hz : xs.length ≤ 40000) (hl : xs.length = ys.length)
    (hw : ∀ v w, wipe (((wipe σ ws).set j (some v)).set j2 (some w)) ws = wipe σ ws)
    (he : ∀ x y v w B1, x ∈ xs → y ∈ ys → Ex B B1 → r.p B1 v x → s.p B1 w y → EVr te (((wipe σ ws).set j (some v)).set j2 (some w)) B1 q (f x y)) :
    EVn (tLc (iZip K (tCons ta (tCons tb tNil))) (gTup K 2 (gCons (gName j) (gCons (gName j2) gNil))) tYes te ws) σ B q (List.zipWith f xs ys) := EV.of fun H e Q k =>
  h1.run e fun v B1 H1 n1 hv => (h2.mono n1.bb).run n1.bh fun w B2 H2 n2 hw2 => by
    obtain ⟨a, vs, rfl, g2, g3⟩ := (lst r).stE n2.bb hv
    obtain ⟨a', us, rfl, g2', g3'⟩ := hw2
    have n := n1.trans n2
    refine ⟨a, a', vs, us, rfl, SqL.of (n2.bh _ _ g2), SqL.of (n2.bh _ _ g2'), fun D hD => ?_⟩
    have hn : xs.length = min vs.length us.length := by rw [paired_len g3, paired_len g3', ← hl, Nat.min_self]
    have ez : List.zipWith f xs ys = (xs.zip ys).map fun p => f p.1 p.2 := by rw [List.zip, List.map_zipWith]
    rw [ez] at k
    refine lc_it (walk_zip hn) (fun i H' => CW q B2 H2 D ((((xs.zip ys).take i).filter fun _ => true).map fun p => f p.1 p.2) H') (by rw [List.take_zero]; exact cw_start n2.bh hD)
      (fun i H' _ ⟨Bi, _, m, _⟩ => ⟨SqL.of (m.bh _ _ (m.bb _ _ g2)), SqL.of (m.bh _ _ (m.bb _ _ g2'))⟩) (fun i x H' H'' hi p yy => ?_) (fun H' p => ?_)
    · obtain ⟨T, x1, x2, rfl, nT, rfl, f1, f2⟩ := yy
      obtain ⟨y1, hy1, hr1⟩ := paired_getL g3 f1
      obtain ⟨y2, hy2, hr2⟩ := paired_getL g3' f2
      refine ⟨T, [x1, x2], rfl, SqT.of upd_same, rfl, x1, [x2], rfl, x2, [], rfl, rfl, hw x1 x2, ?_⟩
      have p' : CW q B2 H2 D ((((xs.zip ys).take i).filter fun _ => true).map fun p => f p.1 p.2) (upd H' T (.tup [x1, x2])) := by
        obtain ⟨Bi, us', m, p1, p2, p3, p4⟩ := p
        exact ⟨Bi, us', ⟨m.bb, m.bh.trans (Ex.new nT), m.hh.trans (Ex.new nT), m.fr⟩, p1, p2, Ex.new nT _ _ p3, p4⟩
      have hx : (xs.zip ys)[i]? = some (y1, y2) := by rw [List.zip, List.getElem?_zipWith, hy1, hy2]
      exact cw_turn (ok := fun _ => true) p' hx (by omega) t_yes fun _ => he y1 y2 x1 x2 B2 (List.mem_of_getElem? hy1) (List.mem_of_getElem? hy2) n.bb hr1 hr2
    · have e3 : (xs.zip ys).take xs.length = xs.zip ys := List.take_of_length_le (by rw [List.length_zip]; omega)
      rw [e3, filter_true] at p
      exact cw_end n p k

/-! ### calls of the text's own defs -/
/-- a def that takes x and hands back what po tells -/
def sp1 (r : R α) (pre : α → Prop) (po : α → Po) : Sp := fun vs H Q _ => ∃ B v x, Ex B H ∧ vs = [v] ∧ r.p B v x ∧ pre x ∧ ∀ u B' H', Nw B H B' H' → (po x).P H B' u → Q u H'
def sp2 (r : R α) (q : R β) (pre : α → β → Prop) (po : α → β → Po) : Sp := fun vs H Q _ => ∃ B v w x y, Ex B H ∧ vs = [v, w] ∧ r.p B v x ∧ q.p B w y ∧ pre x y ∧ ∀ u B' H', Nw B H B' H' → (po x y).P H B' u → Q u H'
def sp3 (r : R α) (q : R β) (s : R γ) (pre : α → β → γ → Prop) (po : α → β → γ → Po) : Sp := fun vs H Q _ => ∃ B v w t x y z, Ex B H ∧ vs = [v, w, t] ∧ r.p B v x ∧ q.p B w y ∧ s.p B t z ∧ pre x y z ∧ ∀ u B' H', Nw B H B' H' → (po x y z).P H B' u → Q u H'
theorem ev_call1 {pre : α → Prop} {po : α → Po} {E : XK} (h : EVr ta σ B r x) (hp : pre x) : EV (tCall (sp1 r pre po) [] E (tCons ta tNil)) σ B (po x) := EV.of fun H e Q k =>
  h.run e fun v B1 H1 n1 hv => ⟨B1, v, x, n1.bh, rfl, hv, hp, fun u B2 H2 n2 hu => k u B2 H2 (n1.trans n2) ((po x).dn n1.hh hu)⟩
theorem ev_call2 {pre : α → β → Prop} {po : α → β → Po} {E : XK} (h1 : EVr ta σ B r x) (h2 : EVr tb σ B q y) (hp : pre x y) : EV (tCall (sp2 r q pre po) [] E (tCons ta (tCons tb tNil))) σ B (po x y) := EV.of fun H e Q k =>
  h1.run e fun v B1 H1 n1 hv => (h2.mono n1.bb).run n1.bh fun w B2 H2 n2 hw => ⟨B2, v, w, x, y, n2.bh, rfl, r.stE n2.bb hv, hw, hp, fun u B3 H3 n3 hu => k u B3 H3 ((n1.trans n2).trans n3) ((po x y).dn (n1.hh.trans n2.hh) hu)⟩
theorem ev_call3 {z : γ} {pre : α → β → γ → Prop} {po : α → β → γ → Po} {E : XK} (h1 : EVr ta σ B r x) (h2 : EVr tb σ B q y) (h3 : EVr tc σ B s z) (hp : pre x y z) : EV (tCall (sp3 r q s pre po) [] E (tCons ta (tCons tb (tCons tc tNil)))) σ B (po x y z) := EV.of fun H e Q k =>
  h1.run e fun v B1 H1 n1 hv => (h2.mono n1.bb).run n1.bh fun w B2 H2 n2 hw => (h3.mono (n1.bb.trans n2.bb)).run n2.bh fun t B3 H3 n3 ht =>
    ⟨B3, v, w, t, x, y, z, n3.bh, rfl, r.stE (n2.bb.trans n3.bb) hv, q.stE n3.bb hw, ht, hp, fun u B4 H4 n4 hu => k u B4 H4 (((n1.trans n2).trans n3).trans n4) ((po x y z).dn ((n1.hh.trans n2.hh).trans n3.hh) hu)⟩

/-! ### statements: B the known part, H the heap -/
variable {D : Ends} {tu tw : TS} {H : Hp} {t : TT}
theorem w_set {n : Nat} (e : Ex B H) (h : EV te σ B P) (k : ∀ v B1 H1, Nw B H B1 H1 → P.P H B1 v → D.nx (σ.set n (some v)) H1) : tAsg te (gName n) D σ H := h.run e fun v B1 H1 m p => k v B1 H1 m p
theorem w_ret (e : Ex B H) (h : EV te σ B P) (k : ∀ v B1 H1, Nw B H B1 H1 → P.P H B1 v → D.rt v H1) : tRet te D σ H := h.run e k
theorem w_drop (e : Ex B H) (h : EV te σ B P) (k : ∀ v B1 H1, Nw B H B1 H1 → P.P H B1 v → D.nx σ H1) : tDrop te D σ H := h.run e fun v B1 H1 m p => k v B1 H1 m p
theorem w_if (e : Ex B H) (h : EVT t σ B b) (k1 : b = true → ∀ H1, Ex H H1 → tu D σ H1) (k2 : b = false → ∀ H1, Ex H H1 → tw D σ H1) : tIfS t tu tw D σ H := h H e _ fun H1 e1 => by
  cases b with
  | true => exact iteT (k1 rfl H1 e1)
  | false => exact iteF (k2 rfl H1 e1)
end
end MK

namespace MK
open PySem PySem.Spec PyProof.Rows L2 Evl

/-! ### defs that may raise: errors whose context is None -/
theorem passN {X : Cx} : Passes (L2N.CX X.prog X.w) X E0 := fun _ _ _ _ _ _ _ h => by
  obtain ⟨_, _, _, _, _, _, _, _, _, _, _, _, no⟩ := h
  exact no.elim
theorem takesN0 {X : Cx} : L2N.Takes X (fun _ _ _ _ => False) := fun _ _ h => by
  obtain ⟨_, _, _, _, _, _, _, _, _, _, _, _, _, _, _, _, no⟩ := h
  exact no.elim
section
variable {P : Program} {w : World} {K : PySem.W.Frag} {mg : Str → Option Value} {base : Heap}
theorem okN {x qual : Str} {st : Stmt} {f : Addr} {fd : FuncData} {N ps : List Str} {k : Nat} {sp : Sp} (F : Fun K x qual st f fd) (S : FnScope N ps (defScope st)) (ln : ∀ vs H Q E, sp vs H Q E → vs.length = ps.length)
    (hb : ∀ (cdv : Value) (A : Around) (outer : List Env) (s : Shared) (H : Hp) (vs : List V) (Q : VK) (E : XK), Room k (A.deeper (envOfC qual (defScope st) s.heap.objs.size f cdv)) → sp vs H Q E →
      ∃ t, PSs (cxOf (L2N.CX P w) P w K mg base N qual (defScope st) f cdv A outer s H E) (defBody st) t ∧ t { nx := fun _ H' => Q .non H', rt := Q } (L2.start N vs) H) : FnOk P w K mg base (L2N.CX P w) (k + 1) f fd ps sp := by
  obtain ⟨_, _, _, _, _, _, cdv, _, _, rfl, at_, co⟩ := F.ex
  exact fn_of at_ co S ln fun A outer s H vs Q E hr h => hb cdv A outer s H vs Q E hr h
/-- a def of the text, ready to be called by its name -/
structure Df (P : Program) (w : World) (K : PySem.W.Frag) (mg : Str → Option Value) (base : Heap) (CX : CXT) (k : Nat) (name : Str) (ps : List Str) (sp : Sp) : Prop where
  ex : ∃ f fd, FnOk P w K mg base CX k f fd ps sp ∧ mg name = some (.ref f) ∧ PySem.W.keepIn K (.ref f) = true ∧ Binds K fd ps []
end
section
variable {X : Cx} {k k' : Nat} {name : Str} {ps : List Str} {sp : Sp} {q pos : Pos} {e : Expr} {es : List Expr} {t : TA}
/-- f(e, ..), f raises nothing -/
theorem pe_df (D : Df X.prog X.w X.K X.mg X.base CX0 k name ps sp) (hr : Room k' X.A) (hk : k ≤ k') (ha : PA X (e :: es) t) (hg : Gl X name := by rfl) (hdb : (name == ("__debug__" : Str)) = false := by decide) (hst : starEach (e :: es) X.env = (false, eval e X.env) :: starEach es X.env := by rfl)
    (hpl : (backTo pos (starEach es X.env)).any (·.1) = false := by rfl) : PE X (.Call (.Name name q) (e :: es) [] pos) (tCall sp [] E0 t) := by
  obtain ⟨f, fd, G, m, kp, b⟩ := D.ex
  exact pe_call G (hr.mono hk) hg m kp b .nil pass0 ha hdb hst hpl
/-- f(e, ..), f may raise, but not here -/
theorem pe_dfN (D : Df X.prog X.w X.K X.mg X.base (L2N.CX X.prog X.w) k name ps sp) (hr : Room k' X.A) (hk : k ≤ k') (ha : PA X (e :: es) t) (hg : Gl X name := by rfl) (hdb : (name == ("__debug__" : Str)) = false := by decide) (hst : starEach (e :: es) X.env = (false, eval e X.env) :: starEach es X.env := by rfl)
    (hpl : (backTo pos (starEach es X.env)).any (·.1) = false := by rfl) : PE X (.Call (.Name name q) (e :: es) [] pos) (tCall sp [] E0 t) := by
  obtain ⟨f, fd, G, m, kp, b⟩ := D.ex
  exact pe_call G (hr.mono hk) hg m kp b .nil passN ha hdb hst hpl
/-- f(e, ..), what f raises is passed on -/
theorem pe_dfX {W : WX} (D : Df X.prog X.w X.K X.mg X.base (L2N.CX X.prog X.w) k name ps sp) (hr : Room k' X.A) (hk : k ≤ k') (tk : L2N.Takes X W) (ha : PA X (e :: es) t) (hg : Gl X name := by rfl) (hdb : (name == ("__debug__" : Str)) = false := by decide) (hst : starEach (e :: es) X.env = (false, eval e X.env) :: starEach es X.env := by rfl)
    (hpl : (backTo pos (starEach es X.env)).any (·.1) = false := by rfl) : PE X (.Call (.Name name q) (e :: es) [] pos) (tCallS sp (WE W) t) := by
  obtain ⟨f, fd, G, m, kp, b⟩ := D.ex
  exact pe_callS G (hr.mono hk) hg m kp b (fun σ => L2N.passAt tk σ) ha hdb hst hpl
end
end MK

namespace MK
open PySem PySem.Spec PyProof.Rows L2 Evl

/-! ### boards whose lists are all new and all apart -/
def IsRow (B : Hp) (p : Addr) (ns : List Int) : Prop := B p = some (.lst (ns.map V.int))
structure BdAt (H B : Hp) (a : Addr) (ps : List Addr) (xss : List (List Int)) : Prop where
  na : H a = none
  at_ : B a = some (.lst (ps.map V.ref))
  out : a ∉ ps
  nd : ps.Nodup
  new : ∀ p ∈ ps, H p = none
  rows : Paired (IsRow B) ps xss
def poB (xss : List (List Int)) : Po where
  P := fun H B v => ∃ a ps, v = .ref a ∧ BdAt H B a ps xss
  up := fun e ⟨a, ps, h1, h⟩ => ⟨a, ps, h1, h.na, e _ _ h.at_, h.out, h.nd, h.new, paired_imp (fun _ _ q => e _ _ q) h.rows⟩
  dn := fun e ⟨a, ps, h1, h⟩ => ⟨a, ps, h1, fresh_back e h.na, h.at_, h.out, h.nd, fun p hp => fresh_back e (h.new p hp), h.rows⟩
theorem rows_il {B : Hp} : ∀ {ps : List Addr} {xss : List (List Int)}, Paired (IsRow B) ps xss → Paired (il.p B) (ps.map V.ref) xss
  | _, _, .nil => .nil
  | _, _, .cons h t => .cons (il_of h) (rows_il t)
theorem BdAt.bd {H B : Hp} {a : Addr} {ps : List Addr} {xss : List (List Int)} (h : BdAt H B a ps xss) : bd.p B (.ref a) xss := ⟨a, _, rfl, h.at_, rows_il h.rows⟩
theorem poB_bd {xss : List (List Int)} {H B : Hp} {v : V} (h : (poB xss).P H B v) : bd.p B v xss := by
  obtain ⟨a, ps, rfl, h⟩ := h
  exact h.bd
section
variable {α β γ ζ : Type} {r : R α} {q : R β} {s : R γ} {x : α} {y : β} {σ : St} {B B' : Hp} {ta tb tc td te tl : TE} {P P' : Po} {b c : Bool} {i k z : Int} {K : PySem.W.Frag} {j : Nat} {ws : List Nat} {tt : TT}
theorem EV.of_b {xss : List (List Int)} (h : EV te σ B (poB xss)) : EVr te σ B bd xss := h.imp fun _ _ _ _ p => poB_bd p
/-- behind some turns of a comprehension of new rows -/
def CB (B1 H1 : Hp) (D : Addr) (yss : List (List Int)) (H' : Hp) : Prop := ∃ Bi ps, Nw B1 H1 Bi H' ∧ Bi D = none ∧ H1 D = none ∧ H' D = some (.lst (ps.map V.ref)) ∧ ps.Nodup ∧ (∀ p ∈ ps, H1 p = none) ∧ Paired (IsRow Bi) ps yss
theorem cb_turn {B1 H1 H2 : Hp} {D : Addr} {zs : List ζ} {f : ζ → List Int} {i : Nat} {x : ζ} {σ2 : St} (p : CB B1 H1 D ((zs.take i).map f) H2) (hx : zs[i]? = some x) (hi : i < 50000) (he : EVn te σ2 B1 int (f x)) :
    tYes σ2 H2 fun b H3 => if b = true then te σ2 H3 fun y H4 => ∃ acc, H4 D = some (.lst acc) ∧ acc.length < sizeLine ∧ CB B1 H1 D ((zs.take (i + 1)).map f) (upd H4 D (.lst (acc ++ [y]))) else CB B1 H1 D ((zs.take (i + 1)).map f) H3 := by
  obtain ⟨Bi, ps, n, p1, p2, p3, p4, p5, p6⟩ := p
  unfold tYes
  refine iteT ((he.mono n.bb).run n.bh fun v B4 H4 n4 hv => ?_)
  obtain ⟨a, us, B0, rfl, g1, g2, g3, g4⟩ := hv
  have hD : H4 D = some (.lst (ps.map V.ref)) := n4.hh _ _ p3
  have nD : B4 D = none := n4.ne (by rw [p3]; intro z; cases z) p1
  have hlen : ps.length = ((zs.take i).map f).length := paired_len p6
  refine ⟨_, hD, sz_lt (by rw [List.length_map, hlen, List.length_map, List.length_take]; omega), B4, ps ++ [a], ?_, nD, p2, by rw [upd_same, List.map_append]; rfl, ?_, ?_, ?_⟩
  · have n5 := n.trans n4
    exact ⟨n5.bb, Ex.mut n5.bh nD, Ex.mut n5.hh p2, n5.fr⟩
  · refine List.nodup_append.mpr ⟨p4, by simp, fun b hb c hc => ?_⟩
    have ec : c = a := by simpa using hc
    subst ec
    intro e
    subst e
    obtain ⟨y, _, hy⟩ := paired_getL (i := ps.idxOf b) p6 (by rw [List.getElem?_eq_getElem (List.idxOf_lt_length_of_mem hb), List.getElem_idxOf])
    have := n.bh _ _ hy
    rw [g1] at this
    cases this
  · intro p hp
    rcases List.mem_append.mp hp with h | h
    · exact p5 p h
    · have e : p = a := by simpa using h
      rw [e]
      exact fresh_back n.hh g1
  · rw [take_succ' hx, List.map_append]
    refine paired_app (paired_imp (fun _ _ h => n4.bb _ _ h) p6) (.cons ?_ .nil)
    show B4 a = _
    rw [g3, upd_same, paired_int g4]
theorem cb_start {B1 H1 : Hp} {D : Addr} (e : Ex B1 H1) (hD : H1 D = none) : CB B1 H1 D [] (upd H1 D (.lst [])) := ⟨B1, [], ⟨Ex.refl _, e.trans (Ex.new hD), Ex.new hD, fun _ _ => rfl⟩, fresh_back e hD, hD, upd_same, List.nodup_nil, by simp, .nil⟩
theorem cb_end {B H B1 H1 H' : Hp} {D : Addr} {yss : List (List Int)} {Q : VK} (n : Nw B H B1 H1) (p : CB B1 H1 D yss H') (k : ∀ v B2 H2, Nw B H B2 H2 → (poB yss).P H B2 v → Q v H2) : Q (.ref D) H' := by
  obtain ⟨Bi, ps, n1, p1, p2, p3, p4, p5, p6⟩ := p
  have nps : ∀ p ∈ ps, p ≠ D := fun p hp e => by
    subst e
    obtain ⟨y, _, hy⟩ := paired_getL (i := ps.idxOf p) p6 (by rw [List.getElem?_eq_getElem (List.idxOf_lt_length_of_mem hp), List.getElem_idxOf])
    unfold IsRow at hy
    rw [p1] at hy
    cases hy
  refine k _ (upd Bi D (.lst (ps.map V.ref))) H' ?_ ⟨D, ps, rfl, fresh_back n.hh p2, upd_same, fun h => nps D h rfl, p4, fun p hp => fresh_back n.hh (p5 p hp), paired_imp (fun _ _ h => Ex.new p1 _ _ h) p6⟩
  refine n.trans ⟨n1.bb.trans (Ex.new p1), fun a o h => ?_, n1.hh, fun a h => ?_⟩
  · by_cases ha : a = D
    · subst ha; rw [upd_same] at h; cases h; exact p3
    · rw [upd_ne ha] at h; exact n1.bh a o h
  · have ha : a ≠ D := fun z => by subst z; exact h p2
    rw [upd_ne ha]; exact n1.fr a h
/-- [te for k in range(n)], each te a new list of ints -/
theorem ev_lcRB {n : Nat} {f : Nat → List Int} (h : EVr ta σ B int (n : Int)) (hz : n ≤ 40000) (hw : ∀ v, wipe ((wipe σ ws).set j (some v)) ws = wipe σ ws)
    (he : ∀ (i : Nat) B1, i < n → Ex B B1 → EVn te ((wipe σ ws).set j (some (.int (i : Int)))) B1 int (f i)) : EV (tLc (iRng1 (tCons ta tNil)) (gName j) tYes te ws) σ B (poB ((List.range n).map f)) :=
  EV.of fun H e Q k => h.run e fun v B1 H1 n1 hv => ⟨(n : Int), by rw [hv], by omega, by omega, fun D hD => by
    have e2 : (n : Int).toNat = n := by omega
    rw [e2]
    refine lc_range (lo := 0) (n := n) (fun i H' => CB B1 H1 D (((List.range n).take i).map f) H') (by rw [List.take_zero]; exact cb_start n1.bh hD)
      (fun i H' hi p => ?_) (fun H' p => ?_)
    · have hx : (List.range n)[i]? = some i := by rw [List.getElem?_range hi]
      have e0 : (0 : Int) + (i : Int) = (i : Int) := Int.zero_add _
      rw [e0]
      exact ⟨hw _, cb_turn p hx (by omega) (he i B1 hi n1.bb)⟩
    · have e3 : (List.range n).take n = List.range n := List.take_of_length_le (by rw [List.length_range]; exact Nat.le_refl _)
      rw [e3] at p
      exact cb_end n1 p k⟩
/-- [te for x in xs], each te a new list of ints -/
theorem ev_lcB {xs : List α} {f : α → List Int} (h : EVr tl σ B (lst r) xs) (hz : xs.length ≤ 40000) (hw : ∀ v, wipe ((wipe σ ws).set j (some v)) ws = wipe σ ws)
    (he : ∀ x v B1, x ∈ xs → Ex B B1 → r.p B1 v x → EVn te ((wipe σ ws).set j (some v)) B1 int (f x)) : EV (tLc (iList K tl) (gName j) tYes te ws) σ B (poB (xs.map f)) :=
  EV.of fun H e Q k => h.run e fun v B1 H1 n1 ⟨a, vs, h1, h2, h3⟩ => ⟨a, h1, ⟨vs, SqL.of (n1.bh _ _ h2)⟩, fun D hD =>
    lc_list (K := K) (a := a) (xs := vs) (fun i H' => CB B1 H1 D ((xs.take i).map f) H') (by rw [List.take_zero]; exact cb_start n1.bh hD)
      (fun i H' _ ⟨Bi, us, n, _⟩ => SqL.of (n.bh _ _ (n.bb _ _ h2)))
      (fun i v H' hi p => by
        obtain ⟨x, hx, hr⟩ := paired_getL h3 hi
        exact ⟨hw v, cb_turn p hx (by have := (List.getElem?_eq_some_iff.mp hx).1; omega) (he x v B1 (List.mem_of_getElem? hx) n1.bb hr)⟩)
      (fun H' p => by
        rw [paired_len h3, List.take_length] at p
        exact cb_end n1 p k)⟩
end
end MK

namespace MK
open PySem PySem.Spec PyProof.Rows L2 Evl
/-! ### lists of one's own that change: p stands in the heap, not in the known part -/
theorem Nw.mut {B0 H0 B H : Hp} {p : Addr} {o : HO} (n : Nw B0 H0 B H) (hb : B p = none) (h0 : H0 p = none) : Nw B0 H0 B (upd H p o) := ⟨n.bb, Ex.mut n.bh hb, Ex.mut n.hh h0, n.fr⟩
theorem Nw.grow {B0 H0 B H H1 : Hp} (n : Nw B0 H0 B H) (e : Ex H H1) : Nw B0 H0 B H1 := ⟨n.bb, n.bh.trans e, n.hh.trans e, n.fr⟩
theorem Nw.adopt {B0 H0 B H : Hp} {p : Addr} {o : HO} (n : Nw B0 H0 B H) (hb : B p = none) (h0 : H0 p = none) (hp : H p = some o) : Nw B0 H0 (upd B p o) H := ⟨n.bb.trans (Ex.new hb), fun a u h => by
  by_cases ha : a = p
  · subst ha; rw [upd_same] at h; cases h; exact hp
  · rw [upd_ne ha] at h; exact n.bh a u h, n.hh, fun a h => by
  have ha : a ≠ p := fun z => by subst z; exact h h0
  rw [upd_ne ha]; exact n.fr a h⟩
theorem Nw.back {B0 H0 B H H1 : Hp} (n : Nw B0 H0 B H) (e : Ex B H1) (h : Ex H0 H1) : Nw B0 H0 B H1 := ⟨n.bb, e, h, n.fr⟩
theorem some_ne {H : Hp} {a : Addr} {o : HO} (h : H a = some o) : H a ≠ none := by rw [h]; intro z; cases z
theorem poL_own {α : Type} {r : R α} {xs : List α} {H B : Hp} {p : Addr} {vs : List V} (h0 : H p = none) (hb : B p = none) (h : Paired (r.p B) vs xs) : (poL r xs).P H (upd B p (.lst vs)) (.ref p) := ⟨p, vs, B, rfl, h0, hb, rfl, h⟩
section
variable {α β γ ζ : Type} {r : R α} {q : R β} {s : R γ} {x : α} {y : β} {σ : St} {B B' : Hp} {ta tb tc td te tl : TE} {P P' : Po} {b c : Bool} {i k z : Int} {K : PySem.W.Frag} {j : Nat} {ws : List Nat} {tt : TT} {D : Ends} {tu tw : TS} {H : Hp} {t : TT} {p : Addr} {vs : List V}
theorem w_seq (h : tu { D with nx := tw D } σ H) : tSeq tu tw D σ H := h
theorem w_next (h : D.nx σ H) : tNext D σ H := h
/-- x = a new list of one's own -/
theorem w_setL {n : Nat} {xs : List α} (e : Ex B H) (h : EVn te σ B r xs) (k : ∀ p vs B1 H1, Nw B H B1 H1 → H p = none → B1 p = none → H1 p = some (.lst vs) → Paired (r.p B1) vs xs → D.nx (σ.set n (some (.ref p))) H1) : tAsg te (gName n) D σ H :=
  h.run e fun v B1 H1 m ⟨a, vs, B0, h1, h2, h3, h4, h5⟩ => by
    subst h1
    subst h4
    refine k a vs B0 H1 ⟨fun b o hb => ?_, fun b o hb => ?_, m.hh, fun b hb => ?_⟩ h2 h3 (m.bh _ _ upd_same) h5
    · have nb : b ≠ a := fun z => by subst z; rw [fresh_back e h2] at hb; cases hb
      have := m.bb b o hb
      rwa [upd_ne nb] at this
    · have nb : b ≠ a := fun z => by subst z; rw [h3] at hb; cases hb
      exact m.bh b o (by rw [upd_ne nb]; exact hb)
    · have nb : b ≠ a := fun z => by subst z; exact hb h2
      have := m.fr b hb
      rwa [upd_ne nb] at this
/-- p.append(te) -/
theorem w_app {n : Nat} (e : Ex B H) (hp : H p = some (.lst vs)) (nb : B p = none) (hi : σ[n]? = some (some (.ref p))) (h : EV te σ B P) (hz : vs.length < 100000)
    (k : ∀ v B1 H1, Nw B H B1 H1 → B1 p = none → P.P H B1 v → D.nx σ (upd H1 p (.lst (vs ++ [v])))) : tDrop (tBM K "list" rAppend (tVar n) (tCons te tNil)) D σ H :=
  ⟨.ref p, hi, Or.inl ⟨rfl, vs, SqL.of hp⟩, h.run e fun v B1 H1 m hv => ⟨p, vs, v, rfl, rfl, m.hh _ _ hp, sz_lt hz, k v B1 H1 m (m.ne (some_ne hp) nb) hv⟩⟩
/-- for k in range(n) -/
theorem w_forR {n : Nat} (e : Ex B H) (h : EVr ta σ B int (n : Int)) (hn : n ≤ 100000) (I : Nat → St → Hp → Prop) (h0 : ∀ H1, Ex H H1 → I 0 σ H1)
    (hs : ∀ i σ' H', i < n → I i σ' H' → tu { D with nx := I (i + 1), ct := I (i + 1), bk := D.nx } (σ'.set j (some (.int (i : Int)))) H') (hd : ∀ σ' H', I n σ' H' → D.nx σ' H') : tFor (iRng1 (tCons ta tNil)) (gName j) tu D σ H :=
  h.run e fun v B1 H1 m hv => ⟨(n : Int), by rw [hv], by omega, by omega, by
    have e2 : (n : Int).toNat = n := by omega
    rw [e2]
    refine for_range (lo := 0) (n := n) I (h0 H1 m.hh) (fun i σ' H' hi p => ?_) hd
    have e0 : (0 : Int) + (i : Int) = (i : Int) := Int.zero_add _
    rw [e0]
    exact hs i σ' H' hi p⟩
/-- for x in xs, xs a known list; what may change stands outside the known part -/
theorem w_forL {xs : List α} (e : Ex B H) (h : EVr tl σ B (lst r) xs) (I : Hp → Nat → St → Hp → Prop) (h0 : ∀ B1 H1, Nw B H B1 H1 → I B1 0 σ H1) (hk : ∀ B1 i σ' H', I B1 i σ' H' → Sx B1 H')
    (hs : ∀ B1 H1 i x v σ' H', Nw B H B1 H1 → xs[i]? = some x → r.p B1 v x → I B1 i σ' H' → tu { D with nx := I B1 (i + 1), ct := I B1 (i + 1), bk := D.nx } (σ'.set j (some v)) H') (hd : ∀ B1 σ' H', I B1 xs.length σ' H' → D.nx σ' H') : tFor (iList K tl) (gName j) tu D σ H :=
  h.run e fun v B1 H1 m ⟨a, vs, h1, h2, h3⟩ => ⟨a, h1, ⟨vs, SqL.of (m.bh _ _ h2)⟩, for_list (K := K) (a := a) (xs := vs) (I B1) (h0 B1 H1 m) (fun i σ' H' _ p => SqL.of ((hk B1 i σ' H' p).l h2))
    (fun i v σ' H' hi p => by
      obtain ⟨x, hx, hr⟩ := paired_getL h3 hi
      exact hs B1 H1 i x v σ' H' m hx hr p) (fun σ' H' p => hd B1 σ' H' (by rw [paired_len h3] at p; exact p))⟩
/-! ### the same with what follows -/
theorem q_set {n : Nat} (e : Ex B H) (h : EV te σ B P) (k : ∀ v B1 H1, Nw B H B1 H1 → P.P H B1 v → tw D (σ.set n (some v)) H1) : tSeq (tAsg te (gName n)) tw D σ H := w_set (D := { D with nx := tw D }) e h k
theorem q_setL {n : Nat} {xs : List α} (e : Ex B H) (h : EVn te σ B r xs) (k : ∀ p vs B1 H1, Nw B H B1 H1 → H p = none → B1 p = none → H1 p = some (.lst vs) → Paired (r.p B1) vs xs → tw D (σ.set n (some (.ref p))) H1) : tSeq (tAsg te (gName n)) tw D σ H := w_setL (D := { D with nx := tw D }) e h k
theorem q_drop (e : Ex B H) (h : EV te σ B P) (k : ∀ v B1 H1, Nw B H B1 H1 → P.P H B1 v → tw D σ H1) : tSeq (tDrop te) tw D σ H := w_drop (D := { D with nx := tw D }) e h k
theorem q_app {n : Nat} (e : Ex B H) (hp : H p = some (.lst vs)) (nb : B p = none) (hi : σ[n]? = some (some (.ref p))) (h : EV te σ B P) (hz : vs.length < 100000)
    (k : ∀ v B1 H1, Nw B H B1 H1 → B1 p = none → P.P H B1 v → tw D σ (upd H1 p (.lst (vs ++ [v])))) : tSeq (tDrop (tBM K "list" rAppend (tVar n) (tCons te tNil))) tw D σ H := w_app (D := { D with nx := tw D }) e hp nb hi h hz k
theorem q_forR {n : Nat} (e : Ex B H) (h : EVr ta σ B int (n : Int)) (hn : n ≤ 100000) (I : Nat → St → Hp → Prop) (h0 : ∀ H1, Ex H H1 → I 0 σ H1)
    (hs : ∀ i σ' H', i < n → I i σ' H' → tu { D with nx := I (i + 1), ct := I (i + 1), bk := tw D } (σ'.set j (some (.int (i : Int)))) H') (hd : ∀ σ' H', I n σ' H' → tw D σ' H') : tSeq (tFor (iRng1 (tCons ta tNil)) (gName j) tu) tw D σ H := w_forR (D := { D with nx := tw D }) e h hn I h0 hs hd
theorem q_forL {xs : List α} (e : Ex B H) (h : EVr tl σ B (lst r) xs) (I : Hp → Nat → St → Hp → Prop) (h0 : ∀ B1 H1, Nw B H B1 H1 → I B1 0 σ H1) (hk : ∀ B1 i σ' H', I B1 i σ' H' → Sx B1 H')
    (hs : ∀ B1 H1 i x v σ' H', Nw B H B1 H1 → xs[i]? = some x → r.p B1 v x → I B1 i σ' H' → tu { D with nx := I B1 (i + 1), ct := I B1 (i + 1), bk := tw D } (σ'.set j (some v)) H') (hd : ∀ B1 σ' H', I B1 xs.length σ' H' → tw D σ' H') : tSeq (tFor (iList K tl) (gName j) tu) tw D σ H := w_forL (D := { D with nx := tw D }) e h I h0 hk hs hd
/-- an if without else, what follows -/
theorem q_if (e : Ex B H) (h : EVT t σ B b) (k1 : b = true → ∀ H1, Ex H H1 → tu { D with nx := tw D } σ H1) (k2 : b = false → ∀ H1, Ex H H1 → tw D σ H1) : tSeq (tIfS t tu tNext) tw D σ H := w_if (D := { D with nx := tw D }) e h k1 k2
/-- .. as the end of a turn -/
theorem w_if0 (e : Ex B H) (h : EVT t σ B b) (k1 : b = true → ∀ H1, Ex H H1 → tu D σ H1) (k2 : b = false → ∀ H1, Ex H H1 → D.nx σ H1) : tIfS t tu tNext D σ H := w_if e h k1 k2
end
end MK

local macro_rules | `(tactic| walk_at "ex") => `(tactic| first
  | exact Ex.refl _ | assumption | exact MK.Nw.bb (by assumption) | exact MK.Nw.bh (by assumption)
  | exact Ex.trans (by assumption) (by assumption) | exact Ex.trans (MK.Nw.bb (by assumption)) (MK.Nw.bb (by assumption)))
local macro_rules | `(tactic| walk_at "st") => `(tactic| first
  | assumption | (focus (apply MK.R.stE; rotate_left; assumption; walk_at "ex")))
local macro_rules | `(tactic| walk_at "ev") => `(tactic| first
  | ((fail_if_success (with_reducible apply MK.ev_dummy)); walk_at "ev1"))
local macro_rules | `(tactic| walk_at "ev1") => `(tactic| first
  | with_reducible exact MK.ev_int | with_reducible exact MK.ev_bl
  | ((with_reducible apply MK.ev_varI); rfl) | ((with_reducible apply MK.ev_varB); rfl)
  | ((with_reducible apply MK.ev_var); rfl; walk_at "st")
  | ((with_reducible apply MK.ev_ii); walk_at "ev"; walk_at "ev"; rfl) | ((with_reducible apply MK.ev_iib); walk_at "ev"; walk_at "ev"; rfl)
  | ((with_reducible apply MK.ev_eqI); walk_at "ev"; walk_at "ev") | ((with_reducible apply MK.ev_neI); walk_at "ev"; walk_at "ev")
  | ((with_reducible apply MK.ev_len); walk_at "ev") | ((with_reducible apply MK.ev_sum); walk_at "ev") | ((with_reducible apply MK.EV.of_n); (with_reducible apply MK.ev_list); walk_at "ev")
  | ((with_reducible apply MK.ev_tup2); walk_at "ev"; walk_at "ev") | ((with_reducible apply MK.ev_neg); walk_at "ev"))
local macro_rules | `(tactic| walk_at "et") => `(tactic| first
  | ((fail_if_success (with_reducible apply MK.t_dummy)); walk_at "et1"))
local macro_rules | `(tactic| walk_at "et1") => `(tactic| first
  | ((with_reducible apply MK.t_test); walk_at "ev") | ((with_reducible apply MK.t_B); walk_at "ev")
  | ((with_reducible apply Evl.et_not); walk_at "et") | ((with_reducible apply MK.t_chain); walk_at "ev"; walk_at "ev"; rfl; (intro _; walk_at "ev"); rfl)
  | ((with_reducible apply Evl.et_and); walk_at "et"; (intro _; walk_at "et")) | ((with_reducible apply Evl.et_or); walk_at "et"; (intro _; walk_at "et")))

namespace MK
open PySem PySem.Spec PyProof.Rows L2 Evl

/-! ### the error classes; promises of defs that may raise -/
structure Er where
  (MarkError NoBoard NoCounts NoNumber NoneSuch NoExchange NotAlike : Addr)
def sp1x {α : Type} (r : R α) (f : α → Sum Addr Po) : Sp := fun vs H Q E => ∃ B v x, Ex B H ∧ vs = [v] ∧ r.p B v x ∧ (∀ C, f x = .inl C → ∀ H', Ex H H' → E (.ref C) none H') ∧ (∀ po, f x = .inr po → ∀ u B' H', Nw B H B' H' → po.P H B' u → Q u H')
def sp2x {α β : Type} (r : R α) (q : R β) (f : α → β → Sum Addr Po) : Sp := fun vs H Q E => ∃ B v w x y, Ex B H ∧ vs = [v, w] ∧ r.p B v x ∧ q.p B w y ∧ (∀ C, f x y = .inl C → ∀ H', Ex H H' → E (.ref C) none H') ∧ (∀ po, f x y = .inr po → ∀ u B' H', Nw B H B' H' → po.P H B' u → Q u H')
def sp3x {α β γ : Type} (r : R α) (q : R β) (s : R γ) (f : α → β → γ → Sum Addr Po) : Sp := fun vs H Q E => ∃ B v w t x y z, Ex B H ∧ vs = [v, w, t] ∧ r.p B v x ∧ q.p B w y ∧ s.p B t z ∧ (∀ C, f x y z = .inl C → ∀ H', Ex H H' → E (.ref C) none H') ∧ (∀ po, f x y z = .inr po → ∀ u B' H', Nw B H B' H' → po.P H B' u → Q u H')
def poN : Po := ⟨fun _ _ v => v = .non, fun _ h => h, fun _ h => h⟩
/-- a tuple of two new lists of ints that are two -/
def poPair (xs ys : List Int) : Po where
  P := fun H B v => ∃ t p q, v = .ref t ∧ H t = none ∧ B t = some (.tup [.ref p, .ref q]) ∧ p ≠ q ∧ H p = none ∧ H q = none ∧ IsRow B p xs ∧ IsRow B q ys
  up := fun e ⟨t, p, q, h1, h0, h2, h3, h4, h5, h6, h7⟩ => ⟨t, p, q, h1, h0, e _ _ h2, h3, h4, h5, e _ _ h6, e _ _ h7⟩
  dn := fun e ⟨t, p, q, h1, h0, h2, h3, h4, h5, h6, h7⟩ => ⟨t, p, q, h1, fresh_back e h0, h2, h3, fresh_back e h4, fresh_back e h5, h6, h7⟩
theorem poPair_pr {xs ys : List Int} {H B : Hp} {v : V} (h : (poPair xs ys).P H B v) : (pr il il).p B v (xs, ys) := by
  obtain ⟨t, p, q, h1, h0, h2, h3, h4, h5, h6, h7⟩ := h
  exact ⟨t, _, _, h1, h2, il_of h6, il_of h7⟩
def tRz (C : Addr) (W : WX) : TS := fun _ σ H => W (.ref C) none σ H

/-! ### what the defs reckon -/
def wide (b : List (List Int)) : Nat := (b.headD []).length
def cell01 (c : Int) : Bool := c == 0 || c == 1
def isB (b : List (List Int)) : Bool := decide (1 ≤ b.length) && decide (b.length ≤ 6) && decide (1 ≤ wide b) && decide (wide b ≤ 6) && b.all fun row => row.length == wide b && row.all cell01
def rowsF (b : List (List Int)) : List Int := b.map List.sum
def colsF (b : List (List Int)) : List Int := (List.range (wide b)).map fun k => (b.map fun row => row.getD k 0).sum
def cellF (ns : List Int) (k : Int) : Int := ns.getD k.toNat 0
def bitsOf : Int → Nat → List Int
  | _, 0 => []
  | m, n + 1 => m % 2 :: bitsOf (m / 2) n
def numF (c : Int) : Int := (c % 1000000007 + 12345) * 48271 % 1000000007
def num2F (c : Int) : Int := numF c * numF c % 1000000007 / 8
def bitsF (c : Int) (n : Nat) : List Int := bitsOf (num2F c) n
def highF (ns : List Int) (at_ most : Int) : Nat := (1 + cellF ns at_ % most).toNat
def boardF (ns : List Int) (at_ most : Int) : List (List Int) := (List.range (highF ns at_ most)).map fun (row : Nat) => bitsF (cellF ns (at_ + 2 + (row : Int)) + 977 * (row : Int)) (highF ns (at_ + 1) most)
def addF (b : List (List Int)) : List Int := b.foldl (fun cs row => List.zipWith (· + ·) cs row) ((b.headD []).map fun _ => 0)

/-! ### promises -/
def sp_is_board : Sp := sp1 bd (fun _ => True) fun b => poR bl (isB b)
def sp_asked_board (C : Er) : Sp := sp1x bd fun b => if isB b = true then .inr poN else .inl C.NoBoard
def sp_counts (C : Er) : Sp := sp1x bd fun b => if isB b = true then .inr (poPair (rowsF b) (colsF b)) else .inl C.NoBoard
def sp__law_cell_at (K : PySem.W.Frag) : Sp := fun vs H Q _ => ∃ a ns k, vs = [.ref a, .int k] ∧ SqL K H a (ns.map V.int) ∧ 0 ≤ k ∧ Q (.int (cellF ns k)) H
def sp__law_bits : Sp := sp2 int int (fun _ n => 0 ≤ n ∧ n ≤ 100) fun c n => poL int (bitsF c n.toNat)
def sp__law_board_by (K : PySem.W.Frag) : Sp := fun vs H Q _ => ∃ B a ns at_ most, Ex B H ∧ vs = [.ref a, .int at_, .int most] ∧ SqL K B a (ns.map V.int) ∧ 0 ≤ at_ ∧ 1 ≤ most ∧ most ≤ 6 ∧ ∀ u B' H', Nw B H B' H' → (poB (boardF ns at_ most)).P H B' u → Q u H'
def sp__law_counts : Sp := sp1 bd (fun b => b ≠ [] ∧ b.length ≤ 100 ∧ (∀ row ∈ b, row.length = wide b) ∧ wide b ≤ 100) fun b => poPair (rowsF b) (addF b)
def sp__law_is_board : Sp := sp1 bd (fun _ => True) fun b => poR bl (isB b)
end MK

namespace MK
open PySem PySem.Spec PyProof.Rows L2 Evl
def t_is_board (K : PySem.W.Frag) : TS :=
  (tSeq (tIfS (tOr (tNot (tTest (tChain (rI0 fun i j => .bl (decide (i ≤ j))) (rI0 fun i j => .bl (decide (i ≤ j))) (tC (.int 1)) (tCB (rLenS K) (tCons (tVar 0) tNil)) (tC (.int 6))))) (tNot (tTest (tChain (rI0 fun i j => .bl (decide (i ≤ j))) (rI0 fun i j => .bl (decide (i ≤ j))) (tC (.int 1)) (tCB (rLenS K) (tCons (tOp (rIxL K) (tVar 0) (tC (.int 0))) tNil)) (tC (.int 6))))))
  (tRet (tC (.bl false)))
  tNext)
  (tSeq (tFor (iList K (tVar 0)) (gName 1)
  (tSeq (tIfS (tTest (tOp rNe (tCB (rLenS K) (tCons (tVar 1) tNil)) (tCB (rLenS K) (tCons (tOp (rIxL K) (tVar 0) (tC (.int 0))) tNil))))
  (tRet (tC (.bl false)))
  tNext)
  (tFor (iList K (tVar 1)) (gName 2)
  (tIfS (tAnd (tTest (tOp rNe (tVar 2) (tC (.int 0)))) (tTest (tOp rNe (tVar 2) (tC (.int 1)))))
  (tRet (tC (.bl false)))
  tNext))))
  (tRet (tC (.bl true)))))
def t_asked_board (K : PySem.W.Frag) (W : WX) (C : Er) : TS :=
  (tIfS (tNot (tB (tCall (sp_is_board) [] E0 (tCons (tVar 0) tNil))))
  (tRz C.NoBoard W)
  tNext)
def t_counts (K : PySem.W.Frag) (W : WX) (C : Er) : TS :=
  (tSeq (tDrop (tCallS (sp_asked_board C) (WE W) (tCons (tVar 0) tNil)))
  (tRet (tTup (tCons (tLc (iList K (tVar 0)) (gName 1) tYes (tCB (rSum K) (tCons (tVar 1) tNil)) [1]) (tCons (tLc (iRng1 (tCons (tCB (rLenS K) (tCons (tOp (rIxL K) (tVar 0) (tC (.int 0))) tNil)) tNil)) (gName 2) tYes (tCB (rSum K) (tCons (tLc (iList K (tVar 0)) (gName 1) tYes (tOp (rIxL K) (tVar 1) (tVar 2)) [1]) tNil)) [2]) tNil)))))
def t__law_cell_at (K : PySem.W.Frag) : TS :=
  (tSeq (tIfS (tTest (tOp (rI0 fun i j => .bl (decide (i < j))) (tVar 1) (tCB (rLenS K) (tCons (tVar 0) tNil))))
  (tRet (tOp (rIxL K) (tVar 0) (tVar 1)))
  tNext)
  (tRet (tC (.int 0))))
def t__law_bits (K : PySem.W.Frag) : TS :=
  (tSeq (tAsg (tOp (rI (fun _ j => 0 < j) fun i j => .int (i % j)) (tOp (rI CMul fun i j => .int (i * j)) (tOp (rI0 fun i j => .int (i + j)) (tOp (rI (fun _ j => 0 < j) fun i j => .int (i % j)) (tVar 0) (tC (.int 1000000007))) (tC (.int 12345))) (tC (.int 48271))) (tC (.int 1000000007))) (gName 2))
  (tSeq (tAsg (tOp (rI CDiv fun i j => .int (i / j)) (tOp (rI (fun _ j => 0 < j) fun i j => .int (i % j)) (tOp (rI CMul fun i j => .int (i * j)) (tVar 2) (tVar 2)) (tC (.int 1000000007))) (tC (.int 8))) (gName 2))
  (tSeq (tAsg (tLst tNil) (gName 3))
  (tSeq (tFor (iRng1 (tCons (tVar 1) tNil)) (gName 4)
  (tSeq (tDrop (tBM K "list" rAppend (tVar 3) (tCons (tOp (rI (fun _ j => 0 < j) fun i j => .int (i % j)) (tVar 2) (tC (.int 2))) tNil)))
  (tAsg (tOp (rI CDiv fun i j => .int (i / j)) (tVar 2) (tC (.int 2))) (gName 2))))
  (tRet (tVar 3))))))
def t__law_board_by (K : PySem.W.Frag) : TS :=
  (tSeq (tAsg (tOp (rI0 fun i j => .int (i + j)) (tC (.int 1)) (tOp (rI (fun _ j => 0 < j) fun i j => .int (i % j)) (tCall (sp__law_cell_at K) [] E0 (tCons (tVar 0) (tCons (tVar 1) tNil))) (tVar 2))) (gName 3))
  (tSeq (tAsg (tOp (rI0 fun i j => .int (i + j)) (tC (.int 1)) (tOp (rI (fun _ j => 0 < j) fun i j => .int (i % j)) (tCall (sp__law_cell_at K) [] E0 (tCons (tVar 0) (tCons (tOp (rI0 fun i j => .int (i + j)) (tVar 1) (tC (.int 1))) tNil))) (tVar 2))) (gName 4))
  (tRet (tLc (iRng1 (tCons (tVar 3) tNil)) (gName 5) tYes (tCall (sp__law_bits) [] E0 (tCons (tOp (rI0 fun i j => .int (i + j)) (tCall (sp__law_cell_at K) [] E0 (tCons (tVar 0) (tCons (tOp (rI0 fun i j => .int (i + j)) (tOp (rI0 fun i j => .int (i + j)) (tVar 1) (tC (.int 2))) (tVar 5)) tNil))) (tOp (rI CMul fun i j => .int (i * j)) (tC (.int 977)) (tVar 5))) (tCons (tVar 4) tNil))) [5]))))
def t__law_counts (K : PySem.W.Frag) : TS :=
  (tSeq (tAsg (tLc (iList K (tOp (rIxL K) (tVar 0) (tC (.int 0)))) (gName 2) tYes (tC (.int 0)) [2]) (gName 1))
  (tSeq (tFor (iList K (tVar 0)) (gName 3)
  (tAsg (tLc (iZip K (tCons (tVar 1) (tCons (tVar 3) tNil))) (gTup K 2 (gCons (gName 4) (gCons (gName 2) gNil))) tYes (tOp (rI0 fun i j => .int (i + j)) (tVar 4) (tVar 2)) [4, 2]) (gName 1)))
  (tRet (tTup (tCons (tLc (iList K (tVar 0)) (gName 3) tYes (tCB (rSum K) (tCons (tVar 3) tNil)) [3]) (tCons (tVar 1) tNil))))))
def t__law_is_board (K : PySem.W.Frag) : TS :=
  (tSeq (tIfS (tOr (tNot (tB (tCB (rIsi K) (tCons (tVar 0) (tCons (tC (.ty "list")) tNil))))) (tNot (tTest (tChain (rI0 fun i j => .bl (decide (i ≤ j))) (rI0 fun i j => .bl (decide (i ≤ j))) (tC (.int 1)) (tCB (rLenS K) (tCons (tVar 0) tNil)) (tC (.int 6))))))
  (tRet (tC (.bl false)))
  tNext)
  (tSeq (tFor (iList K (tVar 0)) (gName 1)
  (tSeq (tIfS (tOr (tNot (tB (tCB (rIsi K) (tCons (tVar 1) (tCons (tC (.ty "list")) tNil))))) (tOr (tNot (tTest (tChain (rI0 fun i j => .bl (decide (i ≤ j))) (rI0 fun i j => .bl (decide (i ≤ j))) (tC (.int 1)) (tCB (rLenS K) (tCons (tVar 1) tNil)) (tC (.int 6))))) (tTest (tOp rNe (tCB (rLenS K) (tCons (tVar 1) tNil)) (tCB (rLenS K) (tCons (tOp (rIxL K) (tVar 0) (tC (.int 0))) tNil))))))
  (tRet (tC (.bl false)))
  tNext)
  (tFor (iList K (tVar 1)) (gName 2)
  (tIfS (tOr (tNot (tB (tCB (rIsi K) (tCons (tVar 2) (tCons (tC (.ty "int")) tNil))))) (tOr (tB (tCB (rIsi K) (tCons (tVar 2) (tCons (tC (.ty "bool")) tNil)))) (tAnd (tTest (tOp rNe (tVar 2) (tC (.int 0)))) (tTest (tOp rNe (tVar 2) (tC (.int 1)))))))
  (tRet (tC (.bl false)))
  tNext))))
  (tRet (tC (.bl true)))))

end MK

namespace MK
open PySem PySem.Spec PyProof.Rows L2 Evl
section
variable {α β γ ζ : Type} {r : R α} {q : R β} {s : R γ} {x : α} {y : β} {σ : St} {B B' : Hp} {ta tb tc td te tl : TE} {P P' : Po} {b c : Bool} {i k z : Int} {K : PySem.W.Frag} {j : Nat} {ws : List Nat} {tt : TT} {D : Ends} {tu tw : TS} {H : Hp} {t : TT} {p : Addr} {vs : List V}
/-! ### isinstance of data -/
theorem ev_isi {tag T : String} (h : EVr te σ B r x) (ht : ∀ {K : PySem.W.Frag} {H : Hp} {v : V}, r.p H v x → TyX K H v (.type tag)) (hk : kitB tag T = some b) : EVr (tCB (rIsi K) (tCons te (tCons (tC (.ty T)) tNil))) σ B bl b := EV.of fun H e Q k =>
  h.run e fun v B1 H1 n1 hv => ⟨v, .ty T, .type tag, .type T, b, rfl, .ty T, ht (r.stE n1.bh hv), kit_ty hk, k _ B1 H1 n1 rfl⟩
theorem ty_lst {xs : List α} {K : PySem.W.Frag} {H : Hp} {v : V} (h : (lst r).p H v xs) : TyX K H v (.type "list") := by
  obtain ⟨a, vs, rfl, h2, _⟩ := h
  exact .base (.lst h2)
theorem ty_int {K : PySem.W.Frag} {H : Hp} {v : V} (h : int.p H v i) : TyX K H v (.type "int") := by
  cases h
  exact .base (.int i)
end
section
variable {vs : List V} {H : Hp} {Q : VK} {E : XK} {K : PySem.W.Frag}

theorem atI_zero {α : Type} {xs : List α} {x : α} (h : xs[0]? = some x) : atI xs 0 = some x := atI_nat (j := 0) h
/-- the cell of the script -/
theorem ev_cell {σ : St} {B : Hp} {n : Nat} {a : Addr} {ns : List Int} {tk : TE} {k : Int} (h : σ[n]? = some (some (.ref a))) (hs : SqL K B a (ns.map V.int)) (hk : EVr tk σ B int k) (h0 : 0 ≤ k) :
    EVr (tCall (sp__law_cell_at K) [] E0 (tCons (tVar n) (tCons tk tNil))) σ B int (cellF ns k) := EV.of fun H e Q q =>
  ⟨.ref a, h, hk.run e fun v B1 H1 n1 hv => ⟨a, ns, k, by rw [hv]; rfl, ex_l (n1.bb.trans n1.bh) hs, h0, q _ B1 H1 n1 rfl⟩⟩
theorem pure_cell (h : sp__law_cell_at K vs H Q E) : t__law_cell_at K { nx := fun _ H' => Q .non H', rt := Q } (L2.start ["script", "k"] vs) H := by
  obtain ⟨a, ns, k, rfl, hs, h0, q⟩ := h
  show t__law_cell_at K _ [some (.ref a), some (.int k)] H
  refine ⟨.int k, rfl, .ref a, rfl, a, _, rfl, .inl hs, _, _, rfl, rfl, _, rfl, ?_⟩
  rw [List.length_map]
  unfold cellF at q
  refine ite2 (fun hc => ?_) (fun hc => ?_)
  · have hl : k < (ns.length : Int) := of_decide_eq_true hc
    have hk : k.toNat < ns.length := by omega
    refine ⟨.ref a, rfl, .int k, rfl, a, _, k, .int (ns.getD k.toNat 0), rfl, rfl, hs, ?_, q⟩
    refine at_of (j := k.toNat) (by omega) ?_
    rw [List.getElem?_map, List.getElem?_eq_getElem hk, List.getD_eq_getElem?_getD, List.getElem?_eq_getElem hk]
    rfl
  · have hl : ¬ k < (ns.length : Int) := fun z => hc (decide_eq_true z)
    have e : ns.getD k.toNat 0 = 0 := by rw [List.getD_eq_getElem?_getD, List.getElem?_eq_none (by omega)]; rfl
    rw [e] at q
    exact q
theorem len_1 {α : Type} {r : R α} {pre : α → Prop} {po : α → Po} (h : sp1 r pre po vs H Q E) : vs.length = 1 := by
  obtain ⟨B, v, x, e, rfl, _⟩ := h
  rfl
theorem len_2 {α β : Type} {r : R α} {q : R β} {pre : α → β → Prop} {po : α → β → Po} (h : sp2 r q pre po vs H Q E) : vs.length = 2 := by
  obtain ⟨B, v, w, x, y, e, rfl, _⟩ := h
  rfl
theorem len_3 {α β γ : Type} {r : R α} {q : R β} {s : R γ} {pre : α → β → γ → Prop} {po : α → β → γ → Po} (h : sp3 r q s pre po vs H Q E) : vs.length = 3 := by
  obtain ⟨B, v, w, t, x, y, z, e, rfl, _⟩ := h
  rfl
theorem len_1x {α : Type} {r : R α} {f : α → Sum Addr Po} (h : sp1x r f vs H Q E) : vs.length = 1 := by
  obtain ⟨B, v, x, e, rfl, _⟩ := h
  rfl
theorem len_2x {α β : Type} {r : R α} {q : R β} {f : α → β → Sum Addr Po} (h : sp2x r q f vs H Q E) : vs.length = 2 := by
  obtain ⟨B, v, w, x, y, e, rfl, _⟩ := h
  rfl
theorem len_3x {α β γ : Type} {r : R α} {q : R β} {s : R γ} {f : α → β → γ → Sum Addr Po} (h : sp3x r q s f vs H Q E) : vs.length = 3 := by
  obtain ⟨B, v, w, t, x, y, z, e, rfl, _⟩ := h
  rfl
/-! ### bits -/
theorem bitsOf_len : ∀ (n : Nat) (m : Int), (bitsOf m n).length = n
  | 0, _ => rfl
  | n + 1, m => by unfold bitsOf; rw [List.length_cons, bitsOf_len n]
theorem bitsOf_01 : ∀ (n : Nat) (m : Int), ∀ x ∈ bitsOf m n, x = 0 ∨ x = 1
  | 0, _, x, h => by simp [bitsOf] at h
  | n + 1, m, x, h => by
    unfold bitsOf at h
    rcases List.mem_cons.mp h with e | h
    · omega
    · exact bitsOf_01 n _ x h
def halve : Int → Nat → Int
  | m, 0 => m
  | m, n + 1 => halve (m / 2) n
theorem halve_succ : ∀ (n : Nat) (m : Int), halve m (n + 1) = halve m n / 2
  | 0, m => rfl
  | n + 1, m => by
    show halve (m / 2) (n + 1) = halve (m / 2) n / 2
    exact halve_succ n (m / 2)
theorem bitsOf_more : ∀ (n : Nat) (m : Int), bitsOf m (n + 1) = bitsOf m n ++ [halve m n % 2]
  | 0, m => rfl
  | n + 1, m => by
    show m % 2 :: bitsOf (m / 2) (n + 1) = (m % 2 :: bitsOf (m / 2) n) ++ [halve (m / 2) n % 2]
    rw [bitsOf_more n (m / 2)]
    rfl
theorem pure_bits (h : sp__law_bits vs H Q E) : t__law_bits K { nx := fun _ H' => Q .non H', rt := Q } (L2.start ["cell", "size", "number", "bits", "k"] vs) H := by
  obtain ⟨B, v, w, c, n, e, rfl, hv, hw, ⟨h0, h1⟩, q⟩ := h
  cases hv
  cases hw
  show t__law_bits K _ [some (.int c), some (.int n), none, none, none] H
  unfold t__law_bits
  have m0 := Nw.refl e
  have b1 : 0 ≤ c % 1000000007 ∧ c % 1000000007 < 1000000007 := by omega
  refine q_set (P := poR int (numF c)) e ?_ fun u B1 H1 n1 hu => ?_
  · refine ev_iic (ev_iic (ev_ii (ev_iic (by walk_at "ev") (by walk_at "ev") (by decide) rfl) (by walk_at "ev") rfl) (by walk_at "ev") ?_ rfl) (by walk_at "ev") (by decide) rfl
    exact .inr ⟨by decide, by decide⟩
  cases hu
  have m1 := m0.trans n1
  have b2 : 0 ≤ numF c ∧ numF c < 1000000007 := by unfold numF; omega
  refine q_set (P := poR int (num2F c)) n1.bh ?_ fun u B2 H2 n2 hu => ?_
  · refine ev_iic (ev_iic (ev_iic (by walk_at "ev") (by walk_at "ev") ?_ rfl) (by walk_at "ev") (by decide) rfl) (by walk_at "ev") ⟨by decide, by decide⟩ rfl
    exact .inr ⟨by omega, by omega⟩
  cases hu
  have m2 := m1.trans n2
  refine q_setL (r := int) (xs := []) n2.bh (ev_lst ea_nil (by decide)) fun p us B3 H3 n3 hp hb hH hP => ?_
  have m3 := m2.trans n3
  have p0 : H p = none := fresh_back m2.hh hp
  cases hP
  refine q_forR (n := n.toNat) n3.bh (EV.eq (x := n) (by walk_at "ev") (by omega)) (by omega) (fun i σ' H' => ∃ y, σ' = [some (.int c), some (.int n), some (.int (halve (num2F c) i)), some (.ref p), y] ∧ Nw B H B3 H' ∧ H' p = some (.lst ((bitsOf (num2F c) i).map V.int)))
    (fun H4 e4 => ⟨none, rfl, m3.grow e4, e4 _ _ hH⟩) ?_ ?_
  · rintro i σ' H' hi ⟨y, rfl, m4, g⟩
    refine q_app (P := poR int (halve (num2F c) i % 2)) m4.bh g hb rfl (ev_iic (by walk_at "ev") (by walk_at "ev") (by decide) rfl) ?_ fun u B5 H5 n5 nb hu => ?_
    · rw [List.length_map, bitsOf_len]; omega
    cases hu
    have m5 : Nw B H B3 H5 := m4.grow n5.hh
    refine w_set (P := poR int (halve (num2F c) i / 2)) (m5.mut hb p0).bh (ev_iic (by walk_at "ev") (by walk_at "ev") ⟨by decide, by decide⟩ rfl) fun u B6 H6 n6 hu => ?_
    cases hu
    refine ⟨some (.int (i : Int)), ?_, (m5.mut hb p0).grow n6.hh, n6.hh _ _ ?_⟩
    · rw [halve_succ]
      rfl
    · rw [upd_same, bitsOf_more, List.map_append]
      rfl
  · rintro σ' H' ⟨y, rfl, m4, g⟩
    refine ⟨.ref p, rfl, q _ _ H' (m4.adopt hb p0 g) ?_⟩
    exact poL_own p0 hb (paired_ints _ _)

end
end MK

namespace MK
open PySem PySem.Spec PyProof.Rows L2 Evl
section
variable {vs : List V} {H : Hp} {Q : VK} {E : XK} {K : PySem.W.Frag}
theorem highF_le {ns : List Int} {a m : Int} (h1 : 1 ≤ m) (h2 : m ≤ 6) : 1 ≤ highF ns a m ∧ highF ns a m ≤ 6 := by
  unfold highF
  have h3 := Int.emod_nonneg (cellF ns a) (show m ≠ 0 by omega)
  have h4 := Int.emod_lt_of_pos (cellF ns a) (show 0 < m by omega)
  omega
theorem ev_bits {σ : St} {B : Hp} {tc tn : TE} {c n : Int} (h1 : EVr tc σ B int c) (h2 : EVr tn σ B int n) (hn : 0 ≤ n ∧ n ≤ 100) : EVn (tCall (sp__law_bits) [] E0 (tCons tc (tCons tn tNil))) σ B int (bitsF c n.toNat) := ev_call2 h1 h2 hn
theorem pure_board_by (h : sp__law_board_by K vs H Q E) : t__law_board_by K { nx := fun _ H' => Q .non H', rt := Q } (L2.start ["script", "at", "most", "high", "wide", "row"] vs) H := by
  obtain ⟨B, a, ns, at_, most, e, rfl, hs, h0, h1, h2, q⟩ := h
  show t__law_board_by K _ [some (.ref a), some (.int at_), some (.int most), none, none, none] H
  unfold t__law_board_by
  have m0 := Nw.refl e
  have g1 := highF_le (ns := ns) (a := at_) h1 h2
  have g2 := highF_le (ns := ns) (a := at_ + 1) h1 h2
  refine q_set (P := poR int (highF ns at_ most : Nat)) e ?_ fun u B1 H1 n1 hu => ?_
  · refine ev_ii (i := 1) (by walk_at "ev") (ev_iic (ev_cell (k := at_) rfl hs (by walk_at "ev") h0) (j := most) (by walk_at "ev") (by omega) rfl) ?_
    show V.int (1 + cellF ns at_ % most) = V.int _
    unfold highF at *
    have h3 := Int.emod_nonneg (cellF ns at_) (show most ≠ 0 by omega)
    rw [Int.toNat_of_nonneg (by omega)]
  cases hu
  have m1 := m0.trans n1
  refine q_set (P := poR int (highF ns (at_ + 1) most : Nat)) n1.bh ?_ fun u B2 H2 n2 hu => ?_
  · refine ev_ii (i := 1) (by walk_at "ev") (ev_iic (ev_cell (k := at_ + 1) rfl (ex_l n1.bb hs) (ev_ii (i := at_) (j := 1) (by walk_at "ev") (by walk_at "ev") rfl) (by omega)) (j := most) (by walk_at "ev") (by omega) rfl) ?_
    show V.int (1 + cellF ns (at_ + 1) % most) = V.int _
    unfold highF at *
    have h3 := Int.emod_nonneg (cellF ns (at_ + 1)) (show most ≠ 0 by omega)
    rw [Int.toNat_of_nonneg (by omega)]
  cases hu
  have m2 := m1.trans n2
  refine w_ret (P := poB (boardF ns at_ most)) n2.bh ?_ fun u B3 H3 n3 hu => q u B3 H3 (m2.trans n3) ((poB _).dn m2.hh hu)
  refine ev_lcRB (n := highF ns at_ most) (f := fun row => bitsF (cellF ns (at_ + 2 + (row : Int)) + 977 * (row : Int)) (highF ns (at_ + 1) most)) (by walk_at "ev") (by omega) (fun _ => rfl) fun i B4 hi e4 => ?_
  have hn : ((highF ns (at_ + 1) most : Nat) : Int).toNat = highF ns (at_ + 1) most := by omega
  rw [← hn]
  refine ev_bits (n := ((highF ns (at_ + 1) most : Nat) : Int)) ?_ (by walk_at "ev") (by omega)
  refine ev_ii (ev_cell (k := at_ + 2 + (i : Int)) rfl (ex_l (m2.bb.trans e4) hs) ?_ (by omega)) (ev_iic (i := 977) (j := (i : Int)) (by walk_at "ev") (by walk_at "ev") (.inl ⟨by decide, by decide⟩) rfl) rfl
  exact ev_ii (ev_ii (i := at_) (j := 2) (by walk_at "ev") (by walk_at "ev") rfl) (by walk_at "ev") rfl
/-! ### is_board -/
theorem hd_at {b : List (List Int)} (h : 1 ≤ b.length) : b[0]? = some (b.headD []) := by
  cases b with
  | nil => simp at h
  | cons x r => rfl
theorem ev_wide {σ : St} {B : Hp} {n : Nat} {v : V} {b : List (List Int)} (hv : σ[n]? = some (some v)) (hb : bd.p B v b) (h : 1 ≤ b.length) : EVr (tCB (rLenS K) (tCons (tOp (rIxL K) (tVar n) (tC (.int 0))) tNil)) σ B int (wide b : Nat) :=
  ev_len (ev_ix (r := il) (ev_var hv hb) (by walk_at "ev") (atI_zero (hd_at h)))
theorem pure_is_board (h : sp_is_board vs H Q E) : t_is_board K { nx := fun _ H' => Q .non H', rt := Q } (L2.start ["board", "row", "cell"] vs) H := by
  obtain ⟨B, v, b, e, rfl, hv, -, q⟩ := h
  show t_is_board K _ [some v, none, none] H
  unfold t_is_board
  have m0 := Nw.refl e
  by_cases hl : 1 ≤ b.length
  case neg =>
    refine q_if (b := true) e ?_ (fun _ H1 e1 => ?_) (fun h => by cases h)
    · refine t_eq (Evl.et_or (b := true) (Evl.et_not (t_chain (i := 1) (j := (b.length : Int)) (k := 6) (b := decide ((1 : Int) ≤ (b.length : Int))) (by walk_at "ev") (by walk_at "ev") rfl (fun _ => by walk_at "ev") rfl)) (fun h => ?_)) (by simp)
      exfalso
      rw [decide_eq_false (by omega)] at h
      cases h
    · refine w_ret (e.trans e1) (P := poR bl false) (by walk_at "ev") fun u B2 H2 n2 hu => q u B2 H2 ((m0.grow e1).trans n2) ?_
      have : isB b = false := by unfold isB; rw [decide_eq_false hl]; rfl
      show (poR bl (isB b)).P H B2 u
      rw [this]
      exact hu
  case pos =>
  refine q_if (b := !(decide ((1 : Int) ≤ (b.length : Int)) && decide ((b.length : Int) ≤ 6)) || !(decide ((1 : Int) ≤ (wide b : Int)) && decide ((wide b : Int) ≤ 6))) e ?_ (fun hc H1 e1 => ?_) (fun hc H1 e1 => ?_)
  · exact Evl.et_or (Evl.et_not (t_chain (i := 1) (j := (b.length : Int)) (k := 6) (by walk_at "ev") (by walk_at "ev") rfl (fun _ => by walk_at "ev") rfl)) (fun _ => Evl.et_not (t_chain (i := 1) (j := (wide b : Int)) (k := 6) (by walk_at "ev") (ev_wide rfl hv hl) rfl (fun _ => by walk_at "ev") rfl))
  · refine w_ret (e.trans e1) (P := poR bl false) (by walk_at "ev") fun u B2 H2 n2 hu => q u B2 H2 ((m0.grow e1).trans n2) ?_
    have : isB b = false := by
      unfold isB
      simp only [Bool.or_eq_true, Bool.not_eq_true', Bool.and_eq_false_iff, decide_eq_false_iff_not] at hc
      have : ¬ (1 ≤ b.length ∧ b.length ≤ 6 ∧ 1 ≤ wide b ∧ wide b ≤ 6) := by omega
      simp only [Bool.and_eq_false_iff, decide_eq_false_iff_not]
      omega
    show (poR bl (isB b)).P H B2 u
    rw [this]
    exact hu
  simp only [Bool.or_eq_false_iff, Bool.not_eq_false', Bool.and_eq_true, decide_eq_true_eq] at hc
  have m1 := m0.grow e1
  refine q_forL (r := il) (xs := b) m1.bh (by walk_at "ev") (fun B1 i σ' H' => ∃ y z, σ' = [some v, y, z] ∧ Nw B H B1 H' ∧ ∀ row ∈ b.take i, (row.length == wide b && row.all cell01) = true)
    (fun B1 H2 n => ⟨none, none, rfl, m1.trans n, by simp⟩) (fun B1 i σ' H' ⟨_, _, _, m, _⟩ => Sx.of m.bh) ?_ ?_
  · rintro B1 H1' i row v' σ' H' n1 hi hr ⟨y, z, rfl, m2, hall⟩
    have hv1 := bd.stE m2.bb hv
    have bad : (row.length == wide b && row.all cell01) = false → isB b = false := fun hh => by
      unfold isB
      have : (b.all fun row => row.length == wide b && row.all cell01) = false := List.all_eq_false.mpr ⟨row, List.mem_of_getElem? hi, by rw [hh]; simp⟩
      rw [this, Bool.and_false]
    refine q_if (b := !decide ((row.length : Int) = (wide b : Int))) m2.bh (t_test (ev_neI (ev_len (r := int) (by walk_at "ev")) (ev_wide rfl hv1 hl))) (fun hc2 H2 e2 => ?_) (fun hc2 H2 e2 => ?_)
    · refine w_ret (m2.bh.trans e2) (P := poR bl false) (by walk_at "ev") fun u B3 H3 n3 hu => q u B3 H3 ((m2.grow e2).trans n3) ?_
      show (poR bl (isB b)).P H B3 u
      rw [bad]
      · exact hu
      · have : ¬ row.length = wide b := by
          simp only [Bool.not_eq_true', decide_eq_false_iff_not] at hc2
          omega
        rw [Bool.and_eq_false_iff]
        left
        exact beq_false_of_ne this
    have hlen : row.length = wide b := by
      simp only [Bool.not_eq_false', decide_eq_true_eq] at hc2
      omega
    have m3 := m2.grow e2
    refine w_forL (r := int) (xs := row) m3.bh (by walk_at "ev") (fun B4 j σ' H' => ∃ z, σ' = [some v, some v', z] ∧ Nw B H B4 H' ∧ Ex B1 B4 ∧ ∀ c ∈ row.take j, cell01 c = true)
      (fun B4 H4 n4 => ⟨z, rfl, m3.trans n4, n4.bb, by simp⟩) (fun B4 j σ' H' ⟨_, _, m, _⟩ => Sx.of m.bh) ?_ ?_
    · rintro B4 H4' j c w σ' H4 n4 hj hw ⟨z, rfl, m4, e14, hc4⟩
      cases hw
      refine w_if0 (b := (!decide (c = 0) && !decide (c = 1))) m4.bh (Evl.et_and (t_test (ev_neI (by walk_at "ev") (by walk_at "ev"))) (fun _ => t_test (ev_neI (by walk_at "ev") (by walk_at "ev")))) (fun hc5 H5 e5 => ?_) (fun hc5 H5 e5 => ?_)
      · refine w_ret (m4.bh.trans e5) (P := poR bl false) (by walk_at "ev") fun u B6 H6 n6 hu => q u B6 H6 ((m4.grow e5).trans n6) ?_
        show (poR bl (isB b)).P H B6 u
        rw [bad]
        · exact hu
        · rw [Bool.and_eq_false_iff]
          right
          refine List.all_eq_false.mpr ⟨c, List.mem_of_getElem? hj, ?_⟩
          simp only [Bool.and_eq_true, Bool.not_eq_true', decide_eq_false_iff_not] at hc5
          unfold cell01
          simp [hc5.1, hc5.2]
      · refine ⟨_, rfl, m4.grow e5, e14, fun c' hc' => ?_⟩
        rw [take_succ' hj] at hc'
        rcases List.mem_append.mp hc' with hc' | hc'
        · exact hc4 c' hc'
        · have e : c' = c := by simpa using hc'
          subst e
          simp only [Bool.and_eq_false_iff, Bool.not_eq_false', decide_eq_true_eq] at hc5
          unfold cell01
          rcases hc5 with h | h <;> simp [h]
    · rintro B4 σ' H4 ⟨z, rfl, m4, e14, hc4⟩
      refine ⟨_, _, rfl, m2.back (e14.trans m4.bh) m4.hh, fun row' hr' => ?_⟩
      rw [take_succ' hi] at hr'
      rcases List.mem_append.mp hr' with hr' | hr'
      · exact hall row' hr'
      · have e : row' = row := by simpa using hr'
        subst e
        rw [List.take_length] at hc4
        rw [Bool.and_eq_true]
        exact ⟨beq_iff_eq.mpr hlen, List.all_eq_true.mpr hc4⟩
  · rintro B1 σ' H' ⟨y, z, rfl, m2, hall⟩
    refine w_ret m2.bh (P := poR bl true) (by walk_at "ev") fun u B3 H3 n3 hu => q u B3 H3 (m2.trans n3) ?_
    have : isB b = true := by
      unfold isB
      rw [List.take_length] at hall
      rw [decide_eq_true hl, decide_eq_true (show b.length ≤ 6 by omega), decide_eq_true (show 1 ≤ wide b by omega), decide_eq_true (show wide b ≤ 6 by omega), List.all_eq_true.mpr hall]
      rfl
    show (poR bl (isB b)).P H B3 u
    rw [this]
    exact hu
/-! ### asked_board, counts -/
theorem w_callX {α : Type} {r : R α} {f : α → Sum Addr Po} {x : α} {σ : St} {B : Hp} {ta : TE} {W : WX} {D : Ends} {tw : TS} (e : Ex B H) (h : EVr ta σ B r x) (k1 : ∀ C, f x = .inl C → ∀ H1, Ex H H1 → W (.ref C) none σ H1) (k2 : ∀ po, f x = .inr po → ∀ v B1 H1, Nw B H B1 H1 → po.P H B1 v → tw D σ H1) :
    tSeq (tDrop (tCallS (sp1x r f) (WE W) (tCons ta tNil))) tw D σ H := h.run e fun v B1 H1 n1 hv => ⟨B1, v, x, n1.bh, rfl, hv, fun C hC H2 e2 => k1 C hC H2 (n1.hh.trans e2), fun po hp u B2 H2 n2 hu => k2 po hp u B2 H2 (n1.trans n2) (po.dn n1.hh hu)⟩
theorem pure_asked_board {C : Er} (h : sp_asked_board C vs H Q E) : t_asked_board K (fun cls d _ H => E cls d H) C { nx := fun _ H' => Q .non H', rt := Q } (L2.start ["board"] vs) H := by
  obtain ⟨B, v, b, e, rfl, hv, k1, k2⟩ := h
  show t_asked_board K _ C _ [some v] H
  unfold t_asked_board
  refine w_if0 (b := !isB b) e (Evl.et_not (t_B (ev_call1 (r := bd) (x := b) (by walk_at "ev") trivial))) (fun hc H1 e1 => ?_) (fun hc H1 e1 => ?_)
  · refine k1 _ (if_neg ?_) H1 e1
    intro z
    rw [z] at hc
    cases hc
  · exact k2 _ (if_pos (by simpa using hc)) _ B H1 ((Nw.refl e).grow e1) rfl
theorem ev_rowsum {σ : St} {B : Hp} {tl : TE} {j : Nat} {b : List (List Int)} (h : EVr tl σ B bd b) (hz : b.length ≤ 40000) (hw : ∀ v, wipe ((wipe σ [j]).set j (some v)) [j] = wipe σ [j]) (hj : j < σ.length) :
    EVn (tLc (iList K tl) (gName j) tYes (tCB (rSum K) (tCons (tVar j) tNil)) [j]) σ B int (rowsF b) :=
  ev_lc h hz hw fun row v B1 hm e1 hv => ev_sum (ev_var (by
    have : j < (wipe σ [j]).length := by rw [wipe_length]; exact hj
    rw [List.getElem?_set_self this]) hv)
/-- two new lists in a tuple -/
theorem ev_pair {σ : St} {B : Hp} {ta tb : TE} {xs ys : List Int} (h1 : EVn ta σ B int xs) (h2 : EVn tb σ B int ys) : EV (tTup (tCons ta (tCons tb tNil))) σ B (poPair xs ys) := EV.of fun H e Q k =>
  h1.run e fun v B1 H1 n1 ⟨p, us, A1, e1, f1, f2, f3, f4⟩ => (h2.mono n1.bb).run n1.bh fun w B2 H2 n2 ⟨q, us', A2, e2, g1, g2, g3, g4⟩ => by
    subst e1
    subst e2
    refine ⟨sz_of (by show 2 ≤ 100000; decide), fun t ht => ?_⟩
    have nt := fresh_back n2.bh ht
    have a1 : IsRow B1 p xs := by unfold IsRow; rw [f3, upd_same, paired_int f4]
    have a2 : IsRow B2 q ys := by unfold IsRow; rw [g3, upd_same, paired_int g4]
    refine k _ _ _ ((n1.trans n2).trans (Nw.new n2.bh ht)) ⟨t, p, q, rfl, fresh_back (n1.hh.trans n2.hh) ht, upd_same, fun z => ?_, f1, fresh_back n1.hh g1, ?_, ?_⟩
    · subst z
      have := n1.bh _ _ a1
      rw [g1] at this
      cases this
    · exact Ex.new nt _ _ (n2.bb _ _ a1)
    · exact Ex.new nt _ _ a2
theorem isB_parts {b : List (List Int)} (h : isB b = true) : 1 ≤ b.length ∧ b.length ≤ 6 ∧ 1 ≤ wide b ∧ wide b ≤ 6 ∧ ∀ row ∈ b, row.length = wide b ∧ ∀ c ∈ row, c = 0 ∨ c = 1 := by
  unfold isB at h
  simp only [Bool.and_eq_true, decide_eq_true_eq, List.all_eq_true, beq_iff_eq] at h
  obtain ⟨⟨⟨⟨h1, h2⟩, h3⟩, h4⟩, h5⟩ := h
  refine ⟨h1, h2, h3, h4, fun row hr => ⟨(h5 row hr).1, fun c hc => ?_⟩⟩
  have := (h5 row hr).2 c hc
  unfold cell01 at this
  simpa using this
theorem pure_counts {C : Er} (h : sp_counts C vs H Q E) : t_counts K (fun cls d _ H => E cls d H) C { nx := fun _ H' => Q .non H', rt := Q } (L2.start ["board", "row", "k"] vs) H := by
  obtain ⟨B, v, b, e, rfl, hv, k1, k2⟩ := h
  show t_counts K _ C _ [some v, none, none] H
  unfold t_counts
  refine w_callX (r := bd) (x := b) e (by walk_at "ev") (fun c hc H1 e1 => ?_) (fun po hp u B1 H1 n1 hu => ?_)
  · refine k1 c ?_ H1 e1
    split at hc
    · cases hc
    · rename_i hb
      exact (if_neg hb).trans hc
  have hb : isB b = true := by
    split at hp
    · assumption
    · cases hp
  obtain ⟨l1, l2, l3, l4, l5⟩ := isB_parts hb
  have hv1 := bd.stE n1.bb hv
  refine w_ret n1.bh (P := poPair (rowsF b) (colsF b)) (ev_pair (ev_rowsum (by walk_at "ev") (by omega) (fun _ => rfl) (by show 1 < 3; decide)) ?_) fun u B2 H2 n2 hu => k2 _ (if_pos hb) u B2 H2 (n1.trans n2) ((poPair _ _).dn n1.hh hu)
  show EVn _ _ _ int ((List.range (wide b)).map fun k => (b.map fun row => row.getD k 0).sum)
  refine ev_lcR (n := wide b) (ev_wide rfl hv1 l1) (by omega) (fun _ => rfl) fun k B2 hk e2 => ?_
  have hv2 := bd.stE e2 hv1
  refine ev_sum (EV.of_n (ev_lc (r := il) (xs := b) (f := fun row => row.getD k 0) (ev_var rfl hv2) (by omega) (fun _ => rfl) fun row w B3 hm e3 hw => ?_))
  have hr : row[k]? = some (row.getD k 0) := by
    have hkl : k < row.length := by rw [(l5 row hm).1]; exact hk
    rw [List.getD_eq_getElem?_getD, List.getElem?_eq_getElem hkl]
    rfl
  exact ev_ix (r := int) (xs := row) (ev_var rfl hw) (ev_varI (z := (k : Int)) rfl) (atI_nat hr)
/-- a new list and one of our own, as a tuple -/
theorem w_retPV {σ : St} {B B0 H0 : Hp} {ta : TE} {D : Ends} {i : Nat} {a : Addr} {xs ys : List Int} (h : EVn ta σ B int xs) (hi : σ[i]? = some (some (.ref a))) (hq : IsRow B a ys) (h0 : H0 a = none) (m : Nw B0 H0 B H) (k : ∀ u B' H', Nw B0 H0 B' H' → (poPair xs ys).P H0 B' u → D.rt u H') :
    tRet (tTup (tCons ta (tCons (tVar i) tNil))) D σ H :=
  h.run m.bh fun u1 B4 H4 n4 ⟨p, us', A1, e1, g1, g2, g3, g4⟩ => by
    subst e1
    have hp : IsRow B4 p xs := by unfold IsRow; rw [g3, upd_same, paired_int g4]
    refine ⟨.ref a, hi, sz_of (by show 2 ≤ 100000; decide), fun t ht => ?_⟩
    have nt := fresh_back n4.bh ht
    refine k _ _ _ ((m.trans n4).trans (Nw.new n4.bh ht)) ⟨t, p, a, rfl, fresh_back (m.hh.trans n4.hh) ht, upd_same, fun z => ?_, fresh_back m.hh g1, h0, ?_, ?_⟩
    · subst z
      have := m.bh _ _ hq
      rw [g1] at this
      cases this
    · exact Ex.new nt _ _ hp
    · exact Ex.new nt _ _ (n4.bb _ _ hq)
/-! ### the law's own counting -/
theorem pure_law_counts (h : sp__law_counts vs H Q E) : t__law_counts K { nx := fun _ H' => Q .non H', rt := Q } (L2.start ["board", "columns", "cell", "row", "column"] vs) H := by
  obtain ⟨B, v, b, e, rfl, hv, ⟨h1, h2, h3, h4⟩, q⟩ := h
  show t__law_counts K _ [some v, none, none, none, none] H
  unfold t__law_counts
  have hl : 1 ≤ b.length := by
    cases b with
    | nil => exact absurd rfl h1
    | cons x r => simp
  have m0 := Nw.refl e
  refine q_set (P := poL int ((b.headD []).map fun _ => 0)) e (ev_lc (r := int) (ev_ix (r := il) (ev_var rfl hv) (by walk_at "ev") (atI_zero (hd_at hl))) (by show wide b ≤ _; omega) (fun _ => rfl) fun _ _ _ _ _ _ => by walk_at "ev") fun u B1 H1 n1 hu => ?_
  have m1 := m0.trans n1
  refine q_forL (r := il) (xs := b) m1.bh (by walk_at "ev") (fun B2 i σ' H' => ∃ u y z w B3, σ' = [some v, some u, y, z, w] ∧ Nw B H B3 H' ∧ Ex B2 B3 ∧ (poL int ((b.take i).foldl (fun cs row => List.zipWith (· + ·) cs row) ((b.headD []).map fun _ => 0))).P H B3 u)
    (fun B2 H2 n2 => ⟨u, none, none, none, B2, rfl, m1.trans n2, Ex.refl _, (poL int _).up n2.bb hu⟩) (fun B2 i σ' H' ⟨_, _, _, _, _, _, m, e2, _⟩ => Sx.of (e2.trans m.bh)) ?_ ?_
  · rintro B2 H2 i row w' σ' H' n2 hi hw ⟨u, y, z, w, B3, rfl, m3, e23, hu⟩
    have hlen : ∀ i, i ≤ b.length → ((b.take i).foldl (fun cs row => List.zipWith (· + ·) cs row) ((b.headD []).map fun _ => 0)).length = wide b := fun i => by
      induction i with
      | zero => intro _; simp [wide]
      | succ i ih =>
        intro hi
        obtain ⟨row, hr⟩ : ∃ row, b[i]? = some row := ⟨b[i], List.getElem?_eq_getElem hi⟩
        rw [take_succ' hr, List.foldl_append]
        show (List.zipWith _ _ row).length = _
        rw [List.length_zipWith, ih (by omega), h3 row (List.mem_of_getElem? hr), Nat.min_self]
    have hi' := (List.getElem?_eq_some_iff.mp hi).1
    have hw3 := il.stE e23 hw
    have hu3 := poL_lst hu
    refine w_set (P := poL int _) m3.bh (ev_lcZ (r := int) (s := int) (f := fun x y => x + y) (ev_var rfl hu3) (ev_var rfl hw3) (by rw [hlen i (by omega)]; omega) (by rw [hlen i (by omega), h3 row (List.mem_of_getElem? hi)]) (fun _ _ => rfl) (fun x y v1 w1 B4 _ _ e4 hx hy => ?_)) fun u' B4 H4 n4 hu4 => ?_
    · cases hx
      cases hy
      walk_at "ev"
    · refine ⟨u', y, some w', w, B4, rfl, m3.trans n4, e23.trans n4.bb, ?_⟩
      rw [take_succ' hi, List.foldl_append]
      exact (poL int _).dn m3.hh hu4
  · rintro B2 σ' H' ⟨u, y, z, w, B3, rfl, m3, e23, hu⟩
    rw [List.take_length] at hu
    obtain ⟨a, us, B0, rfl, f1, f2, f3, f4⟩ := hu
    have hq : IsRow B3 a (addF b) := by unfold IsRow; rw [f3, upd_same, paired_int f4]; rfl
    have hv3 := bd.stE m3.bb hv
    exact w_retPV (ev_rowsum (σ := [some v, some (.ref a), y, z, w]) (tl := tVar 0) (j := 3) (b := b) (ev_var rfl hv3) (by omega) (fun _ => rfl) (by show 3 < 5; decide)) rfl hq f1 m3 q
end
end MK

namespace MK
open PySem PySem.Spec PyProof.Rows L2 Evl L2H HotX

/-! ### a def that is called while an exception is handled, for one such exception p -/
structure FnE (P : Program) (w : World) (K : PySem.W.Frag) (mg : Str → Option Value) (base : Heap) (k : Nat) (f : Addr) (fd : FuncData) (ps : List Str) (sp : Sp) (p : Addr × Obj) : Prop where
  ln : ∀ vs H Q E, sp vs H Q E → vs.length = ps.length
  go : ∀ (A : Around) (outer : List Env) (s : Shared) (H : Hp) (args : Args) (us : List Value) (vs : List V) (Q : VK), RoomH k A → Hot1 A p → PinOk outer H s p → Env0 P w K mg base A outer s H → BindsTo s fd args (ps.zip us) → Vals vs us → sp vs H Q E0 →
    codeAny (model P w) A (.call (.ref f) args) (CR CX0 outer P w H s Q E0) s
theorem okE {P : Program} {w : World} {K : PySem.W.Frag} {mg : Str → Option Value} {base : Heap} {x qual : Str} {st : Stmt} {f : Addr} {fd : FuncData} {N ps : List Str} {k : Nat} {sp : Sp} {p : Addr × Obj} (F : Fun K x qual st f fd) (S : FnScope N ps (defScope st)) (ln : ∀ vs H Q E, sp vs H Q E → vs.length = ps.length)
    (hb : ∀ (cdv : Value) (A : Around) (outer : List Env) (s : Shared) (H : Hp) (vs : List V) (Q : VK), Hot1 A p → RoomH k (A.deeper (envOfC qual (defScope st) s.heap.objs.size f cdv)) → sp vs H Q E0 →
      ∃ t, PSs (cxH CX0 P w K mg base N qual (defScope st) f cdv A outer s H E0 p) (defBody st) t ∧ t { nx := fun _ H' => Q .non H', rt := Q } (L2.start N vs) H) : FnE P w K mg base (k + 1) f fd ps sp p := by
  obtain ⟨_, _, _, _, _, _, cdv, _, _, rfl, lk, co⟩ := F.ex
  refine ⟨ln, fun A outer s H args us vs Q hr hot hpin env hbind rv h => ?_⟩
  have kin : K.In s.heap := env.mod.kin.keeps fun b o q => (env.bs b o q).1
  have nol : s.heap.NoLimit := env.mod.nolimit.keeps fun b o q => (env.bs b o q).1
  refine codeAny_call_function hr.depth (kin _ _ lk) rfl S.co S.gen rfl (PySem.W.codeRec_of kin co) (hbind _ _ _ _ ?_)
  refine wpAny_newFunctionEnv_cells S.kind (fun y hy => ?_) fun env' ev s1 ic => ?_
  · rcases S.par y.1 (List.of_mem_zip (a := y.1) (b := y.2) hy).1 with q | q
    · exact .inl q
    · exact .inr ⟨q, PySem.W.cellsFrom_some _ _ _ (.inl q)⟩
  subst ev
  refine ⟨nol.keeps ic.toInCall.keep, codeAny_func ?_⟩
  obtain ⟨t, ht, q⟩ := hb cdv A outer s H vs Q hot (hr.deeper _) h
  have I := inv_startH (CX := CX0) (E := E0) S hpin env (ln _ _ _ _ h) rv ic
  refine wpAny_mono (ht.run [] s1 _ H _ I q) (fun fl s2 r => ?_) fun _ _ r => r
  cases fl with
  | ret u =>
    obtain ⟨v, σ2, H2, J, rv2, q2⟩ := r
    exact ⟨v, H2, J.os, J.bare, J.base, J.hok, rv2, q2⟩
  | next =>
    obtain ⟨σ2, H2, J, q2⟩ := r
    exact ⟨.non, H2, J.os, J.bare, J.base, J.hok, rfl, q2⟩
  | brk => exact r.elim fun _ ⟨_, _, no⟩ => no.elim
  | cont => exact r.elim fun _ ⟨_, _, no⟩ => no.elim
section
variable {X : Cx} {k k' : Nat} {f : Addr} {fd : FuncData} {ps : List Str} {sp : Sp} {x : Str} {q pos : Pos} {e : Expr} {es : List Expr} {t : TA} {p : Addr × Obj}
theorem pe_callE (F : FnE X.prog X.w X.K X.mg X.base k f fd ps sp p) (hr : RoomH k X.A) (hot : Hot1 X.A p) (hp : p ∈ X.pn) (hm : X.mg x = some (.ref f)) (hk : PySem.W.keepIn X.K (.ref f) = true) (hb : Binds X.K fd ps []) (ha : PA X (e :: es) t) (hg : Gl X x := by rfl)
    (hdb : (x == ("__debug__" : Str)) = false := by decide) (he : starEach (e :: es) X.env = (false, eval e X.env) :: starEach es X.env := by rfl) (hpl : (backTo pos (starEach es X.env)).any (·.1) = false := by rfl) :
    PE X (.Call (.Name x q) (e :: es) [] pos) (tCall sp [] E0 t) := by
  refine ⟨fun pins s σ H Q I h => wpAny_Call_Name_kw (ld_glob I hg hm ?_ hdb)⟩
  refine PySem.W.callWith_K (h₀ := X.base) I.ok.mod.kin hk (thn (ha.run pos pins s σ H _ I h) fun us s1 ⟨vs, H1, I1, rv, z⟩ => ⟨I1.kIn, ?_⟩) he hpl
  have z : sp (vs ++ []) H1 Q E0 := z
  rw [List.append_nil] at z
  have hl : us.length = ps.length := by rw [← rv.length]; exact F.ln _ _ _ _ z
  have bd := hb s1 us I1.kIn (by rw [List.append_nil]; exact hl)
  rw [List.append_nil] at bd
  obtain ⟨g1, g2, g3, g4, g5⟩ := I1.pin p (List.mem_append_left _ hp)
  have pin : PinOk X.stack H1 s1 p := ⟨g1, g2, fun hm' => by
    rcases List.mem_cons.mp (I1.stkSub p.1 hm') with z1 | z1
    · exact g3 z1
    · exact g4 z1, g5⟩
  refine wpAny_call (codeAny_mono (F.go X.A X.stack s1 H1 ⟨us, []⟩ us vs Q hr hot pin I1.env0 bd rv z) fun r s2 hq => ?_)
  cases r with
  | error _ => exact hq.elim
  | ok fl =>
    cases fl with
    | ret u => exact I1.after hq
    | next => exact hq.elim
    | brk => exact hq.elim
    | cont => exact hq.elim
end
/-! ### isinstance of the exception that is handled -/
theorem call_isP {X : Cx} {a D : Addr} {oe : Obj} (hp : (a, oe) ∈ X.pn) (C : ExcC X.K D) (hc : oe.cls = .ref D) (hd : oe.dict = none) (hf : ∃ vs, oe.data = .fields vs) : CallR X (.builtin "isinstance") (rIsE X.K D a) := by
  intro pins s σ H xs us Q I r h
  obtain ⟨c, cv, b, rfl, hcv, ek, q⟩ := h
  obtain ⟨u1, u2, rfl, r1, r2⟩ := vals2 r
  cases r1
  have e2 := hcv _ r2
  subst e2
  have hget := (I.pin (a, oe) (List.mem_append_left _ hp)).1
  obtain ⟨vs, hv⟩ := hf
  have J : PySem.W.InstAt s.heap a oe D none := ⟨hget, hc, by unfold PySem.W.notCls; rw [hv] <;> rfl, by rw [hd]; trivial⟩
  exact PySem.W.kia_one (PySem.W.handS_kitx_exc C.hg C.hk C.hs C.hd C.ha C.hn C.ht C.hm) I.kIn J ek (fun z => nomatch z) fun tk => ⟨.bl b, H, I.kept (t' := tk) fun _ _ z => z, rfl, q⟩
end MK

namespace MK
open PySem PySem.Spec PyProof.Rows L2 Evl L2H HotX

/-! ### a comprehension where an exception is handled -/
abbrev blkH (X : Cx) (s : Shared) (H : Hp) (sc : Scope) (ce : Env) (fp : List Addr) (p : Addr × Obj) : Cx := { X.blk s H sc ce fp with pn := [p] }
section
variable {X : Cx} {p : Addr × Obj}
theorem pe_lcH {elt tg iter : Expr} {ifs : List Expr} {sc : Scope} {own : List (Str × Nat)} {pos : Pos} {wi : TI} {g : TG} {tt : TT} {te : TE} (hot : Hot1 X.A p) (hp : p ∈ X.pn) (hN : X.N.Nodup) (hi : PIH X tg iter wi) (ok : BlkOk X.N X.env.scope sc own)
    (hg : ∀ (s : Shared) (H : Hp) (C : Addr) (cl : List (Str × Addr)) (fp : List Addr), PG (blkH X s H sc (compEnvC sc cl C X.env) fp p) tg g) (ht : ∀ (s : Shared) (H : Hp) (C : Addr) (cl : List (Str × Addr)) (fp : List Addr), PTs (blkH X s H sc (compEnvC sc cl C X.env) fp p) ifs tt)
    (he : ∀ (s : Shared) (H : Hp) (C : Addr) (cl : List (Str × Addr)) (fp : List Addr), PE (blkH X s H sc (compEnvC sc cl C X.env) fp p) elt te) (hs : ∀ x, foldedSetIterable iter X.env x = pure x := by intro _; rfl) :
    PE X (.ListComp elt [⟨tg, iter, ifs, 0⟩] sc pos) (tLc wi g tt te (own.map (·.2))) := by
  refine ⟨fun pins s σ H Q I h => ?_⟩
  rw [eval_ListComp]
  have capt : ∀ y ∈ sc.names, y.2 = .free → ∃ c, X.env.cells.lookup y.1 = some c := fun y hy q => I.ok.has _ (ok.free y hy q)
  refine wpAny_comprehension_free (use := none) rfl hs (closure_ok capt) ok.kind (fun y hy q => by rw [ok.uniq y hy, q]) (thn (hi.run pins s σ H _ I h) fun v0 s1 h1 => thn h1 fun itv s2 h2 => ?_)
  obtain ⟨it, fp, tn, J, H2, rfl, I2, T, st2, f2, q⟩ := h2
  refine wpAny_newObj_type (newEnv_comp ?_) (Nat.zero_le _)
  have hDn : H2 s2.heap.objs.size = none := I2.hok.fresh (Nat.le_refl _)
  obtain ⟨W, ⟨m0, w0⟩, turn⟩ := q _ hDn
  -- the list is laid
  have I3' : Inv X pins σ (upd H2 s2.heap.objs.size (.lst [])) { s2 with heap := s2.heap.push { cls := .type "list", data := .seq ([] : List Value).toArray }, toks := s2.toks } :=
    I2.laid (t' := s2.toks) (fun b o z => Heap.get?_push_of_some _ z) (Nat.le_refl _) ⟨Nat.zero_le _, [], 0, .nil, Heap.get?_push_size _ rfl⟩
  generalize hDd : s2.heap.objs.size = Dl at *
  generalize hs3 : ({ s2 with heap := s2.heap.push { cls := .type "list", data := .seq ([] : List Value).toArray } } : Shared) = s3 at *
  have h3 : s3.heap = s2.heap.push { cls := .type "list", data := .seq ([] : List Value).toArray } := by rw [← hs3]
  have I3 := I3'
  generalize hH3 : upd H2 Dl (.lst []) = H3 at *
  have lt2 : ∀ b ∈ fp, b < s2.heap.objs.size := fun b hb => by
    obtain ⟨o, z, _⟩ := T.obj _ _ st2 b hb
    exact Heap.lt_size z
  have f3 : ∀ b ∈ fp, FpOk X pins H3 b ∧ b < s3.heap.objs.size := fun b hb => by
    have l := lt2 b hb
    refine ⟨⟨?_, (f2 b hb).2⟩, by rw [h3, Heap.size_push]; exact Nat.lt_succ_of_lt l⟩
    rw [← hH3, upd_ne (by rw [← hDd]; exact Nat.ne_of_lt l)]
    exact (f2 b hb).1
  have st3 : tn 0 s3.heap := T.keep _ _ _ st2 fun b _ o z => by rw [h3]; exact Heap.get?_push_of_some _ z
  have I4 := block_start I3 ok hN f3
  have pg := hg s3 H3 s3.heap.objs.size (cellsFrom (s3.heap.objs.size + 1) sc.names (cloFrom X.env.cells sc.names [])) fp
  have pt := ht s3 H3 s3.heap.objs.size (cellsFrom (s3.heap.objs.size + 1) sc.names (cloFrom X.env.cells sc.names [])) fp
  have pe := he s3 H3 s3.heap.objs.size (cellsFrom (s3.heap.objs.size + 1) sc.names (cloFrom X.env.cells sc.names [])) fp
  have nfp : ∀ b ∈ fp, H3 b = none := fun b hb => (f3 b hb).1.1
  show codeAny _ _ (.compStart (.ListComp elt [⟨tg, iter, ifs, 0⟩] sc pos) 0 (.ref it) (.ref Dl) (compEnvC sc (cellsFrom (s3.heap.objs.size + 1) sc.names (cloFrom X.env.cells sc.names [])) s3.heap.objs.size X.env)) (compPost (model X.prog X.w) X.A X.xe none (EP X pins σ Q) (.ref Dl) s3.heap.objs.size) { s3 with heap := pushCells (s3.heap.push { cls := .type "dict", data := .dict #[] }) sc.names }
  generalize hce : compEnvC sc (cellsFrom (s3.heap.objs.size + 1) sc.names (cloFrom X.env.cells sc.names [])) s3.heap.objs.size X.env = ce at *
  have cL : ce.locals = s3.heap.objs.size := by rw [← hce]; rfl
  obtain ⟨p1, p2, p3, p4, p5⟩ := I3.pin p (List.mem_append_left _ hp)
  have up4 : ∀ b o, s3.heap.get? b = some o → (pushCells (s3.heap.push { cls := .type "dict", data := .dict #[] }) sc.names).get? b = some o := fun b o z => pushCells_keeps _ _ _ _ (Heap.get?_push_of_some _ z)
  have I5 : Inv (blkH X s3 H3 sc ce fp p) [] (wipe σ (own.map (·.2))) H3 { s3 with heap := pushCells (s3.heap.push { cls := .type "dict", data := .dict #[] }) sc.names } := by
    have a := I4.pins_of (pins' := [p]) fun q hq => by
      have e : q = p := by simpa using hq
      subst e
      refine ⟨up4 _ _ p1, p2, ?_, fun hm => ?_, p5⟩
      · show q.1 ≠ ce.locals
        rw [cL]
        exact Nat.ne_of_lt (Heap.lt_size p1)
      · rcases List.mem_cons.mp (I3.stkSub q.1 hm) with z | z
        · exact p3 z
        · exact p4 z
    exact a.toTry _
  generalize hs4 : ({ s3 with heap := pushCells (s3.heap.push { cls := .type "dict", data := .dict #[] }) sc.names } : Shared) = s4 at *
  have st4 : tn 0 s4.heap := T.keep _ _ _ st3 fun b _ o z => by rw [← hs4]; exact up4 b o z
  have hc : HotC (blkH X s3 H3 sc ce fp p) := ⟨p, hot, List.mem_singleton.mpr rfl⟩
  have stat : ∀ {σ' : L2.St} {H' : Hp} {s' : Shared}, Inv (blkH X s3 H3 sc ce fp p) [] σ' H' s' → (∀ b ∈ fp, H' b = none) → ∀ b ∈ fp, FpOk (blkH X s3 H3 sc ce fp p) [] H' b := fun {σ' H' s'} I' hn b hb => by
    refine ⟨hn b hb, (I'.ok.exf b hb).1, I'.ok.exfs b hb, .inl hb, fun x c z => (I'.ok.exf b hb).2 x c z, fun q hq => ?_⟩
    have e : q = p := by simpa using (show q ∈ [p] ++ ([] : List (Addr × Obj)) from hq)
    subst e
    exact (f3 b hb).1.2.2.2.2.2 q (List.mem_append_left _ hp)
  have loop : codeAny (model X.prog X.w) X.A (.compLoop (.ListComp elt [⟨tg, iter, ifs, 0⟩] sc pos) 0 (.ref it) (.ref Dl) ce) (compPost (model X.prog X.w) X.A X.xe none (EP X pins σ Q) (.ref Dl) s3.heap.objs.size) s4 := by
    refine compLoop_any (fun n s' => ∃ i H', Inv (blkH X s3 H3 sc ce fp p) [] (wipe σ (own.map (·.2))) H' s' ∧ tn i s'.heap ∧ (∀ b ∈ fp, H' b = none) ∧ W i n H') ?_ m0 ⟨0, H3, I5, st4, nfp, w0⟩
    rintro n s5 ⟨i, H5, J5, st5, n5, w5⟩
    rcases turn i n H5 w5 with ⟨stop, qq⟩ | ⟨go, Nx, hNx, step⟩
    · refine thnF (T.done (blkH X s3 H3 sc ce fp p) rfl rfl rfl hc i [] s5 _ H5 (fun _ _ => False) J5 (stat J5 n5) st5 stop) fun r s6 ⟨hr, J6⟩ => ?_
      subst hr
      have I7 : Inv X pins σ H5 s6 := I3.call' (ch := fp) J6.os J6.base J6.hok J6.bare fun b hb => ⟨(f3 b hb).1.2.2.2.1, (f3 b hb).1.2.1, (f3 b hb).1.2.2.2.2.1, (f3 b hb).1.2.2.2.2.2⟩
      have nC : H5 s3.heap.objs.size = none := by
        have z : H5 ce.locals = none := J6.free
        rw [cL] at z
        exact z
      obtain ⟨m, hn, _⟩ := J6.loc
      have hn : s6.heap.Ns ce.locals m := hn
      rw [cL] at hn
      obtain ⟨g0, g1, g2, g3, g4, g5⟩ := I3.fpOk (H' := H5) (Nat.le_refl s3.heap.objs.size) nC
      exact ⟨m, hn, fun h'' sb => ⟨.ref Dl, H5, I7.turned (t' := s6.toks) (fun b o hb z => (sb.2 b hb).trans z) g0 g1 g3 g4 g5, rfl, qq⟩⟩
    · refine thnF (T.item (blkH X s3 H3 sc ce fp p) rfl rfl rfl hc i [] s5 _ H5 (fun _ _ => False) J5 (stat J5 n5) st5 go) fun r s6 ⟨u, hr, h6⟩ => ?_
      subst hr
      refine thnF h6 fun _ s7 ⟨y, H7, J7, r7, y7, st7, n7⟩ => ?_
      have J7' := J7.pinned (stat J7 n7) (T.obj _ _ st7)
      refine thnF (pg.run _ s7 _ H7 y u _ J7' r7 (step y H7 y7)) fun _ s8 ⟨σ8, H8, J8, hw8, q8⟩ => ?_
      refine thnF (pt.run _ s8 σ8 H8 _ J8 q8) fun b s9 ⟨H9, J9, q9⟩ => ?_
      have fin : ∀ {s' : Shared} {H' : Hp}, Inv (blkH X s3 H3 sc ce fp p) ([] ++ pinsAt fp s7.heap) σ8 H' s' → Nx H' → ∃ m, m < n ∧ ∃ i H', Inv (blkH X s3 H3 sc ce fp p) [] (wipe σ (own.map (·.2))) H' s' ∧ tn i s'.heap ∧ (∀ b ∈ fp, H' b = none) ∧ W i m H' := fun {s' H'} J' nx => by
        obtain ⟨m', hm, w'⟩ := hNx H' nx
        have held : ∀ b ∈ fp, ∀ o, s7.heap.get? b = some o → s'.heap.get? b = some o ∧ H' b = none := fun b hb o z =>
          let t := J'.pin (b, o) (List.mem_append_right _ (List.mem_append_right _ (mem_pinsAt hb z)))
          ⟨t.1, t.2.1⟩
        have hl : (wipe σ (own.map (·.2))).length = σ8.length := by rw [← hw8, wipe_length]
        refine ⟨m', hm, i + 1, H', (J'.unpinned (pins := [])).weak hl (fun j v z => ?_), T.keep _ _ _ st7 fun b hb o z => (held b hb o z).1, fun b hb => ?_, w'⟩
        · rw [← hw8] at z
          exact (wipe_some z).1
        · obtain ⟨o, z, _⟩ := T.obj _ _ st7 b hb
          exact (held b hb o z).2
      cases b with
      | false =>
        rw [if_neg Bool.false_ne_true] at q9
        exact fin J9 q9
      | true =>
        rw [if_pos rfl] at q9
        refine thnF (pe.run _ s9 σ8 H9 _ J9 q9) fun z s10 ⟨yv, H10, J10, r10, acc, hD10, hz10, nx⟩ => ?_
        exact app_ok (X := blkH X s3 H3 sc ce fp p) J10 hD10 hz10 r10 fun s11 J11 => fin J11 nx
  exact codeAny_compStart_list loop (T.self X.A 0 _ _ _ st4 loop)
end
end MK

namespace MK
open PySem PySem.Spec PyProof.Rows L2 Evl L2H HotX

/-! ### which error: what the written part says of the class D of kind number d -/
structure KindOk (K : PySem.W.Frag) (C : Er) (D : Addr) (d : Nat) : Prop where
  ec : ExcC K D
  k0 : PySem.W.kitOne K (.ref D) (.ref C.NoBoard) = some (d == 0)
  k1 : PySem.W.kitOne K (.ref D) (.ref C.NoCounts) = some (d == 1)
  k2 : PySem.W.kitOne K (.ref D) (.ref C.NoNumber) = some (d == 2)
  k3 : PySem.W.kitOne K (.ref D) (.ref C.NoneSuch) = some (d == 3)
  k4 : PySem.W.kitOne K (.ref D) (.ref C.NoExchange) = some (d == 4)
  k5 : PySem.W.kitOne K (.ref D) (.ref C.NotAlike) = some (d == 5)
  ve : PySem.W.kitOne K (.ref D) (.type "ValueError") = some true
  ex : PySem.W.exmOne K (.ref D) (.ref C.MarkError) = some true
/-- isinstance(e, c), e the exception that is handled, at a -/
def rIsX (K : PySem.W.Frag) (a : Addr) (cls : Value) (dd : Option Addr) : List V → Hp → VK → Prop := fun xs H Q => ∃ (D : Addr) (c : V) (cv : Value) (b : Bool), cls = .ref D ∧ dd = none ∧ ExcC K D ∧ xs = [.ref a, c] ∧ (∀ u, RelV c u → u = cv) ∧ PySem.W.kitOne K (.ref D) cv = some b ∧ Q (.bl b) H
theorem call_isX {X : Cx} {a : Addr} {oe : Obj} {cls : Value} {dd : Option Addr} (hp : (a, oe) ∈ X.pn) (hz : L2N.Zn cls dd oe) (hf : ∃ vs, oe.data = .fields vs) : CallR X (.builtin "isinstance") (rIsX X.K a cls dd) := by
  intro pins s σ H xs us Q I r h
  obtain ⟨D, c, cv, b, rfl, rfl, ec, rfl, hcv, ek, q⟩ := h
  exact call_isP hp ec hz.1 hz.2.1 hf pins s σ H _ us Q I r ⟨c, cv, b, rfl, hcv, ek, q⟩
theorem roomH64 {k : Nat} {A : Around} (r : RoomH k A) : A.units + 64 < cLine := by have := r.un; omega
theorem room65 {k : Nat} {A : Around} (r : Room k A) : A.units + 65 < cLine := by have := r.un; omega
/-- a def of the text that is called where an exception is handled -/
structure DfH (P : Program) (w : World) (K : PySem.W.Frag) (mg : Str → Option Value) (base : Heap) (k : Nat) (name : Str) (ps : List Str) (sp : Addr → Value → Option Addr → Sp) : Prop where
  ex : ∃ f fd, (∀ a oe cls dd, L2N.Zn cls dd oe → (∃ vs, oe.data = .fields vs) → FnE P w K mg base k f fd ps (sp a cls dd) (a, oe)) ∧ mg name = some (.ref f) ∧ PySem.W.keepIn K (.ref f) = true ∧ Binds K fd ps []
theorem hot_suite {X : Cx} {a : Addr} {oe : Obj} {cls : Value} {dd : Option Addr} (hz : L2N.Zn cls dd oe) (hf : ∃ vs, oe.data = .fields vs) : Hot1 (X.A.mark (some (.ref a))) (a, oe) := by
  obtain ⟨vs, hv⟩ := hf
  exact ⟨rfl, vs, hv, hz.2.2 vs hv⟩
section
variable {X : Cx} {k k' : Nat} {name : Str} {ps : List Str} {sp : Addr → Value → Option Addr → Sp} {q pos : Pos} {e : Expr} {es : List Expr} {t : TA} {a : Addr} {oe : Obj} {cls : Value} {dd : Option Addr} {pn : List (Addr × Obj)}
theorem pe_hot (D : DfH X.prog X.w X.K X.mg X.base k name ps sp) (hr : Room k' X.A) (hk : k ≤ k') (hz : L2N.Zn cls dd oe) (hf : ∃ vs, oe.data = .fields vs) (ha : PA (X.suite a ((a, oe) :: pn)) (e :: es) t) (hg : Gl (X.suite a ((a, oe) :: pn)) name := by rfl)
    (hdb : (name == ("__debug__" : Str)) = false := by decide) (hst : starEach (e :: es) X.env = (false, eval e X.env) :: starEach es X.env := by rfl) (hpl : (backTo pos (starEach es X.env)).any (·.1) = false := by rfl) :
    PE (X.suite a ((a, oe) :: pn)) (.Call (.Name name q) (e :: es) [] pos) (tCall (sp a cls dd) [] E0 t) := by
  obtain ⟨f, fd, G, m, kp, b⟩ := D.ex
  have r := hr.mono hk
  exact pe_callE (X := X.suite a ((a, oe) :: pn)) (G a oe cls dd hz hf) ⟨r.dp, r.un⟩ (hot_suite hz hf) List.mem_cons_self m kp b ha hg hdb hst hpl
end
/-- try: .. except x as n: .. -/
def tTryAs (K : PySem.W.Frag) (c : Value) (i : Nat) (tb : WX → TS) (ts : Addr → Value → Option Addr → TS) : TS := fun D σ H => tb (wAs K c i ts (fun _ _ _ _ => False) D) D σ H
/-- what the other kinds are asked for: never another one -/
def sp__law_other (K : PySem.W.Frag) (C : Er) (a : Addr) (cls : Value) (dd : Option Addr) : Sp := fun vs H Q _ => ∃ (D : Addr) (d : Nat), cls = .ref D ∧ dd = none ∧ KindOk K C D d ∧ d < 6 ∧ vs = [.ref a, .int (d : Int)] ∧ ∀ H', Ex H H' → Q (.bl false) H'
section
variable {α β γ ζ : Type} {r : R α} {q : R β} {s : R γ} {x : α} {y : β} {σ : St} {B B' : Hp} {ta tb tc td te tl : TE} {P P' : Po} {b c : Bool} {i k z : Int} {K : PySem.W.Frag} {j : Nat} {D : Addr} {a : Addr}
theorem ev_isX {cv : Value} {u : V} (h : σ[j]? = some (some (.ref a))) (ec : ExcC K D) (hu : ∀ w, RelV u w → w = cv) (hk : PySem.W.kitOne K (.ref D) cv = some b) : EVr (tCB (rIsX K a (.ref D) none) (tCons (tVar j) (tCons (tC u) tNil))) σ B bl b := EV.of fun H e Q q =>
  ⟨.ref a, h, D, u, cv, b, rfl, rfl, ec, rfl, hu, hk, q _ B H (Nw.refl e) rfl⟩
/-- (k, x) where x is any thing -/
def poT2 (k : Int) (P : Po) : Po where
  P := fun H B v => ∃ t u, v = .ref t ∧ H t = none ∧ B t = some (.tup [.int k, u]) ∧ P.P H B u
  up := fun e ⟨t, u, h1, h2, h3, h4⟩ => ⟨t, u, h1, h2, e _ _ h3, P.up e h4⟩
  dn := fun e ⟨t, u, h1, h2, h3, h4⟩ => ⟨t, u, h1, fresh_back e h2, h3, P.dn e h4⟩
theorem ev_t2 (h1 : EVr ta σ B int k) (h2 : EV tb σ B P) : EV (tTup (tCons ta (tCons tb tNil))) σ B (poT2 k P) := EV.of fun H e Q q =>
  h1.run e fun v B1 H1 n1 hv => (h2.mono n1.bb).run n1.bh fun w B2 H2 n2 hw => ⟨sz_of (by show 2 ≤ 100000; decide), fun t ht => by
    cases hv
    exact q _ _ _ ((n1.trans n2).trans (Nw.new n2.bh ht)) ⟨t, w, rfl, fresh_back (n1.hh.trans n2.hh) ht, upd_same, P.up (Ex.new (fresh_back n2.bh ht)) (P.dn n1.hh hw)⟩⟩
theorem ev_non : EV (tC .non) σ B poN := EV.of fun H e Q q => q _ B H (Nw.refl e) rfl
end
end MK

namespace MK
open PySem PySem.Spec PyProof.Rows L2 Evl
def sp__law_whole : Sp := sp1 int (fun _ => True) fun _ => poR bl true
def sp__law_numbers_like : Sp := sp2 il il (fun xs ys => xs.length ≤ 40000 ∧ ys.length ≤ 40000) fun xs ys => poR bl (decide (xs = ys))
/-- the spoilt board: some rows, not many -/
def poSmall : Po where
  P := fun _ B v => ∃ b : List (List Int), b.length ≤ 50 ∧ (∀ row ∈ b, row.length ≤ 50) ∧ bd.p B v b
  up := fun e ⟨b, h1, h2, h3⟩ => ⟨b, h1, h2, bd.stE e h3⟩
  dn := fun _ h => h
def sp__law_spoilt : Sp := sp3 bd int int (fun b how c => isB b = true) fun b how c => poSmall
def sp__law_told_k01 : Sp := sp1 bd (fun _ => True) fun b => if isB b = true then poT2 0 (poPair (rowsF b) (colsF b)) else poT2 1 poN
def sp_law (K : PySem.W.Frag) : Sp := fun vs H Q _ => ∃ (a : Addr) (ns : List Int), vs = [.ref a] ∧ SqL K H a (ns.map V.int) ∧ ns.length ≤ 63 ∧ ∀ H', Q (.bl true) H'
end MK

namespace MK
open PySem PySem.Spec PyProof.Rows L2 Evl
def t__law_whole (K : PySem.W.Frag) : TS :=
  (tRet (tAndV (tCB (rIsi K) (tCons (tVar 0) (tCons (tC (.ty "int")) tNil))) (tNotV (tCB (rIsi K) (tCons (tVar 0) (tCons (tC (.ty "bool")) tNil))))))
def t__law_numbers_like (K : PySem.W.Frag) : TS :=
  (tSeq (tIfS (tOr (tNot (tB (tCB (rIsi K) (tCons (tVar 0) (tCons (tC (.ty "list")) tNil))))) (tTest (tOp rNe (tCB (rLenS K) (tCons (tVar 0) tNil)) (tCB (rLenS K) (tCons (tVar 1) tNil)))))
  (tRet (tC (.bl false)))
  tNext)
  (tSeq (tFor (iZip K (tCons (tVar 0) (tCons (tVar 1) tNil))) (gTup K 2 (gCons (gName 2) (gCons (gName 3) gNil)))
  (tIfS (tOr (tNot (tB (tCB (rIsi K) (tCons (tVar 2) (tCons (tC (.ty "int")) tNil))))) (tOr (tB (tCB (rIsi K) (tCons (tVar 2) (tCons (tC (.ty "bool")) tNil)))) (tTest (tOp rNe (tVar 2) (tVar 3)))))
  (tRet (tC (.bl false)))
  tNext))
  (tRet (tC (.bl true)))))
def t__law_spoilt (K : PySem.W.Frag) : TS :=
  (tSeq (tAsg (tOp (rI (fun _ j => 0 < j) fun i j => .int (i % j)) (tVar 2) (tCB (rLenS K) (tCons (tVar 0) tNil))) (gName 3))
  (tSeq (tAsg (tOp (rI (fun _ j => 0 < j) fun i j => .int (i % j)) (tOp (rI CDiv fun i j => .int (i / j)) (tVar 2) (tC (.int 8))) (tCB (rLenS K) (tCons (tOp (rIxL K) (tVar 0) (tC (.int 0))) tNil))) (gName 4))
  (tSeq (tAsg (tOp (rIxL K) (tLst (tCons (tUn (rU fun i => .int (-i)) (tC (.int 1))) (tCons (tC (.int 2)) (tCons (tOp (rI0 fun i j => .int (i - j)) (tOp (rI (fun _ j => 0 < j) fun i j => .int (i % j)) (tOp (rI CDiv fun i j => .int (i / j)) (tVar 2) (tC (.int 64))) (tC (.int 201))) (tC (.int 100))) tNil)))) (tOp (rI (fun _ j => 0 < j) fun i j => .int (i % j)) (tOp (rI CDiv fun i j => .int (i / j)) (tVar 2) (tC (.int 512))) (tC (.int 3)))) (gName 5))
  (tSeq (tAsg (tOp (rIxL K) (tVar 0) (tVar 3)) (gName 6))
  (tSeq (tIfS (tTest (tOp rEq (tVar 1) (tC (.int 1))))
  (tSeq (tAsg (tOp rCat (tOp rCat (tSl (rSlL K) (tVar 6) tNoPart (tPart (tVar 4))) (tLst (tCons (tVar 5) tNil))) (tSl (rSlL K) (tVar 6) (tPart (tOp (rI0 fun i j => .int (i + j)) (tVar 4) (tC (.int 1)))) tNoPart)) (gName 7))
  (tRet (tOp rCat (tOp rCat (tSl (rSlL K) (tVar 0) tNoPart (tPart (tVar 3))) (tLst (tCons (tVar 7) tNil))) (tSl (rSlL K) (tVar 0) (tPart (tOp (rI0 fun i j => .int (i + j)) (tVar 3) (tC (.int 1)))) tNoPart))))
  tNext)
  (tSeq (tIfS (tTest (tOp rEq (tVar 1) (tC (.int 2))))
  (tRet (tOp rCat (tOp rCat (tSl (rSlL K) (tVar 0) tNoPart (tPart (tVar 3))) (tLst (tCons (tOp rCat (tSl (rSlL K) (tVar 6) tNoPart (tPart (tVar 4))) (tSl (rSlL K) (tVar 6) (tPart (tOp (rI0 fun i j => .int (i + j)) (tVar 4) (tC (.int 1)))) tNoPart)) tNil))) (tSl (rSlL K) (tVar 0) (tPart (tOp (rI0 fun i j => .int (i + j)) (tVar 3) (tC (.int 1)))) tNoPart)))
  tNext)
  (tSeq (tIfS (tTest (tOp rEq (tVar 1) (tC (.int 3))))
  (tRet (tOp rCat (tOp rCat (tSl (rSlL K) (tVar 0) tNoPart (tPart (tVar 3))) (tLst (tCons (tOp rCat (tVar 6) (tLst (tCons (tOp (rI (fun _ j => 0 < j) fun i j => .int (i % j)) (tOp (rI CDiv fun i j => .int (i / j)) (tVar 2) (tC (.int 64))) (tC (.int 2))) tNil))) tNil))) (tSl (rSlL K) (tVar 0) (tPart (tOp (rI0 fun i j => .int (i + j)) (tVar 3) (tC (.int 1)))) tNoPart)))
  tNext)
  (tSeq (tIfS (tTest (tOp rEq (tVar 1) (tC (.int 4))))
  (tSeq (tAsg (tLc (iList K (tVar 0)) (gName 6) tYes (tOp rRep (tVar 6) (tC (.int 7))) [6]) (gName 8))
  (tRet (tOp (rIxL K) (tLst (tCons (tOp rRep (tVar 0) (tC (.int 7))) (tCons (tVar 8) (tCons (tLc (iList K (tVar 0)) (gName 6) tYes (tLst tNil) [6]) (tCons (tLst tNil) tNil))))) (tOp (rI (fun _ j => 0 < j) fun i j => .int (i % j)) (tVar 2) (tC (.int 4))))))
  tNext)
  (tSeq (tIfS (tTest (tOp rEq (tVar 1) (tC (.int 5))))
  (tRet (tOp rCat (tOp rCat (tSl (rSlL K) (tVar 0) tNoPart (tPart (tVar 3))) (tLst (tCons (tLst tNil) tNil))) (tSl (rSlL K) (tVar 0) (tPart (tOp (rI0 fun i j => .int (i + j)) (tVar 3) (tC (.int 1)))) tNoPart)))
  tNext)
  (tRet (tVar 0)))))))))))
def t__law_other (K : PySem.W.Frag) (C : Er) (a : Addr) (cls : Value) (dd : Option Addr) : TS :=
  (tSeq (tAsg (tLst (tCons (tCB (rIsX K a cls dd) (tCons (tVar 0) (tCons (tC (.ref C.NoBoard)) tNil))) (tCons (tCB (rIsX K a cls dd) (tCons (tVar 0) (tCons (tC (.ref C.NoCounts)) tNil))) (tCons (tCB (rIsX K a cls dd) (tCons (tVar 0) (tCons (tC (.ref C.NoNumber)) tNil))) (tCons (tCB (rIsX K a cls dd) (tCons (tVar 0) (tCons (tC (.ref C.NoneSuch)) tNil))) tNil))))) (gName 2))
  (tSeq (tAsg (tOp rCat (tVar 2) (tLst (tCons (tCB (rIsX K a cls dd) (tCons (tVar 0) (tCons (tC (.ref C.NoExchange)) tNil))) (tCons (tCB (rIsX K a cls dd) (tCons (tVar 0) (tCons (tC (.ref C.NotAlike)) tNil))) tNil)))) (gName 2))
  (tRet (tOrV (tOp (rNeD K) (tVar 2) (tLc (iRng1 (tCons (tC (.int 6)) tNil)) (gName 3) tYes (tOp rEq (tVar 3) (tVar 1)) [3])) (tNotV (tCB (rIsX K a cls dd) (tCons (tVar 0) (tCons (tC (.ty "ValueError")) tNil))))))))
def t__law_told_k01 (K : PySem.W.Frag) (C : Er) : TS :=
  (tTryAs K (.ref C.MarkError) 1 (fun W => (tRet (tTup (tCons (tC (.int 0)) (tCons (tCallS (sp_counts C) (WE W) (tCons (tVar 0) tNil)) tNil))))) (fun a cls dd => (tRet (tTup (tCons (tOp (rI0 fun i j => .int (i + j)) (tC (.int 1)) (tCB rInt1 (tCons (tCall (sp__law_other K C a cls dd) [] E0 (tCons (tVar 1) (tCons (tC (.int 0)) tNil))) tNil))) (tCons (tC .non) tNil))))))
def t_law_k01 (K : PySem.W.Frag) (C : Er) : TS :=
  (tSeq (tAsg (tCall (sp__law_board_by K) [] E0 (tCons (tVar 0) (tCons (tC (.int 0)) (tCons (tC (.int 6)) tNil)))) (gName 1))
  (tSeq (tAsg (tCall (sp__law_spoilt) [] E0 (tCons (tVar 1) (tCons (tOp (rI (fun _ j => 0 < j) fun i j => .int (i % j)) (tCall (sp__law_cell_at K) [] E0 (tCons (tVar 0) (tCons (tC (.int 10)) tNil))) (tC (.int 6))) (tCons (tCall (sp__law_cell_at K) [] E0 (tCons (tVar 0) (tCons (tC (.int 11)) tNil))) tNil)))) (gName 1))
  (tSeq (tAsg (tLc (iList K (tVar 1)) (gName 3) tYes (tCB (rListS K) (tCons (tVar 3) tNil)) [3]) (gName 2))
  (tSeq (tAsg (tCall (sp_is_board) [] E0 (tCons (tVar 2) tNil)) (gName 4))
  (tSeq (tIfS (tOr (tNot (tB (tCB (rIsi K) (tCons (tVar 4) (tCons (tC (.ty "bool")) tNil))))) (tOr (tTest (tOp rNe (tVar 4) (tCall (sp__law_is_board) [] E0 (tCons (tVar 1) tNil)))) (tTest (tOp (rNeD K) (tVar 2) (tVar 1)))))
  (tRet (tC (.bl false)))
  tNext)
  (tSeq (tAsg (tCall (sp__law_told_k01) [] E0 (tCons (tVar 2) tNil)) (gName 5))
  (tSeq (tIfS (tNot (tB (tVar 4)))
  (tRet (tAndV (tOp rEq (tOp (rIxT K) (tVar 5) (tC (.int 0))) (tC (.int 1))) (tOp (rEqD K) (tVar 2) (tVar 1))))
  tNext)
  (tSeq (tAsg (tCall (sp__law_counts) [] E0 (tCons (tVar 1) tNil)) (gName 6))
  (tSeq (tIfS (tOr (tTest (tOp rNe (tOp (rIxT K) (tVar 5) (tC (.int 0))) (tC (.int 0)))) (tOr (tNot (tB (tCB (rIsi K) (tCons (tOp (rIxT K) (tVar 5) (tC (.int 1))) (tCons (tC (.ty "tuple")) tNil))))) (tTest (tOp rNe (tCB (rLenS K) (tCons (tOp (rIxT K) (tVar 5) (tC (.int 1))) tNil)) (tC (.int 2))))))
  (tRet (tC (.bl false)))
  tNext)
  (tSeq (tFor (RZ.iZipA K (tCons (tOp (rIxT K) (tVar 5) (tC (.int 1))) (tCons (tVar 6) tNil))) (gTup K 2 (gCons (gName 7) (gCons (gName 8) gNil)))
  (tSeq (tIfS (tNot (tB (tCall (sp__law_numbers_like) [] E0 (tCons (tVar 7) (tCons (tVar 8) tNil)))))
  (tRet (tC (.bl false)))
  tNext)
  (tDrop (tBM K "list" rAppend (tVar 7) (tCons (tC (.int 9)) tNil)))))
  (tRet (tAndV (tOp (rEqD K) (tVar 2) (tVar 1)) (tOp (rEqD K) (tCall (sp_counts C) [] E0 (tCons (tVar 2) tNil)) (tVar 6))))))))))))))

end MK

namespace MK
open PySem PySem.Spec PyProof.Rows L2 Evl
section
variable {vs : List V} {H : Hp} {Q : VK} {E : XK} {K : PySem.W.Frag}
theorem kit_ll : kitB "list" "list" = some true := by decide +kernel
theorem kit_ii : kitB "int" "int" = some true := by decide +kernel
theorem kit_ib : kitB "int" "bool" = some false := by decide +kernel
theorem kit_bb : kitB "bool" "bool" = some true := by decide +kernel
theorem kit_tt : kitB "tuple" "tuple" = some true := by decide +kernel
theorem ty_bl {b : Bool} {K : PySem.W.Frag} {H : Hp} {v : V} (h : bl.p H v b) : TyX K H v (.type "bool") := by
  cases h
  exact .base (.bl b)
theorem pure_whole (h : sp__law_whole vs H Q E) : t__law_whole K { nx := fun _ H' => Q .non H', rt := Q } (L2.start ["found"] vs) H := by
  obtain ⟨B, v, x, e, rfl, hv, -, q⟩ := h
  cases hv
  show t__law_whole K _ [some (.int x)] H
  unfold t__law_whole
  refine w_ret (P := poR bl true) e ?_ fun u B1 H1 n1 hu => q u B1 H1 n1 hu
  exact ev_andV (b := true) (c := true) (ev_isi (r := int) (x := x) (by walk_at "ev") ty_int kit_ii) fun _ => ev_notV (b := false) (ev_isi (r := int) (x := x) (by walk_at "ev") ty_int kit_ib)
/-- for x, y in zip(xs, ys): nothing but the slots and what is new changes -/
theorem w_forZ {α γ : Type} {r : R α} {s : R γ} {σ : St} {B : Hp} {ta tb : TE} {D : Ends} {tu : TS} {j j2 : Nat} {xs : List α} {ys : List γ} (e : Ex B H) (h1 : EVr ta σ B (lst r) xs) (h2 : EVr tb σ B (lst s) ys) (hl : xs.length = ys.length)
    (I : Hp → Nat → St → Hp → Prop) (h0 : ∀ B1 H1, Nw B H B1 H1 → I B1 0 σ H1) (hk : ∀ B1 i σ' H', I B1 i σ' H' → Sx B1 H')
    (hs : ∀ B1 H1 i x y v w σ' H' H'', Nw B H B1 H1 → xs[i]? = some x → ys[i]? = some y → r.p B1 v x → s.p B1 w y → I B1 i σ' H' → Ex H' H'' → tu { D with nx := I B1 (i + 1), ct := I B1 (i + 1), bk := D.nx } ((σ'.set j (some v)).set j2 (some w)) H'')
    (hd : ∀ B1 σ' H', I B1 xs.length σ' H' → D.nx σ' H') : tFor (iZip K (tCons ta (tCons tb tNil))) (gTup K 2 (gCons (gName j) (gCons (gName j2) gNil))) tu D σ H :=
  h1.run e fun v B1 H1 n1 hv => (h2.mono n1.bb).run n1.bh fun w B2 H2 n2 hw2 => by
    obtain ⟨a, vs, rfl, g2, g3⟩ := (lst r).stE n2.bb hv
    obtain ⟨a', us, rfl, g2', g3'⟩ := hw2
    refine ⟨a, a', vs, us, rfl, SqL.of (n2.bh _ _ g2), SqL.of (n2.bh _ _ g2'), ?_⟩
    have hn : xs.length = min vs.length us.length := by rw [paired_len g3, paired_len g3', ← hl, Nat.min_self]
    refine for_it (walk_zip hn) (I B2) (h0 B2 H2 (n1.trans n2)) (fun i σ' H' _ p => ⟨SqL.of ((hk B2 i σ' H' p).l g2), SqL.of ((hk B2 i σ' H' p).l g2')⟩) (fun i x σ' H' H'' hi p yy => ?_) (hd B2)
    obtain ⟨T, x1, x2, rfl, nT, rfl, f1, f2⟩ := yy
    obtain ⟨y1, hy1, hr1⟩ := paired_getL g3 f1
    obtain ⟨y2, hy2, hr2⟩ := paired_getL g3' f2
    exact ⟨T, [x1, x2], rfl, SqT.of upd_same, rfl, x1, [x2], rfl, x2, [], rfl, rfl, hs B2 H2 i y1 y2 x1 x2 σ' H' _ (n1.trans n2) hy1 hy2 hr1 hr2 p (Ex.new nT)⟩
theorem q_forZ {α γ : Type} {r : R α} {s : R γ} {σ : St} {B : Hp} {ta tb : TE} {D : Ends} {tu tw : TS} {j j2 : Nat} {xs : List α} {ys : List γ} (e : Ex B H) (h1 : EVr ta σ B (lst r) xs) (h2 : EVr tb σ B (lst s) ys) (hl : xs.length = ys.length)
    (I : Hp → Nat → St → Hp → Prop) (h0 : ∀ B1 H1, Nw B H B1 H1 → I B1 0 σ H1) (hk : ∀ B1 i σ' H', I B1 i σ' H' → Sx B1 H')
    (hs : ∀ B1 H1 i x y v w σ' H' H'', Nw B H B1 H1 → xs[i]? = some x → ys[i]? = some y → r.p B1 v x → s.p B1 w y → I B1 i σ' H' → Ex H' H'' → tu { D with nx := I B1 (i + 1), ct := I B1 (i + 1), bk := tw D } ((σ'.set j (some v)).set j2 (some w)) H'')
    (hd : ∀ B1 σ' H', I B1 xs.length σ' H' → tw D σ' H') : tSeq (tFor (iZip K (tCons ta (tCons tb tNil))) (gTup K 2 (gCons (gName j) (gCons (gName j2) gNil))) tu) tw D σ H := w_forZ (D := { D with nx := tw D }) e h1 h2 hl I h0 hk hs hd
theorem pure_numbers_like (h : sp__law_numbers_like vs H Q E) : t__law_numbers_like K { nx := fun _ H' => Q .non H', rt := Q } (L2.start ["found", "due", "one", "other"] vs) H := by
  obtain ⟨B, v, w, xs, ys, e, rfl, hv, hw, ⟨h1, h2⟩, q⟩ := h
  show t__law_numbers_like K _ [some v, some w, none, none] H
  unfold t__law_numbers_like
  have m0 := Nw.refl e
  refine q_if (b := false || !decide ((xs.length : Int) = (ys.length : Int))) e (Evl.et_or (Evl.et_not (a := true) (t_B (ev_isi (r := il) (x := xs) (by walk_at "ev") ty_lst kit_ll))) fun _ => t_test (ev_neI (ev_len (r := int) (xs := xs) (by walk_at "ev")) (ev_len (r := int) (xs := ys) (by walk_at "ev")))) (fun hc H1 e1 => ?_) (fun hc H1 e1 => ?_)
  · refine w_ret (e.trans e1) (P := poR bl false) (by walk_at "ev") fun u B2 H2 n2 hu => q u B2 H2 ((m0.grow e1).trans n2) ?_
    have : decide (xs = ys) = false := decide_eq_false fun z => by
      subst z
      simp at hc
    show (poR bl (decide (xs = ys))).P H B2 u
    rw [this]
    exact hu
  have hl : xs.length = ys.length := by
    simp only [Bool.false_or, Bool.not_eq_false', decide_eq_true_eq] at hc
    omega
  have m1 := m0.grow e1
  refine q_forZ (r := int) (s := int) (xs := xs) (ys := ys) m1.bh (by walk_at "ev") (by walk_at "ev") hl (fun B1 i σ' H' => ∃ y z, σ' = [some v, some w, y, z] ∧ Nw B H B1 H' ∧ xs.take i = ys.take i)
    (fun B1 H2 n => ⟨none, none, rfl, m1.trans n, by simp⟩) (fun B1 i σ' H' ⟨_, _, _, m, _⟩ => Sx.of m.bh) ?_ ?_
  · rintro B1 H1' i x y v' w' σ' H' H'' n1 hx hy hv' hw' ⟨y', z', rfl, m2, hall⟩ e2
    cases hv'
    cases hw'
    have m3 := m2.grow e2
    refine w_if0 (b := false || (false || !decide (x = y))) m3.bh (Evl.et_or (Evl.et_not (a := true) (t_B (ev_isi (r := int) (x := x) (by walk_at "ev") ty_int kit_ii))) fun _ => Evl.et_or (t_B (ev_isi (r := int) (x := x) (by walk_at "ev") ty_int kit_ib)) fun _ => t_test (ev_neI (by walk_at "ev") (by walk_at "ev"))) (fun hc2 H2 e2 => ?_) (fun hc2 H2 e2 => ?_)
    · refine w_ret (m3.bh.trans e2) (P := poR bl false) (by walk_at "ev") fun u B3 H3 n3 hu => q u B3 H3 ((m3.grow e2).trans n3) ?_
      have : decide (xs = ys) = false := decide_eq_false fun z => by
        subst z
        rw [hx] at hy
        cases hy
        simp at hc2
      show (poR bl (decide (xs = ys))).P H B3 u
      rw [this]
      exact hu
    · refine ⟨_, _, rfl, m3.grow e2, ?_⟩
      simp only [Bool.false_or, Bool.not_eq_false', decide_eq_true_eq] at hc2
      rw [take_succ' hx, take_succ' hy, hall, hc2]
  · rintro B1 σ' H' ⟨y', z', rfl, m2, hall⟩
    refine w_ret m2.bh (P := poR bl true) (by walk_at "ev") fun u B3 H3 n3 hu => q u B3 H3 (m2.trans n3) ?_
    have : decide (xs = ys) = true := by
      rw [List.take_length, hl, List.take_length] at hall
      exact decide_eq_true hall
    show (poR bl (decide (xs = ys))).P H B3 u
    rw [this]
    exact hu
/-! ### the law's own look at a board -/
theorem isB_short {b : List (List Int)} (h : ¬ (1 ≤ b.length ∧ b.length ≤ 6)) : isB b = false := by
  unfold isB
  by_cases h1 : 1 ≤ b.length
  · rw [decide_eq_false (show ¬ b.length ≤ 6 from fun h2 => h ⟨h1, h2⟩)]; simp
  · rw [decide_eq_false h1]; simp

theorem pure_law_is_board (h : sp__law_is_board vs H Q E) : t__law_is_board K { nx := fun _ H' => Q .non H', rt := Q } (L2.start ["board", "row", "cell"] vs) H := by
  obtain ⟨B, v, b, e, rfl, hv, -, q⟩ := h
  show t__law_is_board K _ [some v, none, none] H
  unfold t__law_is_board
  have m0 := Nw.refl e
  refine q_if (b := false || !(decide ((1 : Int) ≤ (b.length : Int)) && decide ((b.length : Int) ≤ 6))) e (Evl.et_or (Evl.et_not (a := true) (t_B (ev_isi (r := bd) (x := b) (by walk_at "ev") ty_lst kit_ll))) fun _ => Evl.et_not (by walk_at "et")) (fun hc H1 e1 => ?_) (fun hc H1 e1 => ?_)
  · refine w_ret (e.trans e1) (P := poR bl false) (by walk_at "ev") fun u B2 H2 n2 hu => q u B2 H2 ((m0.grow e1).trans n2) ?_
    have : isB b = false := isB_short (by
      simp only [Bool.false_or, Bool.not_eq_true', Bool.and_eq_false_iff, decide_eq_false_iff_not] at hc
      omega)
    show (poR bl (isB b)).P H B2 u
    rw [this]
    exact hu
  simp only [Bool.false_or, Bool.not_eq_false', Bool.and_eq_true, decide_eq_true_eq] at hc
  have hl : 1 ≤ b.length := by omega
  have m1 := m0.grow e1
  refine q_forL (r := il) (xs := b) m1.bh (by walk_at "ev") (fun B1 i σ' H' => ∃ y z, σ' = [some v, y, z] ∧ Nw B H B1 H' ∧ ∀ row ∈ b.take i, 1 ≤ row.length ∧ row.length ≤ 6 ∧ (row.length == wide b && row.all cell01) = true)
    (fun B1 H2 n => ⟨none, none, rfl, m1.trans n, by simp⟩) (fun B1 i σ' H' ⟨_, _, _, m, _⟩ => Sx.of m.bh) ?_ ?_
  · rintro B1 H1' i row v' σ' H' n1 hi hr ⟨y, z, rfl, m2, hall⟩
    have hv1 := bd.stE m2.bb hv
    have bad : (decide (1 ≤ row.length) && decide (row.length ≤ 6) && (row.length == wide b && row.all cell01)) = false → isB b = false := fun hh => by
      cases hB : isB b with
      | false => rfl
      | true =>
        obtain ⟨p1, p2, p3, p4, p5⟩ := isB_parts hB
        have hm := List.mem_of_getElem? hi
        have p6 := (p5 row hm).1
        have : row.all cell01 = true := List.all_eq_true.mpr fun c hc => by
          rcases (p5 row hm).2 c hc with h | h <;> (subst h; rfl)
        rw [this, p6, decide_eq_true p3, decide_eq_true p4] at hh
        simp at hh
    refine q_if (b := false || (!(decide ((1 : Int) ≤ (row.length : Int)) && decide ((row.length : Int) ≤ 6)) || !decide ((row.length : Int) = (wide b : Int)))) m2.bh
      (Evl.et_or (Evl.et_not (a := true) (t_B (ev_isi (r := il) (x := row) (by walk_at "ev") ty_lst kit_ll))) fun _ => Evl.et_or (Evl.et_not (t_chain (i := 1) (j := (row.length : Int)) (k := 6) (by walk_at "ev") (by walk_at "ev") rfl (fun _ => by walk_at "ev") rfl)) fun _ => t_test (ev_neI (ev_len (r := int) (xs := row) (by walk_at "ev")) (ev_wide rfl hv1 hl))) (fun hc2 H2 e2 => ?_) (fun hc2 H2 e2 => ?_)
    · refine w_ret (m2.bh.trans e2) (P := poR bl false) (by walk_at "ev") fun u B3 H3 n3 hu => q u B3 H3 ((m2.grow e2).trans n3) ?_
      show (poR bl (isB b)).P H B3 u
      rw [bad]
      · exact hu
      · simp only [Bool.false_or, Bool.or_eq_true, Bool.not_eq_true', Bool.and_eq_false_iff, decide_eq_false_iff_not] at hc2
        simp only [Bool.and_eq_false_iff, decide_eq_false_iff_not, beq_eq_false_iff_ne]
        omega
    simp only [Bool.false_or, Bool.or_eq_false_iff, Bool.not_eq_false', Bool.and_eq_true, decide_eq_true_eq] at hc2
    have hlen : row.length = wide b := by omega
    have m3 := m2.grow e2
    refine w_forL (r := int) (xs := row) m3.bh (by walk_at "ev") (fun B4 j σ' H' => ∃ z, σ' = [some v, some v', z] ∧ Nw B H B4 H' ∧ Ex B1 B4 ∧ ∀ c ∈ row.take j, cell01 c = true)
      (fun B4 H4 n4 => ⟨z, rfl, m3.trans n4, n4.bb, by simp⟩) (fun B4 j σ' H' ⟨_, _, m, _⟩ => Sx.of m.bh) ?_ ?_
    · rintro B4 H4' j c w σ' H4 n4 hj hw ⟨z, rfl, m4, e14, hc4⟩
      cases hw
      refine w_if0 (b := false || (false || (!decide (c = 0) && !decide (c = 1)))) m4.bh (Evl.et_or (Evl.et_not (a := true) (t_B (ev_isi (r := int) (x := c) (by walk_at "ev") ty_int kit_ii))) fun _ => Evl.et_or (t_B (ev_isi (r := int) (x := c) (by walk_at "ev") ty_int kit_ib)) fun _ => Evl.et_and (t_test (ev_neI (by walk_at "ev") (by walk_at "ev"))) (fun _ => t_test (ev_neI (by walk_at "ev") (by walk_at "ev")))) (fun hc5 H5 e5 => ?_) (fun hc5 H5 e5 => ?_)
      · refine w_ret (m4.bh.trans e5) (P := poR bl false) (by walk_at "ev") fun u B6 H6 n6 hu => q u B6 H6 ((m4.grow e5).trans n6) ?_
        show (poR bl (isB b)).P H B6 u
        rw [bad]
        · exact hu
        · rw [Bool.and_eq_false_iff]
          right
          rw [Bool.and_eq_false_iff]
          right
          refine List.all_eq_false.mpr ⟨c, List.mem_of_getElem? hj, ?_⟩
          simp only [Bool.false_or, Bool.and_eq_true, Bool.not_eq_true', decide_eq_false_iff_not] at hc5
          unfold cell01
          simp [hc5.1, hc5.2]
      · refine ⟨_, rfl, m4.grow e5, e14, fun c' hc' => ?_⟩
        rw [take_succ' hj] at hc'
        rcases List.mem_append.mp hc' with hc' | hc'
        · exact hc4 c' hc'
        · have e : c' = c := by simpa using hc'
          subst e
          simp only [Bool.false_or, Bool.and_eq_false_iff, Bool.not_eq_false', decide_eq_true_eq] at hc5
          unfold cell01
          rcases hc5 with h | h <;> simp [h]
    · rintro B4 σ' H4 ⟨z, rfl, m4, e14, hc4⟩
      refine ⟨_, _, rfl, m2.back (e14.trans m4.bh) m4.hh, fun row' hr' => ?_⟩
      rw [take_succ' hi] at hr'
      rcases List.mem_append.mp hr' with hr' | hr'
      · exact hall row' hr'
      · have e : row' = row := by simpa using hr'
        subst e
        rw [List.take_length] at hc4
        rw [Bool.and_eq_true]
        exact ⟨by omega, by omega, beq_iff_eq.mpr hlen, List.all_eq_true.mpr hc4⟩
  · rintro B1 σ' H' ⟨y, z, rfl, m2, hall⟩
    refine w_ret m2.bh (P := poR bl true) (by walk_at "ev") fun u B3 H3 n3 hu => q u B3 H3 (m2.trans n3) ?_
    have : isB b = true := by
      rw [List.take_length] at hall
      have hw : 1 ≤ wide b ∧ wide b ≤ 6 := by
        have := hall (b.headD []) (List.mem_of_getElem? (hd_at hl))
        exact ⟨this.1, this.2.1⟩
      unfold isB
      rw [decide_eq_true hl, decide_eq_true (show b.length ≤ 6 by omega), decide_eq_true hw.1, decide_eq_true hw.2, List.all_eq_true.mpr fun row hr => (hall row hr).2.2]
      rfl
    show (poR bl (isB b)).P H B3 u
    rw [this]
    exact hu
end
end MK

namespace MK
open PySem PySem.Spec PyProof.Rows L2 Evl
section
variable {vs : List V} {H : Hp} {Q : VK} {E : XK} {K : PySem.W.Frag}
theorem ev_orT {σ : St} {B : Hp} {ta tb : TE} {b c d : Bool} (h1 : EVr ta σ B bl b) (h2 : b = false → EVr tb σ B bl c) (e : (b || c) = d) : EVr (tOrV ta tb) σ B bl d := by
  subst e
  exact ev_orV h1 h2
theorem pure_other {C : Er} {a : Addr} {cls : Value} {dd : Option Addr} (h : sp__law_other K C a cls dd vs H Q E) : t__law_other K C a cls dd { nx := fun _ H' => Q .non H', rt := Q } (L2.start ["e", "wanted", "sorts", "k"] vs) H := by
  obtain ⟨D, d, rfl, rfl, kd, hd, rfl, q⟩ := h
  show t__law_other K C a _ _ _ [some (.ref a), some (.int (d : Int)), none, none] H
  unfold t__law_other
  have own : ∀ (c : Addr) (w : Value), RelV (.ref c) w → w = .ref c := fun c w r => r
  refine q_set (P := poL bl [d == 0, d == 1, d == 2, d == 3]) (Ex.refl H) ?_ fun u B1 H1 n1 hu => ?_
  · exact ev_lst (ea_cons (ev_isX rfl kd.ec (own _) kd.k0) (ea_cons (ev_isX rfl kd.ec (own _) kd.k1) (ea_cons (ev_isX rfl kd.ec (own _) kd.k2) (ea_cons (ev_isX rfl kd.ec (own _) kd.k3) ea_nil)))) (by show 4 ≤ _; decide)
  have hu1 := poL_lst hu
  refine q_set (P := poL bl ([d == 0, d == 1, d == 2, d == 3] ++ [d == 4, d == 5])) n1.bh ?_ fun u2 B2 H2 n2 hu2 => ?_
  · exact ev_cat (ev_var rfl hu1) (EV.of_n (ev_lst (ea_cons (ev_isX rfl kd.ec (own _) kd.k4) (ea_cons (ev_isX rfl kd.ec (own _) kd.k5) ea_nil)) (by show 2 ≤ _; decide))) (by show 4 + 2 ≤ _; decide)
  have hu3 := poL_lst hu2
  refine w_ret (P := poR bl false) n2.bh ?_ fun u B3 H3 n3 hu => by
    cases hu
    exact q H3 ((n1.hh.trans n2.hh).trans n3.hh)
  refine ev_orT (b := !decide ([d == 0, d == 1, d == 2, d == 3] ++ [d == 4, d == 5] = (List.range 6).map fun (k : Nat) => decide ((k : Int) = (d : Int)))) (c := false) (ev_neD (r := lst bl) (ev_var rfl hu3) (EV.of_n ?_) (by decide)) (fun _ => ev_notV (b := true) (ev_isX rfl kd.ec (fun w r => r) kd.ve)) ?_
  · exact ev_lcR (n := 6) (f := fun (k : Nat) => decide ((k : Int) = (d : Int))) (EV.eq (x := 6) ev_int rfl) (by decide) (fun _ => rfl) fun i B4 hi e4 => (by exact ev_eqI (ev_varI (z := (i : Int)) rfl) (ev_varI (z := (d : Int)) rfl))
  · match d, hd with
    | 0, _ => rfl
    | 1, _ => rfl
    | 2, _ => rfl
    | 3, _ => rfl
    | 4, _ => rfl
    | 5, _ => rfl
/-- the suite of an except clause: 1 + int(_law_other(e, d)), None -/
theorem suite_told {C : Er} {a D : Addr} {d : Nat} {σ : St} {i : Nat} {De : Ends} {B0 H0 B : Hp} (hi : σ[i]? = some (some (.ref a))) (kd : KindOk K C D d) (hd : d < 6) (m : Nw B0 H0 B H) (k : ∀ u B' H', Nw B0 H0 B' H' → (poT2 1 poN).P H0 B' u → De.rt u H') :
    tRet (tTup (tCons (tOp (rI0 fun i j => .int (i + j)) (tC (.int 1)) (tCB rInt1 (tCons (tCall (sp__law_other K C a (.ref D) none) [] E0 (tCons (tVar i) (tCons (tC (.int (d : Int))) tNil))) tNil))) (tCons (tC .non) tNil))) De σ H := by
  refine w_ret (P := poT2 1 poN) m.bh (ev_t2 (ev_ii (i := 1) (j := 0) ev_int (ev_intB (b := false) ?_) rfl) ev_non) fun u B1 H1 n1 hu => k u B1 H1 (m.trans n1) ((poT2 1 poN).dn m.hh hu)
  exact EV.of fun H1 e Q q => ⟨.ref a, hi, D, d, rfl, rfl, kd, hd, rfl, fun H2 e2 => q _ B H2 ((Nw.refl e).grow e2) rfl⟩
/-- try: return (0, f(x)) / except MarkError as e: return (1 + int(_law_other(e, d)), None) -/
theorem try_told1 {α : Type} {r : R α} {f : α → Sum Addr Po} {x : α} {C : Er} {d i : Nat} {σ : St} {B : Hp} {ta : TE} {De : Ends} (e : Ex B H) (h : EVr ta σ B r x) (hi : i < σ.length) (hd : d < 6)
    (k1 : ∀ po, f x = .inr po → ∀ u B' H', Nw B H B' H' → (poT2 0 po).P H B' u → De.rt u H') (k2 : ∀ c, f x = .inl c → KindOk K C c d ∧ ∀ u B' H', Nw B H B' H' → (poT2 1 poN).P H B' u → De.rt u H') :
    tTryAs K (.ref C.MarkError) i (fun W => tRet (tTup (tCons (tC (.int 0)) (tCons (tCallS (sp1x r f) (WE W) (tCons ta tNil)) tNil))))
      (fun a cls dd => tRet (tTup (tCons (tOp (rI0 fun i j => .int (i + j)) (tC (.int 1)) (tCB rInt1 (tCons (tCall (sp__law_other K C a cls dd) [] E0 (tCons (tVar i) (tCons (tC (.int (d : Int))) tNil))) tNil))) (tCons (tC .non) tNil)))) De σ H :=
  h.run e fun v B1 H1 n1 hv => ⟨B1, v, x, n1.bh, rfl, hv, fun c hc H2 e2 => by
    obtain ⟨kd, k⟩ := k2 c hc
    refine ⟨true, kd.ex, fun _ a na => ?_, fun z => nomatch z⟩
    refine suite_told (a := a) (D := c) (d := d) (B0 := B) (H0 := H) (B := B1) (by rw [List.getElem?_set_self hi]) kd hd ⟨n1.bb, n1.bh.trans e2, n1.hh.trans e2, n1.fr⟩ k, fun po hp u B2 H2 n2 hu => ⟨sz_of (by show 2 ≤ 100000; decide), fun t ht =>
      k1 po hp _ _ _ ((n1.trans n2).trans (Nw.new n2.bh ht)) ⟨t, u, rfl, fresh_back (n1.hh.trans n2.hh) ht, upd_same, po.up (Ex.new (fresh_back n2.bh ht)) (po.dn n1.hh hu)⟩⟩⟩
theorem pure_told_k01 {C : Er} (kd : KindOk K C C.NoBoard 0) (h : sp__law_told_k01 vs H Q E) : t__law_told_k01 K C { nx := fun _ H' => Q .non H', rt := Q } (L2.start ["board", "e"] vs) H := by
  obtain ⟨B, v, b, e, rfl, hv, -, q⟩ := h
  dsimp only at q
  show t__law_told_k01 K C _ [some v, none] H
  unfold t__law_told_k01
  refine try_told1 (d := 0) (B := B) (x := b) e (by walk_at "ev") (by show 1 < 2; decide) (by decide) (fun po hp u B' H' n hu => ?_) (fun c hc => ?_)
  · split at hp
    · rename_i hb
      cases hp
      rw [if_pos hb] at q
      exact q u B' H' n hu
    · cases hp
  · split at hc
    · cases hc
    · rename_i hb
      cases hc
      rw [if_neg hb] at q
      exact ⟨kd, q⟩
end
end MK

namespace MK
open PySem PySem.Spec PyProof.Rows L2 Evl
section
variable {α β γ ζ : Type} {r : R α} {q : R β} {s : R γ} {x : α} {y : β} {σ : St} {B B' : Hp} {ta tb tc td te tl tn : TE} {P P' : Po} {b c : Bool} {i k z : Int} {K : PySem.W.Frag} {j n : Nat}
theorem at_of_any {xs : List α} {z : Int} {j : Nat} {v : α} (e : z = (j : Int)) (h : xs[j]? = some v) : atI xs z = some v := by
  subst e
  exact atI_nat h
theorem ev_to {xs : List α} (h : EVr te σ B (lst r) xs) (hn : EVr tn σ B int (n : Int)) : EVn (tSl (rSlL K) te tNoPart (tPart tn)) σ B r (xs.take n) := by
  have := ev_slice (K := K) h eo_none (eo_some hn)
  rwa [cut_to] at this
theorem ev_from {xs : List α} (h : EVr te σ B (lst r) xs) (hn : EVr tn σ B int z) (e : z = (n : Int)) : EVn (tSl (rSlL K) te (tPart tn) tNoPart) σ B r (xs.drop n) := by
  subst e
  have := ev_slice (K := K) h (eo_some hn) eo_none
  rwa [cut_from] at this
theorem paired_rep {F : V → α → Prop} {vs : List V} {xs : List α} (h : Paired F vs xs) : ∀ k : Nat, Paired F (List.replicate k vs).flatten (List.replicate k xs).flatten
  | 0 => .nil
  | k + 1 => by
    rw [List.replicate_succ, List.replicate_succ, List.flatten_cons, List.flatten_cons]
    exact paired_app h (paired_rep h k)
theorem ev_rep {xs : List α} (ha : EVr ta σ B (lst r) xs) (hb : EVr tb σ B int (n : Int)) (hn : n ≤ 100) (hz : xs.length ≤ 1000) : EVn (tOp rRep ta tb) σ B r (List.replicate n xs).flatten :=
  ev_two ha hb fun B1 H1 v w e1 hv hw Q k => by
    obtain ⟨a, vs, rfl, h2, h3⟩ := hv
    cases hw
    have e2 : (n : Int).toNat = n := by omega
    refine ⟨a, (n : Int), vs, rfl, rfl, e1 _ _ h2, by omega, by omega, ?_, fun p hp => ?_⟩
    · rw [e2, paired_len h3]
      exact sz_of (Nat.le_trans (Nat.mul_le_mul hz hn) (by decide))
    · rw [e2]
      exact new_list (Q := Q) e1 (paired_rep h3 n) k hp
/-- [a, b, ..][i], any of them -/
theorem ev_pick {xs : List α} {Φ : Po} (h : EVn te σ B r xs) (hn : EVr tn σ B int z) (h0 : 0 ≤ z) (h1 : z < (xs.length : Int)) (hx : ∀ x ∈ xs, ∀ H B v, r.p B v x → Φ.P H B v) : EV (tOp (rIxL K) te tn) σ B Φ := by
  have hl : z.toNat < xs.length := by omega
  have e : atI xs z = some xs[z.toNat] := at_of_any (j := z.toNat) (by omega) (List.getElem?_eq_getElem hl)
  exact (ev_ix (K := K) (EV.of_n h) hn e).imp fun H B v _ p => hx _ (List.getElem_mem hl) H B v p
end
section
variable {vs : List V} {H : Hp} {Q : VK} {E : XK} {K : PySem.W.Frag}
theorem small_of {b : List (List Int)} {H B : Hp} {v : V} (h : bd.p B v b) (h1 : b.length ≤ 50) (h2 : ∀ row ∈ b, row.length ≤ 50) : poSmall.P H B v := ⟨b, h1, h2, h⟩
theorem small_cut {b : List (List Int)} {a : Nat} {m : List Int} (h1 : b.length ≤ 6) (h2 : ∀ row ∈ b, row.length ≤ 6) (hm : m.length ≤ 20) : (b.take a ++ [m] ++ b.drop (a + 1)).length ≤ 50 ∧ ∀ row ∈ b.take a ++ [m] ++ b.drop (a + 1), row.length ≤ 50 := by
  refine ⟨?_, fun row hr => ?_⟩
  · rw [List.length_append, List.length_append, List.length_take, List.length_drop, List.length_singleton]
    omega
  · rcases List.mem_append.mp hr with hr | hr
    · rcases List.mem_append.mp hr with hr | hr
      · have := h2 row (List.mem_of_mem_take hr); omega
      · have e : row = m := by simpa using hr
        rw [e]; omega
    · have := h2 row (List.mem_of_mem_drop hr); omega
theorem pure_spoilt (h : sp__law_spoilt vs H Q E) : t__law_spoilt K { nx := fun _ H' => Q .non H', rt := Q } (L2.start ["board", "how", "cell", "at", "place", "odd", "row", "line", "wide"] vs) H := by
  obtain ⟨B, v, w, t, b, how, c, e, rfl, hv, hw, ht, hb, q⟩ := h
  cases hw
  cases ht
  dsimp only at q
  obtain ⟨l1, l2, l3, l4, l5⟩ := isB_parts hb
  have l6 : ∀ row ∈ b, row.length ≤ 6 := fun row hr => by rw [(l5 row hr).1]; exact l4
  show t__law_spoilt K _ [some v, some (.int how), some (.int c), none, none, none, none, none, none] H
  unfold t__law_spoilt
  have m0 := Nw.refl e
  obtain ⟨at_, hat, eat⟩ : ∃ a : Nat, a < b.length ∧ c % (b.length : Int) = (a : Int) := ⟨(c % (b.length : Int)).toNat, by
    have h3 := Int.emod_nonneg c (show (b.length : Int) ≠ 0 by omega)
    have h4 := Int.emod_lt_of_pos c (show 0 < (b.length : Int) by omega)
    omega, by
    have h3 := Int.emod_nonneg c (show (b.length : Int) ≠ 0 by omega)
    omega⟩
  obtain ⟨pl, hpl, epl⟩ : ∃ a : Nat, a < wide b ∧ c / 8 % (wide b : Int) = (a : Int) := ⟨(c / 8 % (wide b : Int)).toNat, by
    have h3 := Int.emod_nonneg (c / 8) (show (wide b : Int) ≠ 0 by omega)
    have h4 := Int.emod_lt_of_pos (c / 8) (show 0 < (wide b : Int) by omega)
    omega, by
    have h3 := Int.emod_nonneg (c / 8) (show (wide b : Int) ≠ 0 by omega)
    omega⟩
  refine q_set (P := poR int (at_ : Int)) e (EV.eq (x := c % (b.length : Int)) (ev_iic (by walk_at "ev") (ev_len (r := il) (xs := b) (by walk_at "ev")) (by omega) rfl) eat) fun u B1 H1 n1 hu => ?_
  cases hu
  have m1 := m0.trans n1
  have hv1 := bd.stE n1.bb hv
  refine q_set (P := poR int (pl : Int)) n1.bh (EV.eq (x := c / 8 % (wide b : Int)) (ev_iic (ev_iic (i := c) (j := 8) (by walk_at "ev") (by walk_at "ev") ⟨by decide, by decide⟩ rfl) (ev_wide rfl hv1 l1) (by omega) rfl) epl) fun u B2 H2 n2 hu => ?_
  cases hu
  have m2 := m1.trans n2
  refine q_set (P := ⟨fun _ _ v => ∃ o : Int, v = .int o, fun _ h => h, fun _ h => h⟩) n2.bh ?_ fun u B3 H3 n3 hu => ?_
  · refine ev_pick (r := int) (xs := [-1, 2, c / 64 % 201 - 100]) (z := c / 512 % 3) (ev_lst (ea_cons (ev_neg ev_int) (ea_cons (by walk_at "ev") (ea_cons (ev_ii (ev_iic (ev_iic (i := c) (j := 64) (by walk_at "ev") (by walk_at "ev") ⟨by decide, by decide⟩ rfl) (j := 201) (by walk_at "ev") (by decide) rfl) (by walk_at "ev") rfl) ea_nil))) (by show 3 ≤ _; decide)) (ev_iic (ev_iic (i := c) (j := 512) (by walk_at "ev") (by walk_at "ev") ⟨by decide, by decide⟩ rfl) (j := 3) (by walk_at "ev") (by decide) rfl) (by omega) (by show _ < ((3 : Nat) : Int); omega) (fun x _ H B v hx => ⟨x, hx⟩)
  obtain ⟨odd, rfl⟩ := hu
  have m3 := m2.trans n3
  obtain ⟨row, hrow⟩ : ∃ row, b[at_]? = some row := ⟨_, List.getElem?_eq_getElem hat⟩
  have hmem := List.mem_of_getElem? hrow
  have hrl := l6 row hmem
  refine q_set (P := poR il row) n3.bh (ev_ix (xs := b) (ev_var rfl (bd.stE m3.bb hv)) (ev_varI (z := (at_ : Int)) rfl) (atI_nat hrow)) fun vr B4 H4 n4 hr => ?_
  have m4 := m3.trans n4
  have hr : il.p B4 vr row := hr
  have hv4 : bd.p B4 v b := bd.stE m4.bb hv
  -- the board with one row put otherwise
  have cutEv : ∀ {σ : St} {B5 : Hp} {tm : TE} {m : List Int}, σ[0]? = some (some v) → σ[3]? = some (some (.int (at_ : Int))) → bd.p B5 v b → EVr tm σ B5 il m → m.length ≤ 20 →
      EV (tOp rCat (tOp rCat (tSl (rSlL K) (tVar 0) tNoPart (tPart (tVar 3))) (tLst (tCons tm tNil))) (tSl (rSlL K) (tVar 0) (tPart (tOp (rI0 fun i j => .int (i + j)) (tVar 3) (tC (.int 1)))) tNoPart)) σ B5 poSmall := fun {σ B5 tm m} g0 g3 hb5 hm hl => by
    have big := small_cut (a := at_) (m := m) l2 l6 hl
    have s1 : (b.take at_).length ≤ 6 := by rw [List.length_take]; omega
    have s2 : (b.drop (at_ + 1)).length ≤ 6 := by rw [List.length_drop]; omega
    have main : EVn (tOp rCat (tOp rCat (tSl (rSlL K) (tVar 0) tNoPart (tPart (tVar 3))) (tLst (tCons tm tNil))) (tSl (rSlL K) (tVar 0) (tPart (tOp (rI0 fun i j => .int (i + j)) (tVar 3) (tC (.int 1)))) tNoPart)) σ B5 il (b.take at_ ++ [m] ++ b.drop (at_ + 1)) :=
      ev_cat (EV.of_n (ev_cat (EV.of_n (ev_to (ev_var g0 hb5) (ev_varI g3))) (EV.of_n (ev_lst (ea_cons hm ea_nil) (by show 1 ≤ _; decide))) (by rw [List.length_singleton]; omega)))
        (EV.of_n (ev_from (n := at_ + 1) (ev_var g0 hb5) (ev_ii (ev_varI g3) ev_int rfl) (by omega))) (by rw [List.length_append, List.length_singleton]; omega)
    exact main.imp fun H B v _ p => small_of (poL_lst p) big.1 big.2
  -- how == 1
  refine q_if (b := decide (how = 1)) m4.bh (t_test (ev_eqI (by walk_at "ev") (by walk_at "ev"))) (fun hc H5 e5 => ?_) (fun hc H5 e5 => ?_)
  · have m5 := m4.grow e5
    refine q_set (P := poL int (row.take pl ++ [odd] ++ row.drop (pl + 1))) m5.bh ?_ fun u B6 H6 n6 hu => ?_
    · have s1 : (row.take pl).length ≤ 6 := by rw [List.length_take]; omega
      have s2 : (row.drop (pl + 1)).length ≤ 6 := by rw [List.length_drop]; omega
      exact ev_cat (EV.of_n (ev_cat (EV.of_n (ev_to (r := int) (xs := row) (ev_var rfl hr) (ev_varI rfl))) (EV.of_n (ev_lst (ea_cons (ev_varI (z := odd) rfl) ea_nil) (by show 1 ≤ _; decide))) (by rw [List.length_singleton]; omega)))
        (EV.of_n (ev_from (n := pl + 1) (ev_var rfl hr) (ev_ii (ev_varI (z := (pl : Int)) rfl) ev_int rfl) (by omega))) (by rw [List.length_append, List.length_singleton]; omega)
    have m6 := m5.trans n6
    have hv6 := bd.stE n6.bb hv4
    have hl6 := poL_lst hu
    have s3 : (row.take pl ++ [odd] ++ row.drop (pl + 1)).length ≤ 20 := by rw [List.length_append, List.length_append, List.length_take, List.length_drop, List.length_singleton]; omega
    refine w_ret (P := poSmall) m6.bh ?_ fun u B7 H7 n7 hu => q u B7 H7 (m6.trans n7) hu
    exact cutEv rfl rfl hv6 (ev_var rfl hl6) s3
  have m5 := m4.grow e5
  -- how == 2
  refine q_if (b := decide (how = 2)) m5.bh (t_test (ev_eqI (by walk_at "ev") (by walk_at "ev"))) (fun hc2 H6 e6 => ?_) (fun hc2 H6 e6 => ?_)
  · have m6 := m5.grow e6
    refine w_ret (P := poSmall) m6.bh ?_ fun u B7 H7 n7 hu => q u B7 H7 (m6.trans n7) hu
    have s1 : (row.take pl).length ≤ 6 := by rw [List.length_take]; omega
    have s2 : (row.drop (pl + 1)).length ≤ 6 := by rw [List.length_drop]; omega
    exact cutEv rfl rfl hv4 (EV.of_n (ev_cat (EV.of_n (ev_to (r := int) (xs := row) (ev_var rfl hr) (ev_varI rfl))) (EV.of_n (ev_from (n := pl + 1) (ev_var rfl hr) (ev_ii (ev_varI (z := (pl : Int)) rfl) ev_int rfl) (by omega))) (by omega))) (by rw [List.length_append]; omega)
  have m6 := m5.grow e6
  -- how == 3
  refine q_if (b := decide (how = 3)) m6.bh (t_test (ev_eqI (by walk_at "ev") (by walk_at "ev"))) (fun hc3 H7 e7 => ?_) (fun hc3 H7 e7 => ?_)
  · have m7 := m6.grow e7
    refine w_ret (P := poSmall) m7.bh ?_ fun u B8 H8 n8 hu => q u B8 H8 (m7.trans n8) hu
    exact cutEv rfl rfl hv4 (EV.of_n (ev_cat (xs := row) (ys := [c / 64 % 2]) (ev_var rfl hr) (EV.of_n (ev_lst (ea_cons (ev_iic (ev_iic (i := c) (j := 64) (by walk_at "ev") (by walk_at "ev") ⟨by decide, by decide⟩ rfl) (j := 2) (by walk_at "ev") (by decide) rfl) ea_nil) (by show 1 ≤ _; decide))) (by rw [List.length_singleton]; omega))) (by rw [List.length_append, List.length_singleton]; omega)
  have m7 := m6.grow e7
  -- how == 4
  refine q_if (b := decide (how = 4)) m7.bh (t_test (ev_eqI (by walk_at "ev") (by walk_at "ev"))) (fun hc4 H8 e8 => ?_) (fun hc4 H8 e8 => ?_)
  · have m8 := m7.grow e8
    refine q_set (P := poL il (b.map fun row => (List.replicate 7 row).flatten)) m8.bh (ev_lc (r := il) (xs := b) (ev_var rfl hv4) (by omega) (fun _ => rfl) fun row' v' B9 hm e9 hr' => EV.of_n (ev_rep (n := 7) (ev_var rfl hr') (EV.eq (x := 7) ev_int rfl) (by decide) (by have := l6 row' hm; omega))) fun u B9 H9 n9 hu => ?_
    have m9 := m8.trans n9
    have hv9 := bd.stE n9.bb hv4
    have hw9 := poL_lst hu
    refine w_ret (P := poSmall) m9.bh ?_ fun u B10 H10 n10 hu => q u B10 H10 (m9.trans n10) hu
    refine ev_pick (r := bd) (z := c % 4) (ev_lst (ea_cons (EV.of_n (ev_rep (n := 7) (ev_var rfl hv9) (EV.eq (x := 7) ev_int rfl) (by decide) (by omega))) (ea_cons (ev_var rfl hw9) (ea_cons (EV.of_n (ev_lc (r := il) (xs := b) (f := fun _ => []) (ev_var rfl hv9) (by omega) (fun _ => rfl) fun row' v' B11 hm e11 hr' => EV.of_n (ev_lst ea_nil (by decide)))) (ea_cons (EV.of_n (ev_lst (xs := []) ea_nil (by decide))) ea_nil)))) (by show 4 ≤ _; decide)) (ev_iic (i := c) (j := 4) (by walk_at "ev") (by walk_at "ev") (by decide) rfl) (by omega) (by show _ < ((4 : Nat) : Int); omega) (fun x hx H B v hp => small_of hp ?_ ?_)
    · simp only [List.mem_cons, List.not_mem_nil, or_false] at hx
      rcases hx with rfl | rfl | rfl | rfl
      · rw [List.length_flatten, List.map_replicate, List.sum_replicate_nat]
        omega
      · rw [List.length_map]; omega
      · rw [List.length_map]; omega
      · decide
    · intro row' hr'
      simp only [List.mem_cons, List.not_mem_nil, or_false] at hx
      rcases hx with rfl | rfl | rfl | rfl
      · obtain ⟨l, hl, hrl⟩ := List.mem_flatten.mp hr'
        rw [List.eq_of_mem_replicate hl] at hrl
        have := l6 row' hrl
        omega
      · obtain ⟨r0, h0, rfl⟩ := List.mem_map.mp hr'
        rw [List.length_flatten, List.map_replicate, List.sum_replicate_nat]
        have := l6 r0 h0
        omega
      · obtain ⟨r0, h0, rfl⟩ := List.mem_map.mp hr'
        decide
      · cases hr'
  have m8 := m7.grow e8
  -- how == 5
  refine q_if (b := decide (how = 5)) m8.bh (t_test (ev_eqI (by walk_at "ev") (by walk_at "ev"))) (fun hc5 H9 e9 => ?_) (fun hc5 H9 e9 => ?_)
  · have m9 := m8.grow e9
    refine w_ret (P := poSmall) m9.bh ?_ fun u B10 H10 n10 hu => q u B10 H10 (m9.trans n10) hu
    exact cutEv rfl rfl hv4 (EV.of_n (ev_lst ea_nil (by decide))) (by decide)
  have m9 := m8.grow e9
  refine w_ret (P := poR bd b) m9.bh (ev_var rfl hv4) fun u B10 H10 n10 hu => q u B10 H10 (m9.trans n10) (small_of hu (by omega) fun row' hr' => by have := l6 row' hr'; omega)
end
end MK

namespace MK
open PySem PySem.Spec PyProof.Rows L2 Evl
/-! ### forgetting what is to change -/
def off (p : Addr) (B : Hp) : Hp := fun a => if a = p then none else B a
theorem off_ex {p : Addr} {B : Hp} : Ex (off p B) B := fun a o h => by
  unfold off at h
  split at h
  · cases h
  · exact h
theorem off_at {p : Addr} {B : Hp} : off p B p = none := if_pos rfl
theorem off_ne {p a : Addr} {B : Hp} (h : a ≠ p) : off p B a = B a := if_neg h
theorem Nw.off {B0 H0 B H : Hp} {p : Addr} (n : Nw B0 H0 B H) (h : B0 p = none) : Nw B0 H0 (MK.off p B) H := ⟨fun a o q => by
  have ne : a ≠ p := fun z => by subst z; rw [h] at q; cases q
  rw [off_ne ne]
  exact n.bb a o q, off_ex.trans n.bh, n.hh, fun a q => by
  by_cases e : a = p
  · subst e; rw [off_at, h]
  · rw [off_ne e]; exact n.fr a q⟩
theorem ex_off {B B1 : Hp} {p : Addr} (e : Ex B B1) (h : B p = none) : Ex B (MK.off p B1) := fun a o q => by
  have ne : a ≠ p := fun z => by subst z; rw [h] at q; cases q
  rw [off_ne ne]
  exact e a o q
/-- counting the columns one way or the other -/
theorem zw_get {xs ys : List Int} {k : Nat} (h1 : k < xs.length) (h2 : k < ys.length) : (List.zipWith (· + ·) xs ys).getD k 0 = xs.getD k 0 + ys.getD k 0 := by
  rw [List.getD_eq_getElem?_getD, List.getD_eq_getElem?_getD, List.getD_eq_getElem?_getD, List.getElem?_zipWith, List.getElem?_eq_getElem h1, List.getElem?_eq_getElem h2]
  rfl
theorem add_from {n : Nat} : ∀ (b : List (List Int)) (cs : List Int), cs.length = n → (∀ row ∈ b, row.length = n) → b.foldl (fun cs row => List.zipWith (· + ·) cs row) cs = (List.range n).map fun k => cs.getD k 0 + (b.map fun row => row.getD k 0).sum
  | [], cs, h, _ => by
    refine List.ext_getElem? fun i => ?_
    rw [List.foldl_nil, List.getElem?_map]
    by_cases hi : i < n
    · rw [List.getElem?_range hi]
      show cs[i]? = some (cs.getD i 0 + 0)
      rw [List.getD_eq_getElem?_getD, List.getElem?_eq_getElem (by omega)]
      simp
    · rw [List.getElem?_eq_none (by omega), List.getElem?_eq_none (by rw [List.length_range]; omega)]
      rfl
  | row :: b, cs, h, hw => by
    have hr := hw row List.mem_cons_self
    rw [List.foldl_cons, add_from b _ (by rw [List.length_zipWith, h, hr, Nat.min_self]) (fun r m => hw r (List.mem_cons_of_mem _ m))]
    refine List.map_congr_left fun k hk => ?_
    have hk := List.mem_range.mp hk
    rw [zw_get (by omega) (by omega), List.map_cons, List.sum_cons]
    omega
theorem add_cols {b : List (List Int)} (hw : ∀ row ∈ b, row.length = wide b) : addF b = colsF b := by
  unfold addF colsF
  rw [add_from (n := wide b) b _ (by rw [List.length_map]; rfl) hw]
  refine List.map_congr_left fun k hk => ?_
  have hk := List.mem_range.mp hk
  have : ((b.headD []).map fun _ => (0 : Int)).getD k 0 = 0 := by
    rw [List.getD_eq_getElem?_getD, List.getElem?_map]
    cases (b.headD [])[k]? <;> rfl
  rw [this]
  omega
section
variable {vs : List V} {H : Hp} {Q : VK} {E : XK} {K : PySem.W.Frag}
/-- [list(row) for row in b] -/
theorem ev_copy {σ : St} {B : Hp} {tl : TE} {b : List (List Int)} {j : Nat} (h : EVr tl σ B bd b) (hz : b.length ≤ 40000) (hw : ∀ v, wipe ((wipe σ [j]).set j (some v)) [j] = wipe σ [j]) (hj : j < σ.length) :
    EV (tLc (iList K tl) (gName j) tYes (tCB (rListS K) (tCons (tVar j) tNil)) [j]) σ B (poB b) := by
  have := ev_lcB (K := K) (ws := [j]) (j := j) (te := tCB (rListS K) (tCons (tVar j) tNil)) (f := fun row : List Int => row) h hz hw fun row v B1 hm e1 hv => ev_list (ev_var (by
    have : j < (wipe σ [j]).length := by rw [wipe_length]; exact hj
    rw [List.getElem?_set_self this]) hv)
  rwa [List.map_id'] at this
theorem isB_board {ns : List Int} {a m : Int} (h0 : 1 ≤ m) (h1 : m ≤ 6) : isB (boardF ns a m) = true := by
  have g1 := highF_le (ns := ns) (a := a) h0 h1
  have g2 := highF_le (ns := ns) (a := a + 1) h0 h1
  have hlen : (boardF ns a m).length = highF ns a m := by unfold boardF; rw [List.length_map, List.length_range]
  have hrow : ∀ row ∈ boardF ns a m, row.length = highF ns (a + 1) m ∧ ∀ c ∈ row, c = 0 ∨ c = 1 := fun row hr => by
    unfold boardF at hr
    obtain ⟨k, _, rfl⟩ := List.mem_map.mp hr
    exact ⟨by unfold bitsF; rw [bitsOf_len], bitsOf_01 _ _⟩
  have hw : wide (boardF ns a m) = highF ns (a + 1) m := (hrow _ (List.mem_of_getElem? (hd_at (by omega)))).1
  unfold isB
  rw [decide_eq_true (show 1 ≤ (boardF ns a m).length by omega), decide_eq_true (show (boardF ns a m).length ≤ 6 by omega), decide_eq_true (show 1 ≤ wide (boardF ns a m) by omega), decide_eq_true (show wide (boardF ns a m) ≤ 6 by omega), List.all_eq_true.mpr fun row hr => ?_]
  · rfl
  · rw [Bool.and_eq_true]
    refine ⟨beq_iff_eq.mpr (by rw [(hrow row hr).1, hw]), List.all_eq_true.mpr fun c hc => ?_⟩
    rcases (hrow row hr).2 c hc with h | h <;> (subst h; rfl)
/-- an item of a tuple that stands still -/
theorem ev_tupI {σ : St} {B : Hp} {i : Nat} {t : Addr} {us : List V} {z : Int} {n : Nat} (h : σ[i]? = some (some (.ref t))) (ht : B t = some (.tup us)) (hn : us[n]? = some (.int z)) : EVr (tOp (rIxT K) (tVar i) (tC (.int (n : Int)))) σ B int z := EV.of fun H e Q q =>
  ⟨.ref t, h, t, us, (n : Int), .int z, rfl, rfl, SqT.of (e _ _ ht), atI_nat hn, q _ B H (Nw.refl e) rfl⟩
theorem ev_tupR {σ : St} {B : Hp} {i : Nat} {t a : Addr} {us : List V} {n : Nat} (h : σ[i]? = some (some (.ref t))) (ht : B t = some (.tup us)) (hn : us[n]? = some (.ref a)) : EV (tOp (rIxT K) (tVar i) (tC (.int (n : Int)))) σ B ⟨fun _ _ v => v = .ref a, fun _ h => h, fun _ h => h⟩ := EV.of fun H e Q q =>
  ⟨.ref t, h, t, us, (n : Int), .ref a, rfl, rfl, SqT.of (e _ _ ht), atI_nat hn, q _ B H (Nw.refl e) rfl⟩
theorem ev_call1x {α : Type} {r : R α} {f : α → Sum Addr Po} {x : α} {P : Po} {σ : St} {B : Hp} {ta : TE} {E : XK} (h : EVr ta σ B r x) (hp : f x = .inr P) : EV (tCall (sp1x r f) [] E (tCons ta tNil)) σ B P := EV.of fun H e Q k =>
  h.run e fun v B1 H1 n1 hv => ⟨B1, v, x, n1.bh, rfl, hv, fun c hc => (by rw [hp] at hc; cases hc), fun po hpo u B2 H2 n2 hu => by
    rw [hp] at hpo
    cases hpo
    exact k u B2 H2 (n1.trans n2) (P.dn n1.hh hu)⟩
theorem ev_board {σ : St} {B : Hp} {n : Nat} {a : Addr} {ns : List Int} {t1 t2 : TE} {at_ most : Int} (h : σ[n]? = some (some (.ref a))) (hs : SqL K B a (ns.map V.int)) (h1 : EVr t1 σ B int at_) (h2 : EVr t2 σ B int most) (g0 : 0 ≤ at_) (g1 : 1 ≤ most) (g2 : most ≤ 6) :
    EV (tCall (sp__law_board_by K) [] E0 (tCons (tVar n) (tCons t1 (tCons t2 tNil)))) σ B (poB (boardF ns at_ most)) := EV.of fun H e Q q =>
  ⟨.ref a, h, h1.run e fun v B1 H1 n1 hv => (h2.mono n1.bb).run n1.bh fun w B2 H2 n2 hw => ⟨B2, a, ns, at_, most, n2.bh, by rw [hv, hw]; rfl, ex_l (n1.bb.trans n2.bb) hs, g0, g1, g2, fun u B3 H3 n3 hu => q u B3 H3 ((n1.trans n2).trans n3) ((poB _).dn (n1.hh.trans n2.hh) hu)⟩⟩
theorem ev_lenP {α β : Type} {r : R α} {q : R β} {x : α × β} {σ : St} {B : Hp} {te : TE} (h : EVr te σ B (pr r q) x) : EVr (tCB (rLenS K) (tCons te tNil)) σ B int 2 := EV.of fun H e Q k =>
  h.run e fun v B1 H1 n1 ⟨a, v1, v2, h1, h2, _⟩ => ⟨a, [v1, v2], by rw [h1], Or.inr (SqT.of (n1.bh _ _ h2)), k _ B1 H1 n1 rfl⟩
theorem ty_pr {α β : Type} {r : R α} {q : R β} {x : α × β} {K : PySem.W.Frag} {H : Hp} {v : V} (h : (pr r q).p H v x) : TyX K H v (.type "tuple") := by
  obtain ⟨a, v1, v2, rfl, h2, _⟩ := h
  exact .base (.tup h2)
/-- a place that is known to hold an object -/
def poA (a : Addr) : Po := ⟨fun _ _ v => v = .ref a, fun _ h => h, fun _ h => h⟩
theorem ev_ref {σ : St} {B : Hp} {n : Nat} {a : Addr} (h : σ[n]? = some (some (.ref a))) : EV (tVar n) σ B (poA a) := EV.of fun H e Q q => ⟨.ref a, h, q _ B H (Nw.refl e) rfl⟩
theorem ev_tupA {σ : St} {B : Hp} {i : Nat} {t a : Addr} {us : List V} {n : Nat} (h : σ[i]? = some (some (.ref t))) (ht : B t = some (.tup us)) (hn : us[n]? = some (.ref a)) : EV (tOp (rIxT K) (tVar i) (tC (.int (n : Int)))) σ B (poA a) := EV.of fun H e Q q =>
  ⟨.ref t, h, t, us, (n : Int), .ref a, rfl, rfl, SqT.of (e _ _ ht), atI_nat hn, q _ B H (Nw.refl e) rfl⟩
/-- for x, y in zip of two pairs: two turns -/
theorem q_zip2 {σ : St} {B : Hp} {t1 t2 : TE} {tu tw : TS} {D : Ends} {a b : Addr} {x0 x1 y0 y1 : V} {j j2 : Nat} (e : Ex B H) (h1 : EV t1 σ B (poA a)) (h2 : EV t2 σ B (poA b)) (ha : B a = some (.tup [x0, x1])) (hb : B b = some (.tup [y0, y1]))
    (N1 N2 : St → Hp → Prop) (k1 : ∀ σ' H', N1 σ' H' → Ex B H') (k2 : ∀ σ' H', N2 σ' H' → Ex B H') (s0 : ∀ H1, Ex H H1 → tu { D with nx := N1, ct := N1, bk := tw D } ((σ.set j (some x0)).set j2 (some y0)) H1)
    (s1 : ∀ σ1 H1 H2, N1 σ1 H1 → Ex H1 H2 → tu { D with nx := N2, ct := N2, bk := tw D } ((σ1.set j (some x1)).set j2 (some y1)) H2) (hd : ∀ σ' H', N2 σ' H' → tw D σ' H') :
    tSeq (tFor (RZ.iZipA K (tCons t1 (tCons t2 tNil))) (gTup K 2 (gCons (gName j) (gCons (gName j2) gNil))) tu) tw D σ H :=
  h1.run e fun v B1 H1 n1 hv => (h2.mono n1.bb).run n1.bh fun w B2 H2 n2 hw => by
    cases hv
    cases hw
    have eb : Ex B H2 := e.trans (n1.hh.trans n2.hh)
    refine ⟨a, b, [x0, x1], [y0, y1], rfl, Or.inr ⟨SqT.of (eb _ _ ha), SqT.of (eb _ _ hb), ?_⟩⟩
    refine RZ.for_zipT (xs := [x0, x1]) (ys := [y0, y1]) rfl (fun i σ' H' => match i with | 0 => σ' = σ ∧ Ex H H' | 1 => N1 σ' H' | _ => N2 σ' H') ⟨rfl, n1.hh.trans n2.hh⟩ (fun i σ' H' p => ?_) (fun i x y T σ' H' hx hy p nT => ?_) (fun σ' H' p => hd σ' H' p)
    · have : Ex B H' := by
        match i, p with
        | 0, p => exact e.trans p.2
        | 1, p => exact k1 _ _ p
        | _ + 2, p => exact k2 _ _ p
      exact ⟨SqT.of (this _ _ ha), SqT.of (this _ _ hb)⟩
    · match i, p, hx, hy with
      | 0, p, hx, hy =>
        have p : σ' = σ ∧ Ex H H' := p
        obtain ⟨z, p2⟩ := p
        subst z
        cases hx
        cases hy
        exact ⟨T, [x0, y0], rfl, SqT.of upd_same, rfl, x0, [y0], rfl, y0, [], rfl, rfl, s0 _ (p2.trans (Ex.new nT))⟩
      | 1, p, hx, hy =>
        cases hx
        cases hy
        exact ⟨T, [x1, y1], rfl, SqT.of upd_same, rfl, x1, [y1], rfl, y1, [], rfl, rfl, s1 _ _ _ p (Ex.new nT)⟩
      | i + 2, p, hx, hy => cases hx
theorem ne_tl {B : Hp} {a p : Addr} {xs ys : List V} (h1 : B a = some (.tup xs)) (h2 : B p = some (.lst ys)) : a ≠ p := fun z => by
  subst z
  rw [h1] at h2
  cases h2
theorem pure_law_k01 {C : Er} (h : sp_law K vs H Q E) : t_law_k01 K C { nx := fun _ H' => Q .non H', rt := Q } (L2.start ["script", "board", "handed", "row", "told", "found", "due", "one", "other"] vs) H := by
  obtain ⟨a, ns, rfl, hs, hlen, q⟩ := h
  show t_law_k01 K C _ [some (.ref a), none, none, none, none, none, none, none, none] H
  unfold t_law_k01
  have m0 := Nw.refl (Ex.refl H)
  have hB0 : isB (boardF ns 0 6) = true := isB_board (by decide) (by decide)
  -- board = _law_board_by(script, 0, 6)
  refine q_set (P := poB (boardF ns 0 6)) (Ex.refl H) (ev_board rfl hs ev_int ev_int (by decide) (by decide) (by decide)) fun v1 B1 H1 n1 hu1 => ?_
  have hb1 := poB_bd hu1
  have hs1 := ex_l n1.bb hs
  -- board = _law_spoilt(..)
  refine q_set (P := poSmall) n1.bh (ev_call3 (r := bd) (q := int) (s := int) (x := boardF ns 0 6) (y := cellF ns 10 % 6) (z := cellF ns 11) (ev_var rfl hb1) (ev_iic (ev_cell (k := 10) rfl hs1 ev_int (by decide)) (j := 6) ev_int (by decide) rfl) (ev_cell (k := 11) rfl hs1 ev_int (by decide)) hB0) fun v2 B2 H2 n2 hu2 => ?_
  obtain ⟨b, s1, s2, hb2⟩ := hu2
  -- handed
  refine q_set (P := poB b) n2.bh (ev_copy (j := 3) (ev_var rfl hb2) (by omega) (fun _ => rfl) (by show 3 < 9; decide)) fun v3 B3 H3 n3 hu3 => ?_
  have hb3 := bd.stE n3.bb hb2
  have hh3 := poB_bd hu3
  -- told
  refine q_set (P := poR bl (isB b)) n3.bh (ev_call1 (r := bd) (x := b) (ev_var rfl hh3) trivial) fun v4 B4 H4 n4 hu4 => ?_
  cases hu4
  have hb4 := bd.stE n4.bb hb3
  have hh4 := bd.stE n4.bb hh3
  refine q_if (b := false || (!decide (isB b = isB b) || !decide (b = b))) n4.bh (Evl.et_or (Evl.et_not (a := true) (t_B (ev_isi (r := bl) (x := isB b) (ev_varB rfl) ty_bl kit_bb))) fun _ => Evl.et_or (t_test (ev_neB (ev_varB rfl) (ev_call1 (r := bd) (x := b) (ev_var rfl hb4) trivial))) fun _ => t_test (ev_neD (r := bd) (ev_var rfl hh4) (ev_var rfl hb4) (by decide))) (fun hc => by simp at hc) (fun _ H5 e5 => ?_)
  have e45 : Ex B4 H5 := n4.bh.trans e5
  -- found
  refine q_set (P := if isB b = true then poT2 0 (poPair (rowsF b) (colsF b)) else poT2 1 poN) e45 (ev_call1 (r := bd) (x := b) (ev_var rfl hh4) trivial) fun v6 B6 H6 n6 hu6 => ?_
  have hb6 := bd.stE n6.bb hb4
  have hh6 := bd.stE n6.bb hh4
  cases hB : isB b with
  | false =>
    rw [hB, if_neg Bool.false_ne_true] at hu6
    obtain ⟨tf, u, rfl, f1, f2, f3⟩ := hu6
    refine q_if (b := !false) n6.bh (Evl.et_not (t_B (ev_varB rfl))) (fun _ H7 e7 => ?_) (fun hc => by cases hc)
    refine w_ret (P := poR bl (decide ((1 : Int) = 1) && decide (b = b))) (n6.bh.trans e7) (ev_andV (ev_eqI (ev_tupI (n := 0) rfl f2 rfl) ev_int) fun _ => ev_eqD (r := bd) (ev_var rfl hh6) (ev_var rfl hb6) (by decide)) fun u B8 H8 n8 hu => ?_
    cases hu
    rw [decide_eq_true rfl, decide_eq_true rfl]
    exact q _
  | true =>
    rw [hB, if_pos rfl] at hu6
    obtain ⟨l1, l2, l3, l4, l5⟩ := isB_parts hB
    have hadd : addF b = colsF b := add_cols fun row hr => (l5 row hr).1
    have hpr : (pr int (pr il il)).p B6 v6 (0, (rowsF b, colsF b)) := by
      obtain ⟨tf, u, rfl, f1, f2, f3⟩ := hu6
      exact ⟨tf, .int 0, u, rfl, f2, rfl, poPair_pr f3⟩
    obtain ⟨tf, u, rfl, f1, f2, t, p, p', rfl, g0, g1, g2, g3, g4, g5, g6⟩ := hu6
    refine q_if (b := !true) n6.bh (Evl.et_not (t_B (ev_varB rfl))) (fun hc => by cases hc) (fun _ H7 e7 => ?_)
    have e67 := n6.bh.trans e7
    -- due
    refine q_set (P := poPair (rowsF b) (addF b)) e67 (ev_call1 (r := bd) (x := b) (ev_var rfl hb6) ⟨fun z => (by rw [z] at l1; cases l1), by omega, fun row hr => (l5 row hr).1, by omega⟩) fun v8 B8 H8 n8 hu8 => ?_
    obtain ⟨td, r1, r2, rfl, d0, d1, d2, d3, d4, d5, d6⟩ := hu8
    have hpr8 := (pr int (pr il il)).stE n8.bb hpr
    refine q_if (b := !decide ((0 : Int) = 0) || (false || !decide ((2 : Int) = 2))) n8.bh (Evl.et_or (t_test (ev_neI (ev_fst (ev_var rfl hpr8) ev_int) ev_int)) fun _ => Evl.et_or (Evl.et_not (a := true) (t_B (ev_isi (r := pr il il) (ev_snd (ev_var rfl hpr8) ev_int) ty_pr kit_tt))) fun _ => t_test (ev_neI (ev_lenP (r := il) (q := il) (ev_snd (ev_var rfl hpr8) ev_int)) ev_int)) (fun hc => by simp at hc) (fun _ H9 e9 => ?_)
    -- the known part without what was told
    have b4p : B4 p = none := fresh_back e45 g3
    have b4q : B4 p' = none := fresh_back e45 g4
    have a5 : IsRow B8 p (rowsF b) := n8.bb _ _ g5
    have a6 : IsRow B8 p' (colsF b) := n8.bb _ _ g6
    have pr1 : r1 ≠ p := fun z => by
      subst z
      have := e7 _ _ (n6.bh _ _ g5)
      rw [d3] at this
      cases this
    have pr2 : r1 ≠ p' := fun z => by
      subst z
      have := e7 _ _ (n6.bh _ _ g6)
      rw [d3] at this
      cases this
    have pr3 : r2 ≠ p := fun z => by
      subst z
      have := e7 _ _ (n6.bh _ _ g5)
      rw [d4] at this
      cases this
    have pr4 : r2 ≠ p' := fun z => by
      subst z
      have := e7 _ _ (n6.bh _ _ g6)
      rw [d4] at this
      cases this
    have keep : ∀ {x : Addr}, x ≠ p → x ≠ p' → off p' (off p B8) x = B8 x := fun h1 h2 => by rw [off_ne h2, off_ne h1]
    have oB : Ex (off p' (off p B8)) H9 := (off_ex.trans off_ex).trans (n8.bh.trans e9)
    have nB : off p' (off p B8) p = none := by rw [off_ne g2, off_at]
    have nB' : off p' (off p B8) p' = none := off_at
    have old : Ex B4 (off p' (off p B8)) := ex_off (ex_off (n6.bb.trans n8.bb) b4p) b4q
    have t1 : off p' (off p B8) tf = some (.tup [.int 0, .ref t]) := by
      have := n8.bb _ _ f2
      rw [keep (ne_tl this a5) (ne_tl this a6)]
      exact this
    have t2 : off p' (off p B8) t = some (.tup [.ref p, .ref p']) := by
      have := n8.bb _ _ g1
      rw [keep (ne_tl this a5) (ne_tl this a6)]
      exact this
    have t3 : off p' (off p B8) td = some (.tup [.ref r1, .ref r2]) := by
      rw [keep (ne_tl d1 a5) (ne_tl d1 a6)]
      exact d1
    have q1 : IsRow (off p' (off p B8)) r1 (rowsF b) := by unfold IsRow; rw [keep pr1 pr2]; exact d5
    have q2 : IsRow (off p' (off p B8)) r2 (colsF b) := by unfold IsRow; rw [keep pr3 pr4, ← hadd]; exact d6
    have hp9 : H9 p = some (.lst ((rowsF b).map V.int)) := e9 _ _ (n8.bh _ _ a5)
    have hq9 : H9 p' = some (.lst ((colsF b).map V.int)) := e9 _ _ (n8.bh _ _ a6)
    generalize hBe : off p' (off p B8) = Be at *
    have lr : (rowsF b).length ≤ 6 := by unfold rowsF; rw [List.length_map]; omega
    have lc : (colsF b).length ≤ 6 := by unfold colsF; rw [List.length_map, List.length_range]; omega
    -- one turn: the two are alike, then the told one grows
    have turn : ∀ {σ' : St} {H' : Hp} {D : Ends} {x y : Addr} {xs : List Int}, σ'[7]? = some (some (.ref x)) → σ'[8]? = some (some (.ref y)) → Ex Be H' → Be x = none → IsRow Be y xs → H' x = some (.lst (xs.map V.int)) → xs.length ≤ 6 → (∀ H2, Ex Be H2 → (∀ z o, z ≠ x → H' z = some o → H2 z = some o) → D.nx σ' H2) →
        tSeq (tIfS (tNot (tB (tCall (sp__law_numbers_like) [] E0 (tCons (tVar 7) (tCons (tVar 8) tNil))))) (tRet (tC (.bl false))) tNext) (tDrop (tBM K "list" rAppend (tVar 7) (tCons (tC (.int 9)) tNil))) D σ' H' := fun {σ' H' D x y xs} i7 i8 eB nx hy hx hl k => by
      have eU : Ex (upd Be x (.lst (xs.map V.int))) H' := fun z o hz => by
        by_cases hzx : z = x
        · subst hzx; rw [upd_same] at hz; cases hz; exact hx
        · rw [upd_ne hzx] at hz; exact eB z o hz
      refine q_if (b := !decide (xs = xs)) eU (Evl.et_not (t_B (ev_call2 (r := il) (q := il) (x := xs) (y := xs) (ev_var i7 (il_of upd_same)) (ev_var i8 (il_of (Ex.new nx _ _ hy))) ⟨by omega, by omega⟩))) (fun hc => by simp at hc) (fun _ H2 e2 => ?_)
      refine w_app (P := poR int 9) (eB.trans e2) (e2 _ _ hx) nx i7 ev_int (by rw [List.length_map]; omega) fun v3 B3 H3 n3 nb hu => k _ (Ex.mut (n3.bb.trans n3.bh) nx) fun z o hz hzo => ?_
      rw [upd_ne hz]
      exact n3.hh _ _ (e2 _ _ hzo)
    refine q_zip2 (B := Be) (a := t) (b := td) oB (ev_tupA (n := 1) rfl t1 rfl) (ev_ref rfl) t2 t3
      (fun σ' H' => ∃ y7 y8, σ' = [some (.ref a), some v2, some v3, none, some (.bl true), some (.ref tf), some (.ref td), y7, y8] ∧ Ex Be H' ∧ H' p' = some (.lst ((colsF b).map V.int)))
      (fun σ' H' => ∃ y7 y8, σ' = [some (.ref a), some v2, some v3, none, some (.bl true), some (.ref tf), some (.ref td), y7, y8] ∧ Ex Be H')
      (fun _ _ ⟨_, _, _, z, _⟩ => z) (fun _ _ ⟨_, _, _, z⟩ => z) (fun H10 e10 => ?_) ?_ ?_
    · refine turn rfl rfl (oB.trans e10) nB q1 (e10 _ _ hp9) lr fun H11 e11 k11 => ?_
      exact ⟨_, _, by rw [← hB]; rfl, e11, k11 _ _ (Ne.symm g2) (e10 _ _ hq9)⟩
    · rintro σ' H10 H11 ⟨y7, y8, rfl, e10, hq10⟩ e11
      refine turn rfl rfl (e10.trans e11) nB' q2 (e11 _ _ hq10) lc fun H12 e12 _ => ?_
      exact ⟨_, _, rfl, e12⟩
    · rintro σ' H10 ⟨y7, y8, rfl, e10⟩
      have hbE := bd.stE old hb4
      have hhE := bd.stE old hh4
      have hdue : (pr il il).p Be (.ref td) (rowsF b, colsF b) := ⟨td, _, _, rfl, t3, il_of q1, il_of q2⟩
      refine w_ret (P := poR bl (decide (b = b) && decide ((rowsF b, colsF b) = (rowsF b, colsF b)))) e10 (ev_andV (ev_eqD (r := bd) (ev_var rfl hhE) (ev_var rfl hbE) (by decide)) fun _ => ev_eqD (r := pr il il) ?_ (ev_var rfl hdue) (by decide)) fun u B12 H12 n12 hu => ?_
      · have : EV (tCall (sp_counts C) [] E0 (tCons (tVar 2) tNil)) [some (.ref a), some v2, some v3, none, some (.bl true), some (.ref tf), some (.ref td), y7, y8] Be (poPair (rowsF b) (colsF b)) := ev_call1x (r := bd) (x := b) (ev_var rfl hhE) (if_pos hB)
        exact this.imp fun _ _ _ _ z => poPair_pr z
      · cases hu
        rw [decide_eq_true rfl, decide_eq_true rfl]
        exact q _
end
end MK

namespace MK
open PySem PySem.Spec PyProof.Rows L2 Evl
/-! ### boards of one's own, that change -/
theorem paired_impM {α β : Type} {F G : α → β → Prop} : ∀ {l : List α} {m : List β}, (∀ a ∈ l, ∀ b, F a b → G a b) → Paired F l m → Paired G l m
  | _, _, _, .nil => .nil
  | _, _, h, .cons a t => .cons (h _ List.mem_cons_self _ a) (paired_impM (fun x hx => h x (List.mem_cons_of_mem _ hx)) t)
structure OwnB (H0 B H : Hp) (a : Addr) (ps : List Addr) (xss : List (List Int)) : Prop where
  na : H0 a = none
  nb : B a = none
  at_ : H a = some (.lst (ps.map V.ref))
  out : a ∉ ps
  nd : ps.Nodup
  new : ∀ p ∈ ps, H0 p = none
  nbs : ∀ p ∈ ps, B p = none
  rows : Paired (IsRow H) ps xss
def hide (a : Addr) (ps : List Addr) (B : Hp) : Hp := fun x => if x = a ∨ x ∈ ps then none else B x
def seen (a : Addr) (ps : List Addr) (B H : Hp) : Hp := fun x => if x = a ∨ x ∈ ps then H x else B x
section
variable {H0 B B1 H H1 H2 : Hp} {a p : Addr} {ps : List Addr} {xss : List (List Int)}
theorem OwnB.open (e : Ex B H) (n : Nw B H B1 H1) (h : BdAt H B1 a ps xss) : Nw B H (hide a ps B1) H1 ∧ OwnB H (hide a ps B1) H1 a ps xss := by
  have far : ∀ x, H x ≠ none → ¬ (x = a ∨ x ∈ ps) := fun x hx z => by
    rcases z with z | z
    · rw [z] at hx; exact hx h.na
    · exact hx (h.new x z)
  refine ⟨⟨fun x o q => ?_, fun x o q => ?_, n.hh, fun x q => ?_⟩, h.na, if_pos (.inl rfl), n.bh _ _ h.at_, h.out, h.nd, h.new, fun p hp => if_pos (.inr hp), paired_imp (fun _ _ z => n.bh _ _ z) h.rows⟩
  · unfold hide
    rw [if_neg (far x (by rw [e x o q]; intro z; cases z))]
    exact n.bb x o q
  · unfold hide at q
    split at q
    · cases q
    · exact n.bh x o q
  · unfold hide
    rw [if_neg (far x q)]
    exact n.fr x q
theorem seen_ex (e : Ex B H) (h : OwnB H0 B H a ps xss) : Ex B (seen a ps B H) ∧ Ex (seen a ps B H) H ∧ bd.p (seen a ps B H) (.ref a) xss := by
  refine ⟨fun x o q => ?_, fun x o q => ?_, a, _, rfl, (if_pos (.inl rfl)).trans h.at_, rows_il (paired_impM (fun p hp row z => (if_pos (.inr hp)).trans z) h.rows)⟩
  · unfold seen
    split
    · exact e x o q
    · exact q
  · unfold seen at q
    split at q
    · exact q
    · exact e x o q
theorem OwnB.close (n : Nw B H0 B1 H1) (h : OwnB H0 B1 H1 a ps xss) : Nw B H0 (seen a ps B1 H1) H1 ∧ BdAt H0 (seen a ps B1 H1) a ps xss := by
  have e := seen_ex n.bh h
  refine ⟨⟨n.bb.trans e.1, e.2.1, n.hh, fun x q => ?_⟩, h.na, (if_pos (.inl rfl)).trans h.at_, h.out, h.nd, h.new, paired_impM (fun p hp row z => (if_pos (.inr hp)).trans z) h.rows⟩
  have : ¬ (x = a ∨ x ∈ ps) := fun z => by
    rcases z with z | z
    · rw [z] at q; exact q h.na
    · exact q (h.new x z)
  unfold seen
  rw [if_neg this]
  exact n.fr x q
theorem OwnB.grow (h : OwnB H0 B H a ps xss) (e : Ex H H1) : OwnB H0 B H1 a ps xss := ⟨h.na, h.nb, e _ _ h.at_, h.out, h.nd, h.new, h.nbs, paired_imp (fun _ _ z => e _ _ z) h.rows⟩
theorem OwnB.there (h : OwnB H0 B H a ps xss) : ∀ p ∈ ps, H p ≠ none := fun p hp => by
  obtain ⟨y, _, hy⟩ := paired_getL (i := ps.idxOf p) h.rows (by rw [List.getElem?_eq_getElem (List.idxOf_lt_length_of_mem hp), List.getElem_idxOf])
  exact some_ne hy
theorem OwnB.step (h : OwnB H0 B H a ps xss) (n : Nw B H B1 H1) : OwnB H0 B1 H1 a ps xss := ⟨h.na, n.ne (some_ne h.at_) h.nb, n.hh _ _ h.at_, h.out, h.nd, h.new, fun p hp => n.ne (h.there p hp) (h.nbs p hp), paired_imp (fun _ _ z => n.hh _ _ z) h.rows⟩
theorem OwnB.low (h : OwnB H0 B H a ps xss) (e : Ex B1 B) : OwnB H0 B1 H a ps xss := ⟨h.na, fresh_back e h.nb, h.at_, h.out, h.nd, h.new, fun p hp => fresh_back e (h.nbs p hp), h.rows⟩
theorem OwnB.early (h : OwnB H1 B H a ps xss) (e : Ex H0 H1) : OwnB H0 B H a ps xss := ⟨fresh_back e h.na, h.nb, h.at_, h.out, h.nd, fun p hp => fresh_back e (h.new p hp), h.nbs, h.rows⟩
theorem paired_put {o : List Int} : ∀ {ps : List Addr} {xss : List (List Int)} {i : Nat}, Paired (IsRow H) ps xss → ps.Nodup → ps[i]? = some p → Paired (IsRow (upd H p (.lst (o.map V.int)))) ps (xss.set i o)
  | _, _, _, .nil, _, h => by simp at h
  | q :: ps, x :: xss, 0, .cons r t, hn, h => by
    have e : q = p := by simpa using h
    subst e
    rw [List.nodup_cons] at hn
    exact .cons upd_same (paired_impM (fun z hz row w => (upd_ne fun e => hn.1 (by rw [← e]; exact hz)).trans w) t)
  | q :: ps, x :: xss, i + 1, .cons r t, hn, h => by
    have h' : ps[i]? = some p := by simpa using h
    rw [List.nodup_cons] at hn
    exact .cons ((upd_ne fun e => hn.1 (by rw [e]; exact List.mem_of_getElem? h')).trans r) (paired_put t hn.2 h')
theorem OwnB.put {o : List Int} {i : Nat} (h : OwnB H0 B H a ps xss) (hi : ps[i]? = some p) : OwnB H0 B (upd H p (.lst (o.map V.int))) a ps (xss.set i o) := by
  have hp := List.mem_of_getElem? hi
  exact ⟨h.na, h.nb, (upd_ne fun e => h.out (by rw [e]; exact hp)).trans h.at_, h.out, h.nd, h.new, h.nbs, paired_put h.rows h.nd hi⟩
end
/-- a cell -/
def cellB (b : List (List Int)) (i j : Int) : Int := (b.getD i.toNat []).getD j.toNat 0
theorem getD_some {α : Type} {xs : List α} {i : Nat} {d : α} (h : i < xs.length) : xs[i]? = some (xs.getD i d) := by
  rw [List.getD_eq_getElem?_getD, List.getElem?_eq_getElem h]
  rfl
theorem atI_in {α : Type} {xs : List α} {i : Int} {d : α} (h0 : 0 ≤ i) (h1 : i < (xs.length : Int)) : atI xs i = some (xs.getD i.toNat d) := at_of_any (j := i.toNat) (by omega) (getD_some (by omega))
section
variable {α β γ ζ : Type} {r : R α} {q : R β} {s : R γ} {x : α} {y : β} {σ : St} {B B' : Hp} {ta tb tc td te tl tn to ti tj : TE} {P P' : Po} {b c : Bool} {i k z : Int} {K : PySem.W.Frag} {j n : Nat} {D : Ends} {tu tw : TS} {H H0 : Hp} {a : Addr} {ps : List Addr} {xss : List (List Int)}
theorem ev_row {b : List (List Int)} (h : EVr tb σ B bd b) (hi : EVr ti σ B int i) (h0 : 0 ≤ i) (h1 : i < (b.length : Int)) : EVr (tOp (rIxL K) tb ti) σ B il (b.getD i.toNat []) := ev_ix (r := il) h hi (atI_in h0 h1)
theorem ev_cell2 {b : List (List Int)} {j : Int} (h : EVr tb σ B bd b) (hi : EVr ti σ B int i) (hj : EVr tj σ B int j) (h0 : 0 ≤ i) (h1 : i < (b.length : Int)) (h2 : 0 ≤ j) (h3 : j < ((b.getD i.toNat []).length : Int)) : EVr (tOp (rIxL K) (tOp (rIxL K) tb ti) tj) σ B int (cellB b i j) :=
  ev_ix (r := int) (ev_row h hi h0 h1) hj (atI_in h2 h3)
theorem ev_inD [DecidableEq α] {xs : List α} (ha : EVr ta σ B r x) (hb : EVr tb σ B (lst r) xs) (hd : r.d ≤ 60) : EVr (tOp (rInD K) ta tb) σ B bl (decide (x ∈ xs)) :=
  ev_two ha hb fun B1 H1 v w e1 hv hw Q k => ⟨_, xs.map r.enc, r.dp (r.stE e1 hv), (lst r).dp ((lst r).stE e1 hw), shaped_of r (by omega) x, shaped_of (lst r) (by show r.d + 1 ≤ 64; omega) xs, k _ _ H1 (Nw.refl e1) (by
    show V.bl _ = V.bl _
    congr 1
    rw [List.any_map]
    rw [Bool.eq_iff_iff, List.any_eq_true, decide_eq_true_eq]
    constructor
    · rintro ⟨z, hz, h⟩
      have := (r.inj z x).mp h
      rw [← this]
      exact hz
    · intro hx
      exact ⟨x, hx, (r.inj x x).mpr rfl⟩)⟩
def rIsNone : R2 := fun x y H Q => y = .non ∧ Q (.bl (decide (x = .non))) H
/-- unpacking -/
theorem w_unp4 {x1 x2 x3 x4 : Int} {n1 n2 n3 n4 : Nat} (e : Ex B H) (h : EVr te σ B (qd int) (x1, x2, x3, x4)) (k : ∀ B1 H1, Nw B H B1 H1 → D.nx ((((σ.set n1 (some (.int x1))).set n2 (some (.int x2))).set n3 (some (.int x3))).set n4 (some (.int x4))) H1) :
    tAsg te (gTup K 4 (gCons (gName n1) (gCons (gName n2) (gCons (gName n3) (gCons (gName n4) gNil))))) D σ H := h.run e fun v B1 H1 n hv => by
  obtain ⟨a, v1, v2, v3, v4, rfl, h2, rfl, rfl, rfl, rfl⟩ := hv
  exact ⟨a, _, rfl, SqT.of (n.bh _ _ h2), rfl, _, _, rfl, _, _, rfl, _, _, rfl, _, _, rfl, rfl, k B1 H1 n⟩
theorem q_unp4 {x1 x2 x3 x4 : Int} {n1 n2 n3 n4 : Nat} (e : Ex B H) (h : EVr te σ B (qd int) (x1, x2, x3, x4)) (k : ∀ B1 H1, Nw B H B1 H1 → tw D ((((σ.set n1 (some (.int x1))).set n2 (some (.int x2))).set n3 (some (.int x3))).set n4 (some (.int x4))) H1) :
    tSeq (tAsg te (gTup K 4 (gCons (gName n1) (gCons (gName n2) (gCons (gName n3) (gCons (gName n4) gNil)))))) tw D σ H := w_unp4 (D := { D with nx := tw D }) e h k
theorem w_unp2 {n1 n2 : Nat} (e : Ex B H) (h : EVr te σ B (pr r q) (x, y)) (k : ∀ v w B1 H1, Nw B H B1 H1 → r.p B1 v x → q.p B1 w y → D.nx ((σ.set n1 (some v)).set n2 (some w)) H1) :
    tAsg te (gTup K 2 (gCons (gName n1) (gCons (gName n2) gNil))) D σ H := h.run e fun v B1 H1 n hv => by
  obtain ⟨a, v1, v2, rfl, h2, h3, h4⟩ := hv
  exact ⟨a, _, rfl, SqT.of (n.bh _ _ h2), rfl, _, _, rfl, _, _, rfl, rfl, k v1 v2 B1 H1 n h3 h4⟩
theorem q_unp2 {n1 n2 : Nat} (e : Ex B H) (h : EVr te σ B (pr r q) (x, y)) (k : ∀ v w B1 H1, Nw B H B1 H1 → r.p B1 v x → q.p B1 w y → tw D ((σ.set n1 (some v)).set n2 (some w)) H1) :
    tSeq (tAsg te (gTup K 2 (gCons (gName n1) (gCons (gName n2) gNil)))) tw D σ H := w_unp2 (D := { D with nx := tw D }) e h k
/-- x = a new board of one's own -/
theorem q_setB (e : Ex B H) (h : EV te σ B (poB xss)) (k : ∀ a ps B1 H1, Nw B H B1 H1 → OwnB H B1 H1 a ps xss → tw D (σ.set n (some (.ref a))) H1) : tSeq (tAsg te (gName n)) tw D σ H :=
  q_set e h fun v B1 H1 m ⟨a, ps, hv, hb⟩ => by
    subst hv
    have := OwnB.open e m hb
    exact k a ps _ H1 this.1 this.2
theorem w_retB {B0 : Hp} (m : Nw B0 H0 B H) (hn : σ[n]? = some (some (.ref a))) (own : OwnB H0 B H a ps xss) (k : ∀ u B1 H1, Nw B0 H0 B1 H1 → (poB xss).P H0 B1 u → D.rt u H1) : tRet (tVar n) D σ H := by
  have h := own.close m
  exact ⟨_, hn, k _ _ H h.1 ⟨a, ps, rfl, h.2⟩⟩
/-- made[row][column] = e -/
theorem w_put2 {j : Int} (e : Ex B H) (own : OwnB H0 B H a ps xss) (h : ∀ B2, Ex B B2 → bd.p B2 (.ref a) xss → EVr te σ B2 int z) (ho : EV to σ B (poA a)) (hi : EVr ti σ B int i) (hj : EVr tj σ B int j) (h0 : 0 ≤ i) (h1 : i < (xss.length : Int)) (h2 : 0 ≤ j) (h3 : j < ((xss.getD i.toNat []).length : Int))
    (k : ∀ H2, (∀ B0, Nw B0 H0 B H → Nw B0 H0 B H2) → OwnB H0 B H2 a ps (xss.set i.toNat ((xss.getD i.toNat []).set j.toNat z)) → D.nx σ H2) : tAsg te (gSub (tOp (rIxL K) to ti) tj rSetL) D σ H := by
  obtain ⟨s1, s2, s3⟩ := seen_ex e own
  refine (h _ s1 s3).run s2 fun v B1 H1 n1 hv => ?_
  cases hv
  have e1 : Ex B H1 := e.trans n1.hh
  refine ho.run e1 fun v B3 H3 n3 hv => ?_
  cases hv
  refine hi.run (e1.trans n3.hh) fun v B4 H4 n4 hv => ?_
  cases hv
  have e4 : Ex H H4 := (n1.hh.trans n3.hh).trans n4.hh
  have own4 := own.grow e4
  have hl : ps.length = xss.length := paired_len own.rows
  have hps : ps[i.toNat]? = some (ps.getD i.toNat 0) := getD_some (by omega)
  refine ⟨a, _, i, .ref (ps.getD i.toNat 0), rfl, rfl, SqL.of own4.at_, at_of_any (j := i.toNat) (by omega) (by rw [List.getElem?_map, hps]; rfl), ?_⟩
  refine hj.run (e.trans e4) fun v B5 H5 n5 hv => ?_
  cases hv
  have own5 := own4.grow n5.hh
  obtain ⟨row, hr, hrow⟩ := paired_getL own5.rows hps
  have er : row = xss.getD i.toNat [] := by
    have := getD_some (d := ([] : List Int)) (show i.toNat < xss.length by omega)
    rw [this] at hr
    exact (Option.some.inj hr).symm
  subst er
  have hjx : atI ((xss.getD i.toNat []).map V.int) j = some (((xss.getD i.toNat []).map V.int).getD j.toNat .non) := atI_in h2 (by rw [List.length_map]; exact h3)
  have hix : ixN ((xss.getD i.toNat []).map V.int).length j = some j.toNat := by
    rw [show j = ((j.toNat : Nat) : Int) by omega]
    exact ixN_nat (by rw [List.length_map]; omega)
  refine ⟨ps.getD i.toNat 0, _, j, j.toNat, rfl, rfl, hrow, hix, ?_⟩
  have hmem := List.mem_of_getElem? hps
  rw [show ((xss.getD i.toNat []).map V.int).set j.toNat (.int z) = ((xss.getD i.toNat []).set j.toNat z).map V.int by rw [List.map_set]]
  exact k _ (fun B0 m => (m.grow (e4.trans n5.hh)).mut (own.nbs _ hmem) (own.new _ hmem)) (own5.put hps)
end
end MK

namespace MK
open PySem PySem.Spec PyProof.Rows L2 Evl
/-! ### exchanges -/
abbrev Xc := Int × Int × Int × Int
def fourF (b : List (List Int)) (x : Xc) : Xc := (cellB b x.1 x.2.2.1, cellB b x.1 x.2.2.2, cellB b x.2.1 x.2.2.1, cellB b x.2.1 x.2.2.2)
def inX (b : List (List Int)) (x : Xc) : Bool := (decide (0 ≤ x.1) && decide (x.1 < x.2.1) && decide (x.2.1 < (b.length : Int))) && (decide (0 ≤ x.2.2.1) && decide (x.2.2.1 < x.2.2.2) && decide (x.2.2.2 < (wide b : Int)))
def okX (b : List (List Int)) (x : Xc) : Bool := inX b x && decide (fourF b x ∈ [((1 : Int), (0 : Int), (0 : Int), (1 : Int)), (0, 1, 1, 0)])
def turn1 (b : List (List Int)) (i j : Int) : List (List Int) := b.set i.toNat ((b.getD i.toNat []).set j.toNat (1 - cellB b i j))
def turn2 (b : List (List Int)) (l r y : Int) : List (List Int) := turn1 (turn1 b y l) y r
def doneF (b : List (List Int)) (x : Xc) : List (List Int) := turn2 (turn2 b x.2.2.1 x.2.2.2 x.1) x.2.2.1 x.2.2.2 x.2.1
/-- rows of one length -/
structure Shp (m n : Nat) (b : List (List Int)) : Prop where
  ln : b.length = m
  row : ∀ r ∈ b, r.length = n
structure InR (m n : Nat) (x : Xc) : Prop where
  t : 0 ≤ x.1 ∧ x.1 < (m : Int)
  lo : 0 ≤ x.2.1 ∧ x.2.1 < (m : Int)
  l : 0 ≤ x.2.2.1 ∧ x.2.2.1 < (n : Int)
  r : 0 ≤ x.2.2.2 ∧ x.2.2.2 < (n : Int)
theorem getDL_mem {b : List (List Int)} {i : Nat} (h : i < b.length) : b.getD i [] ∈ b := List.mem_of_getElem? (getD_some h)
theorem Shp.at_ {m n : Nat} {b : List (List Int)} (h : Shp m n b) {i : Int} (h0 : 0 ≤ i) (h1 : i < (m : Int)) : (b.getD i.toNat []).length = n := h.row _ (getDL_mem (by rw [h.ln]; omega))
theorem Shp.set {m n : Nat} {b : List (List Int)} (h : Shp m n b) {i : Nat} {r : List Int} (hr : r.length = n) : Shp m n (b.set i r) := ⟨by rw [List.length_set, h.ln], fun q hq => by
  rcases List.mem_or_eq_of_mem_set hq with h1 | h1
  · exact h.row q h1
  · rw [h1, hr]⟩
theorem Shp.turn1 {m n : Nat} {b : List (List Int)} (h : Shp m n b) {i j : Int} (h0 : 0 ≤ i) (h1 : i < (m : Int)) : Shp m n (turn1 b i j) := h.set (by rw [List.length_set]; exact h.at_ h0 h1)
theorem Shp.turn2 {m n : Nat} {b : List (List Int)} (h : Shp m n b) {l r y : Int} (h0 : 0 ≤ y) (h1 : y < (m : Int)) : Shp m n (turn2 b l r y) := (h.turn1 h0 h1).turn1 h0 h1
theorem Shp.done {m n : Nat} {b : List (List Int)} (h : Shp m n b) {x : Xc} (hx : InR m n x) : Shp m n (doneF b x) := (h.turn2 hx.t.1 hx.t.2).turn2 hx.lo.1 hx.lo.2
theorem shp_of {b : List (List Int)} (h : isB b = true) : Shp b.length (wide b) b := by
  obtain ⟨h1, h2, h3, h4, h5⟩ := isB_parts h
  exact ⟨rfl, fun r hr => (h5 r hr).1⟩
theorem Shp.wide {m n : Nat} {b : List (List Int)} (h : Shp m n b) (hm : 1 ≤ m) : wide b = n := h.row _ (List.mem_of_getElem? (hd_at (by rw [h.ln]; exact hm)))
theorem inR_of {b : List (List Int)} {x : Xc} (h : inX b x = true) : InR b.length (MK.wide b) x := by
  unfold inX at h
  simp only [Bool.and_eq_true, decide_eq_true_eq] at h
  exact ⟨by omega, by omega, by omega, by omega⟩
end MK

namespace MK
open PySem PySem.Spec PyProof.Rows L2 Evl
def sp_four : Sp := sp2 bd (qd int) (fun b x => ∃ m n, Shp m n b ∧ InR m n x) fun b x => poR (qd int) (fourF b x)
def sp_can_do : Sp := sp2 bd (qd int) (fun b x => isB b = true) fun b x => poR bl (okX b x)
def sp_done : Sp := sp2 bd (qd int) (fun b x => ∃ m n, m ≤ 100 ∧ Shp m n b ∧ InR m n x) fun b x => poB (doneF b x)
def sp_exchanged (C : Er) : Sp := sp2x bd (qd int) fun b x => if isB b = true then if okX b x = true then .inr (poB (doneF b x)) else .inl C.NoExchange else .inl C.NoBoard
def sp__law_two : Sp := sp2 int int (fun _ n => 1 ≤ n) fun c n => poR (pr int int) (if c / 8 % n < c % n then c / 8 % n else c % n, if c / 8 % n > c % n then c / 8 % n else c % n)
/-- a new board, or None -/
def poOB (ok : Bool) (b : List (List Int)) : Po where
  P := fun H B v => if ok = true then (poB b).P H B v else v = .non
  up := fun {H B B' v} e h => by
    cases ok with
    | true => exact (poB b).up e h
    | false => exact h
  dn := fun {H H' B v} e h => by
    cases ok with
    | true => exact (poB b).dn e h
    | false => exact h
def sp__law_due : Sp := sp2 bd (qd int) (fun b x => isB b = true) fun b x => poOB (okX b x) (doneF b x)
def sp__law_done : Sp := sp2 bd (qd int) (fun b x => isB b = true) fun b x => poOB (okX b x) (doneF b x)
def sp__law_told_k10 : Sp := sp2 bd (qd int) (fun b x => isB b = true) fun b x => if okX b x = true then poT2 0 (poB (doneF b x)) else poT2 1 poN
end MK

namespace MK
open PySem PySem.Spec PyProof.Rows L2 Evl
def t_four (K : PySem.W.Frag) : TS :=
  (tSeq (tAsg (tVar 1) (gTup K 4 (gCons (gName 2) (gCons (gName 3) (gCons (gName 4) (gCons (gName 5) gNil))))))
  (tRet (tTup (tCons (tOp (rIxL K) (tOp (rIxL K) (tVar 0) (tVar 2)) (tVar 4)) (tCons (tOp (rIxL K) (tOp (rIxL K) (tVar 0) (tVar 2)) (tVar 5)) (tCons (tOp (rIxL K) (tOp (rIxL K) (tVar 0) (tVar 3)) (tVar 4)) (tCons (tOp (rIxL K) (tOp (rIxL K) (tVar 0) (tVar 3)) (tVar 5)) tNil)))))))
def t_can_do (K : PySem.W.Frag) : TS :=
  (tSeq (tAsg (tVar 1) (gTup K 4 (gCons (gName 2) (gCons (gName 3) (gCons (gName 4) (gCons (gName 5) gNil))))))
  (tSeq (tIfS (tOr (tNot (tCh3 (fun i j => decide (i ≤ j)) (fun i j => decide (i < j)) (fun i j => decide (i < j)) (tC (.int 0)) (tVar 2) (tVar 3) (tCB (rLenS K) (tCons (tVar 0) tNil)))) (tNot (tCh3 (fun i j => decide (i ≤ j)) (fun i j => decide (i < j)) (fun i j => decide (i < j)) (tC (.int 0)) (tVar 4) (tVar 5) (tCB (rLenS K) (tCons (tOp (rIxL K) (tVar 0) (tC (.int 0))) tNil)))))
  (tRet (tC (.bl false)))
  tNext)
  (tRet (tOp (rInD K) (tCall (sp_four) [] E0 (tCons (tVar 0) (tCons (tVar 1) tNil))) (tLst (tCons (tTup (tCons (tC (.int 1)) (tCons (tC (.int 0)) (tCons (tC (.int 0)) (tCons (tC (.int 1)) tNil))))) (tCons (tTup (tCons (tC (.int 0)) (tCons (tC (.int 1)) (tCons (tC (.int 1)) (tCons (tC (.int 0)) tNil))))) tNil)))))))
def t_done (K : PySem.W.Frag) : TS :=
  (tSeq (tAsg (tVar 1) (gTup K 4 (gCons (gName 2) (gCons (gName 3) (gCons (gName 4) (gCons (gName 5) gNil))))))
  (tSeq (tAsg (tLc (iList K (tVar 0)) (gName 7) tYes (tCB (rListS K) (tCons (tVar 7) tNil)) [7]) (gName 6))
  (tSeq (tFor (iList K (tLst (tCons (tVar 2) (tCons (tVar 3) tNil)))) (gName 7)
  (tFor (iList K (tLst (tCons (tVar 4) (tCons (tVar 5) tNil)))) (gName 8)
  (tAsg (tOp (rI0 fun i j => .int (i - j)) (tC (.int 1)) (tOp (rIxL K) (tOp (rIxL K) (tVar 6) (tVar 7)) (tVar 8))) (gSub (tOp (rIxL K) (tVar 6) (tVar 7)) (tVar 8) rSetL))))
  (tRet (tVar 6)))))
def t_exchanged (K : PySem.W.Frag) (W : WX) (C : Er) : TS :=
  (tSeq (tDrop (tCallS (sp_asked_board C) (WE W) (tCons (tVar 0) tNil)))
  (tSeq (tIfS (tNot (tB (tCall (sp_can_do) [] E0 (tCons (tVar 0) (tCons (tVar 1) tNil)))))
  (tRz C.NoExchange W)
  tNext)
  (tRet (tCall (sp_done) [] E0 (tCons (tVar 0) (tCons (tVar 1) tNil))))))
def t__law_two (K : PySem.W.Frag) : TS :=
  (tSeq (tAsg (tOp (rI (fun _ j => 0 < j) fun i j => .int (i % j)) (tVar 0) (tVar 1)) (gName 2))
  (tSeq (tAsg (tOp (rI (fun _ j => 0 < j) fun i j => .int (i % j)) (tOp (rI CDiv fun i j => .int (i / j)) (tVar 0) (tC (.int 8))) (tVar 1)) (gName 3))
  (tRet (tTup (tCons (tCB rMin2 (tCons (tVar 2) (tCons (tVar 3) tNil))) (tCons (tCB rMax2 (tCons (tVar 2) (tCons (tVar 3) tNil))) tNil))))))
def t__law_due (K : PySem.W.Frag) : TS :=
  (tSeq (tAsg (tVar 1) (gTup K 4 (gCons (gName 2) (gCons (gName 3) (gCons (gName 4) (gCons (gName 5) gNil))))))
  (tSeq (tIfS (tOr (tNot (tCh3 (fun i j => decide (i ≤ j)) (fun i j => decide (i < j)) (fun i j => decide (i < j)) (tC (.int 0)) (tVar 2) (tVar 3) (tCB (rLenS K) (tCons (tVar 0) tNil)))) (tNot (tCh3 (fun i j => decide (i ≤ j)) (fun i j => decide (i < j)) (fun i j => decide (i < j)) (tC (.int 0)) (tVar 4) (tVar 5) (tCB (rLenS K) (tCons (tOp (rIxL K) (tVar 0) (tC (.int 0))) tNil)))))
  (tRet (tC .non))
  tNext)
  (tSeq (tAsg (tLst (tCons (tOp (rIxL K) (tOp (rIxL K) (tVar 0) (tVar 2)) (tVar 4)) (tCons (tOp (rIxL K) (tOp (rIxL K) (tVar 0) (tVar 3)) (tVar 5)) (tCons (tOp (rIxL K) (tOp (rIxL K) (tVar 0) (tVar 2)) (tVar 5)) (tCons (tOp (rIxL K) (tOp (rIxL K) (tVar 0) (tVar 3)) (tVar 4)) tNil))))) (gName 6))
  (tSeq (tIfS (tAnd (tTest (tOp (rNeD K) (tVar 6) (tLst (tCons (tC (.int 1)) (tCons (tC (.int 1)) (tCons (tC (.int 0)) (tCons (tC (.int 0)) tNil))))))) (tTest (tOp (rNeD K) (tVar 6) (tLst (tCons (tC (.int 0)) (tCons (tC (.int 0)) (tCons (tC (.int 1)) (tCons (tC (.int 1)) tNil))))))))
  (tRet (tC .non))
  tNext)
  (tSeq (tAsg (tLc (iList K (tVar 0)) (gName 8) tYes (tCB (rListS K) (tCons (tVar 8) tNil)) [8]) (gName 7))
  (tSeq (tFor (iList K (tLst (tCons (tVar 2) (tCons (tVar 3) tNil)))) (gName 8)
  (tFor (iList K (tLst (tCons (tVar 4) (tCons (tVar 5) tNil)))) (gName 9)
  (tAsg (tOp (rI0 fun i j => .int (i - j)) (tC (.int 1)) (tOp (rIxL K) (tOp (rIxL K) (tVar 7) (tVar 8)) (tVar 9))) (gSub (tOp (rIxL K) (tVar 7) (tVar 8)) (tVar 9) rSetL))))
  (tRet (tVar 7))))))))

end MK

namespace MK
open PySem PySem.Spec PyProof.Rows L2 Evl
section
variable {vs : List V} {H : Hp} {Q : VK} {E : XK} {K : PySem.W.Frag}
theorem ev_cellS {m n : Nat} {σ : St} {B : Hp} {tb ti tj : TE} {b : List (List Int)} {i j : Int} (hs : Shp m n b) (h : EVr tb σ B bd b) (hi : EVr ti σ B int i) (hj : EVr tj σ B int j) (h0 : 0 ≤ i ∧ i < (m : Int)) (h1 : 0 ≤ j ∧ j < (n : Int)) :
    EVr (tOp (rIxL K) (tOp (rIxL K) tb ti) tj) σ B int (cellB b i j) := ev_cell2 h hi hj h0.1 (by rw [hs.ln]; exact h0.2) h1.1 (by rw [hs.at_ h0.1 h0.2]; exact h1.2)
theorem pure_four (h : sp_four vs H Q E) : t_four K { nx := fun _ H' => Q .non H', rt := Q } (L2.start ["board", "exchange", "top", "low", "left", "right"] vs) H := by
  obtain ⟨B, v, w, b, ⟨x1, x2, x3, x4⟩, e, rfl, hv, hw, ⟨m, n, hs, hx⟩, q⟩ := h
  show t_four K _ [some v, some w, none, none, none, none] H
  unfold t_four
  refine q_unp4 e (ev_var rfl hw) fun B1 H1 n1 => ?_
  have hv1 := bd.stE n1.bb hv
  refine w_ret (P := poR (qd int) (fourF b (x1, x2, x3, x4))) n1.bh ?_ fun u B2 H2 n2 hu => q u B2 H2 (n1.trans n2) hu
  exact ev_tup4 (ev_cellS hs (ev_var rfl hv1) (ev_varI rfl) (ev_varI rfl) hx.t hx.l) (ev_cellS hs (ev_var rfl hv1) (ev_varI rfl) (ev_varI rfl) hx.t hx.r) (ev_cellS hs (ev_var rfl hv1) (ev_varI rfl) (ev_varI rfl) hx.lo hx.l) (ev_cellS hs (ev_var rfl hv1) (ev_varI rfl) (ev_varI rfl) hx.lo hx.r)
/-- not 0 <= top < low < len(board) or not 0 <= left < right < len(board[0]) -/
theorem t_inX {σ : St} {B : Hp} {v : V} {b : List (List Int)} {x1 x2 x3 x4 : Int} (hb : isB b = true) (h0 : σ[0]? = some (some v)) (hv : bd.p B v b) (h2 : σ[2]? = some (some (.int x1))) (h3 : σ[3]? = some (some (.int x2))) (h4 : σ[4]? = some (some (.int x3))) (h5 : σ[5]? = some (some (.int x4))) :
    EVT (tOr (tNot (tCh3 (fun i j => decide (i ≤ j)) (fun i j => decide (i < j)) (fun i j => decide (i < j)) (tC (.int 0)) (tVar 2) (tVar 3) (tCB (rLenS K) (tCons (tVar 0) tNil)))) (tNot (tCh3 (fun i j => decide (i ≤ j)) (fun i j => decide (i < j)) (fun i j => decide (i < j)) (tC (.int 0)) (tVar 4) (tVar 5) (tCB (rLenS K) (tCons (tOp (rIxL K) (tVar 0) (tC (.int 0))) tNil))))) σ B (!inX b (x1, x2, x3, x4)) := by
  have hl := (isB_parts hb).1
  refine t_eq (Evl.et_or (Evl.et_not (t_ch3 (g1 := fun i j => decide (i ≤ j)) (g2 := fun i j => decide (i < j)) (g3 := fun i j => decide (i < j)) ev_int (ev_varI h2) (ev_varI h3) (ev_len (r := il) (xs := b) (ev_var h0 hv)))) fun _ => Evl.et_not (t_ch3 (g1 := fun i j => decide (i ≤ j)) (g2 := fun i j => decide (i < j)) (g3 := fun i j => decide (i < j)) ev_int (ev_varI h4) (ev_varI h5) (ev_wide h0 hv hl))) ?_
  simp only [inX, Bool.not_and]
theorem pure_can_do (h : sp_can_do vs H Q E) : t_can_do K { nx := fun _ H' => Q .non H', rt := Q } (L2.start ["board", "exchange", "top", "low", "left", "right"] vs) H := by
  obtain ⟨B, v, w, b, ⟨x1, x2, x3, x4⟩, e, rfl, hv, hw, hb, q⟩ := h
  show t_can_do K _ [some v, some w, none, none, none, none] H
  unfold t_can_do
  refine q_unp4 e (ev_var rfl hw) fun B1 H1 n1 => ?_
  have hv1 := bd.stE n1.bb hv
  have hw1 := (qd int).stE n1.bb hw
  refine q_if (b := !inX b (x1, x2, x3, x4)) n1.bh (t_inX hb rfl hv1 rfl rfl rfl rfl) (fun hc H2 e2 => ?_) (fun hc H2 e2 => ?_)
  · refine w_ret (P := poR bl false) (n1.bh.trans e2) ev_bl fun u B3 H3 n3 hu => q u B3 H3 ((n1.grow e2).trans n3) ?_
    show (poR bl (okX b (x1, x2, x3, x4))).P H B3 u
    unfold okX
    have : inX b (x1, x2, x3, x4) = false := by simpa using hc
    rw [this]
    exact hu
  · have hi : inX b (x1, x2, x3, x4) = true := by simpa using hc
    refine w_ret (P := poR bl (okX b (x1, x2, x3, x4))) (n1.bh.trans e2) ?_ fun u B3 H3 n3 hu => q u B3 H3 ((n1.grow e2).trans n3) hu
    unfold okX
    rw [hi, Bool.true_and]
    refine EV.eq (ev_inD (r := qd int) (x := fourF b (x1, x2, x3, x4)) (xs := [(1, 0, 0, 1), (0, 1, 1, 0)]) ?_ (EV.of_n ?_) (by show 1 ≤ 60; decide)) (decide_eq_decide.mpr Iff.rfl)
    · exact ev_call2 (r := bd) (q := qd int) (x := b) (y := (x1, x2, x3, x4)) (ev_var rfl hv1) (ev_var rfl hw1) ⟨_, _, shp_of hb, inR_of hi⟩
    · exact ev_lst (ea_cons (ev_tup4 ev_int ev_int ev_int ev_int) (ea_cons (ev_tup4 ev_int ev_int ev_int ev_int) ea_nil)) (by show 2 ≤ _; decide)
/-- for row in [top, low]: for column in [left, right]: made[row][column] = 1 - made[row][column] -/
theorem q_turns {B0 H0 : Hp} {n m k0 : Nat} {σ : St} {B : Hp} {a : Addr} {ps : List Addr} {b : List (List Int)} {t lo l r : Int} {D : Ends} {tw : TS} {j1 j2 : Nat} (mk : Nw B0 H0 B H) (own : OwnB H0 B H a ps b) (hs : Shp m n b) (hx : InR m n (t, lo, l, r))
    (hq : j1 ≠ k0 ∧ j2 ≠ k0 ∧ j1 ≠ j2 ∧ j1 ≠ 2 ∧ j1 ≠ 3 ∧ j1 ≠ 4 ∧ j1 ≠ 5 ∧ j2 ≠ 2 ∧ j2 ≠ 3 ∧ j2 ≠ 4 ∧ j2 ≠ 5) (hl : j1 < σ.length ∧ j2 < σ.length)
    (ha : σ[k0]? = some (some (.ref a))) (h2 : σ[2]? = some (some (.int t))) (h3 : σ[3]? = some (some (.int lo))) (h4 : σ[4]? = some (some (.int l))) (h5 : σ[5]? = some (some (.int r)))
    (k : ∀ σ' B1 H1, σ'[k0]? = some (some (.ref a)) → Nw B0 H0 B1 H1 → OwnB H0 B1 H1 a ps (doneF b (t, lo, l, r)) → tw D σ' H1) :
    tSeq (tFor (iList K (tLst (tCons (tVar 2) (tCons (tVar 3) tNil)))) (gName j1)
  (tFor (iList K (tLst (tCons (tVar 4) (tCons (tVar 5) tNil)))) (gName j2)
  (tAsg (tOp (rI0 fun i j => .int (i - j)) (tC (.int 1)) (tOp (rIxL K) (tOp (rIxL K) (tVar k0) (tVar j1)) (tVar j2))) (gSub (tOp (rIxL K) (tVar k0) (tVar j1)) (tVar j2) rSetL)))) tw D σ H := by
  obtain ⟨q1, q2, q3, q4, q5, q6, q7, q8, q9, q10, q11⟩ := hq
  let St' : St → Prop := fun σ' => σ'.length = σ.length ∧ σ'[k0]? = some (some (.ref a)) ∧ σ'[4]? = some (some (.int l)) ∧ σ'[5]? = some (some (.int r))
  refine q_forL (r := int) (xs := [t, lo]) mk.bh (EV.of_n (ev_lst (ea_cons (ev_varI h2) (ea_cons (ev_varI h3) ea_nil)) (by show 2 ≤ _; decide)))
    (fun B1 i σ' H' => ∃ B2, St' σ' ∧ Ex B1 B2 ∧ Nw B0 H0 B2 H' ∧ OwnB H0 B2 H' a ps (([t, lo].take i).foldl (turn2 · l r) b))
    (fun B1 H1 n1 => ⟨B1, ⟨rfl, ha, h4, h5⟩, Ex.refl _, mk.trans n1, own.step n1⟩) (fun B1 i σ' H' ⟨B2, _, e2, m, _⟩ => Sx.of (e2.trans m.bh)) ?_ ?_
  · rintro B1 H1 i y v σ' H' n1 hi hv ⟨B2, ⟨s0, s1, s2, s3⟩, e12, m2, own2⟩
    cases hv
    have hy : 0 ≤ y ∧ y < (m : Int) := by
      have := List.mem_of_getElem? hi
      simp only [List.mem_cons, List.not_mem_nil, or_false] at this
      rcases this with rfl | rfl
      · exact hx.t
      · exact hx.lo
    have hs2 : Shp m n (([t, lo].take i).foldl (turn2 · l r) b) := by
      match i with
      | 0 => exact hs
      | 1 => exact hs.turn2 hx.t.1 hx.t.2
      | i + 2 =>
        rw [List.take_of_length_le (by simp)]
        exact (hs.turn2 hx.t.1 hx.t.2).turn2 hx.lo.1 hx.lo.2
    rw [take_succ' hi, List.foldl_append]
    show tFor _ _ _ _ _ _
    generalize ([t, lo].take i).foldl (turn2 · l r) b = c at *
    refine w_forL (r := int) (xs := [l, r]) m2.bh (EV.of_n (ev_lst (ea_cons (ev_varI (by rw [List.getElem?_set_ne (by omega)]; exact s2)) (ea_cons (ev_varI (by rw [List.getElem?_set_ne (by omega)]; exact s3)) ea_nil)) (by show 2 ≤ _; decide)))
      (fun B3 i σ' H' => ∃ B4, (St' σ' ∧ σ'[j1]? = some (some (.int y))) ∧ Ex B3 B4 ∧ Ex B2 B4 ∧ Nw B0 H0 B4 H' ∧ OwnB H0 B4 H' a ps (([l, r].take i).foldl (turn1 · y ·) c))
      (fun B3 H3 n3 => ⟨B3, ⟨⟨by rw [List.length_set]; exact s0, by rw [List.getElem?_set_ne (by omega)]; exact s1, by rw [List.getElem?_set_ne (by omega)]; exact s2, by rw [List.getElem?_set_ne (by omega)]; exact s3⟩, by rw [List.getElem?_set_self (by omega)]⟩, Ex.refl _, n3.bb, m2.trans n3, own2.step n3⟩) (fun B3 i σ' H' ⟨B4, _, e2, _, m, _⟩ => Sx.of (e2.trans m.bh)) ?_ ?_
    · rintro B3 H3 i' z v σ'' H'' n3 hi' hv ⟨B4, ⟨⟨r0, r1, r2, r3⟩, r4⟩, e34, e24, m4, own4⟩
      cases hv
      have hz : 0 ≤ z ∧ z < (n : Int) := by
        have := List.mem_of_getElem? hi'
        simp only [List.mem_cons, List.not_mem_nil, or_false] at this
        rcases this with rfl | rfl
        · exact hx.l
        · exact hx.r
      have hs4 : Shp m n (([l, r].take i').foldl (turn1 · y ·) c) := by
        match i' with
        | 0 => exact hs2
        | 1 => exact hs2.turn1 hy.1 hy.2
        | i' + 2 =>
          rw [List.take_of_length_le (by simp)]
          exact (hs2.turn1 hy.1 hy.2).turn1 hy.1 hy.2
      rw [take_succ' hi', List.foldl_append]
      generalize ([l, r].take i').foldl (turn1 · y ·) c = d at *
      have g1 : (σ''.set j2 (some (.int z)))[k0]? = some (some (.ref a)) := by rw [List.getElem?_set_ne (by omega)]; exact r1
      have g2 : (σ''.set j2 (some (.int z)))[j1]? = some (some (.int y)) := by rw [List.getElem?_set_ne (by omega)]; exact r4
      have g3 : (σ''.set j2 (some (.int z)))[j2]? = some (some (.int z)) := by rw [List.getElem?_set_self (by omega)]
      refine w_put2 (z := 1 - cellB d y z) m4.bh own4 (fun B5 e5 hb5 => ev_ii ev_int (ev_cellS hs4 (ev_var g1 hb5) (ev_varI g2) (ev_varI g3) hy hz) rfl) (ev_ref g1) (ev_varI g2) (ev_varI g3) hy.1 (by rw [hs4.ln]; exact hy.2) hz.1 (by rw [hs4.at_ hy.1 hy.2]; exact hz.2) fun H5 tr own5 => ?_
      exact ⟨B4, ⟨⟨by rw [List.length_set]; exact r0, g1, by rw [List.getElem?_set_ne (by omega)]; exact r2, by rw [List.getElem?_set_ne (by omega)]; exact r3⟩, g2⟩, e34, e24, tr B0 m4, own5⟩
    · rintro B3 σ'' H'' ⟨B4, ⟨hst, _⟩, e34, e24, m4, own4⟩
      exact ⟨B4, hst, e12.trans e24, m4, own4⟩
  · rintro B1 σ' H' ⟨B2, ⟨s0, s1, s2, s3⟩, e12, m2, own2⟩
    exact k σ' B2 H' s1 m2 own2
theorem pure_done (h : sp_done vs H Q E) : t_done K { nx := fun _ H' => Q .non H', rt := Q } (L2.start ["board", "exchange", "top", "low", "left", "right", "made", "row", "column"] vs) H := by
  obtain ⟨B, v, w, b, ⟨x1, x2, x3, x4⟩, e, rfl, hv, hw, ⟨m, n, h6, hs, hx⟩, q⟩ := h
  show t_done K _ [some v, some w, none, none, none, none, none, none, none] H
  unfold t_done
  refine q_unp4 e (ev_var rfl hw) fun B1 H1 n1 => ?_
  have hv1 := bd.stE n1.bb hv
  refine q_setB n1.bh (ev_copy (b := b) (ev_var rfl hv1) (by rw [hs.ln]; omega) (fun _ => rfl) (by show 7 < 9; decide)) fun a ps B2 H2 n2 own => ?_
  refine q_turns (m := m) (n := n) (n1.trans n2) (own.early n1.hh) hs hx (by decide) (by show 7 < 9 ∧ 8 < 9; decide) rfl rfl rfl rfl rfl fun σ' B3 H3 hi m3 own3 => ?_
  exact w_retB m3 hi own3 q
theorem pure_exchanged {C : Er} (h : sp_exchanged C vs H Q E) : t_exchanged K (fun cls d _ H => E cls d H) C { nx := fun _ H' => Q .non H', rt := Q } (L2.start ["board", "exchange"] vs) H := by
  obtain ⟨B, v, w, b, x, e, rfl, hv, hw, k1, k2⟩ := h
  show t_exchanged K _ C _ [some v, some w] H
  unfold t_exchanged
  refine w_callX (r := bd) (x := b) e (ev_var rfl hv) (fun c hc H1 e1 => ?_) (fun po hp u B1 H1 n1 hu => ?_)
  · refine k1 c ?_ H1 e1
    split at hc
    · cases hc
    · rename_i hb
      exact (if_neg hb).trans hc
  have hb : isB b = true := by
    split at hp
    · assumption
    · cases hp
  have hv1 := bd.stE n1.bb hv
  have hw1 := (qd int).stE n1.bb hw
  refine q_if (b := !okX b x) n1.bh (Evl.et_not (t_B (ev_call2 (r := bd) (q := qd int) (ev_var rfl hv1) (ev_var rfl hw1) hb))) (fun hc H2 e2 => ?_) (fun hc H2 e2 => ?_)
  · refine k1 _ ?_ H2 (n1.hh.trans e2)
    exact (if_pos hb).trans (if_neg fun z => by
      rw [z] at hc
      cases hc)
  · have ho : okX b x = true := by simpa using hc
    have hi : inX b x = true := by
      unfold okX at ho
      rw [Bool.and_eq_true] at ho
      exact ho.1
    have hs := shp_of hb
    refine w_ret (P := poB (doneF b x)) (n1.bh.trans e2) (ev_call2 (r := bd) (q := qd int) (x := b) (y := x) (ev_var rfl hv1) (ev_var rfl hw1) ⟨_, _, by have := (isB_parts hb).2.1; omega, hs, inR_of hi⟩) fun u B3 H3 n3 hu => ?_
    exact k2 (poB (doneF b x)) ((if_pos hb).trans (if_pos ho)) u B3 H3 ((n1.grow e2).trans n3) ((poB _).dn (n1.hh.trans e2) hu)
/-! ### the law's own -/
theorem pure_law_two (h : sp__law_two vs H Q E) : t__law_two K { nx := fun _ H' => Q .non H', rt := Q } (L2.start ["cell", "size", "low", "high"] vs) H := by
  obtain ⟨B, v, w, c, n, e, rfl, hv, hw, hn, q⟩ := h
  cases hv
  cases hw
  dsimp only at q hn
  show t__law_two K _ [some (.int c), some (.int n), none, none] H
  unfold t__law_two
  refine q_set (P := poR int (c % n)) e (ev_iic (by walk_at "ev") (by walk_at "ev") (by omega) rfl) fun u B1 H1 n1 hu => ?_
  cases hu
  refine q_set (P := poR int (c / 8 % n)) n1.bh (ev_iic (ev_iic (i := c) (j := 8) (by walk_at "ev") (by walk_at "ev") ⟨by decide, by decide⟩ rfl) (by walk_at "ev") (by omega) rfl) fun u B2 H2 n2 hu => ?_
  cases hu
  exact w_ret (P := poR (pr int int) _) n2.bh (ev_tup2 (ev_min2 (ev_varI rfl) (ev_varI rfl)) (ev_max2 (ev_varI rfl) (ev_varI rfl))) fun u B3 H3 n3 hu => q u B3 H3 ((n1.trans n2).trans n3) hu
theorem due_core {v w : V} {b : List (List Int)} {x : Xc} {B : Hp} {D : Ends} (e : Ex B H) (hv : bd.p B v b) (hw : (qd int).p B w x) (hb : isB b = true) (q : ∀ u B' H', Nw B H B' H' → (poOB (okX b x) (doneF b x)).P H B' u → D.rt u H') : t__law_due K D [some v, some w, none, none, none, none, none, none, none, none] H := by
  obtain ⟨x1, x2, x3, x4⟩ := x
  unfold t__law_due
  refine q_unp4 e (ev_var rfl hw) fun B1 H1 n1 => ?_
  have hv1 := bd.stE n1.bb hv
  refine q_if (b := !inX b (x1, x2, x3, x4)) n1.bh (t_inX hb rfl hv1 rfl rfl rfl rfl) (fun hc H2 e2 => ?_) (fun hc H2 e2 => ?_)
  · refine w_ret (P := poN) (n1.bh.trans e2) ev_non fun u B3 H3 n3 hu => q u B3 H3 ((n1.grow e2).trans n3) ?_
    have : inX b (x1, x2, x3, x4) = false := by simpa using hc
    unfold okX
    rw [this]
    exact hu
  have hi : inX b (x1, x2, x3, x4) = true := by simpa using hc
  have hx := inR_of hi
  have hs := shp_of hb
  have m2 := n1.grow e2
  refine q_set (P := poL int [cellB b x1 x3, cellB b x2 x4, cellB b x1 x4, cellB b x2 x3]) m2.bh (ev_lst (ea_cons (ev_cellS hs (ev_var rfl hv1) (ev_varI rfl) (ev_varI rfl) hx.t hx.l) (ea_cons (ev_cellS hs (ev_var rfl hv1) (ev_varI rfl) (ev_varI rfl) hx.lo hx.r) (ea_cons (ev_cellS hs (ev_var rfl hv1) (ev_varI rfl) (ev_varI rfl) hx.t hx.r) (ea_cons (ev_cellS hs (ev_var rfl hv1) (ev_varI rfl) (ev_varI rfl) hx.lo hx.l) ea_nil)))) (by show 4 ≤ _; decide)) fun u3 B3 H3 n3 hu3 => ?_
  have m3 := m2.trans n3
  have hu3 := poL_lst hu3
  have hv3 := bd.stE n3.bb hv1
  have l4 : ∀ {σ : St} {B : Hp} {c1 c2 c3 c4 : Int}, EVr (tLst (tCons (tC (.int c1)) (tCons (tC (.int c2)) (tCons (tC (.int c3)) (tCons (tC (.int c4)) tNil))))) σ B il [c1, c2, c3, c4] := fun {σ B c1 c2 c3 c4} => EV.of_n (ev_lst (ea_cons ev_int (ea_cons ev_int (ea_cons ev_int (ea_cons ev_int ea_nil)))) (by show 4 ≤ _; decide))
  have four : (decide ([cellB b x1 x3, cellB b x2 x4, cellB b x1 x4, cellB b x2 x3] = [1, 1, 0, 0]) || decide ([cellB b x1 x3, cellB b x2 x4, cellB b x1 x4, cellB b x2 x3] = [0, 0, 1, 1])) = okX b (x1, x2, x3, x4) := by
    unfold okX fourF
    rw [hi, Bool.true_and, Bool.eq_iff_iff]
    simp only [Bool.or_eq_true, decide_eq_true_eq, List.cons.injEq, List.mem_cons, Prod.mk.injEq, List.not_mem_nil, or_false, and_true]
    constructor
    · rintro (⟨h1, h2, h3, h4⟩ | ⟨h1, h2, h3, h4⟩)
      · exact .inl ⟨h1, h3, h4, h2⟩
      · exact .inr ⟨h1, h3, h4, h2⟩
    · rintro (⟨h1, h2, h3, h4⟩ | ⟨h1, h2, h3, h4⟩)
      · exact .inl ⟨h1, h4, h2, h3⟩
      · exact .inr ⟨h1, h4, h2, h3⟩
  refine q_if (b := !okX b (x1, x2, x3, x4)) m3.bh (t_eq (Evl.et_and (t_test (ev_neD (r := il) (ev_var rfl hu3) l4 (by decide))) fun _ => t_test (ev_neD (r := il) (ev_var rfl hu3) l4 (by decide))) (by rw [← four, Bool.not_or])) (fun hc H4 e4 => ?_) (fun hc H4 e4 => ?_)
  · refine w_ret (P := poN) (m3.bh.trans e4) ev_non fun u B5 H5 n5 hu => q u B5 H5 ((m3.grow e4).trans n5) ?_
    have : okX b (x1, x2, x3, x4) = false := by simpa using hc
    rw [this]
    exact hu
  have ho : okX b (x1, x2, x3, x4) = true := by simpa using hc
  have m4 := m3.grow e4
  refine q_setB m4.bh (ev_copy (b := b) (ev_var rfl hv3) (by have := (isB_parts hb).2.1; omega) (fun _ => rfl) (by show 8 < 10; decide)) fun a ps B5 H5 n5 own => ?_
  refine q_turns (m4.trans n5) (own.early m4.hh) hs hx (by decide) (by show 8 < 10 ∧ 9 < 10; decide) rfl rfl rfl rfl rfl fun σ' B6 H6 hi m6 own6 => ?_
  refine w_retB m6 hi own6 fun u B7 H7 n7 hu => q u B7 H7 n7 ?_
  rw [ho]
  exact hu
theorem pure_law_due (h : sp__law_due vs H Q E) : t__law_due K { nx := fun _ H' => Q .non H', rt := Q } (L2.start ["board", "exchange", "top", "low", "left", "right", "cells", "made", "row", "column"] vs) H := by
  obtain ⟨B, v, w, b, x, e, rfl, hv, hw, hb, q⟩ := h
  exact due_core e hv hw hb q
end
end MK

namespace MK
open PySem PySem.Spec PyProof.Rows L2 Evl
/-! ### what an exchange does -/
theorem getD_set {α : Type} {l : List α} {j k : Nat} {v d : α} (h : j < l.length) : (l.set j v).getD k d = if k = j then v else l.getD k d := by
  rw [List.getD_eq_getElem?_getD, List.getElem?_set]
  by_cases hk : k = j
  · subst hk
    simp [h]
  · have : ¬ j = k := fun z => hk z.symm
    rw [if_neg this, if_neg hk, List.getD_eq_getElem?_getD]
theorem sum_set {v : Int} : ∀ {l : List Int} {j : Nat}, j < l.length → (l.set j v).sum = l.sum - l.getD j 0 + v
  | [], _, h => by simp at h
  | x :: l, 0, _ => by
    show v + l.sum = (x + l.sum) - x + v
    omega
  | x :: l, j + 1, h => by
    have := sum_set (v := v) (l := l) (j := j) (by simpa using h)
    show x + (l.set j v).sum = (x + l.sum) - l.getD j 0 + v
    omega
theorem cellB_turn1 {m n : Nat} {b : List (List Int)} (hs : Shp m n b) {i j i' j' : Int} (hi : 0 ≤ i ∧ i < (m : Int)) (hj : 0 ≤ j ∧ j < (n : Int)) (hi' : 0 ≤ i') (hj' : 0 ≤ j') :
    cellB (turn1 b i j) i' j' = if i' = i ∧ j' = j then 1 - cellB b i j else cellB b i' j' := by
  unfold turn1
  unfold cellB
  rw [getD_set (by rw [hs.ln]; omega)]
  by_cases h1 : i' = i
  · subst h1
    rw [if_pos rfl, getD_set (by rw [hs.at_ hi.1 hi.2]; omega)]
    by_cases h2 : j' = j
    · subst h2
      rw [if_pos rfl, if_pos ⟨rfl, rfl⟩]
    · rw [if_neg (by omega), if_neg (fun z => h2 z.2)]
  · rw [if_neg (by omega), if_neg (fun z => h1 z.1)]
theorem cellB_turn2 {m n : Nat} {b : List (List Int)} (hs : Shp m n b) {l r y i' j' : Int} (hy : 0 ≤ y ∧ y < (m : Int)) (hl : 0 ≤ l ∧ l < (n : Int)) (hr : 0 ≤ r ∧ r < (n : Int)) (hlr : l ≠ r) (hi' : 0 ≤ i') (hj' : 0 ≤ j') :
    cellB (turn2 b l r y) i' j' = if i' = y ∧ (j' = l ∨ j' = r) then 1 - cellB b i' j' else cellB b i' j' := by
  unfold turn2
  rw [cellB_turn1 (hs.turn1 hy.1 hy.2) hy hr hi' hj', cellB_turn1 hs hy hl hi' hj', cellB_turn1 hs hy hl hy.1 hr.1]
  by_cases h1 : i' = y
  · subst h1
    by_cases h2 : j' = r
    · subst h2
      rw [if_pos ⟨rfl, rfl⟩, if_neg (fun z => hlr z.2.symm), if_pos ⟨rfl, .inr rfl⟩]
    · rw [if_neg (fun z => h2 z.2)]
      by_cases h3 : j' = l
      · subst h3
        rw [if_pos ⟨rfl, rfl⟩, if_pos ⟨rfl, .inl rfl⟩]
      · rw [if_neg (fun z => h3 z.2), if_neg (fun z => z.2.elim h3 h2)]
  · rw [if_neg (fun z => h1 z.1), if_neg (fun z => h1 z.1), if_neg (fun z => h1 z.1)]
theorem cellB_done {m n : Nat} {b : List (List Int)} (hs : Shp m n b) {x : Xc} (hx : InR m n x) (h1 : x.1 ≠ x.2.1) (h2 : x.2.2.1 ≠ x.2.2.2) {i' j' : Int} (hi' : 0 ≤ i') (hj' : 0 ≤ j') :
    cellB (doneF b x) i' j' = if (i' = x.1 ∨ i' = x.2.1) ∧ (j' = x.2.2.1 ∨ j' = x.2.2.2) then 1 - cellB b i' j' else cellB b i' j' := by
  unfold doneF
  rw [cellB_turn2 (hs.turn2 hx.t.1 hx.t.2) hx.lo hx.l hx.r h2 hi' hj', cellB_turn2 hs hx.t hx.l hx.r h2 hi' hj']
  by_cases h3 : j' = x.2.2.1 ∨ j' = x.2.2.2
  · by_cases h4 : i' = x.1
    · rw [if_neg (fun z => h1 (h4.symm.trans z.1)), if_pos ⟨h4, h3⟩, if_pos ⟨.inl h4, h3⟩]
    · rw [if_neg (c := i' = x.1 ∧ _) (fun z => h4 z.1)]
      by_cases h5 : i' = x.2.1
      · rw [if_pos ⟨h5, h3⟩, if_pos ⟨.inr h5, h3⟩]
      · rw [if_neg (fun z => h5 z.1), if_neg (fun z => z.1.elim h4 h5)]
  · rw [if_neg (fun z => h3 z.2), if_neg (fun z => h3 z.2), if_neg (fun z => h3 z.2)]
theorem board_ext {m n : Nat} {b c : List (List Int)} (hb : Shp m n b) (hc : Shp m n c) (h : ∀ i j : Int, 0 ≤ i → i < (m : Int) → 0 ≤ j → j < (n : Int) → cellB b i j = cellB c i j) : b = c := by
  refine List.ext_getElem (by rw [hb.ln, hc.ln]) fun i h1 h2 => ?_
  have e1 := hb.row _ (List.getElem_mem h1)
  have e2 := hc.row _ (List.getElem_mem h2)
  refine List.ext_getElem (by rw [e1, e2]) fun j h3 h4 => ?_
  have := h (i : Int) (j : Int) (by omega) (by rw [hb.ln] at h1; omega) (by omega) (by omega)
  unfold cellB at this
  rw [Int.toNat_natCast, Int.toNat_natCast, List.getD_eq_getElem?_getD, List.getD_eq_getElem?_getD, List.getD_eq_getElem?_getD, List.getD_eq_getElem?_getD, List.getElem?_eq_getElem h1, List.getElem?_eq_getElem h2] at this
  show b[i][j] = c[i][j]
  have t2 : (b[i])[j]?.getD 0 = (c[i])[j]?.getD 0 := this
  rw [List.getElem?_eq_getElem h3, List.getElem?_eq_getElem h4] at t2
  exact t2
def B01 (b : List (List Int)) : Prop := ∀ row ∈ b, ∀ c ∈ row, c = 0 ∨ c = 1
theorem cellB_mem {m n : Nat} {b : List (List Int)} (hs : Shp m n b) {i j : Int} (hi : 0 ≤ i ∧ i < (m : Int)) (hj : 0 ≤ j ∧ j < (n : Int)) : ∃ row ∈ b, cellB b i j ∈ row := by
  refine ⟨_, getDL_mem (b := b) (i := i.toNat) (by rw [hs.ln]; omega), ?_⟩
  unfold cellB
  exact List.mem_of_getElem? (getD_some (by rw [hs.at_ hi.1 hi.2]; omega))
theorem cell01_of {m n : Nat} {b : List (List Int)} (hs : Shp m n b) (h : B01 b) {i j : Int} (hi : 0 ≤ i ∧ i < (m : Int)) (hj : 0 ≤ j ∧ j < (n : Int)) : cellB b i j = 0 ∨ cellB b i j = 1 := by
  obtain ⟨row, hr, hc⟩ := cellB_mem hs hi hj
  exact h row hr _ hc
theorem B01_of {m n : Nat} {b : List (List Int)} (hs : Shp m n b) (h : ∀ i j : Int, 0 ≤ i → i < (m : Int) → 0 ≤ j → j < (n : Int) → cellB b i j = 0 ∨ cellB b i j = 1) : B01 b := fun row hr c hc => by
  obtain ⟨i, hi, rfl⟩ := List.getElem_of_mem hr
  obtain ⟨j, hj, rfl⟩ := List.getElem_of_mem hc
  have e1 := hs.row _ hr
  have := h (i : Int) (j : Int) (by omega) (by rw [hs.ln] at hi; omega) (by omega) (by omega)
  unfold cellB at this
  rw [Int.toNat_natCast, Int.toNat_natCast, List.getD_eq_getElem?_getD (l := b), List.getElem?_eq_getElem hi] at this
  have t2 : (b[i])[j]?.getD 0 = 0 ∨ (b[i])[j]?.getD 0 = 1 := this
  rw [List.getElem?_eq_getElem hj] at t2
  exact t2
theorem isB_of {m n : Nat} {b : List (List Int)} (hm : 1 ≤ m ∧ m ≤ 6) (hn : 1 ≤ n ∧ n ≤ 6) (hs : Shp m n b) (h : B01 b) : isB b = true := by
  have hw := hs.wide hm.1
  unfold isB
  rw [decide_eq_true (show 1 ≤ b.length by rw [hs.ln]; exact hm.1), decide_eq_true (show b.length ≤ 6 by rw [hs.ln]; exact hm.2), decide_eq_true (show 1 ≤ wide b by rw [hw]; exact hn.1), decide_eq_true (show wide b ≤ 6 by rw [hw]; exact hn.2)]
  refine List.all_eq_true.mpr fun row hr => ?_
  rw [Bool.and_eq_true]
  refine ⟨beq_iff_eq.mpr (by rw [hw, hs.row row hr]), List.all_eq_true.mpr fun c hc => ?_⟩
  rcases h row hr c hc with e | e <;> (subst e; rfl)
theorem isB_01 {b : List (List Int)} (h : isB b = true) : B01 b := fun row hr c hc => ((isB_parts h).2.2.2.2 row hr).2 c hc
theorem isB_m {b : List (List Int)} (h : isB b = true) : (1 ≤ b.length ∧ b.length ≤ 6) ∧ 1 ≤ wide b ∧ wide b ≤ 6 := by
  obtain ⟨h1, h2, h3, h4, h5⟩ := isB_parts h
  exact ⟨⟨h1, h2⟩, h3, h4⟩
theorem okX_parts {b : List (List Int)} {x : Xc} (h : okX b x = true) : InR b.length (wide b) x ∧ x.1 < x.2.1 ∧ x.2.2.1 < x.2.2.2 ∧ (fourF b x = (1, 0, 0, 1) ∨ fourF b x = (0, 1, 1, 0)) := by
  unfold okX at h
  rw [Bool.and_eq_true] at h
  refine ⟨inR_of h.1, ?_, ?_, by simpa using h.2⟩
  · have := h.1; unfold inX at this; simp only [Bool.and_eq_true, decide_eq_true_eq] at this; omega
  · have := h.1; unfold inX at this; simp only [Bool.and_eq_true, decide_eq_true_eq] at this; omega
theorem done_shape {b : List (List Int)} {x : Xc} (hb : isB b = true) (h : okX b x = true) : Shp b.length (wide b) (doneF b x) ∧ isB (doneF b x) = true ∧ (doneF b x).length = b.length ∧ wide (doneF b x) = wide b := by
  obtain ⟨hx, h1, h2, h3⟩ := okX_parts h
  have hs := shp_of hb
  have hd := hs.done hx
  obtain ⟨hm, hn⟩ := isB_m hb
  refine ⟨hd, isB_of hm hn hd (B01_of hd fun i j i0 i1 j0 j1 => ?_), hd.ln, hd.wide hm.1⟩
  rw [cellB_done hs hx (by omega) (by omega) i0 j0]
  have := cell01_of hs (isB_01 hb) ⟨i0, i1⟩ ⟨j0, j1⟩
  split <;> omega
theorem done_again {b : List (List Int)} {x : Xc} (hb : isB b = true) (h : okX b x = true) : okX (doneF b x) x = true ∧ doneF (doneF b x) x = b := by
  obtain ⟨hx, h1, h2, h3⟩ := okX_parts h
  have hs := shp_of hb
  obtain ⟨hd, hb2, hl, hw⟩ := done_shape hb h
  have cell := fun {i j : Int} (hi : 0 ≤ i) (hj : 0 ≤ j) => cellB_done hs hx (by omega) (by omega) hi hj
  constructor
  · unfold okX
    rw [Bool.and_eq_true]
    constructor
    · unfold okX at h
      rw [Bool.and_eq_true] at h
      have := h.1
      unfold inX at this ⊢
      rw [hl, hw]
      exact this
    · have : fourF (doneF b x) x = (1, 0, 0, 1) ∨ fourF (doneF b x) x = (0, 1, 1, 0) := by
        unfold fourF at h3 ⊢
        simp only [Prod.mk.injEq] at h3 ⊢
        rw [cell hx.t.1 hx.l.1, cell hx.t.1 hx.r.1, cell hx.lo.1 hx.l.1, cell hx.lo.1 hx.r.1]
        simp only [true_or, or_true, and_self, if_true]
        omega
      simpa using this
  · refine board_ext (hd.done hx) hs fun i j i0 i1 j0 j1 => ?_
    rw [cellB_done hd hx (by omega) (by omega) i0 j0, cell i0 j0]
    split <;> omega
/-! ### the counts stay -/
theorem rows_turn1 {m n : Nat} {b : List (List Int)} (hs : Shp m n b) {i j : Int} (hi : 0 ≤ i ∧ i < (m : Int)) (hj : 0 ≤ j ∧ j < (n : Int)) : rowsF (turn1 b i j) = (rowsF b).set i.toNat ((rowsF b).getD i.toNat 0 + 1 - 2 * cellB b i j) := by
  unfold turn1 rowsF
  rw [List.map_set, sum_set (by rw [hs.at_ hi.1 hi.2]; omega)]
  congr 1
  have : (b.map List.sum).getD i.toNat 0 = (b.getD i.toNat []).sum := by
    rw [List.getD_eq_getElem?_getD, List.getElem?_map, getD_some (d := ([] : List Int)) (show i.toNat < b.length by rw [hs.ln]; omega)]
    rfl
  rw [this]
  unfold cellB
  omega
theorem rows_turn2 {m n : Nat} {b : List (List Int)} (hs : Shp m n b) {l r y : Int} (hy : 0 ≤ y ∧ y < (m : Int)) (hl : 0 ≤ l ∧ l < (n : Int)) (hr : 0 ≤ r ∧ r < (n : Int)) (hlr : l ≠ r) (h : cellB b y l + cellB b y r = 1) : rowsF (turn2 b l r y) = rowsF b := by
  have hlen : (rowsF b).length = m := by unfold rowsF; rw [List.length_map, hs.ln]
  unfold turn2
  rw [rows_turn1 (hs.turn1 hy.1 hy.2) hy hr, rows_turn1 hs hy hl, List.set_set, cellB_turn1 hs hy hl hy.1 hr.1, if_neg (fun z => hlr z.2.symm), getD_set (by omega), if_pos rfl]
  have : (rowsF b).getD y.toNat 0 + 1 - 2 * cellB b y l + 1 - 2 * cellB b y r = (rowsF b).getD y.toNat 0 := by omega
  rw [this]
  refine List.ext_getElem? fun k => ?_
  rw [List.getElem?_set]
  split
  · rename_i hk
    subst hk
    rw [if_pos (by omega)]
    exact (getD_some (by omega)).symm
  · rfl
theorem csum_set {r : List Int} {k : Nat} : ∀ {b : List (List Int)} {i : Nat}, i < b.length → ((b.set i r).map fun row => row.getD k 0).sum = (b.map fun row => row.getD k 0).sum - (b.getD i []).getD k 0 + r.getD k 0
  | [], _, h => by simp at h
  | x :: b, 0, _ => by
    show r.getD k 0 + (b.map fun row => row.getD k 0).sum = (x.getD k 0 + (b.map fun row => row.getD k 0).sum) - x.getD k 0 + r.getD k 0
    omega
  | x :: b, i + 1, h => by
    have := csum_set (r := r) (k := k) (b := b) (i := i) (by simpa using h)
    show x.getD k 0 + ((b.set i r).map fun row => row.getD k 0).sum = (x.getD k 0 + (b.map fun row => row.getD k 0).sum) - (b.getD i []).getD k 0 + r.getD k 0
    omega
theorem cs_turn1 {m n : Nat} {b : List (List Int)} (hs : Shp m n b) {i j : Int} (hi : 0 ≤ i ∧ i < (m : Int)) (hj : 0 ≤ j ∧ j < (n : Int)) {k : Nat} : ((turn1 b i j).map fun row => row.getD k 0).sum = (b.map fun row => row.getD k 0).sum + if k = j.toNat then 1 - 2 * cellB b i j else 0 := by
  unfold turn1
  rw [csum_set (by rw [hs.ln]; omega), getD_set (by rw [hs.at_ hi.1 hi.2]; omega)]
  split
  · rename_i hk
    subst hk
    unfold cellB
    omega
  · omega
theorem cs_turn2 {m n : Nat} {b : List (List Int)} (hs : Shp m n b) {l r y : Int} (hy : 0 ≤ y ∧ y < (m : Int)) (hl : 0 ≤ l ∧ l < (n : Int)) (hr : 0 ≤ r ∧ r < (n : Int)) (hlr : l ≠ r) {k : Nat} :
    ((turn2 b l r y).map fun row => row.getD k 0).sum = (b.map fun row => row.getD k 0).sum + (if k = l.toNat then 1 - 2 * cellB b y l else 0) + if k = r.toNat then 1 - 2 * cellB b y r else 0 := by
  unfold turn2
  have e := cellB_turn1 hs hy hl hy.1 hr.1
  rw [if_neg (fun z => hlr z.2.symm)] at e
  rw [cs_turn1 (hs.turn1 hy.1 hy.2) hy hr, cs_turn1 hs hy hl, e]
theorem done_counts {b : List (List Int)} {x : Xc} (hb : isB b = true) (h : okX b x = true) : rowsF (doneF b x) = rowsF b ∧ colsF (doneF b x) = colsF b := by
  obtain ⟨hx, h1, h2, h3⟩ := okX_parts h
  have hs := shp_of hb
  have hs2 := hs.turn2 (l := x.2.2.1) (r := x.2.2.2) hx.t.1 hx.t.2
  have n2 : x.2.2.1 ≠ x.2.2.2 := by omega
  unfold fourF at h3
  simp only [Prod.mk.injEq] at h3
  have c1 := cellB_turn2 hs hx.t hx.l hx.r n2 hx.lo.1 hx.l.1
  have c2 := cellB_turn2 hs hx.t hx.l hx.r n2 hx.lo.1 hx.r.1
  rw [if_neg (fun z => by omega)] at c1 c2
  constructor
  · unfold doneF
    rw [rows_turn2 hs2 hx.lo hx.l hx.r n2 (by rw [c1, c2]; omega), rows_turn2 hs hx.t hx.l hx.r n2 (by omega)]
  · have hw := (done_shape hb h).2.2.2
    unfold colsF
    rw [hw]
    refine List.map_congr_left fun k _ => ?_
    unfold doneF
    rw [cs_turn2 hs2 hx.lo hx.l hx.r n2, cs_turn2 hs hx.t hx.l hx.r n2, c1, c2]
    split <;> split <;> omega
end MK

namespace MK
open PySem PySem.Spec PyProof.Rows L2 Evl
section
variable {α β γ ζ : Type} {r : R α} {q : R β} {s : R γ} {x : α} {y : β} {σ : St} {B B' : Hp} {ta tb tc td te tl tn to ti tj : TE} {P P' : Po} {b c : Bool} {i k z : Int} {K : PySem.W.Frag} {j n : Nat} {D : Ends} {tu tw : TS} {H H0 B0 : Hp} {a : Addr} {ps : List Addr} {xss : List (List Int)}
def rTupS (K : PySem.W.Frag) : List V → Hp → VK → Prop := fun xs H Q => ∃ p ys, xs = [.ref p] ∧ ((SqL K H p ys ∧ ∀ l, H l = none → Q (.ref l) (upd H l (.tup ys))) ∨ (SqT K H p ys ∧ Q (.ref p) H))
/-- tuple of four -/
theorem ev_tupL4 {xs : List α} {x1 x2 x3 x4 : α} (h : EVr ta σ B (lst r) xs) (e : xs = [x1, x2, x3, x4]) : EVr (tCB (rTupS K) (tCons ta tNil)) σ B (qd r) (x1, x2, x3, x4) := by
  subst e
  exact EV.of fun H e Q k => h.run e fun v B1 H1 n1 ⟨a, vs, h1, h2, h3⟩ => by
    subst h1
    have hn := n1.bh
    cases h3 with
    | cons r1 t => cases t with
      | cons r2 t => cases t with
        | cons r3 t => cases t with
          | cons r4 t =>
            cases t
            refine ⟨a, _, rfl, .inl ⟨SqL.of (n1.bh _ _ h2), fun p hp => ?_⟩⟩
            rename_i v4 v3 v2 v1
            have e5 := Ex.new (o := HO.tup [v4, v3, v2, v1]) (fresh_back n1.bh hp)
            exact k _ _ _ (n1.trans (Nw.new n1.bh hp)) ⟨p, _, _, _, _, rfl, upd_same, r.stE e5 r1, r.stE e5 r2, r.stE e5 r3, r.stE e5 r4⟩
theorem ev_isNone {v : V} (h : σ[n]? = some (some v)) : EVr (tOp rIsNone (tVar n) (tC .non)) σ B bl (decide (v = .non)) := EV.of fun H e Q q => ⟨v, h, rfl, q _ B H (Nw.refl e) rfl⟩
/-- try: return (0, f(x, y)) / except MarkError as e: return (1 + int(_law_other(e, d)), None) -/
theorem try_told2 {f : α → β → Sum Addr Po} {C : Er} {d i : Nat} {De : Ends} (e : Ex B H) (h1 : EVr ta σ B r x) (h2 : EVr tb σ B q y) (hi : i < σ.length) (hd : d < 6)
    (k1 : ∀ po, f x y = .inr po → ∀ u B' H', Nw B H B' H' → (poT2 0 po).P H B' u → De.rt u H') (k2 : ∀ c, f x y = .inl c → KindOk K C c d ∧ ∀ u B' H', Nw B H B' H' → (poT2 1 poN).P H B' u → De.rt u H') :
    tTryAs K (.ref C.MarkError) i (fun W => tRet (tTup (tCons (tC (.int 0)) (tCons (tCallS (sp2x r q f) (WE W) (tCons ta (tCons tb tNil))) tNil))))
      (fun a cls dd => tRet (tTup (tCons (tOp (rI0 fun i j => .int (i + j)) (tC (.int 1)) (tCB rInt1 (tCons (tCall (sp__law_other K C a cls dd) [] E0 (tCons (tVar i) (tCons (tC (.int (d : Int))) tNil))) tNil))) (tCons (tC .non) tNil)))) De σ H :=
  h1.run e fun v B1 H1 n1 hv => (h2.mono n1.bb).run n1.bh fun w B2 H2 n2 hw => ⟨B2, v, w, x, y, n2.bh, rfl, r.stE n2.bb hv, hw, fun c hc H3 e3 => by
    obtain ⟨kd, k⟩ := k2 c hc
    refine ⟨true, kd.ex, fun _ a na => ?_, fun z => nomatch z⟩
    have n := n1.trans n2
    refine suite_told (a := a) (D := c) (d := d) (B0 := B) (H0 := H) (B := B2) (by rw [List.getElem?_set_self hi]) kd hd ⟨n.bb, n.bh.trans e3, n.hh.trans e3, n.fr⟩ k, fun po hp u B3 H3 n3 hu => ⟨sz_of (by show 2 ≤ 100000; decide), fun t ht =>
      k1 po hp _ _ _ (((n1.trans n2).trans n3).trans (Nw.new n3.bh ht)) ⟨t, u, rfl, fresh_back ((n1.hh.trans n2.hh).trans n3.hh) ht, upd_same, po.up (Ex.new (fresh_back n3.bh ht)) (po.dn (n1.hh.trans n2.hh) hu)⟩⟩⟩
/-- what was told, opened: its board is one's own from here on -/
theorem told_open {B1 H1 : Hp} {v : V} (e : Ex B H) (n : Nw B H B1 H1) (h : (poT2 i (poB xss)).P H B1 v) : ∃ tf a ps Bh, v = .ref tf ∧ Nw B H Bh H1 ∧ OwnB H Bh H1 a ps xss ∧ Bh tf = some (.tup [.int i, .ref a]) := by
  obtain ⟨tf, u, rfl, f1, f2, a, ps, rfl, hb⟩ := h
  obtain ⟨g1, g2⟩ := OwnB.open e n hb
  refine ⟨tf, a, ps, _, rfl, g1, g2, ?_⟩
  have : ¬ (tf = a ∨ tf ∈ ps) := fun z => by
    rcases z with z | z
    · rw [z, hb.at_] at f2; cases f2
    · obtain ⟨y, _, hy⟩ := paired_getL (i := ps.idxOf tf) hb.rows (by rw [List.getElem?_eq_getElem (List.idxOf_lt_length_of_mem z), List.getElem_idxOf])
      unfold IsRow at hy
      rw [f2] at hy
      cases hy
  exact (if_neg this).trans f2
/-- an if whose ways meet again in J -/
theorem q_ifJ {t : TT} (J : St → Hp → Prop) (k : ∀ σ' H', J σ' H' → tw D σ' H') (e : Ex B H) (h : EVT t σ B b) (k1 : (∀ σ' H', J σ' H' → tw D σ' H') → b = true → ∀ H1, Ex H H1 → tu { D with nx := tw D } σ H1) (k2 : b = false → ∀ H1, Ex H H1 → J σ H1) : tSeq (tIfS t tu tNext) tw D σ H := q_if e h (k1 k) fun hc H1 e1 => k σ H1 (k2 hc H1 e1)
/-- for row in board: row.append(c) -/
theorem q_appAll {c : Int} (m : Nw B0 H0 B H) (own : OwnB H0 B H a ps xss) (hl : 1 ≤ xss.length) (hz : ∀ row ∈ xss, row.length ≤ 1000) (hj : j < σ.length) (h : EV tl σ B (poA a))
    (k : ∀ y H2, Nw B0 H0 B H2 → OwnB H0 B H2 a ps (xss.map (· ++ [c])) → tw D (σ.set j (some y)) H2) :
    tSeq (tFor (iList K tl) (gName j) (tDrop (tBM K "list" rAppend (tVar j) (tCons (tC (.int c)) tNil)))) tw D σ H := by
  refine h.run m.bh fun v B1 H1 n1 hv => ?_
  cases hv
  have own1 := own.grow n1.hh
  have hlen : ps.length = xss.length := paired_len own.rows
  refine ⟨a, rfl, ⟨_, SqL.of own1.at_⟩, for_list (K := K) (a := a) (xs := ps.map V.ref) (fun i σ' H' => (i = 0 → σ' = σ) ∧ (0 < i → ∃ y, σ' = σ.set j (some y)) ∧ Nw B0 H0 B H' ∧ OwnB H0 B H' a ps ((xss.take i).map (· ++ [c]) ++ xss.drop i)) ?_ (fun i σ' H' _ ⟨_, _, _, o⟩ => SqL.of o.at_) (fun i v σ' H' hi ⟨z0, z1, m2, o2⟩ => ?_) (fun σ' H' ⟨z0, z1, m2, o2⟩ => ?_)⟩
  · exact ⟨fun _ => rfl, fun z => absurd z (Nat.lt_irrefl 0), m.grow n1.hh, own1⟩
  · rw [List.getElem?_map] at hi
    obtain ⟨p, hp, rfl⟩ := Option.map_eq_some_iff.mp hi
    obtain ⟨row, hr, hrow⟩ := paired_getL o2.rows hp
    have hi2 : i < xss.length := by rw [← hlen]; exact (List.getElem?_eq_some_iff.mp hp).1
    have hx : xss[i]? = some row := by
      rw [List.getElem?_append_right (by rw [List.length_map, List.length_take]; omega), List.length_map, List.length_take, Nat.min_eq_left (by omega), Nat.sub_self, List.getElem?_drop] at hr
      exact hr
    have hmem := List.mem_of_getElem? hp
    have hset : σ'.set j (some (.ref p)) = σ.set j (some (.ref p)) := by
      by_cases h0 : i = 0
      · rw [z0 h0]
      · obtain ⟨y, rfl⟩ := z1 (by omega)
        rw [List.set_set]
    show tDrop _ _ _ _
    rw [hset]
    refine ⟨.ref p, by rw [List.getElem?_set_self hj], Or.inl ⟨rfl, _, SqL.of hrow⟩, p, _, .int c, rfl, rfl, hrow, sz_lt (by rw [List.length_map]; have := hz row (List.mem_of_getElem? hx); omega), ?_⟩
    rw [show row.map V.int ++ [V.int c] = (row ++ [c]).map V.int by rw [List.map_append]; rfl]
    refine ⟨fun z => by omega, fun _ => ⟨_, rfl⟩, m2.mut (o2.nbs _ hmem) (o2.new _ hmem), ?_⟩
    have := o2.put (o := row ++ [c]) hp
    have e2 : ((xss.take i).map (· ++ [c]) ++ xss.drop i).set i (row ++ [c]) = (xss.take (i + 1)).map (· ++ [c]) ++ xss.drop (i + 1) := by
      rw [take_succ' hx, List.map_append, List.set_append, if_neg (by rw [List.length_map, List.length_take]; omega), List.length_map, List.length_take, Nat.min_eq_left (by omega), Nat.sub_self, List.drop_eq_getElem_cons hi2]
      show _ ++ ((row ++ [c]) :: _) = (_ ++ [row ++ [c]]) ++ _
      rw [List.append_assoc]
      rfl
    rw [e2] at this
    exact this
  · rw [List.length_map, hlen, List.take_length, List.drop_length, List.append_nil] at o2
    obtain ⟨y, rfl⟩ := z1 (by rw [List.length_map, hlen]; omega)
    exact k y H' m2 o2
/-- len([row for row in board if len(row) != n]) > 0: none -/
theorem t_even {b : List (List Int)} {n : Int} {tx : TE} (h : EVr tl σ B bd b) (hz : b.length ≤ 1000) (hw : ∀ v, wipe ((wipe σ [j]).set j (some v)) [j] = wipe σ [j]) (hj : j < σ.length) (hn : ∀ row ∈ b, (row.length : Int) = n)
    (ht : ∀ v B1, Ex B B1 → EVr tx ((wipe σ [j]).set j (some v)) B1 int n) :
    EVT (tTest (tOp (rI0 fun i j => .bl (decide (j < i))) (tCB (rLenS K) (tCons (tLc (iList K tl) (gName j) (tTest (tOp rNe (tCB (rLenS K) (tCons (tVar j) tNil)) tx)) (tVar j) [j]) tNil)) (tC (.int 0)))) σ B false := by
  have hj' : j < (wipe σ [j]).length := by rw [wipe_length]; exact hj
  have hl : EVn (tLc (iList K tl) (gName j) (tTest (tOp rNe (tCB (rLenS K) (tCons (tVar j) tNil)) tx)) (tVar j) [j]) σ B il ((b.filter fun row => !decide ((row.length : Int) = n)).map fun row => row) :=
    ev_lcF (q := il) h (by omega) hw (fun row v B1 hm e1 hv => t_test (ev_neI (ev_len (r := int) (xs := row) (ev_var (by rw [List.getElem?_set_self hj']) hv)) (ht v B1 e1))) (fun row v B1 hm _ e1 hv => ev_var (by rw [List.getElem?_set_self hj']) hv)
  have hf : (b.filter fun row => !decide ((row.length : Int) = n)) = [] := List.filter_eq_nil_iff.mpr fun row hr => by
    rw [hn row hr]
    simp
  rw [hf] at hl
  refine t_eq (t_test (ev_iib (ev_len (r := il) (xs := []) (EV.of_n hl)) (ev_int (z := 0)) rfl)) rfl
end
section
variable {K : PySem.W.Frag}
theorem ev_call2x {α β : Type} {r : R α} {q : R β} {f : α → β → Sum Addr Po} {x : α} {y : β} {P : Po} {σ : St} {B : Hp} {ta tb : TE} {E : XK} (h1 : EVr ta σ B r x) (h2 : EVr tb σ B q y) (hp : f x y = .inr P) : EV (tCall (sp2x r q f) [] E (tCons ta (tCons tb tNil))) σ B P := EV.of fun H e Q k =>
  h1.run e fun v B1 H1 n1 hv => (h2.mono n1.bb).run n1.bh fun w B2 H2 n2 hw => ⟨B2, v, w, x, y, n2.bh, rfl, r.stE n2.bb hv, hw, fun c hc => (by rw [hp] at hc; cases hc), fun po hpo u B3 H3 n3 hu => by
    rw [hp] at hpo
    cases hpo
    exact k u B3 H3 ((n1.trans n2).trans n3) (P.dn (n1.hh.trans n2.hh) hu)⟩
theorem ev_lawcounts {σ : St} {B : Hp} {ta : TE} {b : List (List Int)} (h : EVr ta σ B bd b) (hb : isB b = true) : EV (tCall (sp__law_counts) [] E0 (tCons ta tNil)) σ B (poPair (rowsF b) (colsF b)) := by
  obtain ⟨l1, l2, l3, l4, l5⟩ := isB_parts hb
  have := ev_call1 (E := E0) (pre := fun b => b ≠ [] ∧ b.length ≤ 100 ∧ (∀ row ∈ b, row.length = wide b) ∧ wide b ≤ 100) (po := fun b => poPair (rowsF b) (addF b)) h ⟨fun z => (by rw [z] at l1; cases l1), by omega, fun row hr => (l5 row hr).1, by omega⟩
  rw [add_cols fun row hr => (l5 row hr).1] at this
  exact this
end
end MK

namespace MK
open PySem PySem.Spec PyProof.Rows L2 Evl
/-! ### how far two boards are apart -/
def neI (a b : Int) : Int := if a = b then 0 else 1
def rangeS (n : Nat) (f : Nat → Int) : Int := ((List.range n).map f).sum
theorem rangeS_succ (n : Nat) (f : Nat → Int) : rangeS (n + 1) f = rangeS n f + f n := by
  unfold rangeS
  rw [List.range_succ, List.map_append, List.sum_append]
  simp
theorem rangeS_congr {f g : Nat → Int} : ∀ {n : Nat}, (∀ k, k < n → f k = g k) → rangeS n f = rangeS n g
  | 0, _ => rfl
  | n + 1, h => by rw [rangeS_succ, rangeS_succ, rangeS_congr fun k hk => h k (by omega), h n (by omega)]
theorem rangeS_le {f g : Nat → Int} : ∀ {n : Nat}, (∀ k, k < n → f k ≤ g k) → rangeS n f ≤ rangeS n g
  | 0, _ => Int.le_refl _
  | n + 1, h => by
    rw [rangeS_succ, rangeS_succ]
    have h1 := rangeS_le (n := n) fun k hk => h k (by omega)
    have h2 := h n (by omega)
    omega
theorem rangeS_lt {f g : Nat → Int} : ∀ {n : Nat}, (∀ k, k < n → f k ≤ g k) → (∃ k, k < n ∧ f k < g k) → rangeS n f < rangeS n g
  | 0, _, ⟨k, hk, _⟩ => by omega
  | n + 1, h, ⟨k, hk, hl⟩ => by
    rw [rangeS_succ, rangeS_succ]
    have h2 := h n (by omega)
    by_cases e : k = n
    · subst e
      have h1 := rangeS_le (n := k) fun j hj => h j (by omega)
      omega
    · have h1 := rangeS_lt (n := n) (fun j hj => h j (by omega)) ⟨k, by omega, hl⟩
      omega
theorem rangeS_put {f g : Nat → Int} {i : Nat} : ∀ {n : Nat}, i < n → (∀ k, k < n → k ≠ i → f k = g k) → rangeS n f = rangeS n g + f i - g i
  | 0, h, _ => by omega
  | n + 1, h, hk => by
    rw [rangeS_succ, rangeS_succ]
    by_cases e : i = n
    · subst e
      rw [rangeS_congr (n := i) fun k hk' => hk k (by omega) (by omega)]
      omega
    · rw [rangeS_put (n := n) (by omega) fun k hk' hne => hk k (by omega) hne, hk n (by omega) (fun z => e z.symm)]
      omega
theorem rangeS_nonneg {f : Nat → Int} : ∀ {n : Nat}, (∀ k, k < n → 0 ≤ f k) → 0 ≤ rangeS n f
  | 0, _ => Int.le_refl _
  | n + 1, h => by
    rw [rangeS_succ]
    have h1 := rangeS_nonneg (n := n) fun k hk => h k (by omega)
    have h2 := h n (by omega)
    omega
theorem rangeS_zero {f : Nat → Int} : ∀ {n : Nat}, (∀ k, k < n → 0 ≤ f k) → rangeS n f = 0 → ∀ k, k < n → f k = 0
  | 0, _, _, k, hk => by omega
  | n + 1, h, hs, k, hk => by
    rw [rangeS_succ] at hs
    have h1 := rangeS_nonneg (n := n) fun k hk => h k (by omega)
    have h2 := h n (by omega)
    by_cases e : k = n
    · subst e; omega
    · exact rangeS_zero (n := n) (fun k hk => h k (by omega)) (by omega) k (by omega)
def diffR (n : Nat) (b o : List (List Int)) (i : Nat) : Int := rangeS n fun j => neI (cellB b i j) (cellB o i j)
def diffD (m n : Nat) (b o : List (List Int)) : Int := rangeS m fun i => diffR n b o i
theorem neI_nonneg (a b : Int) : 0 ≤ neI a b := by unfold neI; split <;> omega
theorem diffD_nonneg (m n : Nat) (b o : List (List Int)) : 0 ≤ diffD m n b o := rangeS_nonneg fun _ _ => rangeS_nonneg fun _ _ => neI_nonneg _ _
theorem diffD_comm (m n : Nat) (b o : List (List Int)) : diffD m n b o = diffD m n o b := rangeS_congr fun i _ => rangeS_congr fun j _ => by
  unfold neI
  by_cases h : cellB b i j = cellB o i j
  · rw [if_pos h, if_pos h.symm]
  · rw [if_neg h, if_neg (fun z => h z.symm)]
theorem diffD_zero {m n : Nat} {b o : List (List Int)} (hb : Shp m n b) (ho : Shp m n o) (h : diffD m n b o = 0) : b = o := by
  refine board_ext hb ho fun i j i0 i1 j0 j1 => ?_
  have h1 := rangeS_zero (fun _ _ => rangeS_nonneg fun _ _ => neI_nonneg _ _) h i.toNat (by omega)
  have h2 := rangeS_zero (fun _ _ => neI_nonneg _ _) h1 j.toNat (by omega)
  unfold neI at h2
  split at h2
  · rename_i hc
    rw [show ((i.toNat : Nat) : Int) = i by omega, show ((j.toNat : Nat) : Int) = j by omega] at hc
    exact hc
  · cases h2
theorem diffD_self (m n : Nat) (b : List (List Int)) : diffD m n b b = 0 := by
  have hn : ∀ n, rangeS n (fun _ => (0 : Int)) = 0 := fun n => by
    induction n with
    | zero => rfl
    | succ n ih => rw [rangeS_succ, ih]; rfl
  have h1 : ∀ i, diffR n b b i = 0 := fun i => by
    unfold diffR
    rw [rangeS_congr (g := fun _ => 0) fun j _ => by unfold neI; rw [if_pos rfl], hn]
  unfold diffD
  rw [rangeS_congr (g := fun _ => 0) fun i _ => h1 i, hn]
theorem diffD_turn1 {m n : Nat} {b o : List (List Int)} (hs : Shp m n b) (h0 : B01 b) {i j : Int} (hi : 0 ≤ i ∧ i < (m : Int)) (hj : 0 ≤ j ∧ j < (n : Int)) (ho : cellB o i j = 0 ∨ cellB o i j = 1) : diffD m n (turn1 b i j) o = diffD m n b o + 1 - 2 * neI (cellB b i j) (cellB o i j) := by
  have ei : ((i.toNat : Nat) : Int) = i := by omega
  have ej : ((j.toNat : Nat) : Int) = j := by omega
  have hc := cell01_of hs h0 hi hj
  unfold diffD
  rw [rangeS_put (i := i.toNat) (f := fun k => diffR n (turn1 b i j) o k) (g := fun k => diffR n b o k) (by omega) fun k hk hne => ?_]
  · have : diffR n (turn1 b i j) o i.toNat = diffR n b o i.toNat + 1 - 2 * neI (cellB b i j) (cellB o i j) := by
      unfold diffR
      rw [rangeS_put (i := j.toNat) (f := fun k => neI (cellB (turn1 b i j) i.toNat k) (cellB o i.toNat k)) (g := fun k => neI (cellB b i.toNat k) (cellB o i.toNat k)) (by omega) fun k hk hne => ?_]
      · rw [ei, ej, cellB_turn1 hs hi hj hi.1 hj.1, if_pos ⟨rfl, rfl⟩]
        unfold neI
        split <;> split <;> omega
      · rw [ei, cellB_turn1 hs hi hj hi.1 (by omega), if_neg (fun z => hne (by omega))]
    rw [this]
    omega
  · unfold diffR
    refine rangeS_congr fun l hl => ?_
    rw [cellB_turn1 hs hi hj (by omega) (by omega), if_neg (fun z => hne (by omega))]
theorem B01_turn1 {m n : Nat} {b : List (List Int)} (hs : Shp m n b) (h0 : B01 b) {i j : Int} (hi : 0 ≤ i ∧ i < (m : Int)) (hj : 0 ≤ j ∧ j < (n : Int)) : B01 (turn1 b i j) := B01_of (hs.turn1 hi.1 hi.2) fun i' j' a1 a2 a3 a4 => by
  rw [cellB_turn1 hs hi hj a1 a3]
  have h1 := cell01_of hs h0 hi hj
  have h2 := cell01_of hs h0 ⟨a1, a2⟩ ⟨a3, a4⟩
  split <;> omega
theorem diffD_done {m n : Nat} {b o : List (List Int)} (hs : Shp m n b) (h0 : B01 b) (hso : Shp m n o) (ho : B01 o) {x : Xc} (hx : InR m n x) (h1 : x.1 ≠ x.2.1) (h2 : x.2.2.1 ≠ x.2.2.2) :
    diffD m n (doneF b x) o = diffD m n b o + 4 - 2 * (neI (cellB b x.1 x.2.2.1) (cellB o x.1 x.2.2.1) + neI (cellB b x.1 x.2.2.2) (cellB o x.1 x.2.2.2) + neI (cellB b x.2.1 x.2.2.1) (cellB o x.2.1 x.2.2.1) + neI (cellB b x.2.1 x.2.2.2) (cellB o x.2.1 x.2.2.2)) := by
  have s1 := hs.turn1 (i := x.1) (j := x.2.2.1) hx.t.1 hx.t.2
  have z1 := B01_turn1 hs h0 hx.t hx.l
  have s2 := s1.turn1 (i := x.1) (j := x.2.2.2) hx.t.1 hx.t.2
  have z2 := B01_turn1 s1 z1 hx.t hx.r
  have s3 := s2.turn1 (i := x.2.1) (j := x.2.2.1) hx.lo.1 hx.lo.2
  have z3 := B01_turn1 s2 z2 hx.lo hx.l
  have e1 := cellB_turn1 hs hx.t hx.l hx.t.1 hx.r.1
  rw [if_neg (fun z => h2 z.2.symm)] at e1
  have e2 := cellB_turn2 hs hx.t hx.l hx.r h2 hx.lo.1 hx.l.1
  rw [if_neg (fun z => h1 z.1.symm)] at e2
  have e3 := cellB_turn2 hs hx.t hx.l hx.r h2 hx.lo.1 hx.r.1
  rw [if_neg (fun z => h1 z.1.symm)] at e3
  unfold turn2 at e2 e3
  have e4 := cellB_turn1 s2 hx.lo hx.l hx.lo.1 hx.r.1
  rw [if_neg (fun z => h2 z.2.symm), e3] at e4
  unfold doneF turn2
  rw [diffD_turn1 s3 z3 hx.lo hx.r (cell01_of hso ho hx.lo hx.r), diffD_turn1 s2 z2 hx.lo hx.l (cell01_of hso ho hx.lo hx.l), diffD_turn1 s1 z1 hx.t hx.r (cell01_of hso ho hx.t hx.r), diffD_turn1 hs h0 hx.t hx.l (cell01_of hso ho hx.t hx.l), e1, e2, e4]
  omega
/-! ### a helpful exchange -/
structure Hit (one other : List (List Int)) (i l r k : Int) : Prop where
  a : cellB other i l < cellB one i l
  b : cellB one i r < cellB other i r
  c : cellB other k r < cellB one k r
  d : cellB one k l ≤ cellB other k l
def asX (i j k l : Int) : Xc := (if j < i then j else i, if j > i then j else i, if l < k then l else k, if l > k then l else k)
/-- what helpful promises -/
def Helps (one other : List (List Int)) (x : Xc) (f : Bool) : Prop := InR one.length (wide one) x ∧
  if f = true then okX one x = true ∧ diffD one.length (wide one) (doneF one x) other + 2 ≤ diffD one.length (wide one) one other
  else okX other x = true ∧ diffD one.length (wide one) one (doneF other x) + 2 ≤ diffD one.length (wide one) one other
theorem neI_ne {a b : Int} (h : a ≠ b) : neI a b = 1 := if_neg h
theorem okX_of {b : List (List Int)} {x : Xc} (hx : InR b.length (wide b) x) (h1 : x.1 < x.2.1) (h2 : x.2.2.1 < x.2.2.2) (h : fourF b x = (1, 0, 0, 1) ∨ fourF b x = (0, 1, 1, 0)) : okX b x = true := by
  obtain ⟨a1, a2, a3, a4⟩ := hx
  unfold okX inX
  rw [Bool.and_eq_true]
  refine ⟨?_, by simpa using h⟩
  simp only [Bool.and_eq_true, decide_eq_true_eq]
  omega
theorem hit_helps {one other : List (List Int)} (h1 : isB one = true) (h2 : isB other = true) (hl : other.length = one.length) (hw : wide other = wide one) {i l r k : Int} (hi : 0 ≤ i ∧ i < (one.length : Int)) (hk : 0 ≤ k ∧ k < (one.length : Int)) (hll : 0 ≤ l ∧ l < (wide one : Int)) (hr : 0 ≤ r ∧ r < (wide one : Int)) (h : Hit one other i l r k) :
    Helps one other (asX i k l r) (decide (cellB one k l = 0)) := by
  have s1 := shp_of h1
  have s2 := shp_of h2
  rw [hl, hw] at s2
  have z1 := isB_01 h1
  have z2 := isB_01 h2
  have c1 := cell01_of s1 z1 hi hll
  have c2 := cell01_of s1 z1 hi hr
  have c3 := cell01_of s1 z1 hk hr
  have c4 := cell01_of s1 z1 hk hll
  have d1 := cell01_of s2 z2 hi hll
  have d2 := cell01_of s2 z2 hi hr
  have d3 := cell01_of s2 z2 hk hr
  have d4 := cell01_of s2 z2 hk hll
  obtain ⟨ha, hb, hc, hd⟩ := h
  have nik : i ≠ k := fun z => by subst z; omega
  have nlr : l ≠ r := fun z => by subst z; omega
  have v1 : cellB one i l = 1 ∧ cellB other i l = 0 := by omega
  have v2 : cellB one i r = 0 ∧ cellB other i r = 1 := by omega
  have v3 : cellB one k r = 1 ∧ cellB other k r = 0 := by omega
  have hx : InR one.length (wide one) (asX i k l r) := by
    unfold asX
    refine ⟨?_, ?_, ?_, ?_⟩ <;> dsimp only <;> split <;> assumption
  have hlt : (asX i k l r).1 < (asX i k l r).2.1 ∧ (asX i k l r).2.2.1 < (asX i k l r).2.2.2 := by
    unfold asX
    dsimp only
    refine ⟨?_, ?_⟩ <;> split <;> split <;> omega
  have four : ∀ b : List (List Int), cellB b i l + cellB b i r + cellB b k l + cellB b k r = 2 → cellB b i l = cellB b k r → cellB b i r = cellB b k l → (cellB b i l = 0 ∨ cellB b i l = 1) → (fourF b (asX i k l r) = (1, 0, 0, 1) ∨ fourF b (asX i k l r) = (0, 1, 1, 0)) := fun b e1 e2 e3 e4 => by
    unfold fourF asX
    dsimp only
    simp only [Prod.mk.injEq]
    by_cases q1 : k < i
    · have q1' : ¬ k > i := by omega
      simp only [if_pos q1, if_neg q1']
      by_cases q2 : r < l
      · have q2' : ¬ r > l := by omega
        simp only [if_pos q2, if_neg q2']
        omega
      · have q2' : r > l := by omega
        simp only [if_neg q2, if_pos q2']
        omega
    · have q1' : k > i := by omega
      simp only [if_neg q1, if_pos q1']
      by_cases q2 : r < l
      · have q2' : ¬ r > l := by omega
        simp only [if_pos q2, if_neg q2']
        omega
      · have q2' : r > l := by omega
        simp only [if_neg q2, if_pos q2']
        omega
  have sumN : ∀ b o : List (List Int), neI (cellB b (asX i k l r).1 (asX i k l r).2.2.1) (cellB o (asX i k l r).1 (asX i k l r).2.2.1) + neI (cellB b (asX i k l r).1 (asX i k l r).2.2.2) (cellB o (asX i k l r).1 (asX i k l r).2.2.2) + neI (cellB b (asX i k l r).2.1 (asX i k l r).2.2.1) (cellB o (asX i k l r).2.1 (asX i k l r).2.2.1) + neI (cellB b (asX i k l r).2.1 (asX i k l r).2.2.2) (cellB o (asX i k l r).2.1 (asX i k l r).2.2.2)
      = neI (cellB b i l) (cellB o i l) + neI (cellB b i r) (cellB o i r) + neI (cellB b k l) (cellB o k l) + neI (cellB b k r) (cellB o k r) := fun b o => by
    unfold asX
    dsimp only
    by_cases q1 : k < i
    · have q1' : ¬ k > i := by omega
      simp only [if_pos q1, if_neg q1']
      by_cases q2 : r < l
      · have q2' : ¬ r > l := by omega
        simp only [if_pos q2, if_neg q2']
        omega
      · have q2' : r > l := by omega
        simp only [if_neg q2, if_pos q2']
        omega
    · have q1' : k > i := by omega
      simp only [if_neg q1, if_pos q1']
      by_cases q2 : r < l
      · have q2' : ¬ r > l := by omega
        simp only [if_pos q2, if_neg q2']
        omega
      · have q2' : r > l := by omega
        simp only [if_neg q2, if_pos q2']
  have n1 : neI (cellB one i l) (cellB other i l) = 1 := neI_ne (by omega)
  have n2 : neI (cellB one i r) (cellB other i r) = 1 := neI_ne (by omega)
  have n3 : neI (cellB one k r) (cellB other k r) = 1 := neI_ne (by omega)
  have n4 := neI_nonneg (cellB one k l) (cellB other k l)
  refine ⟨hx, ?_⟩
  by_cases hf : cellB one k l = 0
  · rw [decide_eq_true hf, if_pos rfl]
    refine ⟨okX_of hx hlt.1 hlt.2 (four one (by omega) (by omega) (by omega) c1), ?_⟩
    rw [diffD_done s1 z1 s2 z2 hx (by omega) (by omega), sumN]
    omega
  · rw [decide_eq_false hf, if_neg Bool.false_ne_true]
    refine ⟨okX_of (by rw [hl, hw]; exact hx) hlt.1 hlt.2 (four other (by omega) (by omega) (by omega) d1), ?_⟩
    rw [diffD_comm, diffD_done s2 z2 s1 z1 hx (by omega) (by omega), sumN, diffD_comm]
    have m1 : neI (cellB other i l) (cellB one i l) = 1 := neI_ne (by omega)
    have m2 : neI (cellB other i r) (cellB one i r) = 1 := neI_ne (by omega)
    have m3 : neI (cellB other k r) (cellB one k r) = 1 := neI_ne (by omega)
    have m4 := neI_nonneg (cellB other k l) (cellB one k l)
    omega
/-! ### there is one -/
theorem range_getDI (l : List Int) : (List.range l.length).map (fun k => l.getD k 0) = l := by
  refine List.ext_getElem? fun i => ?_
  rw [List.getElem?_map]
  by_cases hi : i < l.length
  · rw [List.getElem?_range hi]
    exact (getD_some hi).symm
  · rw [List.getElem?_eq_none (by rw [List.length_range]; omega), List.getElem?_eq_none (by omega)]
    rfl
theorem row_range {m n : Nat} {b : List (List Int)} (hs : Shp m n b) {i : Nat} (hi : i < m) : (rowsF b).getD i 0 = rangeS n fun j => cellB b i j := by
  have hl := hs.row _ (getDL_mem (b := b) (i := i) (by rw [hs.ln]; exact hi))
  have e := range_getDI (b.getD i [])
  rw [hl] at e
  have : (rowsF b).getD i 0 = (b.getD i []).sum := by
    unfold rowsF
    rw [List.getD_eq_getElem?_getD, List.getElem?_map, getD_some (d := ([] : List Int)) (show i < b.length by rw [hs.ln]; exact hi)]
    rfl
  rw [this]
  unfold rangeS cellB
  conv => lhs; rw [← e]
  refine congrArg List.sum (List.map_congr_left fun j _ => ?_)
  rw [Int.toNat_natCast, Int.toNat_natCast]
theorem map_range {α : Type} {f : List Int → α} : ∀ b : List (List Int), b.map f = (List.range b.length).map fun i => f (b.getD i []) := fun b => by
  refine List.ext_getElem? fun i => ?_
  rw [List.getElem?_map, List.getElem?_map]
  by_cases hi : i < b.length
  · rw [List.getElem?_range hi, getD_some (d := ([] : List Int)) hi]
    rfl
  · rw [List.getElem?_eq_none (by omega), List.getElem?_eq_none (by rw [List.length_range]; omega)]
    rfl
theorem col_range {m n : Nat} {b : List (List Int)} (hs : Shp m n b) (hm : 1 ≤ m) {j : Nat} (hj : j < n) : (colsF b).getD j 0 = rangeS m fun i => cellB b i j := by
  have hw := hs.wide hm
  have : (colsF b).getD j 0 = (b.map fun row => row.getD j 0).sum := by
    unfold colsF
    rw [hw, List.getD_eq_getElem?_getD, List.getElem?_map, List.getElem?_range hj]
    rfl
  rw [this, map_range, hs.ln]
  unfold rangeS cellB
  refine congrArg List.sum (List.map_congr_left fun i _ => ?_)
  rw [Int.toNat_natCast, Int.toNat_natCast]
/-- equal sums: where one is greater another is less -/
theorem other_way {n : Nat} {f g : Nat → Int} (hs : rangeS n f = rangeS n g) {j : Nat} (hj : j < n) (h : f j < g j) : ∃ k, k < n ∧ g k < f k := by
  apply Classical.byContradiction
  intro hn
  have := rangeS_lt (n := n) (f := f) (g := g) (fun k hk => by
    by_cases hlt : g k < f k
    · exact absurd ⟨k, hk, hlt⟩ hn
    · omega) ⟨j, hj, h⟩
  omega
def cntP (m : Nat) (p : Nat → Bool) : Nat := ((List.range m).filter p).length
theorem filter_lt {p q : Nat → Bool} : ∀ {l : List Nat}, (∀ x ∈ l, p x = true → q x = true) → (∃ x ∈ l, q x = true ∧ p x = false) → (l.filter p).length < (l.filter q).length
  | [], _, ⟨x, hx, _⟩ => by simp at hx
  | a :: l, h, ⟨x, hx, h1, h2⟩ => by
    have hle : ∀ {l : List Nat}, (∀ x ∈ l, p x = true → q x = true) → (l.filter p).length ≤ (l.filter q).length := fun {l} => by
      induction l with
      | nil => intro _; exact Nat.le_refl _
      | cons a l ih =>
        intro h
        have i1 := ih fun x hx => h x (List.mem_cons_of_mem _ hx)
        rw [List.filter_cons, List.filter_cons]
        cases hp : p a with
        | true => rw [h a List.mem_cons_self hp]; simp; exact i1
        | false =>
          cases q a with
          | true => simp; omega
          | false => simpa using i1
    have i1 := hle (l := l) fun x hx => h x (List.mem_cons_of_mem _ hx)
    rw [List.filter_cons, List.filter_cons]
    rcases List.mem_cons.mp hx with e | hx
    · subst e
      rw [h1, h2]
      simp
      omega
    · have i2 := filter_lt (l := l) (fun x hx => h x (List.mem_cons_of_mem _ hx)) ⟨x, hx, h1, h2⟩
      cases hp : p a with
      | true => rw [h a List.mem_cons_self hp]; simp; exact i2
      | false =>
        cases q a with
        | true => simp; omega
        | false => simpa using i2
theorem hit_exists {m n : Nat} {one other : List (List Int)} (hm : 1 ≤ m) (s1 : Shp m n one) (s2 : Shp m n other) (hr : rowsF one = rowsF other) (hc : colsF one = colsF other) (hne : one ≠ other) : ∃ i l r k : Nat, i < m ∧ l < n ∧ r < n ∧ k < m ∧ Hit one other i l r k := by
  apply Classical.byContradiction
  intro hno
  have no : ∀ i l r k : Nat, i < m → l < n → r < n → k < m → ¬ Hit one other i l r k := fun i l r k h1 h2 h3 h4 h => hno ⟨i, l, r, k, h1, h2, h3, h4, h⟩
  have hrow : ∀ i, i < m → rangeS n (fun j => cellB one i j) = rangeS n fun j => cellB other i j := fun i hi => by rw [← row_range s1 hi, ← row_range s2 hi, hr]
  have hcol : ∀ j, j < n → rangeS m (fun i => cellB one i j) = rangeS m fun i => cellB other i j := fun j hj => by rw [← col_range s1 hm hj, ← col_range s2 hm hj, hc]
  let P : Nat → Nat → Bool := fun x i => decide (cellB other i x < cellB one i x)
  have step : ∀ x, x < n → (∃ i, i < m ∧ P x i = true) → ∃ y, y < n ∧ (∃ i, i < m ∧ P y i = true) ∧ cntP m (P x) < cntP m (P y) := fun x hx ⟨i, hi, hp⟩ => by
    have hp : cellB other i x < cellB one i x := of_decide_eq_true hp
    obtain ⟨k, hk, hkx⟩ := other_way (n := m) (f := fun i => cellB other i x) (g := fun i => cellB one i x) (hcol x hx).symm hi hp
    obtain ⟨y, hy, hky⟩ := other_way (n := n) (f := fun j => cellB one k j) (g := fun j => cellB other k j) (hrow k hk) hx hkx
    refine ⟨y, hy, ⟨k, hk, decide_eq_true hky⟩, filter_lt (fun low hlow hq => ?_) ⟨k, List.mem_range.mpr hk, decide_eq_true hky, decide_eq_false (by show ¬ (cellB other k x < cellB one k x); have : cellB one k x < cellB other k x := hkx; omega)⟩⟩
    have hlow := List.mem_range.mp hlow
    have hq : cellB other low x < cellB one low x := of_decide_eq_true hq
    apply Classical.byContradiction
    intro hf
    have hf : ¬ cellB other low y < cellB one low y := fun z => hf (decide_eq_true z)
    exact no k y x low hk hy hx hlow ⟨hky, hkx, hq, by omega⟩
  have more : ∀ t, ∃ x, x < n ∧ (∃ i, i < m ∧ P x i = true) ∧ t ≤ cntP m (P x) := fun t => by
    induction t with
    | zero =>
      have : ∃ i j, i < m ∧ j < n ∧ cellB one i j ≠ cellB other i j := by
        apply Classical.byContradiction
        intro hn
        refine hne (board_ext s1 s2 fun i j i0 i1 j0 j1 => ?_)
        apply Classical.byContradiction
        intro hd
        refine hn ⟨i.toNat, j.toNat, by omega, by omega, ?_⟩
        rw [show ((i.toNat : Nat) : Int) = i by omega, show ((j.toNat : Nat) : Int) = j by omega]
        exact hd
      obtain ⟨i, j, hi, hj, hd⟩ := this
      by_cases hlt : cellB other i j < cellB one i j
      · exact ⟨j, hj, ⟨i, hi, decide_eq_true hlt⟩, Nat.zero_le _⟩
      · obtain ⟨y, hy, hky⟩ := other_way (n := n) (f := fun j => cellB one i j) (g := fun j => cellB other i j) (hrow i hi) hj (by show cellB one i j < cellB other i j; omega)
        exact ⟨y, hy, ⟨i, hi, decide_eq_true hky⟩, Nat.zero_le _⟩
    | succ t ih =>
      obtain ⟨x, hx, hp, ht⟩ := ih
      obtain ⟨y, hy, hp2, hlt⟩ := step x hx hp
      exact ⟨y, hy, hp2, by omega⟩
  obtain ⟨x, _, _, hx⟩ := more (m + 1)
  have : cntP m (P x) ≤ m := by
    unfold cntP
    have := List.length_filter_le (P x) (List.range m)
    rw [List.length_range] at this
    exact this
  omega
end MK

/-! list(reversed(x)), x a list: a new list -/
namespace MKR
open PySem PySem.Spec PyProof.Rows L2 RT
section
variable {prog : Program} {w : World} {A : Around} {E : Value → Shared → Prop} {s : Shared}
/-- what stands at the iterator's list, read from behind -/
abbrev Bk (items : Array Value) : Nat → Value → Prop := fun i v => items[items.size - 1 - i]? = some v
theorem fill_rev {R : Result → Shared → Prop} {it l S : Addr} {items : Array Value} (hh : A.handled = none) (hS : s.heap.get? S = some { cls := .type "list", data := .seq #[] }) (ni : S ≠ it) (nl : S ≠ l) (hit : s.heap.IsRevIter it l ((items.size : Int) - 1)) (hl : s.heap.IsList l items) (hne : l ≠ it) (hn : items.size ≤ sizeLine)
    (hR : ∀ h' tk acc c', (∀ b o, b ≠ S → b ≠ it → s.heap.get? b = some o → h'.get? b = some o) → h'.get? S = some { cls := .type "list", dict := none, data := .seq acc c', slots := #[] } → ItemsOf (Bk items) acc items.size → R (.ok (.ret .none)) { s with heap := h', toks := tk }) :
    wpAny (model prog w) A.in1 (Builtin.«list.__init__» ⟨[.ref S, .ref it], []⟩) (fun fin s' => match fin with | .done f => R (.ok f) s' | .again c' => c'.quiet = true ∧ codeAny (model prog w) A c' R s') (fun e s' => R (.error e) s') s := by
  have W := (Walks.listRev (prog := prog) (w := w) (A := A.in1) (show A.in1.handled = none from hh) it l hne items).toS
  have apart : S ∉ [it, l] := by
    intro z
    rcases List.mem_cons.mp z with z | z
    · exact ni z
    · exact nl (List.mem_singleton.mp z)
  show wpAny _ _ (do let was ← Builtin.List.listItems (.ref S); Builtin.List.listUpdate (.ref S) (fun _ => #[]); letGo was.toList.reverse; Builtin.List.listExtendWith (.ref S) (.ref it) .none) _ _ s
  refine wpAny_bind ?_
  unfold Builtin.List.listItems
  refine wpAny_bind (wpAny_seqItems hS rfl (wpAny_pure ?_))
  show wpAny _ _ (updateSeq S (fun _ => #[]) >>= fun _ => letGo (#[] : Array Value).toList.reverse >>= fun _ => Builtin.List.listExtendWith (.ref S) (.ref it) .none) _ _ s
  refine wpAny_bind (wpAny_updateSeq hS rfl (wpAny_bind (wpAny_letGo ?_)))
  have far : ∀ b o, b ≠ S → s.heap.get? b = some o → (s.heap.update S (Obj.mapSeq (fun _ => (#[] : Array Value)))).get? b = some o := fun b o nb z => (Heap.get?_update_other _ _ (Ne.symm nb)).trans z
  have own := Heap.get?_update_self (Obj.mapSeq (fun _ => (#[] : Array Value))) hS rfl
  have hit1 : (s.heap.update S (Obj.mapSeq (fun _ => (#[] : Array Value)))).IsRevIter it l ((items.size : Int) - 1) := hit.at fun o z => far it o (Ne.symm ni) z
  have hl1 : (s.heap.update S (Obj.mapSeq (fun _ => (#[] : Array Value)))).IsList l items := by
    obtain ⟨ol, z, r⟩ := hl
    exact ⟨ol, far l _ (Ne.symm nl) z, r⟩
  generalize hs2 : ({ s with heap := s.heap.update S (Obj.mapSeq (fun _ => (#[] : Array Value))) } : Shared) = s2 at *
  have e2 : s2.heap = s.heap.update S (Obj.mapSeq (fun _ => (#[] : Array Value))) := by rw [← hs2]
  have tk2 : ∀ h' tk, ({ s2 with heap := h', toks := tk } : Shared) = { s with heap := h', toks := tk } := fun h' tk => by rw [← hs2]
  rw [← e2] at hit1 hl1 own far
  have ty : s2.TypeIs (.ref it) "list_reverseiterator" := Heap.IsRevIter.typeIs hit1
  have unl : Builtin.List.listSameRef (.ref S) (.ref it) = false := by simp [Builtin.List.listSameRef, ni]
  unfold Builtin.List.listExtendWith
  refine wpAny_bind (wpAny_typeOf ty ?_)
  rw [if_neg (by rw [unl]; decide)]
  refine wpAny_bind (wpAny_pyIter_revIter hit1 ?_)
  refine wpAny_bind (wpAny_holding ?_)
  unfold Builtin.List.listLengthHint
  refine wpAny_bind (wpAny_specialOf ty nolen_lri ?_)
  show wpAny _ A.in1 (specialOf (Value.ref it) (Str.ofString "__length_hint__") >>= _) _ _ _
  refine wpAny_bind (wpAny_specialOf ty hint_lri ?_)
  generalize hid : ("list_reverseiterator.__length_hint__" : String) = id0
  wp_delta
  rw [show splitId id0 = some ("list_reverseiterator", "__length_hint__") from by subst hid; decide +kernel]
  subst hid
  refine wpAny_bind (wpAny_isInstance (b := true) ty (by rw [isSubtype_type]; kernel_rfl) (wpAny_pure ?_))
  rw [if_neg (by decide)]
  have from0 : ((items.size : Nat) : Int) - 1 - ((0 : Nat) : Int) = (items.size : Int) - 1 := by omega
  refine wpAny_pure ⟨plainId_quiet F.plain_extend_loop _, codeAny_extend_loopS W hn S apart .none items.size 0 _ #[] _ rfl (Nat.zero_le _) ⟨Nat.zero_le _, by rw [from0]; exact hit1, hl1⟩ own (ItemsOf.nil _) fun s' acc c' hm hS' ha => ?_⟩
  rw [Moved.eq_with hm, tk2]
  refine hR s'.heap s'.toks acc c' (fun b o nb nit z => hm.heap b o (fun hb => ?_) (far b o nb z)) hS' ha
  rcases List.mem_cons.mp hb with z2 | z2
  · exact nb z2
  · exact nit (List.mem_singleton.mp z2)
theorem call_list_rev {it l : Addr} {items : Array Value} {Q : Value → Shared → Prop} (hh : A.handled = none) (hit : s.heap.IsRevIter it l ((items.size : Int) - 1)) (hl : s.heap.IsList l items) (hne : l ≠ it) (hn : items.size ≤ sizeLine)
    (hQ : ∀ h' tk acc c', (∀ b o, b ≠ it → s.heap.get? b = some o → h'.get? b = some o) → h'.get? s.heap.objs.size = some { cls := .type "list", dict := none, data := .seq acc c', slots := #[] } → ItemsOf (Bk items) acc items.size → Q (.ref s.heap.objs.size) { s with heap := h', toks := tk }) :
    wpAny (model prog w) A (call (.type "list") [.ref it]) Q E s := by
  obtain ⟨oi, hoi, _⟩ := id hit
  obtain ⟨ol, hol, _⟩ := id hl
  refine callType_codes (Q₁ := fun obj s₁ => obj = .ref s.heap.objs.size ∧ s₁ = { s with heap := s.heap.push { cls := .type "list", data := .seq #[] } }) PySem.F.called_list (PySem.F.typeCall_list_1 _) PySem.F.entry_list_init (code_list_new _ ⟨rfl, rfl⟩) ?_
  rintro obj s1 ⟨rfl, rfl⟩
  refine ⟨⟨_, Heap.get?_push_size _ rfl, rfl⟩, PySem.F.args_list_init_2 _ _, fill_rev (A := A.in1) hh (Heap.get?_push_size _ rfl) (Nat.ne_of_gt (Heap.lt_size hoi)) (Nat.ne_of_gt (Heap.lt_size hol)) (hit.at fun o z => Heap.get?_push_of_some _ z) (hl.push _) hne hn fun h' tk acc c' hk hS' ha => ?_⟩
  exact ⟨rfl, hQ h' tk acc c' (fun b o nb z => hk b o (Nat.ne_of_lt (Heap.lt_size z)) nb (Heap.get?_push_of_some _ z)) hS' ha⟩
end
def tListRev (K : PySem.W.Frag) (te : TE) : TE := fun σ H Q => te σ H fun v H1 => ∃ (a : Addr) (xs : List V), v = .ref a ∧ SqL K H1 a xs ∧ ∀ q, H1 q = none → Q (.ref q) (upd H1 q (.lst xs.reverse))
theorem rev_vals {xs : List V} {its : List Value} {acc : Array Value} (r : Vals xs its) (h : ItemsOf (Bk its.toArray) acc its.toArray.size) : Vals xs.reverse acc.toList := vals_rev r h
theorem pe_listRev {X : Cx} {x : Expr} {tx : TE} {k1 k2 q1 q2 : Pos} (hc : X.calm = true) (hm : X.mg "list" = none) (hc2 : X.calm = true) (hm2 : X.mg "reversed" = none) (hx : PE X x tx) (hg : Gl X "list" := by rfl) (hg2 : Gl X "reversed" := by rfl)
    (st1 : starEach [x] X.env = (false, eval x X.env) :: starEach [] X.env := by rfl)
    (st2 : starEach [.Call (.Name "reversed" k2) [x] [] q2] X.env = (false, eval (.Call (.Name "reversed" k2) [x] [] q2) X.env) :: starEach [] X.env := by rfl) :
    PE X (.Call (.Name "list" k1) [.Call (.Name "reversed" k2) [x] [] q2] [] q1) (tListRev X.K tx) := by
  refine ⟨fun pins s σ H Q I h => Call_ (ld_blt I hg hm PyProof.Rows.boot_list (PyProof.Rows.callWith_type1 (args_cons (Call_ (ld_blt I hg2 hm2 PyProof.Rows.boot_reversed (PyProof.Rows.callWith_type1 (args_cons (thn (hx.run pins s σ H _ I h) fun u t ⟨v, H1, J, rv, z⟩ => args_nil ?_) st1) st1 rfl))) st2) st2 rfl))⟩
  obtain ⟨a, xs, rfl, sq, z⟩ := z
  obtain rfl : u = Value.ref a := rv
  obtain ⟨its, vals, pl, sz⟩ := J.list sq
  refine call_reversed_list pl.isList (args_nil ?_)
  obtain ⟨z0, z1, z2, z3, z4, z5⟩ := J.fpOk (H' := H1) (b := t.heap.objs.size) (Nat.le_refl _) (J.hok.fresh (Nat.le_refl _))
  have J2 : Inv X pins σ H1 { t with heap := t.heap.push (revObj a ((its.toArray.size : Int) - 1)) } := J.kept (t' := t.toks) fun b o q => Heap.get?_push_of_some _ q
  obtain ⟨ol, hol, _⟩ := id pl.isList
  refine call_list_rev (s := { t with heap := t.heap.push (revObj a ((its.toArray.size : Int) - 1)) }) (J.ok.hd hc) ⟨_, Heap.get?_push_size _ rfl, rfl, rfl⟩ (pl.isList.push _) (Nat.ne_of_lt (Heap.lt_size hol)) (by rw [List.size_toArray, ← vals.length]; exact sz) fun h' tk acc c' hk hS hi => ?_
  have fresh : H1 (t.heap.push (revObj a ((its.toArray.size : Int) - 1))).objs.size = none := J2.hok.fresh (Nat.le_refl _)
  have foot : ∀ b ∈ [t.heap.objs.size], FpOk X pins H1 b := fun b hb => by
    rw [List.mem_singleton.mp hb]
    exact J.fpOk (Nat.le_refl _) (J.hok.fresh (Nat.le_refl _))
  refine ⟨.ref _, _, J2.turnedNew (t' := tk) (T := (t.heap.push (revObj a ((its.toArray.size : Int) - 1))).objs.size) (ob := .lst xs.reverse) (fun b o nb q => hk b o (fun e => nb (List.mem_singleton.mpr e)) q) foot (Nat.le_refl _) ⟨by rw [List.length_reverse]; exact sz, acc.toList, c', rev_vals vals hi, ?_⟩, rfl, z _ fresh⟩
  rw [Array.toArray_toList]
  exact hS
end MKR
namespace MK
open PySem PySem.Spec PyProof.Rows L2 Evl
/-- something of data that C holds of -/
def poS {α : Type} (r : R α) (C : α → Prop) : Po := ⟨fun _ B v => ∃ x, C x ∧ r.p B v x, fun e ⟨x, h1, h2⟩ => ⟨x, h1, r.stE e h2⟩, fun _ h => h⟩
/-- a new list that C holds of -/
def poSL {α : Type} (r : R α) (C : List α → Prop) : Po := ⟨fun H B v => ∃ xs, C xs ∧ (poL r xs).P H B v, fun e ⟨x, h1, h2⟩ => ⟨x, h1, (poL r x).up e h2⟩, fun e ⟨x, h1, h2⟩ => ⟨x, h1, (poL r x).dn e h2⟩⟩
section
variable {α β γ ζ : Type} {r : R α} {q : R β} {x : α} {y : β} {σ : St} {B B' : Hp} {ta tb tc td te tl : TE} {P P' : Po} {b c : Bool} {i k z : Int} {K : PySem.W.Frag} {j : Nat} {D : Ends} {tu tw : TS} {H : Hp}
theorem q_unp2P {C : α × β → Prop} {n1 n2 : Nat} (e : Ex B H) (h : EV te σ B (poS (pr r q) C)) (k : ∀ y v w B1 H1, C y → Nw B H B1 H1 → r.p B1 v y.1 → q.p B1 w y.2 → tw D ((σ.set n1 (some v)).set n2 (some w)) H1) :
    tSeq (tAsg te (gTup K 2 (gCons (gName n1) (gCons (gName n2) gNil)))) tw D σ H := h.run e fun v B1 H1 n ⟨y, hC, hv⟩ => by
  obtain ⟨a, v1, v2, rfl, h2, h3, h4⟩ := hv
  exact ⟨a, _, rfl, SqT.of (n.bh _ _ h2), rfl, _, _, rfl, _, _, rfl, rfl, k y v1 v2 B1 H1 hC n h3 h4⟩
theorem ev_call1xS {f : α → Sum Addr Po} {W : WX} (h : EVr ta σ B r x) (hp : f x = .inr P) : EV (tCallS (sp1x r f) (WE W) (tCons ta tNil)) σ B P := EV.of fun H e Q k =>
  h.run e fun v B1 H1 n1 hv => ⟨B1, v, x, n1.bh, rfl, hv, fun c hc => (by rw [hp] at hc; cases hc), fun po hpo u B2 H2 n2 hu => by
    rw [hp] at hpo
    cases hpo
    exact k u B2 H2 (n1.trans n2) (P.dn n1.hh hu)⟩
theorem ev_whole (h : EVr te σ B int i) : EVr (tCall (sp__law_whole) [] E0 (tCons te tNil)) σ B bl true := ev_call1 (r := int) (x := i) h trivial
end
end MK

/-! dicts whose keys are tuples of a number and a tuple of numbers, and whose values are numbers -/
namespace MKD
open PySem PySem.Spec PyProof.Rows L2
abbrev Ky := Int × List Int
def keyN (k : Ky) : NestedKey := .tup [.num k.1, .tup (k.2.map .num)]
theorem nums_inj : ∀ {a b : List Int}, a.map NestedKey.num = b.map NestedKey.num → a = b
  | [], [], _ => rfl
  | [], _ :: _, h => by cases h
  | _ :: _, [], h => by cases h
  | x :: a, y :: b, h => by
    rw [List.map_cons, List.map_cons] at h
    injection h with h1 h2
    injection h1 with h3
    rw [h3, nums_inj h2]
theorem keyN_inj {k l : Ky} (h : keyN k = keyN l) : k = l := by
  obtain ⟨n, cs⟩ := k
  obtain ⟨m, ds⟩ := l
  unfold keyN at h
  injection h with h1
  injection h1 with h2 h3
  injection h2 with h4
  injection h3 with h5
  injection h5 with h6
  have h4 : n = m := h4
  rw [h4, nums_inj (a := cs) (b := ds) h6]
theorem nums_depth : ∀ l : List Int, NestedKey.depthAll (l.map .num) = 0
  | [] => by simp [NestedKey.depthAll]
  | x :: l => by
    show NestedKey.depthAll (.num x :: l.map .num) = 0
    rw [NestedKey.depthAll, nums_depth l]
    simp [NestedKey.depth]
theorem keyN_depth (k : Ky) : (keyN k).depth ≤ 8 := by
  unfold keyN
  simp only [NestedKey.depth, NestedKey.depthAll]
  rw [nums_depth]
  decide
def hashK (k : Ky) : Int := reduceHash (Builtin.Tuple.tupleHashOf [hashInt k.1, reduceHash (Builtin.Tuple.tupleHashOf (k.2.map hashInt))])
theorem hash_nums (w : World) : ∀ l : List Int, NestedKey.hashes w (l.map .num) = l.map hashInt
  | [] => by simp [NestedKey.hashes]
  | x :: l => by
    show NestedKey.hashes w (.num x :: l.map .num) = hashInt x :: l.map hashInt
    rw [NestedKey.hashes, hash_nums w l]
    simp [NestedKey.hash]
theorem hash_keyN (w : World) (k : Ky) : (keyN k).hash w = hashK k := by
  unfold keyN hashK
  simp only [NestedKey.hash, NestedKey.hashes]
  rw [hash_nums]
/-- an entry: the key, where its tuple stands, the number -/
abbrev Ent := Ky × Addr × Int
def EntOk (p : Ent) (q : DictEntry) : Prop := ∃ t, q = ⟨hashK p.1, .ref p.2.1, .int p.2.2 t⟩
def DicPhi (d : Addr) (es : List Ent) (h : Heap) : Prop := ∃ (o : Obj) (de : Array DictEntry) (ep : Nat), h.get? d = some o ∧ o.ExactDict ∧ o.data = .dict de ep ∧ Paired EntOk es de.toList ∧ (es.map (·.1)).Nodup ∧ es.length ≤ sizeLine ∧ (d == sysModules) = false
def Dic (d : Addr) (es : List Ent) : HO := .ext (DicPhi d es)
/-- the key's tuple and the tuple in it -/
def KeyAt (H : Hp) (k : Ky) (b : Addr) : Prop := ∃ t, H b = some (.tup [.int k.1, .ref t]) ∧ H t = some (.tup (k.2.map V.int))
def KeysAt (H : Hp) (es : List Ent) : Prop := ∀ e ∈ es, KeyAt H e.1 e.2.1
def look (es : List Ent) (k : Ky) : Option Int := (es.find? fun e => decide (e.1 = k)).map (·.2.2)
section
variable {P : Program} {w : World} {H : Hp} {h : Heap} {d : Addr} {es : List Ent}
theorem dic_ok {H' : Hp} (x : DicPhi d es h) : ObjOk P w H' h d (Dic d es) := ⟨x, (let ⟨o, _, _, e, _⟩ := x; ⟨o, e⟩), fun h1 h2 ⟨o, de, ep, e, r⟩ k => ⟨o, de, ep, k o e, r⟩⟩
theorem dic_of (ok : HOk P w H h) (e : H d = some (Dic d es)) : DicPhi d es h := (show ObjOk P w H h d (Dic d es) from ok d _ e).1
theorem nums_is {cs : List Int} : ∀ {us : List Value}, Vals (cs.map V.int) us → NestedAll h (cs.map .num) us := by
  induction cs with
  | nil =>
    intro us r
    have r : Vals [] us := r
    cases r
    exact .nil
  | cons c cs ih =>
    intro us r
    have r : Vals (.int c :: cs.map V.int) us := r
    cases r with
    | cons r1 t =>
      obtain ⟨tk, rfl⟩ := r1
      exact .cons (.int c tk) (ih t)
theorem key_is {k : Ky} {b : Addr} (ok : HOk P w H h) (x : KeyAt H k b) : (nestedKind P w).is h (keyN k) b := by
  obtain ⟨t, hb, ht⟩ := x
  obtain ⟨_, us, r, o, g1, g2, n, g3⟩ := (show ObjOk P w H h b (.tup [.int k.1, .ref t]) from ok b _ hb)
  obtain ⟨_, vs, r2, o2, f1, f2, n2, f3⟩ := (show ObjOk P w H h t (.tup (k.2.map V.int)) from ok t _ ht)
  refine ⟨.tup g1 g2 g3 ?_, keyN_depth k⟩
  cases r with
  | cons r1 rest => cases rest with
    | cons r3 rest =>
      cases rest
      obtain ⟨tk, rfl⟩ := r1
      cases r3
      exact .cons (.int _ tk) (.cons (.tup f1 f2 f3 (nums_is r2)) .nil)
/-- the entries as the library tells them -/
abbrev EntX (p : Ent) (q : NestedKey × Addr × Value) : Prop := q.1 = keyN p.1 ∧ q.2.1 = p.2.1 ∧ ∃ t, q.2.2 = .int p.2.2 t
theorem ents (P : Program) (w : World) {es : List Ent} {l : List DictEntry} (r : Paired EntOk es l) : ∃ xs, l = xs.map (entryOfKey (nestedKind P w)) ∧ Paired EntX es xs := by
  induction r with
  | nil => exact ⟨[], rfl, .nil⟩
  | @cons p q ps qs h _ ih =>
    obtain ⟨t, e⟩ := h
    obtain ⟨xs, e2, r2⟩ := ih
    refine ⟨(keyN p.1, p.2.1, .int p.2.2 t) :: xs, ?_, .cons ⟨rfl, rfl, t, rfl⟩ r2⟩
    rw [List.map_cons, ← e2, e]
    have : entryOfKey (nestedKind P w) (keyN p.1, p.2.1, Value.int p.2.2 t) = ⟨(keyN p.1).hash w, .ref p.2.1, .int p.2.2 t⟩ := rfl
    rw [this, hash_keyN]
theorem back_ents (P : Program) (w : World) {es : List Ent} {xs : List (NestedKey × Addr × Value)} (r : Paired EntX es xs) : Paired EntOk es (xs.map (entryOfKey (nestedKind P w))) := by
  induction r with
  | nil => exact .nil
  | @cons p q ps qs h _ ih =>
    obtain ⟨a, b, c⟩ := q
    obtain ⟨e1, e2, t, e3⟩ := h
    dsimp only at e1 e2 e3
    subst e1 e2 e3
    refine .cons ⟨t, ?_⟩ ih
    have : entryOfKey (nestedKind P w) (keyN p.1, p.2.1, Value.int p.2.2 t) = ⟨(keyN p.1).hash w, .ref p.2.1, .int p.2.2 t⟩ := rfl
    rw [this, hash_keyN]
theorem ents_keys : ∀ {es : List Ent} {xs : List (NestedKey × Addr × Value)}, Paired EntX es xs → xs.map (·.1) = (es.map (·.1)).map keyN
  | _, _, .nil => rfl
  | p :: es, q :: xs, .cons h r => by rw [List.map_cons, List.map_cons, List.map_cons, ents_keys r, h.1]
theorem nodup_keyN : ∀ {l : List Ky}, l.Nodup → (l.map keyN).Nodup
  | [], _ => List.nodup_nil
  | k :: l, h => by
    rw [List.nodup_cons] at h
    rw [List.map_cons, List.nodup_cons]
    refine ⟨fun hm => ?_, nodup_keyN h.2⟩
    obtain ⟨k2, hk, e⟩ := List.mem_map.mp hm
    rw [keyN_inj e] at hk
    exact h.1 hk
theorem nodup_back : ∀ {l : List Ky}, (l.map keyN).Nodup → l.Nodup
  | [], _ => List.nodup_nil
  | k :: l, h => by
    rw [List.map_cons, List.nodup_cons] at h
    rw [List.nodup_cons]
    exact ⟨fun hm => h.1 (List.mem_map.mpr ⟨k, hm, rfl⟩), nodup_back h.2⟩
theorem at_look {k : Ky} {es : List Ent} {xs : List (NestedKey × Addr × Value)} (r : Paired EntX es xs) : (look es k = none → atKey xs (keyN k) = none) ∧ (∀ v, look es k = some v → ∃ p t, atKey xs (keyN k) = some (p, .int v t)) := by
  induction r with
  | nil => exact ⟨fun _ => rfl, fun v h => by cases h⟩
  | @cons p q ps qs h _ ih =>
    obtain ⟨e1, e2, t, e3⟩ := h
    obtain ⟨i1, i2⟩ := ih
    unfold look atKey at i1 i2 ⊢
    rw [List.find?_cons, List.find?_cons]
    by_cases hk : p.1 = k
    · have hq : q.1 = keyN k := by rw [e1, hk]
      rw [decide_eq_true hk, decide_eq_true hq]
      refine ⟨fun z => (by cases z), fun v z => ?_⟩
      have z : some p.2.2 = some v := z
      cases z
      refine ⟨q.2.1, t, ?_⟩
      show some q.2 = _
      rw [← e3]
    · have hq : ¬ q.1 = keyN k := fun z => hk (keyN_inj (e1.symm.trans z))
      rw [decide_eq_false hk, decide_eq_false hq]
      exact ⟨i1, i2⟩
theorem dict_of (ok : HOk P w H h) (e : H d = some (Dic d es)) (ks : KeysAt H es) : ∃ xs, h.DictOfH (nestedKind P w) d xs ∧ Paired EntX es xs ∧ (d == sysModules) = false ∧ es.length ≤ sizeLine := by
  obtain ⟨o, de, ep, g1, g2, g3, g4, g5, g6, g7⟩ := dic_of ok e
  obtain ⟨xs, e1, r⟩ := ents P w g4
  refine ⟨xs, ⟨o, de, ep, g1, g2, g3, e1, ?_, by rw [ents_keys r]; exact nodup_keyN g5⟩, r, g7, g6⟩
  have all : ∀ {es : List Ent} {xs : List (NestedKey × Addr × Value)}, KeysAt H es → Paired EntX es xs → ∀ x ∈ xs, (nestedKind P w).is h x.1 x.2.1 := by
    intro es xs ks r
    induction r with
    | nil => intro x hx; cases hx
    | @cons p q ps qs hq t ih =>
      intro x hx
      rcases List.mem_cons.mp hx with z | hx
      · subst z
        rw [hq.1, hq.2.1]
        exact key_is ok (ks p List.mem_cons_self)
      · exact ih (fun y hy => ks y (List.mem_cons_of_mem _ hy)) x hx
  exact all ks r
end
/-- {} -/
def tDNew : TE := fun _ H Q => ∀ p, H p = none → Q (.ref p) (upd H p (Dic p []))
def rNkNot : R2 := fun y x H Q => ∃ d es b k, x = .ref d ∧ H d = some (Dic d es) ∧ KeysAt H es ∧ y = .ref b ∧ KeyAt H k b ∧ Q (.bl (!(look es k).isSome)) H
def rNkGet : R2 := fun x y H Q => ∃ d es b k v, x = .ref d ∧ H d = some (Dic d es) ∧ KeysAt H es ∧ y = .ref b ∧ KeyAt H k b ∧ look es k = some v ∧ Q (.int v) H
def rNkSet : TSet := fun x y z H Q => ∃ d es b k v, x = .ref d ∧ H d = some (Dic d es) ∧ KeysAt H es ∧ y = .ref b ∧ KeyAt H k b ∧ z = .int v ∧ look es k = none ∧ es.length < sizeLine ∧ Q (upd H d (Dic d (es ++ [(k, b, v)])))
section
variable {X : Cx} {pos : Pos}
theorem pe_dnew : PE X (.Dict [] [] pos) tDNew := ⟨fun pins s σ H Q I h => wpAny_Dict_empty ⟨.ref s.heap.objs.size, _, I.laid (a := s.heap.objs.size) (o := Dic s.heap.objs.size []) (t' := s.toks) (fun _ _ q => Heap.get?_push_of_some _ q) (Nat.le_refl _)
  (dic_ok ⟨_, #[], 0, Heap.get?_push_size _ rfl, ⟨rfl, rfl, rfl⟩, rfl, .nil, List.nodup_nil, Nat.zero_le _, beq_eq_false_iff_ne.mpr (Ne.symm (Nat.ne_of_lt I.big))⟩), rfl, h _ (I.hok.fresh (Nat.le_refl _))⟩⟩
theorem room_nk {A : Around} (hu : A.units + 64 < cLine) {P : Program} {w : World} : (nestedKind P w).room A.in1 := by
  show A.units + 1 + 8 < cLine
  omega
theorem op_nkNot (hu : X.A.units + 64 < cLine) : OpR X (compareOp .NotIn) rNkNot := by
  intro pins s σ H y x u v Q I ry rx h
  obtain ⟨d, es, b, k, rfl, hd, ks, rfl, kb, q⟩ := h
  cases rx
  cases ry
  obtain ⟨xs, dd, r, ns, _⟩ := dict_of I.hok hd ks
  refine wpAny_notIn_heap (room_nk hu) (key_is I.hok kb) ns dd ?_
  obtain ⟨l1, l2⟩ := at_look (k := k) r
  have e : (atKey xs (keyN k)).isSome = (look es k).isSome := by
    cases hl : look es k with
    | none => rw [l1 hl]; rfl
    | some v =>
      obtain ⟨p, t, e⟩ := l2 v hl
      rw [e]
      rfl
  rw [e]
  exact ⟨.bl _, H, I.tok _, rfl, q⟩
theorem ix_nk (hu : X.A.units + 64 < cLine) : IxR X rNkGet := by
  intro value slice pins s σ H x y v u Q I rx ry h hs
  obtain ⟨d, es, b, k, z, rfl, hd, ks, rfl, kb, hl, q⟩ := h
  cases rx
  cases ry
  obtain ⟨xs, dd, r, ns, _⟩ := dict_of I.hok hd ks
  obtain ⟨p, t, e⟩ := (at_look (k := k) r).2 z hl
  refine subscriptTail_builtinR (x := .int z t) dd.typeIs PySem.F.slot_dict_getitem.lookup (wpAny_getItem_heap (Q := fun r s' => r = .int z t ∧ EP X pins σ Q r s') (room_nk hu) (key_is I.hok kb) dd e ⟨rfl, .int z, H, I.tok _, ⟨t, rfl⟩, q⟩) hs
theorem set_nk (hu : X.A.units + 64 < cLine) : PSet X rNkSet := by
  intro pins s σ H o i v ov iv u Q I ro ri rv h
  obtain ⟨d, es, b, k, z, rfl, hd, ks, rfl, kb, rfl, hl, hz, q⟩ := h
  cases ro
  cases ri
  obtain ⟨t, rfl⟩ := rv
  obtain ⟨xs, dd, r, ns, _⟩ := dict_of I.hok hd ks
  have hno := (at_look (k := k) r).1 hl
  have hlen : xs.length ≤ sizeLine := by
    have := Paired.length r
    omega
  obtain ⟨_, _, _, _, _, _, _, nd, _⟩ := dic_of I.hok hd
  refine wpAny_setItem_heap (room_nk hu) (key_is I.hok kb) dd (fun h' dd' hs => ⟨_, d_write I (by rw [hd]; exact True.intro) hs (let ⟨q, _, _, hq, _⟩ := dd'; ⟨q, hq⟩) (dic_ok ?_), q⟩) hlen
  rw [storedH_new hno] at dd'
  obtain ⟨o, de, ep, g1, g2, g3, g4, _, g6⟩ := dd'
  have r2 : Paired EntX (es ++ [(k, b, z)]) (xs ++ [(keyN k, b, .int z t)]) := by
    have app : ∀ {es : List Ent} {xs : List (NestedKey × Addr × Value)}, Paired EntX es xs → Paired EntX (es ++ [(k, b, z)]) (xs ++ [(keyN k, b, .int z t)]) := by
      intro es xs r
      induction r with
      | nil => exact .cons ⟨rfl, rfl, t, rfl⟩ .nil
      | cons h _ ih => exact .cons h ih
    exact app r
  refine ⟨o, de, ep, g1, g2, g3, by rw [g4]; exact back_ents X.prog X.w r2, ?_, by rw [List.length_append, List.length_singleton]; omega, ns⟩
  rw [ents_keys r2] at g6
  exact nodup_back g6
end
end MKD

namespace MK
/-! ### counting boards: rows of cells -/
def Is01 (r : List Int) : Prop := ∀ x ∈ r, x = 0 ∨ x = 1
/-- all rows of n cells with c marks, in their order -/
def patF : Int → Nat → List (List Int)
  | c, 0 => if c = 0 then [[]] else []
  | c, n + 1 => (patF c n).map (List.cons 0) ++ (patF (c - 1) n).map (List.cons 1)
theorem mem_pat : ∀ {n : Nat} {c : Int} {r : List Int}, r ∈ patF c n ↔ r.length = n ∧ Is01 r ∧ r.sum = c
  | 0, c, r => by
    unfold patF
    constructor
    · intro h
      split at h
      · rename_i hc
        have e : r = [] := by simpa using h
        subst e
        exact ⟨rfl, fun x hx => by simp at hx, by rw [hc]; rfl⟩
      · simp at h
    · rintro ⟨h1, _, h3⟩
      have e : r = [] := List.length_eq_zero_iff.mp h1
      subst e
      have e2 : c = 0 := h3.symm
      rw [if_pos e2]
      simp
  | n + 1, c, r => by
    unfold patF
    rw [List.mem_append, List.mem_map, List.mem_map]
    constructor
    · rintro (⟨q, hq, rfl⟩ | ⟨q, hq, rfl⟩)
      · obtain ⟨h1, h2, h3⟩ := mem_pat.mp hq
        refine ⟨by simp [h1], fun x hx => ?_, by simp [h3]⟩
        rcases List.mem_cons.mp hx with e | hx
        · exact .inl e
        · exact h2 x hx
      · obtain ⟨h1, h2, h3⟩ := mem_pat.mp hq
        refine ⟨by simp [h1], fun x hx => ?_, by rw [List.sum_cons, h3]; omega⟩
        rcases List.mem_cons.mp hx with e | hx
        · exact .inr e
        · exact h2 x hx
    · rintro ⟨h1, h2, h3⟩
      cases r with
      | nil => simp at h1
      | cons x q =>
        have hq1 : q.length = n := by simpa using h1
        have hq2 : Is01 q := fun y hy => h2 y (List.mem_cons_of_mem _ hy)
        rw [List.sum_cons] at h3
        rcases h2 x List.mem_cons_self with e | e
        · subst e
          exact .inl ⟨q, mem_pat.mpr ⟨hq1, hq2, by omega⟩, rfl⟩
        · subst e
          exact .inr ⟨q, mem_pat.mpr ⟨hq1, hq2, by omega⟩, rfl⟩
theorem pat_len {n : Nat} {c : Int} {r : List Int} (h : r ∈ patF c n) : r.length = n := (mem_pat.mp h).1
/-- the order of rows, of boards -/
def ltI : List Int → List Int → Bool
  | _, [] => false
  | [], _ :: _ => true
  | a :: as, b :: bs => decide (a < b) || (decide (a = b) && ltI as bs)
def ltBd : List (List Int) → List (List Int) → Bool
  | _, [] => false
  | [], _ :: _ => true
  | a :: as, b :: bs => ltI a b || (decide (a = b) && ltBd as bs)
theorem ltI_irr : ∀ a : List Int, ltI a a = false
  | [] => rfl
  | a :: as => by
    unfold ltI
    rw [ltI_irr as]
    simp
theorem ltI_trans : ∀ {a b c : List Int}, ltI a b = true → ltI b c = true → ltI a c = true
  | _, [], _, h, _ => by simp [ltI] at h
  | _, _ :: _, [], _, h => by simp [ltI] at h
  | [], _ :: _, _ :: _, _, _ => by simp [ltI]
  | a :: as, b :: bs, c :: cs, h1, h2 => by
    unfold ltI at h1 h2 ⊢
    simp only [Bool.or_eq_true, Bool.and_eq_true, decide_eq_true_eq] at h1 h2 ⊢
    rcases h1 with h1 | ⟨e1, h1⟩
    · rcases h2 with h2 | ⟨e2, h2⟩
      · left; omega
      · left; omega
    · rcases h2 with h2 | ⟨e2, h2⟩
      · left; omega
      · right; exact ⟨by omega, ltI_trans h1 h2⟩
theorem ltI_tri : ∀ a b : List Int, ltI a b = true ∨ a = b ∨ ltI b a = true
  | [], [] => .inr (.inl rfl)
  | [], _ :: _ => .inl rfl
  | _ :: _, [] => .inr (.inr rfl)
  | a :: as, b :: bs => by
    unfold ltI
    simp only [Bool.or_eq_true, Bool.and_eq_true, decide_eq_true_eq]
    by_cases h : a < b
    · exact .inl (.inl h)
    by_cases h2 : b < a
    · exact .inr (.inr (.inl h2))
    have e : a = b := by omega
    subst e
    rcases ltI_tri as bs with h | h | h
    · exact .inl (.inr ⟨rfl, h⟩)
    · exact .inr (.inl (by rw [h]))
    · exact .inr (.inr (.inr ⟨rfl, h⟩))
theorem ltBd_irr : ∀ a : List (List Int), ltBd a a = false
  | [] => rfl
  | a :: as => by
    unfold ltBd
    rw [ltBd_irr as, ltI_irr]
    simp
theorem ltBd_trans : ∀ {a b c : List (List Int)}, ltBd a b = true → ltBd b c = true → ltBd a c = true
  | _, [], _, h, _ => by simp [ltBd] at h
  | _, _ :: _, [], _, h => by simp [ltBd] at h
  | [], _ :: _, _ :: _, _, _ => by simp [ltBd]
  | a :: as, b :: bs, c :: cs, h1, h2 => by
    unfold ltBd at h1 h2 ⊢
    simp only [Bool.or_eq_true, Bool.and_eq_true, decide_eq_true_eq] at h1 h2 ⊢
    rcases h1 with h1 | ⟨e1, h1⟩
    · rcases h2 with h2 | ⟨e2, h2⟩
      · exact .inl (ltI_trans h1 h2)
      · subst e2; exact .inl h1
    · subst e1
      rcases h2 with h2 | ⟨e2, h2⟩
      · exact .inl h2
      · exact .inr ⟨e2, ltBd_trans h1 h2⟩
theorem ltBd_tri : ∀ a b : List (List Int), ltBd a b = true ∨ a = b ∨ ltBd b a = true
  | [], [] => .inr (.inl rfl)
  | [], _ :: _ => .inl rfl
  | _ :: _, [] => .inr (.inr rfl)
  | a :: as, b :: bs => by
    unfold ltBd
    simp only [Bool.or_eq_true, Bool.and_eq_true, decide_eq_true_eq]
    rcases ltI_tri a b with h | h | h
    · exact .inl (.inl h)
    · subst h
      rcases ltBd_tri as bs with h | h | h
      · exact .inl (.inr ⟨rfl, h⟩)
      · exact .inr (.inl (by rw [h]))
      · exact .inr (.inr (.inr ⟨rfl, h⟩))
    · exact .inr (.inr (.inl h))
theorem ltI_cons {x : Int} {a b : List Int} : ltI (x :: a) (x :: b) = ltI a b := by
  show (decide (x < x) || (decide (x = x) && ltI a b)) = ltI a b
  simp
theorem ltBd_cons {x : List Int} {a b : List (List Int)} : ltBd (x :: a) (x :: b) = ltBd a b := by
  show (ltI x x || (decide (x = x) && ltBd a b)) = ltBd a b
  simp [ltI_irr]
theorem pat_sorted : ∀ (n : Nat) (c : Int), (patF c n).Pairwise fun a b => ltI a b = true
  | 0, c => by
    unfold patF
    split <;> simp
  | n + 1, c => by
    unfold patF
    rw [List.pairwise_append, List.pairwise_map, List.pairwise_map]
    refine ⟨(pat_sorted n c).imp fun h => by rw [ltI_cons]; exact h, (pat_sorted n (c - 1)).imp fun h => by rw [ltI_cons]; exact h, fun a ha b hb => ?_⟩
    obtain ⟨p, _, rfl⟩ := List.mem_map.mp ha
    obtain ⟨q, _, rfl⟩ := List.mem_map.mp hb
    rfl
/-! ### what a row leaves -/
def subF (cols p : List Int) : List Int := List.zipWith (· - ·) cols p
def okF (l : List Int) : Bool := l.all fun x => decide (0 ≤ x)
theorem okF_iff {l : List Int} : okF l = true ↔ ∀ x ∈ l, 0 ≤ x := by
  unfold okF
  rw [List.all_eq_true]
  simp
theorem subF_len {cols p : List Int} (h : p.length = cols.length) : (subF cols p).length = cols.length := by
  unfold subF
  rw [List.length_zipWith, h, Nat.min_self]
theorem zw_sub_get {xs ys : List Int} {k : Nat} (h1 : k < xs.length) (h2 : k < ys.length) : (subF xs ys).getD k 0 = xs.getD k 0 - ys.getD k 0 := by
  unfold subF
  rw [List.getD_eq_getElem?_getD, List.getD_eq_getElem?_getD, List.getD_eq_getElem?_getD, List.getElem?_zipWith, List.getElem?_eq_getElem h1, List.getElem?_eq_getElem h2]
  rfl
theorem subF_sum : ∀ {xs ys : List Int}, ys.length = xs.length → (subF xs ys).sum = xs.sum - ys.sum
  | [], [], _ => rfl
  | [], _ :: _, h => by simp at h
  | _ :: _, [], h => by simp at h
  | x :: xs, y :: ys, h => by
    have := subF_sum (xs := xs) (ys := ys) (by simpa using h)
    unfold subF at this ⊢
    rw [List.zipWith_cons_cons, List.sum_cons, List.sum_cons, List.sum_cons, this]
    omega
/-! ### boards -/
def brdF : List Int → List Int → List (List (List Int))
  | [], cols => if cols.sum = 0 then [[]] else []
  | r :: rs, cols => (patF r cols.length).flatMap fun p => if okF (subF cols p) then (brdF rs (subF cols p)).map (List.cons p) else []
def waysF (rows cols : List Int) : Nat := (brdF rows cols).length
/-- the sum of a column -/
def csum (b : List (List Int)) (k : Nat) : Int := (b.map fun row => row.getD k 0).sum
theorem csum_cons {p : List Int} {b : List (List Int)} {k : Nat} : csum (p :: b) k = p.getD k 0 + csum b k := by
  unfold csum
  rw [List.map_cons, List.sum_cons]
theorem csum_nonneg {b : List (List Int)} {k : Nat} (h : ∀ row ∈ b, Is01 row) : 0 ≤ csum b k := by
  induction b with
  | nil => exact Int.le_refl 0
  | cons p b ih =>
    rw [csum_cons]
    have h1 := ih fun row hr => h row (List.mem_cons_of_mem _ hr)
    have h2 : 0 ≤ p.getD k 0 := by
      rw [List.getD_eq_getElem?_getD]
      cases e : p[k]? with
      | none => exact Int.le_refl 0
      | some x =>
        show (0 : Int) ≤ x
        rcases h p List.mem_cons_self x (List.mem_of_getElem? e) with h | h <;> omega
    omega
/-- a board of these counts -/
structure IsOf (rows cols : List Int) (b : List (List Int)) : Prop where
  ln : b.length = rows.length
  row : ∀ r ∈ b, r.length = cols.length ∧ Is01 r
  rs : b.map List.sum = rows
  cs : ∀ k, k < cols.length → csum b k = cols.getD k 0
theorem sum_zero {l : List Int} (h : ∀ x ∈ l, 0 ≤ x) (hs : l.sum = 0) : ∀ x ∈ l, x = 0 := by
  induction l with
  | nil => simp
  | cons a l ih =>
    have hn : ∀ l : List Int, (∀ x ∈ l, 0 ≤ x) → 0 ≤ l.sum := fun l => by
      induction l with
      | nil => intro _; exact Int.le_refl 0
      | cons a l ih => intro h; rw [List.sum_cons]; have := ih fun x hx => h x (List.mem_cons_of_mem _ hx); have := h a List.mem_cons_self; omega
    rw [List.sum_cons] at hs
    have h1 := hn l fun x hx => h x (List.mem_cons_of_mem _ hx)
    have h2 := h a List.mem_cons_self
    intro x hx
    rcases List.mem_cons.mp hx with e | hx
    · omega
    · exact ih (fun x hx => h x (List.mem_cons_of_mem _ hx)) (by omega) x hx
theorem sum_of_zero {l : List Int} (h : ∀ x ∈ l, x = 0) : l.sum = 0 := by
  induction l with
  | nil => rfl
  | cons a l ih => rw [List.sum_cons, ih fun x hx => h x (List.mem_cons_of_mem _ hx), h a List.mem_cons_self]; rfl
theorem getD_mem {l : List Int} {k : Nat} (h : k < l.length) : l.getD k 0 ∈ l := by
  rw [List.getD_eq_getElem?_getD, List.getElem?_eq_getElem h]
  exact List.getElem_mem h
theorem mem_getD {l : List Int} {x : Int} (h : x ∈ l) : ∃ k, k < l.length ∧ l.getD k 0 = x := by
  obtain ⟨k, hk, e⟩ := List.getElem_of_mem h
  exact ⟨k, hk, by rw [List.getD_eq_getElem?_getD, List.getElem?_eq_getElem hk, e]; rfl⟩
theorem mem_brd : ∀ {rows cols : List Int} {b : List (List Int)}, (∀ c ∈ cols, 0 ≤ c) → (b ∈ brdF rows cols ↔ IsOf rows cols b)
  | [], cols, b, h => by
    unfold brdF
    constructor
    · intro hb
      split at hb
      · rename_i hs
        have e : b = [] := by simpa using hb
        subst e
        refine ⟨rfl, fun r hr => by simp at hr, rfl, fun k hk => ?_⟩
        rw [sum_zero h hs _ (getD_mem hk)]
        rfl
      · simp at hb
    · intro hb
      have e : b = [] := List.length_eq_zero_iff.mp hb.ln
      subst e
      rw [if_pos]
      · simp
      · refine sum_of_zero fun x hx => ?_
        obtain ⟨k, hk, e⟩ := mem_getD hx
        rw [← e, ← hb.cs k hk]
        rfl
  | r :: rs, cols, b, h => by
    unfold brdF
    rw [List.mem_flatMap]
    constructor
    · rintro ⟨p, hp, hb⟩
      obtain ⟨p1, p2, p3⟩ := mem_pat.mp hp
      split at hb
      · rename_i ho
        obtain ⟨b', hb', rfl⟩ := List.mem_map.mp hb
        have hI := (mem_brd (okF_iff.mp ho)).mp hb'
        have hl := subF_len p1
        refine ⟨by simp [hI.ln], fun q hq => ?_, by rw [List.map_cons, hI.rs, p3], fun k hk => ?_⟩
        · rcases List.mem_cons.mp hq with e | hq
          · rw [e]; exact ⟨p1, p2⟩
          · have := hI.row q hq
            rw [hl] at this
            exact this
        · rw [csum_cons, hI.cs k (by omega), zw_sub_get hk (by omega)]
          omega
      · simp at hb
    · intro hb
      cases b with
      | nil => have := hb.ln; simp at this
      | cons p b' =>
        have hp := hb.row p List.mem_cons_self
        have hrs := hb.rs
        rw [List.map_cons, List.cons.injEq] at hrs
        have hl := subF_len hp.1
        have h01 : ∀ row ∈ b', Is01 row := fun row hr => (hb.row row (List.mem_cons_of_mem _ hr)).2
        have hsub : ∀ k, k < cols.length → csum b' k = (subF cols p).getD k 0 := fun k hk => by
          have := hb.cs k hk
          rw [csum_cons] at this
          rw [zw_sub_get hk (by omega)]
          omega
        have hok : okF (subF cols p) = true := okF_iff.mpr fun x hx => by
          obtain ⟨k, hk, e⟩ := mem_getD hx
          rw [← e, ← hsub k (by omega)]
          exact csum_nonneg h01
        refine ⟨p, mem_pat.mpr ⟨hp.1, hp.2, hrs.1⟩, ?_⟩
        rw [if_pos hok]
        refine List.mem_map.mpr ⟨b', (mem_brd (okF_iff.mp hok)).mpr ⟨?_, fun q hq => ?_, hrs.2, fun k hk => hsub k (by omega)⟩, rfl⟩
        · have := hb.ln
          simpa using this
        · rw [hl]
          exact hb.row q (List.mem_cons_of_mem _ hq)
theorem pairwise_flatMap' {α β : Type} {R : β → β → Prop} {f : α → List β} : ∀ {l : List α}, (∀ a ∈ l, (f a).Pairwise R) → l.Pairwise (fun a b => ∀ x ∈ f a, ∀ y ∈ f b, R x y) → (l.flatMap f).Pairwise R
  | [], _, _ => by simp
  | a :: l, h1, h2 => by
    rw [List.flatMap_cons, List.pairwise_append]
    rw [List.pairwise_cons] at h2
    refine ⟨h1 a List.mem_cons_self, pairwise_flatMap' (fun b hb => h1 b (List.mem_cons_of_mem _ hb)) h2.2, fun x hx y hy => ?_⟩
    obtain ⟨b, hb, hy⟩ := List.mem_flatMap.mp hy
    exact h2.1 b hb x hx y hy
theorem brd_sorted : ∀ (rows cols : List Int), (brdF rows cols).Pairwise fun a b => ltBd a b = true
  | [], cols => by
    unfold brdF
    split <;> simp
  | r :: rs, cols => by
    unfold brdF
    refine pairwise_flatMap' (fun p _ => ?_) ?_
    · split
      · rw [List.pairwise_map]
        exact (brd_sorted rs _).imp fun h => by rw [ltBd_cons]; exact h
      · simp
    · refine (pat_sorted cols.length r).imp fun {p q} h x hx y hy => ?_
      split at hx
      · split at hy
        · obtain ⟨x', _, rfl⟩ := List.mem_map.mp hx
          obtain ⟨y', _, rfl⟩ := List.mem_map.mp hy
          show (ltI p q || (decide (p = q) && ltBd x' y')) = true
          rw [h]
          rfl
        · simp at hy
      · simp at hx
theorem brd_nodup (rows cols : List Int) : (brdF rows cols).Nodup := (brd_sorted rows cols).imp fun {a b} h e => by
  subst e
  rw [ltBd_irr] at h
  cases h
theorem pat_nodup (n : Nat) (c : Int) : (patF c n).Nodup := (pat_sorted n c).imp fun {a b} h e => by
  subst e
  rw [ltI_irr] at h
  cases h
/-! ### counting by going there and back -/
theorem length_le_of_inj {α β : Type} {l : List α} {m : List β} (f : α → β) (hn : l.Nodup) (hf : ∀ a ∈ l, f a ∈ m) (hi : ∀ a ∈ l, ∀ b ∈ l, f a = f b → a = b) : l.length ≤ m.length := by
  induction l generalizing m with
  | nil => exact Nat.zero_le _
  | cons a l ih =>
    have hm := hf a List.mem_cons_self
    obtain ⟨s, t, rfl⟩ := List.append_of_mem hm
    rw [List.nodup_cons] at hn
    have := ih (m := s ++ t) hn.2 (fun b hb => by
      have h1 := hf b (List.mem_cons_of_mem _ hb)
      have hne : f b ≠ f a := fun e => hn.1 (by rw [← hi b (List.mem_cons_of_mem _ hb) a List.mem_cons_self e]; exact hb)
      rw [List.mem_append, List.mem_cons] at h1
      rw [List.mem_append]
      rcases h1 with h | h | h
      · exact .inl h
      · exact absurd h hne
      · exact .inr h) (fun b hb c hc => hi b (List.mem_cons_of_mem _ hb) c (List.mem_cons_of_mem _ hc))
    rw [List.length_append] at this
    rw [List.length_cons, List.length_append, List.length_cons]
    omega
theorem perm_of_same {α : Type} {l m : List α} (hl : l.Nodup) (hm : m.Nodup) (h : ∀ x, x ∈ l ↔ x ∈ m) : l.Perm m := by
  induction l generalizing m with
  | nil =>
    cases m with
    | nil => exact .nil
    | cons x m => have := (h x).mpr List.mem_cons_self; simp at this
  | cons a l ih =>
    have ha := (h a).mp List.mem_cons_self
    obtain ⟨s, t, rfl⟩ := List.append_of_mem ha
    rw [List.nodup_cons] at hl
    have hm' : (a :: (s ++ t)).Nodup := (List.perm_middle.nodup_iff).mp hm
    rw [List.nodup_cons] at hm'
    refine (List.Perm.cons a (ih hl.2 hm'.2 fun x => ?_)).trans List.perm_middle.symm
    have hx := h x
    constructor
    · intro hx1
      have := hx.mp (List.mem_cons_of_mem _ hx1)
      rw [List.mem_append, List.mem_cons] at this
      rw [List.mem_append]
      rcases this with h | h | h
      · exact .inl h
      · subst h; exact absurd hx1 hl.1
      · exact .inr h
    · intro hx1
      have h1 : x ∈ s ++ a :: t := by
        rw [List.mem_append] at hx1
        rw [List.mem_append, List.mem_cons]
        rcases hx1 with h | h
        · exact .inl h
        · exact .inr (.inr h)
      rcases List.mem_cons.mp (hx.mpr h1) with e | h2
      · subst e; exact absurd hx1 hm'.1
      · exact h2
/-- two ordered lists of the same things are one -/
theorem sorted_eq {α : Type} {R : α → α → Prop} (irr : ∀ a, ¬ R a a) (tr : ∀ a b c, R a b → R b c → R a c) : ∀ {l m : List α}, l.Pairwise R → m.Pairwise R → (∀ x, x ∈ l ↔ x ∈ m) → l = m
  | [], [], _, _, _ => rfl
  | [], y :: m, _, _, h => by have := (h y).mpr List.mem_cons_self; simp at this
  | x :: l, [], _, _, h => by have := (h x).mp List.mem_cons_self; simp at this
  | x :: l, y :: m, h1, h2, h => by
    rw [List.pairwise_cons] at h1 h2
    have e : x = y := by
      rcases List.mem_cons.mp ((h x).mp List.mem_cons_self) with e | hx
      · exact e
      · rcases List.mem_cons.mp ((h y).mpr List.mem_cons_self) with e | hy
        · exact e.symm
        · exact absurd (tr _ _ _ (h1.1 y hy) (h2.1 x hx)) (irr x)
    subst e
    rw [sorted_eq irr tr h1.2 h2.2 fun z => ?_]
    have hz := h z
    constructor
    · intro hz1
      rcases List.mem_cons.mp (hz.mp (List.mem_cons_of_mem _ hz1)) with e | h3
      · subst e; exact absurd (h1.1 z hz1) (irr z)
      · exact h3
    · intro hz1
      rcases List.mem_cons.mp (hz.mpr (List.mem_cons_of_mem _ hz1)) with e | h3
      · subst e; exact absurd (h2.1 z hz1) (irr z)
      · exact h3
theorem length_flatMap' {α β : Type} {f : α → List β} (l : List α) : (l.flatMap f).length = (l.map fun a => (f a).length).sum := by
  induction l with
  | nil => rfl
  | cons a l ih => rw [List.flatMap_cons, List.length_append, ih, List.map_cons, List.sum_cons]
/-- the recursion of the program -/
theorem ways_nil {cols : List Int} : waysF [] cols = if cols.sum = 0 then 1 else 0 := by
  unfold waysF brdF
  split <;> rfl
theorem ways_cons {r : Int} {rs cols : List Int} : waysF (r :: rs) cols = ((patF r cols.length).map fun p => if okF (subF cols p) then waysF rs (subF cols p) else 0).sum := by
  show ((patF r cols.length).flatMap _).length = _
  rw [length_flatMap']
  refine congrArg List.sum (List.map_congr_left fun p _ => ?_)
  split
  · rw [List.length_map]; rfl
  · rfl
theorem csum_total {n : Nat} : ∀ {b : List (List Int)}, (∀ r ∈ b, r.length = n) → ((List.range n).map (csum b)).sum = (b.map List.sum).sum := by
  have hr : ∀ (n : Nat) (r : List Int), r.length = n → ((List.range n).map fun k => r.getD k 0).sum = r.sum := fun n r h => by
    congr 1
    refine List.ext_getElem? fun i => ?_
    rw [List.getElem?_map]
    by_cases hi : i < n
    · rw [List.getElem?_range hi]
      show some (r.getD i 0) = _
      rw [List.getD_eq_getElem?_getD, List.getElem?_eq_getElem (by omega)]
      rfl
    · rw [List.getElem?_eq_none (by rw [List.length_range]; omega), List.getElem?_eq_none (by omega)]
      rfl
  have ha : ∀ (l : List Nat) (f g : Nat → Int), (l.map fun k => f k + g k).sum = (l.map f).sum + (l.map g).sum := fun l f g => by
    induction l with
    | nil => rfl
    | cons a l ih => simp only [List.map_cons, List.sum_cons, ih]; omega
  intro b
  induction b with
  | nil =>
    intro _
    show ((List.range n).map fun _ => (0 : Int)).sum = 0
    refine sum_of_zero fun x hx => ?_
    obtain ⟨_, _, e⟩ := List.mem_map.mp hx
    exact e.symm
  | cons p b ih =>
    intro h
    have : (fun k => csum (p :: b) k) = fun k => p.getD k 0 + csum b k := funext fun k => csum_cons
    show ((List.range n).map fun k => csum (p :: b) k).sum = _
    rw [this, ha, hr n p (h p List.mem_cons_self)]
    show p.sum + ((List.range n).map (csum b)).sum = _
    rw [ih fun r hr => h r (List.mem_cons_of_mem _ hr), List.map_cons, List.sum_cons]
theorem range_getD (l : List Int) : (List.range l.length).map (fun k => l.getD k 0) = l := by
  refine List.ext_getElem? fun i => ?_
  rw [List.getElem?_map]
  by_cases hi : i < l.length
  · rw [List.getElem?_range hi]
    show some (l.getD i 0) = _
    rw [List.getD_eq_getElem?_getD, List.getElem?_eq_getElem hi]
    rfl
  · rw [List.getElem?_eq_none (by rw [List.length_range]; omega), List.getElem?_eq_none (by omega)]
    rfl
theorem IsOf.total {rows cols : List Int} {b : List (List Int)} (h : IsOf rows cols b) : rows.sum = cols.sum := by
  have h1 := csum_total (n := cols.length) (b := b) fun r hr => (h.row r hr).1
  rw [h.rs] at h1
  rw [← h1, ← congrArg List.sum (range_getD cols)]
  refine congrArg List.sum (List.map_congr_left fun k hk => h.cs k (List.mem_range.mp hk))
theorem ways_unlike {rows cols : List Int} (hc : ∀ c ∈ cols, 0 ≤ c) (h : rows.sum ≠ cols.sum) : waysF rows cols = 0 := by
  unfold waysF
  cases e : brdF rows cols with
  | nil => rfl
  | cons b l => exact absurd ((mem_brd hc).mp (by rw [e]; exact List.mem_cons_self)).total h
end MK

namespace MK
/-! ### the same counts otherwise told -/
def swap2 : List (List Int) → List (List Int)
  | p :: q :: r => q :: p :: r
  | x => x
theorem csum_swap {b : List (List Int)} {k : Nat} : csum (swap2 b) k = csum b k := by
  match b with
  | [] => rfl
  | [_] => rfl
  | p :: q :: r =>
    show csum (q :: p :: r) k = _
    rw [csum_cons, csum_cons, csum_cons, csum_cons]
    omega
theorem isOf_swap {a b : Int} {rs cols : List Int} {x : List (List Int)} (h : IsOf (a :: b :: rs) cols x) : IsOf (b :: a :: rs) cols (swap2 x) := by
  match x, h with
  | [], h => have := h.ln; simp at this
  | [_], h => have := h.ln; simp at this
  | p :: q :: r, h =>
    have hr := h.rs
    simp only [List.map_cons, List.cons.injEq] at hr
    refine ⟨by have := h.ln; show (q :: p :: r).length = _; simpa using this, fun row hrow => h.row row ?_, by show q.sum :: p.sum :: r.map List.sum = _; rw [hr.1, hr.2.1, hr.2.2], fun k hk => by rw [csum_swap]; exact h.cs k hk⟩
    have : row = q ∨ row = p ∨ row ∈ r := by simpa using (show row ∈ q :: p :: r from hrow)
    rcases this with e | e | e
    · rw [e]; simp
    · rw [e]; simp
    · simp [e]
theorem swap2_inj {x y : List (List Int)} (hx : 2 ≤ x.length) (hy : 2 ≤ y.length) (h : swap2 x = swap2 y) : x = y := by
  match x, y, hx, hy with
  | p :: q :: r, p' :: q' :: r', _, _ =>
    have h' : q :: p :: r = q' :: p' :: r' := h
    simp only [List.cons.injEq] at h'
    rw [h'.1, h'.2.1, h'.2.2]
theorem ways_swap_le {a b : Int} {rs cols : List Int} (hc : ∀ c ∈ cols, 0 ≤ c) : waysF (a :: b :: rs) cols ≤ waysF (b :: a :: rs) cols := by
  refine length_le_of_inj swap2 (brd_nodup _ _) (fun x hx => (mem_brd hc).mpr (isOf_swap ((mem_brd hc).mp hx))) (fun x hx y hy e => swap2_inj ?_ ?_ e)
  · rw [((mem_brd hc).mp hx).ln]; simp
  · rw [((mem_brd hc).mp hy).ln]; simp
theorem ways_swap {a b : Int} {rs cols : List Int} (hc : ∀ c ∈ cols, 0 ≤ c) : waysF (a :: b :: rs) cols = waysF (b :: a :: rs) cols := Nat.le_antisymm (ways_swap_le hc) (ways_swap_le hc)
theorem ways_perm_rows {rows rows' : List Int} (h : rows.Perm rows') : ∀ {cols : List Int}, (∀ c ∈ cols, 0 ≤ c) → waysF rows cols = waysF rows' cols := by
  induction h with
  | nil => intro _ _; rfl
  | cons x _ ih =>
    intro cols hc
    rw [ways_cons, ways_cons]
    refine congrArg List.sum (List.map_congr_left fun p _ => ?_)
    split
    · rename_i ho
      exact ih (okF_iff.mp ho)
    · rfl
  | swap x y l => intro cols hc; exact ways_swap hc
  | trans _ _ ih1 ih2 => intro cols hc; exact (ih1 hc).trans (ih2 hc)
/-! ### rows and columns exchanged -/
def turnF (n : Nat) (b : List (List Int)) : List (List Int) := (List.range n).map fun k => b.map fun row => row.getD k 0
theorem getD_map {b : List (List Int)} {k i : Nat} : (b.map fun row => row.getD k 0).getD i 0 = (b.getD i []).getD k 0 := by
  rw [List.getD_eq_getElem?_getD, List.getElem?_map, List.getD_eq_getElem?_getD (l := b)]
  cases b[i]? with
  | none => rfl
  | some r => rfl
theorem rangeL_getD {b : List (List Int)} : (List.range b.length).map (fun k => b.getD k []) = b := by
  refine List.ext_getElem? fun i => ?_
  rw [List.getElem?_map]
  by_cases hi : i < b.length
  · rw [List.getElem?_range hi]
    show some (b.getD i []) = _
    rw [List.getD_eq_getElem?_getD, List.getElem?_eq_getElem hi]
    rfl
  · rw [List.getElem?_eq_none (by rw [List.length_range]; omega), List.getElem?_eq_none (by omega)]
    rfl
theorem mem_getDL {b : List (List Int)} {i : Nat} (h : i < b.length) : b.getD i [] ∈ b := by
  rw [List.getD_eq_getElem?_getD, List.getElem?_eq_getElem h]
  exact List.getElem_mem h
theorem turn_turn {n : Nat} {b : List (List Int)} (h : ∀ r ∈ b, r.length = n) : turnF b.length (turnF n b) = b := by
  unfold turnF
  refine Eq.trans (List.map_congr_left fun i hi => ?_) rangeL_getD
  have hi := List.mem_range.mp hi
  rw [List.map_map]
  have hl := h _ (mem_getDL hi)
  refine Eq.trans ?_ (range_getD (b.getD i []))
  rw [hl]
  refine List.map_congr_left fun k hk => ?_
  show (b.map fun row => row.getD k 0).getD i 0 = _
  rw [getD_map]
theorem isOf_turn {rows cols : List Int} {b : List (List Int)} (h : IsOf rows cols b) : IsOf cols rows (turnF cols.length b) := by
  refine ⟨by unfold turnF; rw [List.length_map, List.length_range], fun r hr => ?_, ?_, fun i hi => ?_⟩
  · unfold turnF at hr
    obtain ⟨k, hk, rfl⟩ := List.mem_map.mp hr
    have hk := List.mem_range.mp hk
    refine ⟨by rw [List.length_map, h.ln], fun x hx => ?_⟩
    obtain ⟨q, hq, rfl⟩ := List.mem_map.mp hx
    have := h.row q hq
    exact this.2 _ (getD_mem (by omega))
  · unfold turnF
    rw [List.map_map]
    refine Eq.trans (List.map_congr_left fun k hk => ?_) (range_getD cols)
    exact h.cs k (List.mem_range.mp hk)
  · have hb : i < b.length := by rw [h.ln]; exact hi
    have e : csum (turnF cols.length b) i = (b.getD i []).sum := by
      unfold csum turnF
      rw [List.map_map]
      have hl := (h.row _ (mem_getDL hb)).1
      have hg := range_getD (b.getD i [])
      rw [hl] at hg
      refine Eq.trans (congrArg List.sum (List.map_congr_left (g := fun k => (b.getD i []).getD k 0) fun k hk => ?_)) (congrArg List.sum hg)
      exact getD_map
    rw [e, ← h.rs, List.getD_eq_getElem?_getD, List.getD_eq_getElem?_getD, List.getElem?_map, List.getElem?_eq_getElem hb]
    rfl
theorem ways_turn_le {rows cols : List Int} (hc : ∀ c ∈ cols, 0 ≤ c) (hr : ∀ r ∈ rows, 0 ≤ r) : waysF rows cols ≤ waysF cols rows := by
  refine length_le_of_inj (turnF cols.length) (brd_nodup _ _) (fun x hx => (mem_brd hr).mpr (isOf_turn ((mem_brd hc).mp hx))) (fun x hx y hy e => ?_)
  have h1 := (mem_brd hc).mp hx
  have h2 := (mem_brd hc).mp hy
  rw [← turn_turn (n := cols.length) (b := x) fun r hr => (h1.row r hr).1, ← turn_turn (n := cols.length) (b := y) fun r hr => (h2.row r hr).1, e, h1.ln, h2.ln]
theorem ways_turn {rows cols : List Int} (hc : ∀ c ∈ cols, 0 ≤ c) (hr : ∀ r ∈ rows, 0 ≤ r) : waysF rows cols = waysF cols rows := Nat.le_antisymm (ways_turn_le hc hr) (ways_turn_le hr hc)
theorem ways_perm_cols {rows cols cols' : List Int} (h : cols.Perm cols') (hc : ∀ c ∈ cols, 0 ≤ c) (hr : ∀ r ∈ rows, 0 ≤ r) : waysF rows cols = waysF rows cols' := by
  rw [ways_turn hc hr, ways_perm_rows h hr, ways_turn (fun c hx => hc c (h.mem_iff.mpr hx)) hr]
/-! ### marks and empty cells exchanged -/
def flipF (b : List (List Int)) : List (List Int) := b.map fun row => row.map fun x => 1 - x
theorem sum_flip : ∀ (r : List Int), (r.map fun x => 1 - x).sum = (r.length : Int) - r.sum
  | [] => rfl
  | x :: r => by rw [List.map_cons, List.sum_cons, sum_flip r, List.sum_cons, List.length_cons]; omega
theorem csum_flip {n : Nat} {k : Nat} (hk : k < n) : ∀ {b : List (List Int)}, (∀ r ∈ b, r.length = n) → csum (flipF b) k = (b.length : Int) - csum b k
  | [], _ => rfl
  | p :: b, h => by
    have h1 := csum_flip hk (b := b) fun r hr => h r (List.mem_cons_of_mem _ hr)
    have hp := h p List.mem_cons_self
    show csum ((p.map fun x => 1 - x) :: flipF b) k = _
    rw [csum_cons, csum_cons, h1, List.length_cons]
    have : (p.map fun x => 1 - x).getD k 0 = 1 - p.getD k 0 := by
      rw [List.getD_eq_getElem?_getD, List.getD_eq_getElem?_getD, List.getElem?_map, List.getElem?_eq_getElem (by omega)]
      rfl
    rw [this]
    omega
theorem flip_flip {b : List (List Int)} : flipF (flipF b) = b := by
  unfold flipF
  rw [List.map_map]
  refine Eq.trans (List.map_congr_left fun r _ => ?_) (List.map_id b)
  show (r.map fun x => 1 - x).map (fun x => 1 - x) = r
  rw [List.map_map]
  refine Eq.trans (List.map_congr_left fun x _ => ?_) (List.map_id r)
  show 1 - (1 - x) = x
  omega
theorem isOf_flip {rows cols : List Int} {b : List (List Int)} (h : IsOf rows cols b) : IsOf (rows.map fun r => (cols.length : Int) - r) (cols.map fun c => (rows.length : Int) - c) (flipF b) := by
  refine ⟨by unfold flipF; rw [List.length_map, List.length_map, h.ln], fun r hr => ?_, ?_, fun k hk => ?_⟩
  · unfold flipF at hr
    obtain ⟨q, hq, rfl⟩ := List.mem_map.mp hr
    have := h.row q hq
    refine ⟨by rw [List.length_map, List.length_map, this.1], fun x hx => ?_⟩
    obtain ⟨y, hy, rfl⟩ := List.mem_map.mp hx
    rcases this.2 y hy with e | e <;> omega
  · unfold flipF
    rw [List.map_map, ← h.rs, List.map_map]
    refine List.map_congr_left fun r hr => ?_
    show (r.map fun x => 1 - x).sum = (cols.length : Int) - r.sum
    rw [sum_flip, (h.row r hr).1]
  · rw [List.length_map] at hk
    rw [csum_flip hk fun r hr => (h.row r hr).1, h.ln, h.cs k hk, List.getD_eq_getElem?_getD, List.getD_eq_getElem?_getD, List.getElem?_map, List.getElem?_eq_getElem hk]
    rfl
theorem ways_flip_le {rows cols : List Int} (hc : ∀ c ∈ cols, 0 ≤ c ∧ c ≤ rows.length) : waysF rows cols ≤ waysF (rows.map fun r => (cols.length : Int) - r) (cols.map fun c => (rows.length : Int) - c) := by
  refine length_le_of_inj flipF (brd_nodup _ _) (fun x hx => (mem_brd ?_).mpr (isOf_flip ((mem_brd fun c h => (hc c h).1).mp hx))) (fun x hx y hy e => by rw [← flip_flip (b := x), e, flip_flip])
  intro c h
  obtain ⟨d, hd, rfl⟩ := List.mem_map.mp h
  have := hc d hd
  omega
theorem flip_ints (n : Int) (l : List Int) : (l.map fun r => n - r).map (fun r => n - r) = l := by
  rw [List.map_map]
  refine Eq.trans (List.map_congr_left fun x _ => ?_) (List.map_id l)
  show n - (n - x) = x
  omega
theorem ways_flip {rows cols : List Int} (hc : ∀ c ∈ cols, 0 ≤ c ∧ c ≤ rows.length) : waysF (rows.map fun r => (cols.length : Int) - r) (cols.map fun c => (rows.length : Int) - c) = waysF rows cols := by
  refine Nat.le_antisymm ?_ (ways_flip_le hc)
  have := ways_flip_le (rows := rows.map fun r => (cols.length : Int) - r) (cols := cols.map fun c => (rows.length : Int) - c) fun c h => by
    obtain ⟨d, hd, rfl⟩ := List.mem_map.mp h
    have := hc d hd
    rw [List.length_map]
    omega
  rw [List.length_map, List.length_map, flip_ints, flip_ints] at this
  exact this
/-! ### where there is no board: Gale and Ryser -/
def capS (cols : List Int) (k : Int) : Int := (cols.map fun c => if c ≤ k then c else k).sum
theorem perm_sum {l m : List Int} (h : l.Perm m) : l.sum = m.sum := by
  induction h with
  | nil => rfl
  | cons x _ ih => rw [List.sum_cons, List.sum_cons, ih]
  | swap x y l => rw [List.sum_cons, List.sum_cons, List.sum_cons, List.sum_cons]; omega
  | trans _ _ h1 h2 => exact h1.trans h2
theorem capS_perm {l m : List Int} (h : l.Perm m) (k : Int) : capS l k = capS m k := perm_sum (h.map _)
theorem capS_app (u v : List Int) (k : Int) : capS (u ++ v) k = capS u k + capS v k := by
  unfold capS
  rw [List.map_append, List.sum_append]
theorem capS_cons (x : Int) (v : List Int) (k : Int) : capS (x :: v) k = (if x ≤ k then x else k) + capS v k := by
  unfold capS
  rw [List.map_cons, List.sum_cons]
theorem capS_low {t k : Int} (hk : k + 1 ≤ t) : ∀ {u : List Int}, (∀ x ∈ u, t ≤ x) → capS (u.map fun x => x - 1) k = capS u k
  | [], _ => rfl
  | x :: u, h => by
    have h1 := capS_low hk fun x hx => h x (List.mem_cons_of_mem _ hx)
    have hx := h x List.mem_cons_self
    rw [List.map_cons, capS_cons, capS_cons, h1]
    split <;> split <;> omega
theorem capS_high {k : Int} : ∀ {u : List Int}, capS (u.map fun x => x - 1) k = capS u (k + 1) - u.length
  | [] => rfl
  | x :: u => by
    rw [List.map_cons, capS_cons, capS_cons, capS_high (u := u), List.length_cons]
    split <;> split <;> omega
theorem capS_flat {t k : Int} (hk : t ≤ k) : ∀ {v : List Int}, (∀ y ∈ v, y ≤ t) → capS v (k + 1) = capS v k
  | [], _ => rfl
  | x :: v, h => by
    have h1 := capS_flat hk fun x hx => h x (List.mem_cons_of_mem _ hx)
    have hx := h x List.mem_cons_self
    rw [capS_cons, capS_cons, h1]
    split <;> split <;> omega
theorem capS_nonneg {k : Int} (hk : 0 ≤ k) : ∀ {v : List Int}, (∀ y ∈ v, 0 ≤ y) → 0 ≤ capS v k
  | [], _ => Int.le_refl 0
  | x :: v, h => by
    have h1 := capS_nonneg hk fun x hx => h x (List.mem_cons_of_mem _ hx)
    have hx := h x List.mem_cons_self
    rw [capS_cons]
    split <;> omega
theorem capS_one_le : ∀ {v : List Int}, capS v 1 ≤ v.length
  | [] => Int.le_refl 0
  | x :: v => by
    have h1 := capS_one_le (v := v)
    rw [capS_cons, List.length_cons]
    split <;> omega
theorem capS_one_lt : ∀ {v : List Int}, (0 : Int) ∈ v → capS v 1 + 1 ≤ v.length
  | x :: v, h => by
    rw [capS_cons, List.length_cons]
    rcases List.mem_cons.mp h with e | h
    · have h1 := capS_one_le (v := v)
      rw [← e]
      simp
      omega
    · have h1 := capS_one_lt h
      split <;> omega
theorem capS_zero {v : List Int} (h : ∀ y ∈ v, y = 0) : capS v 1 = 0 := by
  unfold capS
  refine sum_of_zero fun x hx => ?_
  obtain ⟨y, hy, rfl⟩ := List.mem_map.mp hx
  rw [h y hy]
  rfl
theorem le_sum_nat : ∀ {l : List Nat} {x : Nat}, x ∈ l → x ≤ l.sum
  | a :: l, x, h => by
    rw [List.sum_cons]
    rcases List.mem_cons.mp h with e | h
    · omega
    · have := le_sum_nat h
      omega
theorem ways_step {a : Int} {rs cols p : List Int} (hp : p ∈ patF a cols.length) (ho : okF (subF cols p) = true) : waysF rs (subF cols p) ≤ waysF (a :: rs) cols := by
  rw [ways_cons]
  refine le_sum_nat (List.mem_map.mpr ⟨p, hp, ?_⟩)
  rw [if_pos ho]
theorem sub_left : ∀ (u v : List Int), subF (u ++ v) (List.replicate u.length 1 ++ List.replicate v.length 0) = (u.map fun x => x - 1) ++ v
  | [], v => by
    show subF v (List.replicate v.length 0) = v
    induction v with
    | nil => rfl
    | cons x v ih =>
      unfold subF at ih ⊢
      rw [List.length_cons, List.replicate_succ, List.zipWith_cons_cons, ih]
      simp
  | x :: u, v => by
    have := sub_left u v
    unfold subF at this ⊢
    rw [List.length_cons, List.replicate_succ, List.cons_append, List.cons_append, List.zipWith_cons_cons, this]
    rfl
theorem exists_least : ∀ {u : List Int}, u ≠ [] → ∃ t ∈ u, ∀ x ∈ u, t ≤ x
  | [], h => absurd rfl h
  | [x], _ => ⟨x, by simp, by simp⟩
  | x :: y :: u, _ => by
    obtain ⟨t, ht, hl⟩ := exists_least (u := y :: u) (by simp)
    by_cases h : x ≤ t
    · refine ⟨x, by simp, fun z hz => ?_⟩
      rcases List.mem_cons.mp hz with e | hz
      · omega
      · have := hl z hz; omega
    · refine ⟨t, List.mem_cons_of_mem _ ht, fun z hz => ?_⟩
      rcases List.mem_cons.mp hz with e | hz
      · omega
      · exact hl z hz
theorem take_sum_shift {a : Int} : ∀ {rs : List Int} {k : Nat}, k ≤ rs.length → (∀ r ∈ rs, r ≤ a) → rs.Pairwise (fun x y => y ≤ x) → (rs.take k).sum ≤ ((a :: rs).take k).sum
  | _, 0, _, _, _ => by simp
  | [], k + 1, h, _, _ => by simp at h
  | r :: rs, k + 1, h, ha, hp => by
    rw [List.take_succ_cons, List.take_succ_cons, List.sum_cons, List.sum_cons]
    rw [List.pairwise_cons] at hp
    have h1 := ha r List.mem_cons_self
    have h2 := take_sum_shift (a := r) (rs := rs) (k := k) (by simpa using h) hp.1 hp.2
    omega
def descS (l : List Int) : List Int := l.mergeSort fun x y => decide (y ≤ x)
theorem descS_perm (l : List Int) : (descS l).Perm l := List.mergeSort_perm _ _
theorem descS_sorted (l : List Int) : (descS l).Pairwise fun x y => y ≤ x := by
  have := List.pairwise_mergeSort (le := fun x y : Int => decide (y ≤ x)) (fun a b c h1 h2 => by
    simp only [decide_eq_true_eq] at *
    omega) (fun a b => by
    simp only [Bool.or_eq_true, decide_eq_true_eq]
    omega) l
  exact this.imp fun h => by simpa using h
theorem gale_ryser : ∀ (rows cols : List Int), rows.Pairwise (fun x y => y ≤ x) → (∀ r ∈ rows, 0 ≤ r) → (∀ c ∈ cols, 0 ≤ c) → rows.sum = cols.sum → (∀ k, k ≤ rows.length → (rows.take k).sum ≤ capS cols (k : Int)) → 0 < waysF rows cols
  | [], cols, _, _, _, hs, _ => by
    rw [ways_nil, if_pos (by rw [← hs]; rfl)]
    exact Nat.one_pos
  | a :: rs, cols, hp, hr, hc, hs, hk => by
    have hperm := descS_perm cols
    rw [← ways_perm_cols hperm.symm hc hr |>.symm]
    have hsort := descS_sorted cols
    have hc2 : ∀ c ∈ descS cols, 0 ≤ c := fun c h => hc c (hperm.mem_iff.mp h)
    have hs2 : (a :: rs).sum = (descS cols).sum := by rw [hs, perm_sum hperm]
    have hk2 : ∀ k, k ≤ (a :: rs).length → ((a :: rs).take k).sum ≤ capS (descS cols) (k : Int) := fun k h => by rw [capS_perm hperm]; exact hk k h
    generalize descS cols = s at *
    clear hk hs hc hperm
    rw [List.pairwise_cons] at hp
    have ha : 0 ≤ a := hr a List.mem_cons_self
    have hk1 := hk2 1 (by simp)
    simp only [List.take_succ_cons, List.take_zero, List.sum_cons, List.sum_nil] at hk1
    have hlen : a ≤ s.length := by
      have := capS_one_le (v := s)
      have e : ((1 : Nat) : Int) = 1 := rfl
      rw [e] at hk1
      omega
    obtain ⟨m, hm⟩ : ∃ m : Nat, a = (m : Int) := ⟨a.toNat, by omega⟩
    have hml : m ≤ s.length := by omega
    have happ : s = s.take m ++ s.drop m := (List.take_append_drop m s).symm
    have hul : (s.take m).length = m := by rw [List.length_take]; omega
    have hcut : ∀ x ∈ s.take m, ∀ y ∈ s.drop m, y ≤ x := by
      rw [happ, List.pairwise_append] at hsort
      exact hsort.2.2
    generalize s.take m = u at *
    generalize s.drop m = v at *
    subst happ
    have hsub := sub_left u v
    have hmem : List.replicate u.length 1 ++ List.replicate v.length 0 ∈ patF a (u ++ v).length := by
      refine mem_pat.mpr ⟨by simp, fun x hx => ?_, ?_⟩
      · rcases List.mem_append.mp hx with h | h
        · exact .inr (List.eq_of_mem_replicate h)
        · exact .inl (List.eq_of_mem_replicate h)
      · rw [List.sum_append]
        have r1 : ∀ n : Nat, (List.replicate n (1 : Int)).sum = n := fun n => by
          induction n with
          | zero => rfl
          | succ n ih => rw [List.replicate_succ, List.sum_cons, ih]; omega
        have r0 : ∀ n : Nat, (List.replicate n (0 : Int)).sum = 0 := fun n => sum_of_zero fun x hx => List.eq_of_mem_replicate hx
        rw [r1, r0, hul, hm]
        omega
    have hupos : ∀ x ∈ u, 1 ≤ x := fun x hx => by
      by_cases h : 1 ≤ x
      · exact h
      exfalso
      have hx0 : x = 0 := by have := hc2 x (List.mem_append_left _ hx); omega
      have hv : ∀ y ∈ v, y = 0 := fun y hy => by
        have h1 := hcut x hx y hy
        have h2 := hc2 y (List.mem_append_right _ hy)
        omega
      rw [capS_app] at hk1
      have e : ((1 : Nat) : Int) = 1 := rfl
      rw [e, capS_zero hv] at hk1
      rw [hx0] at hx
      have := capS_one_lt hx
      omega
    have hok : okF (subF (u ++ v) (List.replicate u.length 1 ++ List.replicate v.length 0)) = true := by
      rw [hsub, okF_iff]
      intro x hx
      rcases List.mem_append.mp hx with h | h
      · obtain ⟨y, hy, rfl⟩ := List.mem_map.mp h
        have := hupos y hy
        omega
      · exact hc2 x (List.mem_append_right _ h)
    refine Nat.lt_of_lt_of_le ?_ (ways_step hmem hok)
    rw [hsub] at hok ⊢
    have hsumu : ∀ u : List Int, (u.map fun x => x - 1).sum = u.sum - u.length := fun u => by
      induction u with
      | nil => rfl
      | cons x u ih => rw [List.map_cons, List.sum_cons, ih, List.sum_cons, List.length_cons]; omega
    refine gale_ryser rs _ hp.2 (fun r h => hr r (List.mem_cons_of_mem _ h)) (okF_iff.mp hok) ?_ fun k hkl => ?_
    · rw [List.sum_cons, List.sum_append] at hs2
      rw [List.sum_append, hsumu]
      omega
    · have hg1 := hk2 (k + 1) (by rw [List.length_cons]; omega)
      have hg0 := hk2 k (by rw [List.length_cons]; omega)
      have hsh := take_sum_shift (k := k) hkl hp.1 hp.2
      rw [List.take_succ_cons, List.sum_cons] at hg1
      rw [capS_app] at hg0 hg1 ⊢
      by_cases hu0 : u = []
      · subst hu0
        have hm0 : m = 0 := by simpa using hul.symm
        have hz : (rs.take k).sum = 0 := sum_of_zero fun x hx => by
          have h1 := List.mem_of_mem_take hx
          have h2 := hp.1 x h1
          have h3 := hr x (List.mem_cons_of_mem _ h1)
          omega
        rw [hz]
        have h1 := capS_nonneg (k := (k : Int)) (by omega) (v := v) fun y hy => hc2 y (List.mem_append_right _ hy)
        show 0 ≤ (0 : Int) + capS v k
        omega
      · obtain ⟨t, ht, htl⟩ := exists_least hu0
        have hvt : ∀ y ∈ v, y ≤ t := fun y hy => hcut t ht y hy
        by_cases hkt : (k : Int) + 1 ≤ t
        · rw [capS_low hkt htl]
          omega
        · rw [capS_high]
          have e : ((k + 1 : Nat) : Int) = (k : Int) + 1 := by omega
          rw [e] at hg1
          have := capS_flat (t := t) (k := (k : Int)) (by omega) hvt
          omega
/-- no board: some rows and some columns show it -/
theorem no_board {rows cols : List Int} (hr : ∀ r ∈ rows, 0 ≤ r) (hc : ∀ c ∈ cols, 0 ≤ c) (hs : rows.sum = cols.sum) (h : waysF rows cols = 0) : ∃ k, k ≤ rows.length ∧ capS cols (k : Int) < ((descS rows).take k).sum := by
  apply Classical.byContradiction
  intro hn
  have hp := descS_perm rows
  have := gale_ryser (descS rows) cols (descS_sorted rows) (fun r h => hr r (hp.mem_iff.mp h)) hc (by rw [perm_sum hp]; exact hs) fun k hk => by
    by_cases hlt : capS cols (k : Int) < ((descS rows).take k).sum
    · exact absurd ⟨k, by rw [hp.length_eq] at hk; exact hk, hlt⟩ hn
    · omega
  rw [ways_perm_rows hp hc, h] at this
  exact absurd this (Nat.lt_irrefl 0)
end MK

namespace MK
/-! ### places in a list of lists -/
theorem flat_skip {α β : Type} {f : α → List β} {l : List α} {i : Nat} {x : α} (h : l[i]? = some x) (m : Nat) : (l.flatMap f)[((l.take i).flatMap f).length + m]? = (f x ++ (l.drop (i + 1)).flatMap f)[m]? := by
  have hi := (List.getElem?_eq_some_iff.mp h).1
  have e : l = l.take i ++ x :: l.drop (i + 1) := by
    rw [List.getElem?_eq_getElem hi] at h
    rw [← Option.some.inj h, ← List.drop_eq_getElem_cons hi, List.take_append_drop]
  conv => lhs; rw [e]
  rw [List.flatMap_append, List.flatMap_cons, List.getElem?_append_right (by rw [← e]; omega), ← e]
  congr 1
  omega
theorem take_flat {α β : Type} {f : α → List β} {l : List α} {i : Nat} {x : α} (h : l[i]? = some x) : ((l.take (i + 1)).flatMap f).length = ((l.take i).flatMap f).length + (f x).length := by
  rw [List.take_add_one, h]
  simp [List.flatMap_append]
/-- the boards behind a first row -/
def behindF (rs cols : List Int) (p : List Int) : List (List (List Int)) := if okF (subF cols p) then (brdF rs (subF cols p)).map (List.cons p) else []
theorem brd_cons (r : Int) (rs cols : List Int) : brdF (r :: rs) cols = (patF r cols.length).flatMap (behindF rs cols) := rfl
theorem behind_len {rs cols p : List Int} : (behindF rs cols p).length = if okF (subF cols p) then waysF rs (subF cols p) else 0 := by
  unfold behindF
  split
  · rw [List.length_map]; rfl
  · rfl
theorem behind_at {rs cols p : List Int} (h : okF (subF cols p) = true) (m : Nat) : (behindF rs cols p)[m]? = ((brdF rs (subF cols p))[m]?).map (List.cons p) := by
  unfold behindF
  rw [if_pos h, List.getElem?_map]
theorem cols_nonneg_sub {cols p : List Int} (h : okF (subF cols p) = true) : ∀ c ∈ subF cols p, 0 ≤ c := okF_iff.mp h
theorem pat_nil (n : Nat) : patF 0 n = [List.replicate n 0] := by
  have h0 : ∀ (n : Nat) (c : Int), c < 0 → patF c n = [] := fun n c hc => by
    refine List.eq_nil_iff_forall_not_mem.mpr fun r hr => ?_
    obtain ⟨_, h2, h3⟩ := mem_pat.mp hr
    have hn : ∀ l : List Int, Is01 l → 0 ≤ l.sum := fun l => by
      induction l with
      | nil => intro _; exact Int.le_refl 0
      | cons a l ih => intro h; rw [List.sum_cons]; have := ih fun x hx => h x (List.mem_cons_of_mem _ hx); have := h a List.mem_cons_self; omega
    have := hn r h2
    omega
  induction n with
  | zero => rfl
  | succ n ih =>
    unfold patF
    rw [ih, h0 n (0 - 1) (by decide)]
    rfl
theorem pat_count (c : Int) : ∀ n : Nat, (patF c n).length ≤ 2 ^ n
  | 0 => by
    unfold patF
    split <;> simp
  | n + 1 => by
    unfold patF
    rw [List.length_append, List.length_map, List.length_map]
    have h1 := pat_count c n
    have h2 := pat_count (c - 1) n
    rw [Nat.pow_succ]
    omega
end MK

namespace MK
open PySem PySem.Spec PyProof.Rows L2 Evl
/-! ### more of new lists of rows -/
section
variable {α β γ ζ : Type} {r : R α} {q : R β} {x : α} {y : β} {σ : St} {B B' : Hp} {ta tb tc td te tl : TE} {P P' : Po} {b c : Bool} {i k z : Int} {K : PySem.W.Frag} {j n : Nat} {D : Ends} {tu tw : TS} {H H0 B0 : Hp} {a : Addr} {ps : List Addr} {xss yss : List (List Int)}
theorem EV.poeq (h : EV te σ B P) (e : P = P') : EV te σ B P' := by
  subst e
  exact h
theorem ev_lstB0 : EV (tLst tNil) σ B (poB []) := (ev_lst (r := il) (xs := []) ea_nil (by decide)).imp fun H B v _ ⟨a, vs, B0, h1, h2, h3, h4, h5⟩ => by
  cases h5
  subst h4
  exact ⟨a, [], h1, h2, upd_same, by simp, List.nodup_nil, by simp, .nil⟩
theorem ev_lstB1 {xs : List Int} (h : EVn te σ B int xs) : EV (tLst (tCons te tNil)) σ B (poB [xs]) := EV.of fun H e Q k =>
  h.run e fun v B1 H1 n1 ⟨p, vs, B0, h1, h2, h3, h4, h5⟩ => by
    subst h1
    have hp : IsRow B1 p xs := by unfold IsRow; rw [h4, upd_same, paired_int h5]
    refine ⟨sz_of (by show 1 ≤ 100000; decide), fun t ht => ?_⟩
    have bt := fresh_back n1.bh ht
    have ne : t ≠ p := fun z => by subst z; have := n1.bh _ _ hp; rw [ht] at this; cases this
    exact k _ _ _ (n1.trans (Nw.new n1.bh ht)) ⟨t, [p], rfl, fresh_back n1.hh ht, upd_same, by simpa using ne, by simp, by simpa using h2, .cons ((upd_ne (Ne.symm ne)).trans hp) .nil⟩
theorem OwnB.row_at (own : OwnB H0 B H a ps xss) {p : Addr} (hp : p ∈ ps) : ∃ row, H p = some (.lst row) := by
  obtain ⟨y, _, hy⟩ := paired_getL (i := ps.idxOf p) own.rows (by rw [List.getElem?_eq_getElem (List.idxOf_lt_length_of_mem hp), List.getElem_idxOf])
  exact ⟨_, hy⟩
/-- board.extend(te) -/
theorem w_extB (m : Nw B0 H0 B H) (own : OwnB H0 B H a ps xss) (hn : σ[n]? = some (some (.ref a))) (h : EV te σ B (poB yss)) (hz : xss.length + yss.length ≤ 100000)
    (k : ∀ qs H1, Nw B0 H0 B H1 → OwnB H0 B H1 a (ps ++ qs) (xss ++ yss) → D.nx σ H1) : tDrop (tBM K "list" rExtend (tVar n) (tCons te tNil)) D σ H := by
  refine ⟨.ref a, hn, Or.inl ⟨rfl, _, SqL.of own.at_⟩, h.run m.bh fun v B1 H1 n1 ⟨b, qs, e0, hb⟩ => ?_⟩
  subst e0
  have own1 := own.grow n1.hh
  refine ⟨a, b, _, _, rfl, rfl, own1.at_, n1.bh _ _ hb.at_, sz_of (by rw [List.length_map, List.length_map, paired_len own.rows, paired_len hb.rows]; exact hz), ?_⟩
  have hfar : ∀ q ∈ qs, q ≠ a := fun q hq z => by
    subst z
    have := hb.new q hq
    rw [own.at_] at this
    cases this
  have hps : ∀ p ∈ ps, p ≠ a := fun p hp z => own.out (by rw [← z]; exact hp)
  refine k qs _ ((m.grow n1.hh).mut own.nb own.na) ⟨own.na, own.nb, by rw [upd_same, List.map_append], ?_, ?_, ?_, ?_, ?_⟩
  · intro z
    rcases List.mem_append.mp z with z | z
    · exact own.out z
    · exact hfar a z rfl
  · refine List.nodup_append.mpr ⟨own.nd, hb.nd, fun p hp q hq e => ?_⟩
    subst e
    exact own.there p hp (hb.new p hq)
  · intro p hp
    rcases List.mem_append.mp hp with z | z
    · exact own.new p z
    · exact fresh_back m.hh (hb.new p z)
  · intro p hp
    rcases List.mem_append.mp hp with z | z
    · exact own.nbs p z
    · exact fresh_back m.bh (hb.new p z)
  · refine paired_app (paired_impM (fun p hp row z => (upd_ne (hps p hp)).trans (n1.hh _ _ z)) own.rows) (paired_impM (fun q hq row z => (upd_ne (hfar q hq)).trans (n1.bh _ _ z)) hb.rows)
/-- a new list, or None -/
def poOL (ok : Bool) (xs : List Int) : Po where
  P := fun H B v => if ok = true then (poL int xs).P H B v else v = .non
  up := fun {H B B' v} e h => by
    cases ok with
    | true => exact (poL int xs).up e h
    | false => exact h
  dn := fun {H H' B v} e h => by
    cases ok with
    | true => exact (poL int xs).dn e h
    | false => exact h
/-! ### a place that changes beside what is known -/
theorem Nw.offD {H B B1 H1 : Hp} {d : Addr} (n : Nw B H B1 H1) (hd : H d ≠ none) (hb : B d = none) : Nw B (MK.off d H) B1 (MK.off d H1) := ⟨n.bb, fun x o h => by
  have ne : x ≠ d := fun z => by subst z; rw [n.ne hd hb] at h; cases h
  rw [off_ne ne]
  exact n.bh x o h, fun x o h => by
  have ne : x ≠ d := fun z => by subst z; rw [off_at] at h; cases h
  rw [off_ne ne] at h ⊢
  exact n.hh x o h, fun x h => by
  have ne : x ≠ d := fun z => by subst z; exact h off_at
  rw [off_ne ne] at h
  exact n.fr x h⟩
theorem Nw.baseD {H B B1 H1 : Hp} {d : Addr} (n : Nw B H B1 (MK.off d H1)) : Ex B1 H1 := n.bh.trans off_ex
theorem Nw.noneD {H B B1 H1 : Hp} {d : Addr} (n : Nw B H B1 (MK.off d H1)) : B1 d = none := by
  cases h : B1 d with
  | none => rfl
  | some o =>
    have := n.bh d o h
    rw [off_at] at this
    cases this
/-- d is new: the way from the start -/
theorem Nw.newD {H B B1 H1 : Hp} {d : Addr} (n : Nw B H B1 (MK.off d H1)) (hd : H d = none) : Nw B H B1 H1 := ⟨n.bb, n.bh.trans off_ex, n.hh.trans off_ex, n.fr⟩
theorem Nw.hideD {H B B1 H1 : Hp} {d : Addr} (n : Nw B H B1 H1) (hd : H d = none) (hb : B1 d = none) : Nw B H B1 (MK.off d H1) := ⟨n.bb, fun x o h => by
  have ne : x ≠ d := fun z => by subst z; rw [hb] at h; cases h
  rw [off_ne ne]
  exact n.bh x o h, fun x o h => by
  have ne : x ≠ d := fun z => by subst z; rw [hd] at h; cases h
  rw [off_ne ne]
  exact n.hh x o h, n.fr⟩
theorem off_off {H : Hp} {d : Addr} : MK.off d (MK.off d H) = MK.off d H := by
  funext x
  unfold off
  split <;> rfl
theorem off_upd {H : Hp} {d : Addr} {o : HO} : MK.off d (upd H d o) = MK.off d H := by
  funext x
  unfold off upd
  split <;> rfl
theorem off_same {H : Hp} {d : Addr} (h : H d = none) : MK.off d H = H := by
  funext x
  unfold off
  split
  · rename_i e
    rw [e, h]
  · rfl
end
end MK

namespace MK
open PySem PySem.Spec PyProof.Rows L2 Evl
/-! ### counts -/
def isC (r c : List Int) : Bool := (decide (1 ≤ r.length) && decide (r.length ≤ 6)) && (decide (1 ≤ c.length) && decide (c.length ≤ 6)) && (r.all fun x => decide (0 ≤ x) && decide (x ≤ (c.length : Int))) && (c.all fun x => decide (0 ≤ x) && decide (x ≤ (r.length : Int)))
def sp_are_counts : Sp := sp2 il il (fun _ _ => True) fun r c => poR bl (isC r c)
def sp_asked_counts (C : Er) : Sp := sp2x il il fun r c => if isC r c = true then .inr poN else .inl C.NoCounts
def sp_patterns (n : Nat) : Sp := sp2 int int (fun _ s => 0 ≤ s ∧ s < (n : Int) ∧ s ≤ 6) fun c s => poB (patF c s.toNat)
def sp_lessened : Sp := sp2 il il (fun c p => p.length = c.length ∧ 1 ≤ c.length ∧ c.length ≤ 100) fun c p => poOL (okF (subF c p)) (subF c p)
/-- what is noted stands there rightly: R are all the rows, L how many columns there are -/
structure MemoOk (R : List Int) (L : Nat) (B : Hp) (es : List MKD.Ent) : Prop where
  ks : MKD.KeysAt B es
  nd : (es.map (·.1)).Nodup
  vs : ∀ e ∈ es, ∃ rs, rs <:+ R ∧ e.1.1 = (rs.length : Int) ∧ e.1.2.length = L ∧ (∀ c ∈ e.1.2, 0 ≤ c ∧ c ≤ 6) ∧ e.2.2 = (waysF rs e.1.2 : Nat)
structure WaysPre (R : List Int) (L : Nat) (x y : List Int) : Prop where
  suf : x <:+ R
  few : R.length ≤ 6
  pos : ∀ r ∈ R, 0 ≤ r
  len : y.length = L
  l1 : 1 ≤ L
  l6 : L ≤ 6
  cs : ∀ c ∈ y, 0 ≤ c ∧ c ≤ 6
def sp_ways (n : Nat) : Sp := fun vs H Q _ => ∃ (R : List Int) (L : Nat) (B : Hp) (v w : V) (d : Addr) (es : List MKD.Ent) (x y : List Int), Ex B H ∧ vs = [v, w, .ref d] ∧ il.p B v x ∧ il.p B w y ∧ x.length < n ∧ WaysPre R L x y ∧ B d = none ∧ H d = some (MKD.Dic d es) ∧ MemoOk R L B es ∧
  ∀ B' H' es', Nw B (off d H) B' (off d H') → H' d = some (MKD.Dic d es') → MemoOk R L B' es' → (∀ k : MKD.Ky, (x.length : Int) < k.1 → MKD.look es' k = MKD.look es k) → Q (.int (waysF x y : Nat)) H'
def sp_many (C : Er) : Sp := sp2x il il fun r c => if isC r c = true then .inr (poR int (waysF r c : Nat)) else .inl C.NoCounts
def boardAtF (r c : List Int) (k : Int) : List (List Int) := (brdF r c).getD k.toNat []
def sp_board_at (C : Er) : Sp := sp3x il il int fun r c k => if isC r c = true then if 0 ≤ k ∧ k < (waysF r c : Nat) then .inr (poB (boardAtF r c k)) else .inl C.NoNumber else .inl C.NoCounts
def numberF (b : List (List Int)) : Int := ((brdF (rowsF b) (colsF b)).idxOf b : Nat)
def sp_number_of (C : Er) : Sp := sp1x bd fun b => if isB b = true then .inr (poR int (numberF b)) else .inl C.NoBoard
end MK

namespace MK
open PySem PySem.Spec PyProof.Rows L2 Evl
def t_are_counts (K : PySem.W.Frag) : TS :=
  (tSeq (tIfS (tOr (tNot (tTest (tChain (rI0 fun i j => .bl (decide (i ≤ j))) (rI0 fun i j => .bl (decide (i ≤ j))) (tC (.int 1)) (tCB (rLenS K) (tCons (tVar 0) tNil)) (tC (.int 6))))) (tNot (tTest (tChain (rI0 fun i j => .bl (decide (i ≤ j))) (rI0 fun i j => .bl (decide (i ≤ j))) (tC (.int 1)) (tCB (rLenS K) (tCons (tVar 1) tNil)) (tC (.int 6))))))
  (tRet (tC (.bl false)))
  tNext)
  (tSeq (tFor (iList K (tVar 0)) (gName 2)
  (tIfS (tNot (tTest (tChain (rI0 fun i j => .bl (decide (i ≤ j))) (rI0 fun i j => .bl (decide (i ≤ j))) (tC (.int 0)) (tVar 2) (tCB (rLenS K) (tCons (tVar 1) tNil)))))
  (tRet (tC (.bl false)))
  tNext))
  (tSeq (tFor (iList K (tVar 1)) (gName 2)
  (tIfS (tNot (tTest (tChain (rI0 fun i j => .bl (decide (i ≤ j))) (rI0 fun i j => .bl (decide (i ≤ j))) (tC (.int 0)) (tVar 2) (tCB (rLenS K) (tCons (tVar 0) tNil)))))
  (tRet (tC (.bl false)))
  tNext))
  (tRet (tC (.bl true))))))
def t_asked_counts (K : PySem.W.Frag) (W : WX) (C : Er) : TS :=
  (tIfS (tNot (tB (tCall (sp_are_counts) [] E0 (tCons (tVar 0) (tCons (tVar 1) tNil)))))
  (tRz C.NoCounts W)
  tNext)
def t_patterns (K : PySem.W.Frag) (n : Nat) : TS :=
  (tSeq (tIfS (tTest (tOp rEq (tVar 1) (tC (.int 0))))
  (tSeq (tIfS (tTest (tOp rEq (tVar 0) (tC (.int 0))))
  (tRet (tLst (tCons (tLst tNil) tNil)))
  tNext)
  (tRet (tLst tNil)))
  tNext)
  (tSeq (tAsg (tLc (iList K (tCall (sp_patterns n) [] E0 (tCons (tVar 0) (tCons (tOp (rI0 fun i j => .int (i - j)) (tVar 1) (tC (.int 1))) tNil)))) (gName 3) tYes (tOp rCat (tLst (tCons (tC (.int 0)) tNil)) (tVar 3)) [3]) (gName 2))
  (tSeq (tDrop (tBM K "list" rExtend (tVar 2) (tCons (tLc (iList K (tCall (sp_patterns n) [] E0 (tCons (tOp (rI0 fun i j => .int (i - j)) (tVar 0) (tC (.int 1))) (tCons (tOp (rI0 fun i j => .int (i - j)) (tVar 1) (tC (.int 1))) tNil)))) (gName 3) tYes (tOp rCat (tLst (tCons (tC (.int 1)) tNil)) (tVar 3)) [3]) tNil)))
  (tRet (tVar 2)))))
def t_lessened (K : PySem.W.Frag) : TS :=
  (tSeq (tAsg (tLc (iZip K (tCons (tVar 0) (tCons (tVar 1) tNil))) (gTup K 2 (gCons (gName 3) (gCons (gName 4) gNil))) tYes (tOp (rI0 fun i j => .int (i - j)) (tVar 3) (tVar 4)) [3, 4]) (gName 2))
  (tSeq (tIfS (tTest (tOp (rI0 fun i j => .bl (decide (i < j))) (tCB (rMin K) (tCons (tVar 2) tNil)) (tC (.int 0))))
  (tRet (tC .non))
  tNext)
  (tRet (tVar 2))))
def t_ways (K : PySem.W.Frag) (n : Nat) : TS :=
  (tSeq (tIfS (tTest (tOp rEq (tCB (rLenS K) (tCons (tVar 0) tNil)) (tC (.int 0))))
  (tRet (tCB rInt1 (tCons (tOp rEq (tCB (rSum K) (tCons (tVar 1) tNil)) (tC (.int 0))) tNil)))
  tNext)
  (tSeq (tIfS (tTest (tOp rNe (tCB (rSum K) (tCons (tVar 0) tNil)) (tCB (rSum K) (tCons (tVar 1) tNil))))
  (tRet (tC (.int 0)))
  tNext)
  (tSeq (tAsg (tTup (tCons (tCB (rLenS K) (tCons (tVar 0) tNil)) (tCons (tCB (rTupS K) (tCons (tCB (rSortedI K) (tCons (tVar 1) tNil)) tNil)) tNil))) (gName 3))
  (tSeq (tIfS (tTest (tOp MKD.rNkNot (tVar 3) (tVar 2)))
  (tSeq (tAsg (tC (.int 0)) (gName 4))
  (tSeq (tFor (iList K (tCall (sp_patterns 8) [] E0 (tCons (tOp (rIxL K) (tVar 0) (tC (.int 0))) (tCons (tCB (rLenS K) (tCons (tVar 1) tNil)) tNil)))) (gName 5)
  (tSeq (tAsg (tCall (sp_lessened) [] E0 (tCons (tVar 1) (tCons (tVar 5) tNil))) (gName 6))
  (tIfS (tTest (tOp rNotNone (tVar 6) (tC .non)))
  (tAsg (tOp (rI0 fun i j => .int (i + j)) (tVar 4) (tCall (sp_ways n) [] E0 (tCons (tSl (rSlL K) (tVar 0) (tPart (tC (.int 1))) tNoPart) (tCons (tVar 6) (tCons (tVar 2) tNil))))) (gName 4))
  tNext)))
  (tAsg (tVar 4) (gSub (tVar 2) (tVar 3) MKD.rNkSet))))
  tNext)
  (tRet (tOp MKD.rNkGet (tVar 2) (tVar 3)))))))
def t_many (K : PySem.W.Frag) (W : WX) (C : Er) : TS :=
  (tSeq (tDrop (tCallS (sp_asked_counts C) (WE W) (tCons (tVar 0) (tCons (tVar 1) tNil))))
  (tRet (tCall (sp_ways 8) [] E0 (tCons (tVar 0) (tCons (tVar 1) (tCons MKD.tDNew tNil))))))
def t_board_at (K : PySem.W.Frag) (W : WX) (C : Er) : TS :=
  (tSeq (tDrop (tCallS (sp_asked_counts C) (WE W) (tCons (tVar 0) (tCons (tVar 1) tNil))))
  (tSeq (tAsg MKD.tDNew (gName 3))
  (tSeq (tIfS (tOr (tTest (tOp (rI0 fun i j => .bl (decide (i < j))) (tVar 2) (tC (.int 0)))) (tTest (tOp (rI0 fun i j => .bl (decide (j ≤ i))) (tVar 2) (tCall (sp_ways 8) [] E0 (tCons (tVar 0) (tCons (tVar 1) (tCons (tVar 3) tNil)))))))
  (tRz C.NoNumber W)
  tNext)
  (tSeq (tAsg (tLst tNil) (gName 4))
  (tSeq (tAsg (tCB (rListS K) (tCons (tVar 1) tNil)) (gName 5))
  (tSeq (tFor (iRng1 (tCons (tCB (rLenS K) (tCons (tVar 0) tNil)) tNil)) (gName 6)
  (tFor (iList K (tCall (sp_patterns 8) [] E0 (tCons (tOp (rIxL K) (tVar 0) (tVar 6)) (tCons (tCB (rLenS K) (tCons (tVar 1) tNil)) tNil)))) (gName 7)
  (tSeq (tAsg (tCall (sp_lessened) [] E0 (tCons (tVar 5) (tCons (tVar 7) tNil))) (gName 8))
  (tIfS (tTest (tOp rNotNone (tVar 8) (tC .non)))
  (tSeq (tAsg (tCall (sp_ways 8) [] E0 (tCons (tSl (rSlL K) (tVar 0) (tPart (tOp (rI0 fun i j => .int (i + j)) (tVar 6) (tC (.int 1)))) tNoPart) (tCons (tVar 8) (tCons (tVar 3) tNil)))) (gName 9))
  (tSeq (tIfS (tTest (tOp (rI0 fun i j => .bl (decide (i < j))) (tVar 2) (tVar 9)))
  (tSeq (tDrop (tBM K "list" rAppend (tVar 4) (tCons (tVar 7) tNil)))
  (tSeq (tAsg (tVar 8) (gName 5))
  tBreak))
  tNext)
  (tAsg (tOp (rI0 fun i j => .int (i - j)) (tVar 2) (tVar 9)) (gName 2))))
  tNext))))
  (tRet (tVar 4))))))))
def t_number_of (K : PySem.W.Frag) (W : WX) (C : Er) : TS :=
  (tSeq (tAsg (tCallS (sp_counts C) (WE W) (tCons (tVar 0) tNil)) (gTup K 2 (gCons (gName 1) (gCons (gName 2) gNil))))
  (tSeq (tAsg MKD.tDNew (gName 3))
  (tSeq (tAsg (tC (.int 0)) (gName 4))
  (tSeq (tFor (iRng1 (tCons (tCB (rLenS K) (tCons (tVar 1) tNil)) tNil)) (gName 5)
  (tSeq (tFor (iList K (tCall (sp_patterns 8) [] E0 (tCons (tOp (rIxL K) (tVar 1) (tVar 5)) (tCons (tCB (rLenS K) (tCons (tVar 2) tNil)) tNil)))) (gName 6)
  (tSeq (tIfS (tTest (tOp (rEqD K) (tVar 6) (tOp (rIxL K) (tVar 0) (tVar 5))))
  tBreak
  tNext)
  (tSeq (tAsg (tCall (sp_lessened) [] E0 (tCons (tVar 2) (tCons (tVar 6) tNil))) (gName 7))
  (tIfS (tTest (tOp rNotNone (tVar 7) (tC .non)))
  (tAsg (tOp (rI0 fun i j => .int (i + j)) (tVar 4) (tCall (sp_ways 8) [] E0 (tCons (tSl (rSlL K) (tVar 1) (tPart (tOp (rI0 fun i j => .int (i + j)) (tVar 5) (tC (.int 1)))) tNoPart) (tCons (tVar 7) (tCons (tVar 3) tNil))))) (gName 4))
  tNext))))
  (tAsg (tCall (sp_lessened) [] E0 (tCons (tVar 2) (tCons (tOp (rIxL K) (tVar 0) (tVar 5)) tNil))) (gName 2))))
  (tRet (tVar 4))))))

end MK

namespace MK
open PySem PySem.Spec PyProof.Rows L2 Evl
/-! ### plain laws of what is noted -/
theorem len_le_of_lt {l : List Nat} {N : Nat} (hn : l.Nodup) (h : ∀ x ∈ l, x < N) : l.length ≤ N := by
  have := length_le_of_inj (l := l) (m := List.range N) (fun x => x) hn (fun a ha => List.mem_range.mpr (h a ha)) (fun a _ b _ e => e)
  rwa [List.length_range] at this
def codeC : List Int → Nat
  | [] => 0
  | c :: cs => c.toNat + 8 * codeC cs
theorem codeC_lt : ∀ {cs : List Int}, (∀ c ∈ cs, 0 ≤ c ∧ c ≤ 6) → codeC cs < 8 ^ cs.length
  | [], _ => by simp [codeC]
  | c :: cs, h => by
    have h1 := codeC_lt fun x hx => h x (List.mem_cons_of_mem _ hx)
    have h2 := h c List.mem_cons_self
    unfold codeC
    rw [List.length_cons, Nat.pow_succ]
    omega
theorem codeC_inj : ∀ {cs ds : List Int}, cs.length = ds.length → (∀ c ∈ cs, 0 ≤ c ∧ c ≤ 6) → (∀ c ∈ ds, 0 ≤ c ∧ c ≤ 6) → codeC cs = codeC ds → cs = ds
  | [], [], _, _, _, _ => rfl
  | [], _ :: _, h, _, _, _ => by simp at h
  | _ :: _, [], h, _, _, _ => by simp at h
  | c :: cs, d :: ds, h, h1, h2, e => by
    have a1 := h1 c List.mem_cons_self
    have a2 := h2 d List.mem_cons_self
    unfold codeC at e
    have := codeC_inj (cs := cs) (ds := ds) (by simpa using h) (fun x hx => h1 x (List.mem_cons_of_mem _ hx)) (fun x hx => h2 x (List.mem_cons_of_mem _ hx)) (by omega)
    rw [this, show c = d by omega]
theorem suffix_same {R x y : List Int} (hx : x <:+ R) (hy : y <:+ R) (h : x.length = y.length) : x = y := by
  obtain ⟨s, e1⟩ := hx
  obtain ⟨t, e2⟩ := hy
  have : s ++ x = t ++ y := e1.trans e2.symm
  exact (List.append_inj this (by have := congrArg List.length this; rw [List.length_append, List.length_append] at this; omega)).2
theorem MemoOk.small {R : List Int} {L : Nat} {B : Hp} {es : List MKD.Ent} (h : MemoOk R L B es) (hR : R.length ≤ 6) (hL : L ≤ 6) : es.length ≤ 2097152 := by
  have hcode : ((es.map (·.1)).map fun k : MKD.Ky => k.1.toNat + 8 * codeC k.2).Nodup := by
    have inj : ∀ {l : List MKD.Ky}, l.Nodup → (∀ k ∈ l, 0 ≤ k.1 ∧ k.1 ≤ 6 ∧ k.2.length = L ∧ ∀ c ∈ k.2, 0 ≤ c ∧ c ≤ 6) → (l.map fun k : MKD.Ky => k.1.toNat + 8 * codeC k.2).Nodup := fun {l} => by
      induction l with
      | nil => intro _ _; exact List.nodup_nil
      | cons k l ih =>
        intro hn hk
        rw [List.nodup_cons] at hn
        rw [List.map_cons, List.nodup_cons]
        refine ⟨fun hm => ?_, ih hn.2 fun x hx => hk x (List.mem_cons_of_mem _ hx)⟩
        obtain ⟨k2, hk2, e⟩ := List.mem_map.mp hm
        obtain ⟨a1, a2, a3, a4⟩ := hk k List.mem_cons_self
        obtain ⟨b1, b2, b3, b4⟩ := hk k2 (List.mem_cons_of_mem _ hk2)
        have h1 : k2.2 = k.2 := codeC_inj (by omega) b4 a4 (by omega)
        have h2 : k2.1 = k.1 := by omega
        have : k2 = k := Prod.ext h2 h1
        rw [this] at hk2
        exact hn.1 hk2
    refine inj h.nd fun k hk => ?_
    obtain ⟨e, he, rfl⟩ := List.mem_map.mp hk
    obtain ⟨rs, h1, h2, h3, h4, _⟩ := h.vs e he
    have := h1.length_le
    exact ⟨by omega, by omega, h3, h4⟩
  have hlt := len_le_of_lt (N := 8 ^ 7) hcode fun x hx => by
    obtain ⟨k, hk, rfl⟩ := List.mem_map.mp hx
    obtain ⟨e, he, rfl⟩ := List.mem_map.mp hk
    obtain ⟨rs, h1, h2, h3, h4, _⟩ := h.vs e he
    have h5 := codeC_lt h4
    have h6 : 8 ^ e.1.2.length ≤ 8 ^ 6 := Nat.pow_le_pow_right (by decide) (by omega)
    have := h1.length_le
    have h7 : (8 : Nat) ^ 7 = 8 * 8 ^ 6 := by decide
    omega
  rw [List.length_map, List.length_map] at hlt
  have h8 : (8 : Nat) ^ 7 = 2097152 := by decide
  omega
theorem look_new {es : List MKD.Ent} {k : MKD.Ky} {b : Addr} {v : Int} (h : MKD.look es k = none) : MKD.look (es ++ [(k, b, v)]) k = some v := by
  unfold MKD.look at h ⊢
  rw [Option.map_eq_none_iff] at h
  rw [List.find?_append, h]
  simp
theorem look_other {es : List MKD.Ent} {k l : MKD.Ky} {b : Addr} {v : Int} (h : l ≠ k) : MKD.look (es ++ [(k, b, v)]) l = MKD.look es l := by
  unfold MKD.look
  rw [List.find?_append]
  have : ([(k, b, v)] : List MKD.Ent).find? (fun e => decide (e.1 = l)) = none := by
    simp only [List.find?_cons, List.find?_nil]
    rw [decide_eq_false (fun z => h z.symm)]
  rw [this, Option.or_none]
theorem look_mem {es : List MKD.Ent} {k : MKD.Ky} {v : Int} (h : MKD.look es k = some v) : ∃ b, (k, b, v) ∈ es := by
  unfold MKD.look at h
  obtain ⟨e, he, rfl⟩ := Option.map_eq_some_iff.mp h
  have h1 := List.mem_of_find?_eq_some he
  have h2 := List.find?_some he
  have h3 : e.1 = k := of_decide_eq_true h2
  refine ⟨e.2.1, ?_⟩
  rw [← h3]
  exact h1
theorem look_none {es : List MKD.Ent} {k : MKD.Ky} (h : MKD.look es k = none) : k ∉ es.map (·.1) := fun hm => by
  obtain ⟨e, he, h2⟩ := List.mem_map.mp hm
  unfold MKD.look at h
  rw [Option.map_eq_none_iff, List.find?_eq_none] at h
  exact h e he (decide_eq_true h2)
theorem MemoOk.mono {R : List Int} {L : Nat} {B B1 : Hp} {es : List MKD.Ent} (h : MemoOk R L B es) (e : Ex B B1) : MemoOk R L B1 es := ⟨fun x hx => by
  obtain ⟨t, h1, h2⟩ := h.ks x hx
  exact ⟨t, e _ _ h1, e _ _ h2⟩, h.nd, h.vs⟩
theorem MemoOk.nil {R : List Int} {L : Nat} {B : Hp} : MemoOk R L B [] := ⟨fun _ h => (by cases h), List.nodup_nil, fun _ h => (by cases h)⟩
theorem MemoOk.heap {R : List Int} {L : Nat} {B H : Hp} {es : List MKD.Ent} (h : MemoOk R L B es) (e : Ex B H) : MKD.KeysAt H es := (h.mono e).ks
theorem isC_parts {r c : List Int} (h : isC r c = true) : 1 ≤ r.length ∧ r.length ≤ 6 ∧ 1 ≤ c.length ∧ c.length ≤ 6 ∧ (∀ x ∈ r, 0 ≤ x ∧ x ≤ (c.length : Int)) ∧ ∀ x ∈ c, 0 ≤ x ∧ x ≤ (r.length : Int) := by
  unfold isC at h
  simp only [Bool.and_eq_true, decide_eq_true_eq, List.all_eq_true] at h
  obtain ⟨⟨⟨⟨h1, h2⟩, h3, h4⟩, h5⟩, h6⟩ := h
  exact ⟨h1, h2, h3, h4, h5, h6⟩
theorem pre_of {r c : List Int} (h : isC r c = true) : WaysPre r c.length r c := by
  obtain ⟨h1, h2, h3, h4, h5, h6⟩ := isC_parts h
  exact ⟨List.suffix_refl _, h2, fun x hx => (h5 x hx).1, rfl, h3, h4, fun x hx => ⟨(h6 x hx).1, by have := (h6 x hx).2; omega⟩⟩
section
variable {vs : List V} {H : Hp} {Q : VK} {E : XK} {K : PySem.W.Frag}
/-- for count in xs: if not 0 <= count <= n: return False -/
theorem q_inRange {σ : St} {B : Hp} {D : Ends} {tw : TS} {tl tn : TE} {xs : List Int} {n : Nat} {j : Nat} {ok : Bool} (e : Ex B H) (h : EVr tl σ B il xs) (hj : j < σ.length) (hn : ∀ (y : Option V) B1, Ex B B1 → EVr tn (σ.set j y) B1 int (n : Int)) (hall : (xs.all fun x => decide (0 ≤ x) && decide (x ≤ (n : Int))) = false → ok = false)
    (kf : ok = false → ∀ u H1, Ex H H1 → u = V.bl false → D.rt u H1) (k : (xs.all fun x => decide (0 ≤ x) && decide (x ≤ (n : Int))) = true → ∀ y H1, Ex H H1 → (y = σ ∨ ∃ z, y = σ.set j z) → tw D y H1) :
    tSeq (tFor (iList K tl) (gName j) (tIfS (tNot (tTest (tChain (rI0 fun i j => .bl (decide (i ≤ j))) (rI0 fun i j => .bl (decide (i ≤ j))) (tC (.int 0)) (tVar j) tn))) (tRet (tC (.bl false))) tNext)) tw D σ H := by
  refine q_forL (r := int) (xs := xs) e h (fun B1 i σ' H' => (i = 0 → σ' = σ) ∧ (σ' = σ ∨ ∃ z, σ' = σ.set j z) ∧ Ex B1 H' ∧ Ex H H' ∧ ∀ x ∈ xs.take i, (decide (0 ≤ x) && decide (x ≤ (n : Int))) = true)
    (fun B1 H1 n1 => ⟨fun _ => rfl, .inl rfl, n1.bh, n1.hh, by simp⟩) (fun B1 i σ' H' ⟨_, _, x, _⟩ => Sx.of x) ?_ ?_
  · rintro B1 H1 i x v σ' H' n1 hi hv ⟨_, hs, x1, x2, hall'⟩
    cases hv
    have hset : σ'.set j (some (.int x)) = σ.set j (some (.int x)) := by
      rcases hs with rfl | ⟨z, rfl⟩
      · rfl
      · rw [List.set_set]
    show tIfS _ _ _ _ _ _
    rw [hset]
    refine w_if0 (b := !(decide (0 ≤ x) && decide (x ≤ (n : Int)))) x1 (Evl.et_not (t_chain (i := 0) (j := x) (k := (n : Int)) ev_int (ev_varI (by rw [List.getElem?_set_self hj])) rfl (fun _ => hn _ _ n1.bb) rfl)) (fun hc H2 e2 => ?_) (fun hc H2 e2 => ?_)
    · refine w_ret (P := poR bl false) (x1.trans e2) ev_bl fun u B3 H3 n3 hu => kf (hall ?_) u H3 ((x2.trans e2).trans n3.hh) hu
      exact List.all_eq_false.mpr ⟨x, List.mem_of_getElem? hi, fun z => by rw [z] at hc; cases hc⟩
    · refine ⟨fun z => by omega, .inr ⟨_, rfl⟩, x1.trans e2, x2.trans e2, fun y hy => ?_⟩
      rw [take_succ' hi] at hy
      rcases List.mem_append.mp hy with hy | hy
      · exact hall' y hy
      · have ey : y = x := by simpa using hy
        subst ey
        simpa using hc
  · rintro B1 σ' H' ⟨_, hs, x1, x2, hall'⟩
    rw [List.take_length] at hall'
    exact k (List.all_eq_true.mpr hall') σ' H' x2 hs
theorem pure_are_counts (h : sp_are_counts vs H Q E) : t_are_counts K { nx := fun _ H' => Q .non H', rt := Q } (L2.start ["rows", "columns", "count"] vs) H := by
  obtain ⟨B, v, w, r, c, e, rfl, hv, hw, -, q⟩ := h
  have q : ∀ u B' H', Nw B H B' H' → u = V.bl (isC r c) → Q u H' := q
  show t_are_counts K _ [some v, some w, none] H
  unfold t_are_counts
  have m0 := Nw.refl e
  have fin : ∀ {b : Bool}, isC r c = b → ∀ u H1, Ex H H1 → u = V.bl b → Q u H1 := fun {b} hb u H1 x hu => q u B H1 (m0.grow x) (by rw [hu, hb])
  refine q_if (b := !(decide ((1 : Int) ≤ (r.length : Int)) && decide ((r.length : Int) ≤ 6)) || !(decide ((1 : Int) ≤ (c.length : Int)) && decide ((c.length : Int) ≤ 6))) e (Evl.et_or (Evl.et_not (t_chain (i := 1) (j := (r.length : Int)) (k := 6) ev_int (ev_len (r := int) (ev_var rfl hv)) rfl (fun _ => ev_int) rfl)) fun _ => Evl.et_not (t_chain (i := 1) (j := (c.length : Int)) (k := 6) ev_int (ev_len (r := int) (ev_var rfl hw)) rfl (fun _ => ev_int) rfl)) (fun hc H1 e1 => ?_) (fun hc H1 e1 => ?_)
  · have hf : isC r c = false := by
      unfold isC
      simp only [Bool.or_eq_true, Bool.not_eq_true', Bool.and_eq_false_iff, decide_eq_false_iff_not] at hc ⊢
      omega
    exact w_ret (P := poR bl false) (e.trans e1) ev_bl fun u B2 H2 n2 hu => fin hf u H2 (e1.trans n2.hh) hu
  simp only [Bool.or_eq_false_iff, Bool.not_eq_false', Bool.and_eq_true, decide_eq_true_eq] at hc
  refine q_inRange (ok := isC r c) (n := c.length) (xs := r) (e.trans e1) (ev_var rfl hv) (by show 2 < 3; decide) (fun y B1 x => ev_len (r := int) (xs := c) (ev_var rfl (il.stE x hw))) (fun z => ?_) (fun z u H2 x hu => fin z u H2 (e1.trans x) hu) (fun a1 σ' H2 x2 hs => ?_)
  · unfold isC
    rw [z]
    simp
  have hs' : ∃ z, σ' = [some v, some w, z] := by
    rcases hs with rfl | ⟨z, rfl⟩
    · exact ⟨none, rfl⟩
    · exact ⟨z, rfl⟩
  obtain ⟨z, rfl⟩ := hs'
  have e2 := e1.trans x2
  refine q_inRange (ok := isC r c) (n := r.length) (xs := c) (e.trans e2) (ev_var rfl hw) (by show 2 < 3; decide) (fun y B1 x => ev_len (r := int) (xs := r) (ev_var rfl (il.stE x hv))) (fun z => ?_) (fun z u H2 x hu => fin z u H2 (e2.trans x) hu) (fun a2 σ' H3 x3 hs => ?_)
  · unfold isC
    rw [z]
    simp
  · have ht : isC r c = true := by
      unfold isC
      rw [a1, a2, decide_eq_true (show 1 ≤ r.length by omega), decide_eq_true (show r.length ≤ 6 by omega), decide_eq_true (show 1 ≤ c.length by omega), decide_eq_true (show c.length ≤ 6 by omega)]
      rfl
    exact w_ret (P := poR bl true) ((e.trans e2).trans x3) ev_bl fun u B4 H4 n4 hu => fin ht u H4 ((e2.trans x3).trans n4.hh) hu
theorem pure_asked_counts {C : Er} (h : sp_asked_counts C vs H Q E) : t_asked_counts K (fun cls d _ H => E cls d H) C { nx := fun _ H' => Q .non H', rt := Q } (L2.start ["rows", "columns"] vs) H := by
  obtain ⟨B, v, w, r, c, e, rfl, hv, hw, k1, k2⟩ := h
  show t_asked_counts K _ C _ [some v, some w] H
  unfold t_asked_counts
  refine w_if0 (b := !isC r c) e (Evl.et_not (t_B (ev_call2 (r := il) (q := il) (x := r) (y := c) (ev_var rfl hv) (ev_var rfl hw) trivial))) (fun hc H1 e1 => ?_) (fun hc H1 e1 => ?_)
  · refine k1 _ (if_neg ?_) H1 e1
    intro z
    rw [z] at hc
    cases hc
  · exact k2 _ (if_pos (by simpa using hc)) _ B H1 ((Nw.refl e).grow e1) rfl
theorem pure_patterns {n : Nat} (h : sp_patterns (n + 1) vs H Q E) : t_patterns K n { nx := fun _ H' => Q .non H', rt := Q } (L2.start ["count", "size", "found", "rest"] vs) H := by
  obtain ⟨B, v, w, c, s, e, rfl, hv, hw, ⟨h0, h1, h2⟩, q⟩ := h
  cases hv
  cases hw
  dsimp only at q
  show t_patterns K n _ [some (.int c), some (.int s), none, none] H
  unfold t_patterns
  have m0 := Nw.refl e
  refine q_if (b := decide (s = 0)) e (t_test (ev_eqI (ev_varI rfl) ev_int)) (fun hs H1 e1 => ?_) (fun hs H1 e1 => ?_)
  · have hs : s = 0 := of_decide_eq_true hs
    subst hs
    have m1 := m0.grow e1
    refine q_if (b := decide (c = 0)) m1.bh (t_test (ev_eqI (ev_varI rfl) ev_int)) (fun hc H2 e2 => ?_) (fun hc H2 e2 => ?_)
    · have hc : c = 0 := of_decide_eq_true hc
      subst hc
      exact w_ret (P := poB [[]]) (m1.grow e2).bh (ev_lstB1 (ev_lst ea_nil (by decide))) fun u B3 H3 n3 hu => q u B3 H3 ((m1.grow e2).trans n3) ((poB _).dn (m1.grow e2).hh hu)
    · refine w_ret (P := poB []) (m1.grow e2).bh ev_lstB0 fun u B3 H3 n3 hu => q u B3 H3 ((m1.grow e2).trans n3) ?_
      have : patF c (0 : Int).toNat = [] := if_neg (of_decide_eq_false hc)
      rw [this]
      exact (poB _).dn (m1.grow e2).hh hu
  · have hs : ¬ s = 0 := of_decide_eq_false hs
    have m1 := m0.grow e1
    obtain ⟨k, rfl⟩ : ∃ k : Nat, s = (k : Int) + 1 := ⟨(s - 1).toNat, by omega⟩
    have e3 : ((k : Int) + 1).toNat = k + 1 := by omega
    have e4 : (k : Int).toNat = k := by omega
    rw [e3] at q
    have one : ∀ (c' z : Int) (σ : St) (B1 : Hp) (tc : TE), EVr tc σ B1 int c' → σ[1]? = some (some (.int ((k : Int) + 1))) → 3 < σ.length → (∀ v, wipe ((wipe σ [3]).set 3 (some v)) [3] = wipe σ [3]) → EV (tLc (iList K (tCall (sp_patterns n) [] E0 (tCons tc (tCons (tOp (rI0 fun i j => .int (i - j)) (tVar 1) (tC (.int 1))) tNil)))) (gName 3) tYes (tOp rCat (tLst (tCons (tC (.int z)) tNil)) (tVar 3)) [3]) σ B1 (poB ((patF c' k).map (List.cons z))) := fun c' z σ B1 tc hc hs1 hl hw => by
      have hk := pat_count c' k
      have hp : 2 ^ k ≤ 2 ^ 6 := Nat.pow_le_pow_right (by decide) (by omega)
      have h64 : (2 : Nat) ^ 6 = 64 := by decide
      refine ev_lcB (r := il) (xs := patF c' k) (f := List.cons z) (EV.of_b ?_) (by omega) hw fun row v B2 hm e2 hv => ?_
      · have := ev_call2 (E := E0) (r := int) (q := int) (pre := fun _ s => 0 ≤ s ∧ s < (n : Int) ∧ s ≤ 6) (po := fun c s => poB (patF c s.toNat)) hc (ev_ii (g := fun i j => V.int (i - j)) (i := (k : Int) + 1) (j := 1) (z := (k : Int)) (ev_varI hs1) ev_int (by show V.int _ = V.int _; congr 1; omega)) ⟨by omega, by omega, by omega⟩
        rw [e4] at this
        exact this
      · have hj : 3 < (wipe σ [3]).length := by rw [wipe_length]; exact hl
        exact ev_cat (xs := [z]) (ys := row) (EV.of_n (ev_lst (ea_cons ev_int ea_nil) (by show 1 ≤ _; decide))) (ev_var (by rw [List.getElem?_set_self hj]) hv) (by rw [List.length_singleton, pat_len hm]; omega)
    refine q_setB m1.bh (one c 0 [some (.int c), some (.int ((k : Int) + 1)), none, none] B (tVar 0) (ev_varI rfl) rfl (by show 3 < 4; decide) (fun _ => rfl)) fun a ps B2 H2 n2 own => ?_
    have m2 := m1.trans n2
    have own := own.early m1.hh
    have c1 := pat_count c k
    have c2 := pat_count (c - 1) k
    have hp : 2 ^ k ≤ 2 ^ 6 := Nat.pow_le_pow_right (by decide) (by omega)
    have h64 : (2 : Nat) ^ 6 = 64 := by decide
    refine w_extB m2 own rfl (one (c - 1) 1 [some (.int c), some (.int ((k : Int) + 1)), some (.ref a), none] B2 _ (ev_ii (ev_varI rfl) ev_int rfl) rfl (by show 3 < 4; decide) (fun _ => rfl)) (by rw [List.length_map, List.length_map]; omega) fun qs H3 m3 own3 => ?_
    exact w_retB m3 rfl own3 q
theorem minL_neg {l : List Int} (h : 0 < l.length) : decide (minL l < 0) = !okF l := by
  rw [Bool.eq_iff_iff, Bool.not_eq_true', decide_eq_true_eq]
  constructor
  · intro hm
    cases ho : okF l with
    | false => rfl
    | true =>
      have := okF_iff.mp ho _ (minL_mem h)
      omega
  · intro hf
    unfold okF at hf
    obtain ⟨x, hx, hn⟩ := List.all_eq_false.mp hf
    have := minL_le hx
    have hn : ¬ 0 ≤ x := by simpa using hn
    omega
theorem pure_lessened (h : sp_lessened vs H Q E) : t_lessened K { nx := fun _ H' => Q .non H', rt := Q } (L2.start ["columns", "pattern", "found", "column", "cell"] vs) H := by
  obtain ⟨B, v, w, c, p, e, rfl, hv, hw, ⟨h1, h2, h3⟩, q⟩ := h
  have q : ∀ u B' H', Nw B H B' H' → (poOL (okF (subF c p)) (subF c p)).P H B' u → Q u H' := q
  show t_lessened K _ [some v, some w, none, none, none] H
  unfold t_lessened
  have m0 := Nw.refl e
  refine q_set (P := poL int (subF c p)) e (ev_lcZ (r := int) (s := int) (f := fun x y => x - y) (ev_var rfl hv) (ev_var rfl hw) (by omega) h1.symm (fun _ _ => rfl) (fun x y v1 w1 B4 _ _ e4 hx hy => ?_)) fun u B1 H1 n1 hu => ?_
  · cases hx
    cases hy
    exact ev_ii (ev_varI rfl) (ev_varI rfl) rfl
  have hl := poL_lst hu
  have hlen : 0 < (subF c p).length := by rw [subF_len h1]; omega
  refine q_if (b := !okF (subF c p)) n1.bh (t_eq (t_test (ev_iib (ev_min (ev_var rfl hl) hlen) ev_int rfl)) (minL_neg hlen)) (fun hc H2 e2 => ?_) (fun hc H2 e2 => ?_)
  · refine w_ret (P := poN) (n1.bh.trans e2) ev_non fun u B3 H3 n3 hu => q u B3 H3 ((n1.grow e2).trans n3) ?_
    have : okF (subF c p) = false := by simpa using hc
    rw [this]
    exact hu
  · refine ⟨u, rfl, q u B1 H2 (n1.grow e2) ?_⟩
    have : okF (subF c p) = true := by simpa using hc
    rw [this]
    exact hu
end
end MK

namespace MK
open PySem PySem.Spec PyProof.Rows L2 Evl
section
variable {vs : List V} {H : Hp} {Q : VK} {E : XK} {K : PySem.W.Frag}
theorem ev_pat {σ : St} {B : Hp} {tc tn : TE} {c s : Int} (h1 : EVr tc σ B int c) (h2 : EVr tn σ B int s) (h0 : 0 ≤ s) (h6 : s ≤ 6) : EV (tCall (sp_patterns 8) [] E0 (tCons tc (tCons tn tNil))) σ B (poB (patF c s.toNat)) :=
  ev_call2 (r := int) (q := int) h1 h2 ⟨h0, by show s < 8; omega, h6⟩
theorem ev_less {σ : St} {B : Hp} {tc tp : TE} {c p : List Int} (h1 : EVr tc σ B il c) (h2 : EVr tp σ B il p) (hl : p.length = c.length) (h0 : 1 ≤ c.length) (h6 : c.length ≤ 100) : EV (tCall (sp_lessened) [] E0 (tCons tc (tCons tp tNil))) σ B (poOL (okF (subF c p)) (subF c p)) :=
  ev_call2 (r := il) (q := il) h1 h2 ⟨hl, h0, h6⟩
/-- `left is not None` -/
theorem t_left {σ : St} {B H0 : Hp} {n : Nat} {v : V} {ok : Bool} {xs : List Int} (h : σ[n]? = some (some v)) (hv : (poOL ok xs).P H0 B v) : EVT (tTest (tOp rNotNone (tVar n) (tC .non))) σ B ok := by
  refine t_eq (t_test (EV.of fun H e Q q => ⟨v, h, rfl, q _ B H (Nw.refl e) rfl⟩ : EVr _ σ B bl (!decide (v = .non)))) ?_
  cases ok with
  | true =>
    obtain ⟨a, vs, B0, rfl, _⟩ := (show (poL int xs).P H0 B v from hv)
    simp
  | false =>
    have hv : v = .non := hv
    subst hv
    simp
theorem run_ways {N : Nat} {σ : St} {B : Hp} {ta tb : TE} {n d : Nat} {R x y : List Int} {L : Nat} {es : List MKD.Ent} (e : Ex B H) (h1 : EVr ta σ B il x) (h2 : EVr tb σ B il y) (hd : σ[n]? = some (some (.ref d))) (hx : x.length < N) (pre : WaysPre R L x y) (nb : B d = none) (hH : H d = some (MKD.Dic d es)) (mo : MemoOk R L B es)
    (k : ∀ B' H' es', Nw B (off d H) B' (off d H') → H' d = some (MKD.Dic d es') → MemoOk R L B' es' → (∀ k : MKD.Ky, (x.length : Int) < k.1 → MKD.look es' k = MKD.look es k) → Q (.int (waysF x y : Nat)) H') :
    tCall (sp_ways N) [] E0 (tCons ta (tCons tb (tCons (tVar n) tNil))) σ H Q :=
  h1.run e fun v B1 H1 n1 hv => (h2.mono n1.bb).run n1.bh fun w B2 H2 n2 hw => by
    have n12 := n1.trans n2
    have hne := some_ne hH
    refine ⟨.ref d, hd, R, L, B2, v, w, d, es, x, y, n2.bh, rfl, il.stE n2.bb hv, hw, hx, pre, n12.ne hne nb, n12.hh _ _ hH, mo.mono n12.bb, fun B' H' es' n3 g1 g2 g3 => ?_⟩
    exact k B' H' es' ((n12.offD hne nb).trans n3) g1 g2 g3
/-- ways(x, y, {}) -/
theorem ev_ways0 {σ : St} {B : Hp} {ta tb : TE} {x y : List Int} {L : Nat} (h1 : EVr ta σ B il x) (h2 : EVr tb σ B il y) (pre : WaysPre x L x y) : EVr (tCall (sp_ways 8) [] E0 (tCons ta (tCons tb (tCons MKD.tDNew tNil)))) σ B int (waysF x y : Nat) := EV.of fun H e Q k =>
  h1.run e fun v B1 H1 n1 hv => (h2.mono n1.bb).run n1.bh fun w B2 H2 n2 hw => fun p hp => by
    have bp := fresh_back n2.bh hp
    refine ⟨x, L, B2, v, w, p, [], x, y, Ex.mut n2.bh bp, rfl, il.stE n2.bb hv, hw, by have := pre.few; omega, pre, bp, upd_same, MemoOk.nil, fun B' H' es' n3 g1 g2 g3 => ?_⟩
    rw [off_upd, off_same hp] at n3
    exact k _ B' H' ((n1.trans n2).trans (n3.newD hp)) rfl
def poKey (n : Int) (y : List Int) : Po where
  P := fun _ B v => ∃ (ns : List Int) (b : Addr), ns.Perm y ∧ v = .ref b ∧ MKD.KeyAt B (n, ns) b
  up := fun e ⟨ns, b, h1, h2, t, h3, h4⟩ => ⟨ns, b, h1, h2, t, e _ _ h3, e _ _ h4⟩
  dn := fun _ h => h
theorem ev_key {σ : St} {B : Hp} {ta tb : TE} {n : Int} {y : List Int} (h1 : EVr ta σ B int n) (h2 : EVr tb σ B il y) (hz : y.length ≤ 1000) : EV (tTup (tCons ta (tCons (tCB (rTupS K) (tCons (tCB (rSortedI K) (tCons tb tNil)) tNil)) tNil))) σ B (poKey n y) := EV.of fun H e Q k =>
  h1.run e fun v B1 H1 n1 hv => ((ev_sorted (K := K) h2).mono n1.bb).run n1.bh fun w B2 H2 n2 ⟨ns, hp, _, hw⟩ => by
    cases hv
    obtain ⟨p, rfl, hl⟩ := il_at (poL_lst hw)
    refine ⟨p, _, rfl, .inl ⟨SqL.of (n2.bh _ _ hl), fun t ht => ⟨sz_of (by show 2 ≤ 100000; decide), fun b hb => ?_⟩⟩⟩
    have n3 := Nw.new (o := .tup (ns.map V.int)) n2.bh ht
    have n4 := Nw.new (o := .tup [.int n, .ref t]) n3.bh hb
    refine k _ _ _ (((n1.trans n2).trans n3).trans n4) ⟨ns, b, hp, rfl, t, upd_same, ?_⟩
    exact n4.bb _ _ upd_same
theorem sum_take {α : Type} {f : α → Nat} {l : List α} {i : Nat} {x : α} (h : l[i]? = some x) : ((l.take (i + 1)).map f).sum = ((l.take i).map f).sum + f x := by
  rw [List.take_add_one, h]
  simp
theorem q_ifR {t : TT} {tu tw : TS} {D : Ends} {σ : St} {H : Hp} (J : St → Hp → Prop) (k : ∀ σ' H', J σ' H' → tw D σ' H') (h : (∀ σ' H', J σ' H' → tw D σ' H') → t σ H fun b H1 => if b = true then tu { D with nx := tw D } σ H1 else tw D σ H1) : tSeq (tIfS t tu tNext) tw D σ H := h k
theorem pure_ways {n : Nat} (h : sp_ways (n + 1) vs H Q E) : t_ways K n { nx := fun _ H' => Q .non H', rt := Q } (L2.start ["rows", "columns", "known", "key", "total", "pattern", "left"] vs) H := by
  obtain ⟨R, L, B, v, w, d, es, x, y, e, rfl, hv, hw, hx, pre, nb, hd, mo, q⟩ := h
  show t_ways K n _ [some v, some w, some (.ref d), none, none, none, none] H
  unfold t_ways
  have hne := some_ne hd
  have m0 : Nw B (off d H) B (off d H) := (Nw.refl e).offD hne nb
  have hxl : x.length ≤ 6 := Nat.le_trans pre.suf.length_le pre.few
  have hyn : ∀ c ∈ y, 0 ≤ c := fun c hc => (pre.cs c hc).1
  have hxn : ∀ r ∈ x, 0 ≤ r := fun r hr => pre.pos r (pre.suf.subset hr)
  refine q_if (b := decide ((x.length : Int) = 0)) e (t_test (ev_eqI (ev_len (r := int) (ev_var rfl hv)) ev_int)) (fun hc H1 e1 => ?_) (fun hc H1 e1 => ?_)
  · have hc : (x.length : Int) = 0 := of_decide_eq_true hc
    have hx0 : x = [] := List.length_eq_zero_iff.mp (by omega)
    subst hx0
    refine w_ret (P := poR int (if decide (y.sum = 0) then 1 else 0)) (e.trans e1) (ev_intB (ev_eqI (ev_sum (ev_var rfl hw)) ev_int)) fun u B2 H2 n2 hu => ?_
    have hu : u = .int (if decide (y.sum = 0) = true then 1 else 0) := hu
    have : u = .int (waysF [] y : Nat) := by
      rw [hu, ways_nil]
      by_cases h0 : y.sum = 0
      · rw [decide_eq_true h0, if_pos h0]
        rfl
      · rw [decide_eq_false h0, if_neg h0]
        rfl
    rw [this]
    exact q B2 H2 es ((Nw.trans ((Nw.refl e).grow e1) n2).offD hne nb) (n2.hh _ _ (e1 _ _ hd)) (mo.mono n2.bb) fun _ _ => rfl
  have hx0 : ¬ (x.length : Int) = 0 := of_decide_eq_false hc
  refine q_if (b := !decide (x.sum = y.sum)) (e.trans e1) (t_test (ev_neI (ev_sum (ev_var rfl hv)) (ev_sum (ev_var rfl hw)))) (fun hc2 H2 e2 => ?_) (fun hc2 H2 e2 => ?_)
  · have e12 := e1.trans e2
    refine w_ret (P := poR int 0) (e.trans e12) ev_int fun u B3 H3 n3 hu => ?_
    cases hu
    have : waysF x y = 0 := ways_unlike hyn (by simpa using hc2)
    rw [show V.int 0 = V.int ((waysF x y : Nat) : Int) by rw [this]; rfl]
    exact q B3 H3 es ((Nw.trans ((Nw.refl e).grow e12) n3).offD hne nb) (n3.hh _ _ (e12 _ _ hd)) (mo.mono n3.bb) fun _ _ => rfl
  have e12 := e1.trans e2
  have m2 : Nw B H B H2 := (Nw.refl e).grow e12
  refine q_set (P := poKey (x.length : Int) y) m2.bh (ev_key (ev_len (r := int) (ev_var rfl hv)) (ev_var rfl hw) (by rw [pre.len]; have := pre.l6; omega)) fun vk B3 H3 n3 ⟨ns, b, hperm, hvk, hkey⟩ => ?_
  subst hvk
  have m3 := m2.trans n3
  have hd3 := m3.hh _ _ hd
  have nb3 := m3.ne hne nb
  have mo3 := mo.mono m3.bb
  have hwp : waysF x ns = waysF x y := ways_perm_cols hperm (fun c hc => hyn c (hperm.mem_iff.mp hc)) hxn
  refine q_ifR (J := fun σ' H' => ∃ B' es' y4 y5 y6, σ' = [some v, some w, some (.ref d), some (.ref b), y4, y5, y6] ∧ Nw B (off d H) B' (off d H') ∧ Ex B3 B' ∧ H' d = some (MKD.Dic d es') ∧ MemoOk R L B' es' ∧ MKD.look es' ((x.length : Int), ns) = some ((waysF x y : Nat) : Int) ∧ ∀ k : MKD.Ky, (x.length : Int) < k.1 → MKD.look es' k = MKD.look es k) ?_ fun rest => ?_
  · rintro σ' H' ⟨B', es', y4, y5, y6, rfl, m', e3', hd', mo', hl, hlk⟩
    have kb : MKD.KeyAt H' ((x.length : Int), ns) b := by
      obtain ⟨t, h1, h2⟩ := hkey
      exact ⟨t, m'.baseD _ _ (e3' _ _ h1), m'.baseD _ _ (e3' _ _ h2)⟩
    exact ⟨.ref d, rfl, .ref b, rfl, d, es', b, _, _, rfl, hd', mo'.heap m'.baseD, rfl, kb, hl, q B' H' es' m' hd' mo' hlk⟩
  · refine ⟨.ref b, rfl, .ref d, rfl, d, es, b, ((x.length : Int), ns), rfl, hd3, mo3.heap n3.bh, rfl, (by obtain ⟨t, h1, h2⟩ := hkey; exact ⟨t, n3.bh _ _ h1, n3.bh _ _ h2⟩), _, rfl, ?_⟩
    cases hlook : MKD.look es ((x.length : Int), ns) with
    | some val =>
      refine iteF (rest _ H3 ⟨B3, es, none, none, none, rfl, m3.offD hne nb, Ex.refl _, hd3, mo3, ?_, fun _ _ => rfl⟩)
      obtain ⟨b', hm⟩ := look_mem hlook
      obtain ⟨rs, s1, s2, s3, s4, s5⟩ := mo.vs _ hm
      have s2 : (x.length : Int) = (rs.length : Int) := s2
      have : rs = x := suffix_same s1 pre.suf (by omega)
      have s5 : val = (waysF rs ns : Nat) := s5
      rw [hlook, s5, this, hwp]
    | none =>
      refine iteT ?_
      refine q_set (P := poR int 0) n3.bh ev_int fun u B4 H4 n4 hu => ?_
      cases hu
      have m4 := m3.trans n4
      have hd4 := m4.hh _ _ hd
      have nb4 := m4.ne hne nb
      obtain ⟨x0, xr, rfl⟩ : ∃ x0 xr, x = x0 :: xr := by
        cases x with
        | nil => simp at hx0
        | cons x0 xr => exact ⟨x0, xr, rfl⟩
      have hv4 := il.stE m4.bb hv
      have hw4 := il.stE m4.bb hw
      have l1 := pre.l1
      have l6 := pre.l6
      have ly := pre.len
      let f : List Int → Nat := fun p => if okF (subF y p) then waysF xr (subF y p) else 0
      have hpc := pat_count x0 y.length
      refine q_forL (r := il) (xs := patF x0 y.length) m4.bh (EV.of_b (by have := ev_pat (σ := [some v, some w, some (.ref d), some (.ref b), some (.int 0), none, none]) (B := B4) (c := x0) (s := (y.length : Int)) (ev_ix (K := K) (r := int) (xs := x0 :: xr) (ev_var (i := 0) rfl hv4) ev_int (atI_zero rfl)) (ev_len (K := K) (r := int) (xs := y) (ev_var (i := 1) rfl hw4)) (by omega) (by omega); rw [Int.toNat_natCast] at this; exact this))
        (fun B5 i σ' H' => ∃ B6 es2 y5 y6, σ' = [some v, some w, some (.ref d), some (.ref b), some (.int ((((patF x0 y.length).take i).map f).sum : Nat)), y5, y6] ∧ Ex B5 B6 ∧ Ex B4 B6 ∧ Nw B (off d H) B6 (off d H') ∧ H' d = some (MKD.Dic d es2) ∧ MemoOk R L B6 es2 ∧ ∀ k : MKD.Ky, (((x0 :: xr).length : Nat) : Int) ≤ k.1 → MKD.look es2 k = MKD.look es k)
        (fun B5 H5 n5 => ⟨B5, es, none, none, rfl, Ex.refl _, n5.bb, (m4.trans n5).offD hne nb, n5.hh _ _ hd4, mo.mono (m4.trans n5).bb, fun _ _ => rfl⟩) (fun B5 i σ' H' ⟨B6, _, _, _, _, x56, _, m6, _⟩ => Sx.of (x56.trans m6.baseD)) ?_ ?_
      · rintro B5 H5 i p vp σ' H' n5 hi hp ⟨B6, es2, y5, y6, rfl, x56, x46, m6, hd6, mo6, lk6⟩
        have hpl : p.length = y.length := pat_len (List.mem_of_getElem? hi)
        have hp6 := il.stE x56 hp
        have hw6 := il.stE x46 hw4
        have hv6 := il.stE x46 hv4
        have nb6 := m6.noneD
        have hne6 := some_ne hd6
        refine q_set (P := poOL (okF (subF y p)) (subF y p)) m6.baseD (ev_less (ev_var rfl hw6) (ev_var rfl hp6) hpl (by omega) (by omega)) fun vl B7 H7 n7 hvl => ?_
        have m7 : Nw B (off d H) B7 (off d H7) := m6.trans (n7.offD hne6 nb6)
        have hd7 := n7.hh _ _ hd6
        have hne7 := some_ne hd7
        have nb7 := m7.noneD
        refine w_if0 (b := okF (subF y p)) n7.bh (t_left rfl hvl) (fun hok H8 e8 => ?_) (fun hok H8 e8 => ?_)
        · rw [hok] at hvl
          have hvl : (poL int (subF y p)).P H' B7 vl := hvl
          have hl7 := poL_lst hvl
          have e8' := n7.bh.trans e8
          have hd8 := e8 _ _ hd7
          have hxr : xr <:+ R := (List.suffix_cons x0 xr).trans pre.suf
          have pre2 : WaysPre R L xr (subF y p) := ⟨hxr, pre.few, pre.pos, by rw [subF_len hpl, ly], l1, l6, fun c hc => by
            have h0 := okF_iff.mp hok c hc
            obtain ⟨k, hk, rfl⟩ := mem_getD hc
            rw [subF_len hpl] at hk
            rw [zw_sub_get hk (by omega)] at h0 ⊢
            have h6 := (pre.cs _ (getD_mem hk)).2
            have h01 := (mem_pat.mp (List.mem_of_getElem? hi)).2.1 _ (getD_mem (k := k) (l := p) (by omega))
            omega⟩
          refine ⟨.int ((((patF x0 y.length).take i).map f).sum : Nat), rfl, run_ways (R := R) (L := L) (es := es2) e8' (EV.of_n (ev_from (n := 1) (K := K) (ev_var (i := 0) rfl (il.stE n7.bb hv6)) ev_int rfl)) (ev_var rfl hl7) rfl (by show (List.drop 1 (x0 :: xr)).length < n; simp at hx ⊢; omega) pre2 nb7 hd8 (mo6.mono n7.bb) fun B9 H9 es9 n9 hd9 mo9 lk9 => ?_⟩
          refine ⟨_, _, rfl, rfl, ?_⟩
          refine ⟨B9, es9, some vp, some vl, ?_, (x56.trans n7.bb).trans n9.bb, (x46.trans n7.bb).trans n9.bb, (m7.trans ((Nw.refl n7.bh).grow e8 |>.offD hne7 nb7)).trans n9, hd9, mo9, fun k hk => ?_⟩
          · rw [sum_take hi]
            have : f p = waysF xr (subF y p) := if_pos hok
            rw [this]
            rw [Int.natCast_add]
            rfl
          · rw [lk9 k (by simp at hk ⊢; omega), lk6 k hk]
        · refine ⟨B7, es2, some vp, some vl, ?_, x56.trans n7.bb, x46.trans n7.bb, m7.trans ((Nw.refl n7.bh).grow e8 |>.offD hne7 nb7), e8 _ _ hd7, mo6.mono n7.bb, lk6⟩
          rw [sum_take hi]
          have : f p = 0 := if_neg (by rw [hok]; decide)
          rw [this]
          rfl
      · rintro B5 σ' H' ⟨B6, es2, y5, y6, rfl, x56, x46, m6, hd6, mo6, lk6⟩
        rw [List.take_length]
        have htot : ((patF x0 y.length).map f).sum = waysF (x0 :: xr) y := ways_cons.symm
        rw [htot]
        have kb : MKD.KeyAt B6 (((x0 :: xr).length : Int), ns) b := by
          obtain ⟨t, h1, h2⟩ := hkey
          exact ⟨t, x46 _ _ (n4.bb _ _ h1), x46 _ _ (n4.bb _ _ h2)⟩
        have kbH : MKD.KeyAt H' (((x0 :: xr).length : Int), ns) b := by
          obtain ⟨t, h1, h2⟩ := kb
          exact ⟨t, m6.baseD _ _ h1, m6.baseD _ _ h2⟩
        have hnone : MKD.look es2 (((x0 :: xr).length : Int), ns) = none := by rw [lk6 _ (Int.le_refl _)]; exact hlook
        have hsz := mo6.small pre.few l6
        refine ⟨_, rfl, .ref d, rfl, .ref b, rfl, d, es2, b, _, _, rfl, hd6, mo6.heap m6.baseD, rfl, kbH, rfl, hnone, by rw [sizeLine_eq]; omega, ?_⟩
        refine rest _ _ ⟨B6, _, _, y5, y6, rfl, by rw [off_upd]; exact m6, n4.bb.trans x46, upd_same, ⟨?_, ?_, ?_⟩, look_new hnone, fun k hk => ?_⟩
        · intro z hz
          rcases List.mem_append.mp hz with hz | hz
          · exact mo6.ks z hz
          · rw [List.mem_singleton.mp hz]
            exact kb
        · rw [List.map_append]
          refine List.nodup_append.mpr ⟨mo6.nd, by simp, fun k hk l hl he => ?_⟩
          subst he
          have hl : k = (((x0 :: xr).length : Int), ns) := by simpa using hl
          subst hl
          exact look_none hnone hk
        · intro z hz
          rcases List.mem_append.mp hz with hz | hz
          · exact mo6.vs z hz
          · rw [List.mem_singleton.mp hz]
            refine ⟨x0 :: xr, pre.suf, rfl, by rw [← ly]; exact hperm.length_eq, fun c hc => pre.cs c (hperm.mem_iff.mp hc), ?_⟩
            show ((waysF (x0 :: xr) y : Nat) : Int) = _
            rw [← hwp]
        · rw [look_other (fun z => by rw [z] at hk; exact absurd hk (Int.lt_irrefl _)), lk6 k (Int.le_of_lt hk)]
theorem w_callX2 {α β : Type} {r : R α} {q : R β} {f : α → β → Sum Addr Po} {x : α} {y : β} {σ : St} {B : Hp} {ta tb : TE} {W : WX} {D : Ends} {tw : TS} (e : Ex B H) (h1 : EVr ta σ B r x) (h2 : EVr tb σ B q y) (k1 : ∀ C, f x y = .inl C → ∀ H1, Ex H H1 → W (.ref C) none σ H1) (k2 : ∀ po, f x y = .inr po → ∀ v B1 H1, Nw B H B1 H1 → po.P H B1 v → tw D σ H1) :
    tSeq (tDrop (tCallS (sp2x r q f) (WE W) (tCons ta (tCons tb tNil)))) tw D σ H := h1.run e fun v B1 H1 n1 hv => (h2.mono n1.bb).run n1.bh fun w B2 H2 n2 hw => ⟨B2, v, w, x, y, n2.bh, rfl, r.stE n2.bb hv, hw, fun C hC H3 e3 => k1 C hC H3 ((n1.hh.trans n2.hh).trans e3), fun po hp u B3 H3 n3 hu => k2 po hp u B3 H3 ((n1.trans n2).trans n3) (po.dn (n1.hh.trans n2.hh) hu)⟩
/-- asked_counts(rows, columns), then what follows -/
theorem q_asked {C : Er} {σ : St} {B : Hp} {ta tb : TE} {W : WX} {D : Ends} {tw : TS} {r c : List Int} (e : Ex B H) (h1 : EVr ta σ B il r) (h2 : EVr tb σ B il c) (k1 : isC r c = false → ∀ H1, Ex H H1 → W (.ref C.NoCounts) none σ H1) (k2 : isC r c = true → ∀ B1 H1, Nw B H B1 H1 → tw D σ H1) :
    tSeq (tDrop (tCallS (sp_asked_counts C) (WE W) (tCons ta (tCons tb tNil)))) tw D σ H := w_callX2 (r := il) (q := il) (x := r) (y := c) e h1 h2 (fun c' hc H1 e1 => by
  split at hc
  · cases hc
  · rename_i hb
    cases hc
    exact k1 (by simpa using hb) H1 e1) (fun po hp u B1 H1 n1 hu => by
  split at hp
  · rename_i hb
    exact k2 hb B1 H1 n1
  · cases hp)
theorem pure_many {C : Er} (h : sp_many C vs H Q E) : t_many K (fun cls d _ H => E cls d H) C { nx := fun _ H' => Q .non H', rt := Q } (L2.start ["rows", "columns"] vs) H := by
  obtain ⟨B, v, w, r, c, e, rfl, hv, hw, k1, k2⟩ := h
  show t_many K _ C _ [some v, some w] H
  unfold t_many
  refine q_asked (r := r) (c := c) e (ev_var rfl hv) (ev_var rfl hw) (fun hc H1 e1 => k1 _ (if_neg (by rw [hc]; decide)) H1 e1) fun hc B1 H1 n1 => ?_
  refine w_ret (P := poR int (waysF r c : Nat)) n1.bh (ev_ways0 (ev_var rfl (il.stE n1.bb hv)) (ev_var rfl (il.stE n1.bb hw)) (pre_of hc)) fun u B2 H2 n2 hu => ?_
  exact k2 _ (if_pos hc) u B2 H2 (n1.trans n2) hu
end
end MK

namespace MK
open PySem PySem.Spec PyProof.Rows L2 Evl
/-! ### a list of rows that grows; its rows stand still -/
structure OwnL (H0 B H : Hp) (a : Addr) (ps : List Addr) (bs : List (List Int)) : Prop where
  na : H0 a = none
  nb : B a = none
  at_ : H a = some (.lst (ps.map V.ref))
  out : a ∉ ps
  nd : ps.Nodup
  new : ∀ p ∈ ps, H0 p = none
  rows : Paired (IsRow B) ps bs
theorem OwnL.close {H0 B0 B H : Hp} {a : Addr} {ps : List Addr} {bs : List (List Int)} (m : Nw B0 H0 B H) (h : OwnL H0 B H a ps bs) : Nw B0 H0 (upd B a (.lst (ps.map V.ref))) H ∧ BdAt H0 (upd B a (.lst (ps.map V.ref))) a ps bs := ⟨m.adopt h.nb h.na h.at_, h.na, upd_same, h.out, h.nd, h.new, paired_imp (fun _ _ z => Ex.new h.nb _ _ z) h.rows⟩
theorem OwnL.move {H0 B H B1 H1 : Hp} {a : Addr} {ps : List Addr} {bs : List (List Int)} (h : OwnL H0 B H a ps bs) (e : Ex B B1) (nb : B1 a = none) (ha : H1 a = some (.lst (ps.map V.ref))) : OwnL H0 B1 H1 a ps bs := ⟨h.na, nb, ha, h.out, h.nd, h.new, paired_imp (fun _ _ z => e _ _ z) h.rows⟩
section
variable {α β γ ζ : Type} {r : R α} {q : R β} {x : α} {y : β} {σ : St} {B B' : Hp} {ta tb tc td te tl : TE} {P P' : Po} {b c : Bool} {i k z : Int} {K : PySem.W.Frag} {j n : Nat} {D : Ends} {tu tw : TS} {H H0 B0 : Hp} {a : Addr} {ps : List Addr} {xss yss : List (List Int)}
/-- for row in a new board whose rows are told by their places -/
theorem w_forB (e : Ex B H) (h : EV tl σ B (poB xss)) (I : Hp → List Addr → Nat → St → Hp → Prop) (h0 : ∀ a qs B1 H1, Nw B H B1 H1 → BdAt H B1 a qs xss → I B1 qs 0 σ H1) (hk : ∀ B1 qs i σ' H', I B1 qs i σ' H' → Sx B1 H')
    (hs : ∀ a qs B1 H1 i p x σ' H', Nw B H B1 H1 → BdAt H B1 a qs xss → qs[i]? = some p → xss[i]? = some x → IsRow B1 p x → I B1 qs i σ' H' → tu { D with nx := I B1 qs (i + 1), ct := I B1 qs (i + 1), bk := D.nx } (σ'.set j (some (.ref p))) H') (hd : ∀ qs B1 σ' H', I B1 qs xss.length σ' H' → D.nx σ' H') : tFor (iList K tl) (gName j) tu D σ H :=
  h.run e fun v B1 H1 m ⟨a, qs, e0, hb⟩ => by
    subst e0
    refine ⟨a, rfl, ⟨_, SqL.of (m.bh _ _ hb.at_)⟩, for_list (K := K) (a := a) (xs := qs.map V.ref) (I B1 qs) (h0 a qs B1 H1 m hb) (fun i σ' H' _ p => SqL.of ((hk B1 qs i σ' H' p).l hb.at_)) (fun i v σ' H' hi p => ?_) (fun σ' H' p => hd qs B1 σ' H' (by rw [List.length_map, paired_len hb.rows] at p; exact p))⟩
    rw [List.getElem?_map] at hi
    obtain ⟨q, hq, rfl⟩ := Option.map_eq_some_iff.mp hi
    obtain ⟨x, hx, hr⟩ := paired_getL hb.rows hq
    exact hs a qs B1 H1 i q x σ' H' m hb hq hx hr p
end
theorem w_break {D : Ends} {σ : St} {H : Hp} (h : D.bk σ H) : tBreak D σ H := h
/-- the first k rows are a board's: the rest counts on -/
def Onward (r c : List Int) (num0 : Nat) (k : Nat) (bs : List (List Int)) (left : List Int) (num : Int) : Prop := 0 ≤ num ∧ num < (waysF (r.drop k) left : Nat) ∧ (brdF r c)[num0]? = ((brdF (r.drop k) left)[num.toNat]?).map (bs ++ ·)
theorem pre_sub {r c left : List Int} {k : Nat} (hc : isC r c = true) (hl : left.length = c.length) (h0 : ∀ x ∈ left, 0 ≤ x ∧ x ≤ 6) : WaysPre r c.length (r.drop k) left := by
  obtain ⟨h1, h2, h3, h4, h5, h6⟩ := isC_parts hc
  exact ⟨List.drop_suffix _ _, h2, fun x hx => (h5 x hx).1, hl, h3, h4, h0⟩
theorem sub_range {left p : List Int} (hp : p.length = left.length) (h01 : Is01 p) (hok : okF (subF left p) = true) (h6 : ∀ x ∈ left, 0 ≤ x ∧ x ≤ 6) : ∀ x ∈ subF left p, 0 ≤ x ∧ x ≤ 6 := fun c hc => by
  have h0 := okF_iff.mp hok c hc
  obtain ⟨k, hk, rfl⟩ := mem_getD hc
  rw [subF_len hp] at hk
  rw [zw_sub_get hk (by omega)] at h0 ⊢
  have := (h6 _ (getD_mem hk)).2
  have := h01 _ (getD_mem (k := k) (l := p) (by omega))
  omega
section
variable {vs : List V} {H : Hp} {Q : VK} {E : XK} {K : PySem.W.Frag}
/-- where number_of and board_at stand behind {} -/
theorem q_dict {σ : St} {B0 H0 B : Hp} {n : Nat} {D : Ends} {tw : TS} {R : List Int} {L : Nat} (m : Nw B0 H0 B H) (k : ∀ d H1, H0 d = none → B d = none → H1 d = some (MKD.Dic d []) → Ex H H1 → Nw B0 H0 B H1 → MemoOk R L B [] → tw D (σ.set n (some (.ref d))) H1) : tSeq (tAsg MKD.tDNew (gName n)) tw D σ H := fun p hp =>
  k p _ (fresh_back m.hh hp) (fresh_back m.bh hp) upd_same (Ex.new hp) (m.mut (fresh_back m.bh hp) (fresh_back m.hh hp)) MemoOk.nil
theorem pure_board_at {C : Er} (h : sp_board_at C vs H Q E) : t_board_at K (fun cls d _ H => E cls d H) C { nx := fun _ H' => Q .non H', rt := Q } (L2.start ["rows", "columns", "number", "known", "board", "left", "k", "pattern", "later", "some"] vs) H := by
  obtain ⟨B, v, w, t, r, c, num0, e, rfl, hv, hw, ht, k1, k2⟩ := h
  cases ht
  have k1 : ∀ c', (if isC r c = true then if 0 ≤ num0 ∧ num0 < (waysF r c : Nat) then Sum.inr (poB (boardAtF r c num0)) else Sum.inl C.NoNumber else Sum.inl C.NoCounts) = Sum.inl c' → ∀ H', Ex H H' → E (.ref c') none H' := k1
  have k2 : ∀ po, (if isC r c = true then if 0 ≤ num0 ∧ num0 < (waysF r c : Nat) then Sum.inr (poB (boardAtF r c num0)) else Sum.inl C.NoNumber else Sum.inl C.NoCounts) = Sum.inr po → ∀ u B' H', Nw B H B' H' → po.P H B' u → Q u H' := k2
  show t_board_at K _ C _ [some v, some w, some (.int num0), none, none, none, none, none, none, none] H
  unfold t_board_at
  refine q_asked (r := r) (c := c) e (ev_var rfl hv) (ev_var rfl hw) (fun hc H1 e1 => k1 _ (if_neg (by rw [hc]; decide)) H1 e1) fun hc B1 H1 n1 => ?_
  rw [if_pos hc] at k1 k2
  have hv1 := il.stE n1.bb hv
  have hw1 := il.stE n1.bb hw
  obtain ⟨l1, l2, l3, l4, l5, l6⟩ := isC_parts hc
  refine q_dict (R := r) (L := c.length) n1 fun d H2 d0 nb2 hd2 e2 m2 mo2 => ?_
  -- the number's place
  have past : ∀ H3, Ex H H3 → ¬ (0 ≤ num0 ∧ num0 < (waysF r c : Nat)) → (fun cls d _ H => E cls d H : WX) (.ref C.NoNumber) none [some v, some w, some (.int num0), some (.ref d), none, none, none, none, none, none] H3 := fun H3 e3 hn => k1 _ (if_neg hn) H3 e3
  refine ⟨.int num0, rfl, num0, 0, rfl, rfl, _, rfl, ?_⟩
  by_cases hneg : num0 < 0
  · rw [decide_eq_true hneg]
    exact iteT (iteT (past H2 m2.hh (by omega)))
  rw [decide_eq_false hneg]
  refine iteF ⟨.int num0, rfl, run_ways (R := r) (L := c.length) (es := []) m2.bh (ev_var rfl hv1) (ev_var rfl hw1) rfl (by omega) (pre_of hc) nb2 hd2 mo2 fun B3 H3 es3 n3 hd3 mo3 _ => ?_⟩
  have m3' : Nw B H B3 H3 := ((m2.hideD d0 nb2).trans n3).newD d0
  refine ⟨num0, _, rfl, rfl, _, rfl, ?_⟩
  by_cases hbig : ((waysF r c : Nat) : Int) ≤ num0
  · rw [decide_eq_true hbig]
    exact iteT (past H3 m3'.hh (by omega))
  rw [decide_eq_false hbig]
  refine iteF ?_
  have hin : 0 ≤ num0 ∧ num0 < (waysF r c : Nat) := by omega
  have k2 := k2 _ (if_pos hin)
  have hv3 := il.stE n3.bb hv1
  have hw3 := il.stE n3.bb hw1
  have nb3 := n3.noneD
  have hne3 := some_ne hd3
  refine q_setL (r := il) (xs := []) m3'.bh (ev_lst ea_nil (by decide)) fun a us B4 H4 n4 ha hna hHa hP => ?_
  cases hP
  have a0 : H a = none := fresh_back m3'.hh ha
  have hd4 := n4.hh _ _ hd3
  have m4 := m3'.trans n4
  have nb4 : B4 d = none := n4.ne hne3 nb3
  refine q_set (P := poL int c) m4.bh (ev_list (ev_var rfl (il.stE n4.bb hw3))) fun vl B5 H5 n5 hl5 => ?_
  have hl5 := poL_lst hl5
  have m5 := m4.trans n5
  have hd5 := n5.hh _ _ hd4
  have nb5 : B5 d = none := n5.ne (some_ne hd4) nb4
  have na5 : B5 a = none := n5.ne (some_ne hHa) hna
  refine q_forR (n := r.length) m5.bh (ev_len (r := int) (ev_var rfl (il.stE (n4.bb.trans n5.bb) hv3))) (by omega)
    (fun k σ' H' => ∃ Bk es ps bs vl left num y6 y7 y8 y9, σ' = [some v, some w, some (.int num), some (.ref d), some (.ref a), some vl, y6, y7, y8, y9] ∧ Nw B H Bk H' ∧ Bk d = none ∧ H' d = some (MKD.Dic d es) ∧ MemoOk r c.length Bk es ∧ il.p Bk vl left ∧ OwnL H Bk H' a ps bs ∧ left.length = c.length ∧ (∀ x ∈ left, 0 ≤ x ∧ x ≤ 6) ∧ bs.length = k ∧ Onward r c num0.toNat k bs left num)
    (fun H6 e6 => ⟨B5, es3, [], [], vl, c, num0, none, none, none, none, rfl, m5.grow e6, nb5, e6 _ _ hd5, mo3.mono (n4.bb.trans n5.bb), hl5, ⟨a0, na5, e6 _ _ (n5.hh _ _ hHa), by simp, List.nodup_nil, by simp, .nil⟩, rfl, fun x hx => ⟨(l6 x hx).1, by have := (l6 x hx).2; omega⟩, rfl, hin.1, hin.2, by rw [List.drop_zero]; cases (brdF r c)[num0.toNat]? <;> rfl⟩) ?_ ?_
  · rintro k σ' H' hk ⟨Bk, es, ps, bs, vl, left, num, y6, y7, y8, y9, rfl, m, nb, hd, mo, hl, own, ll, l06, hbl, hon0, hon1, hon2⟩
    have hvk := il.stE m.bb hv
    have hwk := il.stE m.bb hw
    obtain ⟨rk, hrk⟩ : ∃ rk, r[k]? = some rk := ⟨_, List.getElem?_eq_getElem hk⟩
    have hdrop : r.drop k = rk :: r.drop (k + 1) := by
      rw [List.drop_eq_getElem_cons hk]
      rw [List.getElem?_eq_getElem hk] at hrk
      rw [Option.some.inj hrk]
    rw [hdrop] at hon1 hon2
    have hpats : patF rk c.length = patF rk left.length := by rw [ll]
    refine w_forB (xss := patF rk left.length) m.bh (by have := ev_pat (σ := [some v, some w, some (.int num), some (.ref d), some (.ref a), some vl, some (.int (k : Int)), y7, y8, y9]) (B := Bk) (ev_ix (K := K) (r := int) (xs := r) (ev_var (i := 0) rfl hvk) (ev_varI (i := 6) (z := (k : Int)) rfl) (atI_nat hrk)) (ev_len (K := K) (r := int) (xs := c) (ev_var (i := 1) rfl hwk)) (by omega) (by omega); rw [Int.toNat_natCast, hpats] at this; exact this)
      (fun B6 qs i σ' H' => ∃ B7 es' num' y7 y8 y9, σ' = [some v, some w, some (.int num'), some (.ref d), some (.ref a), some vl, some (.int (k : Int)), y7, y8, y9] ∧ Ex Bk B6 ∧ Ex B6 B7 ∧ Nw B H B7 H' ∧ B7 d = none ∧ H' d = some (MKD.Dic d es') ∧ MemoOk r c.length B7 es' ∧ B7 a = none ∧ H' a = some (.lst (ps.map V.ref)) ∧ 0 ≤ num' ∧ num' < ((((patF rk left.length).drop i).flatMap (behindF (r.drop (k + 1)) left)).length : Nat) ∧ (brdF (rk :: r.drop (k + 1)) left)[num.toNat]? = (((patF rk left.length).drop i).flatMap (behindF (r.drop (k + 1)) left))[num'.toNat]?)
      (fun a2 qs B6 H6 n6 hb => ⟨B6, es, num, y7, y8, y9, rfl, n6.bb, Ex.refl _, m.trans n6, n6.ne (some_ne hd) nb, n6.hh _ _ hd, mo.mono n6.bb, n6.ne (some_ne own.at_) own.nb, n6.hh _ _ own.at_, hon0, by rw [List.drop_zero, ← brd_cons]; exact hon1, by rw [List.drop_zero, ← brd_cons]⟩)
      (fun B6 qs i σ' H' ⟨B7, _, _, _, _, _, _, _, x67, m7, _⟩ => Sx.of (x67.trans m7.bh)) ?_ ?_
    · rintro a2 qs B6 H6 i p x σ' H' n6 hb hp hx hrow ⟨B7, es', num', y7, y8, y9, rfl, xk6, x67, m7, nb7, hd7, mo7, na7, ha7, hn0, hn1, hn2⟩
      obtain ⟨xl, x01, _⟩ := mem_pat.mp (List.mem_of_getElem? hx)
      have xd : (patF rk left.length).drop i = x :: (patF rk left.length).drop (i + 1) := by
        have hi := (List.getElem?_eq_some_iff.mp hx).1
        rw [List.drop_eq_getElem_cons hi]
        rw [List.getElem?_eq_getElem hi] at hx
        rw [Option.some.inj hx]
      rw [xd, List.flatMap_cons] at hn1 hn2
      have hrow7 : IsRow B7 p x := x67 _ _ hrow
      have hl7 := il.stE (xk6.trans x67) hl
      refine q_set (P := poOL (okF (subF left x)) (subF left x)) m7.bh (ev_less (ev_var rfl hl7) (ev_var rfl (il_of hrow7)) xl (by omega) (by omega)) fun vx B8 H8 n8 hvx => ?_
      have m8 := m7.trans n8
      have hd8 := n8.hh _ _ hd7
      have nb8 := n8.ne (some_ne hd7) nb7
      have ha8 := n8.hh _ _ ha7
      have na8 := n8.ne (some_ne ha7) na7
      refine w_if0 (b := okF (subF left x)) m8.bh (t_left rfl hvx) (fun hok H9 e9 => ?_) (fun hok H9 e9 => ?_)
      · rw [hok] at hvx
        have hvx : (poL int (subF left x)).P H' B8 vx := hvx
        have hlx := poL_lst hvx
        have m9 := m8.grow e9
        have l06' := sub_range xl x01 hok l06
        have lx : (subF left x).length = c.length := by rw [subF_len xl, ll]
        refine run_ways (R := r) (L := c.length) (es := es') m9.bh (EV.of_n (ev_from (n := k + 1) (K := K) (ev_var (i := 0) rfl (il.stE m9.bb hv)) (ev_ii (ev_varI (i := 6) rfl) ev_int rfl) (by omega))) (ev_var rfl hlx) rfl (by rw [List.length_drop]; omega) (pre_sub hc lx l06') nb8 (e9 _ _ hd8) (mo7.mono n8.bb) fun B10 H10 es10 n10 hd10 mo10 _ => ?_
        have m10 : Nw B H B10 H10 := by
          have z := (m9.hideD d0 nb8).trans n10
          exact z.newD d0
        have ne_ad : a ≠ d := fun z => by
          have := e9 _ _ hd8
          rw [← z, e9 _ _ ha8] at this
          cases this
        have ha10 : H10 a = some (.lst (ps.map V.ref)) := by
          have := n10.hh a _ (by rw [off_ne ne_ad]; exact e9 _ _ ha8)
          rw [off_ne ne_ad] at this
          exact this
        have na10 : B10 a = none := by
          rw [n10.fr a (by rw [off_ne ne_ad, e9 _ _ ha8]; intro z; cases z)]
          exact na8
        have nb10 := n10.noneD
        have hlen : (behindF (r.drop (k + 1)) left x).length = waysF (r.drop (k + 1)) (subF left x) := by rw [behind_len, if_pos hok]
        refine q_if (b := decide (num' < (waysF (r.drop (k + 1)) (subF left x) : Nat))) m10.bh (t_test (ev_iib (ev_varI rfl) (ev_varI rfl) rfl)) (fun hlt H11 e11 => ?_) (fun hlt H11 e11 => ?_)
        · have hlt : num' < (waysF (r.drop (k + 1)) (subF left x) : Nat) := of_decide_eq_true hlt
          have m11 := m10.grow e11
          have hrow10 : IsRow B10 p x := n10.bb _ _ (n8.bb _ _ hrow7)
          have hpa : p ≠ a := fun z => by
            have := m10.bh _ _ hrow10
            rw [z, ha10] at this
            have h2 : HO.lst (ps.map V.ref) = .lst (x.map V.int) := Option.some.inj this
            have h3 : ps.map V.ref = x.map V.int := by injection h2
            have hx1 : 1 ≤ x.length := by omega
            cases x with
            | nil => simp at hx1
            | cons x0 xr =>
              cases ps with
              | nil => cases h3
              | cons p0 pr =>
                rw [List.map_cons, List.map_cons] at h3
                injection h3 with h4
                cases h4
          have hpn : H p = none := fresh_back m.hh (hb.new p (List.mem_of_getElem? hp))
          have hpps : p ∉ ps := fun z => by
            obtain ⟨y, _, hy⟩ := paired_getL (i := ps.idxOf p) own.rows (by rw [List.getElem?_eq_getElem (List.idxOf_lt_length_of_mem z), List.getElem_idxOf])
            have := m.bh _ _ hy
            have h2 := hb.new p (List.mem_of_getElem? hp)
            rw [h2] at this
            cases this
          refine q_app (P := poA p) m11.bh (e11 _ _ ha10) na10 rfl (ev_ref rfl) (by rw [List.length_map, paired_len own.rows]; omega) fun u B12 H12 n12 na12 hu => ?_
          have hu : u = .ref p := hu
          subst hu
          have m12 := (m11.trans n12).mut (o := .lst (ps.map V.ref ++ [V.ref p])) na12 a0
          refine q_set (P := poR il (subF left x)) m12.bh (ev_var rfl (il.stE (n10.bb.trans n12.bb) hlx)) fun u B13 H13 n13 hu => ?_
          have m13 := m12.trans n13
          have hd12 : upd H12 a (.lst (ps.map V.ref ++ [V.ref p])) d = some (MKD.Dic d es10) := (upd_ne (Ne.symm ne_ad)).trans (n12.hh _ _ (e11 _ _ hd10))
          have hin2 : num'.toNat < (behindF (r.drop (k + 1)) left x).length := by rw [hlen]; omega
          refine w_break ?_
          refine ⟨B13, es10, ps ++ [p], bs ++ [x], u, subF left x, num', _, _, _, _, rfl, m13, n13.ne (some_ne hd12) (n12.ne (some_ne (e11 _ _ hd10)) nb10), n13.hh _ _ hd12, mo10.mono (n12.bb.trans n13.bb), hu, ⟨a0, n13.ne (some_ne upd_same) na12, ?_, ?_, ?_, ?_, ?_⟩, lx, l06', by rw [List.length_append, hbl]; rfl, hn0, hlt, ?_⟩
          · rw [List.map_append]
            exact n13.hh _ _ upd_same
          · intro z
            rcases List.mem_append.mp z with z | z
            · exact own.out z
            · exact hpa (List.mem_singleton.mp z).symm
          · exact List.nodup_append.mpr ⟨own.nd, by simp, fun y hy z hz he => by
              subst he
              rw [List.mem_singleton.mp hz] at hy
              exact hpps hy⟩
          · intro z hz
            rcases List.mem_append.mp hz with hz | hz
            · exact own.new z hz
            · rw [List.mem_singleton.mp hz]
              exact hpn
          · refine paired_app (paired_imp (fun _ _ z => n13.bb _ _ (n12.bb _ _ (n10.bb _ _ (n8.bb _ _ (x67 _ _ (xk6 _ _ z)))))) own.rows) (.cons (n13.bb _ _ (n12.bb _ _ hrow10)) .nil)
          · rw [hon2, hn2, List.getElem?_append_left hin2, behind_at hok]
            cases (brdF (r.drop (k + 1)) (subF left x))[num'.toNat]? with
            | none => rfl
            | some z =>
              show some (bs ++ x :: z) = some (bs ++ [x] ++ z)
              rw [List.append_assoc]
              rfl
        · have hge : ¬ num' < (waysF (r.drop (k + 1)) (subF left x) : Nat) := of_decide_eq_false hlt
          have m11 := m10.grow e11
          refine w_set (P := poR int (num' - (waysF (r.drop (k + 1)) (subF left x) : Nat))) m11.bh (ev_ii (ev_varI rfl) (ev_varI rfl) rfl) fun u B12 H12 n12 hu => ?_
          cases hu
          rw [List.length_append, hlen] at hn1
          refine ⟨B12, es10, num' - (waysF (r.drop (k + 1)) (subF left x) : Nat), _, _, _, rfl, xk6, ((x67.trans n8.bb).trans n10.bb).trans n12.bb, m11.trans n12, n12.ne (some_ne (e11 _ _ hd10)) nb10, n12.hh _ _ (e11 _ _ hd10), mo10.mono n12.bb, n12.ne (some_ne (e11 _ _ ha10)) na10, n12.hh _ _ (e11 _ _ ha10), by omega, by omega, ?_⟩
          rw [hn2, List.getElem?_append_right (by rw [hlen]; omega), hlen]
          congr 1
          omega
      · have hz : behindF (r.drop (k + 1)) left x = [] := if_neg (by rw [hok]; decide)
        rw [hz, List.nil_append] at hn1 hn2
        exact ⟨B8, es', num', _, _, _, rfl, xk6, x67.trans n8.bb, m8.grow e9, nb8, e9 _ _ hd8, mo7.mono n8.bb, na8, e9 _ _ ha8, hn0, hn1, hn2⟩
    · rintro qs B6 σ' H' ⟨B7, es', num', y7, y8, y9, rfl, xk6, x67, m7, nb7, hd7, mo7, na7, ha7, hn0, hn1, hn2⟩
      rw [List.drop_length] at hn1
      simp at hn1
      omega
  · rintro σ' H' ⟨Bk, es, ps, bs, vl, left, num, y6, y7, y8, y9, rfl, m, nb, hd, mo, hl, own, ll, l06, hbl, hon0, hon1, hon2⟩
    rw [List.drop_length] at hon1 hon2
    obtain ⟨g1, g2⟩ := own.close m
    refine ⟨.ref a, rfl, k2 _ _ H' g1 ⟨a, ps, rfl, ?_⟩⟩
    have hw1 : waysF [] left ≤ 1 := by
      rw [ways_nil]
      split <;> omega
    have hnum : num = 0 := by omega
    subst hnum
    have hb0 : (brdF [] left)[(0 : Int).toNat]? = some [] := by
      have : 0 < (brdF [] left).length := by
        have : ((0 : Int)) < ((waysF [] left : Nat) : Int) := hon1
        unfold waysF at this
        omega
      unfold brdF at this ⊢
      split
      · rfl
      · rename_i hh
        rw [if_neg hh] at this
        simp at this
    rw [hb0] at hon2
    have : boardAtF r c num0 = bs := by
      unfold boardAtF
      rw [List.getD_eq_getElem?_getD, hon2]
      show bs ++ [] = bs
      rw [List.append_nil]
    rw [this]
    exact g2
end
end MK

namespace MK
open PySem PySem.Spec PyProof.Rows L2 Evl
theorem idx_of_at {l : List (List (List Int))} (hn : l.Nodup) {i : Nat} {b : List (List Int)} (h : l[i]? = some b) : l.idxOf b = i := by
  have hm := List.mem_of_getElem? h
  have hl := List.idxOf_lt_length_of_mem hm
  have h2 : l[l.idxOf b]? = some b := by rw [List.getElem?_eq_getElem hl, List.getElem_idxOf]
  exact (List.getElem?_inj hl hn).mp (h2.trans h.symm)
/-- the columns' counts behind k rows -/
def leftF : List Int → List (List Int) → Nat → List Int
  | cols, _, 0 => cols
  | cols, [], _ + 1 => cols
  | cols, p :: b, k + 1 => leftF (subF cols p) b k
theorem isOf_self {b : List (List Int)} (hb : isB b = true) : IsOf (rowsF b) (colsF b) b := by
  obtain ⟨h1, h2, h3, h4, h5⟩ := isB_parts hb
  have hc : (colsF b).length = wide b := by unfold colsF; rw [List.length_map, List.length_range]
  refine ⟨by unfold rowsF; rw [List.length_map], fun r hr => ⟨by rw [hc]; exact (h5 r hr).1, (h5 r hr).2⟩, rfl, fun k hk => ?_⟩
  rw [hc] at hk
  unfold colsF
  rw [List.getD_eq_getElem?_getD, List.getElem?_map, List.getElem?_range hk]
  rfl
theorem cols_pos {b : List (List Int)} (hb : isB b = true) : (colsF b).length = wide b ∧ ∀ c ∈ colsF b, 0 ≤ c ∧ c ≤ 6 := by
  have hc : (colsF b).length = wide b := by unfold colsF; rw [List.length_map, List.length_range]
  refine ⟨hc, fun c hm => ?_⟩
  unfold colsF at hm
  obtain ⟨k, _, rfl⟩ := List.mem_map.mp hm
  obtain ⟨h1, h2, h3, h4, h5⟩ := isB_parts hb
  have gen : ∀ b : List (List Int), (∀ row ∈ b, ∀ c ∈ row, c = 0 ∨ c = 1) → 0 ≤ (b.map fun row => row.getD k 0).sum ∧ (b.map fun row => row.getD k 0).sum ≤ b.length := fun b => by
    induction b with
    | nil => intro _; exact ⟨Int.le_refl _, Int.le_refl _⟩
    | cons p b ih =>
      intro h
      have i1 := ih fun row hr => h row (List.mem_cons_of_mem _ hr)
      have h0 : p.getD k 0 = 0 ∨ p.getD k 0 = 1 := by
        rw [List.getD_eq_getElem?_getD]
        cases e : p[k]? with
        | none => exact .inl rfl
        | some x => exact h p List.mem_cons_self x (List.mem_of_getElem? e)
      rw [List.map_cons, List.sum_cons, List.length_cons]
      omega
  have := gen b fun row hr => (h5 row hr).2
  omega
theorem isC_self {b : List (List Int)} (hb : isB b = true) : isC (rowsF b) (colsF b) = true := by
  obtain ⟨h1, h2, h3, h4, h5⟩ := isB_parts hb
  obtain ⟨c1, _⟩ := cols_pos hb
  have hr : (rowsF b).length = b.length := by unfold rowsF; rw [List.length_map]
  have sum01 : ∀ row : List Int, (∀ c ∈ row, c = 0 ∨ c = 1) → 0 ≤ row.sum ∧ row.sum ≤ row.length := fun row => by
    induction row with
    | nil => intro _; exact ⟨Int.le_refl _, Int.le_refl _⟩
    | cons a l ih => intro h; rw [List.sum_cons, List.length_cons]; have := ih fun x hx => h x (List.mem_cons_of_mem _ hx); have := h a List.mem_cons_self; omega
  unfold isC
  rw [hr, c1, decide_eq_true h1, decide_eq_true h2, decide_eq_true h3, decide_eq_true h4]
  simp only [Bool.true_and, Bool.and_eq_true, List.all_eq_true, decide_eq_true_eq]
  refine ⟨fun x hx => ?_, fun x hx => ?_⟩
  · unfold rowsF at hx
    obtain ⟨row, hrow, rfl⟩ := List.mem_map.mp hx
    have := sum01 row (h5 row hrow).2
    rw [(h5 row hrow).1] at this
    exact this
  · unfold colsF at hx
    obtain ⟨k, _, rfl⟩ := List.mem_map.mp hx
    have gen : ∀ b : List (List Int), (∀ row ∈ b, ∀ c ∈ row, c = 0 ∨ c = 1) → 0 ≤ (b.map fun row => row.getD k 0).sum ∧ (b.map fun row => row.getD k 0).sum ≤ b.length := fun b => by
      induction b with
      | nil => intro _; exact ⟨Int.le_refl _, Int.le_refl _⟩
      | cons p b ih =>
        intro h
        have i1 := ih fun row hr => h row (List.mem_cons_of_mem _ hr)
        have h0 : p.getD k 0 = 0 ∨ p.getD k 0 = 1 := by
          rw [List.getD_eq_getElem?_getD]
          cases e : p[k]? with
          | none => exact .inl rfl
          | some x => exact h p List.mem_cons_self x (List.mem_of_getElem? e)
        rw [List.map_cons, List.sum_cons, List.length_cons]
        omega
    exact gen b fun row hr => (h5 row hr).2
theorem isOf_tail {r : Int} {rs cols p : List Int} {b : List (List Int)} (h : IsOf (r :: rs) cols (p :: b)) (hc : ∀ c ∈ cols, 0 ≤ c) : p ∈ patF r cols.length ∧ okF (subF cols p) = true ∧ IsOf rs (subF cols p) b := by
  have hm := (mem_brd hc).mpr h
  rw [brd_cons, List.mem_flatMap] at hm
  obtain ⟨q, hq, hb⟩ := hm
  unfold behindF at hb
  split at hb
  · rename_i ho
    obtain ⟨b', hb', e⟩ := List.mem_map.mp hb
    rw [List.cons.injEq] at e
    obtain ⟨rfl, rfl⟩ := e
    exact ⟨hq, ho, (mem_brd (okF_iff.mp ho)).mp hb'⟩
  · cases hb
section
variable {vs : List V} {H : Hp} {Q : VK} {E : XK} {K : PySem.W.Frag}
theorem pure_number_of {C : Er} (h : sp_number_of C vs H Q E) : t_number_of K (fun cls d _ H => E cls d H) C { nx := fun _ H' => Q .non H', rt := Q } (L2.start ["board", "rows", "left", "known", "number", "k", "pattern", "later"] vs) H := by
  obtain ⟨B, v, b, e, rfl, hv, k1, k2⟩ := h
  show t_number_of K _ C _ [some v, none, none, none, none, none, none, none] H
  unfold t_number_of
  -- rows, left = counts(board)
  refine ⟨v, rfl, B, v, b, e, rfl, hv, fun c hc H1 e1 => ?_, fun po hp u B1 H1 n1 hu => ?_⟩
  · refine k1 c ?_ H1 e1
    dsimp only at hc
    split at hc
    · cases hc
    · rename_i hb
      exact (if_neg hb).trans hc
  dsimp only at hp
  have hb : isB b = true := by
    split at hp
    · assumption
    · cases hp
  rw [if_pos hb] at hp
  cases hp
  have k2 := k2 _ (if_pos hb)
  obtain ⟨tt, v1, v2, rfl, f2, hr1, hc1⟩ := (poPair_pr hu)
  have hr1 : il.p B1 v1 (rowsF b) := hr1
  have hc1 : il.p B1 v2 (colsF b) := hc1
  refine ⟨tt, _, rfl, SqT.of (n1.bh _ _ f2), rfl, _, _, rfl, _, _, rfl, rfl, ?_⟩
  show tSeq (tAsg MKD.tDNew (gName 3)) _ _ [some v, some v1, some v2, none, none, none, none, none] H1
  have hC := isC_self hb
  obtain ⟨l1, l2, l3, l4, l5, l6⟩ := isC_parts hC
  obtain ⟨cl, c06⟩ := cols_pos hb
  have hrl : (rowsF b).length = b.length := by unfold rowsF; rw [List.length_map]
  have hself := isOf_self hb
  generalize hR : rowsF b = R at *
  generalize hCc : colsF b = Cc at *
  refine q_dict (R := R) (L := Cc.length) n1 fun d H2 d0 nb2 hd2 e2 m2 mo2 => ?_
  refine q_set (P := poR int 0) m2.bh ev_int fun u B3 H3 n3 hu3 => ?_
  cases hu3
  have m3 := m2.trans n3
  have hd3 := n3.hh _ _ hd2
  have nb3 := n3.ne (some_ne hd2) nb2
  refine q_forR (n := R.length) m3.bh (ev_len (r := int) (ev_var rfl (il.stE n3.bb hr1))) (by omega)
    (fun k σ' H' => ∃ Bk es vl left y5 y6 y7, ∃ num : Nat, σ' = [some v, some v1, some vl, some (.ref d), some (.int (num : Int)), y5, y6, y7] ∧ Nw B H Bk H' ∧ Ex B3 Bk ∧ Bk d = none ∧ H' d = some (MKD.Dic d es) ∧ MemoOk R Cc.length Bk es ∧ il.p Bk vl left ∧ left.length = Cc.length ∧ (∀ x ∈ left, 0 ≤ x ∧ x ≤ 6) ∧ IsOf (R.drop k) left (b.drop k) ∧ ∀ m : Nat, m < waysF (R.drop k) left → (brdF R Cc)[num + m]? = ((brdF (R.drop k) left)[m]?).map (b.take k ++ ·))
    (fun H4 e4 => ⟨B3, [], v2, Cc, none, none, none, 0, rfl, m3.grow e4, Ex.refl _, nb3, e4 _ _ hd3, MemoOk.nil, il.stE n3.bb hc1, rfl, c06, hself, fun m _ => by rw [List.drop_zero, List.take_zero, Nat.zero_add]; cases (brdF R Cc)[m]? <;> rfl⟩) ?_ ?_
  · rintro k σ' H' hk ⟨Bk, es, vl, left, y5, y6, y7, num, rfl, m, e3k, nb, hd, mo, hl, ll, l06, hof, hon⟩
    have hvk := bd.stE m.bb hv
    have hrk' := il.stE (n3.bb.trans e3k) hr1
    obtain ⟨rk, hrk⟩ : ∃ rk, R[k]? = some rk := ⟨_, List.getElem?_eq_getElem hk⟩
    have hkb : k < b.length := by omega
    obtain ⟨row, hrow⟩ : ∃ row, b[k]? = some row := ⟨_, List.getElem?_eq_getElem hkb⟩
    have hdrop : R.drop k = rk :: R.drop (k + 1) := by
      rw [List.drop_eq_getElem_cons hk]
      rw [List.getElem?_eq_getElem hk] at hrk
      rw [Option.some.inj hrk]
    have hdropb : b.drop k = row :: b.drop (k + 1) := by
      rw [List.drop_eq_getElem_cons hkb]
      rw [List.getElem?_eq_getElem hkb] at hrow
      rw [Option.some.inj hrow]
    rw [hdrop, hdropb] at hof
    rw [hdrop] at hon
    obtain ⟨hpm, hrok, hof2⟩ := isOf_tail hof fun c hc => (l06 c hc).1
    obtain ⟨rl, r01, _⟩ := mem_pat.mp hpm
    let J : St → Hp → Prop := fun σ' H' => ∃ B7 es' y6 y7, ∃ i : Nat, σ' = [some v, some v1, some vl, some (.ref d), some (.int (((num + (((patF rk left.length).take i).flatMap (behindF (R.drop (k + 1)) left)).length : Nat) : Nat) : Int)), some (.int (k : Int)), y6, y7] ∧ Ex Bk B7 ∧ Nw B H B7 H' ∧ B7 d = none ∧ H' d = some (MKD.Dic d es') ∧ MemoOk R Cc.length B7 es' ∧ (patF rk left.length)[i]? = some row
    have after : ∀ σ' H', J σ' H' → tAsg (tCall (sp_lessened) [] E0 (tCons (tVar 2) (tCons (tOp (rIxL K) (tVar 0) (tVar 5)) tNil))) (gName 2) { nx := fun σ' H' => ∃ Bk es vl left y5 y6 y7, ∃ num : Nat, σ' = [some v, some v1, some vl, some (.ref d), some (.int (num : Int)), y5, y6, y7] ∧ Nw B H Bk H' ∧ Ex B3 Bk ∧ Bk d = none ∧ H' d = some (MKD.Dic d es) ∧ MemoOk R Cc.length Bk es ∧ il.p Bk vl left ∧ left.length = Cc.length ∧ (∀ x ∈ left, 0 ≤ x ∧ x ≤ 6) ∧ IsOf (R.drop (k + 1)) left (b.drop (k + 1)) ∧ ∀ m : Nat, m < waysF (R.drop (k + 1)) left → (brdF R Cc)[num + m]? = ((brdF (R.drop (k + 1)) left)[m]?).map (b.take (k + 1) ++ ·), rt := Q } σ' H' := by
      rintro σ' H' ⟨B7, es', y6, y7, i, rfl, ek7, m7, nb7, hd7, mo7, hi⟩
      refine w_set (P := poOL (okF (subF left row)) (subF left row)) m7.bh (ev_less (ev_var rfl (il.stE ek7 hl)) (ev_ix (r := il) (xs := b) (ev_var rfl (bd.stE m7.bb hv)) (ev_varI (z := (k : Int)) rfl) (atI_nat hrow)) rl (by omega) (by omega)) fun vx B8 H8 n8 hvx => ?_
      rw [hrok] at hvx
      have hvx : (poL int (subF left row)).P H' B8 vx := hvx
      refine ⟨B8, es', vx, subF left row, _, _, _, _, rfl, m7.trans n8, (e3k.trans ek7).trans n8.bb, n8.ne (some_ne hd7) nb7, n8.hh _ _ hd7, mo7.mono n8.bb, poL_lst hvx, by rw [subF_len rl, ll], sub_range rl r01 hrok l06, hof2, fun z hz => ?_⟩
      have hlen : (behindF (R.drop (k + 1)) left row).length = waysF (R.drop (k + 1)) (subF left row) := by rw [behind_len, if_pos hrok]
      have hskip := flat_skip (f := behindF (R.drop (k + 1)) left) hi z
      rw [← brd_cons, List.getElem?_append_left (by rw [hlen]; exact hz), behind_at hrok] at hskip
      have hlt : (((patF rk left.length).take i).flatMap (behindF (R.drop (k + 1)) left)).length + z < waysF (rk :: R.drop (k + 1)) left := by
        have h1 : ∃ x, (brdF (R.drop (k + 1)) (subF left row))[z]? = some x := ⟨_, List.getElem?_eq_getElem hz⟩
        obtain ⟨x, hx⟩ := h1
        rw [hx] at hskip
        exact (List.getElem?_eq_some_iff.mp hskip).1
      have := hon _ hlt
      rw [Nat.add_assoc, this, hskip, take_succ' hrow]
      cases (brdF (R.drop (k + 1)) (subF left row))[z]? with
      | none => rfl
      | some x =>
        show some (b.take k ++ row :: x) = some (b.take k ++ [row] ++ x)
        rw [List.append_assoc]
        rfl
    refine q_forL (r := il) (xs := patF rk left.length) m.bh (EV.of_b (by have := ev_pat (σ := [some v, some v1, some vl, some (.ref d), some (.int (num : Int)), some (.int (k : Int)), y6, y7]) (B := Bk) (ev_ix (K := K) (r := int) (xs := R) (ev_var (i := 1) rfl hrk') (ev_varI (i := 5) (z := (k : Int)) rfl) (atI_nat hrk)) (ev_len (K := K) (r := int) (xs := left) (ev_var (i := 2) rfl hl)) (by omega) (by omega); rw [Int.toNat_natCast] at this; exact this))
      (fun B6 i σ' H' => ∃ B7 es' y6 y7, σ' = [some v, some v1, some vl, some (.ref d), some (.int (((num + (((patF rk left.length).take i).flatMap (behindF (R.drop (k + 1)) left)).length : Nat) : Nat) : Int)), some (.int (k : Int)), y6, y7] ∧ Ex Bk B6 ∧ Ex B6 B7 ∧ Nw B H B7 H' ∧ B7 d = none ∧ H' d = some (MKD.Dic d es') ∧ MemoOk R Cc.length B7 es' ∧ row ∉ (patF rk left.length).take i)
      (fun B6 H6 n6 => ⟨B6, es, y6, y7, rfl, n6.bb, Ex.refl _, m.trans n6, n6.ne (some_ne hd) nb, n6.hh _ _ hd, mo.mono n6.bb, by simp⟩) (fun B6 i σ' H' ⟨B7, _, _, _, _, _, x67, m7, _⟩ => Sx.of (x67.trans m7.bh)) ?_ ?_
    · rintro B6 H6 i p vp σ' H' n6 hi hp ⟨B7, es', y6, y7, rfl, xk6, x67, m7, nb7, hd7, mo7, hno⟩
      have hp7 := il.stE x67 hp
      have hpl : p.length = left.length := pat_len (List.mem_of_getElem? hi)
      obtain ⟨_, p01, _⟩ := mem_pat.mp (List.mem_of_getElem? hi)
      have hl7 := il.stE (xk6.trans x67) hl
      refine q_if (b := decide (p = row)) m7.bh (t_test (ev_eqD (r := il) (ev_var rfl hp7) (ev_ix (r := il) (xs := b) (ev_var rfl (bd.stE m7.bb hv)) (ev_varI (z := (k : Int)) rfl) (atI_nat hrow)) (by decide))) (fun hc H8 e8 => ?_) (fun hc H8 e8 => ?_)
      · have hc : p = row := of_decide_eq_true hc
        subst hc
        exact w_break (after _ _ ⟨B7, es', _, _, i, rfl, xk6.trans x67, m7.grow e8, nb7, e8 _ _ hd7, mo7, hi⟩)
      · have hc : ¬ p = row := of_decide_eq_false hc
        have m8 := m7.grow e8
        have hd8 := e8 _ _ hd7
        have hno' : row ∉ (patF rk left.length).take (i + 1) := by
          rw [take_succ' hi]
          intro z
          rcases List.mem_append.mp z with z | z
          · exact hno z
          · exact hc (List.mem_singleton.mp z).symm
        refine q_set (P := poOL (okF (subF left p)) (subF left p)) m8.bh (ev_less (ev_var rfl hl7) (ev_var rfl hp7) hpl (by omega) (by omega)) fun vx B9 H9 n9 hvx => ?_
        have m9 := m8.trans n9
        have hd9 := n9.hh _ _ hd8
        have nb9 := n9.ne (some_ne hd8) nb7
        have htk := take_flat (f := behindF (R.drop (k + 1)) left) hi
        refine w_if0 (b := okF (subF left p)) m9.bh (t_left rfl hvx) (fun hok H10 e10 => ?_) (fun hok H10 e10 => ?_)
        · rw [hok] at hvx
          have hvx : (poL int (subF left p)).P H8 B9 vx := hvx
          have hlx := poL_lst hvx
          have m10 := m9.grow e10
          refine ⟨_, rfl, run_ways (R := R) (L := Cc.length) (es := es') m10.bh (EV.of_n (ev_from (n := k + 1) (K := K) (ev_var (i := 1) rfl (il.stE ((((n3.bb.trans e3k).trans xk6).trans x67).trans n9.bb) hr1)) (ev_ii (ev_varI (i := 5) rfl) ev_int rfl) (by omega))) (ev_var rfl hlx) rfl (by show (List.drop (k + 1) R).length < 8; rw [List.length_drop]; omega) (pre_sub hC (by rw [subF_len hpl, ll]) (sub_range hpl p01 hok l06)) nb9 (e10 _ _ hd9) (mo7.mono n9.bb) fun B11 H11 es11 n11 hd11 mo11 _ => ?_⟩
          have m11 : Nw B H B11 H11 := ((m10.hideD d0 nb9).trans n11).newD d0
          refine ⟨_, _, rfl, rfl, ?_⟩
          refine ⟨B11, es11, some vp, some vx, ?_, xk6, (x67.trans n9.bb).trans n11.bb, m11, n11.noneD, hd11, mo11, hno'⟩
          rw [htk, behind_len, if_pos hok]
          show [some v, some v1, some vl, some (V.ref d), some (V.int (_ + _)), some (V.int (k : Int)), some vp, some vx] = _
          rw [← Int.natCast_add, Nat.add_assoc]
        · refine ⟨B9, es', some vp, some vx, ?_, xk6, x67.trans n9.bb, m9.grow e10, nb9, e10 _ _ hd9, mo7.mono n9.bb, hno'⟩
          rw [htk, behind_len, if_neg (by rw [hok]; decide)]
          rfl
    · rintro B6 σ' H' ⟨B7, es', y6, y7, rfl, xk6, x67, m7, nb7, hd7, mo7, hno⟩
      rw [List.take_length] at hno
      exact absurd hpm hno
  · rintro σ' H' ⟨Bk, es, vl, left, y5, y6, y7, num, rfl, m, e3k, nb, hd, mo, hl, ll, l06, hof, hon⟩
    rw [List.drop_length] at hof hon
    have hbt : b.take R.length = b := List.take_of_length_le (by omega)
    rw [hbt] at hon
    have hz : left.sum = 0 := by
      refine sum_of_zero fun x hx => ?_
      obtain ⟨k, hk, e⟩ := mem_getD hx
      have h1 := hof.cs k hk
      have h2 : b.drop R.length = [] := List.drop_eq_nil_of_le (by omega)
      rw [h2] at h1
      rw [← e, ← h1]
      rfl
    have h0 := hon 0 (by rw [ways_nil, if_pos hz]; exact Nat.one_pos)
    have hb0 : (brdF [] left)[0]? = some [] := by unfold brdF; rw [if_pos hz]; rfl
    rw [hb0, Nat.add_zero] at h0
    have h0 : (brdF R Cc)[num]? = some b := by rw [h0]; show some (b ++ []) = some b; rw [List.append_nil]
    refine ⟨.int (num : Int), rfl, k2 (.int (num : Int)) Bk H' m ?_⟩
    show V.int (num : Int) = V.int (numberF b)
    unfold numberF
    rw [hR, hCc, idx_of_at (brd_nodup _ _) h0]
end
end MK

namespace MK
open PySem PySem.Spec PyProof.Rows L2 Evl
def NearOk (most : Int) (y : List Int × List Int) : Prop := isC y.1 y.2 = true ∧ (y.1.length : Int) ≤ most ∧ (y.2.length : Int) ≤ most
def sp__law_near_by (K : PySem.W.Frag) : Sp := fun vs H Q _ => ∃ (B : Hp) (a : Addr) (ns : List Int) (at_ most : Int), Ex B H ∧ vs = [.ref a, .int at_, .int most] ∧ SqL K B a (ns.map V.int) ∧ 0 ≤ at_ ∧ 1 ≤ most ∧ most ≤ 6 ∧ ∀ u B' H', Nw B H B' H' → (poS (pr il il) (NearOk most)).P H B' u → Q u H'
def everyF : Nat → List (List Int)
  | 0 => [[]]
  | n + 1 => (everyF n).map (· ++ [0]) ++ (everyF n).map (· ++ [1])
def sp__law_every_row : Sp := sp1 int (fun n => 0 ≤ n ∧ n ≤ 6) fun n => poR bd (everyF n.toNat)
def restF (rows cols row : List Int) : Int := if row.sum = rows.headD 0 ∧ okF (subF cols row) = true then (waysF rows.tail (subF cols row) : Nat) else 0
def sp__law_rest : Sp := sp3 il il il (fun rows cols row => isC rows cols = true ∧ row.length = cols.length ∧ Is01 row) fun rows cols row => poR int (restF rows cols row)
def sp__law_refused_k07 : Sp := sp3 il il int (fun r c _ => isC r c = true) fun r c k => poR bl (decide (k < 0) || decide (((waysF r c : Nat) : Int) ≤ k))
end MK

namespace MK
open PySem PySem.Spec PyProof.Rows L2 Evl
def t__law_near_by (K : PySem.W.Frag) : TS :=
  (tSeq (tAsg (tCall (sp__law_counts) [] E0 (tCons (tCall (sp__law_board_by K) [] E0 (tCons (tVar 0) (tCons (tVar 1) (tCons (tVar 2) tNil)))) tNil)) (gTup K 2 (gCons (gName 3) (gCons (gName 4) gNil))))
  (tSeq (tFor (iRng1 (tCons (tOp (rI (fun _ j => 0 < j) fun i j => .int (i % j)) (tCall (sp__law_cell_at K) [] E0 (tCons (tVar 0) (tCons (tOp (rI0 fun i j => .int (i + j)) (tVar 1) (tC (.int 10))) tNil))) (tC (.int 4))) tNil)) (gName 5)
  (tSeq (tAsg (tOp (rI (fun _ j => 0 < j) fun i j => .int (i % j)) (tCall (sp__law_cell_at K) [] E0 (tCons (tVar 0) (tCons (tOp (rI0 fun i j => .int (i + j)) (tOp (rI0 fun i j => .int (i + j)) (tVar 1) (tC (.int 11))) (tOp (rI CMul fun i j => .int (i * j)) (tC (.int 3)) (tVar 5))) tNil))) (tCB (rLenS K) (tCons (tVar 4) tNil))) (gName 6))
  (tSeq (tAsg (tOp (rI (fun _ j => 0 < j) fun i j => .int (i % j)) (tCall (sp__law_cell_at K) [] E0 (tCons (tVar 0) (tCons (tOp (rI0 fun i j => .int (i + j)) (tOp (rI0 fun i j => .int (i + j)) (tVar 1) (tC (.int 12))) (tOp (rI CMul fun i j => .int (i * j)) (tC (.int 3)) (tVar 5))) tNil))) (tCB (rLenS K) (tCons (tVar 4) tNil))) (gName 7))
  (tIfS (tAnd (tTest (tOp (rI0 fun i j => .bl (decide (j < i))) (tOp (rIxL K) (tVar 4) (tVar 6)) (tC (.int 0)))) (tTest (tOp (rI0 fun i j => .bl (decide (i < j))) (tOp (rIxL K) (tVar 4) (tVar 7)) (tCB (rLenS K) (tCons (tVar 3) tNil)))))
  (tSeq (tAsg (tOp (rI0 fun i j => .int (i - j)) (tOp (rIxL K) (tVar 4) (tVar 6)) (tC (.int 1))) (gSub (tVar 4) (tVar 6) rSetL))
  (tAsg (tOp (rI0 fun i j => .int (i + j)) (tOp (rIxL K) (tVar 4) (tVar 7)) (tC (.int 1))) (gSub (tVar 4) (tVar 7) rSetL)))
  tNext))))
  (tSeq (tFor (iRng1 (tCons (tOp (rI (fun _ j => 0 < j) fun i j => .int (i % j)) (tCall (sp__law_cell_at K) [] E0 (tCons (tVar 0) (tCons (tOp (rI0 fun i j => .int (i + j)) (tVar 1) (tC (.int 20))) tNil))) (tC (.int 3))) tNil)) (gName 5)
  (tSeq (tAsg (tOp (rI (fun _ j => 0 < j) fun i j => .int (i % j)) (tCall (sp__law_cell_at K) [] E0 (tCons (tVar 0) (tCons (tOp (rI0 fun i j => .int (i + j)) (tOp (rI0 fun i j => .int (i + j)) (tVar 1) (tC (.int 21))) (tOp (rI CMul fun i j => .int (i * j)) (tC (.int 3)) (tVar 5))) tNil))) (tCB (rLenS K) (tCons (tVar 3) tNil))) (gName 6))
  (tSeq (tAsg (tOp (rI (fun _ j => 0 < j) fun i j => .int (i % j)) (tCall (sp__law_cell_at K) [] E0 (tCons (tVar 0) (tCons (tOp (rI0 fun i j => .int (i + j)) (tOp (rI0 fun i j => .int (i + j)) (tVar 1) (tC (.int 22))) (tOp (rI CMul fun i j => .int (i * j)) (tC (.int 3)) (tVar 5))) tNil))) (tCB (rLenS K) (tCons (tVar 3) tNil))) (gName 7))
  (tIfS (tAnd (tTest (tOp (rI0 fun i j => .bl (decide (j < i))) (tOp (rIxL K) (tVar 3) (tVar 6)) (tC (.int 0)))) (tTest (tOp (rI0 fun i j => .bl (decide (i < j))) (tOp (rIxL K) (tVar 3) (tVar 7)) (tCB (rLenS K) (tCons (tVar 4) tNil)))))
  (tSeq (tAsg (tOp (rI0 fun i j => .int (i - j)) (tOp (rIxL K) (tVar 3) (tVar 6)) (tC (.int 1))) (gSub (tVar 3) (tVar 6) rSetL))
  (tAsg (tOp (rI0 fun i j => .int (i + j)) (tOp (rIxL K) (tVar 3) (tVar 7)) (tC (.int 1))) (gSub (tVar 3) (tVar 7) rSetL)))
  tNext))))
  (tSeq (tIfS (tTest (tOp rEq (tOp (rI (fun _ j => 0 < j) fun i j => .int (i % j)) (tCall (sp__law_cell_at K) [] E0 (tCons (tVar 0) (tCons (tOp (rI0 fun i j => .int (i + j)) (tVar 1) (tC (.int 28))) tNil))) (tC (.int 5))) (tC (.int 1))))
  (tAsg (tLc (iRng1 (tCons (tCB (rLenS K) (tCons (tVar 3) tNil)) tNil)) (gName 5) tYes (tOp (rI (fun _ j => 0 < j) fun i j => .int (i % j)) (tCall (sp__law_cell_at K) [] E0 (tCons (tVar 0) (tCons (tOp (rI0 fun i j => .int (i + j)) (tOp (rI0 fun i j => .int (i + j)) (tVar 1) (tC (.int 30))) (tVar 5)) tNil))) (tOp (rI0 fun i j => .int (i + j)) (tCB (rLenS K) (tCons (tVar 4) tNil)) (tC (.int 1)))) [5]) (gName 3))
  tNext)
  (tRet (tTup (tCons (tVar 3) (tCons (tVar 4) tNil))))))))
def t__law_every_row (K : PySem.W.Frag) : TS :=
  (tSeq (tAsg (tLst (tCons (tLst tNil) tNil)) (gName 1))
  (tSeq (tFor (iRng1 (tCons (tVar 0) tNil)) (gName 2)
  (tAsg (tOp rCat (tLc (iList K (tVar 1)) (gName 3) tYes (tOp rCat (tVar 3) (tLst (tCons (tC (.int 0)) tNil))) [3]) (tLc (iList K (tVar 1)) (gName 3) tYes (tOp rCat (tVar 3) (tLst (tCons (tC (.int 1)) tNil))) [3])) (gName 1)))
  (tRet (tVar 1))))
def t__law_rest (K : PySem.W.Frag) (C : Er) : TS :=
  (tSeq (tAsg (tLc (iZip K (tCons (tVar 1) (tCons (tVar 2) tNil))) (gTup K 2 (gCons (gName 4) (gCons (gName 5) gNil))) tYes (tOp (rI0 fun i j => .int (i - j)) (tVar 4) (tVar 5)) [4, 5]) (gName 3))
  (tSeq (tIfS (tOr (tTest (tOp rNe (tCB (rSum K) (tCons (tVar 2) tNil)) (tOp (rIxL K) (tVar 0) (tC (.int 0))))) (tOr (tTest (tOp (rI0 fun i j => .bl (decide (i < j))) (tCB (rMin K) (tCons (tVar 3) tNil)) (tC (.int 0)))) (tTest (tOp (rI0 fun i j => .bl (decide (j < i))) (tCB (rMax K) (tCons (tVar 3) tNil)) (tOp (rI0 fun i j => .int (i - j)) (tCB (rLenS K) (tCons (tVar 0) tNil)) (tC (.int 1)))))))
  (tRet (tC (.int 0)))
  tNext)
  (tSeq (tIfS (tTest (tOp rEq (tCB (rLenS K) (tCons (tVar 0) tNil)) (tC (.int 1))))
  (tRet (tCB rInt1 (tCons (tOp rEq (tCB (rSum K) (tCons (tVar 3) tNil)) (tC (.int 0))) tNil)))
  tNext)
  (tRet (tCall (sp_many C) [] E0 (tCons (tSl (rSlL K) (tVar 0) (tPart (tC (.int 1))) tNoPart) (tCons (tVar 3) tNil)))))))

end MK

namespace MK
open PySem PySem.Spec PyProof.Rows L2 Evl
section
variable {α β γ ζ : Type} {r : R α} {q : R β} {x : α} {y : β} {σ : St} {B B' : Hp} {ta tb tc td te tl : TE} {P P' : Po} {b c : Bool} {i k z : Int} {K : PySem.W.Frag} {j n n1 n2 : Nat} {D : Ends} {tu tw : TS} {H H0 B0 : Hp} {a : Addr} {ps : List Addr} {xs ys : List Int}
/-- rows, columns = two lists of one's own -/
theorem q_unpPair (e : Ex B H) (h : EV te σ B (poPair xs ys)) (k : ∀ p q B1 H1, Nw B H B1 H1 → p ≠ q → H p = none → H q = none → B1 p = none → B1 q = none → H1 p = some (.lst (xs.map V.int)) → H1 q = some (.lst (ys.map V.int)) → tw D ((σ.set n1 (some (.ref p))).set n2 (some (.ref q))) H1) :
    tSeq (tAsg te (gTup K 2 (gCons (gName n1) (gCons (gName n2) gNil)))) tw D σ H := h.run e fun v B1 H1 m ⟨t, p, q, e0, h0, h2, h3, h4, h5, h6, h7⟩ => by
  subst e0
  refine ⟨t, _, rfl, SqT.of (m.bh _ _ h2), rfl, _, _, rfl, _, _, rfl, rfl, k p q (off q (off p B1)) H1 ?_ h3 h4 h5 (by rw [off_ne h3, off_at]) off_at (m.bh _ _ h6) (m.bh _ _ h7)⟩
  have m1 := Nw.off m (p := p) (fresh_back e h4)
  exact Nw.off m1 (p := q) (fresh_back e h5)
/-- xs[i] = e, xs a list of one's own -/
theorem w_put1 {S : Hp} {m : Nat} {p : Addr} (e : Ex S H) (h : EVr te σ S int z) (hp : H p = some (.lst (xs.map V.int))) (ho : σ[n]? = some (some (.ref p))) (hi : σ[m]? = some (some (.int i))) (h0 : 0 ≤ i) (h1 : i < (xs.length : Int))
    (k : ∀ H1, Ex H H1 → D.nx σ (upd H1 p (.lst ((xs.set i.toNat z).map V.int)))) : tAsg te (gSub (tVar n) (tVar m) rSetL) D σ H := h.run e fun v B1 H1 m1 hv => by
  cases hv
  refine ⟨.ref p, ho, .int i, hi, p, _, i, i.toNat, rfl, rfl, m1.hh _ _ hp, ?_, ?_⟩
  · rw [show i = ((i.toNat : Nat) : Int) by omega]
    exact ixN_nat (by rw [List.length_map]; omega)
  · rw [show (xs.map V.int).set i.toNat (V.int z) = (xs.set i.toNat z).map V.int by rw [List.map_set]]
    exact k H1 m1.hh
end
/-- one mark less here, one more there -/
theorem move_range {c : List Int} {m i j : Int} (h : ∀ x ∈ c, 0 ≤ x ∧ x ≤ m) (hi : 0 ≤ i ∧ i < (c.length : Int)) (hj : 0 ≤ j ∧ j < (c.length : Int)) (h1 : 0 < c.getD i.toNat 0) (h2 : c.getD j.toNat 0 < m) :
    ∀ x ∈ (c.set i.toNat (c.getD i.toNat 0 - 1)).set j.toNat ((c.set i.toNat (c.getD i.toNat 0 - 1)).getD j.toNat 0 + 1), 0 ≤ x ∧ x ≤ m := by
  have hci := h _ (getD_mem (l := c) (k := i.toNat) (by omega))
  have hcj := h _ (getD_mem (l := c) (k := j.toNat) (by omega))
  have h3 : ∀ x ∈ c.set i.toNat (c.getD i.toNat 0 - 1), 0 ≤ x ∧ x ≤ m := fun x hx => by
    rcases List.mem_or_eq_of_mem_set hx with h4 | h4
    · exact h x h4
    · omega
  intro x hx
  rcases List.mem_or_eq_of_mem_set hx with h4 | h4
  · exact h3 x h4
  · rw [getD_set (by omega)] at h4
    split at h4
    · rename_i hjj
      rw [hjj] at hcj h2
      omega
    · omega
section
variable {vs : List V} {H : Hp} {Q : VK} {E : XK} {K : PySem.W.Frag}
/-- the loop that moves marks -/
theorem q_moves {B0 H0 B : Hp} {a p q pA pB : Addr} {ns xs ys : List Int} {at_ most : Int} {sA sB : Nat} {c0 c1 c2 md : Int} {y5 y6 y7 : Option V} {D : Ends} {tw : TS} {L : Nat}
    (hsA : ∀ y5 y6 y7 : Option V, [some (.ref a), some (.int at_), some (.int most), some (.ref p), some (.ref q), y5, y6, y7][sA]? = some (some (.ref pA)))
    (hsB : ∀ y5 y6 y7 : Option V, [some (.ref a), some (.int at_), some (.int most), some (.ref p), some (.ref q), y5, y6, y7][sB]? = some (some (.ref pB)))
    (hs : SqL K B a (ns.map V.int)) (hat : 0 ≤ at_) (hc : 0 ≤ c0 ∧ 0 ≤ c1 ∧ 0 ≤ c2 ∧ 0 < md ∧ md ≤ 100) (m : Nw B0 H0 B H) (hne : pA ≠ pB) (nA : B pA = none) (nB : B pB = none) (zA : H0 pA = none) (hA : H pA = some (.lst (xs.map V.int))) (hB : H pB = some (.lst (ys.map V.int))) (hl : xs.length = L) (hL : 1 ≤ L) (hx : ∀ x ∈ xs, 0 ≤ x ∧ x ≤ (ys.length : Int))
    (k : ∀ (xs' : List Int) (y5 y6 y7 : Option V) (H' : Hp), xs'.length = L → (∀ x ∈ xs', 0 ≤ x ∧ x ≤ (ys.length : Int)) → Nw B0 H0 B H' → H' pA = some (.lst (xs'.map V.int)) → H' pB = some (.lst (ys.map V.int)) → tw D [some (.ref a), some (.int at_), some (.int most), some (.ref p), some (.ref q), y5, y6, y7] H') :
    tSeq (tFor (iRng1 (tCons (tOp (rI (fun _ j => 0 < j) fun i j => .int (i % j)) (tCall (sp__law_cell_at K) [] E0 (tCons (tVar 0) (tCons (tOp (rI0 fun i j => .int (i + j)) (tVar 1) (tC (.int c0))) tNil))) (tC (.int md))) tNil)) (gName 5)
  (tSeq (tAsg (tOp (rI (fun _ j => 0 < j) fun i j => .int (i % j)) (tCall (sp__law_cell_at K) [] E0 (tCons (tVar 0) (tCons (tOp (rI0 fun i j => .int (i + j)) (tOp (rI0 fun i j => .int (i + j)) (tVar 1) (tC (.int c1))) (tOp (rI CMul fun i j => .int (i * j)) (tC (.int 3)) (tVar 5))) tNil))) (tCB (rLenS K) (tCons (tVar sA) tNil))) (gName 6))
  (tSeq (tAsg (tOp (rI (fun _ j => 0 < j) fun i j => .int (i % j)) (tCall (sp__law_cell_at K) [] E0 (tCons (tVar 0) (tCons (tOp (rI0 fun i j => .int (i + j)) (tOp (rI0 fun i j => .int (i + j)) (tVar 1) (tC (.int c2))) (tOp (rI CMul fun i j => .int (i * j)) (tC (.int 3)) (tVar 5))) tNil))) (tCB (rLenS K) (tCons (tVar sA) tNil))) (gName 7))
  (tIfS (tAnd (tTest (tOp (rI0 fun i j => .bl (decide (j < i))) (tOp (rIxL K) (tVar sA) (tVar 6)) (tC (.int 0)))) (tTest (tOp (rI0 fun i j => .bl (decide (i < j))) (tOp (rIxL K) (tVar sA) (tVar 7)) (tCB (rLenS K) (tCons (tVar sB) tNil)))))
  (tSeq (tAsg (tOp (rI0 fun i j => .int (i - j)) (tOp (rIxL K) (tVar sA) (tVar 6)) (tC (.int 1))) (gSub (tVar sA) (tVar 6) rSetL))
  (tAsg (tOp (rI0 fun i j => .int (i + j)) (tOp (rIxL K) (tVar sA) (tVar 7)) (tC (.int 1))) (gSub (tVar sA) (tVar 7) rSetL)))
  tNext)))) tw D [some (.ref a), some (.int at_), some (.int most), some (.ref p), some (.ref q), y5, y6, y7] H := by
  have hm0 := Int.emod_nonneg (cellF ns (at_ + c0)) (show md ≠ 0 by omega)
  have hm1 := Int.emod_lt_of_pos (cellF ns (at_ + c0)) (show 0 < md by omega)
  refine q_forR (n := (cellF ns (at_ + c0) % md).toNat) m.bh (EV.eq (x := cellF ns (at_ + c0) % md) (ev_iic (ev_cell (k := at_ + c0) rfl hs (ev_ii (i := at_) (j := c0) (ev_varI rfl) ev_int rfl) (by omega)) (j := md) ev_int (by omega) rfl) (by omega)) (by omega)
    (fun i σ' H' => ∃ (xs' : List Int) (y5 y6 y7 : Option V), σ' = [some (.ref a), some (.int at_), some (.int most), some (.ref p), some (.ref q), y5, y6, y7] ∧ xs'.length = L ∧ (∀ x ∈ xs', 0 ≤ x ∧ x ≤ (ys.length : Int)) ∧ Nw B0 H0 B H' ∧ H' pA = some (.lst (xs'.map V.int)) ∧ H' pB = some (.lst (ys.map V.int)))
    (fun H1 e1 => ⟨xs, y5, y6, y7, rfl, hl, hx, m.grow e1, e1 _ _ hA, e1 _ _ hB⟩) ?_ ?_
  · rintro i σ' H' hi ⟨xs', y5, y6, y7, rfl, hl', hx', m', hA', hB'⟩
    have eS : Ex (upd (upd B pA (.lst (xs'.map V.int))) pB (.lst (ys.map V.int))) H' := fun x o h => by
      by_cases e1 : x = pB
      · subst e1; rw [upd_same] at h; cases h; exact hB'
      · rw [upd_ne e1] at h
        by_cases e2 : x = pA
        · subst e2; rw [upd_same] at h; cases h; exact hA'
        · rw [upd_ne e2] at h; exact m'.bh _ _ h
    have bS : Ex B (upd (upd B pA (.lst (xs'.map V.int))) pB (.lst (ys.map V.int))) := (Ex.new nA).trans (Ex.new (by rw [upd_ne (Ne.symm hne)]; exact nB))
    have lA : il.p (upd (upd B pA (.lst (xs'.map V.int))) pB (.lst (ys.map V.int))) (.ref pA) xs' := il_of (by rw [upd_ne hne, upd_same])
    have lB : il.p (upd (upd B pA (.lst (xs'.map V.int))) pB (.lst (ys.map V.int))) (.ref pB) ys := il_of upd_same
    generalize upd (upd B pA (.lst (xs'.map V.int))) pB (.lst (ys.map V.int)) = S at eS bS lA lB
    have hsS := ex_l bS hs
    have hi1 : (i : Int) < 100 := by omega
    refine q_set (P := poR int (cellF ns (at_ + c1 + 3 * (i : Int)) % (xs'.length : Int))) eS (ev_iic (ev_cell (k := at_ + c1 + 3 * (i : Int)) rfl hsS (ev_ii (i := at_ + c1) (j := 3 * (i : Int)) (ev_ii (ev_varI rfl) ev_int rfl) (ev_iic (i := 3) (j := (i : Int)) ev_int (ev_varI rfl) (.inl ⟨by decide, by decide⟩) rfl) rfl) (by omega)) (j := (xs'.length : Int)) (ev_len (r := int) (ev_var (hsA _ _ _) lA)) (by omega) rfl) fun u B2 H2 n2 hu => ?_
    cases hu
    refine q_set (P := poR int (cellF ns (at_ + c2 + 3 * (i : Int)) % (xs'.length : Int))) (eS.trans n2.hh) (ev_iic (ev_cell (k := at_ + c2 + 3 * (i : Int)) rfl hsS (ev_ii (i := at_ + c2) (j := 3 * (i : Int)) (ev_ii (ev_varI rfl) ev_int rfl) (ev_iic (i := 3) (j := (i : Int)) ev_int (ev_varI rfl) (.inl ⟨by decide, by decide⟩) rfl) rfl) (by omega)) (j := (xs'.length : Int)) (ev_len (r := int) (ev_var (hsA _ _ _) lA)) (by omega) rfl) fun u B3 H3 n3 hu => ?_
    cases hu
    have e23 := n2.hh.trans n3.hh
    have o0 := Int.emod_nonneg (cellF ns (at_ + c1 + 3 * (i : Int))) (show (xs'.length : Int) ≠ 0 by omega)
    have o1 := Int.emod_lt_of_pos (cellF ns (at_ + c1 + 3 * (i : Int))) (show 0 < (xs'.length : Int) by omega)
    have t0 := Int.emod_nonneg (cellF ns (at_ + c2 + 3 * (i : Int))) (show (xs'.length : Int) ≠ 0 by omega)
    have t1 := Int.emod_lt_of_pos (cellF ns (at_ + c2 + 3 * (i : Int))) (show 0 < (xs'.length : Int) by omega)
    generalize cellF ns (at_ + c1 + 3 * (i : Int)) % (xs'.length : Int) = one at *
    generalize cellF ns (at_ + c2 + 3 * (i : Int)) % (xs'.length : Int) = other at *
    refine w_if0 (b := decide (0 < xs'.getD one.toNat 0) && decide (xs'.getD other.toNat 0 < (ys.length : Int))) (eS.trans e23) (Evl.et_and (t_test (ev_iib (ev_ix (r := int) (xs := xs') (ev_var (hsA _ _ _) lA) (ev_varI (i := 6) rfl) (atI_in o0 o1)) ev_int rfl)) fun _ => t_test (ev_iib (ev_ix (r := int) (xs := xs') (ev_var (hsA _ _ _) lA) (ev_varI (i := 7) rfl) (atI_in t0 t1)) (ev_len (r := int) (ev_var (hsB _ _ _) lB)) rfl)) (fun hc1 H4 e4 => ?_) (fun hc1 H4 e4 => ?_)
    · rw [Bool.and_eq_true, decide_eq_true_eq, decide_eq_true_eq] at hc1
      have e24 := e23.trans e4
      refine w_put1 (D := { D with nx := _, ct := _, bk := _ }) (z := xs'.getD one.toNat 0 - 1) (eS.trans e24) (ev_ii (ev_ix (r := int) (xs := xs') (ev_var (hsA _ _ _) lA) (ev_varI (i := 6) rfl) (atI_in o0 o1)) ev_int rfl) (e24 _ _ hA') (hsA _ _ _) rfl o0 o1 fun H5 e5 => ?_
      have m5 := (m'.grow (e24.trans e5)).mut (p := pA) (o := .lst ((xs'.set one.toNat (xs'.getD one.toNat 0 - 1)).map V.int)) nA zA
      have hB5 := (e24.trans e5) _ _ hB'
      have eS5 : Ex (upd B pA (.lst ((xs'.set one.toNat (xs'.getD one.toNat 0 - 1)).map V.int))) (upd H5 pA (.lst ((xs'.set one.toNat (xs'.getD one.toNat 0 - 1)).map V.int))) := fun x o h => by
        by_cases e2 : x = pA
        · subst e2; rw [upd_same] at h ⊢; exact h
        · rw [upd_ne e2] at h ⊢
          exact (m'.grow (e24.trans e5)).bh _ _ h
      have lA5 : il.p (upd B pA (.lst ((xs'.set one.toNat (xs'.getD one.toNat 0 - 1)).map V.int))) (.ref pA) (xs'.set one.toNat (xs'.getD one.toNat 0 - 1)) := il_of upd_same
      have hl5 : (xs'.set one.toNat (xs'.getD one.toNat 0 - 1)).length = xs'.length := List.length_set
      refine w_put1 (z := (xs'.set one.toNat (xs'.getD one.toNat 0 - 1)).getD other.toNat 0 + 1) eS5 (ev_ii (ev_ix (r := int) (xs := xs'.set one.toNat (xs'.getD one.toNat 0 - 1)) (ev_var (hsA _ _ _) lA5) (ev_varI (i := 7) rfl) (atI_in t0 (by rw [hl5]; exact t1))) ev_int rfl) upd_same (hsA _ _ _) rfl t0 (by rw [hl5]; exact t1) fun H6 e6 => ?_
      refine ⟨_, _, _, _, rfl, by rw [List.length_set, List.length_set]; exact hl', move_range hx' ⟨o0, o1⟩ ⟨t0, t1⟩ hc1.1 hc1.2, (m5.grow e6).mut nA zA, upd_same, ?_⟩
      rw [upd_ne (Ne.symm hne)]
      refine e6 _ _ ?_
      rw [upd_ne (Ne.symm hne)]
      exact hB5
    · have e24 := e23.trans e4
      exact ⟨xs', _, _, _, rfl, hl', hx', m'.grow e24, e24 _ _ hA', e24 _ _ hB'⟩
  · rintro σ' H' ⟨xs', y5, y6, y7, rfl, hl', hx', m', hA', hB'⟩
    exact k xs' y5 y6 y7 H' hl' hx' m' hA' hB'
theorem pure_near_by (h : sp__law_near_by K vs H Q E) : t__law_near_by K { nx := fun _ H' => Q .non H', rt := Q } (L2.start ["script", "at", "most", "rows", "columns", "k", "one", "other"] vs) H := by
  obtain ⟨B, a, ns, at_, most, e, rfl, hs, hat, h1, h6, q⟩ := h
  show t__law_near_by K _ [some (.ref a), some (.int at_), some (.int most), none, none, none, none, none] H
  unfold t__law_near_by
  have hB : isB (boardF ns at_ most) = true := isB_board h1 h6
  have hC := isC_self hB
  have hlen : ((boardF ns at_ most).length : Int) ≤ most ∧ (wide (boardF ns at_ most) : Int) ≤ most := by
    have a1 := Int.emod_lt_of_pos (cellF ns at_) (show 0 < most by omega)
    have a2 := Int.emod_nonneg (cellF ns at_) (show most ≠ 0 by omega)
    have b1 := Int.emod_lt_of_pos (cellF ns (at_ + 1)) (show 0 < most by omega)
    have b2 := Int.emod_nonneg (cellF ns (at_ + 1)) (show most ≠ 0 by omega)
    have hh : (boardF ns at_ most).length = highF ns at_ most := by unfold boardF; rw [List.length_map, List.length_range]
    obtain ⟨l1, _⟩ := isB_parts hB
    have hw : wide (boardF ns at_ most) = highF ns (at_ + 1) most := by
      have hm := List.mem_of_getElem? (hd_at l1)
      unfold boardF at hm
      obtain ⟨z, _, hz⟩ := List.mem_map.mp hm
      show ((boardF ns at_ most).headD []).length = _
      unfold boardF
      rw [← hz]
      unfold bitsF
      rw [bitsOf_len]
    rw [hh, hw]
    unfold highF
    omega
  obtain ⟨l1, l2, l3, l4, l5, l6⟩ := isC_parts hC
  obtain ⟨cl, _⟩ := cols_pos hB
  have hrl : (rowsF (boardF ns at_ most)).length = (boardF ns at_ most).length := by unfold rowsF; rw [List.length_map]
  refine q_unpPair e (ev_lawcounts (EV.of_b (ev_board rfl hs (ev_varI rfl) (ev_varI rfl) hat h1 h6)) hB) fun p q' B1 H1 n1 hne p0 q0 bp bq hp hq => ?_
  generalize boardF ns at_ most = b0 at *
  generalize hR : rowsF b0 = R at *
  generalize hCc : colsF b0 = Cc at *
  have m1 : Nw B H B1 H1 := n1
  refine q_moves (pA := q') (pB := p) (L := Cc.length) (fun _ _ _ => rfl) (fun _ _ _ => rfl) (ex_l n1.bb hs) hat (by decide) m1 (Ne.symm hne) bq bp q0 hq hp rfl l3 l6 fun C2 y5 y6 y7 H2 lc2 hc2 m2 hq2 hp2 => ?_
  refine q_moves (pA := p) (pB := q') (L := R.length) (fun _ _ _ => rfl) (fun _ _ _ => rfl) (ex_l n1.bb hs) hat (by decide) m2 hne bp bq p0 hp2 hq2 rfl l1 (fun x hx => by rw [lc2]; exact l5 x hx) fun R2 y5 y6 y7 H3 lr2 hr2 m3 hp3 hq3 => ?_
  have m4 := m3.adopt bp p0 hp3
  have m5 := m4.adopt (p := q') (by rw [upd_ne (Ne.symm hne)]; exact bq) q0 hq3
  have lp : il.p (upd (upd B1 p (.lst (R2.map V.int))) q' (.lst (C2.map V.int))) (.ref p) R2 := il_of (by rw [upd_ne hne, upd_same])
  have lq : il.p (upd (upd B1 p (.lst (R2.map V.int))) q' (.lst (C2.map V.int))) (.ref q') C2 := il_of upd_same
  generalize upd (upd B1 p (.lst (R2.map V.int))) q' (.lst (C2.map V.int)) = S at m5 lp lq
  have hsS := ex_l m5.bb hs
  have fin : ∀ R3 : List Int, R3.length = R.length → (∀ x ∈ R3, 0 ≤ x ∧ x ≤ (C2.length : Int)) → NearOk most (R3, C2) := fun R3 h3 h4 => by
    refine ⟨?_, by show (R3.length : Int) ≤ most; omega, by show (C2.length : Int) ≤ most; omega⟩
    unfold isC
    simp only [Bool.and_eq_true, List.all_eq_true, decide_eq_true_eq]
    refine ⟨⟨⟨⟨by omega, by omega⟩, by omega, by omega⟩, h4⟩, fun x hx => ?_⟩
    have := hc2 x hx
    omega
  refine q_ifJ (b := decide (cellF ns (at_ + 28) % 5 = 1)) (J := fun σ' H' => ∃ v3 S' R3 y5 y6 y7, σ' = [some (.ref a), some (.int at_), some (.int most), some v3, some (.ref q'), y5, y6, y7] ∧ Nw B H S' H' ∧ il.p S' v3 R3 ∧ il.p S' (.ref q') C2 ∧ NearOk most (R3, C2)) ?_ m5.bh (t_test (ev_eqI (ev_iic (ev_cell (k := at_ + 28) rfl hsS (ev_ii (i := at_) (j := 28) (ev_varI rfl) ev_int rfl) (by omega)) (j := 5) ev_int (by decide) rfl) ev_int)) (fun rest _ H6 e6 => ?_) (fun _ H6 e6 => ⟨.ref p, S, R2, _, _, _, rfl, m5.grow e6, lp, lq, fin R2 lr2 hr2⟩)
  · rintro σ' H6 ⟨v3, S', R3, y5, y6, y7, rfl, m6, g1, g2, ok⟩
    exact w_ret (P := poR (pr il il) (R3, C2)) m6.bh (ev_tup2 (r := il) (q := il) (ev_var rfl g1) (ev_var rfl g2)) fun u B7 H7 n7 hu => q u B7 H7 (m6.trans n7) ⟨_, ok, hu⟩
  · have m6 := m5.grow e6
    refine w_set (P := poL int ((List.range R2.length).map fun (k : Nat) => cellF ns (at_ + 30 + (k : Int)) % ((C2.length : Int) + 1))) m6.bh (ev_lcR (n := R2.length) (f := fun (k : Nat) => cellF ns (at_ + 30 + (k : Int)) % ((C2.length : Int) + 1)) (ev_len (r := int) (ev_var rfl lp)) (by omega) (fun _ => rfl) fun k B7 hk e7 => ?_) fun u B7 H7 n7 hu => ?_
    · exact ev_iic (ev_cell (k := at_ + 30 + (k : Int)) rfl (ex_l e7 hsS) (ev_ii (i := at_ + 30) (j := (k : Int)) (ev_ii (ev_varI rfl) ev_int rfl) (ev_varI rfl) rfl) (by omega)) (j := (C2.length : Int) + 1) (ev_ii (ev_len (r := int) (ev_var rfl (il.stE e7 lq))) ev_int rfl) (by omega) rfl
    · refine rest _ _ ⟨u, B7, _, _, _, _, rfl, m6.trans n7, poL_lst hu, il.stE n7.bb lq, fin _ (by rw [List.length_map, List.length_range]; exact lr2) fun x hx => ?_⟩
      obtain ⟨k, _, rfl⟩ := List.mem_map.mp hx
      have a1 := Int.emod_lt_of_pos (cellF ns (at_ + 30 + (k : Int))) (show 0 < (C2.length : Int) + 1 by omega)
      have a2 := Int.emod_nonneg (cellF ns (at_ + 30 + (k : Int))) (show (C2.length : Int) + 1 ≠ 0 by omega)
      omega
theorem ev_near {σ : St} {B : Hp} {n : Nat} {a : Addr} {ns : List Int} {t1 t2 : TE} {at_ most : Int} (h : σ[n]? = some (some (.ref a))) (hs : SqL K B a (ns.map V.int)) (h1 : EVr t1 σ B int at_) (h2 : EVr t2 σ B int most) (g0 : 0 ≤ at_) (g1 : 1 ≤ most) (g2 : most ≤ 6) :
    EV (tCall (sp__law_near_by K) [] E0 (tCons (tVar n) (tCons t1 (tCons t2 tNil)))) σ B (poS (pr il il) (NearOk most)) := EV.of fun H e Q q =>
  ⟨.ref a, h, h1.run e fun v B1 H1 n1 hv => (h2.mono n1.bb).run n1.bh fun w B2 H2 n2 hw => ⟨B2, a, ns, at_, most, n2.bh, by rw [hv, hw]; rfl, ex_l (n1.bb.trans n2.bb) hs, g0, g1, g2, fun u B3 H3 n3 hu => q u B3 H3 ((n1.trans n2).trans n3) ((poS (pr il il) (NearOk most)).dn (n1.hh.trans n2.hh) hu)⟩⟩
end
end MK

namespace MK
open PySem PySem.Spec PyProof.Rows L2 Evl
def t__law_refused_k07 (K : PySem.W.Frag) (C : Er) : TS :=
  (tSeq (tTryAs K (.ref C.MarkError) 3 (fun W => (tDrop (tCallS (sp_board_at C) (WE W) (tCons (tVar 0) (tCons (tVar 1) (tCons (tVar 2) tNil)))))) (fun a cls dd => (tRet (tNotV (tCall (sp__law_other K C a cls dd) [] E0 (tCons (tVar 3) (tCons (tC (.int 2)) tNil)))))))
  (tRet (tC (.bl false))))
def t_law_k07 (K : PySem.W.Frag) (C : Er) : TS :=
  (tSeq (tAsg (tCall (sp__law_near_by K) [] E0 (tCons (tVar 0) (tCons (tC (.int 0)) (tCons (tC (.int 5)) tNil)))) (gTup K 2 (gCons (gName 1) (gCons (gName 2) gNil))))
  (tSeq (tAsg (tLst (tCons (tCB (rListS K) (tCons (tVar 1) tNil)) (tCons (tCB (rListS K) (tCons (tVar 2) tNil)) tNil))) (gName 3))
  (tSeq (tAsg (tCall (sp_many C) [] E0 (tCons (tOp (rIxL K) (tVar 3) (tC (.int 0))) (tCons (tOp (rIxL K) (tVar 3) (tC (.int 1))) tNil))) (gName 4))
  (tSeq (tAsg (tOp (rI (fun _ j => 0 < j) fun i j => .int (i % j)) (tCall (sp__law_cell_at K) [] E0 (tCons (tVar 0) (tCons (tC (.int 45)) tNil))) (tOp (rI CPow fun i j => .int (i ^ j.toNat)) (tC (.int 10)) (tC (.int 29)))) (gName 5))
  (tSeq (tFor (iList K (tLst (tCons (tUn (rU fun i => .int (-i)) (tC (.int 1))) (tCons (tVar 4) (tCons (tOp (rI0 fun i j => .int (i - j)) (tUn (rU fun i => .int (-i)) (tC (.int 1))) (tVar 5)) (tCons (tOp (rI0 fun i j => .int (i + j)) (tVar 4) (tVar 5)) tNil)))))) (gName 6)
  (tIfS (tNot (tB (tCall (sp__law_refused_k07) [] E0 (tCons (tOp (rIxL K) (tVar 3) (tC (.int 0))) (tCons (tOp (rIxL K) (tVar 3) (tC (.int 1))) (tCons (tVar 6) tNil))))))
  (tRet (tC (.bl false)))
  tNext))
  (tSeq (tIfS (tAnd (tTest (tOp (rI0 fun i j => .bl (decide (j < i))) (tVar 4) (tC (.int 0)))) (tNot (tB (tCall (sp__law_is_board) [] E0 (tCons (tCall (sp_board_at C) [] E0 (tCons (tOp (rIxL K) (tVar 3) (tC (.int 0))) (tCons (tOp (rIxL K) (tVar 3) (tC (.int 1))) (tCons (tOp (rI0 fun i j => .int (i - j)) (tVar 4) (tC (.int 1))) tNil)))) tNil)))))
  (tRet (tC (.bl false)))
  tNext)
  (tRet (tOp (rEqD K) (tVar 3) (tLst (tCons (tVar 1) (tCons (tVar 2) tNil)))))))))))
end MK

namespace MK
open PySem PySem.Spec PyProof.Rows L2 Evl
/-! ### all rows -/
theorem mem_every : ∀ {n : Nat} {row : List Int}, row ∈ everyF n ↔ row.length = n ∧ Is01 row
  | 0, row => by
    unfold everyF
    constructor
    · intro h
      have : row = [] := by simpa using h
      subst this
      exact ⟨rfl, fun _ h => by cases h⟩
    · rintro ⟨h, _⟩
      rw [List.length_eq_zero_iff.mp h]
      simp
  | n + 1, row => by
    unfold everyF
    rw [List.mem_append, List.mem_map, List.mem_map]
    constructor
    · rintro (⟨q, hq, rfl⟩ | ⟨q, hq, rfl⟩)
      · obtain ⟨h1, h2⟩ := mem_every.mp hq
        refine ⟨by rw [List.length_append, h1]; rfl, fun x hx => ?_⟩
        rcases List.mem_append.mp hx with h | h
        · exact h2 x h
        · exact .inl (List.mem_singleton.mp h)
      · obtain ⟨h1, h2⟩ := mem_every.mp hq
        refine ⟨by rw [List.length_append, h1]; rfl, fun x hx => ?_⟩
        rcases List.mem_append.mp hx with h | h
        · exact h2 x h
        · exact .inr (List.mem_singleton.mp h)
    · rintro ⟨h1, h2⟩
      have hne : row ≠ [] := fun z => by subst z; cases h1
      have e := List.dropLast_concat_getLast hne
      have hl : row.dropLast.length = n := by rw [List.length_dropLast]; omega
      have h01 : Is01 row.dropLast := fun x hx => h2 x ((List.dropLast_sublist _).subset hx)
      rcases h2 _ (List.getLast_mem hne) with h | h
      · exact .inl ⟨_, mem_every.mpr ⟨hl, h01⟩, by rw [← h]; exact e⟩
      · exact .inr ⟨_, mem_every.mpr ⟨hl, h01⟩, by rw [← h]; exact e⟩
theorem every_nodup : ∀ n : Nat, (everyF n).Nodup
  | 0 => by simp [everyF]
  | n + 1 => by
    unfold everyF
    have hmap : ∀ z : Int, ((everyF n).map (· ++ [z])).Nodup := fun z => by
      have inj : ∀ {l : List (List Int)}, l.Nodup → (l.map (· ++ [z])).Nodup := fun {l} => by
        induction l with
        | nil => intro _; exact List.nodup_nil
        | cons a l ih =>
          intro h
          rw [List.nodup_cons] at h
          rw [List.map_cons, List.nodup_cons]
          refine ⟨fun hm => ?_, ih h.2⟩
          obtain ⟨b, hb, e⟩ := List.mem_map.mp hm
          rw [List.append_cancel_right e] at hb
          exact h.1 hb
      exact inj (every_nodup n)
    refine List.nodup_append.mpr ⟨hmap 0, hmap 1, fun a ha b hb e => ?_⟩
    obtain ⟨x, _, rfl⟩ := List.mem_map.mp ha
    obtain ⟨y, _, rfl⟩ := List.mem_map.mp hb
    have := congrArg List.getLast? e
    simp at this
theorem every_len : ∀ n : Nat, (everyF n).length = 2 ^ n
  | 0 => rfl
  | n + 1 => by
    unfold everyF
    rw [List.length_append, List.length_map, List.length_map, every_len n, Nat.pow_succ]
    omega
/-- of all rows those of so many marks are the patterns -/
theorem every_pat {n : Nat} {c : Int} : ((everyF n).filter fun row => decide (row.sum = c)).Perm (patF c n) := by
  refine perm_of_same ((every_nodup n).filter _) (pat_nodup n c) fun row => ?_
  rw [List.mem_filter, mem_every, mem_pat, decide_eq_true_eq]
  constructor
  · rintro ⟨⟨h1, h2⟩, h3⟩
    exact ⟨h1, h2, h3⟩
  · rintro ⟨h1, h2, h3⟩
    exact ⟨⟨h1, h2⟩, h3⟩
theorem sum_filter {α : Type} {p : α → Bool} {f : α → Int} : ∀ l : List α, (l.map fun x => if p x = true then f x else 0).sum = ((l.filter p).map f).sum
  | [] => rfl
  | x :: l => by
    rw [List.map_cons, List.sum_cons, sum_filter l, List.filter_cons]
    split
    · rw [List.map_cons, List.sum_cons]
    · omega
theorem sum_cast {α : Type} {f : α → Nat} : ∀ l : List α, ((l.map f).sum : Int) = (l.map fun x => (f x : Int)).sum
  | [] => rfl
  | x :: l => by
    rw [List.map_cons, List.sum_cons, List.map_cons, List.sum_cons, ← sum_cast l]
    omega
theorem rest_sum {r : Int} {rs cols : List Int} : ((everyF cols.length).map fun row => restF (r :: rs) cols row).sum = (waysF (r :: rs) cols : Nat) := by
  have h1 : ((everyF cols.length).map fun row => restF (r :: rs) cols row) = (everyF cols.length).map fun row => if decide (row.sum = r) = true then (if okF (subF cols row) = true then ((waysF rs (subF cols row) : Nat) : Int) else 0) else 0 := by
    refine List.map_congr_left fun row _ => ?_
    unfold restF
    show (if row.sum = r ∧ okF (subF cols row) = true then _ else _) = _
    by_cases h : row.sum = r
    · rw [decide_eq_true h, if_pos rfl]
      by_cases h2 : okF (subF cols row) = true
      · rw [if_pos ⟨h, h2⟩, if_pos h2]
        rfl
      · rw [if_neg (fun z => h2 z.2), if_neg h2]
    · rw [decide_eq_false h, if_neg (fun z => h z.1), if_neg Bool.false_ne_true]
  rw [h1, sum_filter, perm_sum (every_pat.map _), ways_cons, sum_cast]
  refine congrArg List.sum (List.map_congr_left fun p _ => ?_)
  split <;> rfl
/-- a column that asks for more than there are rows -/
theorem ways_big {rows cols : List Int} (hc : ∀ c ∈ cols, 0 ≤ c) {c : Int} (hm : c ∈ cols) (h : (rows.length : Int) < c) : waysF rows cols = 0 := by
  unfold waysF
  cases e : brdF rows cols with
  | nil => rfl
  | cons b l =>
    exfalso
    have hb : IsOf rows cols b := (mem_brd hc).mp (by rw [e]; exact List.mem_cons_self)
    obtain ⟨k, hk, rfl⟩ := mem_getD hm
    have h1 := hb.cs k hk
    have gen : ∀ b : List (List Int), (∀ row ∈ b, Is01 row) → csum b k ≤ b.length := fun b => by
      induction b with
      | nil => intro _; exact Int.le_refl _
      | cons p b ih =>
        intro h
        rw [csum_cons, List.length_cons]
        have i1 := ih fun row hr => h row (List.mem_cons_of_mem _ hr)
        have h0 : p.getD k 0 ≤ 1 := by
          rw [List.getD_eq_getElem?_getD]
          cases e : p[k]? with
          | none => decide
          | some x =>
            show x ≤ 1
            rcases h p List.mem_cons_self x (List.mem_of_getElem? e) with h | h <;> omega
        omega
    have h2 := gen b fun row hr => (hb.row row hr).2
    rw [hb.ln] at h2
    omega
theorem maxL_big {l : List Int} {m : Int} (h : 0 < l.length) : decide (m < maxL l) = !(l.all fun x => decide (x ≤ m)) := by
  rw [Bool.eq_iff_iff, Bool.not_eq_true', decide_eq_true_eq]
  constructor
  · intro hm
    cases ho : l.all fun x => decide (x ≤ m) with
    | false => rfl
    | true =>
      have := List.all_eq_true.mp ho _ (maxL_mem h)
      have := of_decide_eq_true this
      omega
  · intro hf
    obtain ⟨x, hx, hn⟩ := List.all_eq_false.mp hf
    have := maxL_ge hx
    have hn : ¬ x ≤ m := fun z => hn (decide_eq_true z)
    omega
theorem isC_of {r c : List Int} (h1 : 1 ≤ r.length ∧ r.length ≤ 6) (h2 : 1 ≤ c.length ∧ c.length ≤ 6) (h3 : ∀ x ∈ r, 0 ≤ x ∧ x ≤ (c.length : Int)) (h4 : ∀ x ∈ c, 0 ≤ x ∧ x ≤ (r.length : Int)) : isC r c = true := by
  unfold isC
  simp only [Bool.and_eq_true, List.all_eq_true, decide_eq_true_eq]
  exact ⟨⟨⟨⟨h1.1, h1.2⟩, h2.1, h2.2⟩, h3⟩, h4⟩
theorem isC_swap {r c : List Int} (h : isC r c = true) : isC c r = true := by
  obtain ⟨h1, h2, h3, h4, h5, h6⟩ := isC_parts h
  exact isC_of ⟨h3, h4⟩ ⟨h1, h2⟩ h6 h5
theorem isC_rev {r c : List Int} (h : isC r c = true) : isC r.reverse c = true := by
  obtain ⟨h1, h2, h3, h4, h5, h6⟩ := isC_parts h
  exact isC_of (by rw [List.length_reverse]; exact ⟨h1, h2⟩) ⟨h3, h4⟩ (fun x hx => h5 x (List.mem_reverse.mp hx)) (by rw [List.length_reverse]; exact h6)
theorem isC_flip {r c : List Int} (h : isC r c = true) : isC (r.map fun x => (c.length : Int) - x) (c.map fun x => (r.length : Int) - x) = true := by
  obtain ⟨h1, h2, h3, h4, h5, h6⟩ := isC_parts h
  refine isC_of (by rw [List.length_map]; exact ⟨h1, h2⟩) (by rw [List.length_map]; exact ⟨h3, h4⟩) (fun x hx => ?_) (fun x hx => ?_)
  · obtain ⟨y, hy, rfl⟩ := List.mem_map.mp hx
    have := h5 y hy
    rw [List.length_map]
    omega
  · obtain ⟨y, hy, rfl⟩ := List.mem_map.mp hx
    have := h6 y hy
    rw [List.length_map]
    omega
theorem isOf_isB {r c : List Int} {b : List (List Int)} (hc : isC r c = true) (h : IsOf r c b) : isB b = true := by
  obtain ⟨h1, h2, h3, h4, h5, h6⟩ := isC_parts hc
  exact isB_of (m := r.length) (n := c.length) ⟨h1, h2⟩ ⟨h3, h4⟩ ⟨h.ln, fun q hq => (h.row q hq).1⟩ fun q hq x hx => (h.row q hq).2 x hx
section
variable {vs : List V} {H : Hp} {Q : VK} {E : XK} {K : PySem.W.Frag}
theorem pure_every_row (h : sp__law_every_row vs H Q E) : t__law_every_row K { nx := fun _ H' => Q .non H', rt := Q } (L2.start ["size", "found", "k", "row"] vs) H := by
  obtain ⟨B, v, n, e, rfl, hv, ⟨h0, h6⟩, q⟩ := h
  cases hv
  dsimp only at q h0 h6
  show t__law_every_row K _ [some (.int n), none, none, none] H
  unfold t__law_every_row
  refine q_set (P := poB [[]]) e (ev_lstB1 (ev_lst ea_nil (by decide))) fun u B1 H1 n1 hu => ?_
  have hu := poB_bd hu
  refine q_forR (n := n.toNat) n1.bh (EV.eq (x := n) (ev_varI rfl) (by omega)) (by omega) (fun i σ' H' => ∃ B2 u y2 y3, σ' = [some (.int n), some u, y2, y3] ∧ Nw B H B2 H' ∧ bd.p B2 u (everyF i))
    (fun H2 e2 => ⟨B1, u, none, none, rfl, n1.grow e2, hu⟩) ?_ ?_
  · rintro i σ' H' hi ⟨B2, u, y2, y3, rfl, m2, hu2⟩
    have hl := every_len i
    have hp : 2 ^ i ≤ 2 ^ 6 := Nat.pow_le_pow_right (by decide) (by omega)
    have h64 : (2 : Nat) ^ 6 = 64 := by decide
    have one : ∀ z : Int, EVn (tLc (iList K (tVar 1)) (gName 3) tYes (tOp rCat (tVar 3) (tLst (tCons (tC (.int z)) tNil))) [3]) [some (.int n), some u, some (.int (i : Int)), y3] B2 il ((everyF i).map (· ++ [z])) := fun z =>
      ev_lc (r := il) (xs := everyF i) (f := (· ++ [z])) (ev_var rfl hu2) (by omega) (fun _ => rfl) fun row w B3 hm e3 hw => EV.of_n (ev_cat (xs := row) (ys := [z]) (ev_var rfl hw) (EV.of_n (ev_lst (ea_cons ev_int ea_nil) (by show 1 ≤ _; decide))) (by rw [List.length_singleton, (mem_every.mp hm).1]; omega))
    refine w_set (P := poL il (everyF (i + 1))) m2.bh (ev_cat (EV.of_n (one 0)) (EV.of_n (one 1)) (by rw [List.length_map, List.length_map]; omega)) fun u3 B3 H3 n3 hu3 => ?_
    exact ⟨B3, u3, _, _, rfl, m2.trans n3, poL_lst hu3⟩
  · rintro σ' H' ⟨B2, u, y2, y3, rfl, m2, hu2⟩
    exact w_ret (P := poR bd (everyF n.toNat)) m2.bh (ev_var rfl hu2) fun u3 B3 H3 n3 hu3 => q u3 B3 H3 (m2.trans n3) hu3
theorem ev_every {σ : St} {B : Hp} {tn : TE} {n : Int} (h : EVr tn σ B int n) (h0 : 0 ≤ n) (h6 : n ≤ 6) : EVr (tCall (sp__law_every_row) [] E0 (tCons tn tNil)) σ B bd (everyF n.toNat) := ev_call1 (r := int) h ⟨h0, h6⟩
theorem ev_many {C : Er} {σ : St} {B : Hp} {tr tc : TE} {r c : List Int} (h1 : EVr tr σ B il r) (h2 : EVr tc σ B il c) (hc : isC r c = true) : EVr (tCall (sp_many C) [] E0 (tCons tr (tCons tc tNil))) σ B int (waysF r c : Nat) := ev_call2x (r := il) (q := il) h1 h2 (if_pos hc)
theorem pure_rest {C : Er} (h : sp__law_rest vs H Q E) : t__law_rest K C { nx := fun _ H' => Q .non H', rt := Q } (L2.start ["rows", "columns", "row", "left", "column", "cell"] vs) H := by
  obtain ⟨B, v, w, t, r, c, p, e, rfl, hv, hw, ht, ⟨hc, hp, h01⟩, q⟩ := h
  have q : ∀ u B' H', Nw B H B' H' → u = V.int (restF r c p) → Q u H' := q
  show t__law_rest K C _ [some v, some w, some t, none, none, none] H
  unfold t__law_rest
  obtain ⟨l1, l2, l3, l4, l5, l6⟩ := isC_parts hc
  obtain ⟨r0, rs, rfl⟩ : ∃ r0 rs, r = r0 :: rs := by
    cases r with
    | nil => simp at l1
    | cons r0 rs => exact ⟨r0, rs, rfl⟩
  rw [List.length_cons] at l1 l2 l6
  refine q_set (P := poL int (subF c p)) e (ev_lcZ (r := int) (s := int) (f := fun x y => x - y) (ev_var rfl hw) (ev_var rfl ht) (by omega) hp.symm (fun _ _ => rfl) (fun x y v1 w1 B4 _ _ e4 hx hy => ?_)) fun u B1 H1 n1 hu => ?_
  · cases hx
    cases hy
    exact ev_ii (ev_varI rfl) (ev_varI rfl) rfl
  have hl := poL_lst hu
  have sl : (subF c p).length = c.length := subF_len hp
  have hv1 := il.stE n1.bb hv
  have ht1 := il.stE n1.bb ht
  refine q_if (b := !decide (p.sum = r0) || (!okF (subF c p) || !((subF c p).all fun x => decide (x ≤ (rs.length : Int))))) n1.bh (t_eq (Evl.et_or (t_test (ev_neI (ev_sum (ev_var rfl ht1)) (ev_ix (r := int) (xs := r0 :: rs) (ev_var rfl hv1) ev_int (atI_zero rfl)))) fun _ => Evl.et_or (t_test (ev_iib (ev_min (ev_var rfl hl) (by omega)) ev_int rfl)) fun _ => t_test (ev_iib (ev_max (ev_var rfl hl) (by omega)) (ev_ii (ev_len (r := int) (xs := r0 :: rs) (ev_var rfl hv1)) ev_int rfl) rfl)) ?_) (fun hc2 H2 e2 => ?_) (fun hc2 H2 e2 => ?_)
  · rw [minL_neg (by omega), maxL_big (by omega)]
    congr 3
    have : (((r0 :: rs).length : Nat) : Int) - 1 = (rs.length : Int) := by rw [List.length_cons]; omega
    rw [this]
  · refine w_ret (P := poR int 0) (n1.bh.trans e2) ev_int fun u3 B3 H3 n3 hu3 => q u3 B3 H3 ((n1.grow e2).trans n3) ?_
    have hu3 : u3 = V.int 0 := hu3
    rw [hu3]
    congr 1
    unfold restF
    split
    · rename_i hh
      obtain ⟨g1, g2⟩ := hh
      have g1 : p.sum = r0 := g1
      rw [decide_eq_true g1, g2] at hc2
      simp only [Bool.not_true, Bool.false_or, Bool.not_eq_true'] at hc2
      obtain ⟨x, hx, hn⟩ := List.all_eq_false.mp hc2
      have hn : ¬ x ≤ (rs.length : Int) := fun z => hn (decide_eq_true z)
      have : waysF rs (subF c p) = 0 := ways_big (okF_iff.mp g2) hx (by omega)
      show (0 : Int) = ((waysF rs (subF c p) : Nat) : Int)
      rw [this]
      rfl
    · rfl
  · simp only [Bool.or_eq_false_iff, Bool.not_eq_false', decide_eq_true_eq] at hc2
    obtain ⟨g1, g2, g3⟩ := hc2
    have hrest : restF (r0 :: rs) c p = ((waysF rs (subF c p) : Nat) : Int) := if_pos ⟨g1, g2⟩
    have m2 := n1.grow e2
    refine q_if (b := decide ((((r0 :: rs).length : Nat) : Int) = 1)) m2.bh (t_test (ev_eqI (ev_len (r := int) (xs := r0 :: rs) (ev_var rfl hv1)) ev_int)) (fun hc3 H3 e3 => ?_) (fun hc3 H3 e3 => ?_)
    · have hrs : rs = [] := by
        have := of_decide_eq_true hc3
        rw [List.length_cons] at this
        exact List.length_eq_zero_iff.mp (by omega)
      subst hrs
      refine w_ret (P := poR int (if decide ((subF c p).sum = 0) then 1 else 0)) (m2.grow e3).bh (ev_intB (ev_eqI (ev_sum (ev_var rfl hl)) ev_int)) fun u4 B4 H4 n4 hu4 => q u4 B4 H4 ((m2.grow e3).trans n4) ?_
      have hu4 : u4 = V.int (if decide ((subF c p).sum = 0) = true then 1 else 0) := hu4
      rw [hu4, hrest, ways_nil]
      by_cases h0 : (subF c p).sum = 0
      · rw [decide_eq_true h0, if_pos h0]
        rfl
      · rw [decide_eq_false h0, if_neg h0]
        rfl
    · have hrs : 1 ≤ rs.length := by
        have := of_decide_eq_false hc3
        rw [List.length_cons] at this
        omega
      have hC2 : isC rs (subF c p) = true := by
        refine isC_of ⟨hrs, by omega⟩ (by rw [sl]; exact ⟨l3, l4⟩) (fun x hx => by rw [sl]; exact l5 x (List.mem_cons_of_mem _ hx)) fun x hx => ⟨okF_iff.mp g2 x hx, ?_⟩
        exact of_decide_eq_true (List.all_eq_true.mp g3 x hx)
      refine w_ret (P := poR int (waysF rs (subF c p) : Nat)) (m2.grow e3).bh (ev_many (r := rs) (c := subF c p) (EV.of_n (ev_from (n := 1) (xs := r0 :: rs) (ev_var rfl hv1) ev_int rfl)) (ev_var rfl hl) hC2) fun u4 B4 H4 n4 hu4 => q u4 B4 H4 ((m2.grow e3).trans n4) ?_
      rw [hrest]
      exact hu4
/-! ### refusals -/
theorem suite_not {C : Er} {a D : Addr} {d : Nat} {σ : St} {i : Nat} {De : Ends} (hi : σ[i]? = some (some (.ref a))) (kd : KindOk K C D d) (hd : d < 6) (k : ∀ H', Ex H H' → De.rt (.bl true) H') :
    tRet (tNotV (tCall (sp__law_other K C a (.ref D) none) [] E0 (tCons (tVar i) (tCons (tC (.int (d : Int))) tNil)))) De σ H :=
  ⟨.ref a, hi, D, d, rfl, rfl, kd, hd, rfl, fun H' e => ⟨false, rfl, k H' e⟩⟩
theorem pure_refused_k07 {C : Er} (kd : KindOk K C C.NoNumber 2) (h : sp__law_refused_k07 vs H Q E) : t__law_refused_k07 K C { nx := fun _ H' => Q .non H', rt := Q } (L2.start ["rows", "columns", "number", "e"] vs) H := by
  obtain ⟨B, v, w, t, r, c, k, e, rfl, hv, hw, ht, hc, q⟩ := h
  cases ht
  have q : ∀ u B' H', Nw B H B' H' → u = V.bl (decide (k < 0) || decide (((waysF r c : Nat) : Int) ≤ k)) → Q u H' := q
  show t__law_refused_k07 K C _ [some v, some w, some (.int k), none] H
  unfold t__law_refused_k07
  have m0 := Nw.refl e
  refine ⟨v, rfl, w, rfl, .int k, rfl, B, v, w, .int k, r, c, k, e, rfl, hv, hw, rfl, fun c' hc' H1 e1 => ?_, fun po hp u B1 H1 n1 hu => ?_⟩
  · have hc' : (if isC r c = true then if 0 ≤ k ∧ k < (waysF r c : Nat) then Sum.inr (poB (boardAtF r c k)) else Sum.inl C.NoNumber else Sum.inl C.NoCounts) = Sum.inl c' := hc'
    rw [if_pos hc] at hc'
    split at hc'
    · cases hc'
    · rename_i hn
      cases hc'
      refine ⟨true, kd.ex, fun _ a na => suite_not (d := 2) rfl kd (by decide) fun H2 e2 => q _ B H2 (m0.grow (e1.trans e2)) ?_, fun z => nomatch z⟩
      congr 1
      symm
      rw [Bool.or_eq_true, decide_eq_true_eq, decide_eq_true_eq]
      omega
  · have hp : (if isC r c = true then if 0 ≤ k ∧ k < (waysF r c : Nat) then Sum.inr (poB (boardAtF r c k)) else Sum.inl C.NoNumber else Sum.inl C.NoCounts) = Sum.inr po := hp
    rw [if_pos hc] at hp
    split at hp
    · rename_i hn
      refine q _ B1 H1 n1 ?_
      congr 1
      symm
      rw [Bool.or_eq_false_iff, decide_eq_false_iff_not, decide_eq_false_iff_not]
      omega
    · cases hp
theorem board_isOf {r c : List Int} {k : Int} (hc : isC r c = true) (h : 0 ≤ k ∧ k < (waysF r c : Nat)) : IsOf r c (boardAtF r c k) := by
  obtain ⟨_, _, _, _, _, l6⟩ := isC_parts hc
  refine (mem_brd fun x hx => (l6 x hx).1).mp ?_
  unfold boardAtF
  have : k.toNat < (brdF r c).length := by unfold waysF at h; omega
  exact List.mem_of_getElem? (getD_some this)
theorem ev_board_at {C : Er} {σ : St} {B : Hp} {tr tc tk : TE} {r c : List Int} {k : Int} (h1 : EVr tr σ B il r) (h2 : EVr tc σ B il c) (h3 : EVr tk σ B int k) (hc : isC r c = true) (h : 0 ≤ k ∧ k < (waysF r c : Nat)) : EV (tCall (sp_board_at C) [] E0 (tCons tr (tCons tc (tCons tk tNil)))) σ B (poB (boardAtF r c k)) := EV.of fun H e Q q =>
  h1.run e fun v B1 H1 n1 hv => (h2.mono n1.bb).run n1.bh fun w B2 H2 n2 hw => (h3.mono (n1.bb.trans n2.bb)).run n2.bh fun t B3 H3 n3 ht => ⟨B3, v, w, t, r, c, k, n3.bh, rfl, il.stE (n2.bb.trans n3.bb) hv, il.stE n3.bb hw, ht, fun c' hc' => (by
    have hc' : (if isC r c = true then if 0 ≤ k ∧ k < (waysF r c : Nat) then Sum.inr (poB (boardAtF r c k)) else Sum.inl C.NoNumber else Sum.inl C.NoCounts) = Sum.inl c' := hc'
    rw [if_pos hc, if_pos h] at hc'
    cases hc'), fun po hp u B4 H4 n4 hu => by
    have hp : (if isC r c = true then if 0 ≤ k ∧ k < (waysF r c : Nat) then Sum.inr (poB (boardAtF r c k)) else Sum.inl C.NoNumber else Sum.inl C.NoCounts) = Sum.inr po := hp
    rw [if_pos hc, if_pos h] at hp
    cases hp
    exact q u B4 H4 (((n1.trans n2).trans n3).trans n4) ((poB _).dn ((n1.hh.trans n2.hh).trans n3.hh) hu)⟩
end
end MK

namespace MK
/-! ### boards by one of their rows -/
theorem csum_app2 {b c : List (List Int)} {k : Nat} : csum (b ++ c) k = csum b k + csum c k := by
  unfold csum
  rw [List.map_append, List.sum_append]
theorem filter_flat2 {α β : Type} {p : β → Bool} {f : α → List β} : ∀ l : List α, (l.flatMap f).filter p = l.flatMap fun a => (f a).filter p
  | [] => rfl
  | a :: l => by rw [List.flatMap_cons, List.flatMap_cons, List.filter_append, filter_flat2 l]
theorem isOf_front {u v cols : List Int} {a : Int} {u' v' : List (List Int)} {x : List Int} (hu : u'.length = u.length) : IsOf (u ++ a :: v) cols (u' ++ x :: v') ↔ IsOf (a :: (u ++ v)) cols (x :: (u' ++ v')) := by
  have hperm : (u' ++ x :: v').Perm (x :: (u' ++ v')) := List.perm_middle
  constructor
  · intro h
    have rs := h.rs
    rw [List.map_append, List.map_cons] at rs
    obtain ⟨e1, e2⟩ := List.append_inj rs (by rw [List.length_map, hu])
    injection e2 with e3 e4
    refine ⟨by have := h.ln; simp at this ⊢; omega, fun r hr => h.row r (hperm.mem_iff.mpr hr), by rw [List.map_cons, List.map_append, e1, e3, e4], fun k hk => ?_⟩
    have := h.cs k hk
    rw [csum_app2, csum_cons] at this
    rw [csum_cons, csum_app2]
    omega
  · intro h
    have rs := h.rs
    rw [List.map_cons, List.map_append] at rs
    injection rs with e3 e4
    obtain ⟨e1, e2⟩ := List.append_inj e4 (by rw [List.length_map, hu])
    refine ⟨by have := h.ln; simp at this ⊢; omega, fun r hr => h.row r (hperm.mem_iff.mp hr), by rw [List.map_append, List.map_cons, e1, e3, e2], fun k hk => ?_⟩
    have := h.cs k hk
    rw [csum_cons, csum_app2] at this
    rw [csum_app2, csum_cons]
    omega
theorem split_row {α : Type} {b : List α} {i : Nat} (d : α) (h : i < b.length) : b.take i ++ b.getD i d :: b.drop (i + 1) = b := by
  have e : b.getD i d = b[i] := by rw [List.getD_eq_getElem?_getD, List.getElem?_eq_getElem h]; rfl
  rw [e, ← List.drop_eq_getElem_cons h, List.take_append_drop]
def otherF (r : List Int) (i : Nat) : List Int := r.take i ++ r.drop (i + 1)
def markF (r c : List Int) (i k : Nat) : Nat := ((brdF r c).filter fun b => decide ((b.getD i []).getD k 0 = 1)).length
def frontF (i : Nat) (b : List (List Int)) : List (List Int) := b.getD i [] :: (b.take i ++ b.drop (i + 1))
def awayF (i : Nat) (b : List (List Int)) : List (List Int) := (b.drop 1).take i ++ b.getD 0 [] :: (b.drop 1).drop i
theorem front_isOf {r cols : List Int} {i : Nat} {b : List (List Int)} (hi : i < r.length) (h : IsOf r cols b) : IsOf (r.getD i 0 :: otherF r i) cols (frontF i b) := by
  have hl : i < b.length := by rw [h.ln]; exact hi
  unfold otherF frontF
  refine (isOf_front (u := r.take i) (v := r.drop (i + 1)) (u' := b.take i) (v' := b.drop (i + 1)) ?_).mp ?_
  · rw [List.length_take, List.length_take, h.ln]
  · rw [split_row 0 hi, split_row [] hl]
    exact h
theorem away_isOf {r cols : List Int} {i : Nat} {b : List (List Int)} (hi : i < r.length) (h : IsOf (r.getD i 0 :: otherF r i) cols b) : IsOf r cols (awayF i b) ∧ (awayF i b).getD i [] = b.getD 0 [] := by
  have hl := h.ln
  cases b with
  | nil => simp at hl
  | cons x w =>
    have hw : w.length + 1 = r.length := by
      unfold otherF at hl
      rw [List.length_cons, List.length_cons, List.length_append, List.length_take, List.length_drop] at hl
      omega
    have hti : (w.take i).length = i := by rw [List.length_take]; omega
    unfold awayF
    have e1 : (x :: w).drop 1 = w := rfl
    have e2 : (x :: w).getD 0 [] = x := rfl
    rw [e1, e2]
    constructor
    · have h2 : IsOf (r.getD i 0 :: (r.take i ++ r.drop (i + 1))) cols (x :: (w.take i ++ w.drop i)) := by
        rw [List.take_append_drop]
        exact h
      have := (isOf_front (u := r.take i) (v := r.drop (i + 1)) (u' := w.take i) (v' := w.drop i) (by rw [hti, List.length_take]; omega)).mpr h2
      rw [split_row 0 hi] at this
      exact this
    · rw [List.getD_eq_getElem?_getD, List.getElem?_append_right (by omega), hti, Nat.sub_self]
      rfl
theorem front_inj {i : Nat} {b c : List (List Int)} (hb : i < b.length) (hc : i < c.length) (h : frontF i b = frontF i c) : b = c := by
  unfold frontF at h
  injection h with h1 h2
  obtain ⟨h3, h4⟩ := List.append_inj h2 (by rw [List.length_take, List.length_take]; omega)
  rw [← split_row [] hb, ← split_row [] hc, h1, h3, h4]
theorem away_inj {i : Nat} {b c : List (List Int)} (hb : i < b.length) (hc : i < c.length) (h : awayF i b = awayF i c) : b = c := by
  cases b with
  | nil => simp at hb
  | cons x w =>
    cases c with
    | nil => simp at hc
    | cons y z =>
      unfold awayF at h
      have h : w.take i ++ x :: w.drop i = z.take i ++ y :: z.drop i := h
      rw [List.length_cons] at hb hc
      obtain ⟨h1, h2⟩ := List.append_inj h (by rw [List.length_take, List.length_take]; omega)
      injection h2 with h3 h4
      rw [h3, ← List.take_append_drop i w, h1, h4, List.take_append_drop]
theorem mark_front {r cols : List Int} {i k : Nat} (hc : ∀ c ∈ cols, 0 ≤ c) (hi : i < r.length) : markF r cols i k = markF (r.getD i 0 :: otherF r i) cols 0 k := by
  have len1 : ∀ b ∈ (brdF r cols).filter (fun b => decide ((b.getD i []).getD k 0 = 1)), i < b.length := fun b hb => by
    rw [((mem_brd hc).mp (List.mem_filter.mp hb).1).ln]
    exact hi
  have len2 : ∀ b ∈ (brdF (r.getD i 0 :: otherF r i) cols).filter (fun b => decide ((b.getD 0 []).getD k 0 = 1)), i < b.length := fun b hb => by
    have := ((mem_brd hc).mp (List.mem_filter.mp hb).1).ln
    unfold otherF at this
    rw [List.length_cons, List.length_append, List.length_take, List.length_drop] at this
    omega
  refine Nat.le_antisymm ?_ ?_
  · refine length_le_of_inj (frontF i) ((brd_nodup _ _).filter _) (fun b hb => ?_) fun b hb b2 hb2 e => front_inj (len1 b hb) (len1 b2 hb2) e
    obtain ⟨h1, h2⟩ := List.mem_filter.mp hb
    exact List.mem_filter.mpr ⟨(mem_brd hc).mpr (front_isOf hi ((mem_brd hc).mp h1)), h2⟩
  · refine length_le_of_inj (awayF i) ((brd_nodup _ _).filter _) (fun b hb => ?_) fun b hb b2 hb2 e => away_inj (len2 b hb) (len2 b2 hb2) e
    obtain ⟨h1, h2⟩ := List.mem_filter.mp hb
    obtain ⟨h3, h4⟩ := away_isOf hi ((mem_brd hc).mp h1)
    refine List.mem_filter.mpr ⟨(mem_brd hc).mpr h3, ?_⟩
    rw [h4]
    exact h2
theorem mark_cons {a : Int} {rs cols : List Int} {k : Nat} : markF (a :: rs) cols 0 k = ((patF a cols.length).map fun p => if okF (subF cols p) = true then (if p.getD k 0 = 1 then waysF rs (subF cols p) else 0) else 0).sum := by
  unfold markF
  rw [brd_cons, filter_flat2, length_flatMap']
  refine congrArg List.sum (List.map_congr_left fun p _ => ?_)
  unfold behindF
  by_cases ho : okF (subF cols p) = true
  · rw [if_pos ho, if_pos ho]
    by_cases h : p.getD k 0 = 1
    · rw [if_pos h, List.filter_eq_self.mpr, List.length_map]
      · rfl
      · intro b hb
        obtain ⟨w, _, rfl⟩ := List.mem_map.mp hb
        exact decide_eq_true h
    · rw [if_neg h, List.filter_eq_nil_iff.mpr]
      · rfl
      · intro b hb
        obtain ⟨w, _, rfl⟩ := List.mem_map.mp hb
        exact fun z => h (of_decide_eq_true z)
  · rw [if_neg ho, if_neg ho]
    rfl
def accF (o c : List Int) (ps : List (List Int)) : List Int := ps.foldl (fun found p => if okF (subF c p) = true then List.zipWith (fun t x => t + (waysF o (subF c p) : Int) * x) found p else found) (c.map fun _ => 0)
theorem acc_from {o c : List Int} : ∀ (ps : List (List Int)) (cs : List Int), cs.length = c.length → (∀ p ∈ ps, p.length = c.length) → ps.foldl (fun found p => if okF (subF c p) = true then List.zipWith (fun t x => t + (waysF o (subF c p) : Int) * x) found p else found) cs = (List.range c.length).map fun k => cs.getD k 0 + (ps.map fun p => if okF (subF c p) = true then (waysF o (subF c p) : Int) * p.getD k 0 else 0).sum
  | [], cs, h, _ => by
    have := range_getD cs
    rw [h] at this
    simp only [List.foldl_nil, List.map_nil, List.sum_nil, Int.add_zero]
    exact this.symm
  | p :: ps, cs, h, hp => by
    rw [List.foldl_cons]
    have hpl := hp p List.mem_cons_self
    have hl : (if okF (subF c p) = true then List.zipWith (fun t x => t + (waysF o (subF c p) : Int) * x) cs p else cs).length = c.length := by
      split
      · rw [List.length_zipWith]; omega
      · exact h
    rw [acc_from ps _ hl fun q hq => hp q (List.mem_cons_of_mem _ hq)]
    refine List.map_congr_left fun k hk => ?_
    have hk := List.mem_range.mp hk
    rw [List.map_cons, List.sum_cons]
    have : (if okF (subF c p) = true then List.zipWith (fun t x => t + (waysF o (subF c p) : Int) * x) cs p else cs).getD k 0 = cs.getD k 0 + if okF (subF c p) = true then (waysF o (subF c p) : Int) * p.getD k 0 else 0 := by
      split
      · rw [List.getD_eq_getElem?_getD, List.getElem?_zipWith, List.getElem?_eq_getElem (by omega), List.getElem?_eq_getElem (by omega), List.getD_eq_getElem?_getD, List.getElem?_eq_getElem (by omega), List.getD_eq_getElem?_getD, List.getElem?_eq_getElem (by omega)]
        rfl
      · omega
    rw [this]
    omega
def marksF (r c : List Int) (i : Nat) : List Int := (List.range c.length).map fun k => (markF r c i k : Int)
theorem sum_cast2 {α : Type} {f : α → Nat} : ∀ l : List α, ((l.map f).sum : Int) = (l.map fun x => (f x : Int)).sum
  | [] => rfl
  | x :: l => by
    rw [List.map_cons, List.sum_cons, List.map_cons, List.sum_cons, ← sum_cast2 l]
    omega
theorem marks_acc {r c : List Int} {i : Nat} (hc : ∀ x ∈ c, 0 ≤ x) (hi : i < r.length) : accF (otherF r i) c (patF (r.getD i 0) c.length) = marksF r c i := by
  unfold accF marksF
  rw [acc_from _ _ (by rw [List.length_map]) fun p hp => pat_len hp]
  refine List.map_congr_left fun k hk => ?_
  have hk := List.mem_range.mp hk
  rw [mark_front hc hi, mark_cons, sum_cast2]
  have h0 : (c.map fun _ => (0 : Int)).getD k 0 = 0 := by
    rw [List.getD_eq_getElem?_getD, List.getElem?_map]
    cases c[k]? <;> rfl
  rw [h0, Int.zero_add]
  refine congrArg List.sum (List.map_congr_left fun p hp => ?_)
  obtain ⟨p1, p2, _⟩ := mem_pat.mp hp
  split
  · rcases p2 _ (getD_mem (k := k) (l := p) (by omega)) with h | h
    · rw [h, if_neg (by decide), Int.mul_zero]
      rfl
    · rw [h, if_pos rfl, Int.mul_one]
  · rfl
theorem acc_len {o c : List Int} {ps : List (List Int)} (h : ∀ p ∈ ps, p.length = c.length) : (accF o c ps).length = c.length := by
  unfold accF
  rw [acc_from _ _ (by rw [List.length_map]) h, List.length_map, List.length_range]
theorem acc_snoc {o c : List Int} {ps : List (List Int)} {p : List Int} : accF o c (ps ++ [p]) = if okF (subF c p) = true then List.zipWith (fun t x => t + (waysF o (subF c p) : Int) * x) (accF o c ps) p else accF o c ps := by
  unfold accF
  rw [List.foldl_append]
  rfl
theorem mark_all {r c : List Int} {i k : Nat} : markF r c i k = waysF r c ↔ ∀ b ∈ brdF r c, (b.getD i []).getD k 0 = 1 := by
  unfold markF waysF
  rw [List.length_filter_eq_length_iff]
  exact ⟨fun h b hb => of_decide_eq_true (h b hb), fun h b hb => decide_eq_true (h b hb)⟩
theorem mark_none {r c : List Int} {i k : Nat} : markF r c i k = 0 ↔ ∀ b ∈ brdF r c, (b.getD i []).getD k 0 ≠ 1 := by
  unfold markF
  rw [List.length_eq_zero_iff, List.filter_eq_nil_iff]
  exact ⟨fun h b hb z => h b hb (decide_eq_true z), fun h b hb z => h b hb (of_decide_eq_true z)⟩
theorem brd_cell {r c : List Int} {b : List (List Int)} {i k : Nat} (hc : ∀ x ∈ c, 0 ≤ x) (hb : b ∈ brdF r c) (hi : i < r.length) (hk : k < c.length) : (b.getD i []).getD k 0 = 0 ∨ (b.getD i []).getD k 0 = 1 := by
  have h := (mem_brd hc).mp hb
  have hl : i < b.length := by rw [h.ln]; exact hi
  have hm : b.getD i [] ∈ b := by
    rw [List.getD_eq_getElem?_getD, List.getElem?_eq_getElem hl]
    exact List.getElem_mem hl
  obtain ⟨h1, h2⟩ := h.row _ hm
  exact h2 _ (getD_mem (by omega))
theorem brd_at {r c x : List Int} {i : Nat} (hc : ∀ x ∈ c, 0 ≤ x) (hi : i < r.length) : (∃ b ∈ brdF r c, b.getD i [] = x) ↔ x ∈ patF (r.getD i 0) c.length ∧ okF (subF c x) = true ∧ waysF (otherF r i) (subF c x) ≠ 0 := by
  constructor
  · rintro ⟨b, hb, rfl⟩
    have h := (mem_brd hc).mpr (front_isOf hi ((mem_brd hc).mp hb))
    rw [brd_cons] at h
    obtain ⟨p, hp, hm⟩ := List.mem_flatMap.mp h
    unfold behindF at hm
    split at hm
    · rename_i ho
      obtain ⟨w, hw, e⟩ := List.mem_map.mp hm
      unfold frontF at e
      injection e with e1 e2
      subst e1
      refine ⟨hp, ho, fun z => ?_⟩
      unfold waysF at z
      rw [List.length_eq_zero_iff] at z
      rw [z] at hw
      cases hw
    · cases hm
  · rintro ⟨hp, ho, hn⟩
    have hpos : 0 < (brdF (otherF r i) (subF c x)).length := Nat.pos_of_ne_zero hn
    have hw := List.getElem_mem hpos
    generalize (brdF (otherF r i) (subF c x))[0] = w at hw
    have hm : x :: w ∈ brdF (r.getD i 0 :: otherF r i) c := by
      rw [brd_cons]
      refine List.mem_flatMap.mpr ⟨x, hp, ?_⟩
      unfold behindF
      rw [if_pos ho]
      exact List.mem_map.mpr ⟨w, hw, rfl⟩
    obtain ⟨h3, h4⟩ := away_isOf hi ((mem_brd hc).mp hm)
    exact ⟨_, (mem_brd hc).mpr h3, h4⟩
end MK

namespace MK
/-! ### walls -/
def pickS (xs ks : List Int) : Int := (ks.map fun k => xs.getD k.toNat 0).sum
structure Rising (ks : List Int) (n : Nat) : Prop where
  up : ks.Pairwise (· < ·)
  inn : ∀ k ∈ ks, 0 ≤ k ∧ k < (n : Int)
structure Wall (ones twos xs ys : List Int) : Prop where
  r1 : Rising xs ones.length
  r2 : Rising ys twos.length
  gt : pickS twos ys + (xs.length : Int) * ((twos.length : Int) - (ys.length : Int)) < pickS ones xs
def NoWall (ones twos : List Int) : Prop := ∀ s : Nat, 1 ≤ s → s ≤ ones.length → ((descS ones).take s).sum ≤ capS twos (s : Int)
theorem capS_le : ∀ (cols : List Int) (k : Int), capS cols k ≤ cols.sum
  | [], _ => Int.le_refl 0
  | c :: cols, k => by
    rw [capS_cons, List.sum_cons]
    have := capS_le cols k
    split <;> omega
theorem wall_there {rows cols : List Int} (h1 : 1 ≤ rows.length) (h2 : 1 ≤ cols.length) (hr : ∀ r ∈ rows, 0 ≤ r) (hc : ∀ c ∈ cols, 0 ≤ c) (hw : waysF rows cols = 0) (n1 : NoWall rows cols) (n2 : NoWall cols rows) : False := by
  have all : ∀ {a b : List Int}, 1 ≤ a.length → NoWall a b → a.sum ≤ b.sum := fun {a b} h n => by
    have h3 := n a.length h (Nat.le_refl _)
    have e : (descS a).take a.length = descS a := List.take_of_length_le (by rw [(descS_perm a).length_eq]; exact Nat.le_refl _)
    rw [e, perm_sum (descS_perm a)] at h3
    have := capS_le b (a.length : Int)
    omega
  have e : rows.sum = cols.sum := Int.le_antisymm (all h1 n1) (all h2 n2)
  obtain ⟨k, hk, hlt⟩ := no_board hr hc e hw
  cases k with
  | zero =>
    have := capS_nonneg (k := ((0 : Nat) : Int)) (by decide) hc
    rw [List.take_zero] at hlt
    have h0 : ([] : List Int).sum = 0 := rfl
    omega
  | succ k =>
    have := n1 (k + 1) (by omega) hk
    omega
theorem split_sum {p : Nat → Bool} {f : Nat → Int} {K : Int} : ∀ l : List Nat, (l.map fun x => if p x = true then f x else K).sum = ((l.filter p).map f).sum + K * ((l.length : Int) - ((l.filter p).length : Int))
  | [] => by simp
  | x :: l => by
    have ih := split_sum (p := p) (f := f) (K := K) l
    rw [List.map_cons, List.sum_cons, ih, List.filter_cons, List.length_cons]
    by_cases h : p x = true
    · rw [if_pos h, if_pos h, List.map_cons, List.sum_cons, List.length_cons]
      have e : ((l.length + 1 : Nat) : Int) - (((l.filter p).length + 1 : Nat) : Int) = (l.length : Int) - ((l.filter p).length : Int) := by omega
      rw [e]
      omega
    · rw [if_neg h, if_neg h]
      have e : ((l.length + 1 : Nat) : Int) - ((l.filter p).length : Int) = ((l.length : Int) - ((l.filter p).length : Int)) + 1 := by omega
      rw [e, Int.mul_add]
      omega
/-- others, as they are reckoned -/
def othersF (twos : List Int) (s : Int) : List Int := ((List.range twos.length).filter fun k => decide (twos.getD k 0 ≤ s)).map fun (k : Nat) => (k : Int)
theorem others_rising {twos : List Int} {s : Int} : Rising (othersF twos s) twos.length := by
  unfold othersF
  refine ⟨?_, fun k hk => ?_⟩
  · rw [List.pairwise_map]
    refine List.Pairwise.sublist List.filter_sublist ?_
    exact (List.pairwise_lt_range).imp fun h => by omega
  · obtain ⟨n, hn, rfl⟩ := List.mem_map.mp hk
    have := List.mem_range.mp (List.mem_filter.mp hn).1
    omega
theorem pick_others {twos : List Int} {s : Int} : pickS twos (othersF twos s) = (((List.range twos.length).filter fun k => decide (twos.getD k 0 ≤ s)).map fun k => twos.getD k 0).sum := by
  unfold pickS othersF
  rw [List.map_map]
  rfl
theorem room_cap {twos : List Int} {s : Int} : pickS twos (othersF twos s) + s * ((twos.length : Int) - ((othersF twos s).length : Int)) = capS twos s := by
  have h := split_sum (p := fun k => decide (twos.getD k 0 ≤ s)) (f := fun k => twos.getD k 0) (K := s) (List.range twos.length)
  rw [List.length_range] at h
  have e : (othersF twos s).length = ((List.range twos.length).filter fun k => decide (twos.getD k 0 ≤ s)).length := by
    unfold othersF
    rw [List.length_map]
  rw [pick_others, e, ← h]
  unfold capS
  conv => rhs; rw [← range_getD twos]
  rw [List.map_map]
  refine congrArg List.sum (List.map_congr_left fun k _ => ?_)
  show (if decide (twos.getD k 0 ≤ s) = true then twos.getD k 0 else s) = if twos.getD k 0 ≤ s then twos.getD k 0 else s
  by_cases h : twos.getD k 0 ≤ s
  · rw [if_pos h, if_pos (decide_eq_true h)]
  · rw [if_neg h, if_neg (fun z => h (of_decide_eq_true z))]
/-- the rows in order of their counts -/
def pairsF (ones : List Int) : List (Int × Int) := (List.range ones.length).map fun (k : Nat) => (0 - ones.getD k 0, (k : Int))
structure Ordered (ones : List Int) (ord : List (Int × Int)) : Prop where
  perm : ord.Perm (pairsF ones)
  up : ord.Pairwise fun p q => p.1 ≤ q.1
theorem Ordered.snd {ones : List Int} {ord : List (Int × Int)} (h : Ordered ones ord) : (ord.map fun p => p.2).Perm ((List.range ones.length).map fun (k : Nat) => (k : Int)) := by
  have := h.perm.map fun p : Int × Int => p.2
  unfold pairsF at this
  rw [List.map_map] at this
  exact this
theorem Ordered.fst {ones : List Int} {ord : List (Int × Int)} (h : Ordered ones ord) : (ord.map fun p => 0 - p.1) = descS ones := by
  have hp : (ord.map fun p => 0 - p.1).Perm ones := by
    have := h.perm.map fun p : Int × Int => 0 - p.1
    unfold pairsF at this
    rw [List.map_map] at this
    have e : (List.range ones.length).map ((fun p : Int × Int => 0 - p.1) ∘ fun (k : Nat) => (0 - ones.getD k 0, (k : Int))) = ones := by
      refine (List.map_congr_left fun k _ => ?_).trans (range_getD ones)
      show 0 - (0 - ones.getD k 0) = ones.getD k 0
      omega
    rw [e] at this
    exact this
  have uniq : ∀ {l m : List Int}, l.Perm m → l.Pairwise (fun x y => y ≤ x) → m.Pairwise (fun x y => y ≤ x) → l = m := fun {l m} hp h1 h2 => hp.eq_of_pairwise (le := fun x y => y ≤ x) (fun a b _ _ h1 h2 => Int.le_antisymm h2 h1) h1 h2
  refine uniq (hp.trans (descS_perm ones).symm) ?_ (descS_sorted ones)
  rw [List.pairwise_map]
  exact h.up.imp fun h => by omega
theorem Ordered.val {ones : List Int} {ord : List (Int × Int)} (h : Ordered ones ord) : ∀ p ∈ ord, ones.getD p.2.toNat 0 = 0 - p.1 ∧ 0 ≤ p.2 ∧ p.2 < (ones.length : Int) := fun p hp => by
  have := h.perm.mem_iff.mp hp
  unfold pairsF at this
  obtain ⟨k, hk, rfl⟩ := List.mem_map.mp this
  have hk := List.mem_range.mp hk
  refine ⟨?_, by show (0 : Int) ≤ (k : Int); omega, by show (k : Int) < _; omega⟩
  show ones.getD (k : Int).toNat 0 = 0 - (0 - ones.getD k 0)
  rw [Int.toNat_natCast]
  omega
theorem Ordered.len {ones : List Int} {ord : List (Int × Int)} (h : Ordered ones ord) : ord.length = ones.length := by
  have := h.perm.length_eq
  unfold pairsF at this
  rwa [List.length_map, List.length_range] at this
/-- the first s of them, their numbers in order -/
theorem some_wall {ones : List Int} {ord : List (Int × Int)} (h : Ordered ones ord) {s : Nat} (hs : s ≤ ones.length) {xs : List Int} (hp : xs.Perm ((ord.take s).map fun p => p.2)) (hx : xs.Pairwise (· ≤ ·)) : Rising xs ones.length ∧ xs.length = s ∧ pickS ones xs = ((descS ones).take s).sum := by
  have hsub : ((ord.take s).map fun p => p.2).Sublist (ord.map fun p => p.2) := (List.take_sublist _ _).map _
  have hnd : (ord.map fun p => p.2).Nodup := h.snd.symm.nodup (by
    have inj : ∀ {l : List Nat}, l.Nodup → (l.map fun (k : Nat) => (k : Int)).Nodup := fun {l} => by
      induction l with
      | nil => intro _; exact List.nodup_nil
      | cons a l ih =>
        intro h
        rw [List.nodup_cons] at h
        rw [List.map_cons, List.nodup_cons]
        refine ⟨fun hm => ?_, ih h.2⟩
        obtain ⟨b, hb, e⟩ := List.mem_map.mp hm
        have : b = a := by omega
        rw [this] at hb
        exact h.1 hb
    exact inj List.nodup_range)
  have hxn : xs.Nodup := hp.symm.nodup (hnd.sublist hsub)
  refine ⟨⟨?_, fun k hk => ?_⟩, ?_, ?_⟩
  · have := hx.and hxn
    exact this.imp fun ⟨h1, h2⟩ => by omega
  · have := hp.mem_iff.mp hk
    obtain ⟨p, hp2, rfl⟩ := List.mem_map.mp this
    exact (h.val p (List.mem_of_mem_take hp2)).2
  · rw [hp.length_eq, List.length_map, List.length_take, h.len]
    omega
  · unfold pickS
    rw [perm_sum (hp.map _), List.map_map, ← h.fst, ← List.map_take]
    exact congrArg List.sum (List.map_congr_left fun p hp2 => (h.val p (List.mem_of_mem_take hp2)).1)
end MK

namespace MK
open PySem PySem.Spec PyProof.Rows L2 Evl
/-! ### a board or a wall -/
/-- None where there is no wall, else its two lists -/
def poWO (ones twos : List Int) : Po where
  P := fun H B v => (v = .non ∧ NoWall ones twos) ∨ ∃ xs ys, Wall ones twos xs ys ∧ (poPair xs ys).P H B v
  up := fun e h => h.elim .inl fun ⟨xs, ys, h1, h2⟩ => .inr ⟨xs, ys, h1, (poPair xs ys).up e h2⟩
  dn := fun e h => h.elim .inl fun ⟨xs, ys, h1, h2⟩ => .inr ⟨xs, ys, h1, (poPair xs ys).dn e h2⟩
def sp_wall_of : Sp := sp2 il il (fun ones twos => 1 ≤ ones.length ∧ ones.length ≤ 6 ∧ twos.length ≤ 6) fun ones twos => poWO ones twos
/-- (text, x) -/
def poTS (s : Str) (P : Po) : Po where
  P := fun H B v => ∃ t u, v = .ref t ∧ H t = none ∧ B t = some (.tup [.str s, u]) ∧ P.P H B u
  up := fun e ⟨t, u, h1, h2, h3, h4⟩ => ⟨t, u, h1, h2, e _ _ h3, P.up e h4⟩
  dn := fun e ⟨t, u, h1, h2, h3, h4⟩ => ⟨t, u, h1, fresh_back e h2, h3, P.dn e h4⟩
/-- (side, xs, ys), two new lists -/
def poT3 (k : Int) (xs ys : List Int) : Po where
  P := fun H B v => ∃ t p q, v = .ref t ∧ H t = none ∧ B t = some (.tup [.int k, .ref p, .ref q]) ∧ p ≠ q ∧ H p = none ∧ H q = none ∧ IsRow B p xs ∧ IsRow B q ys
  up := fun e ⟨t, p, q, h1, h0, h2, h3, h4, h5, h6, h7⟩ => ⟨t, p, q, h1, h0, e _ _ h2, h3, h4, h5, e _ _ h6, e _ _ h7⟩
  dn := fun e ⟨t, p, q, h1, h0, h2, h3, h4, h5, h6, h7⟩ => ⟨t, p, q, h1, fresh_back e h0, h2, h3, fresh_back e h4, fresh_back e h5, h6, h7⟩
def WallOf (r c : List Int) (k : Int) (xs ys : List Int) : Prop := (k = 0 ∧ Wall r c xs ys) ∨ (k = 1 ∧ Wall c r xs ys)
def poWall (r c : List Int) : Po where
  P := fun H B v => ∃ k xs ys, WallOf r c k xs ys ∧ (poTS "wall" (poT3 k xs ys)).P H B v
  up := fun e ⟨k, xs, ys, h1, h2⟩ => ⟨k, xs, ys, h1, (poTS "wall" (poT3 k xs ys)).up e h2⟩
  dn := fun e ⟨k, xs, ys, h1, h2⟩ => ⟨k, xs, ys, h1, (poTS "wall" (poT3 k xs ys)).dn e h2⟩
def sp_laid (C : Er) : Sp := sp2x il il fun r c => if isC r c = true then .inr (if waysF r c = 0 then poWall r c else poTS "board" (poB (boardAtF r c 0))) else .inl C.NoCounts
end MK

namespace MK
open PySem PySem.Spec PyProof.Rows L2 Evl
def t_wall_of (K : PySem.W.Frag) : TS :=
  (tSeq (tAsg (tCB (rSortedPO K) (tCons (tLc (iRng1 (tCons (tCB (rLenS K) (tCons (tVar 0) tNil)) tNil)) (gName 3) tYes (tTup (tCons (tOp (rI0 fun i j => .int (i - j)) (tC (.int 0)) (tOp (rIxL K) (tVar 0) (tVar 3))) (tCons (tVar 3) tNil))) [3]) tNil)) (gName 2))
  (tSeq (tFor (iRng2 (tCons (tC (.int 1)) (tCons (tOp (rI0 fun i j => .int (i + j)) (tCB (rLenS K) (tCons (tVar 0) tNil)) (tC (.int 1))) tNil))) (gName 4)
  (tSeq (tAsg (tCB (rSortedI K) (tCons (tLc (iList K (tSl (rSlL K) (tVar 2) tNoPart (tPart (tVar 4)))) (gName 6) tYes (tOp (rIxT K) (tVar 6) (tC (.int 1))) [6]) tNil)) (gName 5))
  (tSeq (tAsg (tLc (iRng1 (tCons (tCB (rLenS K) (tCons (tVar 1) tNil)) tNil)) (gName 3) (tTest (tOp (rI0 fun i j => .bl (decide (i ≤ j))) (tOp (rIxL K) (tVar 1) (tVar 3)) (tVar 4))) (tVar 3) [3]) (gName 7))
  (tSeq (tAsg (tOp (rI0 fun i j => .int (i + j)) (tCB (rSum K) (tCons (tLc (iList K (tVar 7)) (gName 3) tYes (tOp (rIxL K) (tVar 1) (tVar 3)) [3]) tNil)) (tOp (rI CMul fun i j => .int (i * j)) (tVar 4) (tOp (rI0 fun i j => .int (i - j)) (tCB (rLenS K) (tCons (tVar 1) tNil)) (tCB (rLenS K) (tCons (tVar 7) tNil))))) (gName 8))
  (tIfS (tTest (tOp (rI0 fun i j => .bl (decide (j < i))) (tCB (rSum K) (tCons (tLc (iList K (tVar 5)) (gName 3) tYes (tOp (rIxL K) (tVar 0) (tVar 3)) [3]) tNil)) (tVar 8)))
  (tRet (tTup (tCons (tVar 5) (tCons (tVar 7) tNil))))
  tNext)))))
  (tRet (tC .non))))
def t_laid (K : PySem.W.Frag) (W : WX) (C : Er) : TS :=
  (tSeq (tDrop (tCallS (sp_asked_counts C) (WE W) (tCons (tVar 0) (tCons (tVar 1) tNil))))
  (tSeq (tIfS (tTest (tOp (rI0 fun i j => .bl (decide (j < i))) (tCall (sp_ways 8) [] E0 (tCons (tVar 0) (tCons (tVar 1) (tCons MKD.tDNew tNil)))) (tC (.int 0))))
  (tRet (tTup (tCons (tC (.str "board")) (tCons (tCallS (sp_board_at C) (WE W) (tCons (tVar 0) (tCons (tVar 1) (tCons (tC (.int 0)) tNil)))) tNil))))
  tNext)
  (tSeq (tAsg (tCall (sp_wall_of) [] E0 (tCons (tVar 0) (tCons (tVar 1) tNil))) (gName 2))
  (tSeq (tIfS (tTest (tOp rNotNone (tVar 2) (tC .non)))
  (tRet (tTup (tCons (tC (.str "wall")) (tCons (tTup (tCons (tC (.int 0)) (tCons (tOp (rIxT K) (tVar 2) (tC (.int 0))) (tCons (tOp (rIxT K) (tVar 2) (tC (.int 1))) tNil)))) tNil))))
  tNext)
  (tSeq (tAsg (tCall (sp_wall_of) [] E0 (tCons (tVar 1) (tCons (tVar 0) tNil))) (gName 2))
  (tRet (tTup (tCons (tC (.str "wall")) (tCons (tTup (tCons (tC (.int 1)) (tCons (tOp (rIxT K) (tVar 2) (tC (.int 0))) (tCons (tOp (rIxT K) (tVar 2) (tC (.int 1))) tNil)))) tNil)))))))))

end MK

namespace MK
open PySem PySem.Spec PyProof.Rows L2 Evl
/-! ### sorted pairs -/
def kOf (B : Hp) : V → Int × Int
  | .ref t => match B t with
    | some (.tup [.int i, .int j]) => (i, j)
    | _ => (0, 0)
  | _ => (0, 0)
theorem kOf_of {B : Hp} {v : V} {p : Int × Int} (h : (pr int int).p B v p) : kOf B v = p ∧ ∃ t, v = .ref t ∧ B t = some (.tup [.int p.1, .int p.2]) := by
  obtain ⟨t, v1, v2, rfl, h2, rfl, rfl⟩ := h
  refine ⟨?_, t, rfl, h2⟩
  simp only [kOf, h2]
theorem kOf_map {B : Hp} : ∀ {vs : List V} {ps : List (Int × Int)}, Paired ((pr int int).p B) vs ps → vs.map (kOf B) = ps
  | _, _, .nil => rfl
  | _, _, .cons h t => by rw [List.map_cons, (kOf_of h).1, kOf_map t]
theorem paired_mem {α β : Type} {F : α → β → Prop} : ∀ {l : List α} {m : List β}, Paired F l m → ∀ a ∈ l, ∃ b, F a b
  | _, _, .nil, _, h => by cases h
  | _, _, .cons h t, a, ha => by
    rcases List.mem_cons.mp ha with e | ha
    · rw [e]; exact ⟨_, h⟩
    · exact paired_mem t a ha
theorem paired_all {B : Hp} : ∀ {ys : List V}, (∀ y ∈ ys, (pr int int).p B y (kOf B y)) → Paired ((pr int int).p B) ys (ys.map (kOf B))
  | [], _ => .nil
  | y :: ys, h => .cons (h y List.mem_cons_self) (paired_all fun z hz => h z (List.mem_cons_of_mem _ hz))
section
variable {σ : St} {B : Hp} {ta tb tc td te tl : TE} {K : PySem.W.Frag} {j n : Nat} {D : Ends} {tu tw : TS} {H : Hp}
theorem ev_sortPO {ps : List (Int × Int)} (h : EVr ta σ B (lst (pr int int)) ps) : EV (tCB (rSortedPO K) (tCons ta tNil)) σ B (poSL (pr int int) fun ys => ys.Perm ps ∧ ys.Pairwise fun p q => p.1 ≤ q.1) := EV.of fun H e Q k =>
  h.run e fun v B1 H1 n1 ⟨a, vs, e0, h2, h3⟩ => by
    subst e0
    have at_ : ∀ x ∈ vs, (pr int int).p B1 x (kOf B1 x) := fun x hx => by
      obtain ⟨p, hp⟩ := paired_mem h3 x hx
      rw [(kOf_of hp).1]
      exact hp
    refine ⟨a, vs, kOf B1, rfl, SqL.of (n1.bh _ _ h2), fun x hx => ?_, fun ys p hs hb hp => ?_⟩
    · obtain ⟨t, h4, h5⟩ := (kOf_of (at_ x hx)).2
      exact ⟨t, h4, n1.bh _ _ h5⟩
    · have hperm := hb.perm
      refine new_list (Q := Q) (xs := ys.map (kOf B1)) n1.bh (paired_all fun y hy => at_ y (hperm.mem_iff.mp hy)) (fun u B2 H2 n2 hu => k u B2 H2 (n1.trans n2) ⟨ys.map (kOf B1), ⟨?_, ?_⟩, (poL (pr int int) _).dn n1.hh hu⟩) hp
      · rw [← kOf_map h3]
        exact hperm.map _
      · rw [List.pairwise_map]
        exact hs.imp fun {x y} hxy => by
          have := SrtO.lexB_no.mp hxy
          omega
/-- for k in range(1, n + 1) -/
theorem q_forR1 {m : Nat} (e : Ex B H) (ha : EVr ta σ B int 1) (hb : EVr tb σ B int ((m : Int) + 1)) (hn : m ≤ 100000) (I : Nat → St → Hp → Prop) (h0 : ∀ H1, Ex H H1 → I 0 σ H1)
    (hs : ∀ i σ' H', i < m → I i σ' H' → tu { D with nx := I (i + 1), ct := I (i + 1), bk := tw D } (σ'.set j (some (.int ((i + 1 : Nat) : Int)))) H') (hd : ∀ σ' H', I m σ' H' → tw D σ' H') : tSeq (tFor (iRng2 (tCons ta (tCons tb tNil))) (gName j) tu) tw D σ H :=
  ha.run e fun v B1 H1 m1 hv => (hb.mono m1.bb).run m1.bh fun w B2 H2 m2 hw => ⟨1, (m : Int) + 1, by rw [hv, hw], ⟨by omega, by omega, by omega, by omega⟩, by
    have e2 : ((m : Int) + 1 - 1).toNat = m := by omega
    rw [e2]
    refine for_range (D := { D with nx := tw D }) (lo := 1) (n := m) I (h0 H2 (m1.hh.trans m2.hh)) (fun i σ' H' hi p => ?_) hd
    have e0 : (1 : Int) + (i : Int) = ((i + 1 : Nat) : Int) := by omega
    rw [e0]
    exact hs i σ' H' hi p⟩
/-- sum([xs[k] for k in ks]) -/
theorem ev_pickS {xs ks : List Int} {tx tk : TE} (hj : j < σ.length) (hk : EVr tk σ B il ks) (hx : ∀ (y : Option V) B1, Ex B B1 → EVr tx ((wipe σ [j]).set j y) B1 il xs) (hz : ks.length ≤ 100) (hin : ∀ k ∈ ks, 0 ≤ k ∧ k < (xs.length : Int)) (hw : ∀ v, wipe ((wipe σ [j]).set j (some v)) [j] = wipe σ [j]) :
    EVr (tCB (rSum K) (tCons (tLc (iList K tk) (gName j) tYes (tOp (rIxL K) tx (tVar j)) [j]) tNil)) σ B int (pickS xs ks) :=
  ev_sum (EV.of_n (ev_lc (r := int) (q := int) (xs := ks) (f := fun k => xs.getD k.toNat 0) hk (by omega) hw fun k v B1 hm e1 hv => by
    cases hv
    have hj' : j < (wipe σ [j]).length := by rw [wipe_length]; exact hj
    exact ev_ix (r := int) (hx _ _ e1) (ev_varI (by rw [List.getElem?_set_self hj'])) (atI_in (hin k hm).1 (hin k hm).2)))
end
section
variable {vs : List V} {H : Hp} {Q : VK} {E : XK} {K : PySem.W.Frag}
theorem pure_wall_of (h : sp_wall_of vs H Q E) : t_wall_of K { nx := fun _ H' => Q .non H', rt := Q } (L2.start ["ones", "twos", "order", "k", "size", "some", "pair", "others", "room"] vs) H := by
  obtain ⟨B, v, w, ones, twos, e, rfl, hv, hw, ⟨l1, l2, l3⟩, q⟩ := h
  have q : ∀ u B' H', Nw B H B' H' → (poWO ones twos).P H B' u → Q u H' := q
  show t_wall_of K _ [some v, some w, none, none, none, none, none, none, none] H
  unfold t_wall_of
  have m0 := Nw.refl e
  refine q_set (P := poSL (pr int int) fun ys => ys.Perm (pairsF ones) ∧ ys.Pairwise fun p q => p.1 ≤ q.1) e (ev_sortPO (EV.of_n (ev_lcR (n := ones.length) (q := pr int int) (f := fun (k : Nat) => (0 - ones.getD k 0, (k : Int))) (ev_len (r := int) (ev_var rfl hv)) (by omega) (fun _ => rfl) fun k B1 hk e1 => ?_))) fun vo B1 H1 n1 ⟨ord, ⟨hp, hu⟩, ho⟩ => ?_
  · exact ev_tup2 (r := int) (q := int) (ev_ii ev_int (ev_ix (r := int) (xs := ones) (ev_var rfl (il.stE e1 hv)) (ev_varI (z := (k : Int)) rfl) (atI_nat (getD_some hk))) rfl) (ev_varI rfl)
  have ho := poL_lst ho
  have O : Ordered ones ord := ⟨hp, hu⟩
  have m1 := m0.trans n1
  refine q_forR1 (m := ones.length) m1.bh ev_int (ev_ii (ev_len (r := int) (ev_var rfl (il.stE m1.bb hv))) ev_int rfl) (by omega)
    (fun i σ' H' => ∃ Bk y4 y5 y7 y8, σ' = [some v, some w, some vo, none, y4, y5, none, y7, y8] ∧ Nw B H Bk H' ∧ Ex B1 Bk ∧ ∀ s : Nat, 1 ≤ s → s ≤ i → ((descS ones).take s).sum ≤ capS twos (s : Int))
    (fun H2 e2 => ⟨B1, none, none, none, none, rfl, m1.grow e2, Ex.refl _, fun s a b => by omega⟩) ?_ ?_
  · rintro i σ' H' hi ⟨Bk, y4, y5, y7, y8, rfl, m, xk, hno⟩
    have hvk := il.stE m.bb hv
    have hwk := il.stE m.bb hw
    have hok := (lst (pr int int)).stE xk ho
    refine q_set (P := poSorted ((ord.take (i + 1)).map fun p => p.2)) m.bh (ev_sorted (EV.of_n (ev_lc (r := pr int int) (q := int) (xs := ord.take (i + 1)) (f := fun p => p.2) (EV.of_n (ev_to (n := i + 1) (ev_var rfl hok) (ev_varI rfl))) (by rw [List.length_take]; omega) (fun _ => rfl) fun p vp B2 hm e2 hvp => ?_))) fun v5 B2 H2 n2 ⟨xs, hxp, hxs, hu5⟩ => ?_
    · exact ev_snd (r := int) (q := int) (x := p.1) (y := p.2) (ev_var rfl hvp) ev_int
    obtain ⟨g1, g2, g3⟩ := some_wall O (s := i + 1) (by omega) hxp hxs
    have m2 := m.trans n2
    obtain ⟨p5, us5, Bq, rfl, f1, f2, f3, f4⟩ := hu5
    have h5 : IsRow B2 p5 xs := by unfold IsRow; rw [f3, upd_same, paired_int f4]
    have z5 : H p5 = none := fresh_back m.hh f1
    have hw2 := il.stE n2.bb hwk
    have hv2 := il.stE n2.bb hvk
    refine q_set (P := poL int (othersF twos ((i + 1 : Nat) : Int))) m2.bh (ev_lcRF (n := twos.length) (q := int) (ok := fun k => decide (twos.getD k 0 ≤ ((i + 1 : Nat) : Int))) (f := fun (k : Nat) => (k : Int)) (ev_len (r := int) (ev_var rfl hw2)) (by omega) (fun _ => rfl) (fun k B3 hk e3 => t_test (ev_iib (ev_ix (r := int) (xs := twos) (ev_var rfl (il.stE e3 hw2)) (ev_varI (z := (k : Int)) rfl) (atI_nat (getD_some hk))) (ev_varI rfl) rfl)) (fun k B3 hk _ e3 => ev_varI rfl)) fun v7 B3 H3 n3 hu7 => ?_
    obtain ⟨p7, us7, Br, rfl, f5, f6, f7, f8⟩ := hu7
    have h7 : IsRow B3 p7 (othersF twos ((i + 1 : Nat) : Int)) := by unfold IsRow; rw [f7, upd_same, paired_int f8]
    have z7 : H p7 = none := fresh_back m2.hh f5
    have m3 := m2.trans n3
    have h53 := n3.bb _ _ h5
    have hne : p5 ≠ p7 := fun z => by
      have := m2.bh _ _ h5
      rw [z, f5] at this
      cases this
    have hw3 := il.stE n3.bb hw2
    have hv3 := il.stE n3.bb hv2
    have r7 := others_rising (twos := twos) (s := ((i + 1 : Nat) : Int))
    have ol : (othersF twos ((i + 1 : Nat) : Int)).length ≤ 6 := by
      unfold othersF
      rw [List.length_map]
      have := List.length_filter_le (fun k => decide (twos.getD k 0 ≤ ((i + 1 : Nat) : Int))) (List.range twos.length)
      rw [List.length_range] at this
      omega
    refine q_set (P := poR int (capS twos ((i + 1 : Nat) : Int))) m3.bh (EV.eq (ev_ii (ev_pickS (j := 3) (xs := twos) (ks := othersF twos ((i + 1 : Nat) : Int)) (by show 3 < 9; decide) (ev_var rfl (il_of h7)) (fun y B4 e4 => ev_var rfl (il.stE e4 hw3)) (by omega) r7.inn (fun _ => rfl)) (ev_iic (i := ((i + 1 : Nat) : Int)) (j := (twos.length : Int) - ((othersF twos ((i + 1 : Nat) : Int)).length : Int)) (ev_varI rfl) (ev_ii (ev_len (r := int) (ev_var rfl hw3)) (ev_len (r := int) (ev_var rfl (il_of h7))) rfl) (.inl ⟨by omega, by omega⟩) rfl) rfl) room_cap) fun u B4 H4 n4 hu => ?_
    cases hu
    have m4 := m3.trans n4
    have h54 := n4.bb _ _ h53
    have h74 := n4.bb _ _ h7
    have hv4 := il.stE n4.bb hv3
    refine w_if0 (b := decide (capS twos ((i + 1 : Nat) : Int) < pickS ones xs)) m4.bh (t_test (ev_iib (ev_pickS (j := 3) (xs := ones) (ks := xs) (by show 3 < 9; decide) (ev_var rfl (il_of h54)) (fun y B5 e5 => ev_var rfl (il.stE e5 hv4)) (by omega) g1.inn (fun _ => rfl)) (ev_varI rfl) rfl)) (fun hc H5 e5 => ?_) (fun hc H5 e5 => ?_)
    · have hc := of_decide_eq_true hc
      have m5 := m4.grow e5
      have hW : Wall ones twos xs (othersF twos ((i + 1 : Nat) : Int)) := ⟨g1, r7, by rw [g2, room_cap]; exact hc⟩
      refine ⟨.ref p5, rfl, .ref p7, rfl, sz_of (by show 2 ≤ 100000; decide), fun t ht => ?_⟩
      have nt := fresh_back m5.bh ht
      exact q _ _ _ (m5.trans (Nw.new m5.bh ht)) (.inr ⟨xs, _, hW, t, p5, p7, rfl, fresh_back m5.hh ht, upd_same, hne, z5, z7, Ex.new nt _ _ h54, Ex.new nt _ _ h74⟩)
    · have hc := of_decide_eq_false hc
      refine ⟨B4, _, _, _, _, rfl, m4.grow e5, (((xk.trans n2.bb).trans n3.bb).trans n4.bb), fun s a b => ?_⟩
      by_cases hs : s = i + 1
      · subst hs
        rw [g3] at hc
        omega
      · exact hno s a (by omega)
  · rintro σ' H' ⟨Bk, y4, y5, y7, y8, rfl, m, xk, hno⟩
    refine w_ret (P := poN) m.bh ev_non fun u B3 H3 n3 hu => q u B3 H3 (m.trans n3) (.inl ⟨hu, fun s a b => hno s a b⟩)
theorem ev_tS {σ : St} {B : Hp} {te : TE} {s : Str} {P : Po} (h : EV te σ B P) : EV (tTup (tCons (tC (.str s)) (tCons te tNil))) σ B (poTS s P) := EV.of fun H e Q q =>
  h.run e fun w B2 H2 n2 hw => ⟨sz_of (by show 2 ≤ 100000; decide), fun t ht =>
    q _ _ _ (n2.trans (Nw.new n2.bh ht)) ⟨t, w, rfl, fresh_back n2.hh ht, upd_same, P.up (Ex.new (fresh_back n2.bh ht)) hw⟩⟩
/-- (k, found[0], found[1]) -/
theorem ev_t3 {σ : St} {B B0 H0 : Hp} {k : Int} {i : Nat} {t p q : Addr} {xs ys : List Int} (h : σ[i]? = some (some (.ref t))) (ht : B t = some (.tup [.ref p, .ref q])) (hne : p ≠ q) (h1 : IsRow B p xs) (h2 : IsRow B q ys) (m : Nw B0 H0 B H) (z1 : H0 p = none) (z2 : H0 q = none) (D : Ends)
    (kk : ∀ u B' H', Nw B0 H0 B' H' → (poTS "wall" (poT3 k xs ys)).P H0 B' u → D.rt u H') :
    tRet (tTup (tCons (tC (.str "wall")) (tCons (tTup (tCons (tC (.int k)) (tCons (tOp (rIxT K) (tVar i) (tC (.int 0))) (tCons (tOp (rIxT K) (tVar i) (tC (.int 1))) tNil)))) tNil))) D σ H :=
  (ev_tupA (n := 0) (K := K) h ht rfl).run m.bh fun v B1 H1 n1 hv => ((ev_tupA (n := 1) (K := K) h ht rfl).mono n1.bb).run n1.bh fun w B2 H2 n2 hw => by
    cases hv
    cases hw
    refine ⟨sz_of (by show 3 ≤ 100000; decide), fun t1 ht1 => ⟨sz_of (by show 2 ≤ 100000; decide), fun t2 ht2 => ?_⟩⟩
    have m2 := (m.trans n1).trans n2
    have m3 := m2.trans (Nw.new (o := .tup [.int k, .ref p, .ref q]) m2.bh ht1)
    have m4 := m3.trans (Nw.new (o := .tup [.str "wall", .ref t1]) m3.bh ht2)
    have n3 := (Nw.new (o := .tup [.int k, .ref p, .ref q]) m2.bh ht1)
    have n4 := (Nw.new (o := .tup [.str "wall", .ref t1]) m3.bh ht2)
    have x := (n1.bb.trans n2.bb).trans (n3.bb.trans n4.bb)
    exact kk _ _ _ m4 ⟨t2, _, rfl, fresh_back m3.hh ht2, upd_same, t1, p, q, rfl, fresh_back m2.hh ht1, n4.bb _ _ upd_same, hne, z1, z2, x _ _ h1, x _ _ h2⟩
theorem ev_call3xS {α β γ : Type} {r : R α} {q : R β} {s : R γ} {f : α → β → γ → Sum Addr Po} {x : α} {y : β} {z : γ} {P : Po} {σ : St} {B : Hp} {ta tb tc : TE} {W : WX} (h1 : EVr ta σ B r x) (h2 : EVr tb σ B q y) (h3 : EVr tc σ B s z) (hp : f x y z = .inr P) : EV (tCallS (sp3x r q s f) (WE W) (tCons ta (tCons tb (tCons tc tNil)))) σ B P := EV.of fun H e Q k =>
  h1.run e fun v B1 H1 n1 hv => (h2.mono n1.bb).run n1.bh fun w B2 H2 n2 hw => (h3.mono (n1.bb.trans n2.bb)).run n2.bh fun t B3 H3 n3 ht => ⟨B3, v, w, t, x, y, z, n3.bh, rfl, r.stE (n2.bb.trans n3.bb) hv, q.stE n3.bb hw, ht, fun c hc => (by rw [hp] at hc; cases hc), fun po hpo u B4 H4 n4 hu => by
    rw [hp] at hpo
    cases hpo
    exact k u B4 H4 (((n1.trans n2).trans n3).trans n4) (P.dn ((n1.hh.trans n2.hh).trans n3.hh) hu)⟩
theorem pure_laid {C : Er} (h : sp_laid C vs H Q E) : t_laid K (fun cls d _ H => E cls d H) C { nx := fun _ H' => Q .non H', rt := Q } (L2.start ["rows", "columns", "found"] vs) H := by
  obtain ⟨B, v, w, r, c, e, rfl, hv, hw, k1, k2⟩ := h
  have k1 : ∀ c', (if isC r c = true then (Sum.inr (if waysF r c = 0 then poWall r c else poTS "board" (poB (boardAtF r c 0))) : Sum Addr Po) else Sum.inl C.NoCounts) = Sum.inl c' → ∀ H', Ex H H' → E (.ref c') none H' := k1
  have k2 : ∀ po, (if isC r c = true then (Sum.inr (if waysF r c = 0 then poWall r c else poTS "board" (poB (boardAtF r c 0))) : Sum Addr Po) else Sum.inl C.NoCounts) = Sum.inr po → ∀ u B' H', Nw B H B' H' → po.P H B' u → Q u H' := k2
  show t_laid K _ C _ [some v, some w, none] H
  unfold t_laid
  refine q_asked (r := r) (c := c) e (ev_var rfl hv) (ev_var rfl hw) (fun hc H1 e1 => k1 _ (if_neg (by rw [hc]; decide)) H1 e1) fun hc B1 H1 n1 => ?_
  have k2 := k2 _ (if_pos hc)
  clear k1
  have hv1 := il.stE n1.bb hv
  have hw1 := il.stE n1.bb hw
  obtain ⟨l1, l2, l3, l4, l5, l6⟩ := isC_parts hc
  have hrn : ∀ x ∈ r, 0 ≤ x := fun x hx => (l5 x hx).1
  have hcn : ∀ x ∈ c, 0 ≤ x := fun x hx => (l6 x hx).1
  refine q_if (b := decide (0 < ((waysF r c : Nat) : Int))) n1.bh (t_test (ev_iib (ev_ways0 (ev_var rfl hv1) (ev_var rfl hw1) (pre_of hc)) ev_int rfl)) (fun hz H2 e2 => ?_) (fun hz H2 e2 => ?_)
  · have hz : 0 < waysF r c := by have := of_decide_eq_true hz; omega
    rw [if_neg (by omega)] at k2
    have m2 := n1.grow e2
    refine w_ret (P := poTS "board" (poB (boardAtF r c 0))) m2.bh (ev_tS (ev_call3xS (r := il) (q := il) (s := int) (x := r) (y := c) (z := 0) (ev_var rfl hv1) (ev_var rfl hw1) ev_int ((if_pos hc).trans (if_pos ⟨by decide, by omega⟩)))) fun u B3 H3 n3 hu => k2 u B3 H3 (m2.trans n3) ((poTS "board" (poB (boardAtF r c 0))).dn m2.hh hu)
  have hz : waysF r c = 0 := by have := of_decide_eq_false hz; omega
  rw [if_pos hz] at k2
  have m2 := n1.grow e2
  refine q_set (P := poWO r c) m2.bh (ev_call2 (r := il) (q := il) (x := r) (y := c) (ev_var rfl hv1) (ev_var rfl hw1) ⟨l1, l2, l4⟩) fun v3 B3 H3 n3 hu3 => ?_
  have m3 := m2.trans n3
  have notNon : ∀ {v3 : V} {B3 H3 : Hp}, Ex B3 H3 → EVT (tTest (tOp rNotNone (tVar 2) (tC .non))) [some v, some w, some v3] B3 (!decide (v3 = .non)) := fun {v3 B3 H3} _ => t_test (EV.of fun H e Q q => ⟨v3, rfl, rfl, q _ B3 H (Nw.refl e) rfl⟩)
  rcases hu3 with ⟨rfl, hno⟩ | ⟨xs, ys, hW, t, p, qq, rfl, h0, h2, h3, h4, h5, h6, h7⟩
  · refine q_if (b := !decide (V.non = .non)) m3.bh (notNon m3.bh) (fun z => by simp at z) (fun _ H4 e4 => ?_)
    have m4 := m3.grow e4
    refine q_set (P := poWO c r) m4.bh (ev_call2 (r := il) (q := il) (x := c) (y := r) (ev_var rfl (il.stE n3.bb hw1)) (ev_var rfl (il.stE n3.bb hv1)) ⟨l3, l4, l2⟩) fun v5 B5 H5 n5 hu5 => ?_
    have m5 := m4.trans n5
    rcases hu5 with ⟨rfl, hno2⟩ | ⟨xs, ys, hW, t, p, qq, rfl, h0, h2, h3, h4, h5, h6, h7⟩
    · exact (wall_there l1 l3 hrn hcn hz hno hno2).elim
    · exact ev_t3 (k := 1) rfl h2 h3 h6 h7 m5 (fresh_back m4.hh h4) (fresh_back m4.hh h5) _ fun u B' H' n hu => k2 u B' H' n ⟨1, xs, ys, .inr ⟨rfl, hW⟩, hu⟩
  · refine q_if (b := !decide (V.ref t = .non)) m3.bh (notNon m3.bh) (fun _ H4 e4 => ?_) (fun z => by simp at z)
    have m4 := m3.grow e4
    exact ev_t3 (k := 0) rfl h2 h3 h6 h7 m4 (fresh_back m2.hh h4) (fresh_back m2.hh h5) _ fun u B' H' n hu => k2 u B' H' n ⟨0, xs, ys, .inl ⟨rfl, hW⟩, hu⟩
end
end MK

namespace MK
open PySem PySem.Spec PyProof.Rows L2 Evl
/-! ### texts -/
inductive Kd where
  | all
  | none
  | some
  deriving DecidableEq
def kdS : Kd → Str
  | .all => "all"
  | .none => "none"
  | .some => "some"
def kv (k : Kd) : V := .str (kdS k)
def kd : R Kd where
  p := fun _ v i => v = kv i
  st := fun _ h => h
  enc := fun k => .str (kdS k)
  dp := fun h => by cases h; exact .str _
  inj := fun x y => by cases x <;> cases y <;> decide +kernel
  lay := fun x => by cases x <;> decide +kernel
  d := 0
  dpt := fun x => by simp [PyData.depth]
abbrev sl : R (List Kd) := lst kd
abbrev sb : R (List (List Kd)) := lst (lst kd)
theorem paired_str {H : Hp} : ∀ {vs : List V} {ns : List Kd}, Paired (kd.p H) vs ns → vs = ns.map kv
  | _, _, .nil => rfl
  | _, _, .cons a t => by
    have e := paired_str t
    subst e
    cases a
    rfl
theorem paired_strs (H : Hp) : ∀ ns : List Kd, Paired (kd.p H) (ns.map kv) ns
  | [] => .nil
  | n :: ns => .cons rfl (paired_strs H ns)
theorem ev_kd {σ : St} {B : Hp} {s : Kd} : EVr (tC (.str (kdS s))) σ B kd s := EV.of fun H e Q k => k _ B H (Nw.refl e) rfl
theorem kv_dec (x y : Kd) : decide (kv x = kv y) = decide (x = y) := by cases x <;> cases y <;> decide +kernel
theorem ev_eqK {σ : St} {B : Hp} {ta tb : TE} {s t : Kd} (ha : EVr ta σ B kd s) (hb : EVr tb σ B kd t) : EVr (tOp rEq ta tb) σ B bl (decide (s = t)) :=
  ev_two ha hb fun B1 H1 v w e1 hv hw Q k => by cases hv; cases hw; exact ⟨(by cases s <;> cases t <;> rfl), k _ _ H1 (Nw.refl e1) (by show _ = _; rw [kv_dec])⟩
/-! ### lists of rows of texts, all new and apart -/
def IsT (B : Hp) (p : Addr) (ss : List Kd) : Prop := B p = some (.lst (ss.map kv))
structure TdAt (H B : Hp) (a : Addr) (ps : List Addr) (xss : List (List Kd)) : Prop where
  na : H a = none
  at_ : B a = some (.lst (ps.map V.ref))
  out : a ∉ ps
  nd : ps.Nodup
  new : ∀ p ∈ ps, H p = none
  rows : Paired (IsT B) ps xss
def poW (xss : List (List Kd)) : Po where
  P := fun H B v => ∃ a ps, v = .ref a ∧ TdAt H B a ps xss
  up := fun e ⟨a, ps, h1, h⟩ => ⟨a, ps, h1, h.na, e _ _ h.at_, h.out, h.nd, h.new, paired_imp (fun _ _ q => e _ _ q) h.rows⟩
  dn := fun e ⟨a, ps, h1, h⟩ => ⟨a, ps, h1, fresh_back e h.na, h.at_, h.out, h.nd, fun p hp => fresh_back e (h.new p hp), h.rows⟩
theorem rows_sl {B : Hp} : ∀ {ps : List Addr} {xss : List (List Kd)}, Paired (IsT B) ps xss → Paired (sl.p B) (ps.map V.ref) xss
  | _, _, .nil => .nil
  | _, _, .cons h t => .cons ⟨_, _, rfl, h, paired_strs B _⟩ (rows_sl t)
theorem TdAt.sb {H B : Hp} {a : Addr} {ps : List Addr} {xss : List (List Kd)} (h : TdAt H B a ps xss) : MK.sb.p B (.ref a) xss := ⟨a, _, rfl, h.at_, rows_sl h.rows⟩
theorem poW_sb {xss : List (List Kd)} {H B : Hp} {v : V} (h : (poW xss).P H B v) : sb.p B v xss := by
  obtain ⟨a, ps, rfl, h⟩ := h
  exact h.sb
structure OwnT (H0 B H : Hp) (a : Addr) (ps : List Addr) (xss : List (List Kd)) : Prop where
  na : H0 a = none
  nb : B a = none
  at_ : H a = some (.lst (ps.map V.ref))
  out : a ∉ ps
  nd : ps.Nodup
  new : ∀ p ∈ ps, H0 p = none
  nbs : ∀ p ∈ ps, B p = none
  rows : Paired (IsT H) ps xss
section
variable {H0 B B1 H H1 H2 : Hp} {a p : Addr} {ps : List Addr} {xss : List (List Kd)}
theorem OwnT.open (e : Ex B H) (n : Nw B H B1 H1) (h : TdAt H B1 a ps xss) : Nw B H (hide a ps B1) H1 ∧ OwnT H (hide a ps B1) H1 a ps xss := by
  have far : ∀ x, H x ≠ none → ¬ (x = a ∨ x ∈ ps) := fun x hx z => by
    rcases z with z | z
    · rw [z] at hx; exact hx h.na
    · exact hx (h.new x z)
  refine ⟨⟨fun x o q => ?_, fun x o q => ?_, n.hh, fun x q => ?_⟩, h.na, if_pos (.inl rfl), n.bh _ _ h.at_, h.out, h.nd, h.new, fun p hp => if_pos (.inr hp), paired_imp (fun _ _ z => n.bh _ _ z) h.rows⟩
  · unfold hide
    rw [if_neg (far x (by rw [e x o q]; intro z; cases z))]
    exact n.bb x o q
  · unfold hide at q
    split at q
    · cases q
    · exact n.bh x o q
  · unfold hide
    rw [if_neg (far x q)]
    exact n.fr x q
theorem seenT_ex (e : Ex B H) (h : OwnT H0 B H a ps xss) : Ex B (seen a ps B H) ∧ Ex (seen a ps B H) H ∧ sb.p (seen a ps B H) (.ref a) xss := by
  refine ⟨fun x o q => ?_, fun x o q => ?_, a, _, rfl, (if_pos (.inl rfl)).trans h.at_, rows_sl (paired_impM (fun p hp row z => (if_pos (.inr hp)).trans z) h.rows)⟩
  · unfold seen
    split
    · exact e x o q
    · exact q
  · unfold seen at q
    split at q
    · exact q
    · exact e x o q
theorem OwnT.grow (h : OwnT H0 B H a ps xss) (e : Ex H H1) : OwnT H0 B H1 a ps xss := ⟨h.na, h.nb, e _ _ h.at_, h.out, h.nd, h.new, h.nbs, paired_imp (fun _ _ z => e _ _ z) h.rows⟩
theorem pairedT_put {o : List Kd} : ∀ {ps : List Addr} {xss : List (List Kd)} {i : Nat}, Paired (IsT H) ps xss → ps.Nodup → ps[i]? = some p → Paired (IsT (upd H p (.lst (o.map kv)))) ps (xss.set i o)
  | _, _, _, .nil, _, h => by simp at h
  | q :: ps, x :: xss, 0, .cons r t, hn, h => by
    have e : q = p := by simpa using h
    subst e
    rw [List.nodup_cons] at hn
    exact .cons upd_same (paired_impM (fun z hz row w => (upd_ne fun e => hn.1 (by rw [← e]; exact hz)).trans w) t)
  | q :: ps, x :: xss, i + 1, .cons r t, hn, h => by
    have h' : ps[i]? = some p := by simpa using h
    rw [List.nodup_cons] at hn
    exact .cons ((upd_ne fun e => hn.1 (by rw [e]; exact List.mem_of_getElem? h')).trans r) (pairedT_put t hn.2 h')
theorem OwnT.put {o : List Kd} {i : Nat} (h : OwnT H0 B H a ps xss) (hi : ps[i]? = some p) : OwnT H0 B (upd H p (.lst (o.map kv))) a ps (xss.set i o) := by
  have hp := List.mem_of_getElem? hi
  exact ⟨h.na, h.nb, (upd_ne fun e => h.out (by rw [e]; exact hp)).trans h.at_, h.out, h.nd, h.new, h.nbs, pairedT_put h.rows h.nd hi⟩
/-- a list of rows of texts that grows; its rows stand still -/
structure OwnLT (H0 B H : Hp) (a : Addr) (ps : List Addr) (bs : List (List Kd)) : Prop where
  na : H0 a = none
  nb : B a = none
  at_ : H a = some (.lst (ps.map V.ref))
  out : a ∉ ps
  nd : ps.Nodup
  new : ∀ p ∈ ps, H0 p = none
  rows : Paired (IsT B) ps bs
theorem OwnLT.close {B0 : Hp} (m : Nw B0 H0 B H) (h : OwnLT H0 B H a ps xss) : Nw B0 H0 (upd B a (.lst (ps.map V.ref))) H ∧ TdAt H0 (upd B a (.lst (ps.map V.ref))) a ps xss := ⟨m.adopt h.nb h.na h.at_, h.na, upd_same, h.out, h.nd, h.new, paired_imp (fun _ _ z => Ex.new h.nb _ _ z) h.rows⟩
end
section
variable {α β γ ζ : Type} {σ : St} {B B' : Hp} {te tl : TE} {K : PySem.W.Frag} {j n : Nat} {D : Ends} {tu tw : TS} {H H0 B0 : Hp} {a : Addr} {ps : List Addr} {xss : List (List Kd)}
/-- for row in board: row.append(c), texts -/
theorem q_appAllT {c : Kd} (m : Nw B0 H0 B H) (own : OwnT H0 B H a ps xss) (hl : 1 ≤ xss.length) (hz : ∀ row ∈ xss, row.length ≤ 1000) (hj : j < σ.length) (h : EV tl σ B (poA a))
    (k : ∀ y H2, Nw B0 H0 B H2 → OwnT H0 B H2 a ps (xss.map (· ++ [c])) → tw D (σ.set j (some y)) H2) :
    tSeq (tFor (iList K tl) (gName j) (tDrop (tBM K "list" rAppend (tVar j) (tCons (tC (.str (kdS c))) tNil)))) tw D σ H := by
  refine h.run m.bh fun v B1 H1 n1 hv => ?_
  cases hv
  have own1 := own.grow n1.hh
  have hlen : ps.length = xss.length := paired_len own.rows
  refine ⟨a, rfl, ⟨_, SqL.of own1.at_⟩, for_list (K := K) (a := a) (xs := ps.map V.ref) (fun i σ' H' => (i = 0 → σ' = σ) ∧ (0 < i → ∃ y, σ' = σ.set j (some y)) ∧ Nw B0 H0 B H' ∧ OwnT H0 B H' a ps ((xss.take i).map (· ++ [c]) ++ xss.drop i)) ?_ (fun i σ' H' _ ⟨_, _, _, o⟩ => SqL.of o.at_) (fun i v σ' H' hi ⟨z0, z1, m2, o2⟩ => ?_) (fun σ' H' ⟨z0, z1, m2, o2⟩ => ?_)⟩
  · exact ⟨fun _ => rfl, fun z => absurd z (Nat.lt_irrefl 0), m.grow n1.hh, own1⟩
  · rw [List.getElem?_map] at hi
    obtain ⟨p, hp, rfl⟩ := Option.map_eq_some_iff.mp hi
    obtain ⟨row, hr, hrow⟩ := paired_getL o2.rows hp
    have hi2 : i < xss.length := by rw [← hlen]; exact (List.getElem?_eq_some_iff.mp hp).1
    have hx : xss[i]? = some row := by
      rw [List.getElem?_append_right (by rw [List.length_map, List.length_take]; omega), List.length_map, List.length_take, Nat.min_eq_left (by omega), Nat.sub_self, List.getElem?_drop] at hr
      exact hr
    have hmem := List.mem_of_getElem? hp
    have hset : σ'.set j (some (.ref p)) = σ.set j (some (.ref p)) := by
      by_cases h0 : i = 0
      · rw [z0 h0]
      · obtain ⟨y, rfl⟩ := z1 (by omega)
        rw [List.set_set]
    show tDrop _ _ _ _
    rw [hset]
    refine ⟨.ref p, by rw [List.getElem?_set_self hj], Or.inl ⟨rfl, _, SqL.of hrow⟩, p, _, kv c, rfl, rfl, hrow, sz_lt (by rw [List.length_map]; have := hz row (List.mem_of_getElem? hx); omega), ?_⟩
    rw [show row.map kv ++ [kv c] = (row ++ [c]).map kv by rw [List.map_append]; rfl]
    refine ⟨fun z => by omega, fun _ => ⟨_, rfl⟩, m2.mut (o2.nbs _ hmem) (o2.new _ hmem), ?_⟩
    have := o2.put (o := row ++ [c]) hp
    have e2 : ((xss.take i).map (· ++ [c]) ++ xss.drop i).set i (row ++ [c]) = (xss.take (i + 1)).map (· ++ [c]) ++ xss.drop (i + 1) := by
      rw [take_succ' hx, List.map_append, List.set_append, if_neg (by rw [List.length_map, List.length_take]; omega), List.length_map, List.length_take, Nat.min_eq_left (by omega), Nat.sub_self, List.drop_eq_getElem_cons hi2]
      show _ ++ ((row ++ [c]) :: _) = (_ ++ [row ++ [c]]) ++ _
      rw [List.append_assoc]
      rfl
    rw [e2] at this
    exact this
  · rw [List.length_map, hlen, List.take_length, List.drop_length, List.append_nil] at o2
    obtain ⟨y, rfl⟩ := z1 (by rw [List.length_map, hlen]; omega)
    exact k y H' m2 o2
end
/-! ### kinds -/
def kindF (n t : Int) : Kd := if n = t then .all else if n = 0 then .none else .some
def kindsF (r c : List Int) : List (List Kd) := (List.range r.length).map fun i => (marksF r c i).map fun n => kindF n (waysF r c : Nat)
def sp_kind : Sp := sp2 int int (fun _ _ => True) fun n t => poR kd (kindF n t)
def sp_marked : Sp := sp3 il il int (fun r c i => isC r c = true ∧ 0 ≤ i ∧ i < (r.length : Int)) fun r c i => poR il (marksF r c i.toNat)
def sp_kinds (C : Er) : Sp := sp2x il il fun r c => if isC r c = true then if waysF r c = 0 then .inl C.NoneSuch else .inr (poW (kindsF r c)) else .inl C.NoCounts
end MK

namespace MK
open PySem PySem.Spec PyProof.Rows L2 Evl
def t_marked (K : PySem.W.Frag) : TS :=
  (tSeq (tAsg MKD.tDNew (gName 3))
  (tSeq (tAsg (tOp rCat (tSl (rSlL K) (tVar 0) tNoPart (tPart (tVar 2))) (tSl (rSlL K) (tVar 0) (tPart (tOp (rI0 fun i j => .int (i + j)) (tVar 2) (tC (.int 1)))) tNoPart)) (gName 4))
  (tSeq (tAsg (tLc (iList K (tVar 1)) (gName 6) tYes (tC (.int 0)) [6]) (gName 5))
  (tSeq (tFor (iList K (tCall (sp_patterns 8) [] E0 (tCons (tOp (rIxL K) (tVar 0) (tVar 2)) (tCons (tCB (rLenS K) (tCons (tVar 1) tNil)) tNil)))) (gName 7)
  (tSeq (tAsg (tCall (sp_lessened) [] E0 (tCons (tVar 1) (tCons (tVar 7) tNil))) (gName 8))
  (tIfS (tTest (tOp rNotNone (tVar 8) (tC .non)))
  (tSeq (tAsg (tCall (sp_ways 8) [] E0 (tCons (tVar 4) (tCons (tVar 8) (tCons (tVar 3) tNil)))) (gName 9))
  (tAsg (tLc (iZip K (tCons (tVar 5) (tCons (tVar 7) tNil))) (gTup K 2 (gCons (gName 10) (gCons (gName 11) gNil))) tYes (tOp (rI0 fun i j => .int (i + j)) (tVar 10) (tOp (rI CMul fun i j => .int (i * j)) (tVar 9) (tVar 11))) [10, 11]) (gName 5)))
  tNext)))
  (tRet (tVar 5))))))
def t_kind (K : PySem.W.Frag) : TS :=
  (tSeq (tIfS (tTest (tOp rEq (tVar 0) (tVar 1)))
  (tRet (tC (.str "all")))
  tNext)
  (tSeq (tIfS (tTest (tOp rEq (tVar 0) (tC (.int 0))))
  (tRet (tC (.str "none")))
  tNext)
  (tRet (tC (.str "some")))))
def t_kinds (K : PySem.W.Frag) (W : WX) (C : Er) : TS :=
  (tSeq (tDrop (tCallS (sp_asked_counts C) (WE W) (tCons (tVar 0) (tCons (tVar 1) tNil))))
  (tSeq (tAsg (tCall (sp_ways 8) [] E0 (tCons (tVar 0) (tCons (tVar 1) (tCons MKD.tDNew tNil)))) (gName 2))
  (tSeq (tIfS (tTest (tOp rEq (tVar 2) (tC (.int 0))))
  (tRz C.NoneSuch W)
  tNext)
  (tSeq (tAsg (tLst tNil) (gName 3))
  (tSeq (tFor (iRng1 (tCons (tCB (rLenS K) (tCons (tVar 0) tNil)) tNil)) (gName 4)
  (tDrop (tBM K "list" rAppend (tVar 3) (tCons (tLc (iList K (tCall (sp_marked) [] E0 (tCons (tVar 0) (tCons (tVar 1) (tCons (tVar 4) tNil))))) (gName 5) tYes (tCall (sp_kind) [] E0 (tCons (tVar 5) (tCons (tVar 2) tNil))) [5]) tNil))))
  (tRet (tVar 3)))))))

end MK

namespace MK
open PySem PySem.Spec PyProof.Rows L2 Evl
section
variable {vs : List V} {H : Hp} {Q : VK} {E : XK} {K : PySem.W.Frag}
theorem pure_kind (h : sp_kind vs H Q E) : t_kind K { nx := fun _ H' => Q .non H', rt := Q } (L2.start ["count", "total"] vs) H := by
  obtain ⟨B, v, w, n, t, e, rfl, hv, hw, -, q⟩ := h
  cases hv
  cases hw
  have q : ∀ u B' H', Nw B H B' H' → u = kv (kindF n t) → Q u H' := q
  show t_kind K _ [some (.int n), some (.int t)] H
  unfold t_kind
  have fin : ∀ {s : Kd} {H1 : Hp}, Ex H H1 → kindF n t = s → tRet (tC (.str (kdS s))) { nx := fun _ H' => Q .non H', rt := Q } [some (.int n), some (.int t)] H1 := fun {s H1} e1 hk => w_ret (P := poR kd s) (e.trans e1) ev_kd fun u B2 H2 n2 hu => q u B2 H2 ((Nw.refl e).grow e1 |>.trans n2) (by rw [hk]; exact hu)
  refine q_if (b := decide (n = t)) e (t_test (ev_eqI (ev_varI rfl) (ev_varI rfl))) (fun hc H1 e1 => fin (s := .all) e1 (if_pos (of_decide_eq_true hc))) (fun hc H1 e1 => ?_)
  refine q_if (b := decide (n = 0)) (e.trans e1) (t_test (ev_eqI (ev_varI rfl) ev_int)) (fun hc2 H2 e2 => fin (s := .none) (e1.trans e2) ?_) (fun hc2 H2 e2 => fin (s := .some) (e1.trans e2) ?_)
  · unfold kindF
    rw [if_neg (of_decide_eq_false hc), if_pos (of_decide_eq_true hc2)]
  · unfold kindF
    rw [if_neg (of_decide_eq_false hc), if_neg (of_decide_eq_false hc2)]
theorem otherF_len {r : List Int} {i : Nat} (h : i < r.length) : (otherF r i).length + 1 = r.length := by
  unfold otherF
  rw [List.length_append, List.length_take, List.length_drop]
  omega
theorem otherF_mem {r : List Int} {i : Nat} {x : Int} (h : x ∈ otherF r i) : x ∈ r := by
  unfold otherF at h
  rcases List.mem_append.mp h with h | h
  · exact List.mem_of_mem_take h
  · exact List.mem_of_mem_drop h
theorem ev_others {σ : St} {B : Hp} {tr ti : TE} {r : List Int} {i : Nat} (h : EVr tr σ B il r) (hi : EVr ti σ B int (i : Int)) (hl : r.length ≤ 6) : EVn (tOp rCat (tSl (rSlL K) tr tNoPart (tPart ti)) (tSl (rSlL K) tr (tPart (tOp (rI0 fun i j => .int (i + j)) ti (tC (.int 1)))) tNoPart)) σ B int (otherF r i) :=
  ev_cat (EV.of_n (ev_to h hi)) (EV.of_n (ev_from (n := i + 1) h (ev_ii hi ev_int rfl) (by omega))) (by rw [List.length_take, List.length_drop]; omega)
theorem pure_marked (h : sp_marked vs H Q E) : t_marked K { nx := fun _ H' => Q .non H', rt := Q } (L2.start ["rows", "columns", "at", "known", "others", "found", "column", "pattern", "left", "some", "total", "cell"] vs) H := by
  obtain ⟨B, v, w, t, r, c, i, e, rfl, hv, hw, ht, ⟨hc, i0, i1⟩, q⟩ := h
  cases ht
  obtain ⟨k, rfl⟩ : ∃ k : Nat, i = (k : Int) := ⟨i.toNat, by omega⟩
  have q : ∀ u B' H', Nw B H B' H' → il.p B' u (marksF r c k) → Q u H' := q
  have hk : k < r.length := by omega
  show t_marked K _ [some v, some w, some (.int (k : Int)), none, none, none, none, none, none, none, none, none] H
  unfold t_marked
  obtain ⟨l1, l2, l3, l4, l5, l6⟩ := isC_parts hc
  have hcn : ∀ x ∈ c, 0 ≤ x := fun x hx => (l6 x hx).1
  have ol := otherF_len hk
  refine q_dict (R := otherF r k) (L := c.length) (Nw.refl e) fun d H1 d0 nb1 hd1 e1 m1 mo1 => ?_
  refine q_set (P := poL int (otherF r k)) m1.bh (ev_others (ev_var rfl hv) (ev_varI rfl) l2) fun vo B2 H2 n2 hu2 => ?_
  have ho2 := poL_lst hu2
  have m2 := m1.trans n2
  have hd2 := n2.hh _ _ hd1
  have nb2 : B2 d = none := n2.ne (some_ne hd1) nb1
  refine q_set (P := poL int (c.map fun _ => 0)) m2.bh (ev_lc (r := int) (xs := c) (f := fun _ => 0) (ev_var rfl (il.stE n2.bb hw)) (by omega) (fun _ => rfl) fun _ _ _ _ _ _ => ev_int) fun vf B3 H3 n3 hu3 => ?_
  have hf3 := poL_lst hu3
  have m3 := m2.trans n3
  have hd3 := n3.hh _ _ hd2
  have nb3 : B3 d = none := n3.ne (some_ne hd2) nb2
  have ho3 := il.stE n3.bb ho2
  have x3 := n2.bb.trans n3.bb
  have hv3 := il.stE x3 hv
  have hw3 := il.stE x3 hw
  have m3' : Nw B H B3 (off d H3) := m3.hideD d0 nb3
  obtain ⟨rk, hrk⟩ : ∃ rk, r[k]? = some rk := ⟨_, List.getElem?_eq_getElem hk⟩
  have hrd : r.getD k 0 = rk := by rw [List.getD_eq_getElem?_getD, hrk]; rfl
  refine q_forL (r := il) (xs := patF rk c.length) m3.bh (EV.of_b (by have := ev_pat (σ := [some v, some w, some (.int (k : Int)), some (.ref d), some vo, some vf, none, none, none, none, none, none]) (B := B3) (c := rk) (s := (c.length : Int)) (ev_ix (K := K) (r := int) (xs := r) (ev_var (i := 0) rfl hv3) (ev_varI (i := 2) (z := (k : Int)) rfl) (atI_nat hrk)) (ev_len (K := K) (r := int) (xs := c) (ev_var (i := 1) rfl hw3)) (by omega) (by omega); rw [Int.toNat_natCast] at this; exact this))
    (fun B5 i σ' H' => ∃ B6 es vf y7 y8 y9, σ' = [some v, some w, some (.int (k : Int)), some (.ref d), some vo, some vf, none, y7, y8, y9, none, none] ∧ Ex B5 B6 ∧ Ex B3 B6 ∧ Nw B H B6 (off d H') ∧ H' d = some (MKD.Dic d es) ∧ MemoOk (otherF r k) c.length B6 es ∧ il.p B6 vf (accF (otherF r k) c ((patF rk c.length).take i)))
    (fun B5 H5 n5 => ⟨B5, [], vf, none, none, none, rfl, Ex.refl _, n5.bb, (m3.trans n5).hideD d0 (n5.ne (some_ne hd3) nb3), n5.hh _ _ hd3, (mo1.mono x3).mono n5.bb, il.stE n5.bb hf3⟩) (fun B5 i σ' H' ⟨B6, _, _, _, _, _, _, x56, _, m6, _⟩ => Sx.of (x56.trans m6.baseD)) ?_ ?_
  · rintro B5 H5 i p vp σ' H' n5 hi hp ⟨B6, es, vf, y7, y8, y9, rfl, x56, x36, m6, hd6, mo6, hf6⟩
    obtain ⟨hpl, hp01, _⟩ := mem_pat.mp (List.mem_of_getElem? hi)
    have hp6 := il.stE x56 hp
    have hw6 := il.stE x36 hw3
    have ho6 := il.stE x36 ho3
    have nb6 := m6.noneD
    have hne6 := some_ne hd6
    refine q_set (P := poOL (okF (subF c p)) (subF c p)) m6.baseD (ev_less (ev_var rfl hw6) (ev_var rfl hp6) hpl (by omega) (by omega)) fun vl B7 H7 n7 hvl => ?_
    have m7 : Nw B H B7 (off d H7) := m6.trans (n7.offD hne6 nb6)
    have hd7 := n7.hh _ _ hd6
    have nb7 := m7.noneD
    refine w_if0 (b := okF (subF c p)) n7.bh (t_left rfl hvl) (fun hok H8 e8 => ?_) (fun hok H8 e8 => ?_)
    · rw [hok] at hvl
      have hvl : (poL int (subF c p)).P H' B7 vl := hvl
      have hl7 := poL_lst hvl
      have e8' := n7.bh.trans e8
      have hd8 := e8 _ _ hd7
      have hsr : ∀ x ∈ subF c p, 0 ≤ x ∧ x ≤ 6 := sub_range hpl hp01 hok fun x hx => ⟨(l6 x hx).1, by have := (l6 x hx).2; omega⟩
      have pre : WaysPre (otherF r k) c.length (otherF r k) (subF c p) := ⟨List.suffix_refl _, by omega, fun x hx => (l5 x (otherF_mem hx)).1, subF_len hpl, by omega, by omega, hsr⟩
      refine run_ways (R := otherF r k) (L := c.length) (es := es) e8' (ev_var rfl (il.stE n7.bb ho6)) (ev_var rfl hl7) rfl (by omega) pre nb7 hd8 (mo6.mono n7.bb) fun B9 H9 es9 n9 hd9 mo9 lk9 => ?_
      have m9 : Nw B H B9 (off d H9) := (m7.trans ((Nw.refl n7.bh).grow e8 |>.offD (some_ne hd7) nb7)).trans n9
      have x69 := n7.bb.trans n9.bb
      have hal : (accF (otherF r k) c ((patF rk c.length).take i)).length = c.length := acc_len fun q hq => pat_len (List.mem_of_mem_take hq)
      refine w_set (P := poL int (List.zipWith (fun t x => t + (waysF (otherF r k) (subF c p) : Int) * x) (accF (otherF r k) c ((patF rk c.length).take i)) p)) m9.baseD (ev_lcZ (r := int) (s := int) (f := fun t x => t + (waysF (otherF r k) (subF c p) : Int) * x) (ev_var rfl (il.stE x69 hf6)) (ev_var rfl (il.stE x69 hp6)) (by omega) (by omega) (fun _ _ => rfl) fun t x v1 w1 B10 ht hx e10 hvt hvx => ?_) fun u B10 H10 n10 hu => ?_
      · cases hvt
        cases hvx
        have hx01 := hp01 x hx
        exact ev_ii (ev_varI rfl) (ev_iic (ev_varI rfl) (ev_varI rfl) (.inr ⟨by omega, by omega⟩) rfl) rfl
      · refine ⟨B10, es9, u, some vp, some vl, _, rfl, (x56.trans x69).trans n10.bb, (x36.trans x69).trans n10.bb, m9.trans (n10.offD (some_ne hd9) m9.noneD), n10.hh _ _ hd9, mo9.mono n10.bb, ?_⟩
        rw [take_succ' hi, acc_snoc, if_pos hok]
        exact poL_lst hu
    · refine ⟨B7, es, vf, some vp, some vl, y9, rfl, x56.trans n7.bb, x36.trans n7.bb, m7.trans ((Nw.refl n7.bh).grow e8 |>.offD (some_ne hd7) nb7), e8 _ _ hd7, mo6.mono n7.bb, ?_⟩
      rw [take_succ' hi, acc_snoc, if_neg (by rw [hok]; decide)]
      exact il.stE n7.bb hf6
  · rintro B5 σ' H' ⟨B6, es, vf, y7, y8, y9, rfl, x56, x36, m6, hd6, mo6, hf6⟩
    have m6' := m6.newD d0
    rw [List.take_length, ← hrd, marks_acc hcn hk] at hf6
    exact w_ret (P := poR il (marksF r c k)) m6'.bh (ev_var rfl hf6) fun u B7 H7 n7 hu => q u B7 H7 (m6'.trans n7) hu
theorem marksF_len {r c : List Int} {i : Nat} : (marksF r c i).length = c.length := by
  unfold marksF
  rw [List.length_map, List.length_range]
theorem pure_kinds {C : Er} (h : sp_kinds C vs H Q E) : t_kinds K (fun cls d _ H => E cls d H) C { nx := fun _ H' => Q .non H', rt := Q } (L2.start ["rows", "columns", "total", "found", "at", "count"] vs) H := by
  obtain ⟨B, v, w, r, c, e, rfl, hv, hw, k1, k2⟩ := h
  have k1 : ∀ c', (if isC r c = true then if waysF r c = 0 then Sum.inl C.NoneSuch else Sum.inr (poW (kindsF r c)) else Sum.inl C.NoCounts) = Sum.inl c' → ∀ H', Ex H H' → E (.ref c') none H' := k1
  have k2 : ∀ po, (if isC r c = true then if waysF r c = 0 then Sum.inl C.NoneSuch else Sum.inr (poW (kindsF r c)) else Sum.inl C.NoCounts) = Sum.inr po → ∀ u B' H', Nw B H B' H' → po.P H B' u → Q u H' := k2
  show t_kinds K _ C _ [some v, some w, none, none, none, none] H
  unfold t_kinds
  refine q_asked (r := r) (c := c) e (ev_var rfl hv) (ev_var rfl hw) (fun hc H1 e1 => k1 _ (if_neg (by rw [hc]; decide)) H1 e1) fun hc B1 H1 n1 => ?_
  rw [if_pos hc] at k1 k2
  have hv1 := il.stE n1.bb hv
  have hw1 := il.stE n1.bb hw
  obtain ⟨l1, l2, l3, l4, l5, l6⟩ := isC_parts hc
  refine q_set (P := poR int (waysF r c : Nat)) n1.bh (ev_ways0 (ev_var rfl hv1) (ev_var rfl hw1) (pre_of hc)) fun u B2 H2 n2 hu => ?_
  cases hu
  have m2 := n1.trans n2
  refine q_if (b := decide (((waysF r c : Nat) : Int) = 0)) m2.bh (t_test (ev_eqI (ev_varI rfl) ev_int)) (fun hz H3 e3 => ?_) (fun hz H3 e3 => ?_)
  · exact k1 _ (if_pos (by have := of_decide_eq_true hz; omega)) H3 (m2.hh.trans e3)
  have hz : waysF r c ≠ 0 := by have := of_decide_eq_false hz; omega
  have k2 := k2 _ (if_neg hz)
  have m3 := m2.grow e3
  refine q_setL (r := sl) (xs := []) m3.bh (ev_lst ea_nil (by decide)) fun a us B4 H4 n4 ha hna hHa hP => ?_
  cases hP
  have a0 : H a = none := fresh_back m3.hh ha
  have m4 := m3.trans n4
  have x4 := n2.bb.trans n4.bb
  refine q_forR (n := r.length) m4.bh (ev_len (r := int) (ev_var rfl (il.stE x4 hv1))) (by omega)
    (fun k σ' H' => ∃ Bk ps y4, σ' = [some v, some w, some (.int (waysF r c : Nat)), some (.ref a), y4, none] ∧ Ex B4 Bk ∧ Nw B H Bk H' ∧ OwnLT H Bk H' a ps ((kindsF r c).take k))
    (fun H6 e6 => ⟨B4, [], none, rfl, Ex.refl _, m4.grow e6, a0, hna, e6 _ _ hHa, by simp, List.nodup_nil, by simp, .nil⟩) ?_ ?_
  · rintro k σ' H' hk ⟨Bk, ps, y4, rfl, x4k, m, own⟩
    have hvk := il.stE (x4.trans x4k) hv1
    have hwk := il.stE (x4.trans x4k) hw1
    have hkk : (kindsF r c)[k]? = some ((marksF r c k).map fun n => kindF n (waysF r c : Nat)) := by
      unfold kindsF
      rw [List.getElem?_map, List.getElem?_range hk]
      rfl
    have hpl : ps.length ≤ 6 := by
      have := paired_len own.rows
      rw [List.length_take] at this
      omega
    refine w_app (P := poL kd ((marksF r c k).map fun n => kindF n (waysF r c : Nat))) m.bh own.at_ own.nb rfl (ev_lc (r := int) (xs := marksF r c k) (f := fun n => kindF n (waysF r c : Nat)) (ev_call3 (r := il) (q := il) (s := int) (x := r) (y := c) (z := (k : Int)) (ev_var rfl hvk) (ev_var rfl hwk) (ev_varI rfl) ⟨hc, by omega, by omega⟩) (by rw [marksF_len]; omega) (fun _ => rfl) fun n vn B6 hm e6 hn => ?_) (by rw [List.length_map]; omega) fun u B6 H6 n6 nb6 hu => ?_
    · cases hn
      exact ev_call2 (r := int) (q := int) (x := n) (y := ((waysF r c : Nat) : Int)) (ev_varI rfl) (ev_varI rfl) trivial
    · obtain ⟨p, us, B0, rfl, hp, hnp, hB6, hP⟩ := hu
      have hrow : IsT B6 p ((marksF r c k).map fun n => kindF n (waysF r c : Nat)) := by
        unfold IsT
        rw [hB6, upd_same, paired_str hP]
      have hpa : p ≠ a := fun z => by
        subst z
        rw [own.at_] at hp
        cases hp
      have hpps : p ∉ ps := fun z => by
        obtain ⟨y, _, hy⟩ := paired_getL (i := ps.idxOf p) own.rows (by rw [List.getElem?_eq_getElem (List.idxOf_lt_length_of_mem z), List.getElem_idxOf])
        have := m.bh _ _ hy
        rw [hp] at this
        cases this
      refine ⟨B6, ps ++ [p], _, rfl, x4k.trans n6.bb, (m.trans n6).mut nb6 a0, a0, nb6, by rw [upd_same, List.map_append]; rfl, ?_, ?_, ?_, ?_⟩
      · intro z
        rcases List.mem_append.mp z with z | z
        · exact own.out z
        · exact hpa (List.mem_singleton.mp z).symm
      · refine List.nodup_append.mpr ⟨own.nd, by simp, fun x hx y hy ee => ?_⟩
        subst ee
        rw [List.mem_singleton.mp hy] at hx
        exact hpps hx
      · intro x hx
        rcases List.mem_append.mp hx with z | z
        · exact own.new x z
        · rw [List.mem_singleton.mp z]; exact fresh_back m.hh hp
      · rw [take_succ' hkk]
        exact paired_app (paired_imp (fun _ _ z => n6.bb _ _ z) own.rows) (.cons hrow .nil)
  · rintro σ' H' ⟨Bk, ps, y4, rfl, x4k, m, own⟩
    have hl : (kindsF r c).take r.length = kindsF r c := List.take_of_length_le (by unfold kindsF; rw [List.length_map, List.length_range]; exact Nat.le_refl _)
    rw [hl] at own
    obtain ⟨g1, g2⟩ := own.close m
    exact ⟨.ref a, rfl, k2 _ _ H' g1 ⟨a, ps, rfl, g2⟩⟩
end
end MK

namespace MK
open PySem PySem.Spec PyProof.Rows L2 Evl
def sp__law_good : Sp := sp2 il il (fun r c => r.length ≤ 100 ∧ c.length ≤ 100) fun r c => poR bl (isC r c)
def sp__law_refused_k02 : Sp := sp3 int il il (fun _ r c => isC r c = false) fun _ _ _ => poR bl true
end MK

namespace MK
open PySem PySem.Spec PyProof.Rows L2 Evl
def t__law_good (K : PySem.W.Frag) : TS :=
  (tSeq (tIfS (tOr (tNot (tTest (tChain (rI0 fun i j => .bl (decide (i ≤ j))) (rI0 fun i j => .bl (decide (i ≤ j))) (tC (.int 1)) (tCB (rLenS K) (tCons (tVar 0) tNil)) (tC (.int 6))))) (tNot (tTest (tChain (rI0 fun i j => .bl (decide (i ≤ j))) (rI0 fun i j => .bl (decide (i ≤ j))) (tC (.int 1)) (tCB (rLenS K) (tCons (tVar 1) tNil)) (tC (.int 6))))))
  (tRet (tC (.bl false)))
  tNext)
  (tSeq (tAsg (tLc (iList K (tVar 0)) (gName 3) (tNot (tTest (tChain (rI0 fun i j => .bl (decide (i ≤ j))) (rI0 fun i j => .bl (decide (i ≤ j))) (tC (.int 0)) (tVar 3) (tCB (rLenS K) (tCons (tVar 1) tNil))))) (tVar 3) [3]) (gName 2))
  (tRet (tOp rEq (tOp (rI0 fun i j => .int (i + j)) (tCB (rLenS K) (tCons (tVar 2) tNil)) (tCB (rLenS K) (tCons (tLc (iList K (tVar 1)) (gName 3) (tNot (tTest (tChain (rI0 fun i j => .bl (decide (i ≤ j))) (rI0 fun i j => .bl (decide (i ≤ j))) (tC (.int 0)) (tVar 3) (tCB (rLenS K) (tCons (tVar 0) tNil))))) (tVar 3) [3]) tNil))) (tC (.int 0))))))

end MK

namespace MK
open PySem PySem.Spec PyProof.Rows L2 Evl
def t__law_refused_k02 (K : PySem.W.Frag) (C : Er) : TS :=
  (tSeq (tTryAs K (.ref C.MarkError) 3 (fun W => (tIfS (tTest (tOp rEq (tVar 0) (tC (.int 0))))
  (tDrop (tCallS (sp_laid C) (WE W) (tCons (tVar 1) (tCons (tVar 2) tNil))))
  (tIfS (tTest (tOp rEq (tVar 0) (tC (.int 1))))
  (tDrop (tCallS (sp_many C) (WE W) (tCons (tVar 1) (tCons (tVar 2) tNil))))
  (tIfS (tTest (tOp rEq (tVar 0) (tC (.int 2))))
  (tDrop (tCallS (sp_board_at C) (WE W) (tCons (tVar 1) (tCons (tVar 2) (tCons (tUn (rU fun i => .int (-i)) (tC (.int 1))) tNil)))))
  (tDrop (tCallS (sp_kinds C) (WE W) (tCons (tVar 1) (tCons (tVar 2) tNil)))))))) (fun a cls dd => (tRet (tNotV (tCall (sp__law_other K C a cls dd) [] E0 (tCons (tVar 3) (tCons (tC (.int 1)) tNil)))))))
  (tRet (tC (.bl false))))
def t_law_k02 (K : PySem.W.Frag) (C : Er) : TS :=
  (tSeq (tAsg (tOp (rI (fun _ j => 0 < j) fun i j => .int (i % j)) (tCall (sp__law_cell_at K) [] E0 (tCons (tVar 0) (tCons (tC (.int 0)) tNil))) (tC (.int 9))) (gName 1))
  (tSeq (tAsg (tOp (rI (fun _ j => 0 < j) fun i j => .int (i % j)) (tCall (sp__law_cell_at K) [] E0 (tCons (tVar 0) (tCons (tC (.int 1)) tNil))) (tC (.int 9))) (gName 2))
  (tSeq (tAsg (tLc (iRng1 (tCons (tVar 1) tNil)) (gName 4) tYes (tOp (rI (fun _ j => 0 < j) fun i j => .int (i % j)) (tCall (sp__law_cell_at K) [] E0 (tCons (tVar 0) (tCons (tOp (rI0 fun i j => .int (i + j)) (tC (.int 2)) (tVar 4)) tNil))) (tOp (rI0 fun i j => .int (i + j)) (tVar 2) (tC (.int 1)))) [4]) (gName 3))
  (tSeq (tAsg (tLc (iRng1 (tCons (tVar 2) tNil)) (gName 4) tYes (tOp (rI (fun _ j => 0 < j) fun i j => .int (i % j)) (tCall (sp__law_cell_at K) [] E0 (tCons (tVar 0) (tCons (tOp (rI0 fun i j => .int (i + j)) (tC (.int 11)) (tVar 4)) tNil))) (tOp (rI0 fun i j => .int (i + j)) (tVar 1) (tC (.int 1)))) [4]) (gName 5))
  (tSeq (tAsg (tCall (sp__law_cell_at K) [] E0 (tCons (tVar 0) (tCons (tC (.int 21)) tNil))) (gName 6))
  (tSeq (tIfS (tAnd (tTest (tOp rEq (tOp (rI (fun _ j => 0 < j) fun i j => .int (i % j)) (tCall (sp__law_cell_at K) [] E0 (tCons (tVar 0) (tCons (tC (.int 20)) tNil))) (tC (.int 4))) (tC (.int 1)))) (tTest (tOp (rI0 fun i j => .bl (decide (j < i))) (tVar 1) (tC (.int 0)))))
  (tAsg (tOp (rIxL K) (tLst (tCons (tUn (rU fun i => .int (-i)) (tC (.int 1))) (tCons (tOp (rI0 fun i j => .int (i + j)) (tVar 2) (tC (.int 1))) (tCons (tUn (rU fun i => .int (-i)) (tC (.int 100))) (tCons (tC (.int 100)) tNil))))) (tOp (rI (fun _ j => 0 < j) fun i j => .int (i % j)) (tOp (rI CDiv fun i j => .int (i / j)) (tVar 6) (tC (.int 8))) (tC (.int 4)))) (gSub (tVar 3) (tOp (rI (fun _ j => 0 < j) fun i j => .int (i % j)) (tVar 6) (tVar 1)) rSetL))
  tNext)
  (tSeq (tIfS (tAnd (tTest (tOp rEq (tOp (rI (fun _ j => 0 < j) fun i j => .int (i % j)) (tCall (sp__law_cell_at K) [] E0 (tCons (tVar 0) (tCons (tC (.int 20)) tNil))) (tC (.int 4))) (tC (.int 3)))) (tTest (tOp (rI0 fun i j => .bl (decide (j < i))) (tVar 2) (tC (.int 0)))))
  (tAsg (tOp (rIxL K) (tLst (tCons (tUn (rU fun i => .int (-i)) (tC (.int 1))) (tCons (tOp (rI0 fun i j => .int (i + j)) (tVar 1) (tC (.int 1))) (tCons (tUn (rU fun i => .int (-i)) (tC (.int 100))) (tCons (tC (.int 100)) tNil))))) (tOp (rI (fun _ j => 0 < j) fun i j => .int (i % j)) (tOp (rI CDiv fun i j => .int (i / j)) (tVar 6) (tC (.int 8))) (tC (.int 4)))) (gSub (tVar 5) (tOp (rI (fun _ j => 0 < j) fun i j => .int (i % j)) (tVar 6) (tVar 2)) rSetL))
  tNext)
  (tSeq (tAsg (tLst (tCons (tCB (rListS K) (tCons (tVar 3) tNil)) (tCons (tCB (rListS K) (tCons (tVar 5) tNil)) tNil))) (gName 7))
  (tSeq (tAsg (tCall (sp_are_counts) [] E0 (tCons (tOp (rIxL K) (tVar 7) (tC (.int 0))) (tCons (tOp (rIxL K) (tVar 7) (tC (.int 1))) tNil))) (gName 8))
  (tSeq (tIfS (tOr (tNot (tB (tCB (rIsi K) (tCons (tVar 8) (tCons (tC (.ty "bool")) tNil))))) (tTest (tOp rNe (tVar 8) (tCall (sp__law_good) [] E0 (tCons (tVar 3) (tCons (tVar 5) tNil))))))
  (tRet (tC (.bl false)))
  tNext)
  (tSeq (tIfS (tNot (tB (tVar 8)))
  (tFor (iRng1 (tCons (tC (.int 4)) tNil)) (gName 9)
  (tIfS (tNot (tB (tCall (sp__law_refused_k02) [] E0 (tCons (tVar 9) (tCons (tOp (rIxL K) (tVar 7) (tC (.int 0))) (tCons (tOp (rIxL K) (tVar 7) (tC (.int 1))) tNil))))))
  (tRet (tC (.bl false)))
  tNext))
  tNext)
  (tRet (tOp (rEqD K) (tVar 7) (tLst (tCons (tVar 3) (tCons (tVar 5) tNil))))))))))))))))
end MK

namespace MK
open PySem PySem.Spec PyProof.Rows L2 Evl
section
variable {vs : List V} {H : Hp} {Q : VK} {E : XK} {K : PySem.W.Frag}
theorem bad_len {xs : List Int} {n : Int} : ((xs.filter fun x => !(decide (0 ≤ x) && decide (x ≤ n))).map fun x => x).length = 0 ↔ (xs.all fun x => decide (0 ≤ x) && decide (x ≤ n)) = true := by
  rw [List.map_id', List.length_eq_zero_iff, List.filter_eq_nil_iff, List.all_eq_true]
  constructor
  · intro h x hx
    have := h x hx
    simpa using this
  · intro h x hx
    have := h x hx
    simpa using this
theorem ev_bad {σ : St} {B : Hp} {tl tn : TE} {xs : List Int} {n : Int} {j : Nat} (h : EVr tl σ B il xs) (hz : xs.length ≤ 100) (hj : j < σ.length) (hw : ∀ v, wipe ((wipe σ [j]).set j (some v)) [j] = wipe σ [j]) (hn : ∀ (y : Option V) B1, Ex B B1 → EVr tn ((wipe σ [j]).set j y) B1 int n) :
    EVn (tLc (iList K tl) (gName j) (tNot (tTest (tChain (rI0 fun i j => .bl (decide (i ≤ j))) (rI0 fun i j => .bl (decide (i ≤ j))) (tC (.int 0)) (tVar j) tn))) (tVar j) [j]) σ B int ((xs.filter fun x => !(decide (0 ≤ x) && decide (x ≤ n))).map fun x => x) := by
  have hj' : j < (wipe σ [j]).length := by rw [wipe_length]; exact hj
  refine ev_lcF (r := int) (q := int) (ok := fun x => !(decide (0 ≤ x) && decide (x ≤ n))) (f := fun x => x) h (by omega) hw (fun x v B1 hm e1 hv => ?_) (fun x v B1 hm _ e1 hv => ?_)
  · cases hv
    exact Evl.et_not (t_chain (i := 0) (j := x) (k := n) ev_int (ev_varI (by rw [List.getElem?_set_self hj'])) rfl (fun _ => hn _ _ e1) rfl)
  · cases hv
    exact ev_varI (by rw [List.getElem?_set_self hj'])
theorem pure_good (h : sp__law_good vs H Q E) : t__law_good K { nx := fun _ H' => Q .non H', rt := Q } (L2.start ["rows", "columns", "high", "count"] vs) H := by
  obtain ⟨B, v, w, r, c, e, rfl, hv, hw, ⟨l1, l2⟩, q⟩ := h
  have q : ∀ u B' H', Nw B H B' H' → u = V.bl (isC r c) → Q u H' := q
  show t__law_good K _ [some v, some w, none, none] H
  unfold t__law_good
  have m0 := Nw.refl e
  refine q_if (b := !(decide ((1 : Int) ≤ (r.length : Int)) && decide ((r.length : Int) ≤ 6)) || !(decide ((1 : Int) ≤ (c.length : Int)) && decide ((c.length : Int) ≤ 6))) e (Evl.et_or (Evl.et_not (t_chain (i := 1) (j := (r.length : Int)) (k := 6) ev_int (ev_len (r := int) (ev_var rfl hv)) rfl (fun _ => ev_int) rfl)) fun _ => Evl.et_not (t_chain (i := 1) (j := (c.length : Int)) (k := 6) ev_int (ev_len (r := int) (ev_var rfl hw)) rfl (fun _ => ev_int) rfl)) (fun hc H1 e1 => ?_) (fun hc H1 e1 => ?_)
  · have hf : isC r c = false := by
      unfold isC
      simp only [Bool.or_eq_true, Bool.not_eq_true', Bool.and_eq_false_iff, decide_eq_false_iff_not] at hc ⊢
      omega
    exact w_ret (P := poR bl false) (e.trans e1) ev_bl fun u B2 H2 n2 hu => q u B2 H2 ((m0.grow e1).trans n2) (by rw [hf]; exact hu)
  simp only [Bool.or_eq_false_iff, Bool.not_eq_false', Bool.and_eq_true, decide_eq_true_eq] at hc
  have m1 := m0.grow e1
  refine q_set (P := poL int ((r.filter fun x => !(decide (0 ≤ x) && decide (x ≤ (c.length : Int)))).map fun x => x)) m1.bh (ev_bad (ev_var rfl hv) l1 (by show 3 < 4; decide) (fun _ => rfl) fun y B2 e2 => ev_len (r := int) (xs := c) (ev_var rfl (il.stE e2 hw))) fun u B2 H2 n2 hu => ?_
  have h2 := poL_lst hu
  have hv2 := il.stE n2.bb hv
  have hw2 := il.stE n2.bb hw
  refine w_ret (P := poR bl (isC r c)) n2.bh (EV.eq (ev_eqI (ev_ii (ev_len (r := int) (ev_var rfl h2)) (ev_len (r := int) (EV.of_n (ev_bad (n := (r.length : Int)) (ev_var rfl hw2) l2 (by show 3 < 4; decide) (fun _ => rfl) fun y B3 e3 => ev_len (r := int) (xs := r) (ev_var rfl (il.stE e3 hv2))))) rfl) ev_int) ?_) fun u B3 H3 n3 hu => q u B3 H3 ((m1.trans n2).trans n3) hu
  have p1 := bad_len (xs := r) (n := (c.length : Int))
  have p2 := bad_len (xs := c) (n := (r.length : Int))
  have hC : isC r c = ((r.all fun x => decide (0 ≤ x) && decide (x ≤ (c.length : Int))) && (c.all fun x => decide (0 ≤ x) && decide (x ≤ (r.length : Int)))) := by
    unfold isC
    rw [decide_eq_true (show 1 ≤ r.length by omega), decide_eq_true (show r.length ≤ 6 by omega), decide_eq_true (show 1 ≤ c.length by omega), decide_eq_true (show c.length ≤ 6 by omega)]
    rfl
  rw [hC, Bool.eq_iff_iff, decide_eq_true_eq, Bool.and_eq_true, ← p1, ← p2]
  omega
theorem w_drop2 {α β : Type} {r : R α} {q : R β} {f : α → β → Sum Addr Po} {x : α} {y : β} {σ : St} {B : Hp} {ta tb : TE} {W : WX} {D : Ends} {c : Addr} (e : Ex B H) (h1 : EVr ta σ B r x) (h2 : EVr tb σ B q y) (hf : f x y = .inl c) (k1 : ∀ H1, Ex H H1 → W (.ref c) none σ H1) :
    tDrop (tCallS (sp2x r q f) (WE W) (tCons ta (tCons tb tNil))) D σ H := h1.run e fun v B1 H1 n1 hv => (h2.mono n1.bb).run n1.bh fun w B2 H2 n2 hw => ⟨B2, v, w, x, y, n2.bh, rfl, r.stE n2.bb hv, hw, fun C hC H3 e3 => by
    rw [hf] at hC
    cases hC
    exact k1 H3 ((n1.hh.trans n2.hh).trans e3), fun po hp => by rw [hf] at hp; cases hp⟩
theorem w_drop3 {α β γ : Type} {r : R α} {q : R β} {s : R γ} {f : α → β → γ → Sum Addr Po} {x : α} {y : β} {z : γ} {σ : St} {B : Hp} {ta tb tc : TE} {W : WX} {D : Ends} {c : Addr} (e : Ex B H) (h1 : EVr ta σ B r x) (h2 : EVr tb σ B q y) (h3 : EVr tc σ B s z) (hf : f x y z = .inl c) (k1 : ∀ H1, Ex H H1 → W (.ref c) none σ H1) :
    tDrop (tCallS (sp3x r q s f) (WE W) (tCons ta (tCons tb (tCons tc tNil)))) D σ H := h1.run e fun v B1 H1 n1 hv => (h2.mono n1.bb).run n1.bh fun w B2 H2 n2 hw => (h3.mono (n1.bb.trans n2.bb)).run n2.bh fun t B3 H3 n3 ht => ⟨B3, v, w, t, x, y, z, n3.bh, rfl, r.stE (n2.bb.trans n3.bb) hv, q.stE n3.bb hw, ht, fun C hC H4 e4 => by
    rw [hf] at hC
    cases hC
    exact k1 H4 (((n1.hh.trans n2.hh).trans n3.hh).trans e4), fun po hp => by rw [hf] at hp; cases hp⟩
theorem pure_law_refused_k02 {C : Er} (kd : KindOk K C C.NoCounts 1) (h : sp__law_refused_k02 vs H Q E) : t__law_refused_k02 K C { nx := fun _ H' => Q .non H', rt := Q } (L2.start ["which", "rows", "columns", "e"] vs) H := by
  obtain ⟨B, v0, v, w, which, r, c, e, rfl, hv0, hv, hw, hc, q⟩ := h
  cases hv0
  have hc : isC r c = false := hc
  have hn : ¬ isC r c = true := by rw [hc]; decide
  have q : ∀ u B' H', Nw B H B' H' → u = V.bl true → Q u H' := q
  show t__law_refused_k02 K C _ [some (.int which), some v, some w, none] H
  unfold t__law_refused_k02
  have fin : ∀ H1, Ex H H1 → wAs K (.ref C.MarkError) 3 (fun a cls dd => (tRet (tNotV (tCall (sp__law_other K C a cls dd) [] E0 (tCons (tVar 3) (tCons (tC (.int 1)) tNil)))))) (fun _ _ _ _ => False) { nx := tRet (tC (.bl false)) { nx := fun _ H' => Q .non H', rt := Q }, rt := Q } (.ref C.NoCounts) none [some (.int which), some v, some w, none] H1 := fun H1 e1 =>
    ⟨true, kd.ex, fun _ a na => suite_not (a := a) (D := C.NoCounts) (d := 1) rfl kd (by decide) fun H2 e2 => q _ B H2 ((Nw.refl e).grow (e1.trans e2)) rfl, fun z => nomatch z⟩
  refine w_seq ?_
  refine w_if (b := decide (which = 0)) e (t_test (ev_eqI (ev_varI rfl) ev_int)) (fun h0 H1 e1 => ?_) (fun h0 H1 e1 => ?_)
  · exact w_drop2 (r := il) (q := il) (x := r) (y := c) (e.trans e1) (ev_var rfl hv) (ev_var rfl hw) (if_neg hn) fun H2 e2 => fin H2 (e1.trans e2)
  refine w_if (b := decide (which = 1)) (e.trans e1) (t_test (ev_eqI (ev_varI rfl) ev_int)) (fun h1 H2 e2 => ?_) (fun h1 H2 e2 => ?_)
  · exact w_drop2 (r := il) (q := il) (x := r) (y := c) ((e.trans e1).trans e2) (ev_var rfl hv) (ev_var rfl hw) (if_neg hn) fun H3 e3 => fin H3 ((e1.trans e2).trans e3)
  refine w_if (b := decide (which = 2)) ((e.trans e1).trans e2) (t_test (ev_eqI (ev_varI rfl) ev_int)) (fun h2 H3 e3 => ?_) (fun h2 H3 e3 => ?_)
  · exact w_drop3 (r := il) (q := il) (s := int) (x := r) (y := c) (z := -1) (((e.trans e1).trans e2).trans e3) (ev_var rfl hv) (ev_var rfl hw) (ev_neg ev_int) (if_neg hn) fun H4 e4 => fin H4 (((e1.trans e2).trans e3).trans e4)
  · exact w_drop2 (r := il) (q := il) (x := r) (y := c) (((e.trans e1).trans e2).trans e3) (ev_var rfl hv) (ev_var rfl hw) (if_neg hn) fun H4 e4 => fin H4 (((e1.trans e2).trans e3).trans e4)
/-- xs[ti] = te, xs one's own -/
theorem w_putE {σ : St} {S : Hp} {n : Nat} {p : Addr} {xs : List Int} {z i : Int} {te ti : TE} {D : Ends} (e : Ex S H) (h : EVr te σ S int z) (hp : H p = some (.lst (xs.map V.int))) (ho : σ[n]? = some (some (.ref p))) (hi : EVr ti σ S int i) (h0 : 0 ≤ i) (h1 : i < (xs.length : Int))
    (k : ∀ H1, Ex H H1 → D.nx σ (upd H1 p (.lst ((xs.set i.toNat z).map V.int)))) : tAsg te (gSub (tVar n) ti rSetL) D σ H := h.run e fun v B1 H1 m1 hv => by
  cases hv
  refine ⟨.ref p, ho, (hi.mono m1.bb).run m1.bh fun w B2 H2 m2 hw => ?_⟩
  cases hw
  refine ⟨p, _, i, i.toNat, rfl, rfl, m2.hh _ _ (m1.hh _ _ hp), ?_, ?_⟩
  · rw [show i = ((i.toNat : Nat) : Int) by omega]
    exact ixN_nat (by rw [List.length_map]; omega)
  · rw [show (xs.map V.int).set i.toNat (V.int z) = (xs.set i.toNat z).map V.int by rw [List.map_set]]
    exact k H2 (m1.hh.trans m2.hh)
theorem pure_law_k02 {C : Er} (h : sp_law K vs H Q E) : t_law_k02 K C { nx := fun _ H' => Q .non H', rt := Q } (L2.start ["script", "high", "wide", "rows", "k", "columns", "at", "handed", "told", "which"] vs) H := by
  obtain ⟨a, ns, rfl, hs, hlen, q⟩ := h
  show t_law_k02 K C _ [some (.ref a), none, none, none, none, none, none, none, none, none] H
  unfold t_law_k02
  have modc : ∀ {σ : L2.St} {B : Hp} {tk tm : TE} (k m : Int), σ[0]? = some (some (.ref a)) → SqL K B a (ns.map V.int) → EVr tk σ B int k → 0 ≤ k → 0 < m → EVr tm σ B int m → EVr (tOp (rI (fun _ j => 0 < j) fun i j => .int (i % j)) (tCall (sp__law_cell_at K) [] E0 (tCons (tVar 0) (tCons tk tNil))) tm) σ B int (cellF ns k % m) := fun {σ B tk tm} k m h0 hs hk hk0 hm ht => ev_iic (ev_cell (k := k) h0 hs hk hk0) (j := m) ht hm rfl
  have nat9 : ∀ k : Int, ∃ n : Nat, cellF ns k % 9 = (n : Int) ∧ n ≤ 8 := fun k => by
    have h0 := Int.emod_nonneg (cellF ns k) (show (9 : Int) ≠ 0 by decide)
    have h1 := Int.emod_lt_of_pos (cellF ns k) (show 0 < (9 : Int) by decide)
    exact ⟨(cellF ns k % 9).toNat, by omega, by omega⟩
  obtain ⟨hi, eh, hh8⟩ := nat9 0
  obtain ⟨wi, ew, hw8⟩ := nat9 1
  refine q_set (P := poR int (hi : Int)) (Ex.refl H) (EV.eq (modc 0 9 rfl hs ev_int (by decide) (by decide) ev_int) eh) fun u B1 H1 n1 hu => ?_
  cases hu
  have hs1 := ex_l n1.bb hs
  refine q_set (P := poR int (wi : Int)) n1.bh (EV.eq (modc 1 9 rfl hs1 ev_int (by decide) (by decide) ev_int) ew) fun u B2 H2 n2 hu => ?_
  cases hu
  have hs2 := ex_l n2.bb hs1
  refine q_setL (r := int) (xs := (List.range hi).map fun (k : Nat) => cellF ns (2 + (k : Int)) % ((wi : Int) + 1)) n2.bh (ev_lcR (n := hi) (q := int) (f := fun (k : Nat) => cellF ns (2 + (k : Int)) % ((wi : Int) + 1)) (ev_varI rfl) (by omega) (fun _ => rfl) fun k B3 hk e3 => ?_) fun p us B3 H3 n3 zp np hp hP => ?_
  · exact modc (2 + (k : Int)) ((wi : Int) + 1) rfl (ex_l e3 hs2) (ev_ii (i := 2) (j := (k : Int)) ev_int (ev_varI rfl) rfl) (by omega) (by omega) (ev_ii (ev_varI rfl) ev_int rfl)
  have hs3 := ex_l n3.bb hs2
  have e1 := paired_int hP
  subst e1
  refine q_setL (r := int) (xs := (List.range wi).map fun (k : Nat) => cellF ns (11 + (k : Int)) % ((hi : Int) + 1)) n3.bh (ev_lcR (n := wi) (q := int) (f := fun (k : Nat) => cellF ns (11 + (k : Int)) % ((hi : Int) + 1)) (ev_varI rfl) (by omega) (fun _ => rfl) fun k B4 hk e4 => ?_) fun p' us' B4 H4 n4 zq nq hq hQ => ?_
  · exact modc (11 + (k : Int)) ((hi : Int) + 1) rfl (ex_l e4 hs3) (ev_ii (i := 11) (j := (k : Int)) ev_int (ev_varI rfl) rfl) (by omega) (by omega) (ev_ii (ev_varI rfl) ev_int rfl)
  have e2 := paired_int hQ
  subst e2
  have hs4 := ex_l n4.bb hs3
  have hne : p ≠ p' := fun z => by
    subst z
    rw [hp] at zq
    cases zq
  have hp4 := n4.hh _ _ hp
  have np4 : B4 p = none := n4.ne (some_ne hp) np
  have lx : ((List.range hi).map fun (k : Nat) => cellF ns (2 + (k : Int)) % ((wi : Int) + 1)).length = hi := by rw [List.length_map, List.length_range]
  have ly : ((List.range wi).map fun (k : Nat) => cellF ns (11 + (k : Int)) % ((hi : Int) + 1)).length = wi := by rw [List.length_map, List.length_range]
  generalize ((List.range hi).map fun (k : Nat) => cellF ns (2 + (k : Int)) % ((wi : Int) + 1)) = xs at *
  generalize ((List.range wi).map fun (k : Nat) => cellF ns (11 + (k : Int)) % ((hi : Int) + 1)) = ys at *
  refine q_set (P := poR int (cellF ns 21)) n4.bh (ev_cell (k := 21) rfl hs4 ev_int (by decide)) fun u B5 H5 n5 hu => ?_
  cases hu
  have hs5 := ex_l n5.bb hs4
  have hp5 := n5.hh _ _ hp4
  have hq5 := n5.hh _ _ hq
  have np5 : B5 p = none := n5.ne (some_ne hp4) np4
  have nq5 : B5 p' = none := n5.ne (some_ne hq) nq
  generalize hat : cellF ns 21 = at_ at *
  -- one number put otherwise
  have odd : ∀ {σ : L2.St} {m : Nat} {z : Int}, σ[6]? = some (some (.int at_)) → σ[m]? = some (some (.int z)) → ∃ y : Int, EVr (tOp (rIxL K) (tLst (tCons (tUn (rU fun i => .int (-i)) (tC (.int 1))) (tCons (tOp (rI0 fun i j => .int (i + j)) (tVar m) (tC (.int 1))) (tCons (tUn (rU fun i => .int (-i)) (tC (.int 100))) (tCons (tC (.int 100)) tNil))))) (tOp (rI (fun _ j => 0 < j) fun i j => .int (i % j)) (tOp (rI CDiv fun i j => .int (i / j)) (tVar 6) (tC (.int 8))) (tC (.int 4)))) σ B5 int y := fun {σ m z} h6 hm => by
    have g0 := Int.emod_nonneg (at_ / 8) (show (4 : Int) ≠ 0 by decide)
    have g1 := Int.emod_lt_of_pos (at_ / 8) (show 0 < (4 : Int) by decide)
    exact ⟨_, ev_ix (r := int) (xs := [-1, z + 1, -100, 100]) (EV.of_n (ev_lst (ea_cons (ev_neg ev_int) (ea_cons (ev_ii (ev_varI hm) ev_int rfl) (ea_cons (ev_neg ev_int) (ea_cons ev_int ea_nil)))) (by show 4 ≤ _; decide))) (ev_iic (i := at_ / 8) (j := 4) (ev_iic (i := at_) (j := 8) (ev_varI h6) ev_int ⟨by decide, by decide⟩ rfl) ev_int (by decide) rfl) (atI_in (d := 0) g0 (by show at_ / 8 % 4 < ((4 : Nat) : Int); omega))⟩
  refine q_ifJ (b := decide (cellF ns 20 % 4 = 1) && decide ((0 : Int) < (hi : Int))) (J := fun σ' H' => ∃ xs', σ' = [some (.ref a), some (.int (hi : Int)), some (.int (wi : Int)), some (.ref p), none, some (.ref p'), some (.int at_), none, none, none] ∧ xs'.length = hi ∧ Ex B5 H' ∧ H' p = some (.lst (xs'.map V.int)) ∧ H' p' = some (.lst (ys.map V.int))) ?_ n5.bh (Evl.et_and (t_test (ev_eqI (modc 20 4 rfl hs5 ev_int (by decide) (by decide) ev_int) ev_int)) fun _ => t_test (ev_iib (ev_varI rfl) ev_int rfl)) (fun rest hb H6 e6 => ?_) (fun _ H6 e6 => ⟨xs, rfl, lx, n5.bh.trans e6, e6 _ _ hp5, e6 _ _ hq5⟩)
  rotate_left
  · rw [Bool.and_eq_true, decide_eq_true_eq, decide_eq_true_eq] at hb
    obtain ⟨y, hy⟩ := odd (σ := [some (.ref a), some (.int (hi : Int)), some (.int (wi : Int)), some (.ref p), none, some (.ref p'), some (.int at_), none, none, none]) (m := 2) rfl rfl
    refine w_putE (i := at_ % (hi : Int)) (n5.bh.trans e6) hy (e6 _ _ hp5) rfl (ev_iic (ev_varI rfl) (ev_varI rfl) hb.2 rfl) (Int.emod_nonneg _ (by omega)) (by rw [lx]; exact Int.emod_lt_of_pos _ hb.2) fun H7 e7 => ?_
    exact rest _ _ ⟨_, rfl, by rw [List.length_set]; exact lx, Ex.mut ((n5.bh.trans e6).trans e7) np5, upd_same, (upd_ne (Ne.symm hne)).trans (e7 _ _ (e6 _ _ hq5))⟩
  rintro σ' H6 ⟨xs', rfl, lx', x6, hp6, hq6⟩
  refine q_ifJ (b := decide (cellF ns 20 % 4 = 3) && decide ((0 : Int) < (wi : Int))) (J := fun σ' H' => ∃ ys', σ' = [some (.ref a), some (.int (hi : Int)), some (.int (wi : Int)), some (.ref p), none, some (.ref p'), some (.int at_), none, none, none] ∧ ys'.length = wi ∧ Ex B5 H' ∧ H' p = some (.lst (xs'.map V.int)) ∧ H' p' = some (.lst (ys'.map V.int))) ?_ x6 (Evl.et_and (t_test (ev_eqI (modc 20 4 rfl hs5 ev_int (by decide) (by decide) ev_int) ev_int)) fun _ => t_test (ev_iib (ev_varI rfl) ev_int rfl)) (fun rest hb H7 e7 => ?_) (fun _ H7 e7 => ⟨ys, rfl, ly, x6.trans e7, e7 _ _ hp6, e7 _ _ hq6⟩)
  rotate_left
  · rw [Bool.and_eq_true, decide_eq_true_eq, decide_eq_true_eq] at hb
    obtain ⟨y, hy⟩ := odd (σ := [some (.ref a), some (.int (hi : Int)), some (.int (wi : Int)), some (.ref p), none, some (.ref p'), some (.int at_), none, none, none]) (m := 1) rfl rfl
    refine w_putE (i := at_ % (wi : Int)) (x6.trans e7) hy (e7 _ _ hq6) rfl (ev_iic (ev_varI rfl) (ev_varI rfl) hb.2 rfl) (Int.emod_nonneg _ (by omega)) (by rw [ly]; exact Int.emod_lt_of_pos _ hb.2) fun H8 e8 => ?_
    exact rest _ _ ⟨_, rfl, by rw [List.length_set]; exact ly, Ex.mut ((x6.trans e7).trans e8) nq5, (upd_ne hne).trans (e8 _ _ (e7 _ _ hp6)), upd_same⟩
  rintro σ' H7 ⟨ys', rfl, ly', x7, hp7, hq7⟩
  -- both lists stand still from here on
  have lP : il.p (upd (upd B5 p (.lst (xs'.map V.int))) p' (.lst (ys'.map V.int))) (.ref p) xs' := il_of (by rw [upd_ne hne, upd_same])
  have lQ : il.p (upd (upd B5 p (.lst (xs'.map V.int))) p' (.lst (ys'.map V.int))) (.ref p') ys' := il_of upd_same
  have xS : Ex (upd (upd B5 p (.lst (xs'.map V.int))) p' (.lst (ys'.map V.int))) H7 := fun x o h => by
    by_cases e1 : x = p'
    · subst e1; rw [upd_same] at h; cases h; exact hq7
    · rw [upd_ne e1] at h
      by_cases e2 : x = p
      · subst e2; rw [upd_same] at h; cases h; exact hp7
      · rw [upd_ne e2] at h; exact x7 _ _ h
  generalize upd (upd B5 p (.lst (xs'.map V.int))) p' (.lst (ys'.map V.int)) = S at lP lQ xS
  refine q_set (P := poL il [xs', ys']) xS (ev_lst (ea_cons (EV.of_n (ev_list (ev_var rfl lP))) (ea_cons (EV.of_n (ev_list (ev_var rfl lQ))) ea_nil)) (by show 2 ≤ _; decide)) fun v7 B8 H8 n8 hu => ?_
  have h7 := poL_lst hu
  have lP := il.stE n8.bb lP
  have lQ := il.stE n8.bb lQ
  have hnd : ∀ {σ : L2.St} {B : Hp}, (lst il).p B v7 [xs', ys'] → σ[7]? = some (some v7) → EVr (tOp (rIxL K) (tVar 7) (tC (.int 0))) σ B il xs' ∧ EVr (tOp (rIxL K) (tVar 7) (tC (.int 1))) σ B il ys' := fun a3 i3 => ⟨ev_ix (r := il) (xs := [xs', ys']) (ev_var i3 a3) ev_int rfl, ev_ix (r := il) (xs := [xs', ys']) (ev_var i3 a3) ev_int rfl⟩
  refine q_set (P := poR bl (isC xs' ys')) n8.bh (ev_call2 (r := il) (q := il) (x := xs') (y := ys') (hnd h7 rfl).1 (hnd h7 rfl).2 trivial) fun u B9 H9 n9 hu => ?_
  cases hu
  have h7 := (lst il).stE n9.bb h7
  have lP := il.stE n9.bb lP
  have lQ := il.stE n9.bb lQ
  refine q_if (b := !true || !decide (isC xs' ys' = isC xs' ys')) n9.bh (Evl.et_or (Evl.et_not (a := true) (t_B (ev_isi (r := bl) (x := isC xs' ys') (ev_varB rfl) ty_bl kit_bb))) fun _ => t_test (ev_neB (ev_varB rfl) (ev_call2 (r := il) (q := il) (x := xs') (y := ys') (ev_var rfl lP) (ev_var rfl lQ) ⟨by omega, by omega⟩))) (fun z => by simp at z) (fun _ H10 e10 => ?_)
  have x10 := n9.bh.trans e10
  refine q_ifJ (b := !isC xs' ys') (J := fun σ' H' => ∃ y9, σ' = [some (.ref a), some (.int (hi : Int)), some (.int (wi : Int)), some (.ref p), none, some (.ref p'), some (.int at_), some v7, some (.bl (isC xs' ys')), y9] ∧ Ex B9 H') ?_ x10 (Evl.et_not (t_B (ev_varB rfl))) (fun rest hb H11 e11 => ?_) (fun _ H11 e11 => ⟨none, rfl, x10.trans e11⟩)
  · rintro σ' H11 ⟨y9, rfl, x11⟩
    refine w_ret (P := poR bl (decide ([xs', ys'] = [xs', ys']))) x11 (ev_eqD (r := lst il) (ev_var rfl h7) (EV.of_n (ev_lst (ea_cons (ev_var rfl lP) (ea_cons (ev_var rfl lQ) ea_nil)) (by show 2 ≤ _; decide))) (by decide)) fun u B12 H12 n12 hu => ?_
    rw [decide_eq_true rfl] at hu
    cases hu
    exact q _
  · have hb : isC xs' ys' = false := by simpa using hb
    refine w_forR (n := 4) (x10.trans e11) (EV.eq (x := 4) ev_int rfl) (by decide) (fun i σ' H' => ∃ y9, σ' = [some (.ref a), some (.int (hi : Int)), some (.int (wi : Int)), some (.ref p), none, some (.ref p'), some (.int at_), some v7, some (.bl (isC xs' ys')), y9] ∧ Ex B9 H') (fun H12 e12 => ⟨none, rfl, (x10.trans e11).trans e12⟩) ?_ (fun σ' H' hJ => rest σ' H' hJ)
    rintro i σ' H12 hi4 ⟨y9, rfl, x12⟩
    refine w_if0 (b := !true) x12 (Evl.et_not (a := true) (t_B (ev_call3 (r := int) (q := il) (s := il) (x := (i : Int)) (y := xs') (z := ys') (ev_varI rfl) (hnd h7 rfl).1 (hnd h7 rfl).2 hb))) (fun z => by simp at z) (fun _ H13 e13 => ⟨_, rfl, x12.trans e13⟩)
end
end MK

namespace MK
open PySem PySem.Spec PyProof.Rows L2 Evl
def topS (i : Nat) : Stmt := PySem.Challenge.pw_markcounts_k02_counts_known.main.body.getD i (.Pass ⟨0, 0, 0, 0⟩)
structure Zt (K : PySem.W.Frag) (mg : Str → Option Value) (C : Er) : Prop where
  eMarkError : mg "MarkError" = some (.ref C.MarkError)
  eNoBoard : mg "NoBoard" = some (.ref C.NoBoard)
  eNoCounts : mg "NoCounts" = some (.ref C.NoCounts)
  eNoNumber : mg "NoNumber" = some (.ref C.NoNumber)
  eNoneSuch : mg "NoneSuch" = some (.ref C.NoneSuch)
  eNoExchange : mg "NoExchange" = some (.ref C.NoExchange)
  eNotAlike : mg "NotAlike" = some (.ref C.NotAlike)
  xNoCounts : PySem.W.excIn K C.NoCounts [.type "ValueError", .type "Exception", .type "BaseException", .type "object"] "ValueError.__new__" = true
  kNoCounts : PySem.W.keepIn K (.ref C.NoCounts) = true
  bNoCounts : PySem.W.subIn K (.ref C.NoCounts) (.type "BaseException") = some true
  tNoCounts : PySem.W.typeIn K (.ref C.NoCounts) = some (.type "type")
  xNoNumber : PySem.W.excIn K C.NoNumber [.type "ValueError", .type "Exception", .type "BaseException", .type "object"] "ValueError.__new__" = true
  kNoNumber : PySem.W.keepIn K (.ref C.NoNumber) = true
  bNoNumber : PySem.W.subIn K (.ref C.NoNumber) (.type "BaseException") = some true
  tNoNumber : PySem.W.typeIn K (.ref C.NoNumber) = some (.type "type")
  xNoneSuch : PySem.W.excIn K C.NoneSuch [.type "ValueError", .type "Exception", .type "BaseException", .type "object"] "ValueError.__new__" = true
  kNoneSuch : PySem.W.keepIn K (.ref C.NoneSuch) = true
  bNoneSuch : PySem.W.subIn K (.ref C.NoneSuch) (.type "BaseException") = some true
  tNoneSuch : PySem.W.typeIn K (.ref C.NoneSuch) = some (.type "type")
  kdNoCounts : KindOk K C C.NoCounts 1
  ValueError : mg "ValueError" = none
  bool : mg "bool" = none
  gMOST : ∃ t, mg "MOST" = some (.int 6 t)
  int : mg "int" = none
  isinstance : mg "isinstance" = none
  len : mg "len" = none
  list : mg "list" = none
  min : mg "min" = none
  range : mg "range" = none
  sorted : mg "sorted" = none
  sum : mg "sum" = none
  tuple : mg "tuple" = none
  zip : mg "zip" = none
abbrev sare_counts : Stmt := topS 10
theorem scare_counts : FnScope ["rows", "columns", "count"] ["rows", "columns"] (defScope sare_counts) := ⟨rfl, rfl, rfl, by decide +kernel, rfl, by decide +kernel, by decide +kernel⟩
theorem dv_are_counts {P : Program} {w : World} {K : PySem.W.Frag} {mg : Str → Option Value} {base : Heap} (Z : Zt K mg C)  (f : Addr) (cdv : Value) (A : Around) (outer : List Env) (s : Shared) (H : Hp) (E : XK) (hr : Room 0 (A.deeper (envOfC "are_counts" (defScope sare_counts) s.heap.objs.size f cdv))) :
    PSs (cxOf CX0 P w K mg base ["rows", "columns", "count"] "are_counts" (defScope sare_counts) f cdv A outer s H E).nox (defBody sare_counts) (t_are_counts K ) := by
  have sc := scare_counts
  exact (pss_cons (ps_if (PW.pt (pw_or (pt_not (pt_chain op_le op_le pe_int (pe_callB call_len_seq (by rfl) Z.len PySem.boot_len (pa_cons (pv 0) pa_nil)) (pe_glob rfl Z.gMOST.choose_spec ⟨_, rfl⟩))) (pw_or1 (pt_not (pt_chain op_le op_le pe_int (pe_callB call_len_seq (by rfl) Z.len PySem.boot_len (pa_cons (pv 1) pa_nil)) (pe_glob rfl Z.gMOST.choose_spec ⟨_, rfl⟩)))))) (pss_one (ps_ret pe_bl)) pss_nil)
    (pss_cons (ps_for PassesOwn.never rfl (pi_list (pv 0)) (pg_name (i := 2) sc.nd rfl (Or.inl rfl))
    (pss_one (ps_if (pt_not (pt_chain op_le op_le pe_int (pv 2) (pe_callB call_len_seq (by rfl) Z.len PySem.boot_len (pa_cons (pv 1) pa_nil)))) (pss_one (ps_ret pe_bl)) pss_nil)))
    (pss_cons (ps_for PassesOwn.never rfl (pi_list (pv 1)) (pg_name (i := 2) sc.nd rfl (Or.inl rfl))
    (pss_one (ps_if (pt_not (pt_chain op_le op_le pe_int (pv 2) (pe_callB call_len_seq (by rfl) Z.len PySem.boot_len (pa_cons (pv 0) pa_nil)))) (pss_one (ps_ret pe_bl)) pss_nil)))
    (pss_one (ps_ret pe_bl)))))
abbrev sasked_counts : Stmt := topS 11
theorem scasked_counts : FnScope ["rows", "columns"] ["rows", "columns"] (defScope sasked_counts) := ⟨rfl, rfl, rfl, by decide +kernel, rfl, by decide +kernel, by decide +kernel⟩
theorem dv_asked_counts {P : Program} {w : World} {K : PySem.W.Frag} {mg : Str → Option Value} {base : Heap} (C : Er) (Z : Zt K mg C) (D_are_counts : Df P w K mg base CX0 1 "are_counts" ["rows", "columns"] (sp_are_counts)) (f : Addr) (cdv : Value) (A : Around) (outer : List Env) (s : Shared) (H : Hp) (E : XK) (hr : Room 1 (A.deeper (envOfC "asked_counts" (defScope sasked_counts) s.heap.objs.size f cdv))) :
    PSs (cxOf (L2N.CX P w) P w K mg base ["rows", "columns"] "asked_counts" (defScope sasked_counts) f cdv A outer s H E) (defBody sasked_counts) (t_asked_counts K (fun cls d _ H => E cls d H) C) := by
  have sc := scasked_counts
  have tk := L2N.takes_of (X := cxOf (L2N.CX P w) P w K mg base ["rows", "columns"] "asked_counts" (defScope sasked_counts) f cdv A outer s H E) (E := E) rfl rfl rfl rfl
  have po : PassesOwn (model P w) (cxOf (L2N.CX P w) P w K mg base ["rows", "columns"] "asked_counts" (defScope sasked_counts) f cdv A outer s H E).A (cxOf (L2N.CX P w) P w K mg base ["rows", "columns"] "asked_counts" (defScope sasked_counts) f cdv A outer s H E).env (cxOf (L2N.CX P w) P w K mg base ["rows", "columns"] "asked_counts" (defScope sasked_counts) f cdv A outer s H E).xe := L2.passes_of rfl
  exact (pss_one (ps_if (pt_not (pt_val (pe_df D_are_counts hr (by omega) (pa_cons (pv 0) (pa_cons (pv 1) pa_nil))))) (pss_one (L2N.ps_raise rfl tk (L2N.pmk_own PySem.F.excBase_ValueError Z.xNoCounts Z.eNoCounts Z.kNoCounts (raises_own Z.bNoCounts Z.tNoCounts) rfl))) pss_nil))
abbrev spatterns : Stmt := topS 13
theorem scpatterns : FnScope ["count", "size", "found", "rest"] ["count", "size"] (defScope spatterns) := ⟨rfl, rfl, rfl, by decide +kernel, rfl, by decide +kernel, by decide +kernel⟩
theorem dv_patterns {P : Program} {w : World} {K : PySem.W.Frag} {mg : Str → Option Value} {base : Heap} (n : Nat) (Z : Zt K mg C) (D_patterns : Df P w K mg base CX0 n "patterns" ["count", "size"] (sp_patterns n)) (f : Addr) (cdv : Value) (A : Around) (outer : List Env) (s : Shared) (H : Hp) (E : XK) (hr : Room n (A.deeper (envOfC "patterns" (defScope spatterns) s.heap.objs.size f cdv))) :
    PSs (cxOf CX0 P w K mg base ["count", "size", "found", "rest"] "patterns" (defScope spatterns) f cdv A outer s H E).nox (defBody spatterns) (t_patterns K n) := by
  have sc := scpatterns
  exact (pss_cons (ps_if (pt_cmpR op_eq (pv 1) pe_int (nomark _)) (pss_cons (ps_if (pt_cmpR op_eq (pv 0) pe_int (nomark _)) (pss_one (ps_ret (pe_lst (pa_cons (pe_lst pa_nil) pa_nil)))) pss_nil)
    (pss_one (ps_ret (pe_lst pa_nil)))) pss_nil)
    (pss_cons (ps_setLc (i := 2) (own := [("rest", 3)]) (g := (gName 3)) (tt := tYes) rfl sc.nd rfl rfl (sw_true rfl rfl rfl (by decide +kernel)) (pi_list (pe_df D_patterns hr (by omega) (pa_cons (pv 0) (pa_cons (pe_op op_sub (pv 1) pe_int) pa_nil)))) (blkOk_by (own := [("rest", 3)]) (N := ["count", "size", "found", "rest"]) (sc := defScope spatterns) (by decide +kernel)) (fun _ _ _ _ _ => pg_name (i := 3) sc.nd rfl (Or.inl rfl)) (fun _ _ _ _ _ => pts_nil) (fun _ _ _ _ _ => (pe_op op_cat (pe_lst (pa_cons pe_int pa_nil)) (pv 3))))
    (pss_cons (ps_expr (pe_bm PySem.F.plainAttrs_list PySem.F.slot_list_extend PySem.F.type_list_extend mt_extend (pv 2) (pa_cons (pe_lc (own := [("rest", 3)]) (g := (gName 3)) (tt := tYes) rfl sc.nd (pi_list (pe_df D_patterns hr (by omega) (pa_cons (pe_op op_sub (pv 0) pe_int) (pa_cons (pe_op op_sub (pv 1) pe_int) pa_nil)))) (blkOk_by (own := [("rest", 3)]) (N := ["count", "size", "found", "rest"]) (sc := defScope spatterns) (by decide +kernel)) (fun _ _ _ _ _ => pg_name (i := 3) sc.nd rfl (Or.inl rfl)) (fun _ _ _ _ _ => pts_nil) (fun _ _ _ _ _ => (pe_op op_cat (pe_lst (pa_cons pe_int pa_nil)) (pv 3)))) pa_nil)))
    (pss_one (ps_ret (pv 2))))))
abbrev slessened : Stmt := topS 14
theorem sclessened : FnScope ["columns", "pattern", "found", "column", "cell"] ["columns", "pattern"] (defScope slessened) := ⟨rfl, rfl, rfl, by decide +kernel, rfl, by decide +kernel, by decide +kernel⟩
theorem dv_lessened {P : Program} {w : World} {K : PySem.W.Frag} {mg : Str → Option Value} {base : Heap} (Z : Zt K mg C)  (f : Addr) (cdv : Value) (A : Around) (outer : List Env) (s : Shared) (H : Hp) (E : XK) (hr : Room 0 (A.deeper (envOfC "lessened" (defScope slessened) s.heap.objs.size f cdv))) :
    PSs (cxOf CX0 P w K mg base ["columns", "pattern", "found", "column", "cell"] "lessened" (defScope slessened) f cdv A outer s H E).nox (defBody slessened) (t_lessened K ) := by
  have sc := sclessened
  exact (pss_cons (ps_setLc (i := 2) (own := [("column", 3), ("cell", 4)]) (g := (gTup K 2 (gCons (gName 3) (gCons (gName 4) gNil)))) (tt := tYes) rfl sc.nd rfl rfl (sw_true rfl rfl rfl (by decide +kernel)) (pi_zip (by rfl) Z.zip (pa_cons (pv 0) (pa_cons (pv 1) pa_nil))) (blkOk_by (own := [("column", 3), ("cell", 4)]) (N := ["columns", "pattern", "found", "column", "cell"]) (sc := defScope slessened) (by decide +kernel)) (fun _ _ _ _ _ => pg_tup rfl (pgs_cons (pg_name (i := 3) sc.nd rfl (Or.inl rfl)) (pgs_cons (pg_name (i := 4) sc.nd rfl (Or.inl rfl)) pgs_nil))) (fun _ _ _ _ _ => pts_nil) (fun _ _ _ _ _ => (pe_op op_sub (pv 3) (pv 4))))
    (pss_cons (ps_if (pt_cmpR op_lt (pe_callB (cr_min rfl) (by rfl) Z.min boot_min (pa_cons (pv 2) pa_nil)) pe_int (nomark _)) (pss_one (ps_ret pe_non)) pss_nil)
    (pss_one (ps_ret (pv 2)))))
abbrev sways : Stmt := topS 15
theorem scways : FnScope ["rows", "columns", "known", "key", "total", "pattern", "left"] ["rows", "columns", "known"] (defScope sways) := ⟨rfl, rfl, rfl, by decide +kernel, rfl, by decide +kernel, by decide +kernel⟩
theorem dv_ways {P : Program} {w : World} {K : PySem.W.Frag} {mg : Str → Option Value} {base : Heap} (n : Nat) (Z : Zt K mg C) (D_patterns : Df P w K mg base CX0 9 "patterns" ["count", "size"] (sp_patterns 8)) (D_lessened : Df P w K mg base CX0 1 "lessened" ["columns", "pattern"] (sp_lessened)) (D_ways : Df P w K mg base CX0 (n + 10) "ways" ["rows", "columns", "known"] (sp_ways n)) (f : Addr) (cdv : Value) (A : Around) (outer : List Env) (s : Shared) (H : Hp) (E : XK) (hr : Room (n + 10) (A.deeper (envOfC "ways" (defScope sways) s.heap.objs.size f cdv))) :
    PSs (cxOf CX0 P w K mg base ["rows", "columns", "known", "key", "total", "pattern", "left"] "ways" (defScope sways) f cdv A outer s H E).nox (defBody sways) (t_ways K n) := by
  have sc := scways
  exact (pss_cons (ps_if (pt_cmpR op_eq (pe_callB call_len_seq (by rfl) Z.len PySem.boot_len (pa_cons (pv 0) pa_nil)) pe_int (nomark _)) (pss_one (ps_ret (pe_callTy call_int1 (by rfl) Z.int boot_int (pa_cons (pe_cmpR op_eq (pe_callB (cr_sum rfl) (by rfl) Z.sum boot_sum (pa_cons (pv 1) pa_nil)) pe_int (nomark _)) pa_nil)))) pss_nil)
    (pss_cons (ps_if (pt_cmpR op_ne (pe_callB (cr_sum rfl) (by rfl) Z.sum boot_sum (pa_cons (pv 0) pa_nil)) (pe_callB (cr_sum rfl) (by rfl) Z.sum boot_sum (pa_cons (pv 1) pa_nil)) (nomark _)) (pss_one (ps_ret pe_int)) pss_nil)
    (pss_cons (ps_set (i := 3) sc.nd rfl (Or.inl rfl) (pe_tup (pa_cons (pe_callB call_len_seq (by rfl) Z.len PySem.boot_len (pa_cons (pv 0) pa_nil)) (pa_cons (pe_callTy call_tuple_of (by rfl) Z.tuple boot_tuple (pa_cons (pe_callB cr_sortedI (by rfl) Z.sorted boot_sorted (pa_cons (pv 1) pa_nil)) pa_nil)) pa_nil))))
    (pss_cons (ps_if (pt_cmpR (MKD.op_nkNot hr.units) (pv 3) (pv 2) (by rfl)) (pss_cons (ps_set (i := 4) sc.nd rfl (Or.inl rfl) pe_int)
    (pss_cons (ps_for PassesOwn.never rfl (pi_list (pe_df D_patterns hr (by omega) (pa_cons (pe_ix ix_list (pv 0) pe_int (fun _ _ => rfl)) (pa_cons (pe_callB call_len_seq (by rfl) Z.len PySem.boot_len (pa_cons (pv 1) pa_nil)) pa_nil)))) (pg_name (i := 5) sc.nd rfl (Or.inl rfl))
    (pss_cons (ps_set (i := 6) sc.nd rfl (Or.inl rfl) (pe_df D_lessened hr (by omega) (pa_cons (pv 1) (pa_cons (pv 5) pa_nil))))
    (pss_one (ps_if (pt_cmpR op_notN (pv 6) pe_non (nomark _)) (pss_one (ps_set (i := 4) sc.nd rfl (Or.inl rfl) (pe_op op_add (pv 4) (pe_df D_ways hr (by omega) (pa_cons (pe_slice sl_list (pv 0) (po_some pe_int) po_none) (pa_cons (pv 6) (pa_cons (pv 2) pa_nil))))))) pss_nil))))
    (pss_one (ps_asg (pv 4) (pg_sub (pv 2) (pv 3) (MKD.set_nk hr.units)))))) pss_nil)
    (pss_one (ps_ret (pe_ix (MKD.ix_nk hr.units) (pv 2) (pv 3) (fun _ _ => rfl))))))))
abbrev smany : Stmt := topS 16
theorem scmany : FnScope ["rows", "columns"] ["rows", "columns"] (defScope smany) := ⟨rfl, rfl, rfl, by decide +kernel, rfl, by decide +kernel, by decide +kernel⟩
theorem dv_many {P : Program} {w : World} {K : PySem.W.Frag} {mg : Str → Option Value} {base : Heap} (C : Er) (Z : Zt K mg C) (D_asked_counts : Df P w K mg base (L2N.CX P w) 2 "asked_counts" ["rows", "columns"] (sp_asked_counts C)) (D_ways : Df P w K mg base CX0 20 "ways" ["rows", "columns", "known"] (sp_ways 8)) (f : Addr) (cdv : Value) (A : Around) (outer : List Env) (s : Shared) (H : Hp) (E : XK) (hr : Room 20 (A.deeper (envOfC "many" (defScope smany) s.heap.objs.size f cdv))) :
    PSs (cxOf (L2N.CX P w) P w K mg base ["rows", "columns"] "many" (defScope smany) f cdv A outer s H E) (defBody smany) (t_many K (fun cls d _ H => E cls d H) C) := by
  have sc := scmany
  have tk := L2N.takes_of (X := cxOf (L2N.CX P w) P w K mg base ["rows", "columns"] "many" (defScope smany) f cdv A outer s H E) (E := E) rfl rfl rfl rfl
  have po : PassesOwn (model P w) (cxOf (L2N.CX P w) P w K mg base ["rows", "columns"] "many" (defScope smany) f cdv A outer s H E).A (cxOf (L2N.CX P w) P w K mg base ["rows", "columns"] "many" (defScope smany) f cdv A outer s H E).env (cxOf (L2N.CX P w) P w K mg base ["rows", "columns"] "many" (defScope smany) f cdv A outer s H E).xe := L2.passes_of rfl
  exact (pss_cons (ps_expr (pe_dfX D_asked_counts hr (by omega) tk (pa_cons (pv 0) (pa_cons (pv 1) pa_nil))))
    (pss_one (ps_ret (pe_df D_ways hr (by omega) (pa_cons (pv 0) (pa_cons (pv 1) (pa_cons MKD.pe_dnew pa_nil)))))))
abbrev sboard_at : Stmt := topS 17
theorem scboard_at : FnScope ["rows", "columns", "number", "known", "board", "left", "k", "pattern", "later", "some"] ["rows", "columns", "number"] (defScope sboard_at) := ⟨rfl, rfl, rfl, by decide +kernel, rfl, by decide +kernel, by decide +kernel⟩
theorem dv_board_at {P : Program} {w : World} {K : PySem.W.Frag} {mg : Str → Option Value} {base : Heap} (C : Er) (Z : Zt K mg C) (D_asked_counts : Df P w K mg base (L2N.CX P w) 2 "asked_counts" ["rows", "columns"] (sp_asked_counts C)) (D_ways : Df P w K mg base CX0 20 "ways" ["rows", "columns", "known"] (sp_ways 8)) (D_patterns : Df P w K mg base CX0 9 "patterns" ["count", "size"] (sp_patterns 8)) (D_lessened : Df P w K mg base CX0 1 "lessened" ["columns", "pattern"] (sp_lessened)) (f : Addr) (cdv : Value) (A : Around) (outer : List Env) (s : Shared) (H : Hp) (E : XK) (hr : Room 20 (A.deeper (envOfC "board_at" (defScope sboard_at) s.heap.objs.size f cdv))) :
    PSs (cxOf (L2N.CX P w) P w K mg base ["rows", "columns", "number", "known", "board", "left", "k", "pattern", "later", "some"] "board_at" (defScope sboard_at) f cdv A outer s H E) (defBody sboard_at) (t_board_at K (fun cls d _ H => E cls d H) C) := by
  have sc := scboard_at
  have tk := L2N.takes_of (X := cxOf (L2N.CX P w) P w K mg base ["rows", "columns", "number", "known", "board", "left", "k", "pattern", "later", "some"] "board_at" (defScope sboard_at) f cdv A outer s H E) (E := E) rfl rfl rfl rfl
  have po : PassesOwn (model P w) (cxOf (L2N.CX P w) P w K mg base ["rows", "columns", "number", "known", "board", "left", "k", "pattern", "later", "some"] "board_at" (defScope sboard_at) f cdv A outer s H E).A (cxOf (L2N.CX P w) P w K mg base ["rows", "columns", "number", "known", "board", "left", "k", "pattern", "later", "some"] "board_at" (defScope sboard_at) f cdv A outer s H E).env (cxOf (L2N.CX P w) P w K mg base ["rows", "columns", "number", "known", "board", "left", "k", "pattern", "later", "some"] "board_at" (defScope sboard_at) f cdv A outer s H E).xe := L2.passes_of rfl
  exact (pss_cons (ps_expr (pe_dfX D_asked_counts hr (by omega) tk (pa_cons (pv 0) (pa_cons (pv 1) pa_nil))))
    (pss_cons (ps_set (i := 3) sc.nd rfl (Or.inl rfl) MKD.pe_dnew)
    (pss_cons (ps_if (PW.pt (pw_or (pt_cmpR op_lt (pv 2) pe_int (nomark _)) (pw_or1 (pt_cmpR op_ge (pv 2) (pe_df D_ways hr (by omega) (pa_cons (pv 0) (pa_cons (pv 1) (pa_cons (pv 3) pa_nil)))) (nomark _))))) (pss_one (L2N.ps_raise rfl tk (L2N.pmk_own PySem.F.excBase_ValueError Z.xNoNumber Z.eNoNumber Z.kNoNumber (raises_own Z.bNoNumber Z.tNoNumber) rfl))) pss_nil)
    (pss_cons (ps_set (i := 4) sc.nd rfl (Or.inl rfl) (pe_lst pa_nil))
    (pss_cons (ps_set (i := 5) sc.nd rfl (Or.inl rfl) (pe_callTy call_list_of (by rfl) Z.list PyProof.Rows.boot_list (pa_cons (pv 1) pa_nil)))
    (pss_cons (ps_for po rfl (pi_range1 rfl Z.range (pa_cons (pe_callB call_len_seq (by rfl) Z.len PySem.boot_len (pa_cons (pv 0) pa_nil)) pa_nil)) (pg_name (i := 6) sc.nd rfl (Or.inl rfl))
    (pss_one (ps_for po rfl (pi_list (pe_df D_patterns hr (by omega) (pa_cons (pe_ix ix_list (pv 0) (pv 6) (fun _ _ => rfl)) (pa_cons (pe_callB call_len_seq (by rfl) Z.len PySem.boot_len (pa_cons (pv 1) pa_nil)) pa_nil)))) (pg_name (i := 7) sc.nd rfl (Or.inl rfl))
    (pss_cons (ps_set (i := 8) sc.nd rfl (Or.inl rfl) (pe_df D_lessened hr (by omega) (pa_cons (pv 5) (pa_cons (pv 7) pa_nil))))
    (pss_one (ps_if (pt_cmpR op_notN (pv 8) pe_non (nomark _)) (pss_cons (ps_set (i := 9) sc.nd rfl (Or.inl rfl) (pe_df D_ways hr (by omega) (pa_cons (pe_slice sl_list (pv 0) (po_some (pe_op op_add (pv 6) pe_int)) po_none) (pa_cons (pv 8) (pa_cons (pv 3) pa_nil)))))
    (pss_cons (ps_if (pt_cmpR op_lt (pv 2) (pv 9) (nomark _)) (pss_cons (ps_expr (pe_bm PySem.F.plainAttrs_list PySem.F.slot_list_append PySem.F.type_list_append mt_append (pv 4) (pa_cons (pv 7) pa_nil)))
    (pss_cons (ps_set (i := 5) sc.nd rfl (Or.inl rfl) (pv 8))
    (pss_one ps_break))) pss_nil)
    (pss_one (ps_set (i := 2) sc.nd rfl (Or.inl rfl) (pe_op op_sub (pv 2) (pv 9)))))) pss_nil))))))
    (pss_one (ps_ret (pv 4)))))))))
abbrev smarked : Stmt := topS 19
theorem scmarked : FnScope ["rows", "columns", "at", "known", "others", "found", "column", "pattern", "left", "some", "total", "cell"] ["rows", "columns", "at"] (defScope smarked) := ⟨rfl, rfl, rfl, by decide +kernel, rfl, by decide +kernel, by decide +kernel⟩
theorem dv_marked {P : Program} {w : World} {K : PySem.W.Frag} {mg : Str → Option Value} {base : Heap} (Z : Zt K mg C) (D_patterns : Df P w K mg base CX0 9 "patterns" ["count", "size"] (sp_patterns 8)) (D_lessened : Df P w K mg base CX0 1 "lessened" ["columns", "pattern"] (sp_lessened)) (D_ways : Df P w K mg base CX0 20 "ways" ["rows", "columns", "known"] (sp_ways 8)) (f : Addr) (cdv : Value) (A : Around) (outer : List Env) (s : Shared) (H : Hp) (E : XK) (hr : Room 20 (A.deeper (envOfC "marked" (defScope smarked) s.heap.objs.size f cdv))) :
    PSs (cxOf CX0 P w K mg base ["rows", "columns", "at", "known", "others", "found", "column", "pattern", "left", "some", "total", "cell"] "marked" (defScope smarked) f cdv A outer s H E).nox (defBody smarked) (t_marked K ) := by
  have sc := scmarked
  exact (pss_cons (ps_set (i := 3) sc.nd rfl (Or.inl rfl) MKD.pe_dnew)
    (pss_cons (ps_set (i := 4) sc.nd rfl (Or.inl rfl) (pe_op op_cat (pe_slice sl_list (pv 0) po_none (po_some (pv 2))) (pe_slice sl_list (pv 0) (po_some (pe_op op_add (pv 2) pe_int)) po_none)))
    (pss_cons (ps_setLc (i := 5) (own := [("column", 6)]) (g := (gName 6)) (tt := tYes) rfl sc.nd rfl rfl (sw_true rfl rfl rfl (by decide +kernel)) (pi_list (pv 1)) (blkOk_by (own := [("column", 6)]) (N := ["rows", "columns", "at", "known", "others", "found", "column", "pattern", "left", "some", "total", "cell"]) (sc := defScope smarked) (by decide +kernel)) (fun _ _ _ _ _ => pg_name (i := 6) sc.nd rfl (Or.inl rfl)) (fun _ _ _ _ _ => pts_nil) (fun _ _ _ _ _ => pe_int))
    (pss_cons (ps_for PassesOwn.never rfl (pi_list (pe_df D_patterns hr (by omega) (pa_cons (pe_ix ix_list (pv 0) (pv 2) (fun _ _ => rfl)) (pa_cons (pe_callB call_len_seq (by rfl) Z.len PySem.boot_len (pa_cons (pv 1) pa_nil)) pa_nil)))) (pg_name (i := 7) sc.nd rfl (Or.inl rfl))
    (pss_cons (ps_set (i := 8) sc.nd rfl (Or.inl rfl) (pe_df D_lessened hr (by omega) (pa_cons (pv 1) (pa_cons (pv 7) pa_nil))))
    (pss_one (ps_if (pt_cmpR op_notN (pv 8) pe_non (nomark _)) (pss_cons (ps_set (i := 9) sc.nd rfl (Or.inr rfl) (pe_df D_ways hr (by omega) (pa_cons (pv 4) (pa_cons (pv 8) (pa_cons (pv 3) pa_nil)))))
    (pss_one (ps_setLc (i := 5) (own := [("total", 10), ("cell", 11)]) (g := (gTup K 2 (gCons (gName 10) (gCons (gName 11) gNil)))) (tt := tYes) rfl sc.nd rfl rfl (sw_true rfl rfl rfl (by decide +kernel)) (pi_zip (by rfl) Z.zip (pa_cons (pv 5) (pa_cons (pv 7) pa_nil))) (blkOk_by (own := [("total", 10), ("cell", 11)]) (N := ["rows", "columns", "at", "known", "others", "found", "column", "pattern", "left", "some", "total", "cell"]) (sc := defScope smarked) (by decide +kernel)) (fun _ _ _ _ _ => pg_tup rfl (pgs_cons (pg_name (i := 10) sc.nd rfl (Or.inl rfl)) (pgs_cons (pg_name (i := 11) sc.nd rfl (Or.inl rfl)) pgs_nil))) (fun _ _ _ _ _ => pts_nil) (fun _ _ _ _ _ => (pe_op op_add (pv 10) (pe_op op_mul (pv 9) (pv 11))))))) pss_nil))))
    (pss_one (ps_ret (pv 5)))))))
abbrev skind : Stmt := topS 20
theorem sckind : FnScope ["count", "total"] ["count", "total"] (defScope skind) := ⟨rfl, rfl, rfl, by decide +kernel, rfl, by decide +kernel, by decide +kernel⟩
theorem dv_kind {P : Program} {w : World} {K : PySem.W.Frag} {mg : Str → Option Value} {base : Heap} (Z : Zt K mg C)  (f : Addr) (cdv : Value) (A : Around) (outer : List Env) (s : Shared) (H : Hp) (E : XK) (hr : Room 0 (A.deeper (envOfC "kind" (defScope skind) s.heap.objs.size f cdv))) :
    PSs (cxOf CX0 P w K mg base ["count", "total"] "kind" (defScope skind) f cdv A outer s H E).nox (defBody skind) (t_kind K ) := by
  have sc := sckind
  exact (pss_cons (ps_if (pt_cmpR op_eq (pv 0) (pv 1) (nomark _)) (pss_one (ps_ret pe_str)) pss_nil)
    (pss_cons (ps_if (pt_cmpR op_eq (pv 0) pe_int (nomark _)) (pss_one (ps_ret pe_str)) pss_nil)
    (pss_one (ps_ret pe_str))))
abbrev skinds : Stmt := topS 21
theorem sckinds : FnScope ["rows", "columns", "total", "found", "at", "count"] ["rows", "columns"] (defScope skinds) := ⟨rfl, rfl, rfl, by decide +kernel, rfl, by decide +kernel, by decide +kernel⟩
theorem dv_kinds {P : Program} {w : World} {K : PySem.W.Frag} {mg : Str → Option Value} {base : Heap} (C : Er) (Z : Zt K mg C) (D_asked_counts : Df P w K mg base (L2N.CX P w) 2 "asked_counts" ["rows", "columns"] (sp_asked_counts C)) (D_ways : Df P w K mg base CX0 20 "ways" ["rows", "columns", "known"] (sp_ways 8)) (D_marked : Df P w K mg base CX0 21 "marked" ["rows", "columns", "at"] (sp_marked)) (D_kind : Df P w K mg base CX0 1 "kind" ["count", "total"] (sp_kind)) (f : Addr) (cdv : Value) (A : Around) (outer : List Env) (s : Shared) (H : Hp) (E : XK) (hr : Room 21 (A.deeper (envOfC "kinds" (defScope skinds) s.heap.objs.size f cdv))) :
    PSs (cxOf (L2N.CX P w) P w K mg base ["rows", "columns", "total", "found", "at", "count"] "kinds" (defScope skinds) f cdv A outer s H E) (defBody skinds) (t_kinds K (fun cls d _ H => E cls d H) C) := by
  have sc := sckinds
  have tk := L2N.takes_of (X := cxOf (L2N.CX P w) P w K mg base ["rows", "columns", "total", "found", "at", "count"] "kinds" (defScope skinds) f cdv A outer s H E) (E := E) rfl rfl rfl rfl
  have po : PassesOwn (model P w) (cxOf (L2N.CX P w) P w K mg base ["rows", "columns", "total", "found", "at", "count"] "kinds" (defScope skinds) f cdv A outer s H E).A (cxOf (L2N.CX P w) P w K mg base ["rows", "columns", "total", "found", "at", "count"] "kinds" (defScope skinds) f cdv A outer s H E).env (cxOf (L2N.CX P w) P w K mg base ["rows", "columns", "total", "found", "at", "count"] "kinds" (defScope skinds) f cdv A outer s H E).xe := L2.passes_of rfl
  exact (pss_cons (ps_expr (pe_dfX D_asked_counts hr (by omega) tk (pa_cons (pv 0) (pa_cons (pv 1) pa_nil))))
    (pss_cons (ps_set (i := 2) sc.nd rfl (Or.inr rfl) (pe_df D_ways hr (by omega) (pa_cons (pv 0) (pa_cons (pv 1) (pa_cons MKD.pe_dnew pa_nil)))))
    (pss_cons (ps_if (pt_cmpR op_eq (pv 2) pe_int (nomark _)) (pss_one (L2N.ps_raise rfl tk (L2N.pmk_own PySem.F.excBase_ValueError Z.xNoneSuch Z.eNoneSuch Z.kNoneSuch (raises_own Z.bNoneSuch Z.tNoneSuch) rfl))) pss_nil)
    (pss_cons (ps_set (i := 3) sc.nd rfl (Or.inl rfl) (pe_lst pa_nil))
    (pss_cons (ps_for po rfl (pi_range1 rfl Z.range (pa_cons (pe_callB call_len_seq (by rfl) Z.len PySem.boot_len (pa_cons (pv 0) pa_nil)) pa_nil)) (pg_name (i := 4) sc.nd rfl (Or.inl rfl))
    (pss_one (ps_expr (pe_bm PySem.F.plainAttrs_list PySem.F.slot_list_append PySem.F.type_list_append mt_append (pv 3) (pa_cons (pe_lc (own := [("count", 5)]) (g := (gName 5)) (tt := tYes) rfl sc.nd (pi_list (pe_df D_marked hr (by omega) (pa_cons (pv 0) (pa_cons (pv 1) (pa_cons (pv 4) pa_nil))))) (blkOk_by (own := [("count", 5)]) (N := ["rows", "columns", "total", "found", "at", "count"]) (sc := defScope skinds) (by decide +kernel)) (fun _ _ _ _ _ => pg_name (i := 5) sc.nd rfl (Or.inl rfl)) (fun _ _ _ _ _ => pts_nil) (fun _ _ _ _ _ => (pe_df D_kind hr (by omega) (pa_cons (pv 5) (pa_cons (pv 2) pa_nil))))) pa_nil)))))
    (pss_one (ps_ret (pv 3))))))))
abbrev swall_of : Stmt := topS 23
theorem scwall_of : FnScope ["ones", "twos", "order", "k", "size", "some", "pair", "others", "room"] ["ones", "twos"] (defScope swall_of) := ⟨rfl, rfl, rfl, by decide +kernel, rfl, by decide +kernel, by decide +kernel⟩
theorem dv_wall_of {P : Program} {w : World} {K : PySem.W.Frag} {mg : Str → Option Value} {base : Heap} (Z : Zt K mg C)  (f : Addr) (cdv : Value) (A : Around) (outer : List Env) (s : Shared) (H : Hp) (E : XK) (hr : Room 0 (A.deeper (envOfC "wall_of" (defScope swall_of) s.heap.objs.size f cdv))) :
    PSs (cxOf CX0 P w K mg base ["ones", "twos", "order", "k", "size", "some", "pair", "others", "room"] "wall_of" (defScope swall_of) f cdv A outer s H E).nox (defBody swall_of) (t_wall_of K ) := by
  have sc := scwall_of
  exact (pss_cons (ps_set (i := 2) sc.nd rfl (Or.inl rfl) (pe_callB cr_sortedPO (by rfl) Z.sorted boot_sorted (pa_cons (pe_lc (own := [("k", 3)]) (g := (gName 3)) (tt := tYes) rfl sc.nd (pi_range1 rfl Z.range (pa_cons (pe_callB call_len_seq (by rfl) Z.len PySem.boot_len (pa_cons (pv 0) pa_nil)) pa_nil)) (blkOk_by (own := [("k", 3)]) (N := ["ones", "twos", "order", "k", "size", "some", "pair", "others", "room"]) (sc := defScope swall_of) (by decide +kernel)) (fun _ _ _ _ _ => pg_name (i := 3) sc.nd rfl (Or.inl rfl)) (fun _ _ _ _ _ => pts_nil) (fun _ _ _ _ _ => (pe_tup (pa_cons (pe_op op_sub pe_int (pe_ix ix_list (pv 0) (pv 3) (fun _ _ => rfl))) (pa_cons (pv 3) pa_nil))))) pa_nil)))
    (pss_cons (ps_for PassesOwn.never rfl (pi_range2 (by rfl) Z.range (pa_cons pe_int (pa_cons (pe_op op_add (pe_callB call_len_seq (by rfl) Z.len PySem.boot_len (pa_cons (pv 0) pa_nil)) pe_int) pa_nil))) (pg_name (i := 4) sc.nd rfl (Or.inr rfl))
    (pss_cons (ps_set (i := 5) sc.nd rfl (Or.inl rfl) (pe_callB cr_sortedI (by rfl) Z.sorted boot_sorted (pa_cons (pe_lc (own := [("pair", 6)]) (g := (gName 6)) (tt := tYes) rfl sc.nd (pi_list (pe_slice sl_list (pv 2) po_none (po_some (pv 4)))) (blkOk_by (own := [("pair", 6)]) (N := ["ones", "twos", "order", "k", "size", "some", "pair", "others", "room"]) (sc := defScope swall_of) (by decide +kernel)) (fun _ _ _ _ _ => pg_name (i := 6) sc.nd rfl (Or.inl rfl)) (fun _ _ _ _ _ => pts_nil) (fun _ _ _ _ _ => (pe_ix ix_tup (pv 6) pe_int (fun _ _ => rfl)))) pa_nil)))
    (pss_cons (ps_setLc (i := 7) (own := [("k", 3)]) (g := (gName 3)) (tt := (tTest (tOp (rI0 fun i j => .bl (decide (i ≤ j))) (tOp (rIxL K) (tVar 1) (tVar 3)) (tVar 4)))) rfl sc.nd rfl rfl (sw_true rfl rfl rfl (by decide +kernel)) (pi_range1 rfl Z.range (pa_cons (pe_callB call_len_seq (by rfl) Z.len PySem.boot_len (pa_cons (pv 1) pa_nil)) pa_nil)) (blkOk_by (own := [("k", 3)]) (N := ["ones", "twos", "order", "k", "size", "some", "pair", "others", "room"]) (sc := defScope swall_of) (by decide +kernel)) (fun _ _ _ _ _ => pg_name (i := 3) sc.nd rfl (Or.inl rfl)) (fun _ _ _ _ _ => pts_one (pt_cmpR op_le (pe_ix ix_list (pv 1) (pv 3) (fun _ _ => rfl)) (pv 4) (nomark _))) (fun _ _ _ _ _ => (pv 3)))
    (pss_cons (ps_set (i := 8) sc.nd rfl (Or.inl rfl) (pe_op op_add (pe_callB (cr_sum rfl) (by rfl) Z.sum boot_sum (pa_cons (pe_lc (own := [("k", 3)]) (g := (gName 3)) (tt := tYes) rfl sc.nd (pi_list (pv 7)) (blkOk_by (own := [("k", 3)]) (N := ["ones", "twos", "order", "k", "size", "some", "pair", "others", "room"]) (sc := defScope swall_of) (by decide +kernel)) (fun _ _ _ _ _ => pg_name (i := 3) sc.nd rfl (Or.inl rfl)) (fun _ _ _ _ _ => pts_nil) (fun _ _ _ _ _ => (pe_ix ix_list (pv 1) (pv 3) (fun _ _ => rfl)))) pa_nil)) (pe_op op_mul (pv 4) (pe_op op_sub (pe_callB call_len_seq (by rfl) Z.len PySem.boot_len (pa_cons (pv 1) pa_nil)) (pe_callB call_len_seq (by rfl) Z.len PySem.boot_len (pa_cons (pv 7) pa_nil))))))
    (pss_one (ps_if (pt_cmpR op_gt (pe_callB (cr_sum rfl) (by rfl) Z.sum boot_sum (pa_cons (pe_lc (own := [("k", 3)]) (g := (gName 3)) (tt := tYes) rfl sc.nd (pi_list (pv 5)) (blkOk_by (own := [("k", 3)]) (N := ["ones", "twos", "order", "k", "size", "some", "pair", "others", "room"]) (sc := defScope swall_of) (by decide +kernel)) (fun _ _ _ _ _ => pg_name (i := 3) sc.nd rfl (Or.inl rfl)) (fun _ _ _ _ _ => pts_nil) (fun _ _ _ _ _ => (pe_ix ix_list (pv 0) (pv 3) (fun _ _ => rfl)))) pa_nil)) (pv 8) (nomark _)) (pss_one (ps_ret (pe_tup (pa_cons (pv 5) (pa_cons (pv 7) pa_nil))))) pss_nil))))))
    (pss_one (ps_ret pe_non))))
abbrev slaid : Stmt := topS 24
theorem sclaid : FnScope ["rows", "columns", "found"] ["rows", "columns"] (defScope slaid) := ⟨rfl, rfl, rfl, by decide +kernel, rfl, by decide +kernel, by decide +kernel⟩
theorem dv_laid {P : Program} {w : World} {K : PySem.W.Frag} {mg : Str → Option Value} {base : Heap} (C : Er) (Z : Zt K mg C) (D_asked_counts : Df P w K mg base (L2N.CX P w) 2 "asked_counts" ["rows", "columns"] (sp_asked_counts C)) (D_ways : Df P w K mg base CX0 20 "ways" ["rows", "columns", "known"] (sp_ways 8)) (D_board_at : Df P w K mg base (L2N.CX P w) 21 "board_at" ["rows", "columns", "number"] (sp_board_at C)) (D_wall_of : Df P w K mg base CX0 1 "wall_of" ["ones", "twos"] (sp_wall_of)) (f : Addr) (cdv : Value) (A : Around) (outer : List Env) (s : Shared) (H : Hp) (E : XK) (hr : Room 21 (A.deeper (envOfC "laid" (defScope slaid) s.heap.objs.size f cdv))) :
    PSs (cxOf (L2N.CX P w) P w K mg base ["rows", "columns", "found"] "laid" (defScope slaid) f cdv A outer s H E) (defBody slaid) (t_laid K (fun cls d _ H => E cls d H) C) := by
  have sc := sclaid
  have tk := L2N.takes_of (X := cxOf (L2N.CX P w) P w K mg base ["rows", "columns", "found"] "laid" (defScope slaid) f cdv A outer s H E) (E := E) rfl rfl rfl rfl
  have po : PassesOwn (model P w) (cxOf (L2N.CX P w) P w K mg base ["rows", "columns", "found"] "laid" (defScope slaid) f cdv A outer s H E).A (cxOf (L2N.CX P w) P w K mg base ["rows", "columns", "found"] "laid" (defScope slaid) f cdv A outer s H E).env (cxOf (L2N.CX P w) P w K mg base ["rows", "columns", "found"] "laid" (defScope slaid) f cdv A outer s H E).xe := L2.passes_of rfl
  exact (pss_cons (ps_expr (pe_dfX D_asked_counts hr (by omega) tk (pa_cons (pv 0) (pa_cons (pv 1) pa_nil))))
    (pss_cons (ps_if (pt_cmpR op_gt (pe_df D_ways hr (by omega) (pa_cons (pv 0) (pa_cons (pv 1) (pa_cons MKD.pe_dnew pa_nil)))) pe_int (nomark _)) (pss_one (ps_ret (pe_tup (pa_cons pe_str (pa_cons (pe_dfX D_board_at hr (by omega) tk (pa_cons (pv 0) (pa_cons (pv 1) (pa_cons pe_int pa_nil)))) pa_nil))))) pss_nil)
    (pss_cons (ps_set (i := 2) sc.nd rfl (Or.inl rfl) (pe_df D_wall_of hr (by omega) (pa_cons (pv 0) (pa_cons (pv 1) pa_nil))))
    (pss_cons (ps_if (pt_cmpR op_notN (pv 2) pe_non (nomark _)) (pss_one (ps_ret (pe_tup (pa_cons pe_str (pa_cons (pe_tup (pa_cons pe_int (pa_cons (pe_ix ix_tup (pv 2) pe_int (fun _ _ => rfl)) (pa_cons (pe_ix ix_tup (pv 2) pe_int (fun _ _ => rfl)) pa_nil)))) pa_nil))))) pss_nil)
    (pss_cons (ps_set (i := 2) sc.nd rfl (Or.inl rfl) (pe_df D_wall_of hr (by omega) (pa_cons (pv 1) (pa_cons (pv 0) pa_nil))))
    (pss_one (ps_ret (pe_tup (pa_cons pe_str (pa_cons (pe_tup (pa_cons pe_int (pa_cons (pe_ix ix_tup (pv 2) pe_int (fun _ _ => rfl)) (pa_cons (pe_ix ix_tup (pv 2) pe_int (fun _ _ => rfl)) pa_nil)))) pa_nil))))))))))
abbrev s_law_cell_at : Stmt := topS 26
theorem sc_law_cell_at : FnScope ["script", "k"] ["script", "k"] (defScope s_law_cell_at) := ⟨rfl, rfl, rfl, by decide +kernel, rfl, by decide +kernel, by decide +kernel⟩
theorem dv__law_cell_at {P : Program} {w : World} {K : PySem.W.Frag} {mg : Str → Option Value} {base : Heap} (Z : Zt K mg C)  (f : Addr) (cdv : Value) (A : Around) (outer : List Env) (s : Shared) (H : Hp) (E : XK) (hr : Room 0 (A.deeper (envOfC "_law_cell_at" (defScope s_law_cell_at) s.heap.objs.size f cdv))) :
    PSs (cxOf CX0 P w K mg base ["script", "k"] "_law_cell_at" (defScope s_law_cell_at) f cdv A outer s H E).nox (defBody s_law_cell_at) (t__law_cell_at K ) := by
  have sc := sc_law_cell_at
  exact (pss_cons (ps_if (pt_cmpR op_lt (pv 1) (pe_callB call_len_seq (by rfl) Z.len PySem.boot_len (pa_cons (pv 0) pa_nil)) (nomark _)) (pss_one (ps_ret (pe_ix ix_list (pv 0) (pv 1) (fun _ _ => rfl)))) pss_nil)
    (pss_one (ps_ret pe_int)))
abbrev s_law_other : Stmt := topS 27
theorem sc_law_other : FnScope ["e", "wanted", "sorts", "k"] ["e", "wanted"] (defScope s_law_other) := ⟨rfl, rfl, rfl, by decide +kernel, rfl, by decide +kernel, by decide +kernel⟩
theorem dv__law_other {P : Program} {w : World} {K : PySem.W.Frag} {mg : Str → Option Value} {base : Heap} (C : Er) (Z : Zt K mg C) (f : Addr) (cdv : Value) (A : Around) (outer : List Env) (s : Shared) (H : Hp) {a : Addr} {oe : Obj} {cls : Value} {dd : Option Addr} (hz : L2N.Zn cls dd oe) (hf : ∃ vs, oe.data = .fields vs) (hh : L2H.Hot1 A (a, oe)) (hr : L2H.RoomH 0 (A.deeper (envOfC "_law_other" (defScope s_law_other) s.heap.objs.size f cdv))) :
    PSs (L2H.cxH CX0 P w K mg base ["e", "wanted", "sorts", "k"] "_law_other" (defScope s_law_other) f cdv A outer s H E0 (a, oe)) (defBody s_law_other) (t__law_other K C a cls dd) := by
  have sc := sc_law_other
  have hot : L2H.Hot1 (L2H.cxH CX0 P w K mg base ["e", "wanted", "sorts", "k"] "_law_other" (defScope s_law_other) f cdv A outer s H E0 (a, oe)).A (a, oe) := hh
  have hpn : (a, oe) ∈ (L2H.cxH CX0 P w K mg base ["e", "wanted", "sorts", "k"] "_law_other" (defScope s_law_other) f cdv A outer s H E0 (a, oe)).pn := List.mem_singleton.mpr rfl
  exact (pss_cons (ps_set (i := 2) sc.nd rfl (Or.inl rfl) (pe_lst (pa_cons (pe_callB (call_isX hpn hz hf) (by rfl) Z.isinstance boot_isinstance (pa_cons (pv 0) (pa_cons (pe_glob rfl Z.eNoBoard rfl) pa_nil))) (pa_cons (pe_callB (call_isX hpn hz hf) (by rfl) Z.isinstance boot_isinstance (pa_cons (pv 0) (pa_cons (pe_glob rfl Z.eNoCounts rfl) pa_nil))) (pa_cons (pe_callB (call_isX hpn hz hf) (by rfl) Z.isinstance boot_isinstance (pa_cons (pv 0) (pa_cons (pe_glob rfl Z.eNoNumber rfl) pa_nil))) (pa_cons (pe_callB (call_isX hpn hz hf) (by rfl) Z.isinstance boot_isinstance (pa_cons (pv 0) (pa_cons (pe_glob rfl Z.eNoneSuch rfl) pa_nil))) pa_nil))))))
    (pss_cons (ps_set (i := 2) sc.nd rfl (Or.inl rfl) (pe_op op_cat (pv 2) (pe_lst (pa_cons (pe_callB (call_isX hpn hz hf) (by rfl) Z.isinstance boot_isinstance (pa_cons (pv 0) (pa_cons (pe_glob rfl Z.eNoExchange rfl) pa_nil))) (pa_cons (pe_callB (call_isX hpn hz hf) (by rfl) Z.isinstance boot_isinstance (pa_cons (pv 0) (pa_cons (pe_glob rfl Z.eNotAlike rfl) pa_nil))) pa_nil)))))
    (pss_one (ps_ret (pe_or (pe_cmpR (op_neD (roomH64 hr)) (pv 2) (pe_lcH (own := [("k", 3)]) (g := (gName 3)) (tt := tYes) hot hpn sc.nd (L2H.pi_range1H rfl Z.range (pa_cons pe_int pa_nil)) (blkOk_by (own := [("k", 3)]) (N := ["e", "wanted", "sorts", "k"]) (sc := defScope s_law_other) (by decide +kernel)) (fun _ _ _ _ _ => pg_name (i := 3) sc.nd rfl (Or.inl rfl)) (fun _ _ _ _ _ => pts_nil) (fun _ _ _ _ _ => (pe_cmpR op_eq (pv 3) (pv 1) (nomark _)))) (nomark _)) (pe_one (pe_not (pe_callB (call_isX hpn hz hf) (by rfl) Z.isinstance boot_isinstance (pa_cons (pv 0) (pa_cons (pe_bltn (by rfl) Z.ValueError (by decide +kernel) rfl) pa_nil))))))))))
abbrev s_law_good : Stmt := topS 28
theorem sc_law_good : FnScope ["rows", "columns", "high", "count"] ["rows", "columns"] (defScope s_law_good) := ⟨rfl, rfl, rfl, by decide +kernel, rfl, by decide +kernel, by decide +kernel⟩
theorem dv__law_good {P : Program} {w : World} {K : PySem.W.Frag} {mg : Str → Option Value} {base : Heap} (Z : Zt K mg C)  (f : Addr) (cdv : Value) (A : Around) (outer : List Env) (s : Shared) (H : Hp) (E : XK) (hr : Room 0 (A.deeper (envOfC "_law_good" (defScope s_law_good) s.heap.objs.size f cdv))) :
    PSs (cxOf CX0 P w K mg base ["rows", "columns", "high", "count"] "_law_good" (defScope s_law_good) f cdv A outer s H E).nox (defBody s_law_good) (t__law_good K ) := by
  have sc := sc_law_good
  exact (pss_cons (ps_if (PW.pt (pw_or (pt_not (pt_chain op_le op_le pe_int (pe_callB call_len_seq (by rfl) Z.len PySem.boot_len (pa_cons (pv 0) pa_nil)) pe_int)) (pw_or1 (pt_not (pt_chain op_le op_le pe_int (pe_callB call_len_seq (by rfl) Z.len PySem.boot_len (pa_cons (pv 1) pa_nil)) pe_int))))) (pss_one (ps_ret pe_bl)) pss_nil)
    (pss_cons (ps_setLc (i := 2) (own := [("count", 3)]) (g := (gName 3)) (tt := (tNot (tTest (tChain (rI0 fun i j => .bl (decide (i ≤ j))) (rI0 fun i j => .bl (decide (i ≤ j))) (tC (.int 0)) (tVar 3) (tCB (rLenS K) (tCons (tVar 1) tNil)))))) rfl sc.nd rfl rfl (sw_true rfl rfl rfl (by decide +kernel)) (pi_list (pv 0)) (blkOk_by (own := [("count", 3)]) (N := ["rows", "columns", "high", "count"]) (sc := defScope s_law_good) (by decide +kernel)) (fun _ _ _ _ _ => pg_name (i := 3) sc.nd rfl (Or.inl rfl)) (fun _ _ _ _ _ => pts_one (pt_not (pt_chain op_le op_le pe_int (pv 3) (pe_callB call_len_seq (by rfl) Z.len PySem.boot_len (pa_cons (pv 1) pa_nil))))) (fun _ _ _ _ _ => (pv 3)))
    (pss_one (ps_ret (pe_cmpR op_eq (pe_op op_add (pe_callB call_len_seq (by rfl) Z.len PySem.boot_len (pa_cons (pv 2) pa_nil)) (pe_callB call_len_seq (by rfl) Z.len PySem.boot_len (pa_cons (pe_lc (own := [("count", 3)]) (g := (gName 3)) (tt := (tNot (tTest (tChain (rI0 fun i j => .bl (decide (i ≤ j))) (rI0 fun i j => .bl (decide (i ≤ j))) (tC (.int 0)) (tVar 3) (tCB (rLenS K) (tCons (tVar 0) tNil)))))) rfl sc.nd (pi_list (pv 1)) (blkOk_by (own := [("count", 3)]) (N := ["rows", "columns", "high", "count"]) (sc := defScope s_law_good) (by decide +kernel)) (fun _ _ _ _ _ => pg_name (i := 3) sc.nd rfl (Or.inl rfl)) (fun _ _ _ _ _ => pts_one (pt_not (pt_chain op_le op_le pe_int (pv 3) (pe_callB call_len_seq (by rfl) Z.len PySem.boot_len (pa_cons (pv 0) pa_nil))))) (fun _ _ _ _ _ => (pv 3))) pa_nil))) pe_int (nomark _))))))
abbrev s_law_refused : Stmt := topS 29
theorem sc_law_refused : FnScope ["which", "rows", "columns", "e"] ["which", "rows", "columns"] (defScope s_law_refused) := ⟨rfl, rfl, rfl, by decide +kernel, rfl, by decide +kernel, by decide +kernel⟩
theorem dv__law_refused {P : Program} {w : World} {K : PySem.W.Frag} {mg : Str → Option Value} {base : Heap} (C : Er) (Z : Zt K mg C) (D_laid : Df P w K mg base (L2N.CX P w) 22 "laid" ["rows", "columns"] (sp_laid C)) (D_many : Df P w K mg base (L2N.CX P w) 21 "many" ["rows", "columns"] (sp_many C)) (D_board_at : Df P w K mg base (L2N.CX P w) 21 "board_at" ["rows", "columns", "number"] (sp_board_at C)) (D_kinds : Df P w K mg base (L2N.CX P w) 22 "kinds" ["rows", "columns"] (sp_kinds C)) (H__law_other : DfH P w K mg base 1 "_law_other" ["e", "wanted"] (sp__law_other K C)) (f : Addr) (cdv : Value) (A : Around) (outer : List Env) (s : Shared) (H : Hp) (E : XK) (hr : Room 22 (A.deeper (envOfC "_law_refused" (defScope s_law_refused) s.heap.objs.size f cdv))) :
    PSs (cxOf CX0 P w K mg base ["which", "rows", "columns", "e"] "_law_refused" (defScope s_law_refused) f cdv A outer s H E).nox (defBody s_law_refused) (t__law_refused_k02 K C) := by
  have sc := sc_law_refused
  exact (pss_cons (L2N.ps_try_as (i := 3) (tb := (fun W => (tIfS (tTest (tOp rEq (tVar 0) (tC (.int 0))))
  (tDrop (tCallS (sp_laid C) (WE W) (tCons (tVar 1) (tCons (tVar 2) tNil))))
  (tIfS (tTest (tOp rEq (tVar 0) (tC (.int 1))))
  (tDrop (tCallS (sp_many C) (WE W) (tCons (tVar 1) (tCons (tVar 2) tNil))))
  (tIfS (tTest (tOp rEq (tVar 0) (tC (.int 2))))
  (tDrop (tCallS (sp_board_at C) (WE W) (tCons (tVar 1) (tCons (tVar 2) (tCons (tUn (rU fun i => .int (-i)) (tC (.int 1))) tNil)))))
  (tDrop (tCallS (sp_kinds C) (WE W) (tCons (tVar 1) (tCons (tVar 2) tNil))))))))) (ts := (fun a cls dd => (tRet (tNotV (tCall (sp__law_other K C a cls dd) [] E0 (tCons (tVar 3) (tCons (tC (.int 1)) tNil))))))) (Wout := fun _ _ _ _ => False) rfl rfl sc.nd rfl rfl ⟨rfl, by decide, Or.inl Z.eMarkError⟩ takesN0
    (fun W pn xe tk po => (pss_one (ps_if (pt_cmpR op_eq (pv 0) pe_int (nomark _)) (pss_one (ps_expr (pe_dfX D_laid hr (by omega) tk (pa_cons (pv 1) (pa_cons (pv 2) pa_nil))))) (pss_one (ps_if (pt_cmpR op_eq (pv 0) pe_int (nomark _)) (pss_one (ps_expr (pe_dfX D_many hr (by omega) tk (pa_cons (pv 1) (pa_cons (pv 2) pa_nil))))) (pss_one (ps_if (pt_cmpR op_eq (pv 0) pe_int (nomark _)) (pss_one (ps_expr (pe_dfX D_board_at hr (by omega) tk (pa_cons (pv 1) (pa_cons (pv 2) (pa_cons (pe_un un_neg pe_int) pa_nil)))))) (pss_one (ps_expr (pe_dfX D_kinds hr (by omega) tk (pa_cons (pv 1) (pa_cons (pv 2) pa_nil))))))))))))
    (fun a oe cls dd pn hz hf => (have hpn : (a, oe) ∈ (a, oe) :: pn := List.mem_cons_self; (pss_one (ps_ret (pe_not (pe_hot H__law_other hr (by omega) hz hf (pa_cons (pv 3) (pa_cons pe_int pa_nil)))))))))
    (pss_one (ps_ret pe_bl)))
abbrev slaw : Stmt := topS 30
theorem sclaw : FnScope ["script", "high", "wide", "rows", "k", "columns", "at", "handed", "told", "which"] ["script"] (defScope slaw) := ⟨rfl, rfl, rfl, by decide +kernel, rfl, by decide +kernel, by decide +kernel⟩
theorem dv_law {P : Program} {w : World} {K : PySem.W.Frag} {mg : Str → Option Value} {base : Heap} (C : Er) (Z : Zt K mg C) (D__law_cell_at : Df P w K mg base CX0 1 "_law_cell_at" ["script", "k"] (sp__law_cell_at K)) (D_are_counts : Df P w K mg base CX0 1 "are_counts" ["rows", "columns"] (sp_are_counts)) (D__law_good : Df P w K mg base CX0 1 "_law_good" ["rows", "columns"] (sp__law_good)) (D__law_refused : Df P w K mg base CX0 23 "_law_refused" ["which", "rows", "columns"] (sp__law_refused_k02)) (f : Addr) (cdv : Value) (A : Around) (outer : List Env) (s : Shared) (H : Hp) (E : XK) (hr : Room 39 (A.deeper (envOfC "law" (defScope slaw) s.heap.objs.size f cdv))) :
    PSs (cxOf CX0 P w K mg base ["script", "high", "wide", "rows", "k", "columns", "at", "handed", "told", "which"] "law" (defScope slaw) f cdv A outer s H E).nox (defBody slaw) (t_law_k02 K C) := by
  have sc := sclaw
  exact (pss_cons (ps_set (i := 1) sc.nd rfl (Or.inr rfl) (pe_op op_mod (pe_df D__law_cell_at hr (by omega) (pa_cons (pv 0) (pa_cons pe_int pa_nil))) pe_int))
    (pss_cons (ps_set (i := 2) sc.nd rfl (Or.inr rfl) (pe_op op_mod (pe_df D__law_cell_at hr (by omega) (pa_cons (pv 0) (pa_cons pe_int pa_nil))) pe_int))
    (pss_cons (ps_setLc (i := 3) (own := [("k", 4)]) (g := (gName 4)) (tt := tYes) rfl sc.nd rfl rfl (sw_true rfl rfl rfl (by decide +kernel)) (pi_range1 rfl Z.range (pa_cons (pv 1) pa_nil)) (blkOk_by (own := [("k", 4)]) (N := ["script", "high", "wide", "rows", "k", "columns", "at", "handed", "told", "which"]) (sc := defScope slaw) (by decide +kernel)) (fun _ _ _ _ _ => pg_name (i := 4) sc.nd rfl (Or.inl rfl)) (fun _ _ _ _ _ => pts_nil) (fun _ _ _ _ _ => (pe_op op_mod (pe_df D__law_cell_at hr (by omega) (pa_cons (pv 0) (pa_cons (pe_op op_add pe_int (pv 4)) pa_nil))) (pe_op op_add (pv 2) pe_int))))
    (pss_cons (ps_setLc (i := 5) (own := [("k", 4)]) (g := (gName 4)) (tt := tYes) rfl sc.nd rfl rfl (sw_true rfl rfl rfl (by decide +kernel)) (pi_range1 rfl Z.range (pa_cons (pv 2) pa_nil)) (blkOk_by (own := [("k", 4)]) (N := ["script", "high", "wide", "rows", "k", "columns", "at", "handed", "told", "which"]) (sc := defScope slaw) (by decide +kernel)) (fun _ _ _ _ _ => pg_name (i := 4) sc.nd rfl (Or.inl rfl)) (fun _ _ _ _ _ => pts_nil) (fun _ _ _ _ _ => (pe_op op_mod (pe_df D__law_cell_at hr (by omega) (pa_cons (pv 0) (pa_cons (pe_op op_add pe_int (pv 4)) pa_nil))) (pe_op op_add (pv 1) pe_int))))
    (pss_cons (ps_set (i := 6) sc.nd rfl (Or.inl rfl) (pe_df D__law_cell_at hr (by omega) (pa_cons (pv 0) (pa_cons pe_int pa_nil))))
    (pss_cons (ps_if (PW.pt (pw_and (pt_cmpR op_eq (pe_op op_mod (pe_df D__law_cell_at hr (by omega) (pa_cons (pv 0) (pa_cons pe_int pa_nil))) pe_int) pe_int (nomark _)) (pw_and1 (pt_cmpR op_gt (pv 1) pe_int (nomark _))))) (pss_one (ps_asg (pe_ix ix_list (pe_lst (pa_cons (pe_un un_neg pe_int) (pa_cons (pe_op op_add (pv 2) pe_int) (pa_cons (pe_un un_neg pe_int) (pa_cons pe_int pa_nil))))) (pe_op op_mod (pe_op op_fdiv (pv 6) pe_int) pe_int) (fun _ _ => rfl)) (pg_sub (pv 3) (pe_op op_mod (pv 6) (pv 1)) set_list))) pss_nil)
    (pss_cons (ps_if (PW.pt (pw_and (pt_cmpR op_eq (pe_op op_mod (pe_df D__law_cell_at hr (by omega) (pa_cons (pv 0) (pa_cons pe_int pa_nil))) pe_int) pe_int (nomark _)) (pw_and1 (pt_cmpR op_gt (pv 2) pe_int (nomark _))))) (pss_one (ps_asg (pe_ix ix_list (pe_lst (pa_cons (pe_un un_neg pe_int) (pa_cons (pe_op op_add (pv 1) pe_int) (pa_cons (pe_un un_neg pe_int) (pa_cons pe_int pa_nil))))) (pe_op op_mod (pe_op op_fdiv (pv 6) pe_int) pe_int) (fun _ _ => rfl)) (pg_sub (pv 5) (pe_op op_mod (pv 6) (pv 2)) set_list))) pss_nil)
    (pss_cons (ps_set (i := 7) sc.nd rfl (Or.inl rfl) (pe_lst (pa_cons (pe_callTy call_list_of (by rfl) Z.list PyProof.Rows.boot_list (pa_cons (pv 3) pa_nil)) (pa_cons (pe_callTy call_list_of (by rfl) Z.list PyProof.Rows.boot_list (pa_cons (pv 5) pa_nil)) pa_nil))))
    (pss_cons (ps_set (i := 8) sc.nd rfl (Or.inl rfl) (pe_df D_are_counts hr (by omega) (pa_cons (pe_ix ix_list (pv 7) pe_int (fun _ _ => rfl)) (pa_cons (pe_ix ix_list (pv 7) pe_int (fun _ _ => rfl)) pa_nil))))
    (pss_cons (ps_if (PW.pt (pw_or (pt_not (pt_val (pe_callB call_isi (by rfl) Z.isinstance boot_isinstance (pa_cons (pv 8) (pa_cons (pe_bltn (by rfl) Z.bool boot_bool rfl) pa_nil))))) (pw_or1 (pt_cmpR op_ne (pv 8) (pe_df D__law_good hr (by omega) (pa_cons (pv 3) (pa_cons (pv 5) pa_nil))) (nomark _))))) (pss_one (ps_ret pe_bl)) pss_nil)
    (pss_cons (ps_if (pt_not (pt_val (pv 8))) (pss_one (ps_for PassesOwn.never rfl (pi_range1 rfl Z.range (pa_cons pe_int pa_nil)) (pg_name (i := 9) sc.nd rfl (Or.inl rfl))
    (pss_one (ps_if (pt_not (pt_val (pe_df D__law_refused hr (by omega) (pa_cons (pv 9) (pa_cons (pe_ix ix_list (pv 7) pe_int (fun _ _ => rfl)) (pa_cons (pe_ix ix_list (pv 7) pe_int (fun _ _ => rfl)) pa_nil)))))) (pss_one (ps_ret pe_bl)) pss_nil)))) pss_nil)
    (pss_one (ps_ret (pe_cmpR (op_eqD hr.units) (pv 7) (pe_lst (pa_cons (pv 3) (pa_cons (pv 5) pa_nil))) (nomark _)))))))))))))))
section
variable {P : Program} {w : World} {K : PySem.W.Frag} {mg : Str → Option Value} {base : Heap} {C : Er}
theorem ok_are_counts {f : Addr} {fd : FuncData} (F : Fun K "are_counts" "are_counts" sare_counts f fd) (Z : Zt K mg C)  : FnOk P w K mg base CX0 1 f fd ["rows", "columns"] (sp_are_counts) :=
  F.ok scare_counts (fun vs H Q E h => len_2 h) fun cdv A outer s H vs Q E hr h => ⟨_, dv_are_counts Z  f cdv A outer s H E hr, pure_are_counts h⟩
theorem ok_asked_counts {f : Addr} {fd : FuncData} (F : Fun K "asked_counts" "asked_counts" sasked_counts f fd) (Z : Zt K mg C) (D_are_counts : Df P w K mg base CX0 1 "are_counts" ["rows", "columns"] (sp_are_counts)) : FnOk P w K mg base (L2N.CX P w) 2 f fd ["rows", "columns"] (sp_asked_counts C) :=
  okN F scasked_counts (fun vs H Q E h => len_2x h) fun cdv A outer s H vs Q E hr h => ⟨_, dv_asked_counts C Z D_are_counts f cdv A outer s H E hr, pure_asked_counts h⟩
theorem run_patterns {f : Addr} {fd : FuncData} (F : Fun K "patterns" "patterns" spatterns f fd) (Z : Zt K mg C) (hm : mg "patterns" = some (.ref f)) (hk : PySem.W.keepIn K (.ref f) = true) (b : Binds K fd ["count", "size"] []) : ∀ n : Nat, FnOk P w K mg base CX0 n f fd ["count", "size"] (sp_patterns n)
  | 0 => ⟨fun vs H Q E h => (by obtain ⟨_, _, _, _, _, _, _, _, _, ⟨_, _, _⟩, _⟩ := h; omega), fun A outer s H args us vs Q E _ _ _ _ h => (by obtain ⟨_, _, _, _, _, _, _, _, _, ⟨_, _, _⟩, _⟩ := h; omega)⟩
  | n + 1 => F.ok scpatterns (fun vs H Q E h => len_2 h) fun cdv A outer s H vs Q E hr h => ⟨_, dv_patterns n Z ⟨f, fd, run_patterns F Z hm hk b n, hm, hk, b⟩ f cdv A outer s H E hr, pure_patterns h⟩
theorem rec_patterns {f : Addr} {fd : FuncData} (F : Fun K "patterns" "patterns" spatterns f fd) (Z : Zt K mg C) (hm : mg "patterns" = some (.ref f)) (hk : PySem.W.keepIn K (.ref f) = true) (b : Binds K fd ["count", "size"] []) : Df P w K mg base CX0 9 "patterns" ["count", "size"] (sp_patterns 8) := ⟨f, fd, (run_patterns F Z hm hk b 8).mono (by decide), hm, hk, b⟩
theorem ok_lessened {f : Addr} {fd : FuncData} (F : Fun K "lessened" "lessened" slessened f fd) (Z : Zt K mg C)  : FnOk P w K mg base CX0 1 f fd ["columns", "pattern"] (sp_lessened) :=
  F.ok sclessened (fun vs H Q E h => len_2 h) fun cdv A outer s H vs Q E hr h => ⟨_, dv_lessened Z  f cdv A outer s H E hr, pure_lessened h⟩
theorem run_ways_all {f : Addr} {fd : FuncData} (F : Fun K "ways" "ways" sways f fd) (Z : Zt K mg C) (hm : mg "ways" = some (.ref f)) (hk : PySem.W.keepIn K (.ref f) = true) (b : Binds K fd ["rows", "columns", "known"] []) (D_patterns : Df P w K mg base CX0 9 "patterns" ["count", "size"] (sp_patterns 8)) (D_lessened : Df P w K mg base CX0 1 "lessened" ["columns", "pattern"] (sp_lessened)) : ∀ n : Nat, FnOk P w K mg base CX0 (n + 10) f fd ["rows", "columns", "known"] (sp_ways n)
  | 0 => ⟨fun vs H Q E h => (by obtain ⟨_, _, _, _, _, _, _, _, _, _, rfl, _⟩ := h; rfl), fun A outer s H args us vs Q E _ _ _ _ h => (by obtain ⟨_, _, _, _, _, _, _, _, _, _, _, _, _, hx, _⟩ := h; omega)⟩
  | n + 1 => F.ok scways (fun vs H Q E h => (by obtain ⟨_, _, _, _, _, _, _, _, _, _, rfl, _⟩ := h; rfl)) fun cdv A outer s H vs Q E hr h => ⟨_, dv_ways n Z D_patterns D_lessened ⟨f, fd, run_ways_all F Z hm hk b D_patterns D_lessened n, hm, hk, b⟩ f cdv A outer s H E hr, pure_ways h⟩
theorem rec_ways {f : Addr} {fd : FuncData} (F : Fun K "ways" "ways" sways f fd) (Z : Zt K mg C) (hm : mg "ways" = some (.ref f)) (hk : PySem.W.keepIn K (.ref f) = true) (b : Binds K fd ["rows", "columns", "known"] []) (D_patterns : Df P w K mg base CX0 9 "patterns" ["count", "size"] (sp_patterns 8)) (D_lessened : Df P w K mg base CX0 1 "lessened" ["columns", "pattern"] (sp_lessened)) : Df P w K mg base CX0 20 "ways" ["rows", "columns", "known"] (sp_ways 8) := ⟨f, fd, (run_ways_all F Z hm hk b D_patterns D_lessened 8).mono (by decide), hm, hk, b⟩
theorem ok_many {f : Addr} {fd : FuncData} (F : Fun K "many" "many" smany f fd) (Z : Zt K mg C) (D_asked_counts : Df P w K mg base (L2N.CX P w) 2 "asked_counts" ["rows", "columns"] (sp_asked_counts C)) (D_ways : Df P w K mg base CX0 20 "ways" ["rows", "columns", "known"] (sp_ways 8)) : FnOk P w K mg base (L2N.CX P w) 21 f fd ["rows", "columns"] (sp_many C) :=
  okN F scmany (fun vs H Q E h => len_2x h) fun cdv A outer s H vs Q E hr h => ⟨_, dv_many C Z D_asked_counts D_ways f cdv A outer s H E hr, pure_many h⟩
theorem ok_board_at {f : Addr} {fd : FuncData} (F : Fun K "board_at" "board_at" sboard_at f fd) (Z : Zt K mg C) (D_asked_counts : Df P w K mg base (L2N.CX P w) 2 "asked_counts" ["rows", "columns"] (sp_asked_counts C)) (D_ways : Df P w K mg base CX0 20 "ways" ["rows", "columns", "known"] (sp_ways 8)) (D_patterns : Df P w K mg base CX0 9 "patterns" ["count", "size"] (sp_patterns 8)) (D_lessened : Df P w K mg base CX0 1 "lessened" ["columns", "pattern"] (sp_lessened)) : FnOk P w K mg base (L2N.CX P w) 21 f fd ["rows", "columns", "number"] (sp_board_at C) :=
  okN F scboard_at (fun vs H Q E h => len_3x h) fun cdv A outer s H vs Q E hr h => ⟨_, dv_board_at C Z D_asked_counts D_ways D_patterns D_lessened f cdv A outer s H E hr, pure_board_at h⟩
theorem ok_marked {f : Addr} {fd : FuncData} (F : Fun K "marked" "marked" smarked f fd) (Z : Zt K mg C) (D_patterns : Df P w K mg base CX0 9 "patterns" ["count", "size"] (sp_patterns 8)) (D_lessened : Df P w K mg base CX0 1 "lessened" ["columns", "pattern"] (sp_lessened)) (D_ways : Df P w K mg base CX0 20 "ways" ["rows", "columns", "known"] (sp_ways 8)) : FnOk P w K mg base CX0 21 f fd ["rows", "columns", "at"] (sp_marked) :=
  F.ok scmarked (fun vs H Q E h => len_3 h) fun cdv A outer s H vs Q E hr h => ⟨_, dv_marked Z D_patterns D_lessened D_ways f cdv A outer s H E hr, pure_marked h⟩
theorem ok_kind {f : Addr} {fd : FuncData} (F : Fun K "kind" "kind" skind f fd) (Z : Zt K mg C)  : FnOk P w K mg base CX0 1 f fd ["count", "total"] (sp_kind) :=
  F.ok sckind (fun vs H Q E h => len_2 h) fun cdv A outer s H vs Q E hr h => ⟨_, dv_kind Z  f cdv A outer s H E hr, pure_kind h⟩
theorem ok_kinds {f : Addr} {fd : FuncData} (F : Fun K "kinds" "kinds" skinds f fd) (Z : Zt K mg C) (D_asked_counts : Df P w K mg base (L2N.CX P w) 2 "asked_counts" ["rows", "columns"] (sp_asked_counts C)) (D_ways : Df P w K mg base CX0 20 "ways" ["rows", "columns", "known"] (sp_ways 8)) (D_marked : Df P w K mg base CX0 21 "marked" ["rows", "columns", "at"] (sp_marked)) (D_kind : Df P w K mg base CX0 1 "kind" ["count", "total"] (sp_kind)) : FnOk P w K mg base (L2N.CX P w) 22 f fd ["rows", "columns"] (sp_kinds C) :=
  okN F sckinds (fun vs H Q E h => len_2x h) fun cdv A outer s H vs Q E hr h => ⟨_, dv_kinds C Z D_asked_counts D_ways D_marked D_kind f cdv A outer s H E hr, pure_kinds h⟩
theorem ok_wall_of {f : Addr} {fd : FuncData} (F : Fun K "wall_of" "wall_of" swall_of f fd) (Z : Zt K mg C)  : FnOk P w K mg base CX0 1 f fd ["ones", "twos"] (sp_wall_of) :=
  F.ok scwall_of (fun vs H Q E h => len_2 h) fun cdv A outer s H vs Q E hr h => ⟨_, dv_wall_of Z  f cdv A outer s H E hr, pure_wall_of h⟩
theorem ok_laid {f : Addr} {fd : FuncData} (F : Fun K "laid" "laid" slaid f fd) (Z : Zt K mg C) (D_asked_counts : Df P w K mg base (L2N.CX P w) 2 "asked_counts" ["rows", "columns"] (sp_asked_counts C)) (D_ways : Df P w K mg base CX0 20 "ways" ["rows", "columns", "known"] (sp_ways 8)) (D_board_at : Df P w K mg base (L2N.CX P w) 21 "board_at" ["rows", "columns", "number"] (sp_board_at C)) (D_wall_of : Df P w K mg base CX0 1 "wall_of" ["ones", "twos"] (sp_wall_of)) : FnOk P w K mg base (L2N.CX P w) 22 f fd ["rows", "columns"] (sp_laid C) :=
  okN F sclaid (fun vs H Q E h => len_2x h) fun cdv A outer s H vs Q E hr h => ⟨_, dv_laid C Z D_asked_counts D_ways D_board_at D_wall_of f cdv A outer s H E hr, pure_laid h⟩
theorem ok__law_cell_at {f : Addr} {fd : FuncData} (F : Fun K "_law_cell_at" "_law_cell_at" s_law_cell_at f fd) (Z : Zt K mg C)  : FnOk P w K mg base CX0 1 f fd ["script", "k"] (sp__law_cell_at K) :=
  F.ok sc_law_cell_at (fun vs H Q E h => (by obtain ⟨_, _, _, rfl, _⟩ := h; rfl)) fun cdv A outer s H vs Q E hr h => ⟨_, dv__law_cell_at Z  f cdv A outer s H E hr, pure_cell h⟩
theorem ok__law_other {f : Addr} {fd : FuncData} (F : Fun K "_law_other" "_law_other" s_law_other f fd) (Z : Zt K mg C) {a : Addr} {oe : Obj} {cls : Value} {dd : Option Addr} (hz : L2N.Zn cls dd oe) (hf : ∃ vs, oe.data = .fields vs) : FnE P w K mg base 1 f fd ["e", "wanted"] (sp__law_other K C a cls dd) (a, oe) :=
  okE F sc_law_other (fun vs H Q E h => (by obtain ⟨_, _, _, _, _, _, rfl, _⟩ := h; rfl)) fun cdv A outer s H vs Q hh hr h => ⟨_, dv__law_other C Z f cdv A outer s H hz hf hh hr, pure_other h⟩
theorem ok__law_good {f : Addr} {fd : FuncData} (F : Fun K "_law_good" "_law_good" s_law_good f fd) (Z : Zt K mg C)  : FnOk P w K mg base CX0 1 f fd ["rows", "columns"] (sp__law_good) :=
  F.ok sc_law_good (fun vs H Q E h => len_2 h) fun cdv A outer s H vs Q E hr h => ⟨_, dv__law_good Z  f cdv A outer s H E hr, pure_good h⟩
theorem ok__law_refused {f : Addr} {fd : FuncData} (F : Fun K "_law_refused" "_law_refused" s_law_refused f fd) (Z : Zt K mg C) (D_laid : Df P w K mg base (L2N.CX P w) 22 "laid" ["rows", "columns"] (sp_laid C)) (D_many : Df P w K mg base (L2N.CX P w) 21 "many" ["rows", "columns"] (sp_many C)) (D_board_at : Df P w K mg base (L2N.CX P w) 21 "board_at" ["rows", "columns", "number"] (sp_board_at C)) (D_kinds : Df P w K mg base (L2N.CX P w) 22 "kinds" ["rows", "columns"] (sp_kinds C)) (H__law_other : DfH P w K mg base 1 "_law_other" ["e", "wanted"] (sp__law_other K C)) : FnOk P w K mg base CX0 23 f fd ["which", "rows", "columns"] (sp__law_refused_k02) :=
  F.ok sc_law_refused (fun vs H Q E h => len_3 h) fun cdv A outer s H vs Q E hr h => ⟨_, dv__law_refused C Z D_laid D_many D_board_at D_kinds H__law_other f cdv A outer s H E hr, pure_law_refused_k02 Z.kdNoCounts h⟩
theorem ok_law {f : Addr} {fd : FuncData} (F : Fun K "law" "law" slaw f fd) (Z : Zt K mg C) (D__law_cell_at : Df P w K mg base CX0 1 "_law_cell_at" ["script", "k"] (sp__law_cell_at K)) (D_are_counts : Df P w K mg base CX0 1 "are_counts" ["rows", "columns"] (sp_are_counts)) (D__law_good : Df P w K mg base CX0 1 "_law_good" ["rows", "columns"] (sp__law_good)) (D__law_refused : Df P w K mg base CX0 23 "_law_refused" ["which", "rows", "columns"] (sp__law_refused_k02)) : FnOk P w K mg base CX0 40 f fd ["script"] (sp_law K) :=
  F.ok sclaw (fun vs H Q E h => (by obtain ⟨_, _, rfl, _⟩ := h; rfl)) fun cdv A outer s H vs Q E hr h => ⟨_, dv_law C Z D__law_cell_at D_are_counts D__law_good D__law_refused f cdv A outer s H E hr, pure_law_k02 h⟩
end
theorem all_mk {l : PySem.W.OpenLaw} {w : World} {K : PySem.W.Frag} {h : Heap} {mg : Str → Option Value} {cMarkError cNoBoard cNoCounts cNoNumber cNoneSuch cNoExchange cNotAlike fare_counts fasked_counts fpatterns flessened fways fmany fboard_at fmarked fkind fkinds fwall_of flaid f_law_cell_at f_law_other f_law_good f_law_refused flaw fa : Addr} (X : K.In h) (G : h.Ns mainGlobals mg) (hfa : mg "law" = some (.ref fa))
    {odare_counts anare_counts odasked_counts anasked_counts odpatterns anpatterns odlessened anlessened odways anways odmany anmany odboard_at anboard_at odmarked anmarked odkind ankind odkinds ankinds odwall_of anwall_of odlaid anlaid od_law_cell_at an_law_cell_at od_law_other an_law_other od_law_good an_law_good od_law_refused an_law_refused odlaw anlaw : Option Addr} {slare_counts slasked_counts slpatterns sllessened slways slmany slboard_at slmarked slkind slkinds slwall_of sllaid sl_law_cell_at sl_law_other sl_law_good sl_law_refused sllaw : Array (Option Value)} {ocare_counts kVare_counts dcare_counts pmare_counts cdare_counts ctare_counts ocasked_counts kVasked_counts dcasked_counts pmasked_counts cdasked_counts ctasked_counts ocpatterns kVpatterns dcpatterns pmpatterns cdpatterns ctpatterns oclessened kVlessened dclessened pmlessened cdlessened ctlessened ocways kVways dcways pmways cdways ctways ocmany kVmany dcmany pmmany cdmany ctmany ocboard_at kVboard_at dcboard_at pmboard_at cdboard_at ctboard_at ocmarked kVmarked dcmarked pmmarked cdmarked ctmarked ockind kVkind dckind pmkind cdkind ctkind ockinds kVkinds dckinds pmkinds cdkinds ctkinds ocwall_of kVwall_of dcwall_of pmwall_of cdwall_of ctwall_of oclaid kVlaid dclaid pmlaid cdlaid ctlaid oc_law_cell_at kV_law_cell_at dc_law_cell_at pm_law_cell_at cd_law_cell_at ct_law_cell_at oc_law_other kV_law_other dc_law_other pm_law_other cd_law_other ct_law_other oc_law_good kV_law_good dc_law_good pm_law_good cd_law_good ct_law_good oc_law_refused kV_law_refused dc_law_refused pm_law_refused cd_law_refused ct_law_refused oclaw kVlaw dclaw pmlaw cdlaw ctlaw : Value} {tMOST : Tok}
    (eMarkError : PySem.W.nsIn K mainGlobals "MarkError" = some (some (.ref cMarkError)))
    (eNoBoard : PySem.W.nsIn K mainGlobals "NoBoard" = some (some (.ref cNoBoard)))
    (eNoCounts : PySem.W.nsIn K mainGlobals "NoCounts" = some (some (.ref cNoCounts)))
    (eNoNumber : PySem.W.nsIn K mainGlobals "NoNumber" = some (some (.ref cNoNumber)))
    (eNoneSuch : PySem.W.nsIn K mainGlobals "NoneSuch" = some (some (.ref cNoneSuch)))
    (eNoExchange : PySem.W.nsIn K mainGlobals "NoExchange" = some (some (.ref cNoExchange)))
    (eNotAlike : PySem.W.nsIn K mainGlobals "NotAlike" = some (some (.ref cNotAlike)))
    (xNoCounts : PySem.W.excIn K cNoCounts [.type "ValueError", .type "Exception", .type "BaseException", .type "object"] "ValueError.__new__" = true)
    (kNoCounts : PySem.W.keepIn K (.ref cNoCounts) = true)
    (bNoCounts : PySem.W.subIn K (.ref cNoCounts) (.type "BaseException") = some true)
    (tNoCounts : PySem.W.typeIn K (.ref cNoCounts) = some (.type "type"))
    (xNoNumber : PySem.W.excIn K cNoNumber [.type "ValueError", .type "Exception", .type "BaseException", .type "object"] "ValueError.__new__" = true)
    (kNoNumber : PySem.W.keepIn K (.ref cNoNumber) = true)
    (bNoNumber : PySem.W.subIn K (.ref cNoNumber) (.type "BaseException") = some true)
    (tNoNumber : PySem.W.typeIn K (.ref cNoNumber) = some (.type "type"))
    (xNoneSuch : PySem.W.excIn K cNoneSuch [.type "ValueError", .type "Exception", .type "BaseException", .type "object"] "ValueError.__new__" = true)
    (kNoneSuch : PySem.W.keepIn K (.ref cNoneSuch) = true)
    (bNoneSuch : PySem.W.subIn K (.ref cNoneSuch) (.type "BaseException") = some true)
    (tNoneSuch : PySem.W.typeIn K (.ref cNoneSuch) = some (.type "type"))
    (bMk : PySem.W.subIn K (.ref cMarkError) (.type "BaseException") = some true)
    (hMk : PySem.W.hasDictIn K cMarkError = true)
    (tMk : PySem.W.typeIn K (.ref cMarkError) = some (.type "type"))
    (hgNoCounts : PySem.W.findIn K (.ref cNoCounts) "__getattribute__" = some (some (.builtin "BaseException.__getattribute__")))
    (hkNoCounts : PySem.W.findIn K (.ref cNoCounts) "__getattr__" = some none)
    (hsNoCounts : PySem.W.subIn K (.ref cNoCounts) (.type "BaseException") = some true)
    (hdNoCounts : PySem.W.hasDictIn K cNoCounts = true)
    (haNoCounts : PySem.W.findIn K (.ref cNoCounts) "__class__" = some (some (.builtin "object.__class__")))
    (hnNoCounts : PySem.W.specialIn K (.builtin "object.__class__") "__get__" = some (some (.builtin "getset_descriptor.__get__")))
    (htNoCounts : PySem.W.takesIn K (.builtin "object.__class__") = some true)
    (hmNoCounts : PySem.W.mroIn K cNoCounts (.type "object") = some true)
    (q0NoCounts : PySem.W.kitOne K (.ref cNoCounts) (.ref cNoBoard) = some false)
    (q1NoCounts : PySem.W.kitOne K (.ref cNoCounts) (.ref cNoCounts) = some true)
    (q2NoCounts : PySem.W.kitOne K (.ref cNoCounts) (.ref cNoNumber) = some false)
    (q3NoCounts : PySem.W.kitOne K (.ref cNoCounts) (.ref cNoneSuch) = some false)
    (q4NoCounts : PySem.W.kitOne K (.ref cNoCounts) (.ref cNoExchange) = some false)
    (q5NoCounts : PySem.W.kitOne K (.ref cNoCounts) (.ref cNotAlike) = some false)
    (qvNoCounts : PySem.W.kitOne K (.ref cNoCounts) (.type "ValueError") = some true)
    (qxNoCounts : PySem.W.subIn K (.ref cNoCounts) (.ref cMarkError) = some true)
    (zValueError : PySem.W.nsIn K mainGlobals "ValueError" = some none)
    (zbool : PySem.W.nsIn K mainGlobals "bool" = some none)
    (gMOST : PySem.W.nsIn K mainGlobals "MOST" = some (some (.int 6 tMOST)))
    (zint : PySem.W.nsIn K mainGlobals "int" = some none)
    (zisinstance : PySem.W.nsIn K mainGlobals "isinstance" = some none)
    (zlen : PySem.W.nsIn K mainGlobals "len" = some none)
    (zlist : PySem.W.nsIn K mainGlobals "list" = some none)
    (zmin : PySem.W.nsIn K mainGlobals "min" = some none)
    (zrange : PySem.W.nsIn K mainGlobals "range" = some none)
    (zsorted : PySem.W.nsIn K mainGlobals "sorted" = some none)
    (zsum : PySem.W.nsIn K mainGlobals "sum" = some none)
    (ztuple : PySem.W.nsIn K mainGlobals "tuple" = some none)
    (zzip : PySem.W.nsIn K mainGlobals "zip" = some none)
    (aare_counts : PySem.W.nsIn K mainGlobals "are_counts" = some (some (.ref fare_counts))) (lare_counts : K.lookup fare_counts = some ⟨ocare_counts, odare_counts, .func (PySem.W.fnOf "are_counts" "are_counts" (defArgs sare_counts) (defBody sare_counts) (defScope sare_counts) .none kVare_counts dcare_counts pmare_counts anare_counts cdare_counts ctare_counts), slare_counts⟩) (dare_counts : PySem.W.codeIn K cdare_counts "are_counts" = true) (kare_counts : PySem.W.keepIn K (.ref fare_counts) = true)
    (aasked_counts : PySem.W.nsIn K mainGlobals "asked_counts" = some (some (.ref fasked_counts))) (lasked_counts : K.lookup fasked_counts = some ⟨ocasked_counts, odasked_counts, .func (PySem.W.fnOf "asked_counts" "asked_counts" (defArgs sasked_counts) (defBody sasked_counts) (defScope sasked_counts) .none kVasked_counts dcasked_counts pmasked_counts anasked_counts cdasked_counts ctasked_counts), slasked_counts⟩) (dasked_counts : PySem.W.codeIn K cdasked_counts "asked_counts" = true) (kasked_counts : PySem.W.keepIn K (.ref fasked_counts) = true)
    (apatterns : PySem.W.nsIn K mainGlobals "patterns" = some (some (.ref fpatterns))) (lpatterns : K.lookup fpatterns = some ⟨ocpatterns, odpatterns, .func (PySem.W.fnOf "patterns" "patterns" (defArgs spatterns) (defBody spatterns) (defScope spatterns) .none kVpatterns dcpatterns pmpatterns anpatterns cdpatterns ctpatterns), slpatterns⟩) (dpatterns : PySem.W.codeIn K cdpatterns "patterns" = true) (kpatterns : PySem.W.keepIn K (.ref fpatterns) = true)
    (alessened : PySem.W.nsIn K mainGlobals "lessened" = some (some (.ref flessened))) (llessened : K.lookup flessened = some ⟨oclessened, odlessened, .func (PySem.W.fnOf "lessened" "lessened" (defArgs slessened) (defBody slessened) (defScope slessened) .none kVlessened dclessened pmlessened anlessened cdlessened ctlessened), sllessened⟩) (dlessened : PySem.W.codeIn K cdlessened "lessened" = true) (klessened : PySem.W.keepIn K (.ref flessened) = true)
    (aways : PySem.W.nsIn K mainGlobals "ways" = some (some (.ref fways))) (lways : K.lookup fways = some ⟨ocways, odways, .func (PySem.W.fnOf "ways" "ways" (defArgs sways) (defBody sways) (defScope sways) .none kVways dcways pmways anways cdways ctways), slways⟩) (dways : PySem.W.codeIn K cdways "ways" = true) (kways : PySem.W.keepIn K (.ref fways) = true)
    (amany : PySem.W.nsIn K mainGlobals "many" = some (some (.ref fmany))) (lmany : K.lookup fmany = some ⟨ocmany, odmany, .func (PySem.W.fnOf "many" "many" (defArgs smany) (defBody smany) (defScope smany) .none kVmany dcmany pmmany anmany cdmany ctmany), slmany⟩) (dmany : PySem.W.codeIn K cdmany "many" = true) (kmany : PySem.W.keepIn K (.ref fmany) = true)
    (aboard_at : PySem.W.nsIn K mainGlobals "board_at" = some (some (.ref fboard_at))) (lboard_at : K.lookup fboard_at = some ⟨ocboard_at, odboard_at, .func (PySem.W.fnOf "board_at" "board_at" (defArgs sboard_at) (defBody sboard_at) (defScope sboard_at) .none kVboard_at dcboard_at pmboard_at anboard_at cdboard_at ctboard_at), slboard_at⟩) (dboard_at : PySem.W.codeIn K cdboard_at "board_at" = true) (kboard_at : PySem.W.keepIn K (.ref fboard_at) = true)
    (amarked : PySem.W.nsIn K mainGlobals "marked" = some (some (.ref fmarked))) (lmarked : K.lookup fmarked = some ⟨ocmarked, odmarked, .func (PySem.W.fnOf "marked" "marked" (defArgs smarked) (defBody smarked) (defScope smarked) .none kVmarked dcmarked pmmarked anmarked cdmarked ctmarked), slmarked⟩) (dmarked : PySem.W.codeIn K cdmarked "marked" = true) (kmarked : PySem.W.keepIn K (.ref fmarked) = true)
    (akind : PySem.W.nsIn K mainGlobals "kind" = some (some (.ref fkind))) (lkind : K.lookup fkind = some ⟨ockind, odkind, .func (PySem.W.fnOf "kind" "kind" (defArgs skind) (defBody skind) (defScope skind) .none kVkind dckind pmkind ankind cdkind ctkind), slkind⟩) (dkind : PySem.W.codeIn K cdkind "kind" = true) (kkind : PySem.W.keepIn K (.ref fkind) = true)
    (akinds : PySem.W.nsIn K mainGlobals "kinds" = some (some (.ref fkinds))) (lkinds : K.lookup fkinds = some ⟨ockinds, odkinds, .func (PySem.W.fnOf "kinds" "kinds" (defArgs skinds) (defBody skinds) (defScope skinds) .none kVkinds dckinds pmkinds ankinds cdkinds ctkinds), slkinds⟩) (dkinds : PySem.W.codeIn K cdkinds "kinds" = true) (kkinds : PySem.W.keepIn K (.ref fkinds) = true)
    (awall_of : PySem.W.nsIn K mainGlobals "wall_of" = some (some (.ref fwall_of))) (lwall_of : K.lookup fwall_of = some ⟨ocwall_of, odwall_of, .func (PySem.W.fnOf "wall_of" "wall_of" (defArgs swall_of) (defBody swall_of) (defScope swall_of) .none kVwall_of dcwall_of pmwall_of anwall_of cdwall_of ctwall_of), slwall_of⟩) (dwall_of : PySem.W.codeIn K cdwall_of "wall_of" = true) (kwall_of : PySem.W.keepIn K (.ref fwall_of) = true)
    (alaid : PySem.W.nsIn K mainGlobals "laid" = some (some (.ref flaid))) (llaid : K.lookup flaid = some ⟨oclaid, odlaid, .func (PySem.W.fnOf "laid" "laid" (defArgs slaid) (defBody slaid) (defScope slaid) .none kVlaid dclaid pmlaid anlaid cdlaid ctlaid), sllaid⟩) (dlaid : PySem.W.codeIn K cdlaid "laid" = true) (klaid : PySem.W.keepIn K (.ref flaid) = true)
    (a_law_cell_at : PySem.W.nsIn K mainGlobals "_law_cell_at" = some (some (.ref f_law_cell_at))) (l_law_cell_at : K.lookup f_law_cell_at = some ⟨oc_law_cell_at, od_law_cell_at, .func (PySem.W.fnOf "_law_cell_at" "_law_cell_at" (defArgs s_law_cell_at) (defBody s_law_cell_at) (defScope s_law_cell_at) .none kV_law_cell_at dc_law_cell_at pm_law_cell_at an_law_cell_at cd_law_cell_at ct_law_cell_at), sl_law_cell_at⟩) (d_law_cell_at : PySem.W.codeIn K cd_law_cell_at "_law_cell_at" = true) (k_law_cell_at : PySem.W.keepIn K (.ref f_law_cell_at) = true)
    (a_law_other : PySem.W.nsIn K mainGlobals "_law_other" = some (some (.ref f_law_other))) (l_law_other : K.lookup f_law_other = some ⟨oc_law_other, od_law_other, .func (PySem.W.fnOf "_law_other" "_law_other" (defArgs s_law_other) (defBody s_law_other) (defScope s_law_other) .none kV_law_other dc_law_other pm_law_other an_law_other cd_law_other ct_law_other), sl_law_other⟩) (d_law_other : PySem.W.codeIn K cd_law_other "_law_other" = true) (k_law_other : PySem.W.keepIn K (.ref f_law_other) = true)
    (a_law_good : PySem.W.nsIn K mainGlobals "_law_good" = some (some (.ref f_law_good))) (l_law_good : K.lookup f_law_good = some ⟨oc_law_good, od_law_good, .func (PySem.W.fnOf "_law_good" "_law_good" (defArgs s_law_good) (defBody s_law_good) (defScope s_law_good) .none kV_law_good dc_law_good pm_law_good an_law_good cd_law_good ct_law_good), sl_law_good⟩) (d_law_good : PySem.W.codeIn K cd_law_good "_law_good" = true) (k_law_good : PySem.W.keepIn K (.ref f_law_good) = true)
    (a_law_refused : PySem.W.nsIn K mainGlobals "_law_refused" = some (some (.ref f_law_refused))) (l_law_refused : K.lookup f_law_refused = some ⟨oc_law_refused, od_law_refused, .func (PySem.W.fnOf "_law_refused" "_law_refused" (defArgs s_law_refused) (defBody s_law_refused) (defScope s_law_refused) .none kV_law_refused dc_law_refused pm_law_refused an_law_refused cd_law_refused ct_law_refused), sl_law_refused⟩) (d_law_refused : PySem.W.codeIn K cd_law_refused "_law_refused" = true) (k_law_refused : PySem.W.keepIn K (.ref f_law_refused) = true)
    (alaw : PySem.W.nsIn K mainGlobals "law" = some (some (.ref flaw))) (llaw : K.lookup flaw = some ⟨oclaw, odlaw, .func (PySem.W.fnOf "law" "law" (defArgs slaw) (defBody slaw) (defScope slaw) .none kVlaw dclaw pmlaw anlaw cdlaw ctlaw), sllaw⟩) (dlaw : PySem.W.codeIn K cdlaw "law" = true) (klaw : PySem.W.keepIn K (.ref flaw) = true)
    : ∃ fd : FuncData, (∀ (s : Shared) (v : Value), BindsTo s fd ⟨[v], []⟩ [("script", v)]) ∧ ∀ base : Heap, K.In base → base.Ns mainGlobals mg → FnOk l.prog w K mg base CX0 40 fa fd ["script"] (sp_law K) := by
  have e := hfa.symm.trans (PySem.W.mg_of X G alaw)
  cases e
  have Z : Zt K mg { MarkError := cMarkError, NoBoard := cNoBoard, NoCounts := cNoCounts, NoNumber := cNoNumber, NoneSuch := cNoneSuch, NoExchange := cNoExchange, NotAlike := cNotAlike : Er } := { eMarkError := PySem.W.mg_of X G eMarkError, eNoBoard := PySem.W.mg_of X G eNoBoard, eNoCounts := PySem.W.mg_of X G eNoCounts, eNoNumber := PySem.W.mg_of X G eNoNumber, eNoneSuch := PySem.W.mg_of X G eNoneSuch, eNoExchange := PySem.W.mg_of X G eNoExchange, eNotAlike := PySem.W.mg_of X G eNotAlike, xNoCounts := xNoCounts, kNoCounts := kNoCounts, bNoCounts := bNoCounts, tNoCounts := tNoCounts, xNoNumber := xNoNumber, kNoNumber := kNoNumber, bNoNumber := bNoNumber, tNoNumber := tNoNumber, xNoneSuch := xNoneSuch, kNoneSuch := kNoneSuch, bNoneSuch := bNoneSuch, tNoneSuch := tNoneSuch, kdNoCounts := ⟨⟨hgNoCounts, hkNoCounts, hsNoCounts, hdNoCounts, haNoCounts, hnNoCounts, htNoCounts, hmNoCounts⟩, q0NoCounts, q1NoCounts, q2NoCounts, q3NoCounts, q4NoCounts, q5NoCounts, qvNoCounts, PySem.W.exm_ref bMk hMk tMk qxNoCounts⟩, ValueError := PySem.W.mg_none_of X G zValueError, bool := PySem.W.mg_none_of X G zbool, gMOST := ⟨_, PySem.W.mg_of X G gMOST⟩, int := PySem.W.mg_none_of X G zint, isinstance := PySem.W.mg_none_of X G zisinstance, len := PySem.W.mg_none_of X G zlen, list := PySem.W.mg_none_of X G zlist, min := PySem.W.mg_none_of X G zmin, range := PySem.W.mg_none_of X G zrange, sorted := PySem.W.mg_none_of X G zsorted, sum := PySem.W.mg_none_of X G zsum, tuple := PySem.W.mg_none_of X G ztuple, zip := PySem.W.mg_none_of X G zzip }
  have Fare_counts := fun_mk (st := sare_counts) lare_counts dare_counts kare_counts
  have bare_counts := Fare_counts.binds (ps := ["rows", "columns"]) fun _ _ _ _ _ _ us hl => match us, hl with | [_, _], _ => rfl
  have Fasked_counts := fun_mk (st := sasked_counts) lasked_counts dasked_counts kasked_counts
  have basked_counts := Fasked_counts.binds (ps := ["rows", "columns"]) fun _ _ _ _ _ _ us hl => match us, hl with | [_, _], _ => rfl
  have Fpatterns := fun_mk (st := spatterns) lpatterns dpatterns kpatterns
  have bpatterns := Fpatterns.binds (ps := ["count", "size"]) fun _ _ _ _ _ _ us hl => match us, hl with | [_, _], _ => rfl
  have Flessened := fun_mk (st := slessened) llessened dlessened klessened
  have blessened := Flessened.binds (ps := ["columns", "pattern"]) fun _ _ _ _ _ _ us hl => match us, hl with | [_, _], _ => rfl
  have Fways := fun_mk (st := sways) lways dways kways
  have bways := Fways.binds (ps := ["rows", "columns", "known"]) fun _ _ _ _ _ _ us hl => match us, hl with | [_, _, _], _ => rfl
  have Fmany := fun_mk (st := smany) lmany dmany kmany
  have bmany := Fmany.binds (ps := ["rows", "columns"]) fun _ _ _ _ _ _ us hl => match us, hl with | [_, _], _ => rfl
  have Fboard_at := fun_mk (st := sboard_at) lboard_at dboard_at kboard_at
  have bboard_at := Fboard_at.binds (ps := ["rows", "columns", "number"]) fun _ _ _ _ _ _ us hl => match us, hl with | [_, _, _], _ => rfl
  have Fmarked := fun_mk (st := smarked) lmarked dmarked kmarked
  have bmarked := Fmarked.binds (ps := ["rows", "columns", "at"]) fun _ _ _ _ _ _ us hl => match us, hl with | [_, _, _], _ => rfl
  have Fkind := fun_mk (st := skind) lkind dkind kkind
  have bkind := Fkind.binds (ps := ["count", "total"]) fun _ _ _ _ _ _ us hl => match us, hl with | [_, _], _ => rfl
  have Fkinds := fun_mk (st := skinds) lkinds dkinds kkinds
  have bkinds := Fkinds.binds (ps := ["rows", "columns"]) fun _ _ _ _ _ _ us hl => match us, hl with | [_, _], _ => rfl
  have Fwall_of := fun_mk (st := swall_of) lwall_of dwall_of kwall_of
  have bwall_of := Fwall_of.binds (ps := ["ones", "twos"]) fun _ _ _ _ _ _ us hl => match us, hl with | [_, _], _ => rfl
  have Flaid := fun_mk (st := slaid) llaid dlaid klaid
  have blaid := Flaid.binds (ps := ["rows", "columns"]) fun _ _ _ _ _ _ us hl => match us, hl with | [_, _], _ => rfl
  have F_law_cell_at := fun_mk (st := s_law_cell_at) l_law_cell_at d_law_cell_at k_law_cell_at
  have b_law_cell_at := F_law_cell_at.binds (ps := ["script", "k"]) fun _ _ _ _ _ _ us hl => match us, hl with | [_, _], _ => rfl
  have F_law_other := fun_mk (st := s_law_other) l_law_other d_law_other k_law_other
  have b_law_other := F_law_other.binds (ps := ["e", "wanted"]) fun _ _ _ _ _ _ us hl => match us, hl with | [_, _], _ => rfl
  have F_law_good := fun_mk (st := s_law_good) l_law_good d_law_good k_law_good
  have b_law_good := F_law_good.binds (ps := ["rows", "columns"]) fun _ _ _ _ _ _ us hl => match us, hl with | [_, _], _ => rfl
  have F_law_refused := fun_mk (st := s_law_refused) l_law_refused d_law_refused k_law_refused
  have b_law_refused := F_law_refused.binds (ps := ["which", "rows", "columns"]) fun _ _ _ _ _ _ us hl => match us, hl with | [_, _, _], _ => rfl
  have Flaw := fun_mk (st := slaw) llaw dlaw klaw
  have blaw := Flaw.binds (ps := ["script"]) fun _ _ _ _ _ _ us hl => match us, hl with | [_], _ => rfl
  refine ⟨PySem.W.fnOf "law" "law" (defArgs slaw) (defBody slaw) (defScope slaw) .none kVlaw dclaw pmlaw anlaw cdlaw ctlaw, fun s v => .of_eq rfl, fun base _ _ => ?_⟩
  have D_are_counts : Df l.prog w K mg base CX0 1 "are_counts" ["rows", "columns"] (sp_are_counts) := ⟨fare_counts, _, ok_are_counts Fare_counts Z , PySem.W.mg_of X G aare_counts, kare_counts, bare_counts⟩
  have D_asked_counts : Df l.prog w K mg base (L2N.CX l.prog w) 2 "asked_counts" ["rows", "columns"] (sp_asked_counts { MarkError := cMarkError, NoBoard := cNoBoard, NoCounts := cNoCounts, NoNumber := cNoNumber, NoneSuch := cNoneSuch, NoExchange := cNoExchange, NotAlike := cNotAlike : Er }) := ⟨fasked_counts, _, ok_asked_counts Fasked_counts Z D_are_counts, PySem.W.mg_of X G aasked_counts, kasked_counts, basked_counts⟩
  have D_patterns : Df l.prog w K mg base CX0 9 "patterns" ["count", "size"] (sp_patterns 8) := rec_patterns Fpatterns Z (PySem.W.mg_of X G apatterns) kpatterns bpatterns 
  have D_lessened : Df l.prog w K mg base CX0 1 "lessened" ["columns", "pattern"] (sp_lessened) := ⟨flessened, _, ok_lessened Flessened Z , PySem.W.mg_of X G alessened, klessened, blessened⟩
  have D_ways : Df l.prog w K mg base CX0 20 "ways" ["rows", "columns", "known"] (sp_ways 8) := rec_ways Fways Z (PySem.W.mg_of X G aways) kways bways D_patterns D_lessened
  have D_many : Df l.prog w K mg base (L2N.CX l.prog w) 21 "many" ["rows", "columns"] (sp_many { MarkError := cMarkError, NoBoard := cNoBoard, NoCounts := cNoCounts, NoNumber := cNoNumber, NoneSuch := cNoneSuch, NoExchange := cNoExchange, NotAlike := cNotAlike : Er }) := ⟨fmany, _, ok_many Fmany Z D_asked_counts D_ways, PySem.W.mg_of X G amany, kmany, bmany⟩
  have D_board_at : Df l.prog w K mg base (L2N.CX l.prog w) 21 "board_at" ["rows", "columns", "number"] (sp_board_at { MarkError := cMarkError, NoBoard := cNoBoard, NoCounts := cNoCounts, NoNumber := cNoNumber, NoneSuch := cNoneSuch, NoExchange := cNoExchange, NotAlike := cNotAlike : Er }) := ⟨fboard_at, _, ok_board_at Fboard_at Z D_asked_counts D_ways D_patterns D_lessened, PySem.W.mg_of X G aboard_at, kboard_at, bboard_at⟩
  have D_marked : Df l.prog w K mg base CX0 21 "marked" ["rows", "columns", "at"] (sp_marked) := ⟨fmarked, _, ok_marked Fmarked Z D_patterns D_lessened D_ways, PySem.W.mg_of X G amarked, kmarked, bmarked⟩
  have D_kind : Df l.prog w K mg base CX0 1 "kind" ["count", "total"] (sp_kind) := ⟨fkind, _, ok_kind Fkind Z , PySem.W.mg_of X G akind, kkind, bkind⟩
  have D_kinds : Df l.prog w K mg base (L2N.CX l.prog w) 22 "kinds" ["rows", "columns"] (sp_kinds { MarkError := cMarkError, NoBoard := cNoBoard, NoCounts := cNoCounts, NoNumber := cNoNumber, NoneSuch := cNoneSuch, NoExchange := cNoExchange, NotAlike := cNotAlike : Er }) := ⟨fkinds, _, ok_kinds Fkinds Z D_asked_counts D_ways D_marked D_kind, PySem.W.mg_of X G akinds, kkinds, bkinds⟩
  have D_wall_of : Df l.prog w K mg base CX0 1 "wall_of" ["ones", "twos"] (sp_wall_of) := ⟨fwall_of, _, ok_wall_of Fwall_of Z , PySem.W.mg_of X G awall_of, kwall_of, bwall_of⟩
  have D_laid : Df l.prog w K mg base (L2N.CX l.prog w) 22 "laid" ["rows", "columns"] (sp_laid { MarkError := cMarkError, NoBoard := cNoBoard, NoCounts := cNoCounts, NoNumber := cNoNumber, NoneSuch := cNoneSuch, NoExchange := cNoExchange, NotAlike := cNotAlike : Er }) := ⟨flaid, _, ok_laid Flaid Z D_asked_counts D_ways D_board_at D_wall_of, PySem.W.mg_of X G alaid, klaid, blaid⟩
  have D__law_cell_at : Df l.prog w K mg base CX0 1 "_law_cell_at" ["script", "k"] (sp__law_cell_at K) := ⟨f_law_cell_at, _, ok__law_cell_at F_law_cell_at Z , PySem.W.mg_of X G a_law_cell_at, k_law_cell_at, b_law_cell_at⟩
  have H__law_other : DfH l.prog w K mg base 1 "_law_other" ["e", "wanted"] (sp__law_other K { MarkError := cMarkError, NoBoard := cNoBoard, NoCounts := cNoCounts, NoNumber := cNoNumber, NoneSuch := cNoneSuch, NoExchange := cNoExchange, NotAlike := cNotAlike : Er }) := ⟨f_law_other, _, fun a oe cls dd hz hf => ok__law_other F_law_other Z hz hf, PySem.W.mg_of X G a_law_other, k_law_other, b_law_other⟩
  have D__law_good : Df l.prog w K mg base CX0 1 "_law_good" ["rows", "columns"] (sp__law_good) := ⟨f_law_good, _, ok__law_good F_law_good Z , PySem.W.mg_of X G a_law_good, k_law_good, b_law_good⟩
  have D__law_refused : Df l.prog w K mg base CX0 23 "_law_refused" ["which", "rows", "columns"] (sp__law_refused_k02) := ⟨f_law_refused, _, ok__law_refused F_law_refused Z D_laid D_many D_board_at D_kinds H__law_other, PySem.W.mg_of X G a_law_refused, k_law_refused, b_law_refused⟩
  exact ok_law Flaw Z D__law_cell_at D_are_counts D__law_good D__law_refused
end MK
open PySem PySem.W PyProof.Rows
set_option maxRecDepth 100000 in
set_option maxHeartbeats 0 in
theorem PySem.Challenge.cw_markcounts_k02_counts_known_holds : PySem.Challenge.rw_markcounts_k02_counts_known.Holds := by
  w_on; o_law; k_head; (case hw => w_witness2)
  k_fill
  refine L2.walk_of (l := PySem.Challenge.rw_markcounts_k02_counts_known) (n := 63) (k := 40) (x := "script") (CX := fun _ => L2.CX0) (sp := fun w => MK.sp_law _) rfl (by decide) rfl ⟨rfl, by decide, by decide⟩ (fun w h Y => PySem.W.kIn_of Y) ?F (fun _ _ a ns hl _ hS => ⟨a, ns, rfl, hS, hl, fun _ => rfl⟩) (fun _ _ _ _ _ z => z)
  case F =>
    intro w mg fa h KX G hmg
    refine' MK.all_mk KX G hmg ?eMarkError ?eNoBoard ?eNoCounts ?eNoNumber ?eNoneSuch ?eNoExchange ?eNotAlike ?xNoCounts ?kNoCounts ?bNoCounts ?tNoCounts ?xNoNumber ?kNoNumber ?bNoNumber ?tNoNumber ?xNoneSuch ?kNoneSuch ?bNoneSuch ?tNoneSuch ?bMk ?hMk ?tMk ?hgNoCounts ?hkNoCounts ?hsNoCounts ?hdNoCounts ?haNoCounts ?hnNoCounts ?htNoCounts ?hmNoCounts ?q0NoCounts ?q1NoCounts ?q2NoCounts ?q3NoCounts ?q4NoCounts ?q5NoCounts ?qvNoCounts ?qxNoCounts ?zValueError ?zbool ?gMOST ?zint ?zisinstance ?zlen ?zlist ?zmin ?zrange ?zsorted ?zsum ?ztuple ?zzip ?aare_counts ?lare_counts ?dare_counts ?kare_counts ?aasked_counts ?lasked_counts ?dasked_counts ?kasked_counts ?apatterns ?lpatterns ?dpatterns ?kpatterns ?alessened ?llessened ?dlessened ?klessened ?aways ?lways ?dways ?kways ?amany ?lmany ?dmany ?kmany ?aboard_at ?lboard_at ?dboard_at ?kboard_at ?amarked ?lmarked ?dmarked ?kmarked ?akind ?lkind ?dkind ?kkind ?akinds ?lkinds ?dkinds ?kkinds ?awall_of ?lwall_of ?dwall_of ?kwall_of ?alaid ?llaid ?dlaid ?klaid ?a_law_cell_at ?l_law_cell_at ?d_law_cell_at ?k_law_cell_at ?a_law_other ?l_law_other ?d_law_other ?k_law_other ?a_law_good ?l_law_good ?d_law_good ?k_law_good ?a_law_refused ?l_law_refused ?d_law_refused ?k_law_refused ?alaw ?llaw ?dlaw ?klaw
    (case eMarkError => k_is)
    (case eNoBoard => k_is)
    (case eNoCounts => k_is)
    (case eNoNumber => k_is)
    (case eNoneSuch => k_is)
    (case eNoExchange => k_is)
    (case eNotAlike => k_is)
    (case xNoCounts => k_exc)
    (case kNoCounts => k_is)
    (case bNoCounts => k_is)
    (case tNoCounts => k_is)
    (case xNoNumber => k_exc)
    (case kNoNumber => k_is)
    (case bNoNumber => k_is)
    (case tNoNumber => k_is)
    (case xNoneSuch => k_exc)
    (case kNoneSuch => k_is)
    (case bNoneSuch => k_is)
    (case tNoneSuch => k_is)
    (case bMk => k_is)
    (case hMk => k_is)
    (case tMk => k_is)
    (case hgNoCounts => k_is)
    (case hkNoCounts => k_is)
    (case hsNoCounts => k_is)
    (case hdNoCounts => k_is)
    (case haNoCounts => k_is)
    (case hnNoCounts => k_is)
    (case htNoCounts => k_is)
    (case hmNoCounts => k_is)
    (case q0NoCounts => kit_is)
    (case q1NoCounts => kit_is)
    (case q2NoCounts => kit_is)
    (case q3NoCounts => kit_is)
    (case q4NoCounts => kit_is)
    (case q5NoCounts => kit_is)
    (case qvNoCounts => kit_is)
    (case qxNoCounts => k_is)
    (case zValueError => k_is)
    (case zbool => k_is)
    (case gMOST => k_is)
    (case zint => k_is)
    (case zisinstance => k_is)
    (case zlen => k_is)
    (case zlist => k_is)
    (case zmin => k_is)
    (case zrange => k_is)
    (case zsorted => k_is)
    (case zsum => k_is)
    (case ztuple => k_is)
    (case zzip => k_is)
    (case aare_counts => k_is)
    (case lare_counts => k_is)
    (case dare_counts => k_is)
    (case kare_counts => k_is)
    (case aasked_counts => k_is)
    (case lasked_counts => k_is)
    (case dasked_counts => k_is)
    (case kasked_counts => k_is)
    (case apatterns => k_is)
    (case lpatterns => k_is)
    (case dpatterns => k_is)
    (case kpatterns => k_is)
    (case alessened => k_is)
    (case llessened => k_is)
    (case dlessened => k_is)
    (case klessened => k_is)
    (case aways => k_is)
    (case lways => k_is)
    (case dways => k_is)
    (case kways => k_is)
    (case amany => k_is)
    (case lmany => k_is)
    (case dmany => k_is)
    (case kmany => k_is)
    (case aboard_at => k_is)
    (case lboard_at => k_is)
    (case dboard_at => k_is)
    (case kboard_at => k_is)
    (case amarked => k_is)
    (case lmarked => k_is)
    (case dmarked => k_is)
    (case kmarked => k_is)
    (case akind => k_is)
    (case lkind => k_is)
    (case dkind => k_is)
    (case kkind => k_is)
    (case akinds => k_is)
    (case lkinds => k_is)
    (case dkinds => k_is)
    (case kkinds => k_is)
    (case awall_of => k_is)
    (case lwall_of => k_is)
    (case dwall_of => k_is)
    (case kwall_of => k_is)
    (case alaid => k_is)
    (case llaid => k_is)
    (case dlaid => k_is)
    (case klaid => k_is)
    (case a_law_cell_at => k_is)
    (case l_law_cell_at => k_is)
    (case d_law_cell_at => k_is)
    (case k_law_cell_at => k_is)
    (case a_law_other => k_is)
    (case l_law_other => k_is)
    (case d_law_other => k_is)
    (case k_law_other => k_is)
    (case a_law_good => k_is)
    (case l_law_good => k_is)
    (case d_law_good => k_is)
    (case k_law_good => k_is)
    (case a_law_refused => k_is)
    (case l_law_refused => k_is)
    (case d_law_refused => k_is)
    (case k_law_refused => k_is)
    (case alaw => k_is)
    (case llaw => k_is)
    (case dlaw => k_is)
    (case klaw => k_is)
