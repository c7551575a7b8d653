import PyProof.Rows.All
import Wide.All
import OpenK.AllK
import Wide.FinOn
import HandS.ForMost
import HandS.Wide
import HandS.Gcd
import HandS.IsInst
import HandS.Walk
import HandS.TupMul
import HandS.Flow
import HandS.WideBits
import HandS.Zip
import KE.GoesEnum
import KE.GoesZip
import KE.GoesMore
import PySem.Challenge.RW_fitpapers_k64_whole_bounds_from_below_of
set_option Elab.async false
set_option linter.all false
set_option maxRecDepth 100000
set_option maxHeartbeats 4000000
/-! The D layer: data without addresses; expressions read by what they give. -/
namespace DL
open PySem PySem.Spec L2
open PyProof.Rows hiding St

/-! ### data -/
inductive D where
  | non | bl (b : Bool) | int (i : Int) | str (x : Str)
  | tup (xs : List D) | lst (xs : List D)
  | dic (ks : List Str) (xs : List D)
  | obj (c : Nat) (ks : List Str) (xs : List D)
  | pen

/-- where own classes stand, and the pen -/
structure Wd where
  cls : Nat → Addr
  pen : Addr
  cells : Addr
  cl : List Int

mutual
inductive Rep (K : PySem.W.Frag) (W : Wd) (F : Hp) : V → D → Prop
  | non : Rep K W F .non .non
  | bl (b : Bool) : Rep K W F (.bl b) (.bl b)
  | int (i : Int) : Rep K W F (.int i) (.int i)
  | str (x : Str) : Rep K W F (.str x) (.str x)
  | tup {a : Addr} {vs : List V} {ds : List D} (h : SqT K F a vs) (z : ds.length ≤ sizeLine) (r : Reps K W F vs ds) : Rep K W F (.ref a) (.tup ds)
  | lst {a : Addr} {vs : List V} {ds : List D} (h : F a = some (.lst vs)) (z : ds.length ≤ sizeLine) (r : Reps K W F vs ds) : Rep K W F (.ref a) (.lst ds)
  | dic {a : Addr} {ks : List Str} {vs : List V} {ds : List D} (h : F a = some (.dK ((ks.map Sum.inr).zip vs))) (l : ks.length = vs.length) (r : Reps K W F vs ds) : Rep K W F (.ref a) (.dic ks ds)
  | obj {a dx : Addr} {c : Nat} {ks : List Str} {vs : List V} {ds : List D} (h : F a = some (.ins (W.cls c) dx (ks.zip vs))) (l : ks.length = vs.length) (r : Reps K W F vs ds) : Rep K W F (.ref a) (.obj c ks ds)
  | pen : Rep K W F (.ref W.pen) .pen
inductive Reps (K : PySem.W.Frag) (W : Wd) (F : Hp) : List V → List D → Prop
  | nil : Reps K W F [] []
  | cons {v : V} {d : D} {vs : List V} {ds : List D} (h : Rep K W F v d) (t : Reps K W F vs ds) : Reps K W F (v :: vs) (d :: ds)
end

section
variable {K : PySem.W.Frag} {W : Wd} {F F' : Hp}
theorem Reps.length {vs : List V} {ds : List D} (r : Reps K W F vs ds) : vs.length = ds.length := by
  match r with
  | .nil => rfl
  | .cons _ t => exact congrArg (· + 1) t.length
theorem sqT_mono {a : Addr} {xs : List V} (e : Same F F') (h : SqT K F a xs) : SqT K F' a xs := by
  rcases h with (h | ⟨o, h⟩) | h
  · exact .inl (.inl (e _ _ h))
  · exact .inl (.inr ⟨o, e _ _ h⟩)
  · exact .inr h
mutual
theorem Rep.mono (e : Same F F') : ∀ {v : V} {d : D}, Rep K W F v d → Rep K W F' v d
  | _, _, .non => .non
  | _, _, .bl b => .bl b
  | _, _, .int i => .int i
  | _, _, .str x => .str x
  | _, _, .tup h z r => .tup (sqT_mono e h) z (r.mono e)
  | _, _, .lst h z r => .lst (e _ _ h) z (r.mono e)
  | _, _, .dic h l r => .dic (e _ _ h) l (r.mono e)
  | _, _, .obj h l r => .obj (e _ _ h) l (r.mono e)
  | _, _, .pen => .pen
theorem Reps.mono (e : Same F F') : ∀ {vs : List V} {ds : List D}, Reps K W F vs ds → Reps K W F' vs ds
  | _, _, .nil => .nil
  | _, _, .cons h t => .cons (h.mono e) (t.mono e)
end
theorem Reps.get {vs : List V} {ds : List D} (r : Reps K W F vs ds) : ∀ {i : Nat} {d : D}, ds[i]? = some d → ∃ v, vs[i]? = some v ∧ Rep K W F v d := by
  match r with
  | .nil => intro i d h; simp at h
  | .cons h t =>
    intro i d e
    cases i with
    | zero => simp at e; subst e; exact ⟨_, rfl, h⟩
    | succ i => obtain ⟨v, h1, h2⟩ := t.get (i := i) (d := d) (by simpa using e); exact ⟨v, by simpa using h1, h2⟩
theorem Reps.get' {vs : List V} {ds : List D} (r : Reps K W F vs ds) : ∀ {i : Nat} {v : V}, vs[i]? = some v → ∃ d, ds[i]? = some d ∧ Rep K W F v d := by
  match r with
  | .nil => intro i d h; simp at h
  | .cons h t =>
    intro i d e
    cases i with
    | zero => simp at e; subst e; exact ⟨_, rfl, h⟩
    | succ i => obtain ⟨v, h1, h2⟩ := t.get' (i := i) (v := d) (by simpa using e); exact ⟨v, by simpa using h1, h2⟩
theorem Reps.append {vs ws : List V} {ds es : List D} (r : Reps K W F vs ds) (q : Reps K W F ws es) : Reps K W F (vs ++ ws) (ds ++ es) := by
  match r with
  | .nil => exact q
  | .cons h t => exact .cons h (t.append q)
theorem Reps.take {vs : List V} {ds : List D} (n : Nat) (r : Reps K W F vs ds) : Reps K W F (vs.take n) (ds.take n) := by
  match n, r with
  | 0, _ => exact .nil
  | n + 1, .nil => exact .nil
  | n + 1, .cons h t => exact .cons h (t.take n)
theorem Reps.drop {vs : List V} {ds : List D} (n : Nat) (r : Reps K W F vs ds) : Reps K W F (vs.drop n) (ds.drop n) := by
  match n, r with
  | 0, r => exact r
  | n + 1, .nil => exact .nil
  | n + 1, .cons h t => exact t.drop n
theorem Reps.eraseIdx {vs : List V} {ds : List D} (n : Nat) (r : Reps K W F vs ds) : Reps K W F (vs.eraseIdx n) (ds.eraseIdx n) := by
  match n, r with
  | _, .nil => exact .nil
  | 0, .cons h t => exact t
  | n + 1, .cons h t => exact .cons h (t.eraseIdx n)
theorem Reps.set {v : V} {d : D} {vs : List V} {ds : List D} (n : Nat) (q : Rep K W F v d) (r : Reps K W F vs ds) : Reps K W F (vs.set n v) (ds.set n d) := by
  match n, r with
  | _, .nil => exact .nil
  | 0, .cons h t => exact .cons q t
  | n + 1, .cons h t => exact .cons h (t.set n q)
theorem Reps.reverse {vs : List V} {ds : List D} (r : Reps K W F vs ds) : Reps K W F vs.reverse ds.reverse := by
  match r with
  | .nil => exact .nil
  | .cons h t => rw [List.reverse_cons, List.reverse_cons]; exact t.reverse.append (.cons h .nil)
theorem Reps.rep {vs : List V} {ds : List D} (r : Reps K W F vs ds) : ∀ n : Nat, Reps K W F (List.replicate n vs).flatten (List.replicate n ds).flatten
  | 0 => .nil
  | n + 1 => by
    rw [List.replicate_succ, List.replicate_succ, List.flatten_cons, List.flatten_cons]
    exact r.append (r.rep n)
theorem Reps.one {v : V} {d : D} (h : Rep K W F v d) : Reps K W F [v] [d] := .cons h .nil
end

/-! ### the world: what is told for good (F), the heap (H), the pen (g: how often it may still be drawn) -/
abbrev GP := Nat → Prop
structure Pen (g : Nat) (a d n f : Int) (len : Nat) : Prop where
  len : len ≤ 63
  a0 : 0 ≤ a
  d0 : 0 ≤ d
  n0 : 0 ≤ n
  ng : n + g ≤ 1099511627776
  f0 : 0 ≤ f
  f1 : f < 2147482909
def penD (c : Addr) (a d n f : Int) : List (Key × V) := [(Sum.inr "cells", .ref c), (Sum.inr "at", .int a), (Sum.inr "digits", .int d), (Sum.inr "count", .int n), (Sum.inr "fold", .int f)]
structure Wld (K : PySem.W.Frag) (W : Wd) (g : Nat) (F H : Hp) : Prop where
  sub : Same F H
  nopen : F W.pen = none
  cel : F W.cells = some (.lst (W.cl.map V.int))
  pen : ∃ a d n f : Int, H W.pen = some (.dK (penD W.cells a d n f)) ∧ Pen g a d n f W.cl.length
structure Grow (K : PySem.W.Frag) (W : Wd) (F H : Hp) (g : Nat) (F' H' : Hp) : Prop where
  fz : Same F F'
  own : ∀ a o, H a = some o → F a = none → a ≠ W.pen → H' a = some o ∧ F' a = none
  wld : Wld K W g F' H'
section
variable {K : PySem.W.Frag} {W : Wd} {g g' g1 g2 : Nat} {F F' F1 F2 H H' H1 H2 : Hp}
theorem Grow.refl (w : Wld K W g F H) : Grow K W F H g F H := ⟨Same.refl _, fun a o h n _ => ⟨h, n⟩, w⟩
theorem Grow.trans (a : Grow K W F H g1 F1 H1) (b : Grow K W F1 H1 g2 F2 H2) : Grow K W F H g2 F2 H2 :=
  ⟨a.fz.trans b.fz, fun c o h n p => by obtain ⟨h1, n1⟩ := a.own c o h n p; exact b.own c o h1 n1 p, b.wld⟩
theorem Wld.hpen (w : Wld K W g F H) : H W.pen ≠ none := by
  obtain ⟨_, _, _, _, h, _⟩ := w.pen
  rw [h]; exact fun z => nomatch z
theorem Wld.fnone (w : Wld K W g F H) {p : Addr} (h : H p = none) : F p = none := w.sub.free h
theorem Wld.ne (w : Wld K W g F H) {p : Addr} (h : H p = none) : p ≠ W.pen := fun e => w.hpen (e ▸ h)
/-- the pen may be drawn less often -/
theorem Wld.less (w : Wld K W g F H) (h : g' ≤ g) : Wld K W g' F H := by
  obtain ⟨s, n, c, a, d, m, f, h2, h3⟩ := w
  exact ⟨s, n, c, a, d, m, f, h2, ⟨h3.len, h3.a0, h3.d0, h3.n0, by have := h3.ng; omega, h3.f0, h3.f1⟩⟩
theorem same_upd {p : Addr} {o : HO} (h : F p = none) : Same F (upd F p o) := fun b u q => by rw [upd_ne (ne_of_none q h)]; exact q
/-- a new thing, told for good -/
theorem Grow.new (w : Wld K W g F H) {p : Addr} (o : HO) (h : H p = none) : Grow K W F H g (upd F p o) (upd H p o) := by
  have hp := w.ne h
  refine ⟨same_upd (w.fnone h), fun a u e n q => ?_, ?_, ?_, ?_, ?_⟩
  · have : a ≠ p := ne_of_none e h
    rw [upd_ne this, upd_ne this]; exact ⟨e, n⟩
  · intro b u e
    by_cases hb : b = p
    · subst hb; rw [upd_same] at e ⊢; exact e
    · rw [upd_ne hb] at e ⊢; exact w.sub b u e
  · rw [upd_ne (Ne.symm hp)]; exact w.nopen
  · exact same_upd (w.fnone h) _ _ w.cel
  · obtain ⟨a, d, m, f, h2, h3⟩ := w.pen
    refine ⟨a, d, m, f, ?_, h3⟩
    rw [upd_ne (Ne.symm hp)]; exact h2
/-- a new thing, one's own -/
theorem Grow.newOwn (w : Wld K W g F H) {p : Addr} (o : HO) (h : H p = none) : Grow K W F H g F (upd H p o) := by
  have hp := w.ne h
  refine ⟨Same.refl _, fun a u e n q => ?_, fun b u e => ?_, w.nopen, w.cel, ?_⟩
  · have : a ≠ p := ne_of_none e h
    rw [upd_ne this]; exact ⟨e, n⟩
  · have : b ≠ p := ne_of_none (w.sub b u e) h
    rw [upd_ne this]; exact w.sub b u e
  · obtain ⟨a, d, m, f, h2, h3⟩ := w.pen
    refine ⟨a, d, m, f, ?_, h3⟩
    rw [upd_ne (Ne.symm hp)]; exact h2
end

/-! ### slots -/
inductive SV where
  | u | d (x : D) | o (xs : List D)
structure EnvR (K : PySem.W.Frag) (W : Wd) (F H : Hp) (σ : St) (ρ : List SV) : Prop where
  len : ρ.length = σ.length
  d : ∀ (i : Nat) x, ρ[i]? = some (.d x) → ∃ v, σ[i]? = some (some v) ∧ Rep K W F v x
  o : ∀ (i : Nat) xs, ρ[i]? = some (.o xs) → ∃ p vs, σ[i]? = some (some (.ref p)) ∧ F p = none ∧ p ≠ W.pen ∧ H p = some (.lst vs) ∧ Reps K W F vs xs
  ne : ∀ (i j : Nat) xs ys p, ρ[i]? = some (.o xs) → ρ[j]? = some (.o ys) → σ[i]? = some (some (.ref p)) → σ[j]? = some (some (.ref p)) → i = j
theorem EnvR.grow {K : PySem.W.Frag} {W : Wd} {g : Nat} {F F' H H' : Hp} {σ : St} {ρ : List SV} (e : EnvR K W F H σ ρ) (h : Grow K W F H g F' H') : EnvR K W F' H' σ ρ :=
  ⟨e.len, fun i x q => by obtain ⟨v, h1, h2⟩ := e.d i x q; exact ⟨v, h1, h2.mono h.fz⟩,
    fun i xs q => by
      obtain ⟨p, vs, h1, h2, h3, h4, h5⟩ := e.o i xs q
      obtain ⟨h6, h7⟩ := h.own p _ h4 h2 h3
      exact ⟨p, vs, h1, h7, h3, h6, h5.mono h.fz⟩, e.ne⟩

/-! ### readings -/
abbrev DT := List SV → (D → GP) → GP
abbrev DB := List SV → (Bool → GP) → GP
abbrev DA := List SV → (List D → GP) → GP
def tD (K : PySem.W.Frag) (W : Wd) (φ : DT) : TE := fun σ H Q => ∃ g F ρ P, Wld K W g F H ∧ EnvR K W F H σ ρ ∧ φ ρ P g ∧ ∀ v H' F' d g', Grow K W F H g' F' H' → Rep K W F' v d → P d g' → Q v H'
def tDB (K : PySem.W.Frag) (W : Wd) (φ : DB) : TT := fun σ H Q => ∃ g F ρ P, Wld K W g F H ∧ EnvR K W F H σ ρ ∧ φ ρ P g ∧ ∀ b H' F' g', Grow K W F H g' F' H' → P b g' → Q b H'
def tDA (K : PySem.W.Frag) (W : Wd) (φ : DA) : TA := fun σ H Q => ∃ g F ρ P, Wld K W g F H ∧ EnvR K W F H σ ρ ∧ φ ρ P g ∧ ∀ vs H' F' ds g', Grow K W F H g' F' H' → Reps K W F' vs ds → P ds g' → Q vs H'
abbrev DE (W : Wd) (X : Cx) (e : Expr) (φ : DT) : Prop := PE X e (tD X.K W φ)
abbrev DTe (W : Wd) (X : Cx) (e : Expr) (φ : DB) : Prop := PT X e (tDB X.K W φ)
abbrev DWe (W : Wd) (X : Cx) (e : Expr) (φ : DB) : Prop := PW X e (tDB X.K W φ)
abbrev DAr (W : Wd) (X : Cx) (es : List Expr) (φ : DA) : Prop := PA X es (tDA X.K W φ)

section
variable {X : Cx} {e : Expr} {t t' : TE}
theorem pe_imp (h : PE X e t) (i : ∀ σ H Q, t' σ H Q → t σ H Q) : PE X e t' := ⟨fun pins s σ H Q I q => h.run pins s σ H Q I (i σ H Q q)⟩
theorem pt_imp {t t' : TT} (h : PT X e t) (i : ∀ σ H Q, t' σ H Q → t σ H Q) : PT X e t' := ⟨fun pins s σ H Q I q => h.run pins s σ H Q I (i σ H Q q)⟩
theorem pw_imp {t t' : TT} (h : PW X e t) (i : ∀ σ H Q, t' σ H Q → t σ H Q) : PW X e t' := ⟨fun wh pins s σ H Q I q => h.run wh pins s σ H Q I (i σ H Q q)⟩
theorem pa_imp {es : List Expr} {t t' : TA} (h : PA X es t) (i : ∀ σ H Q, t' σ H Q → t σ H Q) : PA X es t' := ⟨fun pos pins s σ H Q I q => h.run pos pins s σ H Q I (i σ H Q q)⟩
theorem ps_imp {st : Stmt} {t t' : TS} (h : PS X st t) (i : ∀ D σ H, t' D σ H → t D σ H) : PS X st t' := ⟨fun pins s σ H D I q => h.run pins s σ H D I (i D σ H q)⟩
theorem pss_imp {st : List Stmt} {t t' : TS} (h : PSs X st t) (i : ∀ D σ H, t' D σ H → t D σ H) : PSs X st t' := ⟨fun pins s σ H D I q => h.run pins s σ H D I (i D σ H q)⟩
end

/-! ### names, constants -/
section
variable {X : Cx} {W : Wd} {e a b : Expr} {φ ψ : DT} {pos : Pos}
def rVar (i : Nat) : DT := fun ρ P g => ∃ d, ρ[i]? = some (.d d) ∧ P d g
def rC (d : D) : DT := fun _ P => P d
theorem d_of_const {v : V} {d : D} (h : PE X e (tC v)) (r : ∀ F, Rep X.K W F v d) : DE W X e (rC d) :=
  pe_imp h fun σ H Q ⟨g, F, ρ, P, w, en, p, q⟩ => q v H F d g (Grow.refl w) (r F) p
theorem dv (i : Nat) {x : Str} {pos : Pos} (hN : X.N[i]? = some x := by rfl) (hv : Vis X.env.scope x := by first | exact Or.inl rfl | exact Or.inr (Or.inl rfl) | exact Or.inr (Or.inr rfl)) (hd : (x == ("__debug__" : Str)) = false := by decide)
    (hcd : (x == ("__classdict__" : Str)) = false := by decide) : DE W X (.Name x pos) (rVar i) :=
  pe_imp (pe_var hN hv hd hcd) fun σ H Q ⟨g, F, ρ, P, w, en, ⟨d, e1, p⟩, q⟩ => by
    obtain ⟨v, h1, h2⟩ := en.d i d e1
    exact ⟨v, h1, q v H F d g (Grow.refl w) h2 p⟩
theorem d_int {i j pos} : DE W X (.Constant (.int i) j pos) (rC (.int i)) := d_of_const pe_int fun _ => .int _
theorem d_bl {b j pos} : DE W X (.Constant (.bool b) j pos) (rC (.bl b)) := d_of_const pe_bl fun _ => .bl _
theorem d_non {j pos} : DE W X (.Constant .none j pos) (rC .non) := d_of_const pe_non fun _ => .non
theorem d_str {x j pos} : DE W X (.Constant (.str x) j pos) (rC (.str x)) := d_of_const pe_str fun _ => .str _
/-- a constant of the module: u its value, told as d whatever the heap -/
theorem d_glob {x : Str} {v : V} {d : D} {u : Value} {pos : Pos} (hg : Gl X x) (hm : X.mg x = some u) (r : RelV v u) (h : ∀ F, Rep X.K W F v d) (hd : (x == ("__debug__" : Str)) = false := by decide) : DE W X (.Name x pos) (rC d) :=
  d_of_const (pe_glob hg hm r hd) h

/-! ### two expressions and an operator on values -/
abbrev O2 := D → D → (D → GP) → GP
abbrev O1 := D → (D → GP) → GP
/-- a rule on values serves a rule on data -/
def Op2 (X : Cx) (W : Wd) (f : Value → Value → Sem Value) (r : O2) : Prop :=
  ∃ R : R2, OpR X f R ∧ ∀ (g : Nat) (F H : Hp) (x y : V) (a b : D) (P : D → GP) (Q : VK), Wld X.K W g F H → Rep X.K W F x a → Rep X.K W F y b → r a b P g →
    (∀ v H' F' d g', Grow X.K W F H g' F' H' → Rep X.K W F' v d → P d g' → Q v H') → R x y H Q
theorem bin_read {K : PySem.W.Frag} {σ : St} {H : Hp} {R : V → V → Hp → Prop} {r : O2} {Q : VK}
    (h : tD K W (fun ρ P => φ ρ fun x => ψ ρ fun y => r x y P) σ H Q)
    (k : ∀ (g : Nat) (F H1 : Hp) (x y : V) (a b : D) (P : D → GP), Wld K W g F H1 → Rep K W F x a → Rep K W F y b → r a b P g →
      (∀ v H' F' d g', Grow K W F H1 g' F' H' → Rep K W F' v d → P d g' → Q v H') → R x y H1) :
    tD K W φ σ H fun x H1 => tD K W ψ σ H1 fun y H2 => R x y H2 := by
  obtain ⟨g, F, ρ, P, w, en, p, q⟩ := h
  refine ⟨g, F, ρ, _, w, en, p, fun x H1 F1 a g1 G1 r1 p1 => ?_⟩
  refine ⟨g1, F1, ρ, _, G1.wld, en.grow G1, p1, fun y H2 F2 b g2 G2 r2 p2 => ?_⟩
  exact k g2 F2 H2 x y a b P G2.wld (r1.mono G2.fz) r2 p2 fun v H' F' d g' G3 r3 p3 => q v H' F' d g' ((G1.trans G2).trans G3) r3 p3
theorem d_op {op : Operator} {r : O2} (ho : Op2 X W (binaryOp op) r) (ha : DE W X a φ) (hb : DE W X b ψ) : DE W X (.BinOp a op b pos) (fun ρ P => φ ρ fun x => ψ ρ fun y => r x y P) := by
  obtain ⟨R, hR, k⟩ := ho
  exact pe_imp (pe_op hR ha hb) fun σ H Q h => bin_read h fun g F H1 x y a b P w ra rb p q => k g F H1 x y a b P Q w ra rb p q
theorem d_cmp {op : CmpOp} {r : O2} (ho : Op2 X W (compareOp op) r) (ha : DE W X a φ) (hb : DE W X b ψ) (hm : behindInMarks op b = false) : DE W X (.Compare a [op] [b] pos) (fun ρ P => φ ρ fun x => ψ ρ fun y => r x y P) := by
  obtain ⟨R, hR, k⟩ := ho
  exact pe_imp (pe_cmpR hR ha hb hm) fun σ H Q h => bin_read h fun g F H1 x y a b P w ra rb p q => k g F H1 x y a b P Q w ra rb p q
/-- the bool that a value is -/
def isB : D → (Bool → GP) → GP
  | .bl b, P => P b
  | _, _ => fun _ => False
theorem isB_of {d : D} {P : Bool → GP} {g : Nat} (h : isB d P g) : ∃ b, d = .bl b ∧ P b g := by
  cases d <;> first | exact ⟨_, rfl, h⟩ | exact False.elim h
theorem rep_bl {K : PySem.W.Frag} {F : Hp} {v : V} {b : Bool} (r : Rep K W F v (.bl b)) : v = .bl b := by cases r; rfl
theorem rep_int {K : PySem.W.Frag} {F : Hp} {v : V} {i : Int} (r : Rep K W F v (.int i)) : v = .int i := by cases r; rfl
theorem rep_str {K : PySem.W.Frag} {F : Hp} {v : V} {i : Str} (r : Rep K W F v (.str i)) : v = .str i := by cases r; rfl
theorem rep_non {K : PySem.W.Frag} {F : Hp} {v : V} (r : Rep K W F v .non) : v = .non := by cases r; rfl
theorem dt_cmp {op : CmpOp} {r : O2} (ho : Op2 X W (compareOp op) r) (ha : DE W X a φ) (hb : DE W X b ψ) (hm : behindInMarks op b = false) : DTe W X (.Compare a [op] [b] pos) (fun ρ P => φ ρ fun x => ψ ρ fun y => r x y fun z => isB z P) := by
  obtain ⟨R, hR, k⟩ := ho
  exact pt_imp (pt_cmpR hR ha hb hm) fun σ H Q ⟨g, F, ρ, P, w, en, p, q⟩ =>
    bin_read (r := fun x y P' => r x y P') (Q := fun z H' => ∃ k, z = .bl k ∧ Q k H') ⟨g, F, ρ, fun z => isB z P, w, en, p, fun v H' F' d g' G rd pd => by
        obtain ⟨b, rfl, pb⟩ := isB_of pd
        exact ⟨b, rep_bl rd, q b H' F' g' G pb⟩⟩
      fun g F H1 x y a b P w ra rb p q => k g F H1 x y a b P _ w ra rb p q
end
end DL

set_option Elab.async false
set_option linter.all false
set_option maxRecDepth 100000
set_option maxHeartbeats 4000000
namespace DL
open PySem PySem.Spec L2
open PyProof.Rows hiding St
section
variable {X : Cx} {W : Wd}
/-! ### operators -/
/-- a rule of the hand layer, read on data -/
theorem op2_of {f : Value → Value → Sem Value} {R : R2} {r : O2} (h : OpR X f R)
    (k : ∀ (g : Nat) (F H : Hp) (x y : V) (a b : D) (P : D → GP) (Q : VK), Wld X.K W g F H → Rep X.K W F x a → Rep X.K W F y b → r a b P g →
    (∀ v H' F' d g', Grow X.K W F H g' F' H' → Rep X.K W F' v d → P d g' → Q v H') → R x y H Q) : Op2 X W f r := ⟨R, h, k⟩
/-- + -/
def oAdd : O2
  | .int i, .int j, P => P (.int (i + j))
  | .str i, .str j, P => fun g => i.length + j.length ≤ sizeLine ∧ P (.str (i ++ j)) g
  | .tup xs, .tup ys, P => fun g => xs ≠ [] ∧ xs.length + ys.length ≤ sizeLine ∧ P (.tup (xs ++ ys)) g
  | .lst xs, .lst ys, P => fun g => xs.length + ys.length ≤ sizeLine ∧ P (.lst (xs ++ ys)) g
  | _, _, _ => fun _ => False
theorem Reps.ne {K : PySem.W.Frag} {F : Hp} {vs : List V} {ds : List D} (r : Reps K W F vs ds) (h : ds ≠ []) : vs ≠ [] := by
  intro e; subst e; cases r; exact h rfl
theorem op_oAdd : Op2 X W (binaryOp .Add) oAdd := by
  refine op2_of (op_add.or (op_add_str.or (op_catT.or op_cat))) fun g F H x y a b P Q w ra rb p q => ?_
  cases a with
  | int i =>
    cases b with
    | int j =>
      cases ra; cases rb
      exact .inl ⟨i, j, rfl, rfl, q _ H F _ g (Grow.refl w) (.int _) p⟩
    | _ => exact False.elim p
  | str i =>
    cases b with
    | str j =>
      cases ra; cases rb
      exact .inr (.inl ⟨i, j, rfl, rfl, p.1, q _ H F _ g (Grow.refl w) (.str _) p.2⟩)
    | _ => exact False.elim p
  | tup xs =>
    cases b with
    | tup ys =>
      obtain ⟨p1, p2, p3⟩ := p
      cases ra with
      | tup h z r =>
      cases rb with
      | tup h' z' r' =>
      refine .inr (.inr (.inl ⟨_, _, _, _, rfl, rfl, sqT_mono w.sub h, sqT_mono w.sub h', r.ne p1, by rw [r.length, r'.length]; exact p2, fun e => ?_, fun e a n => ?_⟩))
      · subst e
        cases r'
        rw [List.append_nil] at p3
        exact q _ H F _ g (Grow.refl w) (.tup h z r) p3
      · exact q _ _ _ _ g (Grow.new w _ n) (.tup (.inl (.inl upd_same)) (by rw [List.length_append]; exact p2) ((r.append r').mono (same_upd (w.fnone n)))) p3
    | _ => exact False.elim p
  | lst xs =>
    cases b with
    | lst ys =>
      obtain ⟨p2, p3⟩ := p
      cases ra with
      | lst h z r =>
      cases rb with
      | lst h' z' r' =>
      refine .inr (.inr (.inr ⟨_, _, _, _, rfl, rfl, w.sub _ _ h, w.sub _ _ h', by rw [r.length, r'.length]; exact p2, fun a n => ?_⟩))
      exact q _ _ _ _ g (Grow.new w _ n) (.lst upd_same (by rw [List.length_append]; exact p2) ((r.append r').mono (same_upd (w.fnone n)))) p3
    | _ => exact False.elim p
  | _ => exact False.elim p
/-- - -/
def oSub : O2
  | .int i, .int j, P => P (.int (i - j))
  | _, _, _ => fun _ => False
theorem op_oSub : Op2 X W (binaryOp .Sub) oSub := by
  refine op2_of op_sub fun g F H x y a b P Q w ra rb p q => ?_
  cases a with
  | int i =>
    cases b with
    | int j => cases ra; cases rb; exact ⟨i, j, rfl, rfl, q _ H F _ g (Grow.refl w) (.int _) p⟩
    | _ => exact False.elim p
  | _ => exact False.elim p
/-- a tuple once is itself -/
theorem tuple_mul1 (l : Addr) (items : Array Value) (n : Nat) (dd : Option Addr) (sl : Array (Option Value)) (u : Tok) :
    Meets (Builtin.«tuple.__mul__» ⟨[.ref l, .int 1 u], []⟩) (fun _ R s => s.heap.get? l = some { cls := .type "tuple", dict := dd, data := .seq items n, slots := sl } ∧
      R (.ok (.ret (Value.ref l))) s) :=
  .of_wp fun prog w A R s h => by
    obtain ⟨hp, g, d, tk, os⟩ := s
    obtain ⟨hl, h⟩ := h
    have f1 := AutoSeq1.idx_int
    have c1 : (items.isEmpty || (1 : Int) == 1) = true := by simp
    wp_walk using PySem.AutoSeq1.wpAny_loadPart' hl
    repeat (first
      | (refine wpAny_ite_false (decide_eq_false (by decide)) ?_; wp_walk using PySem.AutoSeq1.wpAny_loadPart' hl)
      | (refine wpAny_ite_true (decide_eq_true c1) ?_; wp_walk using PySem.AutoSeq1.wpAny_loadPart' hl))
    exact ⟨_, rfl, h⟩
def rRep1 (K : PySem.W.Frag) : R2 := fun x y H Q => ∃ l xs, x = .ref l ∧ y = .int 1 ∧ SqT K H l xs ∧ Q (.ref l) H
theorem op_rep1 : OpR X (binaryOp .Mult) (rRep1 X.K) := by
  intro pins s σ H x y v u Q I rx ry h
  obtain ⟨l, xs, rfl, rfl, hT, q⟩ := h
  cases rx
  obtain ⟨t, rfl⟩ := ry
  obtain ⟨its, r, ⟨⟨cls, dd, data, sl⟩, ho, hc, n, hd⟩, hs⟩ := I.tuple hT
  simp only at hc hd
  subst hc hd
  exact wpAny_binaryOp_repeat_ref (T := "tuple") (U := "int") (by decide) ⟨_, ho, rfl⟩ (fun s' => typeIs_int s' 1 t) noFill_tuple_mul F.fills_int_mul F.slot_int_rmul repeat_tuple F.slot_int_index.lookup
    (call_meets F.slot_int_rmul (typeIs_int s 1 t) F.entry_int_rmul (F.args_int_rmul_2 _ _) (int_rmul_tuple 1 t l its.toArray n dd sl)
      ⟨ho, rfl, ⟨_, ho, rfl⟩, call_meets F.slot_tuple_mul ⟨_, ho, rfl⟩ F.entry_tuple_mul (F.args_tuple_mul_2 _ _) (tuple_mul1 l its.toArray n dd sl t) ⟨ho, .ref l, H, I, rfl, q⟩⟩)
/-- * -/
def oMul : O2
  | .int i, .int j, P => fun g => CMulW i j ∧ P (.int (i * j)) g
  | .tup xs, .int k, P => fun g => xs ≠ [] ∧ 1 ≤ k ∧ k ≤ 1000 ∧ xs.length ≤ 1000 ∧ P (.tup (List.replicate k.toNat xs).flatten) g
  | .lst xs, .int k, P => fun g => 0 ≤ k ∧ k ≤ 1000 ∧ xs.length ≤ 1000 ∧ P (.lst (List.replicate k.toNat xs).flatten) g
  | _, _, _ => fun _ => False
theorem rep_len {n k : Nat} (hn : n ≤ 1000) (hk : k ≤ 1000) : n * k ≤ sizeLine := by
  have a1 : n * k ≤ 1000 * 1000 := Nat.mul_le_mul hn hk
  rw [sizeLine_eq]; omega
theorem op_oMul : Op2 X W (binaryOp .Mult) oMul := by
  refine op2_of (op_mulW.or (op_rep1.or (op_repT.or op_rep))) fun g F H x y a b P Q w ra rb p q => ?_
  cases a with
  | int i =>
    cases b with
    | int j => cases ra; cases rb; exact .inl ⟨i, j, rfl, rfl, p.1, q _ H F _ g (Grow.refl w) (.int _) p.2⟩
    | _ => exact False.elim p
  | tup xs =>
    cases b with
    | int k =>
      obtain ⟨p1, p2, p3, p4, p5⟩ := p
      cases rb
      cases ra with
      | tup h z r =>
      by_cases e : k = 1
      · subst e
        refine .inr (.inl ⟨_, _, rfl, rfl, sqT_mono w.sub h, ?_⟩)
        have e2 : (List.replicate (1 : Int).toNat xs).flatten = xs := by
          show (List.replicate 1 xs).flatten = xs
          simp
        rw [e2] at p5
        exact q _ H F _ g (Grow.refl w) (.tup h z r) p5
      · refine .inr (.inr (.inl ⟨_, _, _, rfl, rfl, sqT_mono w.sub h, r.ne p1, by omega, p3, by rw [r.length]; exact p4, fun a n => ?_⟩))
        refine q _ _ _ _ g (Grow.new w _ n) (.tup (.inl (.inl upd_same)) ?_ ((r.rep _).mono (same_upd (w.fnone n)))) p5
        rw [PyProof.Rows.lm_len_rep_flat]
        exact rep_len (n := k.toNat) (by omega) p4
    | _ => exact False.elim p
  | lst xs =>
    cases b with
    | int k =>
      obtain ⟨p2, p3, p4, p5⟩ := p
      cases rb
      cases ra with
      | lst h z r =>
      refine .inr (.inr (.inr ⟨_, _, _, rfl, rfl, w.sub _ _ h, by omega, by omega, ?_, fun a n => ?_⟩))
      · rw [r.length]; exact rep_len p4 (by omega)
      · refine q _ _ _ _ g (Grow.new w _ n) (.lst upd_same ?_ ((r.rep _).mono (same_upd (w.fnone n)))) p5
        rw [PyProof.Rows.lm_len_rep_flat]
        exact rep_len (n := k.toNat) (by omega) p4
    | _ => exact False.elim p
  | _ => exact False.elim p
/-- // by a positive number -/
def oFdiv : O2
  | .int i, .int j, P => fun g => CDivW i j ∧ P (.int (i / j)) g
  | _, _, _ => fun _ => False
theorem op_oFdiv : Op2 X W (binaryOp .FloorDiv) oFdiv := by
  refine op2_of op_fdivW fun g F H x y a b P Q w ra rb p q => ?_
  cases a with
  | int i =>
    cases b with
    | int j => cases ra; cases rb; exact ⟨i, j, rfl, rfl, p.1, q _ H F _ g (Grow.refl w) (.int _) p.2⟩
    | _ => exact False.elim p
  | _ => exact False.elim p
/-- % by a positive number -/
def oMod : O2
  | .int i, .int j, P => fun g => 0 < j ∧ P (.int (i % j)) g
  | _, _, _ => fun _ => False
theorem op_oMod : Op2 X W (binaryOp .Mod) oMod := by
  refine op2_of op_mod fun g F H x y a b P Q w ra rb p q => ?_
  cases a with
  | int i =>
    cases b with
    | int j => cases ra; cases rb; exact ⟨i, j, rfl, rfl, p.1, q _ H F _ g (Grow.refl w) (.int _) p.2⟩
    | _ => exact False.elim p
  | _ => exact False.elim p
def oPow : O2
  | .int i, .int j, P => fun g => CPow i j ∧ P (.int (i ^ j.toNat)) g
  | _, _, _ => fun _ => False
theorem op_oPow : Op2 X W (binaryOp .Pow) oPow := by
  refine op2_of op_pow fun g F H x y a b P Q w ra rb p q => ?_
  cases a with
  | int i =>
    cases b with
    | int j => cases ra; cases rb; exact ⟨i, j, rfl, rfl, p.1, q _ H F _ g (Grow.refl w) (.int _) p.2⟩
    | _ => exact False.elim p
  | _ => exact False.elim p
/-! ### comparisons of ints -/
def oCmpI (p : Int → Int → Bool) : O2
  | .int i, .int j, P => P (.bl (p i j))
  | _, _, _ => fun _ => False
theorem op_cmpI {f : Value → Value → Sem Value} {p : Int → Int → Bool} (h : OpR X f (rI0 fun i j => .bl (p i j))) : Op2 X W f (oCmpI p) := by
  refine op2_of h fun g F H x y a b P Q w ra rb p q => ?_
  cases a with
  | int i =>
    cases b with
    | int j => cases ra; cases rb; exact ⟨i, j, rfl, rfl, q _ H F _ g (Grow.refl w) (.bl _) p⟩
    | _ => exact False.elim p
  | _ => exact False.elim p
abbrev oLt : O2 := oCmpI fun i j => decide (i < j)
abbrev oLe : O2 := oCmpI fun i j => decide (i ≤ j)
abbrev oGt : O2 := oCmpI fun i j => decide (j < i)
abbrev oGe : O2 := oCmpI fun i j => decide (j ≤ i)
theorem op_oLt : Op2 X W (compareOp .Lt) oLt := op_cmpI op_lt
theorem op_oLe : Op2 X W (compareOp .LtE) oLe := op_cmpI op_le
theorem op_oGt : Op2 X W (compareOp .Gt) oGt := op_cmpI op_gt
theorem op_oGe : Op2 X W (compareOp .GtE) oGe := op_cmpI op_ge
/-! ### == of data -/
mutual
/-- data for ==; nothing for what it does not serve -/
def D.py : D → Option PyData
  | .non => some .none
  | .bl b => some (.bool b)
  | .int i => some (.int i)
  | .str x => some (.str x)
  | .tup xs => (D.pys xs).map .tuple
  | .lst xs => (D.pys xs).map .list
  | .dic _ _ => none
  | .obj _ _ _ => none
  | .pen => none
def D.pys : List D → Option (List PyData)
  | [] => some []
  | x :: xs => match D.py x, D.pys xs with
    | some y, some ys => some (y :: ys)
    | _, _ => none
end
section
variable {K : PySem.W.Frag} {F H : Hp}
mutual
theorem Rep.dp (s : Same F H) : ∀ {v : V} {d : D} {e : PyData}, Rep K W F v d → d.py = some e → Dp K H v e
  | _, _, _, .non, h => by simp only [D.py, Option.some.injEq] at h; subst h; exact .non
  | _, _, _, .bl b, h => by simp only [D.py, Option.some.injEq] at h; subst h; exact .bl b
  | _, _, _, .int i, h => by simp only [D.py, Option.some.injEq] at h; subst h; exact .int i
  | _, _, _, .str x, h => by simp only [D.py, Option.some.injEq] at h; subst h; exact .str x
  | _, _, _, .tup q z r, h => by
    simp only [D.py, Option.map_eq_some_iff] at h
    obtain ⟨es, h1, rfl⟩ := h
    exact .tup (sqT_mono s q) (r.dps s h1)
  | _, _, _, .lst q z r, h => by
    simp only [D.py, Option.map_eq_some_iff] at h
    obtain ⟨es, h1, rfl⟩ := h
    exact .lst (SqL.of (s _ _ q)) (r.dps s h1)
  | _, _, _, .dic _ _ _, h => by simp [D.py] at h
  | _, _, _, .obj _ _ _, h => by simp [D.py] at h
  | _, _, _, .pen, h => by simp [D.py] at h
theorem Reps.dps (s : Same F H) : ∀ {vs : List V} {ds : List D} {es : List PyData}, Reps K W F vs ds → D.pys ds = some es → DpAll K H vs es
  | _, _, _, .nil, h => by simp only [D.pys, Option.some.injEq] at h; subst h; exact .nil
  | _, _, _, .cons (d := d) (ds := ds) a t, h => by
    simp only [D.pys] at h
    cases e1 : d.py with
    | none => rw [e1] at h; simp at h
    | some y =>
      cases e2 : D.pys ds with
      | none => rw [e1, e2] at h; simp at h
      | some ys =>
        rw [e1, e2] at h
        simp only [Option.some.injEq] at h
        subst h
        exact .cons (a.dp s e1) (t.dps s e2)
end
end
def eqD (a b : D) : Bool := match a.py, b.py with
  | some x, some y => PyData.eqv x y
  | _, _ => false
def eqOk (a b : D) : Bool := match a.py, b.py with
  | some x, some y => SeqAt.shaped x && SeqAt.shaped y
  | _, _ => false
def oEq : O2 := fun a b P g => eqOk a b = true ∧ P (.bl (eqD a b)) g
def oNe : O2 := fun a b P g => eqOk a b = true ∧ P (.bl (!eqD a b)) g
theorem eqOk_of {a b : D} (h : eqOk a b = true) : ∃ x y, a.py = some x ∧ b.py = some y ∧ SeqAt.shaped x = true ∧ SeqAt.shaped y = true ∧ eqD a b = PyData.eqv x y := by
  unfold eqOk at h
  cases e1 : a.py with
  | none => rw [e1] at h; simp at h
  | some x =>
    cases e2 : b.py with
    | none => rw [e1, e2] at h; simp at h
    | some y =>
      rw [e1, e2] at h
      simp only [Bool.and_eq_true] at h
      exact ⟨x, y, rfl, rfl, h.1, h.2, by unfold eqD; rw [e1, e2]⟩
theorem op_oEq (hu : X.A.units + 64 < cLine) : Op2 X W (compareOp .Eq) oEq := by
  refine op2_of (op_eqD hu) fun g F H x y a b P Q w ra rb p q => ?_
  obtain ⟨d, e, h1, h2, h3, h4, h5⟩ := eqOk_of p.1
  exact ⟨d, e, ra.dp w.sub h1, rb.dp w.sub h2, h3, h4, q _ H F _ g (Grow.refl w) (by rw [← h5]; exact .bl _) p.2⟩
theorem op_oNe (hu : X.A.units + 64 < cLine) : Op2 X W (compareOp .NotEq) oNe := by
  refine op2_of (op_neD hu) fun g F H x y a b P Q w ra rb p q => ?_
  obtain ⟨d, e, h1, h2, h3, h4, h5⟩ := eqOk_of p.1
  exact ⟨d, e, ra.dp w.sub h1, rb.dp w.sub h2, h3, h4, q _ H F _ g (Grow.refl w) (by rw [← h5]; exact .bl _) p.2⟩
/-! ### is -/
def D.isN : D → Bool
  | .non => true
  | _ => false
theorem isN_rep {K : PySem.W.Frag} {F : Hp} {v : V} {d : D} (r : Rep K W F v d) : decide (v = .non) = d.isN := by
  cases r <;> simp [D.isN]
def oIsN : O2 := fun a b P g => b = .non ∧ P (.bl a.isN) g
def oNotN : O2 := fun a b P g => b = .non ∧ P (.bl (!a.isN)) g
theorem op_oIsN : Op2 X W (compareOp .Is) oIsN := by
  refine op2_of op_isN fun g F H x y a b P Q w ra rb p q => ?_
  obtain ⟨rfl, p⟩ := p
  cases rb
  exact ⟨rfl, q _ H F _ g (Grow.refl w) (by rw [isN_rep ra]; exact .bl _) p⟩
theorem op_oNotN : Op2 X W (compareOp .IsNot) oNotN := by
  refine op2_of op_notN fun g F H x y a b P Q w ra rb p q => ?_
  obtain ⟨rfl, p⟩ := p
  cases rb
  exact ⟨rfl, q _ H F _ g (Grow.refl w) (by rw [isN_rep ra]; exact .bl _) p⟩
/-- is True, is False: of a bool -/
theorem op_isB : OpR X (compareOp .Is) (fun x y H Q => ∃ i j, x = .bl i ∧ y = .bl j ∧ Q (.bl (i == j)) H) := by
  intro pins s σ H x y v u Q I rx ry h
  obtain ⟨i, j, rfl, rfl, q⟩ := h
  cases rx
  cases ry
  exact is_bool ⟨.bl _, H, I, rfl, q⟩
theorem op_isnotB : OpR X (compareOp .IsNot) (fun x y H Q => ∃ i j, x = .bl i ∧ y = .bl j ∧ Q (.bl (i != j)) H) := by
  intro pins s σ H x y v u Q I rx ry h
  obtain ⟨i, j, rfl, rfl, q⟩ := h
  cases rx
  cases ry
  exact isnot_bool ⟨.bl _, H, I, rfl, q⟩
def oIsB : O2
  | .bl i, .bl j, P => P (.bl (i == j))
  | _, _, _ => fun _ => False
def oNotB : O2
  | .bl i, .bl j, P => P (.bl (i != j))
  | _, _, _ => fun _ => False
theorem op_oIsB : Op2 X W (compareOp .Is) oIsB := by
  refine op2_of op_isB fun g F H x y a b P Q w ra rb p q => ?_
  cases a with
  | bl i =>
    cases b with
    | bl j => cases ra; cases rb; exact ⟨i, j, rfl, rfl, q _ H F _ g (Grow.refl w) (.bl _) p⟩
    | _ => exact False.elim p
  | _ => exact False.elim p
theorem op_oNotB : Op2 X W (compareOp .IsNot) oNotB := by
  refine op2_of op_isnotB fun g F H x y a b P Q w ra rb p q => ?_
  cases a with
  | bl i =>
    cases b with
    | bl j => cases ra; cases rb; exact ⟨i, j, rfl, rfl, q _ H F _ g (Grow.refl w) (.bl _) p⟩
    | _ => exact False.elim p
  | _ => exact False.elim p
end
end DL

set_option Elab.async false
set_option linter.all false
set_option maxRecDepth 100000
set_option maxHeartbeats 4000000
namespace DL
open PySem PySem.Spec L2
open PyProof.Rows hiding St
section
variable {X : Cx} {W : Wd} {e a b c : Expr} {es : List Expr} {φ ψ χ : DT} {α : DA} {pos : Pos} {β γ : DB}
/-! ### arguments -/
def rNil : DA := fun _ P => P []
def rCons (φ : DT) (α : DA) : DA := fun ρ P => φ ρ fun x => α ρ fun xs => P (x :: xs)
theorem da_nil : DAr W X [] rNil := pa_imp pa_nil fun σ H Q ⟨g, F, ρ, P, w, en, p, q⟩ => q [] H F [] g (Grow.refl w) .nil p
theorem da_cons (h : DE W X e φ) (t : DAr W X es α) (hs : starEach (e :: es) X.env = (false, eval e X.env) :: starEach es X.env := by rfl) : DAr W X (e :: es) (rCons φ α) :=
  pa_imp (pa_cons h t hs) fun σ H Q ⟨g, F, ρ, P, w, en, p, q⟩ =>
    ⟨g, F, ρ, _, w, en, p, fun x H1 F1 d g1 G1 r1 p1 => ⟨g1, F1, ρ, _, G1.wld, en.grow G1, p1, fun xs H2 F2 ds g2 G2 r2 p2 => q (x :: xs) H2 F2 (d :: ds) g2 (G1.trans G2) (.cons (r1.mono G2.fz) r2) p2⟩⟩
/-! ### calls of built-ins, by values -/
abbrev OC := List D → (D → GP) → GP
def Cal (X : Cx) (W : Wd) (f : Value) (r : OC) : Prop :=
  ∃ R, CallR X f R ∧ ∀ (g : Nat) (F H : Hp) (vs : List V) (ds : List D) (P : D → GP) (Q : VK), Wld X.K W g F H → Reps X.K W F vs ds → r ds P g →
    (∀ v H' F' d g', Grow X.K W F H g' F' H' → Rep X.K W F' v d → P d g' → Q v H') → R vs H Q
theorem cal_read {K : PySem.W.Frag} {R : List V → Hp → VK → Prop} {r : OC} {σ : St} {H : Hp} {Q : VK}
    (k : ∀ (g : Nat) (F H : Hp) (vs : List V) (ds : List D) (P : D → GP) (Q : VK), Wld K W g F H → Reps K W F vs ds → r ds P g →
    (∀ v H' F' d g', Grow K W F H g' F' H' → Rep K W F' v d → P d g' → Q v H') → R vs H Q)
    (h : tD K W (fun ρ P => α ρ fun ds => r ds P) σ H Q) : tCB R (tDA K W α) σ H Q := by
  obtain ⟨g, F, ρ, P, w, en, p, q⟩ := h
  exact ⟨g, F, ρ, _, w, en, p, fun vs H1 F1 ds g1 G1 r1 p1 => k g1 F1 H1 vs ds P Q G1.wld r1 p1 fun v H' F' d g' G2 r2 p2 => q v H' F' d g' (G1.trans G2) r2 p2⟩
theorem d_callB {id : String} {x : Str} {p : Pos} {r : OC} (hc : Cal X W (.builtin id) r) (hg : Gl X x) (hm : X.mg x = none) (hv : bootBuiltins x = some (.builtin id)) (ha : DAr W X (e :: es) α) (hn : x ≠ "__name__" := by decide) (hdb : (x == ("__debug__" : Str)) = false := by decide)
    (he : starEach (e :: es) X.env = (false, eval e X.env) :: starEach es X.env := by rfl) (hpl : (backTo pos (starEach es X.env)).any (·.1) = false := by rfl) :
    DE W X (.Call (.Name x p) (e :: es) [] pos) (fun ρ P => α ρ fun ds => r ds P) := by
  obtain ⟨R, hR, k⟩ := hc
  exact pe_imp (pe_callB hR hg hm hv ha hn hdb he hpl) fun σ H Q h => cal_read k h
theorem d_callTy {T : String} {x : Str} {p : Pos} {r : OC} (hc : Cal X W (.type T) r) (hg : Gl X x) (hm : X.mg x = none) (hv : bootBuiltins x = some (.type T)) (ha : DAr W X (e :: es) α) (hn : x ≠ "__name__" := by decide) (hdb : (x == ("__debug__" : Str)) = false := by decide)
    (he : starEach (e :: es) X.env = (false, eval e X.env) :: starEach es X.env := by rfl) (hpl : (backTo pos (starEach es X.env)).any (·.1) = false := by rfl) :
    DE W X (.Call (.Name x p) (e :: es) [] pos) (fun ρ P => α ρ fun ds => r ds P) := by
  obtain ⟨R, hR, k⟩ := hc
  exact pe_imp (pe_callTy hR hg hm hv ha hn hdb he hpl) fun σ H Q h => cal_read k h
/-- a built-in function under a name of the module -/
theorem d_callBf {id : String} {x : Str} {p : Pos} {r : OC} (hc : Cal X W (.builtin id) r) (hg : Gl X x) (hm : X.mg x = some (.builtin id)) (ha : DAr W X (e :: es) α) (hdb : (x == ("__debug__" : Str)) = false := by decide)
    (he : starEach (e :: es) X.env = (false, eval e X.env) :: starEach es X.env := by rfl) (hpl : (backTo pos (starEach es X.env)).any (·.1) = false := by rfl) :
    DE W X (.Call (.Name x p) (e :: es) [] pos) (fun ρ P => α ρ fun ds => r ds P) := by
  obtain ⟨R, hR, k⟩ := hc
  exact pe_imp (pe_callBfun hR hg hm ha hdb he hpl) fun σ H Q h => cal_read k h
theorem cal_of {f : Value} {R : List V → Hp → VK → Prop} {r : OC} (h : CallR X f R) (k : ∀ (g : Nat) (F H : Hp) (vs : List V) (ds : List D) (P : D → GP) (Q : VK), Wld X.K W g F H → Reps X.K W F vs ds → r ds P g →
    (∀ v H' F' d g', Grow X.K W F H g' F' H' → Rep X.K W F' v d → P d g' → Q v H') → R vs H Q) : Cal X W f r := ⟨R, h, k⟩
theorem reps1 {K : PySem.W.Frag} {F : Hp} {vs : List V} {d : D} (r : Reps K W F vs [d]) : ∃ v, vs = [v] ∧ Rep K W F v d := by
  cases r with | cons h t => cases t; exact ⟨_, rfl, h⟩
theorem reps2 {K : PySem.W.Frag} {F : Hp} {vs : List V} {d e : D} (r : Reps K W F vs [d, e]) : ∃ v u, vs = [v, u] ∧ Rep K W F v d ∧ Rep K W F u e := by
  cases r with | cons h t => obtain ⟨u, rfl, h2⟩ := reps1 t; exact ⟨_, _, rfl, h, h2⟩
/-- len -/
def bLen : OC
  | [.tup xs], P => P (.int xs.length)
  | [.lst xs], P => P (.int xs.length)
  | [.str x], P => fun g => x.length ≤ sizeLine ∧ P (.int x.length) g
  | _, _ => fun _ => False
theorem cal_len : Cal X W (.builtin "len") bLen := by
  refine cal_of call_len fun g F H vs ds P Q w r p q => ?_
  match ds, p with
  | [.tup xs], p =>
    obtain ⟨v, rfl, h⟩ := reps1 r
    cases h with
    | tup h z t => exact ⟨_, xs.length, rfl, .inr ⟨_, sqT_mono w.sub h, t.length.symm⟩, q _ H F _ g (Grow.refl w) (.int _) p⟩
  | [.lst xs], p =>
    obtain ⟨v, rfl, h⟩ := reps1 r
    cases h with
    | lst h z t => exact ⟨_, xs.length, rfl, .inl ⟨_, SqL.of (w.sub _ _ h), t.length.symm⟩, q _ H F _ g (Grow.refl w) (.int _) p⟩
  | [.str x], p =>
    obtain ⟨v, rfl, h⟩ := reps1 r
    cases h
    exact ⟨_, x.length, rfl, ⟨p.1, rfl⟩, q _ H F _ g (Grow.refl w) (.int _) p.2⟩
def bAbs : OC
  | [.int i], P => P (.int (if i < 0 then -i else i))
  | _, _ => fun _ => False
theorem cal_abs : Cal X W (.builtin "abs") bAbs := by
  refine cal_of call_abs fun g F H vs ds P Q w r p q => ?_
  match ds, p with
  | [.int i], p =>
    obtain ⟨v, rfl, h⟩ := reps1 r
    cases h
    exact ⟨i, rfl, q _ H F _ g (Grow.refl w) (.int _) p⟩
def bInt : OC
  | [.int i], P => P (.int i)
  | [.bl k], P => P (.int (if k then 1 else 0))
  | _, _ => fun _ => False
theorem cal_int : Cal X W (.type "int") bInt := by
  refine cal_of call_int1 fun g F H vs ds P Q w r p q => ?_
  match ds, p with
  | [.int i], p =>
    obtain ⟨v, rfl, h⟩ := reps1 r
    cases h
    exact .inl ⟨i, rfl, q _ H F _ g (Grow.refl w) (.int _) p⟩
  | [.bl i], p =>
    obtain ⟨v, rfl, h⟩ := reps1 r
    cases h
    exact .inr ⟨i, rfl, q _ H F _ g (Grow.refl w) (.int _) p⟩
def bStr : OC
  | [.int i], P => fun g => i.natAbs.log2 < 1920 ∧ P (.str (toString i)) g
  | _, _ => fun _ => False
theorem cal_str : Cal X W (.type "str") bStr := by
  refine cal_of call_str_int fun g F H vs ds P Q w r p q => ?_
  match ds, p with
  | [.int i], p =>
    obtain ⟨v, rfl, h⟩ := reps1 r
    cases h
    exact ⟨i, rfl, p.1, q _ H F _ g (Grow.refl w) (.str _) p.2⟩
/-- tuple(xs) -/
def bTuple : OC
  | [.tup xs], P => P (.tup xs)
  | [.lst xs], P => P (.tup xs)
  | _, _ => fun _ => False
theorem cal_tuple : Cal X W (.type "tuple") bTuple := by
  refine cal_of call_tuple_of fun g F H vs ds P Q w r p q => ?_
  match ds, p with
  | [.tup xs], p =>
    obtain ⟨v, rfl, h⟩ := reps1 r
    cases h with
    | tup h z t => exact ⟨_, _, rfl, .inr ⟨sqT_mono w.sub h, q _ H F _ g (Grow.refl w) (.tup h z t) p⟩⟩
  | [.lst xs], p =>
    obtain ⟨v, rfl, h⟩ := reps1 r
    cases h with
    | lst h z t => exact ⟨_, _, rfl, .inl ⟨SqL.of (w.sub _ _ h), fun l n => q _ _ _ _ g (Grow.new w _ n) (.tup (.inl (.inl upd_same)) z (t.mono (same_upd (w.fnone n)))) p⟩⟩
/-- math.gcd -/
def bGcd : OC
  | [.int i, .int j], P => P (.int ((Nat.gcd i.natAbs j.natAbs : Nat) : Int))
  | _, _ => fun _ => False
theorem cal_gcd : Cal X W (.builtin "math.gcd") bGcd := by
  refine cal_of cr_gcd fun g F H vs ds P Q w r p q => ?_
  match ds, p with
  | [.int i, .int j], p =>
    obtain ⟨v, u, rfl, h, h2⟩ := reps2 r
    cases h; cases h2
    exact ⟨i, j, rfl, q _ H F _ g (Grow.refl w) (.int _) p⟩
/-- min, max of two ints -/
def bMin : OC
  | [.int i, .int j], P => P (.int (if j < i then j else i))
  | _, _ => fun _ => False
theorem cal_min (hc : X.calm = true) : Cal X W (.builtin "min") bMin := by
  refine cal_of (call_min2 hc) fun g F H vs ds P Q w r p q => ?_
  match ds, p with
  | [.int i, .int j], p =>
    obtain ⟨v, u, rfl, h, h2⟩ := reps2 r
    cases h; cases h2
    exact ⟨i, j, rfl, q _ H F _ g (Grow.refl w) (.int _) p⟩
/-- all, any of a list of bools -/
def D.bls : List D → Option (List Bool)
  | [] => some []
  | .bl b :: r => (D.bls r).map (b :: ·)
  | _ => none
theorem bls_rep {K : PySem.W.Frag} {F : Hp} : ∀ {ds : List D} {vs : List V} {bs : List Bool}, Reps K W F vs ds → D.bls ds = some bs → vs = bs.map V.bl
  | [], _, _, .nil, h => by simp only [D.bls, Option.some.injEq] at h; subst h; rfl
  | .bl b :: r, _, bs, .cons h t, e => by
    simp only [D.bls, Option.map_eq_some_iff] at e
    obtain ⟨cs, e1, rfl⟩ := e
    cases h
    rw [bls_rep t e1]; rfl
  | .non :: _, _, _, _, e | .int _ :: _, _, _, _, e | .str _ :: _, _, _, _, e | .tup _ :: _, _, _, _, e | .lst _ :: _, _, _, _, e | .dic _ _ :: _, _, _, _, e | .obj _ _ _ :: _, _, _, _, e | .pen :: _, _, _, _, e => by simp [D.bls] at e
def bAll : OC := fun ds P g => ∃ xs bs, ds = [.lst xs] ∧ D.bls xs = some bs ∧ P (.bl (bs.all id)) g
def bAny : OC := fun ds P g => ∃ xs bs, ds = [.lst xs] ∧ D.bls xs = some bs ∧ P (.bl (bs.any id)) g
theorem cal_all (hc : X.calm = true) : Cal X W (.builtin "all") bAll := by
  refine cal_of (cr_all hc) fun g F H vs ds P Q w r p q => ?_
  obtain ⟨xs, bs, rfl, e, p⟩ := p
  obtain ⟨v, rfl, h⟩ := reps1 r
  cases h with
  | lst h z t => exact ⟨_, bs, rfl, by rw [← bls_rep t e]; exact SqL.of (w.sub _ _ h), q _ H F _ g (Grow.refl w) (.bl _) p⟩
theorem cal_any (hc : X.calm = true) : Cal X W (.builtin "any") bAny := by
  refine cal_of (cr_any hc) fun g F H vs ds P Q w r p q => ?_
  obtain ⟨xs, bs, rfl, e, p⟩ := p
  obtain ⟨v, rfl, h⟩ := reps1 r
  cases h with
  | lst h z t => exact ⟨_, bs, rfl, by rw [← bls_rep t e]; exact SqL.of (w.sub _ _ h), q _ H F _ g (Grow.refl w) (.bl _) p⟩
/-- x.bit_length() -/
def rBits (φ : DT) : DT := fun ρ P => φ ρ fun x g => ∃ i, x = .int i ∧ P (.int (Builtin.Int.intBits i : Nat)) g
theorem d_bits {apos : Pos} (ho : DE W X e φ) (hbase : attributeBase e "bit_length" X.env (eval e X.env) = eval e X.env := by rfl) (hline : (apos.endLine == pos.line) = true := by rfl) : DE W X (.Call (.Attribute e "bit_length" apos) [] [] pos) (rBits φ) :=
  pe_imp (pe_bits ho hbase hline) fun σ H Q ⟨g, F, ρ, P, w, en, p, q⟩ => ⟨g, F, ρ, _, w, en, p, fun v H1 F1 d g1 G1 r1 ⟨i, hi, p1⟩ => by
    subst hi; cases r1; exact ⟨i, rfl, q _ H1 F1 _ g1 G1 (.int _) p1⟩⟩

/-! ### unary, not, and, or, if -/
def oNeg : O1
  | .int i, P => P (.int (-i))
  | _, _ => fun _ => False
theorem d_neg (ha : DE W X a φ) : DE W X (.UnaryOp .USub a pos) (fun ρ P => φ ρ fun x => oNeg x P) :=
  pe_imp (pe_un un_neg ha) fun σ H Q ⟨g, F, ρ, P, w, en, p, q⟩ => ⟨g, F, ρ, _, w, en, p, fun v H1 F1 d g1 G1 r1 p1 => by
    cases d with
    | int i => cases r1; exact ⟨i, rfl, q _ H1 F1 _ g1 G1 (.int _) p1⟩
    | _ => exact False.elim p1⟩
theorem d_not (ha : DE W X a φ) : DE W X (.UnaryOp .Not a pos) (fun ρ P => φ ρ fun x => isB x fun k => P (.bl (!k))) :=
  pe_imp (pe_not ha) fun σ H Q ⟨g, F, ρ, P, w, en, p, q⟩ => ⟨g, F, ρ, _, w, en, p, fun v H1 F1 d g1 G1 r1 p1 => by
    obtain ⟨k, rfl, p2⟩ := isB_of p1
    cases r1; exact ⟨k, rfl, q _ H1 F1 _ g1 G1 (.bl _) p2⟩⟩
variable {rest : List Expr}
theorem d_one {op} (h : DE W X a φ) : DE W X (.BoolOp op [a] pos) φ := pe_one h
theorem d_and (ha : DE W X a φ) (hb : DE W X (.BoolOp .And (b :: rest) pos) ψ) : DE W X (.BoolOp .And (a :: b :: rest) pos) (fun ρ P => φ ρ fun x => isB x fun k => if k = true then ψ ρ P else P (.bl false)) :=
  pe_imp (pe_and ha hb) fun σ H Q ⟨g, F, ρ, P, w, en, p, q⟩ => ⟨g, F, ρ, _, w, en, p, fun v H1 F1 d g1 G1 r1 p1 => by
    obtain ⟨k, rfl, p2⟩ := isB_of p1
    cases r1
    refine ⟨k, rfl, ?_⟩
    cases k with
    | true => exact ⟨g1, F1, ρ, P, G1.wld, en.grow G1, p2, fun v H' F' d g' G r p => q v H' F' d g' (G1.trans G) r p⟩
    | false => exact q _ H1 F1 _ g1 G1 (.bl _) p2⟩
theorem d_or (ha : DE W X a φ) (hb : DE W X (.BoolOp .Or (b :: rest) pos) ψ) : DE W X (.BoolOp .Or (a :: b :: rest) pos) (fun ρ P => φ ρ fun x => isB x fun k => if k = true then P (.bl true) else ψ ρ P) :=
  pe_imp (pe_or ha hb) fun σ H Q ⟨g, F, ρ, P, w, en, p, q⟩ => ⟨g, F, ρ, _, w, en, p, fun v H1 F1 d g1 G1 r1 p1 => by
    obtain ⟨k, rfl, p2⟩ := isB_of p1
    cases r1
    refine ⟨k, rfl, ?_⟩
    cases k with
    | false => exact ⟨g1, F1, ρ, P, G1.wld, en.grow G1, p2, fun v H' F' d g' G r p => q v H' F' d g' (G1.trans G) r p⟩
    | true => exact q _ H1 F1 _ g1 G1 (.bl _) p2⟩
/-- tests -/
theorem dt_val (h : DE W X e φ) (he : ∀ whole, isTrue e X.env whole = (do let v ← whole; standAt e.pos; holding [v] (truthy v)) := by intro _; rfl) : DTe W X e (fun ρ P => φ ρ fun z => isB z P) :=
  pt_imp (pt_val h he) fun σ H Q ⟨g, F, ρ, P, w, en, p, q⟩ => ⟨g, F, ρ, _, w, en, p, fun v H1 F1 d g1 G1 r1 p1 => by
    obtain ⟨k, rfl, p2⟩ := isB_of p1
    cases r1; exact ⟨k, rfl, q k H1 F1 g1 G1 p2⟩⟩
theorem dt_not (h : DTe W X a β) : DTe W X (.UnaryOp .Not a pos) (fun ρ P => β ρ fun k => P (!k)) :=
  pt_imp (pt_not h) fun σ H Q ⟨g, F, ρ, P, w, en, p, q⟩ => ⟨g, F, ρ, _, w, en, p, fun b H1 F1 g1 G1 p1 => q _ H1 F1 g1 G1 p1⟩
theorem dw_and1 (ha : DTe W X a β) : DWe W X (.BoolOp .And [a] pos) β := pw_and1 ha
theorem dw_or1 (ha : DTe W X a β) : DWe W X (.BoolOp .Or [a] pos) β := pw_or1 ha
theorem dw_and (ha : DTe W X a β) (hb : DWe W X (.BoolOp .And (b :: rest) pos) γ) : DWe W X (.BoolOp .And (a :: b :: rest) pos) (fun ρ P => β ρ fun k => if k = true then γ ρ P else P false) :=
  pw_imp (pw_and ha hb) fun σ H Q ⟨g, F, ρ, P, w, en, p, q⟩ => ⟨g, F, ρ, _, w, en, p, fun k H1 F1 g1 G1 p1 => by
    cases k with
    | true => exact ⟨g1, F1, ρ, P, G1.wld, en.grow G1, p1, fun b H' F' g' G p => q b H' F' g' (G1.trans G) p⟩
    | false => exact q _ H1 F1 g1 G1 p1⟩
theorem dw_or (ha : DTe W X a β) (hb : DWe W X (.BoolOp .Or (b :: rest) pos) γ) : DWe W X (.BoolOp .Or (a :: b :: rest) pos) (fun ρ P => β ρ fun k => if k = true then P true else γ ρ P) :=
  pw_imp (pw_or ha hb) fun σ H Q ⟨g, F, ρ, P, w, en, p, q⟩ => ⟨g, F, ρ, _, w, en, p, fun k H1 F1 g1 G1 p1 => by
    cases k with
    | false => exact ⟨g1, F1, ρ, P, G1.wld, en.grow G1, p1, fun b H' F' g' G p => q b H' F' g' (G1.trans G) p⟩
    | true => exact q _ H1 F1 g1 G1 p1⟩
theorem dt_w (h : DWe W X e β) : DTe W X e β := PW.pt h
theorem d_if (hc : DTe W X c β) (ha : DE W X a φ) (hb : DE W X b ψ) : DE W X (.IfExp c a b pos) (fun ρ P => β ρ fun k => if k = true then φ ρ P else ψ ρ P) :=
  pe_imp (pe_ifExp hc ha hb) fun σ H Q ⟨g, F, ρ, P, w, en, p, q⟩ => ⟨g, F, ρ, _, w, en, p, fun k H1 F1 g1 G1 p1 => by
    cases k with
    | true => exact ⟨g1, F1, ρ, P, G1.wld, en.grow G1, p1, fun v H' F' d g' G r p => q v H' F' d g' (G1.trans G) r p⟩
    | false => exact ⟨g1, F1, ρ, P, G1.wld, en.grow G1, p1, fun v H' F' d g' G r p => q v H' F' d g' (G1.trans G) r p⟩⟩
/-- a op b op' c -/
theorem d_chain {op op' : CmpOp} {r r' : O2} (ho : Op2 X W (compareOp op) r) (ho' : Op2 X W (compareOp op') r') (ha : DE W X a φ) (hb : DE W X b ψ) (hc : DE W X c χ)
    (hm : lastMarks [op, op'] [b, c] = false := by with_unfolding_all rfl) : DE W X (.Compare a [op, op'] [b, c] pos) (fun ρ P => φ ρ fun x => ψ ρ fun y => r x y fun z => isB z fun k => if k = true then χ ρ fun u => r' y u P else P (.bl false)) := by
  obtain ⟨R, hR, k⟩ := ho
  obtain ⟨R', hR', k'⟩ := ho'
  refine pe_imp (pe_chain hR hR' ha hb hc hm) fun σ H Q ⟨g, F, ρ, P, w, en, p, q⟩ => ?_
  refine ⟨g, F, ρ, _, w, en, p, fun x H1 F1 a g1 G1 r1 p1 => ⟨g1, F1, ρ, _, G1.wld, en.grow G1, p1, fun y H2 F2 b g2 G2 r2 p2 => ?_⟩⟩
  refine k g2 F2 H2 x y a b _ _ G2.wld (r1.mono G2.fz) r2 p2 fun z H3 F3 d g3 G3 r3 p3 => ?_
  obtain ⟨kk, rfl, p4⟩ := isB_of p3
  cases r3
  refine ⟨kk, rfl, ?_⟩
  have G123 := (G1.trans G2).trans G3
  cases kk with
  | false => exact q _ H3 F3 _ g3 G123 (.bl _) p4
  | true => exact ⟨g3, F3, ρ, _, G3.wld, en.grow G123, p4, fun u H4 F4 e g4 G4 r4 p5 => k' g4 F4 H4 y u b e P Q G4.wld (r2.mono (G3.fz.trans G4.fz)) r4 p5 fun v H' F' d g' G r p => q v H' F' d g' ((G123.trans G4).trans G) r p⟩
theorem dt_chain {op op' : CmpOp} {r r' : O2} (ho : Op2 X W (compareOp op) r) (ho' : Op2 X W (compareOp op') r') (ha : DE W X a φ) (hb : DE W X b ψ) (hc : DE W X c χ)
    (hm : lastMarks [op, op'] [b, c] = false := by with_unfolding_all rfl) : DTe W X (.Compare a [op, op'] [b, c] pos) (fun ρ P => φ ρ fun x => ψ ρ fun y => r x y fun z => isB z fun k => if k = true then χ ρ fun u => r' y u fun z2 => isB z2 P else P false) := by
  obtain ⟨R, hR, k⟩ := ho
  obtain ⟨R', hR', k'⟩ := ho'
  refine pt_imp (pt_chain hR hR' ha hb hc hm) fun σ H Q ⟨g, F, ρ, P, w, en, p, q⟩ => ?_
  refine ⟨g, F, ρ, _, w, en, p, fun x H1 F1 a g1 G1 r1 p1 => ⟨g1, F1, ρ, _, G1.wld, en.grow G1, p1, fun y H2 F2 b g2 G2 r2 p2 => ?_⟩⟩
  refine k g2 F2 H2 x y a b _ _ G2.wld (r1.mono G2.fz) r2 p2 fun z H3 F3 d g3 G3 r3 p3 => ?_
  obtain ⟨kk, rfl, p4⟩ := isB_of p3
  cases r3
  refine ⟨kk, rfl, ?_⟩
  have G123 := (G1.trans G2).trans G3
  cases kk with
  | false => exact ⟨false, rfl, q _ H3 F3 g3 G123 p4⟩
  | true =>
    refine ⟨g3, F3, ρ, _, G3.wld, en.grow G123, p4, fun u H4 F4 e g4 G4 r4 p5 => k' g4 F4 H4 y u b e _ _ G4.wld (r2.mono (G3.fz.trans G4.fz)) r4 p5 fun v H' F' d g' G r p => ?_⟩
    obtain ⟨k2, rfl, p6⟩ := isB_of p
    cases r
    exact ⟨k2, rfl, q k2 H' F' g' ((G123.trans G4).trans G) p6⟩
/-! ### subscripts -/
def oIx : O2
  | .tup xs, .int i, P => fun g => ∃ d, atI xs i = some d ∧ P d g
  | .lst xs, .int i, P => fun g => ∃ d, atI xs i = some d ∧ P d g
  | _, _, _ => fun _ => False
theorem Reps.at {K : PySem.W.Frag} {F : Hp} {vs : List V} {ds : List D} {i : Int} {d : D} (r : Reps K W F vs ds) (h : atI ds i = some d) : ∃ v, atI vs i = some v ∧ Rep K W F v d := by
  unfold atI at h ⊢
  rw [r.length]
  cases e : ixN ds.length i with
  | none => rw [e] at h; simp at h
  | some j =>
    rw [e] at h
    obtain ⟨v, h1, h2⟩ := r.get (i := j) (d := d) h
    exact ⟨v, h1, h2⟩
theorem d_ix (ha : DE W X a φ) (hb : DE W X b ψ) (hs : PlainIx b := by exact fun _ _ => rfl) : DE W X (.Subscript a b pos) (fun ρ P => φ ρ fun x => ψ ρ fun y => oIx x y P) :=
  pe_imp (pe_ix ix_seq ha hb hs) fun σ H Q h => bin_read h fun g F H1 x y a b P w ra rb p q => by
    cases a with
    | tup xs =>
      cases b with
      | int i =>
        obtain ⟨d, e1, p⟩ := p
        cases rb
        cases ra with
        | tup h z t =>
          obtain ⟨v, e2, rv⟩ := t.at e1
          exact .inr (.inl ⟨_, _, i, v, rfl, rfl, sqT_mono w.sub h, e2, q _ H1 F _ g (Grow.refl w) rv p⟩)
      | _ => exact False.elim p
    | lst xs =>
      cases b with
      | int i =>
        obtain ⟨d, e1, p⟩ := p
        cases rb
        cases ra with
        | lst h z t =>
          obtain ⟨v, e2, rv⟩ := t.at e1
          exact .inl ⟨_, _, i, v, rfl, rfl, SqL.of (w.sub _ _ h), e2, q _ H1 F _ g (Grow.refl w) rv p⟩
      | _ => exact False.elim p
    | _ => exact False.elim p
end
end DL

set_option Elab.async false
set_option linter.all false
set_option maxRecDepth 100000
set_option maxHeartbeats 4000000
namespace DL
open PySem PySem.Spec L2
open PyProof.Rows hiding St
section
variable {X : Cx} {W : Wd} {e a b c o : Expr} {es : List Expr} {φ ψ χ : DT} {α : DA} {pos p2 : Pos} {β γ : DB} {lo hi : Option Expr}
/-! ### slices -/
abbrev DO := List SV → (Option Int → GP) → GP
def tDO (K : PySem.W.Frag) (W : Wd) (φ : DO) : TO := fun σ H Q => ∃ g F ρ P, Wld K W g F H ∧ EnvR K W F H σ ρ ∧ φ ρ P g ∧ ∀ i H' F' g', Grow K W F H g' F' H' → P i g' → Q i H'
abbrev DOp (W : Wd) (X : Cx) (e : Option Expr) (φ : DO) : Prop := PO X e (tDO X.K W φ)
theorem po_imp {e : Option Expr} {t t' : TO} (h : PO X e t) (i : ∀ σ H Q, t' σ H Q → t σ H Q) : PO X e t' := ⟨fun pins s σ H Q I q => h.run pins s σ H Q I (i σ H Q q)⟩
def rNoP : DO := fun _ P => P none
def isI : D → (Int → GP) → GP
  | .int i, P => P i
  | _, _ => fun _ => False
theorem isI_of {d : D} {P : Int → GP} {g : Nat} (h : isI d P g) : ∃ i, d = .int i ∧ P i g := by
  cases d <;> first | exact ⟨_, rfl, h⟩ | exact False.elim h
theorem do_none : DOp W X none rNoP := po_imp po_none fun σ H Q ⟨g, F, ρ, P, w, en, p, q⟩ => q none H F g (Grow.refl w) p
theorem do_some (h : DE W X e φ) : DOp W X (some e) (fun ρ P => φ ρ fun x => isI x fun i => P (some i)) :=
  po_imp (po_some h) fun σ H Q ⟨g, F, ρ, P, w, en, p, q⟩ => ⟨g, F, ρ, _, w, en, p, fun v H1 F1 d g1 G1 r1 p1 => by
    obtain ⟨i, rfl, p2⟩ := isI_of p1
    cases r1; exact ⟨i, rfl, q _ H1 F1 g1 G1 p2⟩⟩
def cutD (xs : List D) (lo hi : Option Int) : List D := (xs.drop (HT.sIx xs.length 0 lo)).take (HT.sIx xs.length xs.length hi - HT.sIx xs.length 0 lo)
theorem Reps.cut {K : PySem.W.Frag} {F : Hp} {vs : List V} {ds : List D} (r : Reps K W F vs ds) (l u : Option Int) : Reps K W F (cutV vs l u) (cutD ds l u) := by
  unfold cutV cutD
  rw [r.length]
  exact (r.drop _).take _
theorem cutD_length (xs : List D) (lo hi : Option Int) : (cutD xs lo hi).length ≤ xs.length := by
  unfold cutD
  rw [List.length_take, List.length_drop]
  omega
/-- of a tuple not the whole, of a list any -/
def oCut (x : D) (l u : Option Int) (P : D → GP) : GP := match x with
  | .tup xs => fun g => ¬ (HT.sIx xs.length 0 l = 0 ∧ HT.sIx xs.length xs.length u = xs.length) ∧ P (.tup (cutD xs l u)) g
  | .lst xs => P (.lst (cutD xs l u))
  | _ => fun _ => False
theorem d_slice {ω ω' : DO} (he : DE W X e φ) (hl : DOp W X lo ω) (hu : DOp W X hi ω') : DE W X (.Subscript e (.Slice lo hi none p2) pos) (fun ρ P => φ ρ fun x => ω ρ fun l => ω' ρ fun u => oCut x l u P) :=
  pe_imp (pe_slice (sl_tup.or sl_list) he hl hu) fun σ H Q ⟨g, F, ρ, P, w, en, p, q⟩ => ⟨g, F, ρ, _, w, en, p, fun v H1 F1 d g1 G1 r1 p1 =>
    ⟨g1, F1, ρ, _, G1.wld, en.grow G1, p1, fun l H2 F2 g2 G2 p2 => ⟨g2, F2, ρ, _, G2.wld, en.grow (G1.trans G2), p2, fun u H3 F3 g3 G3 p3 => by
      have G := (G1.trans G2).trans G3
      have w3 := G3.wld
      have r := r1.mono (G2.fz.trans G3.fz)
      cases d with
      | tup xs =>
        obtain ⟨n, p4⟩ := p3
        cases r with
        | tup h z t =>
          refine .inl ⟨_, _, rfl, sqT_mono w3.sub h, by rw [t.length]; exact n, fun a na => ?_⟩
          exact q _ _ _ _ g3 (G.trans (Grow.new w3 _ na)) (.tup (.inl (.inl upd_same)) (Nat.le_trans (cutD_length _ _ _) z) ((t.cut l u).mono (same_upd (w3.fnone na)))) p4
      | lst xs =>
        cases r with
        | lst h z t =>
          refine .inr ⟨_, _, rfl, SqL.of (w3.sub _ _ h), fun a na => ?_⟩
          exact q _ _ _ _ g3 (G.trans (Grow.new w3 _ na)) (.lst upd_same (Nat.le_trans (cutD_length _ _ _) z) ((t.cut l u).mono (same_upd (w3.fnone na)))) p3
      | _ => exact False.elim p3⟩⟩⟩

/-! ### displays -/
theorem d_tup {x1} (h : DAr W X es α) : DE W X (.Tuple es x1 pos) (fun ρ P => α ρ fun xs g => xs.length ≤ sizeLine ∧ P (.tup xs) g) :=
  pe_imp (pe_tup h) fun σ H Q ⟨g, F, ρ, P, w, en, p, q⟩ => ⟨g, F, ρ, _, w, en, p, fun vs H1 F1 ds g1 G1 r1 p1 => ⟨by rw [r1.length]; exact p1.1, fun a n =>
    q _ _ _ _ g1 (G1.trans (Grow.new G1.wld _ n)) (.tup (.inl (.inl upd_same)) p1.1 (r1.mono (same_upd (G1.wld.fnone n)))) p1.2⟩⟩
/-- a list that is new, one's own -/
def tDF (K : PySem.W.Frag) (W : Wd) (φ : DA) : TE := fun σ H Q => ∃ g F ρ P, Wld K W g F H ∧ EnvR K W F H σ ρ ∧ φ ρ P g ∧
  ∀ p H' F' vs ds g', H p = none → Grow K W F H g' F' H' → F' p = none → H' p = some (.lst vs) → Reps K W F' vs ds → ds.length ≤ sizeLine → P ds g' → Q (.ref p) H'
abbrev DF (W : Wd) (X : Cx) (e : Expr) (φ : DA) : Prop := PE X e (tDF X.K W φ)
theorem Grow.freeze {K : PySem.W.Frag} {g g' : Nat} {F F' H H' : Hp} {p : Addr} {vs : List V} (G : Grow K W F H g' F' H') (w : Wld K W g F H) (n : H p = none) (n' : F' p = none) (h : H' p = some (.lst vs)) : Grow K W F H g' (upd F' p (.lst vs)) H' := by
  refine ⟨G.fz.trans (same_upd n'), fun a u e q r => ?_, fun b u e => ?_, ?_, same_upd n' _ _ G.wld.cel, ?_⟩
  · obtain ⟨h1, h2⟩ := G.own a u e q r
    have : a ≠ p := ne_of_none e n
    rw [upd_ne this]; exact ⟨h1, h2⟩
  · by_cases hb : b = p
    · subst hb; rw [upd_same] at e; rw [h]; exact e
    · rw [upd_ne hb] at e; exact G.wld.sub b u e
  · rw [upd_ne (Ne.symm (w.ne n))]; exact G.wld.nopen
  · exact G.wld.pen
theorem d_of_f (h : DF W X e α) : DE W X e (fun ρ P => α ρ fun ds => P (.lst ds)) :=
  pe_imp h fun σ H Q ⟨g, F, ρ, P, w, en, p, q⟩ => ⟨g, F, ρ, _, w, en, p, fun a H' F' vs ds g' n G n' h r z p1 =>
    q _ _ _ _ g' (G.freeze w n n' h) (.lst upd_same z (r.mono (same_upd n'))) p1⟩
theorem Grow.fresh {K : PySem.W.Frag} {g1 : Nat} {F H F1 H1 : Hp} {a : Addr} (G1 : Grow K W F H g1 F1 H1) (n : H1 a = none) : H a = none := by
  cases e : H a with
  | none => rfl
  | some u =>
    cases e2 : F a with
    | some v =>
      have := G1.fz a v e2
      rw [G1.wld.sub a v this] at n; cases n
    | none =>
      by_cases e3 : a = W.pen
      · exact absurd (e3 ▸ n) G1.wld.hpen
      · rw [(G1.own a u e e2 e3).1] at n; cases n
theorem f_lst (h : DAr W X es α) : DF W X (.List es pos) (fun ρ P => α ρ fun xs g => xs.length ≤ sizeLine ∧ P xs g) :=
  pe_imp (pe_lst h) fun σ H Q ⟨g, F, ρ, P, w, en, p, q⟩ => ⟨g, F, ρ, _, w, en, p, fun vs H1 F1 ds g1 G1 r1 p1 => ⟨by rw [r1.length]; exact p1.1, fun a n => by
    have n0 : H a = none := G1.fresh n
    exact q a _ F1 vs ds g1 n0 (G1.trans (Grow.newOwn G1.wld _ n)) (G1.wld.fnone n) upd_same r1 p1.1 p1.2⟩⟩
/-- list(xs) -/
def asL : D → (List D → GP) → GP
  | .lst xs, P => P xs
  | .tup xs, P => P xs
  | _, _ => fun _ => False
theorem f_list {x : Str} {p : Pos} (hg : Gl X "list") (hm : X.mg "list" = none) (ha : DE W X e φ) 
    (he : starEach [e] X.env = (false, eval e X.env) :: starEach [] X.env := by rfl) (hpl : (backTo pos (starEach [] X.env)).any (·.1) = false := by rfl) :
    DF W X (.Call (.Name "list" p) [e] [] pos) (fun ρ P => φ ρ fun d => asL d P) :=
  pe_imp (pe_callTy call_list_of hg hm (by decide +kernel) (da_cons ha da_nil he) (by decide) (by decide) he hpl) fun σ H Q ⟨g, F, ρ, P, w, en, p, q⟩ =>
    ⟨g, F, ρ, fun ds => (match ds with | [d] => asL d P | _ => fun _ => False), w, en, p, fun vs H1 F1 ds g1 G1 r1 p1 => by
      match ds, p1 with
      | [], p1 => exact False.elim p1
      | _ :: _ :: _, p1 => exact False.elim p1
      | [d], p1 =>
        obtain ⟨v, rfl, h⟩ := reps1 r1
        cases d with
        | lst xs =>
          cases h with
          | lst h z t => exact ⟨_, _, rfl, .inl (SqL.of (G1.wld.sub _ _ h)), fun l n => q l _ F1 _ xs g1 (G1.fresh n) (G1.trans (Grow.newOwn G1.wld _ n)) (G1.wld.fnone n) upd_same t z p1⟩
        | tup xs =>
          cases h with
          | tup h z t => exact ⟨_, _, rfl, .inr (sqT_mono G1.wld.sub h), fun l n => q l _ F1 _ xs g1 (G1.fresh n) (G1.trans (Grow.newOwn G1.wld _ n)) (G1.wld.fnone n) upd_same t z p1⟩
        | _ => exact False.elim p1⟩
/-! ### fields, dicts -/
theorem look_zip {K : PySem.W.Frag} {F : Hp} {f : Str} : ∀ {ks : List Str} {vs : List V} {ds : List D} {d : D}, Reps K W F vs ds → (ks.zip ds).lookup f = some d → ∃ v, (ks.zip vs).lookup f = some v ∧ Rep K W F v d
  | [], _, _, _, _, h => by simp at h
  | k :: ks, _, _, _, .nil, h => by simp at h
  | k :: ks, v :: vs, d0 :: ds, d, .cons r t, h => by
    rw [List.zip_cons_cons, List.lookup_cons] at h ⊢
    cases e : f == k with
    | true => rw [e] at h; cases h; exact ⟨v, rfl, r⟩
    | false => rw [e] at h; exact look_zip (ks := ks) t h
/-- o.f, o an instance of the class c -/
def oFld (c : Nat) (f : Str) (x : D) (P : D → GP) : GP := fun g => ∃ ks xs d, x = .obj c ks xs ∧ (ks.zip xs).lookup f = some d ∧ P d g
theorem d_fld {c : Nat} {f : Str} (cl : Cls X.K (W.cls c)) (na : NoAttr X.K (W.cls c) f) (he : DE W X e φ) (hb : attributeBase e f X.env (eval e X.env) = eval e X.env := by rfl) : DE W X (.Attribute e f pos) (fun ρ P => φ ρ fun x => oFld c f x P) :=
  pe_imp (pe_fld he hb) fun σ H Q ⟨g, F, ρ, P, w, en, p, q⟩ => ⟨g, F, ρ, _, w, en, p, fun v H1 F1 d g1 G1 r1 p1 => by
    obtain ⟨ks, xs, d', rfl, l, p2⟩ := p1
    cases r1 with
    | obj h z t =>
      obtain ⟨v', l', r'⟩ := look_zip t l
      exact ⟨_, _, _, _, v', rfl, G1.wld.sub _ _ h, cl, na, l', q _ H1 F1 _ g1 G1 r' p2⟩⟩
theorem val_zip {K : PySem.W.Frag} {F : Hp} {f : Str} : ∀ {ks : List Str} {vs : List V} {ds : List D} {d : D}, Reps K W F vs ds → (ks.zip ds).lookup f = some d → ∃ v, valV ((ks.map Sum.inr : List Key).zip vs) (Sum.inr f) = some v ∧ Rep K W F v d
  | [], _, _, _, _, h => by simp at h
  | k :: ks, _, _, _, .nil, h => by simp at h
  | k :: ks, v :: vs, d0 :: ds, d, .cons r t, h => by
    rw [List.zip_cons_cons, List.lookup_cons] at h
    rw [List.map_cons, List.zip_cons_cons]
    by_cases e : k = f
    · subst e
      rw [show (k == k) = true by simp] at h
      cases h
      exact ⟨v, valV_pos rfl, r⟩
    · rw [show (f == k) = false by simpa using fun z => e z.symm] at h
      obtain ⟨v', h1, h2⟩ := val_zip (ks := ks) t h
      exact ⟨v', by rw [valV_neg (fun z => e (Sum.inr.inj z))]; exact h1, h2⟩
/-- d[k], a text's key -/
def oGet (x y : D) (P : D → GP) : GP := fun g => ∃ ks xs k d, x = .dic ks xs ∧ y = .str k ∧ (ks.zip xs).lookup k = some d ∧ P d g
theorem d_get (hu : X.A.units + 1 < cLine) (ha : DE W X a φ) (hb : DE W X b ψ) (hs : NoSl b := by exact fun _ _ => rfl) : DE W X (.Subscript a b pos) (fun ρ P => φ ρ fun x => ψ ρ fun y => oGet x y P) :=
  pe_imp (pe_dget hu ha hb hs) fun σ H Q h => bin_read h fun g F H1 x y a b P w ra rb ⟨ks, xs, k, d, e1, e2, l, p⟩ q => by
    subst e1 e2
    cases rb
    cases ra with
    | dic h z t =>
      obtain ⟨v', l', r'⟩ := val_zip t l
      exact ⟨_, v', rfl, .inl ⟨_, Sum.inr k, .inl (w.sub _ _ h), rfl, l'.symm⟩, q _ H1 F _ g (Grow.refl w) r' p⟩
/-! ### isinstance -/
def D.ty : D → Option String
  | .non => some "NoneType"
  | .bl _ => some "bool"
  | .int _ => some "int"
  | .str _ => some "str"
  | .tup _ => some "tuple"
  | .lst _ => some "list"
  | .dic _ _ => some "dict"
  | .obj _ _ _ => none
  | .pen => none
theorem ty_rep {K : PySem.W.Frag} {F H : Hp} {v : V} {d : D} {T : String} (s : Same F H) (r : Rep K W F v d) (h : d.ty = some T) : TyX K H v (.type T) := by
  cases r with
  | non => cases h; exact .base .non
  | bl b => cases h; exact .base (.bl b)
  | int i => cases h; exact .base (.int i)
  | str x => cases h; exact .base (.str x)
  | tup q z t =>
    cases h
    rcases q with (q | ⟨o, q⟩) | ⟨o, _, _, q, c, _⟩
    · exact .base (.tup (s _ _ q))
    · exact .fTuple (s _ _ q)
    · exact .kTuple q c
  | lst q z t => cases h; exact .base (.lst (s _ _ q))
  | dic q z t => cases h; exact .base (.dK (s _ _ q))
  | obj q z t => cases h
  | pen => cases h
/-- isinstance(x, T), T a built-in type -/
def oIsi (T : String) (x : D) (P : D → GP) : GP := fun g => ∃ S b, x.ty = some S ∧ kitB S T = some b ∧ P (.bl b) g
theorem d_isi {T : String} {x y : Str} {p pp : Pos} (hg : Gl X x) (hm : X.mg x = none) (hv : bootBuiltins x = some (.builtin "isinstance")) (hg2 : Gl X y) (hm2 : X.mg y = none) (hv2 : bootBuiltins y = some (.type T)) (ha : DE W X a φ) (hn : x ≠ "__name__" := by decide) (hdb : (x == ("__debug__" : Str)) = false := by decide) (hn2 : y ≠ "__name__" := by decide) (hdb2 : (y == ("__debug__" : Str)) = false := by decide)
    (he : starEach [a, .Name y pp] X.env = (false, eval a X.env) :: starEach [.Name y pp] X.env := by rfl) (he2 : starEach [.Name y pp] X.env = (false, eval (.Name y pp) X.env) :: starEach [] X.env := by rfl) (hpl : (backTo pos (starEach [.Name y pp] X.env)).any (·.1) = false := by rfl) :
    DE W X (.Call (.Name x p) [a, .Name y pp] [] pos) (fun ρ P => φ ρ fun d => oIsi T d P) :=
  pe_imp (pe_callB call_isi hg hm hv (pa_cons ha (pa_cons (pe_bltn (v := .ty T) hg2 hm2 hv2 rfl hn2 hdb2) pa_nil he2) he) hn hdb he hpl) fun σ H Q ⟨g, F, ρ, P, w, en, p, q⟩ => ⟨g, F, ρ, _, w, en, p, fun v H1 F1 d g1 G1 r1 ⟨S, b, h1, h2, p1⟩ =>
    ⟨v, .ty T, .type S, .type T, b, rfl, .ty T, ty_rep G1.wld.sub r1 h1, kit_ty h2, q _ H1 F1 _ g1 G1 (.bl b) p1⟩⟩
/-- isinstance(x, (S, T)) -/
def oIsi2 (T U : String) (x : D) (P : D → GP) : GP := fun g => ∃ S b c, x.ty = some S ∧ kitB S T = some b ∧ kitB S U = some c ∧ P (.bl (b || c)) g
theorem d_isi2 {T U : String} {x y z : Str} {p pp pq pt : Pos} {kt} (hg : Gl X x) (hm : X.mg x = none) (hv : bootBuiltins x = some (.builtin "isinstance")) (hg2 : Gl X y) (hm2 : X.mg y = none) (hv2 : bootBuiltins y = some (.type T)) (hg3 : Gl X z) (hm3 : X.mg z = none) (hv3 : bootBuiltins z = some (.type U)) (ha : DE W X a φ)
    (hn : x ≠ "__name__" := by decide) (hdb : (x == ("__debug__" : Str)) = false := by decide) (hn2 : y ≠ "__name__" := by decide) (hdb2 : (y == ("__debug__" : Str)) = false := by decide) (hn3 : z ≠ "__name__" := by decide) (hdb3 : (z == ("__debug__" : Str)) = false := by decide)
    (he : starEach [a, .Tuple [.Name y pp, .Name z pq] kt pt] X.env = (false, eval a X.env) :: starEach [.Tuple [.Name y pp, .Name z pq] kt pt] X.env := by rfl) (he2 : starEach [.Tuple [.Name y pp, .Name z pq] kt pt] X.env = (false, eval (.Tuple [.Name y pp, .Name z pq] kt pt) X.env) :: starEach [] X.env := by rfl) (hpl : (backTo pos (starEach [.Tuple [.Name y pp, .Name z pq] kt pt] X.env)).any (·.1) = false := by rfl)
    (he3 : starEach [.Name y pp, .Name z pq] X.env = (false, eval (.Name y pp) X.env) :: starEach [.Name z pq] X.env := by rfl) (he4 : starEach [.Name z pq] X.env = (false, eval (.Name z pq) X.env) :: starEach [] X.env := by rfl) :
    DE W X (.Call (.Name x p) [a, .Tuple [.Name y pp, .Name z pq] kt pt] [] pos) (fun ρ P => φ ρ fun d => oIsi2 T U d P) :=
  pe_imp (pe_callB call_isiT hg hm hv (pa_cons ha (pa_cons (pe_tup (pa_cons (pe_bltn (v := .ty T) hg2 hm2 hv2 rfl hn2 hdb2) (pa_cons (pe_bltn (v := .ty U) hg3 hm3 hv3 rfl hn3 hdb3) pa_nil he4) he3)) pa_nil he2) he) hn hdb he hpl) fun σ H Q ⟨g, F, ρ, P, w, en, p, q⟩ => ⟨g, F, ρ, _, w, en, p, fun v H1 F1 d g1 G1 r1 ⟨S, b, c, h1, h2, h3, p1⟩ =>
    ⟨by show 2 ≤ sizeLine; decide, fun t n => ⟨v, t, [.ty T, .ty U], .type S, [.type T, .type U], b || c, rfl, upd_same, .cons (.ty T) (.cons (.ty U) .nil), ty_rep ((G1.wld.sub).trans (same_upd n)) r1 h1, by
      refine kitAny_cons (kit_ty h2) (fun e => ?_) (fun e => by subst e; rfl)
      subst e
      refine kitAny_cons (kit_ty h3) (fun e => ?_) (fun e => by subst e; rfl)
      subst e; exact kitAny_nil, q _ _ F1 _ g1 (G1.trans (Grow.newOwn G1.wld _ n)) (.bl _) p1⟩⟩⟩
/-- isinstance(x, C), C an own class (number c): an instance of it, or of a built-in type -/
structure OwnC (K : PySem.W.Frag) (C : Addr) : Prop where
  cl : Cls K C
  ha : PySem.W.findIn K (.ref C) "__class__" = some (some (.builtin "object.__class__"))
  hn : PySem.W.specialIn K (.builtin "object.__class__") "__get__" = some (some (.builtin "getset_descriptor.__get__"))
  ht : PySem.W.takesIn K (.builtin "object.__class__") = some true
  hm : PySem.W.mroIn K C (.type "object") = some true
def oIsC (c : Nat) (no : List String) (x : D) (P : D → GP) : GP := match x with
  | .obj c' _ _ => fun g => c' = c ∧ P (.bl true) g
  | x => fun g => ∃ S, x.ty = some S ∧ no.contains S = true ∧ P (.bl false) g
theorem d_isC {c : Nat} {no : List String} {x y : Str} {p pp : Pos} (O : OwnC X.K (W.cls c)) (hno : ∀ S, no.contains S = true → PySem.W.kitOne X.K (.type S) (.ref (W.cls c)) = some false) (hg : Gl X x) (hm : X.mg x = none) (hv : bootBuiltins x = some (.builtin "isinstance")) (hg2 : Gl X y) (hm2 : X.mg y = some (.ref (W.cls c))) (ha : DE W X a φ) (hn : x ≠ "__name__" := by decide) (hdb : (x == ("__debug__" : Str)) = false := by decide) (hdb2 : (y == ("__debug__" : Str)) = false := by decide)
    (he : starEach [a, .Name y pp] X.env = (false, eval a X.env) :: starEach [.Name y pp] X.env := by rfl) (he2 : starEach [.Name y pp] X.env = (false, eval (.Name y pp) X.env) :: starEach [] X.env := by rfl) (hpl : (backTo pos (starEach [.Name y pp] X.env)).any (·.1) = false := by rfl) :
    DE W X (.Call (.Name x p) [a, .Name y pp] [] pos) (fun ρ P => φ ρ fun d => oIsC c no d P) :=
  pe_imp (pe_callB call_isi hg hm hv (pa_cons ha (pa_cons (pe_glob (v := .ref (W.cls c)) hg2 hm2 rfl hdb2) pa_nil he2) he) hn hdb he hpl) fun σ H Q ⟨g, F, ρ, P, w, en, p, q⟩ => ⟨g, F, ρ, _, w, en, p, fun v H1 F1 d g1 G1 r1 p1 => by
    have neg : (∃ S, d.ty = some S ∧ no.contains S = true ∧ P (.bl false) g1) → rIsi X.K [v, .ref (W.cls c)] H1 Q := fun ⟨S, h1, h2, p2⟩ =>
      ⟨v, .ref (W.cls c), .type S, .ref (W.cls c), false, rfl, .own _, ty_rep G1.wld.sub r1 h1, hno S h2, q _ H1 F1 _ g1 G1 (.bl false) p2⟩
    cases d with
    | obj c' ks xs =>
      obtain ⟨rfl, p2⟩ := p1
      cases r1 with
      | obj h z t => exact ⟨_, .ref (W.cls c'), .ref (W.cls c'), .ref (W.cls c'), true, rfl, .own _, .base (.ins (G1.wld.sub _ _ h) O.cl O.ha O.hn O.ht O.hm), if_pos (beq_self_eq_true _), q _ H1 F1 _ g1 G1 (.bl true) p2⟩
    | _ => exact neg p1⟩
/-! ### the call of a def -/
abbrev SpD := List D → (D → GP) → GP
def spD (K : PySem.W.Frag) (cls : Nat → Addr) (n : Nat) (sp : SpD) : Sp := fun vs H Q _ => ∃ pen cells cl g F ds P, Wld K ⟨cls, pen, cells, cl⟩ g F H ∧ Reps K ⟨cls, pen, cells, cl⟩ F vs ds ∧ ds.length = n ∧ sp ds P g ∧
  ∀ v H' F' d g', Grow K ⟨cls, pen, cells, cl⟩ F H g' F' H' → Rep K ⟨cls, pen, cells, cl⟩ F' v d → P d g' → Q v H'
theorem d_call {f : Addr} {fd : FuncData} {x : Str} {ps : List Str} {k n : Nat} {sp : SpD} {p : Pos} (G : FnOk X.prog X.w X.K X.mg X.base CX0 k f fd ps (spD X.K W.cls n sp)) (hr : Room k X.A) (hm : X.mg x = some (.ref f)) (hk : PySem.W.keepIn X.K (.ref f) = true) (hb : Binds X.K fd ps [])
    (ha : DAr W X (e :: es) α) (hg : Gl X x := by rfl) (hdb : (x == ("__debug__" : Str)) = false := by decide) (he : starEach (e :: es) X.env = (false, eval e X.env) :: starEach es X.env := by rfl) (hpl : (backTo pos (starEach es X.env)).any (·.1) = false := by rfl) :
    DE W X (.Call (.Name x p) (e :: es) [] pos) (fun ρ P => α ρ fun ds g => ds.length = n ∧ sp ds P g) :=
  pe_imp (pe_call G hr hg hm hk hb .nil pass0 ha hdb he hpl) fun σ H Q ⟨g, F, ρ, P, w, en, p, q⟩ => ⟨g, F, ρ, _, w, en, p, fun vs H1 F1 ds g1 G1 r1 ⟨l1, p1⟩ =>
    ⟨W.pen, W.cells, W.cl, g1, F1, ds, P, G1.wld, by rw [List.append_nil]; exact r1, l1, p1, fun v H' F' d g' G2 r p => q v H' F' d g' (G1.trans G2) r p⟩⟩
end
end DL

set_option Elab.async false
set_option linter.all false
set_option maxRecDepth 100000
set_option maxHeartbeats 4000000
namespace DL
open PySem PySem.Spec L2
open PyProof.Rows hiding St
section
variable {X : Cx} {W : Wd} {e a b c o tg : Expr} {es : List Expr} {φ ψ χ : DT} {α : DA} {pos p2 : Pos} {β γ : DB}
/-! ### targets -/
structure Off (is : List Nat) (σ σ' : St) (ρ ρ' : List SV) : Prop where
  len : σ'.length = σ.length
  off : ∀ (j : Nat), j ∉ is → σ'[j]? = σ[j]?
  own : ∀ (j : Nat) xs, ρ'[j]? = some (.o xs) → ρ[j]? = some (.o xs) ∧ σ'[j]? = σ[j]?
theorem Off.refl {σ : St} {ρ : List SV} : Off [] σ σ ρ ρ := ⟨rfl, fun _ _ => rfl, fun _ _ h => ⟨h, rfl⟩⟩
theorem Off.trans {is js : List Nat} {σ σ1 σ2 : St} {ρ ρ1 ρ2 : List SV} (a : Off is σ σ1 ρ ρ1) (b : Off js σ1 σ2 ρ1 ρ2) : Off (is ++ js) σ σ2 ρ ρ2 :=
  ⟨b.len.trans a.len, fun j h => (b.off j fun z => h (List.mem_append_right _ z)).trans (a.off j fun z => h (List.mem_append_left _ z)), fun j xs h => by
    obtain ⟨h1, h2⟩ := b.own j xs h
    obtain ⟨h3, h4⟩ := a.own j xs h1
    exact ⟨h3, h2.trans h4⟩⟩
theorem EnvR.setD {K : PySem.W.Frag} {F H : Hp} {σ : St} {ρ : List SV} {i : Nat} {v : V} {d : D} (en : EnvR K W F H σ ρ) (r : Rep K W F v d) : EnvR K W F H (σ.set i (some v)) (ρ.set i (.d d)) := by
  refine ⟨by rw [List.length_set, List.length_set]; exact en.len, fun j x e => ?_, fun j xs e => ?_, fun j k xs ys p e1 e2 e3 e4 => ?_⟩
  · by_cases h : i = j
    · subst h
      by_cases hl : i < ρ.length
      · rw [List.getElem?_set_self hl] at e
        cases e
        exact ⟨v, List.getElem?_set_self (by rw [← en.len]; exact hl), r⟩
      · rw [List.getElem?_eq_none (by rw [List.length_set]; omega)] at e; cases e
    · rw [List.getElem?_set_ne h] at e ⊢
      exact en.d j x e
  · by_cases h : i = j
    · subst h
      by_cases hl : i < ρ.length
      · rw [List.getElem?_set_self hl] at e; cases e
      · rw [List.getElem?_eq_none (by rw [List.length_set]; omega)] at e; cases e
    · rw [List.getElem?_set_ne h] at e ⊢
      exact en.o j xs e
  · have no : ∀ (m : Nat) zs, (ρ.set i (.d d))[m]? = some (.o zs) → i ≠ m := fun m zs q z => by
      subst z
      by_cases hl : i < ρ.length
      · rw [List.getElem?_set_self hl] at q; cases q
      · rw [List.getElem?_eq_none (by rw [List.length_set]; omega)] at q; cases q
    have n1 := no j _ e1
    have n2 := no k _ e2
    rw [List.getElem?_set_ne n1] at e1 e3
    rw [List.getElem?_set_ne n2] at e2 e4
    exact en.ne j k xs ys p e1 e2 e3 e4
abbrev DGT := D → List SV → (List SV → GP) → GP
abbrev DGTs := List D → List SV → (List SV → GP) → GP
def gD (K : PySem.W.Frag) (W : Wd) (is : List Nat) (τ : DGT) : TG := fun v σ H Q => ∃ g F ρ d P, Wld K W g F H ∧ EnvR K W F H σ ρ ∧ Rep K W F v d ∧ τ d ρ P g ∧ ∀ σ' ρ', EnvR K W F H σ' ρ' → Off is σ σ' ρ ρ' → P ρ' g → Q σ' H
def gDs (K : PySem.W.Frag) (W : Wd) (is : List Nat) (τ : DGTs) : TGs := fun vs σ H Q => ∃ g F ρ ds P, Wld K W g F H ∧ EnvR K W F H σ ρ ∧ Reps K W F vs ds ∧ τ ds ρ P g ∧ ∀ σ' ρ', EnvR K W F H σ' ρ' → Off is σ σ' ρ ρ' → P ρ' g → Q σ' H
abbrev DG (W : Wd) (X : Cx) (t : Expr) (is : List Nat) (τ : DGT) : Prop := PG X t (gD X.K W is τ)
abbrev DGs (W : Wd) (X : Cx) (ts : List Expr) (is : List Nat) (τ : DGTs) : Prop := PGs X ts (gDs X.K W is τ)
theorem pg_imp {t : Expr} {u u' : TG} (h : PG X t u) (i : ∀ v σ H Q, u' v σ H Q → u v σ H Q) : PG X t u' := ⟨fun pins s σ H v w Q I r q => h.run pins s σ H v w Q I r (i v σ H Q q)⟩
theorem pgs_imp {t : List Expr} {u u' : TGs} (h : PGs X t u) (i : ∀ v σ H Q, u' v σ H Q → u v σ H Q) : PGs X t u' := ⟨fun pins s σ H v w Q I r q => h.run pins s σ H v w Q I r (i v σ H Q q)⟩
theorem Off.set {σ : St} {ρ : List SV} {i : Nat} {v : Option V} {d : D} : Off [i] σ (σ.set i v) ρ (ρ.set i (.d d)) := by
  refine ⟨List.length_set, fun j h => List.getElem?_set_ne (by simpa using fun z => h (by simp [z])), fun j xs e => ?_⟩
  have hne : i ≠ j := fun z => by
    subst z
    by_cases hl : i < ρ.length
    · rw [List.getElem?_set_self hl] at e; cases e
    · rw [List.getElem?_eq_none (by rw [List.length_set]; omega)] at e; cases e
  rw [List.getElem?_set_ne hne] at e
  exact ⟨e, List.getElem?_set_ne hne⟩
def rgName (i : Nat) : DGT := fun d ρ P => P (ρ.set i (.d d))
theorem dg_name {i : Nat} {x : Str} (hN : X.N.Nodup) (hi : X.N[i]? = some x) (hx : Loc X.env.scope x) (hf : X.fn x = true ∨ X.env.scope.names.lookup x = some .local := by first | exact .inl rfl | exact .inr rfl | assumption) : DG W X (.Name x pos) [i] (rgName i) :=
  pg_imp (pg_name hN hi hx hf) fun v σ H Q ⟨g, F, ρ, d, P, w, en, r, p, q⟩ => q _ _ (en.setD r) Off.set p
theorem dgs_nil : DGs W X [] [] (fun ds ρ P g => ds = [] ∧ P ρ g) :=
  pgs_imp pgs_nil fun vs σ H Q ⟨g, F, ρ, ds, P, w, en, r, ⟨e, p⟩, q⟩ => by subst e; cases r; exact ⟨rfl, q _ _ en Off.refl p⟩
theorem dgs_cons {t : Expr} {ts : List Expr} {is js : List Nat} {τ : DGT} {θ : DGTs} (h1 : DG W X t is τ) (h2 : DGs W X ts js θ) (hs : (assignEach (t :: ts) X.env).map (·.2) = assign t X.env :: (assignEach ts X.env).map (·.2) := by rfl) :
    DGs W X (t :: ts) (is ++ js) (fun ds ρ P g => ∃ d r, ds = d :: r ∧ τ d ρ (fun ρ1 => θ r ρ1 P) g) :=
  pgs_imp (pgs_cons h1 h2 hs) fun vs σ H Q ⟨g, F, ρ, ds, P, w, en, r, ⟨d, rr, e, p⟩, q⟩ => by
    subst e
    cases r with
    | cons r t =>
      exact ⟨_, _, rfl, g, F, ρ, d, _, w, en, r, p, fun σ1 ρ1 en1 o1 p1 => ⟨g, F, ρ1, rr, P, w, en1, t, p1, fun σ2 ρ2 en2 o2 p2 => q σ2 ρ2 en2 (o1.trans o2) p2⟩⟩
theorem dg_tup {ts : List Expr} {k n : Nat} {is : List Nat} {θ : DGTs} (hc : X.calm = true) (h : DGs W X ts is θ) (hn : (assignEach ts X.env).length = n := by rfl) (hst : (assignEach ts X.env).findIdx? (·.1) = none := by rfl) :
    DG W X (.Tuple ts k pos) is (fun d ρ P g => ∃ xs, d = .tup xs ∧ xs.length = n ∧ θ xs ρ P g) :=
  pg_imp (pg_tup hc h hn hst) fun v σ H Q ⟨g, F, ρ, d, P, w, en, r, ⟨xs, e, l, p⟩, q⟩ => by
    subst e
    cases r with
    | tup h z t => exact ⟨_, _, rfl, sqT_mono w.sub h, by rw [t.length]; exact l, g, F, ρ, xs, P, w, en, t, p, q⟩

/-! ### what is walked -/
structure WalkD (K : PySem.W.Frag) (W : Wd) (J : It) (F0 : Hp) (xs : List D) : Prop where
  small : xs.length ≤ sizeLine
  goes : ∀ i H, i < xs.length → Same F0 H → J.go i H
  stops : ∀ H, Same F0 H → J.stop xs.length H
  yields : ∀ (i : Nat) H x H' F g, i < xs.length → Same F0 F → Wld K W g F H → J.yld i H x H' → ∃ F' d, Grow K W F H g F' H' ∧ Rep K W F' x d ∧ xs[i]? = some d
def tDI (K : PySem.W.Frag) (W : Wd) (ι : DA) : TI := fun σ H R => ∃ g F ρ P, Wld K W g F H ∧ EnvR K W F H σ ρ ∧ ι ρ P g ∧ ∀ J H' F' xs g', Grow K W F H g' F' H' → WalkD K W J F' xs → P xs g' → R J H'
abbrev DI (W : Wd) (X : Cx) (tg e : Expr) (ι : DA) : Prop := PI X tg e (tDI X.K W ι)
theorem pi_imp {tg e : Expr} {t t' : TI} (h : PI X tg e t) (i : ∀ σ H R, t' σ H R → t σ H R) : PI X tg e t' := ⟨fun pins s σ H R I q => h.run pins s σ H R I (i σ H R q)⟩
/-- over a list or a tuple -/
def iSeq (K : PySem.W.Frag) (tl : TE) : TI := fun σ H R => tl σ H fun x H1 => ∃ a, x = .ref a ∧ (((∃ xs, SqL K H1 a xs) ∧ R (Itl K a) H1) ∨ ((∃ xs, SqT K H1 a xs) ∧ R (Itt K a) H1))
theorem pi_seq {l : Expr} {tl : TE} (hl : PE X l tl) : PI X tg l (iSeq X.K tl) := by
  refine ⟨fun pins s σ H R I h => ?_⟩
  refine thn (hl.run pins s σ H _ I h) fun v s1 ⟨x, H1, I1, r1, q1⟩ => ?_
  obtain ⟨a, e, q⟩ := q1
  subst e
  cases r1
  rcases q with ⟨⟨xs, hq⟩, q⟩ | ⟨⟨xs, hq⟩, q⟩
  · obtain ⟨its, rv, p, hz⟩ := I1.list hq
    refine wpAny_pyIter_list p.isList ?_
    refine ⟨s1.heap.objs.size, [s1.heap.objs.size], _, _, H1, rfl, I1.kept (t' := s1.toks) fun b o e => Heap.get?_push_of_some _ e, turn_list a _, ⟨_, Heap.get?_push_size _ rfl, rfl, rfl⟩, fun b hb => ?_, q⟩
    have e : b = s1.heap.objs.size := by simpa using hb
    subst e
    exact I1.fpOk (Nat.le_refl _) (I1.hok.fresh (Nat.le_refl _))
  · obtain ⟨its, rv, p, hz⟩ := I1.tuple hq
    refine wpAny_pyIter_tuple (show s1.heap.IsTuple a its.toArray from p) ?_
    refine ⟨s1.heap.objs.size, [s1.heap.objs.size], _, _, H1, rfl, I1.kept (t' := s1.toks) fun b o e => Heap.get?_push_of_some _ e, turn_tuple a _, ⟨_, Heap.get?_push_size _ rfl, rfl, rfl⟩, fun b hb => ?_, q⟩
    have e : b = s1.heap.objs.size := by simpa using hb
    subst e
    exact I1.fpOk (Nat.le_refl _) (I1.hok.fresh (Nat.le_refl _))
theorem di_seq (h : DE W X e φ) : DI W X tg e (fun ρ P => φ ρ fun d => asL d P) :=
  pi_imp (pi_seq h) fun σ H R ⟨g, F, ρ, P, w, en, p, q⟩ => ⟨g, F, ρ, _, w, en, p, fun v H1 F1 d g1 G1 r1 p1 => by
    cases d with
    | lst xs =>
      cases r1 with
      | @lst a vs ds h z t =>
        refine ⟨a, rfl, .inl ⟨⟨_, SqL.of (G1.wld.sub _ _ h)⟩, q _ H1 F1 xs g1 G1 ⟨z, fun i H' hi s => ?_, fun H' s => ?_, fun i H' x H2 F' g' hi s w y => ?_⟩ p1⟩⟩
        · exact walk_list.goes i H' (by rw [t.length]; exact hi) (SqL.of (s _ _ h))
        · have := (walk_list (xs := vs) (a := a) (K := X.K)).stops H' (SqL.of (s _ _ h))
          rw [t.length] at this; exact this
        · obtain ⟨e1, e2⟩ := walk_list.yields i H' x H2 (by rw [t.length]; exact hi) (SqL.of (w.sub _ _ (s _ _ h))) y
          subst e1
          obtain ⟨d, h1, h2⟩ := t.get' e2
          exact ⟨F', d, Grow.refl w, h2.mono s, h1⟩
    | tup xs =>
      cases r1 with
      | @tup a vs ds h z t =>
        refine ⟨a, rfl, .inr ⟨⟨_, sqT_mono G1.wld.sub h⟩, q _ H1 F1 xs g1 G1 ⟨z, fun i H' hi s => ?_, fun H' s => ?_, fun i H' x H2 F' g' hi s w y => ?_⟩ p1⟩⟩
        · exact walk_tup.goes i H' (by rw [t.length]; exact hi) (sqT_mono s h)
        · have := (walk_tup (xs := vs) (a := a) (K := X.K)).stops H' (sqT_mono s h)
          rw [t.length] at this; exact this
        · obtain ⟨e1, e2⟩ := walk_tup.yields i H' x H2 (by rw [t.length]; exact hi) (sqT_mono (s.trans w.sub) h) y
          subst e1
          obtain ⟨d, h1, h2⟩ := t.get' e2
          exact ⟨F', d, Grow.refl w, h2.mono s, h1⟩
    | _ => exact False.elim p1⟩
/-- range(n) -/
def rangeD (n : Int) : List D := (List.range n.toNat).map fun (i : Nat) => D.int ((i : Nat) : Int)
theorem di_range {p : Pos} (hm : X.mg "range" = none) (ha : DE W X a φ) (hg : Gl X "range" := by rfl) (hs : starEach [a] X.env = [(false, eval a X.env)] := by rfl) (hs' : starEach [a] X.env = (false, eval a X.env) :: starEach [] X.env := by rfl) :
    DI W X tg (.Call (.Name "range" p) [a] [] pos) (fun ρ P => φ ρ fun d => isI d fun n g => (-1000000 ≤ n ∧ n ≤ 1000000) ∧ P (rangeD n) g) :=
  pi_imp (pi_range1 (tg := tg) hg hm (da_cons ha da_nil hs') hs) fun σ H R ⟨g, F, ρ, P, w, en, p, q⟩ => ⟨g, F, ρ, fun ds => (match ds with | [d] => isI d fun n g => (-1000000 ≤ n ∧ n ≤ 1000000) ∧ P (rangeD n) g | _ => fun _ => False), w, en, p, fun vs H1 F1 ds g1 G1 r1 p1 => by
    match ds, p1 with
    | [], p1 => exact False.elim p1
    | _ :: _ :: _, p1 => exact False.elim p1
    | [d], p1 =>
      obtain ⟨v, rfl, h⟩ := reps1 r1
      obtain ⟨n, rfl, hn, p2⟩ := isI_of p1
      cases h
      have hl : (rangeD n).length = n.toNat := by unfold rangeD; simp
      refine ⟨n, rfl, by omega, by omega, q _ H1 F1 _ g1 G1 ⟨by rw [hl, sizeLine_eq]; omega, fun i H' hi s => ?_, fun H' s => ?_, fun i H' x H2 F' g' hi s w y => ?_⟩ p2⟩
      · rw [hl] at hi; exact hi
      · rw [hl]; exact Nat.le_refl _
      · obtain ⟨e1, e2⟩ := walk_range.yields i H' x H2 (by rw [hl] at hi; exact hi) trivial y
        subst e1 e2
        rw [hl] at hi
        exact ⟨F', .int i, Grow.refl w, by simpa using Rep.int (K := X.K) (W := W) (F := F') ((i : Nat) : Int), by unfold rangeD; simp [hi]⟩⟩
end
end DL

set_option Elab.async false
set_option linter.all false
set_option maxRecDepth 100000
set_option maxHeartbeats 4000000
/-! zip and enumerate over lists and tuples in any mix -/
namespace DL
open PySem PySem.Spec L2
open PyProof.Rows hiding St
/-- list (true) or tuple (false) -/
def isIt (b : Bool) (h : Heap) (it l : Addr) (i : Nat) : Prop := if b then h.IsListIter it l i else h.IsTupleIter it l i
def isSq (b : Bool) (h : Heap) (l : Addr) (items : Array Value) : Prop := if b then h.IsList l items else h.IsTuple l items
def SqB (K : PySem.W.Frag) (H : Hp) (b : Bool) (a : Addr) (xs : List V) : Prop := if b then SqL K H a xs else SqT K H a xs
def itO (b : Bool) (l : Addr) : Obj := if b then { cls := .type "list_iterator", data := .fields #[.ref l, .int 0 0] } else { cls := .type "tuple_iterator", data := .fields #[.ref l, .int 0 0] }
theorem begins_sq (b : Bool) (l : Addr) (items : Array Value) : Begins (.ref l) (itO b l) fun h => isSq b h l items := by
  cases b with
  | true => exact begins_list l items
  | false => exact begins_tuple l items
theorem draws_sq {prog : Program} {w : World} {A : Around} (hh : A.handled = none) (b : Bool) (it l : Addr) (hne : l ≠ it) (items : Array Value) :
    Draws prog w A it [it, l] items.size (fun i v => items[i]? = some v) (fun i h => isIt b h it l i ∧ isSq b h l items) := by
  cases b with
  | true => exact Draws.list hh it l hne items
  | false => exact Draws.tuple hh it l hne items
theorem isIt.get {b : Bool} {h : Heap} {it l : Addr} {i : Nat} (x : isIt b h it l i) : ∃ o, h.get? it = some o ∧ ∀ v, o.data ≠ .cell v := by
  cases b with
  | true => obtain ⟨o, e, _, d⟩ := (show h.IsListIter it l i from x); exact ⟨o, e, fun v q => by rw [d] at q; cases q⟩
  | false => obtain ⟨o, e, _, d⟩ := (show h.IsTupleIter it l i from x); exact ⟨o, e, fun v q => by rw [d] at q; cases q⟩
theorem isIt.at {b : Bool} {h h' : Heap} {it l : Addr} {i : Nat} (x : isIt b h it l i) (k : ∀ o, h.get? it = some o → h'.get? it = some o) : isIt b h' it l i := by
  cases b with
  | true => exact Heap.IsListIter.at (show h.IsListIter it l i from x) k
  | false => exact Heap.IsTupleIter.at (show h.IsTupleIter it l i from x) k
theorem isIt.new (b : Bool) {h : Heap} {it l : Addr} (e : h.get? it = some (itO b l)) : isIt b h it l 0 := by
  cases b with
  | true => exact ⟨_, e, rfl, rfl⟩
  | false => exact ⟨_, e, rfl, rfl⟩
section
variable {X : Cx} {pins : List (Addr × Obj)} {σ : St} {H : Hp} {s : Shared} {a : Addr} {xs ys : List V}
theorem _root_.L2.Inv.sq (I : Inv X pins σ H s) {b : Bool} (h : SqB X.K H b a xs) : ∃ its : List Value, Vals xs its ∧ isSq b s.heap a its.toArray ∧ xs.length ≤ sizeLine ∧ a < s.heap.objs.size := by
  cases b with
  | true =>
    obtain ⟨its, r, p, z⟩ := I.list (show SqL X.K H a xs from h)
    exact ⟨its, r, p.isList, z, p.lt⟩
  | false =>
    obtain ⟨its, r, p, z⟩ := I.tuple (show SqT X.K H a xs from h)
    exact ⟨its, r, p, z, IsTup.lt p⟩
theorem _root_.L2.Inv.sq_inj (I : Inv X pins σ H s) {b : Bool} (h : SqB X.K H b a xs) (h' : SqB X.K H b a ys) : xs = ys := by
  cases b with
  | true => exact I.list_inj h h'
  | false => exact I.tuple_inj h h'
end
/-- the sequences at a and b as they stand at each turn, the items in new pairs -/
def ItzB (K : PySem.W.Frag) (p q : Bool) (a b : Addr) : It :=
  ⟨fun i H => ∃ (xs ys : List V) (x y : V), SqB K H p a xs ∧ SqB K H q b ys ∧ xs[i]? = some x ∧ ys[i]? = some y,
    fun i H v H' => ∃ T x y, v = .ref T ∧ H T = none ∧ H' = upd H T (.tup [x, y]) ∧ (∀ xs, SqB K H p a xs → xs[i]? = some x) ∧ ∀ ys, SqB K H q b ys → ys[i]? = some y,
    fun i H => ∃ xs ys : List V, SqB K H p a xs ∧ SqB K H q b ys ∧ i ≤ xs.length ∧ i ≤ ys.length ∧ (xs.length = i ∨ ys.length = i)⟩
theorem turn_zipB {P : Program} {w : World} {K : PySem.W.Frag} {elts : List Expr} {kk : Nat} {tpos : Pos} {p q : Bool} {a b : Addr} {N : Nat} (ha : a < N) (hb : b < N) :
    Turn P w K (.Tuple elts kk tpos) (ItzB K p q a b) [N + 4, N + 2, N + 3, N, N + 1] (N + 4) (fun i h => IsZip h (N + 4) (N + 2) (N + 3) .none ∧ IsPair h (N + 2) (.ref N) (.ref (N + 1)) ∧ (∃ x y, IsPair h (N + 3) x y) ∧ isIt p h N a i ∧ isIt q h (N + 1) b i) where
  mem := by simp
  obj := fun i h st c hc => by
    obtain ⟨hz, hTI, ⟨x, y, hTO⟩, h1, h2⟩ := st
    have e' : c = N + 4 ∨ c = N + 2 ∨ c = N + 3 ∨ c = N ∨ c = N + 1 := by simpa using hc
    rcases e' with z | z | z | z | z
    · rw [z]; exact ⟨_, hz, fun v q => nomatch q⟩
    · rw [z]; exact ⟨_, hTI, fun v q => nomatch q⟩
    · rw [z]; exact ⟨_, hTO, fun v q => nomatch q⟩
    · rw [z]; exact h1.get
    · rw [z]; exact h2.get
  keep := fun i h h' st k => by
    obtain ⟨hz, hTI, ⟨x, y, hTO⟩, h1, h2⟩ := st
    exact ⟨k _ (by simp) _ hz, k _ (by simp) _ hTI, ⟨x, y, k _ (by simp) _ hTO⟩, h1.at fun o z => k N (by simp) o z, h2.at fun o z => k (N + 1) (by simp) o z⟩
  item := by
    intro X hP hw hK hc i pins s σ H E I hf st hg
    subst hP hw hK
    obtain ⟨hz, hTI, ⟨x0, y0, hTO⟩, h1, h2⟩ := st
    obtain ⟨xs, ys, x, y, hqx, hqy, hx, hy⟩ := hg
    obtain ⟨its, rv, p1, _⟩ := I.sq hqx
    obtain ⟨its2, rv2, p2, _⟩ := I.sq hqy
    have hx' : i < its.toArray.size := by
      have := (List.getElem?_eq_some_iff.mp hx).1
      rw [List.size_toArray, ← rv.length]; exact this
    have hy' : i < its2.toArray.size := by
      have := (List.getElem?_eq_some_iff.mp hy).1
      rw [List.size_toArray, ← rv2.length]; exact this
    have hzl : N + 4 < s.heap.objs.size := Heap.lt_size hz
    have S := zip_sep2 (N := N) (fp1 := [a]) (fp2 := [b]) (fun c h => by rw [List.mem_singleton.mp h]; exact ha) (fun c h => by rw [List.mem_singleton.mp h]; exact hb)
    have hh : X.A.in1.handled = none := I.ok.hd hc
    refine wpAny_pyNext_zipD2_item S (draws_sq hh p N a (Nat.ne_of_lt ha) its.toArray) (draws_sq hh q (N + 1) b (Nat.ne_of_lt (Nat.lt_succ_of_lt hb)) its2.toArray) hz hTI hTO ⟨h1, p1⟩ ⟨h2, p2⟩ hx' hy' fun u u2 h' tk gu gu2 z' TO' st1 st2 hT hsz hk => ?_
    refine ⟨_, rfl, wpAny_letOwnedTupleGo_zip (s := { s with heap := h', toks := tk }) z' fun h'' z'' sb => ?_⟩
    have hT2 : h''.get? s.heap.objs.size = some { cls := .type "tuple", data := .seq #[u, u2] } := (sb.2 _ (Nat.ne_of_gt hzl)).trans hT
    obtain ⟨w1, e1, ru⟩ : ∃ w1, its[i]? = some w1 ∧ RelV x w1 := rv.get hx
    obtain ⟨w2, e2, ru2⟩ : ∃ w2, its2[i]? = some w2 ∧ RelV y w2 := rv2.get hy
    have q1 : w1 = u := by
      have : its[i]? = some u := by simpa using gu
      rw [e1] at this; exact Option.some.inj this
    have q2 : w2 = u2 := by
      have : its2[i]? = some u2 := by simpa using gu2
      rw [e2] at this; exact Option.some.inj this
    subst q1 q2
    have new : ObjOk X.prog X.w (upd H s.heap.objs.size (.tup [x, y])) h'' s.heap.objs.size (.tup [x, y]) :=
      ⟨by show 2 ≤ sizeLine; decide, [w1, w2], .cons ru (.cons ru2 .nil), ⟨_, hT2, rfl, _, rfl⟩⟩
    have I1 : Inv X pins σ (upd H s.heap.objs.size (.tup [x, y])) { s with heap := h'', toks := tk } :=
      I.turnedNew (t' := tk) (ch := [N + 4, N + 2, N + 3, N, N + 1]) (fun c o hb q => (sb.2 c (fun q' => hb (by simp [q']))).trans (hk c o (fun q' => hb (by simp [q'])) (fun q' => hb (by simp [q'])) (fun q' => hb (by simp [q'])) (fun q' => hb (by simp [q'])) q)) hf (Nat.le_refl _) new
    refine ⟨.ref s.heap.objs.size, _, I1, rfl, ⟨_, x, y, rfl, I.hok.fresh (Nat.le_refl _), rfl, fun l hl => by rw [I.sq_inj hl hqx]; exact hx, fun l hl => by rw [I.sq_inj hl hqy]; exact hy⟩, ⟨z'', ?_, ⟨w1, w2, ?_⟩, ?_, ?_⟩, fun c hcm => ?_⟩
    · exact (sb.2 _ (show (N + 2 : Nat) ≠ N + 4 by omega)).trans (hk _ _ (show (N + 2 : Nat) ≠ N + 4 by omega) (show (N + 2 : Nat) ≠ N + 3 by omega) (show (N + 2 : Nat) ≠ N by omega) (show (N + 2 : Nat) ≠ N + 1 by omega) hTI)
    · exact (sb.2 _ (show (N + 3 : Nat) ≠ N + 4 by omega)).trans TO'
    · exact st1.1.at fun o z => (sb.2 _ (show (N : Nat) ≠ N + 4 by omega)).trans z
    · exact st2.1.at fun o z => (sb.2 _ (show (N + 1 : Nat) ≠ N + 4 by omega)).trans z
    · have hlt : c < s.heap.objs.size := by
        have e' : c = N + 4 ∨ c = N + 2 ∨ c = N + 3 ∨ c = N ∨ c = N + 1 := by simpa using hcm
        have hz0 : (N : Nat) + 4 < s.heap.objs.size := hzl
        rcases e' with z | z | z | z | z
        · rw [z]; exact hzl
        · rw [z]; exact (show (N : Nat) + 2 < s.heap.objs.size by omega)
        · rw [z]; exact (show (N : Nat) + 3 < s.heap.objs.size by omega)
        · rw [z]; exact (show (N : Nat) < s.heap.objs.size by omega)
        · rw [z]; exact (show (N : Nat) + 1 < s.heap.objs.size by omega)
      rw [upd_ne (Nat.ne_of_lt hlt)]
      exact (hf c hcm).1
  done := by
    intro X hP hw hK hc i pins s σ H E I hf st hg
    subst hP hw hK
    obtain ⟨hz, hTI, ⟨x0, y0, hTO⟩, h1, h2⟩ := st
    obtain ⟨xs, ys, hqx, hqy, l1, l2, hend⟩ := hg
    obtain ⟨its, rv, p1, _⟩ := I.sq hqx
    obtain ⟨its2, rv2, p2, _⟩ := I.sq hqy
    have m1 := rv.length
    have m2 := rv2.length
    have S := zip_sep2 (N := N) (fp1 := [a]) (fp2 := [b]) (fun c h => by rw [List.mem_singleton.mp h]; exact ha) (fun c h => by rw [List.mem_singleton.mp h]; exact hb)
    have hh : X.A.in1.handled = none := I.ok.hd hc
    refine wpAny_pyNext_zipD2_end S (draws_sq hh p N a (Nat.ne_of_lt ha) its.toArray) (draws_sq hh q (N + 1) b (Nat.ne_of_lt (Nat.lt_succ_of_lt hb)) its2.toArray) hz hTI hTO ⟨h1, p1⟩ ⟨h2, p2⟩ (by simp; omega) (by simp; omega) (by simp; omega) fun h' tk hk => ⟨rfl, I.turnedL (t' := tk) (ch := [N + 4, N + 2, N + 3, N, N + 1]) (fun c o hb q =>
      hk c o (fun q' => hb (by simp [q'])) (fun q' => hb (by simp [q'])) (fun q' => hb (by simp [q'])) (fun q' => hb (by simp [q'])) q) hf⟩
  self := fun A i s Q E st h => wpAny_pyIter_zip st.1 h
/-- where a sequence stands: a list or a tuple -/
def iZipB (K : PySem.W.Frag) (ta : TA) : TI := fun σ H R => ta σ H fun vs H1 => ∃ a b xs ys p q, vs = [.ref a, .ref b] ∧ SqB K H1 p a xs ∧ SqB K H1 q b ys ∧ R (ItzB K p q a b) H1
theorem pi_zipB {X : Cx} {e e2 : Expr} {ta : TA} {p pos tpos : Pos} {elts : List Expr} {kk : Nat} (hg : Gl X "zip") (hm : X.mg "zip" = none) (ha : PA X [e, e2] ta)
    (hs : starEach [e, e2] X.env = (false, eval e X.env) :: starEach [e2] X.env := by rfl) (hpl : (backTo pos (starEach [e2] X.env)).any (·.1) = false := by rfl) :
    PI X (.Tuple elts kk tpos) (.Call (.Name "zip" p) [e, e2] [] pos) (iZipB X.K ta) := by
  refine ⟨fun pins s σ H R I h => ?_⟩
  refine Call_ (ld_blt I hg hm PyProof.Rows.boot_zip (PyProof.Rows.callWith_type1 (thn (ha.run pos pins s σ H _ I h) fun us s1 ⟨vs, H1, I1, r1, q1⟩ => ?_) hs hpl))
  obtain ⟨a, b, xs, ys, k1, k2, ex, hqx, hqy, q1⟩ := q1
  subst ex
  cases r1 with
  | cons r rr =>
    cases rr with
    | cons r' rr =>
      cases rr
      cases r
      cases r'
      have fresh5 : ∀ c, c ∈ [s1.heap.objs.size + 4, s1.heap.objs.size + 2, s1.heap.objs.size + 3, s1.heap.objs.size, s1.heap.objs.size + 1] → FpOk X pins H1 c := fun c hcm => by
        have e' : c = s1.heap.objs.size + 4 ∨ c = s1.heap.objs.size + 2 ∨ c = s1.heap.objs.size + 3 ∨ c = s1.heap.objs.size ∨ c = s1.heap.objs.size + 1 := by simpa using hcm
        have hle : s1.heap.objs.size ≤ c := by
          rcases e' with z | z | z | z | z
          · rw [z]; exact Nat.le_add_right _ _
          · rw [z]; exact Nat.le_add_right _ _
          · rw [z]; exact Nat.le_add_right _ _
          · rw [z]; exact Nat.le_refl _
          · rw [z]; exact Nat.le_add_right _ _
        exact I1.fpOk hle (I1.hok.fresh hle)
      obtain ⟨its, rv, p1, _, lt1⟩ := I1.sq hqx
      obtain ⟨its2, rv2, p2, _, lt2⟩ := I1.sq hqy
      refine zip_begins2 (begins_sq k1 a its.toArray) (begins_sq k2 b its2.toArray) p1 p2 fun h' hz hTI hTO h1 h2 hsz hk => wpAny_pyIter_zip hz ?_
      have I2 : Inv X pins σ H1 { s1 with heap := h' } := I1.kept (t' := s1.toks) hk
      exact ⟨s1.heap.objs.size + 4, [s1.heap.objs.size + 4, s1.heap.objs.size + 2, s1.heap.objs.size + 3, s1.heap.objs.size, s1.heap.objs.size + 1], _, _, H1, rfl, I2, turn_zipB lt1 lt2, ⟨hz, hTI, ⟨_, _, hTO⟩, isIt.new _ h1, isIt.new _ h2⟩, fresh5, q1⟩
def pairD (xs ys : List D) : List D := List.zipWith (fun x y => D.tup [x, y]) xs ys
theorem sqB_of {K : PySem.W.Frag} {W : Wd} {F : Hp} {v : V} {d : D} {P : List D → GP} {g : Nat} (r : Rep K W F v d) (p : asL d P g) : ∃ a vs ds k, v = .ref a ∧ (∀ H, Same F H → SqB K H k a vs) ∧ ds.length ≤ sizeLine ∧ Reps K W F vs ds ∧ P ds g := by
  cases d with
  | lst xs =>
    cases r with
    | lst h z t => exact ⟨_, _, _, true, rfl, fun H s => SqL.of (s _ _ h), z, t, p⟩
  | tup xs =>
    cases r with
    | tup h z t => exact ⟨_, _, _, false, rfl, fun H s => sqT_mono s h, z, t, p⟩
  | _ => exact False.elim p
theorem di_zip {X : Cx} {W : Wd} {e e2 : Expr} {φ ψ : DT} {p pos tpos : Pos} {elts : List Expr} {kk : Nat} (hm : X.mg "zip" = none) (ha : DE W X e φ) (hb : DE W X e2 ψ) (hg : Gl X "zip" := by rfl)
    (hs : starEach [e, e2] X.env = (false, eval e X.env) :: starEach [e2] X.env := by rfl) (hs2 : starEach [e2] X.env = (false, eval e2 X.env) :: starEach [] X.env := by rfl) (hpl : (backTo pos (starEach [e2] X.env)).any (·.1) = false := by rfl) :
    DI W X (.Tuple elts kk tpos) (.Call (.Name "zip" p) [e, e2] [] pos) (fun ρ P => φ ρ fun x => ψ ρ fun y => asL x fun xs => asL y fun ys => P (pairD xs ys)) :=
  pi_imp (pi_zipB hg hm (da_cons ha (da_cons hb da_nil hs2) hs) hs hpl) fun σ H R ⟨g, F, ρ, P, w, en, p, q⟩ => ⟨g, F, ρ, fun ds => (match ds with | [x, y] => asL x fun xs => asL y fun ys => P (pairD xs ys) | _ => fun _ => False), w, en, p, fun vs H1 F1 ds g1 G1 r1 p1 => by
    match ds, p1 with
    | [], p1 => exact False.elim p1
    | [_], p1 => exact False.elim p1
    | _ :: _ :: _ :: _, p1 => exact False.elim p1
    | [x, y], p1 =>
      obtain ⟨v, u, rfl, h1, h2⟩ := reps2 r1
      obtain ⟨a, vs1, xs, k1, rfl, sq1, z1, t1, p2⟩ := sqB_of (P := fun xs => asL y fun ys => P (pairD xs ys)) h1 p1
      obtain ⟨b, vs2, ys, k2, rfl, sq2, z2, t2, p3⟩ := sqB_of (P := fun ys => P (pairD xs ys)) h2 p2
      have hl : (pairD xs ys).length = min xs.length ys.length := by unfold pairD; simp
      have m1 := t1.length
      have m2 := t2.length
      refine ⟨a, b, vs1, vs2, k1, k2, rfl, sq1 _ G1.wld.sub, sq2 _ G1.wld.sub, q _ H1 F1 _ g1 G1 ⟨by omega, fun i H' hi s => ?_, fun H' s => ?_, fun i H' x H2 F' g' hi s w y => ?_⟩ p3⟩
      · have i1 : i < vs1.length := by omega
        have i2 : i < vs2.length := by omega
        exact ⟨vs1, vs2, vs1[i], vs2[i], sq1 _ s, sq2 _ s, by simp [i1], by simp [i2]⟩
      · exact ⟨vs1, vs2, sq1 _ s, sq2 _ s, by omega, by omega, by omega⟩
      · obtain ⟨T, x', y', rfl, hT, rfl, f1, f2⟩ := y
        obtain ⟨d1, e1, r1'⟩ := t1.get' (f1 vs1 (sq1 _ (s.trans w.sub)))
        obtain ⟨d2, e2, r2'⟩ := t2.get' (f2 vs2 (sq2 _ (s.trans w.sub)))
        refine ⟨_, .tup [d1, d2], Grow.new w _ hT, .tup (.inl (.inl upd_same)) (by show 2 ≤ sizeLine; decide) (.cons ((r1'.mono s).mono (same_upd (w.fnone hT))) (.cons ((r2'.mono s).mono (same_upd (w.fnone hT))) .nil)), ?_⟩
        unfold pairD
        rw [List.getElem?_zipWith, e1, e2]⟩
/-! ### enumerate -/
theorem meets_enumB {v : Value} {o : Obj} {H : Heap → Prop} (B : Begins v o H) :
    Meets (Builtin.«enumerate.__new__» ⟨[.type "enumerate", v], []⟩) (fun _ R s => H s.heap ∧
      R (.ok (.ret (.ref (s.heap.push o).objs.size))) { s with heap := (s.heap.push o).push { cls := .type "enumerate", data := .fields #[.none, .bool false, .ref s.heap.objs.size, rawInt 0, .none, .none] } }) :=
  .of_wp fun prog w A R s h => by
    obtain ⟨hp, g, d, tk, os⟩ := s; obtain ⟨h1, h⟩ := h
    have hsub := sub_enumerate
    have q1 : ∀ {A' : Around} {E : Value → Shared → Prop} {Q : Value → Shared → Prop}, Q (.ref hp.objs.size) ⟨hp.push o, g, d, tk, os⟩ → wpAny (model prog w) A' (pyIter v) Q E ⟨hp, g, d, tk, os⟩ :=
      fun q => B.iter prog w _ _ ⟨hp, g, d, tk, os⟩ _ h1 q
    wp_walk using q1
    refine wpAny_stack_any fun st => wpAny_pure ?_
    split
    · rename_i c _ _ _ _ _
      cases (c == Value.type "enumerate")
      · wp_walk using q1
        exact ⟨_, rfl, h⟩
      · wp_walk using q1
        exact ⟨_, rfl, h⟩
    · wp_walk using q1
      exact ⟨_, rfl, h⟩
theorem enum_begins1 {prog : Program} {w : World} {A : Around} {E : Value → Shared → Prop} {s : Shared} {v : Value} {o : Obj} {H : Heap → Prop} {Q : Value → Shared → Prop} (B : Begins v o H) (h1 : H s.heap)
    (h : ∀ h', IsEnum h' (s.heap.objs.size + 1) s.heap.objs.size 0 .none → h'.get? s.heap.objs.size = some o → h'.objs.size = s.heap.objs.size + 2 →
      (∀ b o, s.heap.get? b = some o → h'.get? b = some o) → Q (.ref (s.heap.objs.size + 1)) { s with heap := h' }) :
    wpAny (model prog w) A (call (.type "enumerate") [v]) Q E s := by
  refine callType_new F.called_enumerate (by decide) (F.typeCall_enumerate_1 _) (F.newCall_enumerate_1 _) (fun obj => F.args_object_init_2 obj _) F.entry_enumerate_new
    (meets_enumB B) ⟨h1, ?_⟩
  have hz : (s.heap.push o).objs.size = s.heap.objs.size + 1 := Heap.size_push ..
  show _ ∧ _
  rw [hz]
  have he : IsEnum ((s.heap.push o).push { cls := .type "enumerate", data := .fields #[.none, .bool false, .ref s.heap.objs.size, rawInt 0, .none, .none] }) (s.heap.objs.size + 1) s.heap.objs.size 0 .none := by
    have := Heap.get?_push_size (s.heap.push o) (o := { cls := .type "enumerate", data := .fields #[.none, .bool false, .ref s.heap.objs.size, rawInt 0, .none, .none] }) rfl
    rw [hz] at this; exact this
  exact ⟨⟨_, he, rfl⟩, h _ he (Heap.get?_push_of_some _ (Heap.get?_push_size _ B.free)) (by rw [Heap.size_push, hz]) fun b o x => Heap.get?_push_of_some _ (Heap.get?_push_of_some _ x)⟩
def IteB (K : PySem.W.Frag) (p : Bool) (a : Addr) : It :=
  ⟨fun i H => ∃ (xs : List V) (x : V), SqB K H p a xs ∧ xs[i]? = some x,
    fun i H v H' => ∃ T x, v = .ref T ∧ H T = none ∧ H' = upd H T (.tup [.int ((i : Nat) : Int), x]) ∧ ∀ xs, SqB K H p a xs → xs[i]? = some x,
    fun i H => ∃ xs : List V, SqB K H p a xs ∧ xs.length = i⟩
theorem turn_enumB {P : Program} {w : World} {K : PySem.W.Frag} {elts : List Expr} {kk : Nat} {tpos : Pos} {p : Bool} {a : Addr} {N : Nat} (ha : a < N) :
    Turn P w K (.Tuple elts kk tpos) (IteB K p a) [N + 1, N] (N + 1) (fun i h => (∃ old, IsEnum h (N + 1) N ((i : Nat) : Int) old) ∧ isIt p h N a i) where
  mem := by simp
  obj := fun i h st c hc => by
    obtain ⟨⟨old, he⟩, h1⟩ := st
    have e' : c = N + 1 ∨ c = N := by simpa using hc
    rcases e' with z | z
    · rw [z]; exact ⟨_, he, fun v q => nomatch q⟩
    · rw [z]; exact h1.get
  keep := fun i h h' st k => by
    obtain ⟨⟨old, he⟩, h1⟩ := st
    exact ⟨⟨old, k _ (by simp) _ he⟩, h1.at fun o z => k N (by simp) o z⟩
  item := by
    intro X hP hw hK hc i pins s σ H E I hf st hg
    subst hP hw hK
    obtain ⟨⟨old, he⟩, h1⟩ := st
    obtain ⟨xs, x, hqx, hx⟩ := hg
    obtain ⟨its, rv, p1, _⟩ := I.sq hqx
    have hx' : i < its.toArray.size := by
      have := (List.getElem?_eq_some_iff.mp hx).1
      rw [List.size_toArray, ← rv.length]; exact this
    have hh : X.A.in1.handled = none := I.ok.hd hc
    have hel : N + 1 < s.heap.objs.size := Heap.lt_size he
    refine wpAny_pyNext_enum_itemD (draws_sq hh p N a (Nat.ne_of_lt ha) its.toArray) he ⟨h1, p1⟩ hx' (show (N + 1 : Nat) ≠ N by omega) (by
      intro z
      have e' : N + 1 = N ∨ N + 1 = a := by simpa using z
      rcases e' with z | z
      · exact absurd z (show (N + 1 : Nat) ≠ N by omega)
      · exact absurd (z ▸ ha) (show ¬ (N + 1 : Nat) < N by omega)) fun u h' tk gu eo st1 hT hsz hk => ?_
    refine ⟨_, rfl, wpAny_letOwnedTupleGo_enum (s := { s with heap := h', toks := tk + 1 }) eo fun h'' e'' sb => ?_⟩
    have hT2 : h''.get? s.heap.objs.size = some { cls := .type "tuple", data := .seq #[.int ((i : Nat) : Int) tk, u] } := (sb.2 _ (Nat.ne_of_gt hel)).trans hT
    obtain ⟨w1, e1, ru⟩ : ∃ w1, its[i]? = some w1 ∧ RelV x w1 := rv.get hx
    have q1 : w1 = u := by
      have : its[i]? = some u := by simpa using gu
      rw [e1] at this; exact Option.some.inj this
    subst q1
    have new : ObjOk X.prog X.w (upd H s.heap.objs.size (.tup [.int ((i : Nat) : Int), x])) h'' s.heap.objs.size (.tup [.int ((i : Nat) : Int), x]) :=
      ⟨by show 2 ≤ sizeLine; decide, [.int ((i : Nat) : Int) tk, w1], .cons ⟨_, rfl⟩ (.cons ru .nil), ⟨_, hT2, rfl, _, rfl⟩⟩
    have I1 : Inv X pins σ (upd H s.heap.objs.size (.tup [.int ((i : Nat) : Int), x])) { s with heap := h'', toks := tk + 1 } :=
      I.turnedNew (t' := tk + 1) (ch := [N + 1, N]) (fun c o hb q => (sb.2 c (fun q' => hb (by simp [q']))).trans (hk c o (fun q' => hb (by simp [q'])) (fun q' => hb (by simp [q'])) q)) hf (Nat.le_refl _) new
    refine ⟨.ref s.heap.objs.size, _, I1, rfl, ⟨_, x, rfl, I.hok.fresh (Nat.le_refl _), rfl, fun l hl => by rw [I.sq_inj hl hqx]; exact hx⟩, ⟨⟨_, by simpa using e''⟩, ?_⟩, fun c hcm => ?_⟩
    · exact st1.1.at fun o z => (sb.2 _ (show (N : Nat) ≠ N + 1 by omega)).trans z
    · have hlt : c < s.heap.objs.size := by
        have e' : c = N + 1 ∨ c = N := by simpa using hcm
        have hz0 : (N : Nat) + 1 < s.heap.objs.size := hel
        rcases e' with z | z
        · rw [z]; exact hel
        · rw [z]; exact (show (N : Nat) < s.heap.objs.size by omega)
      rw [upd_ne (Nat.ne_of_lt hlt)]
      exact (hf c hcm).1
  done := by
    intro X hP hw hK hc i pins s σ H E I hf st hg
    subst hP hw hK
    obtain ⟨⟨old, he⟩, h1⟩ := st
    obtain ⟨xs, hqx, l1⟩ := hg
    obtain ⟨its, rv, p1, _⟩ := I.sq hqx
    have m1 := rv.length
    have hh : X.A.in1.handled = none := I.ok.hd hc
    have hi : i = its.toArray.size := by simp; omega
    refine wpAny_pyNext_enum_endD (draws_sq hh p N a (Nat.ne_of_lt ha) its.toArray) he ⟨hi ▸ h1, p1⟩ fun h' hk => ⟨rfl, I.turnedL (t' := s.toks) (ch := [N + 1, N]) (fun c o hb q => hk c o (fun q' => hb (by simp [q'])) q) hf⟩
  self := fun A i s Q E st h => by
    obtain ⟨⟨old, he⟩, h1⟩ := st
    exact wpAny_pyIter_enum he h
def iEnumB (K : PySem.W.Frag) (ta : TA) : TI := fun σ H R => ta σ H fun vs H1 => ∃ a xs p, vs = [.ref a] ∧ SqB K H1 p a xs ∧ R (IteB K p a) H1
theorem pi_enumB {X : Cx} {e : Expr} {ta : TA} {p pos tpos : Pos} {elts : List Expr} {kk : Nat} (hg : Gl X "enumerate") (hm : X.mg "enumerate" = none) (ha : PA X [e] ta)
    (hs : starEach [e] X.env = (false, eval e X.env) :: starEach [] X.env := by rfl) (hpl : (backTo pos (starEach [] X.env)).any (·.1) = false := by rfl) :
    PI X (.Tuple elts kk tpos) (.Call (.Name "enumerate" p) [e] [] pos) (iEnumB X.K ta) := by
  refine ⟨fun pins s σ H R I h => ?_⟩
  refine Call_ (ld_blt I hg hm PyProof.Rows.boot_enumerate (PyProof.Rows.callWith_type1 (thn (ha.run pos pins s σ H _ I h) fun us s1 ⟨vs, H1, I1, r1, q1⟩ => ?_) hs hpl))
  obtain ⟨a, xs, k1, ex, hqx, q1⟩ := q1
  subst ex
  cases r1 with
  | cons r rr =>
    cases rr
    cases r
    have fresh2 : ∀ c, c ∈ [s1.heap.objs.size + 1, s1.heap.objs.size] → FpOk X pins H1 c := fun c hcm => by
      have e' : c = s1.heap.objs.size + 1 ∨ c = s1.heap.objs.size := by simpa using hcm
      have hle : s1.heap.objs.size ≤ c := by
        rcases e' with z | z
        · rw [z]; exact Nat.le_add_right _ _
        · rw [z]; exact Nat.le_refl _
      exact I1.fpOk hle (I1.hok.fresh hle)
    obtain ⟨its, rv, p1, _, lt1⟩ := I1.sq hqx
    refine enum_begins1 (begins_sq k1 a its.toArray) p1 fun h' he h1 hsz hk => wpAny_pyIter_enum he ?_
    have I2 : Inv X pins σ H1 { s1 with heap := h' } := I1.kept (t' := s1.toks) hk
    exact ⟨s1.heap.objs.size + 1, [s1.heap.objs.size + 1, s1.heap.objs.size], _, _, H1, rfl, I2, turn_enumB lt1, ⟨⟨_, he⟩, isIt.new _ h1⟩, fresh2, q1⟩
def enumD (xs : List D) : List D := xs.mapIdx fun i x => D.tup [.int ((i : Nat) : Int), x]
theorem di_enum {X : Cx} {W : Wd} {e : Expr} {φ : DT} {p pos tpos : Pos} {elts : List Expr} {kk : Nat} (hm : X.mg "enumerate" = none) (ha : DE W X e φ) (hg : Gl X "enumerate" := by rfl)
    (hs : starEach [e] X.env = (false, eval e X.env) :: starEach [] X.env := by rfl) (hpl : (backTo pos (starEach [] X.env)).any (·.1) = false := by rfl) :
    DI W X (.Tuple elts kk tpos) (.Call (.Name "enumerate" p) [e] [] pos) (fun ρ P => φ ρ fun x => asL x fun xs => P (enumD xs)) :=
  pi_imp (pi_enumB hg hm (da_cons ha da_nil hs) hs hpl) fun σ H R ⟨g, F, ρ, P, w, en, p, q⟩ => ⟨g, F, ρ, fun ds => (match ds with | [x] => asL x fun xs => P (enumD xs) | _ => fun _ => False), w, en, p, fun vs H1 F1 ds g1 G1 r1 p1 => by
    match ds, p1 with
    | [], p1 => exact False.elim p1
    | _ :: _ :: _, p1 => exact False.elim p1
    | [x], p1 =>
      obtain ⟨v, rfl, h1⟩ := reps1 r1
      obtain ⟨a, vs1, xs, k1, rfl, sq1, z1, t1, p2⟩ := sqB_of (P := fun xs => P (enumD xs)) h1 p1
      have hl : (enumD xs).length = xs.length := by unfold enumD; simp
      have m1 := t1.length
      refine ⟨a, vs1, k1, rfl, sq1 _ G1.wld.sub, q _ H1 F1 _ g1 G1 ⟨by omega, fun i H' hi s => ?_, fun H' s => ?_, fun i H' x H2 F' g' hi s w y => ?_⟩ p2⟩
      · have i1 : i < vs1.length := by omega
        exact ⟨vs1, vs1[i], sq1 _ s, by simp [i1]⟩
      · exact ⟨vs1, sq1 _ s, by omega⟩
      · obtain ⟨T, x', rfl, hT, rfl, f1⟩ := y
        obtain ⟨d1, e1, r1'⟩ := t1.get' (f1 vs1 (sq1 _ (s.trans w.sub)))
        refine ⟨_, .tup [.int ((i : Nat) : Int), d1], Grow.new w _ hT, .tup (.inl (.inl upd_same)) (by show 2 ≤ sizeLine; decide) (.cons (.int _) (.cons ((r1'.mono s).mono (same_upd (w.fnone hT))) .nil)), ?_⟩
        unfold enumD
        rw [List.getElem?_mapIdx, e1]
        rfl⟩
end DL

set_option Elab.async false
set_option linter.all false
set_option maxRecDepth 100000
set_option maxHeartbeats 4000000
namespace DL
open PySem PySem.Spec L2
open PyProof.Rows hiding St
/-! ### comprehensions -/
def wipeD (ρ : List SV) : List Nat → List SV
  | [] => ρ
  | v :: vs => (wipeD ρ vs).set v .u
theorem wipeD_length (ρ : List SV) : ∀ vs : List Nat, (wipeD ρ vs).length = ρ.length
  | [] => rfl
  | v :: vs => by unfold wipeD; rw [List.length_set, wipeD_length ρ vs]
theorem wipe_get {σ : St} {j : Nat} : ∀ {vs : List Nat}, (wipe σ vs)[j]? = if j ∈ vs then (if j < σ.length then some none else none) else σ[j]?
  | [] => by simp [wipe]
  | v :: vs => by
    unfold wipe
    by_cases h : v = j
    · subst h
      by_cases hl : v < σ.length
      · rw [List.getElem?_set_self (by rw [wipe_length]; exact hl)]; simp [hl]
      · rw [List.getElem?_eq_none (by rw [List.length_set, wipe_length]; omega)]; simp [hl]
    · rw [List.getElem?_set_ne h, wipe_get (vs := vs)]
      have : (j ∈ v :: vs) ↔ j ∈ vs := by simp [Ne.symm h]
      simp only [this]
theorem wipeD_d {ρ : List SV} {j : Nat} {x : SV} (hx : x ≠ .u) : ∀ {vs : List Nat}, (wipeD ρ vs)[j]? = some x → j ∉ vs ∧ ρ[j]? = some x
  | [], h => ⟨by simp, h⟩
  | v :: vs, h => by
    unfold wipeD at h
    by_cases e : v = j
    · subst e
      by_cases hl : v < (wipeD ρ vs).length
      · rw [List.getElem?_set_self hl] at h; cases h; exact absurd rfl hx
      · rw [List.getElem?_eq_none (by rw [List.length_set]; omega)] at h; cases h
    · rw [List.getElem?_set_ne e] at h
      obtain ⟨h1, h2⟩ := wipeD_d hx h
      exact ⟨by simp [Ne.symm e, h1], h2⟩
theorem EnvR.wipe {K : PySem.W.Frag} {W : Wd} {F H : Hp} {σ : St} {ρ : List SV} (en : EnvR K W F H σ ρ) (vs : List Nat) : EnvR K W F H (L2.wipe σ vs) (wipeD ρ vs) := by
  refine ⟨by rw [wipe_length, wipeD_length]; exact en.len, fun j x e => ?_, fun j xs e => ?_, fun j k xs ys p e1 e2 e3 e4 => ?_⟩
  · obtain ⟨h1, h2⟩ := wipeD_d (x := .d x) (fun z => nomatch z) e
    rw [wipe_get, if_neg h1]; exact en.d j x h2
  · obtain ⟨h1, h2⟩ := wipeD_d (x := .o xs) (fun z => nomatch z) e
    rw [wipe_get, if_neg h1]; exact en.o j xs h2
  · obtain ⟨h1, h2⟩ := wipeD_d (x := .o xs) (fun z => nomatch z) e1
    obtain ⟨h3, h4⟩ := wipeD_d (x := .o ys) (fun z => nomatch z) e2
    rw [wipe_get, if_neg h1] at e3
    rw [wipe_get, if_neg h3] at e4
    exact en.ne j k xs ys p h2 h4 e3 e4
theorem wipe_off {is vs : List Nat} {σ σ' : St} {ρ ρ' : List SV} (o : Off is (wipe σ vs) σ' ρ ρ') (h : ∀ i ∈ is, i ∈ vs) : wipe σ' vs = wipe σ vs := by
  apply List.ext_getElem?
  intro j
  have hl : σ'.length = σ.length := by rw [o.len, wipe_length]
  rw [wipe_get, wipe_get, hl]
  by_cases hj : j ∈ vs
  · rw [if_pos hj, if_pos hj]
  · rw [if_neg hj, if_neg hj, o.off j (fun z => hj (h j z)), wipe_get, if_neg hj]
/-- tests of a clause -/
abbrev DTs (W : Wd) (X : Cx) (ifs : List Expr) (φ : DB) : Prop := PTs X ifs (tDB X.K W φ)
theorem pts_imp {X : Cx} {ifs : List Expr} {t t' : TT} (h : PTs X ifs t) (i : ∀ σ H Q, t' σ H Q → t σ H Q) : PTs X ifs t' := ⟨fun pins s σ H Q I q => h.run pins s σ H Q I (i σ H Q q)⟩
def rYes : DB := fun _ P => P true
theorem dts_nil {X : Cx} {W : Wd} : DTs W X [] rYes := pts_imp pts_nil fun σ H Q ⟨g, F, ρ, P, w, en, p, q⟩ => q true H F g (Grow.refl w) p
theorem dts_one {X : Cx} {W : Wd} {c : Expr} {β : DB} (h : DTe W X c β) : DTs W X [c] β := pts_one h
/-- the items that a comprehension makes of xs -/
def lcD (τ : DGT) (tt : DB) (φ : DT) (own : List Nat) (ρ : List SV) : List D → (List D → GP) → GP
  | [], P => P []
  | x :: xs, P => fun g => ∃ N : Option D → GP, τ x (wipeD ρ own) (fun ρ1 => tt ρ1 fun b => if b = true then φ ρ1 (fun y => N (some y)) else N none) g ∧
      (∀ y g', N (some y) g' → lcD τ tt φ own ρ xs (fun ys => P (y :: ys)) g') ∧ ∀ g', N none g' → lcD τ tt φ own ρ xs P g'
section
variable {X : Cx} {W : Wd}
theorem lc_read {K : PySem.W.Frag} {ι : DA} {is own : List Nat} {τ : DGT} {tt : DB} {φ : DT} {σ : St} {H : Hp} {Q : VK} (ho : ∀ i ∈ is, i ∈ own)
    (h : tDF K W (fun ρ P => ι ρ fun xs => lcD τ tt φ own ρ xs P) σ H Q) : tLc (tDI K W ι) (gD K W is τ) (tDB K W tt) (tD K W φ) own σ H Q := by
  obtain ⟨g, F, ρ, P, w, en, p, q⟩ := h
  refine ⟨g, F, ρ, _, w, en, p, fun J H1 F1 xs g1 G1 WK p1 D nD => ?_⟩
  -- the invariant: the list at D holds what is made so far
  let Pv : Nat → Hp → Prop := fun i Hc => ∃ g2 F2 vs ys, Grow K W F H g2 F2 Hc ∧ Same F1 F2 ∧ F2 D = none ∧ Hc D = some (.lst vs) ∧ Reps K W F2 vs ys ∧ ys.length ≤ i ∧ i ≤ xs.length ∧ lcD τ tt φ own ρ (xs.drop i) (fun zs => P (ys ++ zs)) g2
  have nH : H D = none := G1.fresh nD
  refine ⟨fun i m Hc => m = xs.length - i ∧ Pv i Hc, ⟨xs.length, rfl, ?_⟩, ?_⟩
  · refine ⟨g1, F1, [], [], G1.trans (Grow.newOwn G1.wld _ nD), Same.refl _, G1.wld.fnone nD, upd_same, .nil, Nat.zero_le _, Nat.zero_le _, ?_⟩
    simpa using p1
  · rintro i m Hc ⟨rfl, g2, F2, vs, ys, G2, s2, nF, hD, r2, l2, hi, p2⟩
    have w2 := G2.wld
    by_cases hlt : i < xs.length
    · refine .inr ⟨WK.goes i Hc hlt (s2.trans w2.sub), Pv (i + 1), fun H' p' => ⟨xs.length - (i + 1), by omega, rfl, p'⟩, fun x H' y => ?_⟩
      obtain ⟨F3, d, G3, r3, e3⟩ := WK.yields i Hc x H' F2 g2 hlt s2 w2 y
      have ed : xs.drop i = d :: xs.drop (i + 1) := by
        obtain ⟨hl, he⟩ := List.getElem?_eq_some_iff.mp e3
        rw [← he]; exact List.drop_eq_getElem_cons hl
      rw [ed] at p2
      obtain ⟨N, p3, n1, n2⟩ := p2
      have G23 := G2.trans G3
      obtain ⟨hD3, nF3⟩ := G3.own D _ hD nF (w.ne nH)
      refine ⟨g2, F3, wipeD ρ own, d, _, G3.wld, (en.grow G23).wipe own, r3, p3, fun σ' ρ' en' off p4 => ⟨wipe_off off ho, ?_⟩⟩
      refine ⟨g2, F3, ρ', _, G3.wld, en', p4, fun b H4 F4 g4 G4 p5 => ?_⟩
      obtain ⟨hD4, nF4⟩ := G4.own D _ hD3 nF3 (w.ne nH)
      have G234 := G23.trans G4
      cases b with
      | false =>
        simp only [Bool.false_eq_true, if_false] at p5 ⊢
        exact ⟨g4, F4, vs, ys, G234, (s2.trans G3.fz).trans G4.fz, nF4, hD4, r2.mono (G3.fz.trans G4.fz), by omega, hlt, n2 g4 p5⟩
      | true =>
        simp only [if_true] at p5 ⊢
        refine ⟨g4, F4, ρ', _, G4.wld, en'.grow G4, p5, fun v H5 F5 y g5 G5 r5 p6 => ?_⟩
        obtain ⟨hD5, nF5⟩ := G5.own D _ hD4 nF4 (w.ne nH)
        have G := G234.trans G5
        have rv : Reps K W F5 vs ys := r2.mono ((G3.fz.trans G4.fz).trans G5.fz)
        refine ⟨vs, hD5, ?_, ?_⟩
        · have := WK.small
          rw [rv.length]; omega
        · refine ⟨g5, F5, vs ++ [v], ys ++ [y], ?_, ((s2.trans G3.fz).trans G4.fz).trans G5.fz, nF5, upd_same, rv.append (.one r5), by simp; omega, hlt, ?_⟩
          · refine ⟨G.fz, fun a o e n r => ?_, fun a o e => ?_, G.wld.nopen, G.wld.cel, ?_⟩
            · have ne : a ≠ D := ne_of_none e nH
              rw [upd_ne ne]; exact G.own a o e n r
            · have ne : a ≠ D := fun z => by rw [z, nF5] at e; cases e
              rw [upd_ne ne]; exact G.wld.sub a o e
            · obtain ⟨a, d', m, f, h2, h3⟩ := G.wld.pen
              refine ⟨a, d', m, f, ?_, h3⟩
              rw [upd_ne (Ne.symm (w.ne nH))]; exact h2
          · have := n1 y g5 p6
            simpa using this
    · have e : i = xs.length := by omega
      subst e
      refine .inl ⟨WK.stops Hc (s2.trans w2.sub), ?_⟩
      rw [List.drop_length] at p2
      have p3 : P ys g2 := by simpa [lcD] using p2
      exact q D Hc F2 vs ys g2 nH G2 nF hD r2 (by have := WK.small; omega) p3
variable {elt tg iter : Expr} {ifs : List Expr} {scope : Scope} {own : List (Str × Nat)} {pos pos' : Pos} {ι : DA} {is : List Nat} {τ : DGT} {tt : DB} {φ : DT}
/-- [elt for tg in iter if ..] -/
theorem f_lc (hc : X.calm = true) (hN : X.N.Nodup) (hi : DI W X tg iter ι) (ok : BlkOk X.N X.env.scope scope own) (ho : ∀ i ∈ is, i ∈ own.map (·.2))
    (hg : ∀ (s : Shared) (H : Hp) (C : Addr) (cl : List (Str × Addr)) (fp : List Addr), DG W (X.blk s H scope (compEnvC scope cl C X.env) fp) tg is τ)
    (ht : ∀ (s : Shared) (H : Hp) (C : Addr) (cl : List (Str × Addr)) (fp : List Addr), DTs W (X.blk s H scope (compEnvC scope cl C X.env) fp) ifs tt)
    (he : ∀ (s : Shared) (H : Hp) (C : Addr) (cl : List (Str × Addr)) (fp : List Addr), DE W (X.blk s H scope (compEnvC scope cl C X.env) fp) elt φ) (hs : ∀ x, foldedSetIterable iter X.env x = pure x := by intro _; rfl) :
    DF W X (.ListComp elt [⟨tg, iter, ifs, 0⟩] scope pos) (fun ρ P => ι ρ fun xs => lcD τ tt φ (own.map (·.2)) ρ xs P) :=
  pe_imp (pe_lc hc hN hi ok hg ht he hs) fun σ H Q h => lc_read ho h

/-! ### own lists read for a while -/
def frz (ρ : List SV) (is : List Nat) : List SV := ρ.mapIdx fun i x => match x with
  | .o xs => if i ∈ is then .d (.lst xs) else .o xs
  | x => x
mutual
def LF : D → Bool
  | .non => true | .bl _ => true | .int _ => true | .str _ => true
  | .tup xs => LFs xs
  | .lst _ => false
  | .dic _ xs => LFs xs
  | .obj _ _ xs => LFs xs
  | .pen => true
def LFs : List D → Bool
  | [] => true
  | x :: xs => LF x && LFs xs
end
mutual
theorem Rep.lf {K : PySem.W.Frag} {F F' : Hp} (h : ∀ a o, F a = some o → (∀ xs, o ≠ .lst xs) → F' a = some o) : ∀ {v : V} {d : D}, Rep K W F v d → LF d = true → Rep K W F' v d
  | _, _, .non, _ => .non
  | _, _, .bl b, _ => .bl b
  | _, _, .int i, _ => .int i
  | _, _, .str x, _ => .str x
  | _, _, .tup q z r, l => by
    refine .tup ?_ z (r.lfs h (by simpa [LF] using l))
    rcases q with (q | ⟨o, q⟩) | q
    · exact .inl (.inl (h _ _ q fun _ z => nomatch z))
    · exact .inl (.inr ⟨o, h _ _ q fun _ z => nomatch z⟩)
    · exact .inr q
  | _, _, .lst _ _ _, l => by simp [LF] at l
  | _, _, .dic q l r, e => .dic (h _ _ q fun _ z => nomatch z) l (r.lfs h (by simpa [LF] using e))
  | _, _, .obj q l r, e => .obj (h _ _ q fun _ z => nomatch z) l (r.lfs h (by simpa [LF] using e))
  | _, _, .pen, _ => .pen
theorem Reps.lfs {K : PySem.W.Frag} {F F' : Hp} (h : ∀ a o, F a = some o → (∀ xs, o ≠ .lst xs) → F' a = some o) : ∀ {vs : List V} {ds : List D}, Reps K W F vs ds → LFs ds = true → Reps K W F' vs ds
  | _, _, .nil, _ => .nil
  | _, _, .cons a t, l => by
    simp only [LFs, Bool.and_eq_true] at l
    exact .cons (a.lf h l.1) (t.lfs h l.2)
end
/-- the own lists of the slots is, told for good -/
noncomputable def frzF (F H : Hp) (σ : St) (ρ : List SV) (is : List Nat) : Hp := fun a => open Classical in if ∃ (i : Nat) (xs : List D), i ∈ is ∧ ρ[i]? = some (.o xs) ∧ σ[i]? = some (some (.ref a)) then H a else F a
theorem frz_get {ρ : List SV} {is : List Nat} {j : Nat} : (frz ρ is)[j]? = (ρ[j]?).map fun x => match x with | .o xs => if j ∈ is then .d (.lst xs) else .o xs | x => x := by
  unfold frz
  rw [List.getElem?_mapIdx]
section
variable {K : PySem.W.Frag} {g : Nat} {F H : Hp} {σ : St} {ρ : List SV} {is : List Nat}
theorem frzF_same (w : Wld K W g F H) (en : EnvR K W F H σ ρ) : Same F (frzF F H σ ρ is) := fun a o e => by
  unfold frzF
  split
  · rename_i h
    obtain ⟨i, xs, h1, h2, h3⟩ := h
    obtain ⟨p, vs, q1, q2, _⟩ := en.o i xs h2
    rw [h3] at q1; cases q1
    rw [q2] at e; cases e
  · exact e
theorem frzF_sub (w : Wld K W g F H) (en : EnvR K W F H σ ρ) : Same (frzF F H σ ρ is) H := fun a o e => by
  unfold frzF at e
  split at e
  · exact e
  · exact w.sub a o e
theorem frzF_at (en : EnvR K W F H σ ρ) {i : Nat} {xs : List D} {a : Addr} (h1 : i ∈ is) (h2 : ρ[i]? = some (.o xs)) (h3 : σ[i]? = some (some (.ref a))) : frzF F H σ ρ is a = H a := by
  unfold frzF
  rw [if_pos ⟨i, xs, h1, h2, h3⟩]
theorem frzF_off {a : Addr} (h : ¬ ∃ (i : Nat) (xs : List D), i ∈ is ∧ ρ[i]? = some (.o xs) ∧ σ[i]? = some (some (.ref a))) : frzF F H σ ρ is a = F a := by
  unfold frzF
  rw [if_neg h]
theorem frz_wld (w : Wld K W g F H) (en : EnvR K W F H σ ρ) : Wld K W g (frzF F H σ ρ is) H := by
  refine ⟨frzF_sub w en, ?_, frzF_same w en _ _ w.cel, w.pen⟩
  · rw [frzF_off]; exact w.nopen
    rintro ⟨i, xs, h1, h2, h3⟩
    obtain ⟨p, vs, q1, _, q3, _⟩ := en.o i xs h2
    rw [h3] at q1; cases q1
    exact q3 rfl
theorem frz_env (w : Wld K W g F H) (en : EnvR K W F H σ ρ) (hz : ∀ (i : Nat) xs, ρ[i]? = some (.o xs) → xs.length ≤ sizeLine) : EnvR K W (frzF F H σ ρ is) H σ (frz ρ is) := by
  have s := frzF_same (is := is) w en
  refine ⟨by unfold frz; rw [List.length_mapIdx]; exact en.len, fun j x e => ?_, fun j xs e => ?_, fun j k xs ys p e1 e2 e3 e4 => ?_⟩
  · rw [frz_get] at e
    cases q : ρ[j]? with
    | none => rw [q] at e; simp at e
    | some y =>
      rw [q] at e
      cases y with
      | u => simp at e
      | d z =>
        simp at e; subst e
        obtain ⟨v, h1, h2⟩ := en.d j z q
        exact ⟨v, h1, h2.mono s⟩
      | o zs =>
        obtain ⟨p, vs, h1, h2, h3, h4, h5⟩ := en.o j zs q
        by_cases hj : j ∈ is
        · simp [hj] at e; subst e
          exact ⟨_, h1, .lst (by rw [frzF_at en hj q h1]; exact h4) (hz j zs q) (h5.mono s)⟩
        · simp [hj] at e
  · rw [frz_get] at e
    cases q : ρ[j]? with
    | none => rw [q] at e; simp at e
    | some y =>
      rw [q] at e
      cases y with
      | u => simp at e
      | d z => simp at e
      | o zs =>
        obtain ⟨p, vs, h1, h2, h3, h4, h5⟩ := en.o j zs q
        by_cases hj : j ∈ is
        · simp [hj] at e
        · simp [hj] at e; subst e
          refine ⟨p, vs, h1, ?_, h3, h4, h5.mono s⟩
          rw [frzF_off]; exact h2
          rintro ⟨i, ws, g1, g2, g3⟩
          have := en.ne i j ws zs p g2 q g3 h1
          subst this
          exact hj g1
  · have back : ∀ (m : Nat) zs, (frz ρ is)[m]? = some (.o zs) → ρ[m]? = some (.o zs) := fun m zs e => by
      rw [frz_get] at e
      cases q : ρ[m]? with
      | none => rw [q] at e; simp at e
      | some y =>
        rw [q] at e
        cases y with
        | u => simp at e
        | d z => simp at e
        | o ws =>
          by_cases hm : m ∈ is
          · simp [hm] at e
          · simp [hm] at e; subst e; rfl
    exact en.ne j k xs ys p (back j xs e1) (back k ys e2) e3 e4
end
/-- an expression that reads own lists: what it gives holds none -/
theorem d_bor {e : Expr} {φ : DT} (is : List Nat) (h : DE W X e φ) : DE W X e (fun ρ P g => (∀ (i : Nat) xs, ρ[i]? = some (.o xs) → xs.length ≤ sizeLine) ∧ φ (frz ρ is) (fun d g' => LF d = true ∧ P d g') g) :=
  pe_imp h fun σ H Q ⟨g, F, ρ, P, w, en, ⟨hz, p⟩, q⟩ => by
    have s0 := frzF_same (is := is) w en
    refine ⟨g, frzF F H σ ρ is, frz ρ is, _, frz_wld w en, frz_env w en hz, p, fun v H' F' d g' G r ⟨lf, p'⟩ => ?_⟩
    -- the heap told for good, less the own lists
    let B : Addr → Prop := fun a => ∃ (i : Nat) (xs : List D), i ∈ is ∧ ρ[i]? = some (.o xs) ∧ σ[i]? = some (some (.ref a))
    have hB : ∀ a, B a → ∃ vs, H a = some (.lst vs) ∧ F a = none ∧ a ≠ W.pen ∧ F' a = some (.lst vs) := fun a ⟨i, xs, h1, h2, h3⟩ => by
      obtain ⟨p, vs, q1, q2, q3, q4, _⟩ := en.o i xs h2
      rw [h3] at q1; cases q1
      exact ⟨vs, q4, q2, q3, G.fz _ _ (by rw [frzF_at en h1 h2 h3]; exact q4)⟩
    let F2 : Hp := fun a => open Classical in if B a then none else F' a
    have f2n : ∀ a, B a → F2 a = none := fun a h => by show (open Classical in if B a then none else F' a) = none; rw [if_pos h]
    have f2s : ∀ a, ¬ B a → F2 a = F' a := fun a h => by show (open Classical in if B a then none else F' a) = F' a; rw [if_neg h]
    have f2F : ∀ a, F a ≠ none → ¬ B a := fun a h hb => by obtain ⟨_, _, z, _⟩ := hB a hb; exact h z
    refine q v H' F2 d g' ⟨fun a o e => ?_, fun a o e n r => ?_, fun a o e => ?_, ?_, ?_, G.wld.pen⟩ (r.lf (fun a o e hn => ?_) lf) p'
    · rw [f2s a (f2F a (by rw [e]; exact fun z => nomatch z))]
      exact G.fz a o (s0 a o e)
    · by_cases hb : B a
      · obtain ⟨vs, h1, h2, h3, h4⟩ := hB a hb
        rw [h1] at e; cases e
        exact ⟨G.wld.sub _ _ h4, f2n a hb⟩
      · rw [f2s a hb]
        exact G.own a o e (by rw [frzF_off hb]; exact n) r
    · by_cases hb : B a
      · rw [f2n a hb] at e; cases e
      · rw [f2s a hb] at e; exact G.wld.sub a o e
    · rw [f2s]; exact G.wld.nopen
      intro hb; obtain ⟨_, _, _, z, _⟩ := hB _ hb; exact z rfl
    · rw [f2s _ (f2F _ (by rw [w.cel]; exact fun z => nomatch z))]
      exact G.fz _ _ (s0 _ _ w.cel)
    · by_cases hb : B a
      · obtain ⟨vs, _, _, _, h4⟩ := hB a hb
        rw [h4] at e; cases e
        exact absurd rfl (hn vs)
      · rw [f2s a hb]; exact e
end
end DL

set_option Elab.async false
set_option linter.all false
set_option maxRecDepth 100000
set_option maxHeartbeats 4000000
/-! Statements, and the promise of a def. -/
namespace DL
open PySem PySem.Spec L2
open PyProof.Rows hiding St
structure DEnds where
  nx : List SV → GP
  rt : D → GP
  bk : List SV → GP := fun _ _ => False
  ct : List SV → GP := fun _ _ => False
structure SInv (K : PySem.W.Frag) (W : Wd) (F0 H0 : Hp) (g : Nat) (F H : Hp) (σ : St) (ρ : List SV) : Prop where
  gr : Grow K W F0 H0 g F H
  env : EnvR K W F H σ ρ
  new : ∀ (i : Nat) xs p, ρ[i]? = some (.o xs) → σ[i]? = some (some (.ref p)) → H0 p = none
  sm : ∀ (i : Nat) xs, ρ[i]? = some (.o xs) → xs.length ≤ sizeLine
abbrev DTS := DEnds → List SV → GP
def tDS (K : PySem.W.Frag) (W : Wd) (τ : DTS) : TS := fun D σ H => ∃ F0 H0 g F ρ DD, SInv K W F0 H0 g F H σ ρ ∧ τ DD ρ g ∧
  (∀ σ' H' F' ρ' g', SInv K W F0 H0 g' F' H' σ' ρ' → DD.nx ρ' g' → D.nx σ' H') ∧
  (∀ v H' F' d g', Grow K W F0 H0 g' F' H' → Rep K W F' v d → DD.rt d g' → D.rt v H') ∧
  (∀ σ' H' F' ρ' g', SInv K W F0 H0 g' F' H' σ' ρ' → DD.bk ρ' g' → D.bk σ' H') ∧
  (∀ σ' H' F' ρ' g', SInv K W F0 H0 g' F' H' σ' ρ' → DD.ct ρ' g' → D.ct σ' H')
abbrev DS (W : Wd) (X : Cx) (st : Stmt) (τ : DTS) : Prop := PS X st (tDS X.K W τ)
abbrev DSs (W : Wd) (X : Cx) (st : List Stmt) (τ : DTS) : Prop := PSs X st (tDS X.K W τ)
section
variable {X : Cx} {W : Wd} {st : Stmt} {rest : List Stmt} {τ υ : DTS} {e a b c tg iter : Expr} {φ ψ : DT} {α ι : DA} {β : DB} {pos pos' : Pos}
def rNext : DTS := fun DD ρ => DD.nx ρ
theorem ds_nil : DSs W X [] rNext := pss_imp pss_nil fun D σ H ⟨F0, H0, g, F, ρ, DD, I, p, nx, rt, bk, ct⟩ => nx _ _ _ _ _ I p
theorem ds_cons (h1 : DS W X st τ) (h2 : DSs W X rest υ) : DSs W X (st :: rest) (fun DD ρ => τ { DD with nx := υ DD } ρ) :=
  pss_imp (pss_cons h1 h2) fun D σ H ⟨F0, H0, g, F, ρ, DD, I, p, nx, rt, bk, ct⟩ =>
    ⟨F0, H0, g, F, ρ, _, I, p, fun σ' H' F' ρ' g' I' p' => ⟨F0, H0, g', F', ρ', DD, I', p', nx, rt, bk, ct⟩, rt, bk, ct⟩
theorem ds_one (h1 : DS W X st τ) : DSs W X [st] τ := pss_one h1
theorem s_pass : DS W X (.Pass pos) rNext := ps_imp ps_pass fun D σ H ⟨F0, H0, g, F, ρ, DD, I, p, nx, rt, bk, ct⟩ => nx _ _ _ _ _ I p
def rBrk : DTS := fun DD ρ => DD.bk ρ
def rCnt : DTS := fun DD ρ => DD.ct ρ
theorem s_break : DS W X (.Break pos) rBrk := ps_imp ps_break fun D σ H ⟨F0, H0, g, F, ρ, DD, I, p, nx, rt, bk, ct⟩ => bk _ _ _ _ _ I p
theorem s_cont : DS W X (.Continue pos) rCnt := ps_imp ps_continue fun D σ H ⟨F0, H0, g, F, ρ, DD, I, p, nx, rt, bk, ct⟩ => ct _ _ _ _ _ I p
theorem own_set {ρ : List SV} {i j : Nat} {d : D} {xs : List D} (e : (ρ.set i (.d d))[j]? = some (.o xs)) : i ≠ j ∧ ρ[j]? = some (.o xs) := by
  have hne : i ≠ j := fun z => by
    subst z
    by_cases hl : i < ρ.length
    · rw [List.getElem?_set_self hl] at e; cases e
    · rw [List.getElem?_eq_none (by rw [List.length_set]; omega)] at e; cases e
  rw [List.getElem?_set_ne hne] at e
  exact ⟨hne, e⟩
theorem SInv.setD {K : PySem.W.Frag} {F0 H0 F H F1 H1 : Hp} {g g1 : Nat} {σ : St} {ρ : List SV} {i : Nat} {v : V} {d : D} (I : SInv K W F0 H0 g F H σ ρ) (G : Grow K W F H g1 F1 H1) (r : Rep K W F1 v d) : SInv K W F0 H0 g1 F1 H1 (σ.set i (some v)) (ρ.set i (.d d)) :=
  ⟨I.gr.trans G, (I.env.grow G).setD r, fun j xs p e1 e2 => by
    obtain ⟨h1, h2⟩ := own_set e1
    rw [List.getElem?_set_ne h1] at e2
    exact I.new j xs p h2 e2, fun j xs e1 => I.sm j xs (own_set e1).2⟩
theorem SInv.grow {K : PySem.W.Frag} {F0 H0 F H F1 H1 : Hp} {g g1 : Nat} {σ : St} {ρ : List SV} (I : SInv K W F0 H0 g F H σ ρ) (G : Grow K W F H g1 F1 H1) : SInv K W F0 H0 g1 F1 H1 σ ρ := ⟨I.gr.trans G, I.env.grow G, I.new, I.sm⟩
/-- x = e -/
theorem s_set {i : Nat} {x : Str} (hN : X.N.Nodup) (hi : X.N[i]? = some x) (hx : Loc X.env.scope x) (he : DE W X e φ) (hs : swapsWith e (some (.Name x pos')) pos.line X.env = pure false := by rfl) (hf : X.fn x = true ∨ X.env.scope.names.lookup x = some .local := by first | exact .inl rfl | exact .inr rfl | assumption) :
    DS W X (.Assign [.Name x pos'] e pos) (fun DD ρ => φ ρ fun d => DD.nx (ρ.set i (.d d))) :=
  ps_imp (ps_set hN hi hx he hs hf) fun D σ H ⟨F0, H0, g, F, ρ, DD, I, p, nx, rt, bk, ct⟩ =>
    ⟨g, F, ρ, _, I.gr.wld, I.env, p, fun v H1 F1 d g1 G1 r1 p1 => nx _ _ _ _ _ (I.setD G1 r1) p1⟩
/-- an own list at a slot -/
theorem SInv.setO {K : PySem.W.Frag} {F0 H0 F H F1 H1 : Hp} {g g1 : Nat} {σ : St} {ρ : List SV} {i : Nat} {p : Addr} {vs : List V} {ds : List D} (I : SInv K W F0 H0 g F H σ ρ) (n : H p = none) (G : Grow K W F H g1 F1 H1) (n1 : F1 p = none) (h1 : H1 p = some (.lst vs)) (r : Reps K W F1 vs ds) (z : ds.length ≤ sizeLine) :
    SInv K W F0 H0 g1 F1 H1 (σ.set i (some (.ref p))) (ρ.set i (.o ds)) := by
  have en := I.env.grow G
  have npen : p ≠ W.pen := I.gr.wld.ne n
  have other : ∀ (j : Nat) xs, i ≠ j → ρ[j]? = some (.o xs) → σ[j]? ≠ some (some (.ref p)) := fun j xs _ e q => by
    obtain ⟨a, ws, h2, _, _, h5, _⟩ := I.env.o j xs e
    rw [q] at h2; cases h2
    rw [n] at h5; cases h5
  refine ⟨I.gr.trans G, ⟨by rw [List.length_set, List.length_set]; exact en.len, fun j x e => ?_, fun j xs e => ?_, fun j k xs ys a e1 e2 e3 e4 => ?_⟩, fun j xs a e1 e2 => ?_, fun j xs e1 => ?_⟩
  · by_cases h : i = j
    · subst h
      by_cases hl : i < ρ.length
      · rw [List.getElem?_set_self hl] at e; cases e
      · rw [List.getElem?_eq_none (by rw [List.length_set]; omega)] at e; cases e
    · rw [List.getElem?_set_ne h] at e ⊢
      exact en.d j x e
  · by_cases h : i = j
    · subst h
      by_cases hl : i < ρ.length
      · rw [List.getElem?_set_self hl] at e; cases e
        exact ⟨p, vs, List.getElem?_set_self (by rw [← en.len]; exact hl), n1, npen, h1, r⟩
      · rw [List.getElem?_eq_none (by rw [List.length_set]; omega)] at e; cases e
    · rw [List.getElem?_set_ne h] at e ⊢
      exact en.o j xs e
  · by_cases hj : i = j
    · by_cases hk : i = k
      · exact hj.symm.trans hk
      · rw [List.getElem?_set_ne hk] at e2 e4
        subst hj
        by_cases hl : i < σ.length
        · rw [List.getElem?_set_self hl] at e3; cases e3
          exact absurd e4 (other k ys hk e2)
        · rw [List.getElem?_eq_none (by rw [List.length_set]; omega)] at e3; cases e3
    · rw [List.getElem?_set_ne hj] at e1 e3
      by_cases hk : i = k
      · subst hk
        by_cases hl : i < σ.length
        · rw [List.getElem?_set_self hl] at e4; cases e4
          exact absurd e3 (other j xs hj e1)
        · rw [List.getElem?_eq_none (by rw [List.length_set]; omega)] at e4; cases e4
      · rw [List.getElem?_set_ne hk] at e2 e4
        exact en.ne j k xs ys a e1 e2 e3 e4
  · by_cases h : i = j
    · subst h
      by_cases hl : i < σ.length
      · rw [List.getElem?_set_self hl] at e2; cases e2
        exact I.gr.fresh n
      · rw [List.getElem?_eq_none (by rw [List.length_set]; omega)] at e2; cases e2
    · rw [List.getElem?_set_ne h] at e1 e2
      exact I.new j xs a e1 e2
  · by_cases h : i = j
    · subst h
      by_cases hl : i < ρ.length
      · rw [List.getElem?_set_self hl] at e1; cases e1; exact z
      · rw [List.getElem?_eq_none (by rw [List.length_set]; omega)] at e1; cases e1
    · rw [List.getElem?_set_ne h] at e1
      exact I.sm j xs e1
/-- x = a new list, one's own -/
theorem s_setO {i : Nat} {x : Str} (hN : X.N.Nodup) (hi : X.N[i]? = some x) (hx : Loc X.env.scope x) (he : DF W X e α) (hs : swapsWith e (some (.Name x pos')) pos.line X.env = pure false := by rfl) (hf : X.fn x = true ∨ X.env.scope.names.lookup x = some .local := by first | exact .inl rfl | exact .inr rfl | assumption) :
    DS W X (.Assign [.Name x pos'] e pos) (fun DD ρ => α ρ fun ds => DD.nx (ρ.set i (.o ds))) :=
  ps_imp (ps_set hN hi hx he hs hf) fun D σ H ⟨F0, H0, g, F, ρ, DD, I, p, nx, rt, bk, ct⟩ =>
    ⟨g, F, ρ, _, I.gr.wld, I.env, p, fun a H1 F1 vs ds g1 n G1 n1 h1 r1 z p1 => nx _ _ _ _ _ (I.setO n G1 n1 h1 r1 z) p1⟩
section
variable {elt : Expr} {ifs : List Expr} {scope : Scope} {own : List (Str × Nat)} {is : List Nat} {θ : DGT} {tt : DB} {cpos : Pos}
/-- x = [..] on one line: told for good, or one's own -/
theorem s_setLc {i : Nat} {x : Str} (hc : X.calm = true) (hN : X.N.Nodup) (hi : X.N[i]? = some x) (hxl : X.env.scope.names.lookup x = some .local)
    (hsw : swapsWith (.ListComp elt [⟨tg, iter, ifs, 0⟩] scope cpos) (some (.Name x pos')) pos.line X.env = pure true) (hit : DI W X tg iter ι) (ok : BlkOk X.N X.env.scope scope own) (ho : ∀ i ∈ is, i ∈ own.map (·.2))
    (hg : ∀ (s : Shared) (H : Hp) (C : Addr) (cl : List (Str × Addr)) (fp : List Addr), DG W (X.blk s H scope (compEnvC scope cl C X.env) fp) tg is θ)
    (ht : ∀ (s : Shared) (H : Hp) (C : Addr) (cl : List (Str × Addr)) (fp : List Addr), DTs W (X.blk s H scope (compEnvC scope cl C X.env) fp) ifs tt)
    (he : ∀ (s : Shared) (H : Hp) (C : Addr) (cl : List (Str × Addr)) (fp : List Addr), DE W (X.blk s H scope (compEnvC scope cl C X.env) fp) elt φ) (hs : ∀ x, foldedSetIterable iter X.env x = pure x := by intro _; rfl) :
    DS W X (.Assign [.Name x pos'] (.ListComp elt [⟨tg, iter, ifs, 0⟩] scope cpos) pos) (fun DD ρ => ι ρ fun xs => lcD θ tt φ (own.map (·.2)) ρ xs fun ds => DD.nx (ρ.set i (.d (.lst ds)))) :=
  ps_imp (ps_setLc hc hN hi hxl hsw hit ok hg ht he hs) fun D σ H ⟨F0, H0, g, F, ρ, DD, I, p, nx, rt, bk, ct⟩ =>
    lc_read ho ⟨g, F, ρ, _, I.gr.wld, I.env, p, fun a H1 F1 vs ds g1 n G1 n1 h1 r1 z p1 => nx _ _ _ _ _ (I.setD (G1.freeze I.gr.wld n n1 h1) (.lst upd_same z (r1.mono (same_upd n1)))) p1⟩
theorem s_setLcO {i : Nat} {x : Str} (hc : X.calm = true) (hN : X.N.Nodup) (hi : X.N[i]? = some x) (hxl : X.env.scope.names.lookup x = some .local)
    (hsw : swapsWith (.ListComp elt [⟨tg, iter, ifs, 0⟩] scope cpos) (some (.Name x pos')) pos.line X.env = pure true) (hit : DI W X tg iter ι) (ok : BlkOk X.N X.env.scope scope own) (ho : ∀ i ∈ is, i ∈ own.map (·.2))
    (hg : ∀ (s : Shared) (H : Hp) (C : Addr) (cl : List (Str × Addr)) (fp : List Addr), DG W (X.blk s H scope (compEnvC scope cl C X.env) fp) tg is θ)
    (ht : ∀ (s : Shared) (H : Hp) (C : Addr) (cl : List (Str × Addr)) (fp : List Addr), DTs W (X.blk s H scope (compEnvC scope cl C X.env) fp) ifs tt)
    (he : ∀ (s : Shared) (H : Hp) (C : Addr) (cl : List (Str × Addr)) (fp : List Addr), DE W (X.blk s H scope (compEnvC scope cl C X.env) fp) elt φ) (hs : ∀ x, foldedSetIterable iter X.env x = pure x := by intro _; rfl) :
    DS W X (.Assign [.Name x pos'] (.ListComp elt [⟨tg, iter, ifs, 0⟩] scope cpos) pos) (fun DD ρ => ι ρ fun xs => lcD θ tt φ (own.map (·.2)) ρ xs fun ds => DD.nx (ρ.set i (.o ds))) :=
  ps_imp (ps_setLc hc hN hi hxl hsw hit ok hg ht he hs) fun D σ H ⟨F0, H0, g, F, ρ, DD, I, p, nx, rt, bk, ct⟩ =>
    lc_read ho ⟨g, F, ρ, _, I.gr.wld, I.env, p, fun a H1 F1 vs ds g1 n G1 n1 h1 r1 z p1 => nx _ _ _ _ _ (I.setO n G1 n1 h1 r1 z) p1⟩
end
/-- return e; an expression as a statement -/
theorem s_ret (he : DE W X e φ) : DS W X (.Return (some e) pos) (fun DD ρ => φ ρ DD.rt) :=
  ps_imp (ps_ret he) fun D σ H ⟨F0, H0, g, F, ρ, DD, I, p, nx, rt, bk, ct⟩ => ⟨g, F, ρ, _, I.gr.wld, I.env, p, fun v H1 F1 d g1 G1 r1 p1 => rt _ _ _ _ _ (I.gr.trans G1) r1 p1⟩
theorem s_retN : DS W X (.Return none pos) (fun DD ρ => DD.rt .non) :=
  ps_imp ps_retN fun D σ H ⟨F0, H0, g, F, ρ, DD, I, p, nx, rt, bk, ct⟩ => rt _ _ _ _ _ I.gr .non p
theorem s_expr (he : DE W X e φ) (hs : swapsWith e none pos.line X.env = pure false := by rfl) : DS W X (.Expr e pos) (fun DD ρ => φ ρ fun _ => DD.nx ρ) :=
  ps_imp (ps_expr he hs) fun D σ H ⟨F0, H0, g, F, ρ, DD, I, p, nx, rt, bk, ct⟩ => ⟨g, F, ρ, _, I.gr.wld, I.env, p, fun v H1 F1 d g1 G1 r1 p1 => nx _ _ _ _ _ (I.grow G1) p1⟩
theorem s_if {s1 s2 : List Stmt} (hc : DTe W X c β) (ha : DSs W X s1 τ) (hb : DSs W X s2 υ) : DS W X (.If c s1 s2 pos) (fun DD ρ => β ρ fun k => if k = true then τ DD ρ else υ DD ρ) :=
  ps_imp (ps_if hc ha hb) fun D σ H ⟨F0, H0, g, F, ρ, DD, I, p, nx, rt, bk, ct⟩ => ⟨g, F, ρ, _, I.gr.wld, I.env, p, fun k H1 F1 g1 G1 p1 => by
    cases k with
    | true => exact ⟨F0, H0, g1, F1, ρ, DD, I.grow G1, p1, nx, rt, bk, ct⟩
    | false => exact ⟨F0, H0, g1, F1, ρ, DD, I.grow G1, p1, nx, rt, bk, ct⟩⟩
theorem s_never : DS W X st (fun _ _ _ => False) := ps_imp ps_never fun D σ H ⟨F0, H0, g, F, ρ, DD, I, p, nx, rt, bk, ct⟩ => p
theorem ds_never {sts : List Stmt} : DSs W X sts (fun _ _ _ => False) := pss_imp pss_never fun D σ H ⟨F0, H0, g, F, ρ, DD, I, p, nx, rt, bk, ct⟩ => p
/-- own lists told for good from here on -/
theorem SInv.frz {K : PySem.W.Frag} {F0 H0 F H : Hp} {g : Nat} {σ : St} {ρ : List SV} (is : List Nat) (I : SInv K W F0 H0 g F H σ ρ) : SInv K W F0 H0 g (frzF F H σ ρ is) H σ (frz ρ is) := by
  have back : ∀ (m : Nat) zs, (DL.frz ρ is)[m]? = some (.o zs) → ρ[m]? = some (.o zs) := fun m zs e => by
    rw [frz_get] at e
    cases q : ρ[m]? with
    | none => rw [q] at e; simp at e
    | some y =>
      rw [q] at e
      cases y with
      | u => simp at e
      | d z => simp at e
      | o ws =>
        by_cases hm : m ∈ is
        · simp [hm] at e
        · simp [hm] at e; subst e; rfl
  refine ⟨⟨I.gr.fz.trans (frzF_same I.gr.wld I.env), fun a o e n r => ?_, frz_wld I.gr.wld I.env⟩, frz_env I.gr.wld I.env I.sm, fun j xs p e1 e2 => I.new j xs p (back j xs e1) e2, fun j xs e1 => I.sm j xs (back j xs e1)⟩
  obtain ⟨h1, h2⟩ := I.gr.own a o e n r
  refine ⟨h1, ?_⟩
  rw [frzF_off]; exact h2
  rintro ⟨i, xs, q1, q2, q3⟩
  have := I.new i xs a q2 q3
  rw [this] at e; cases e
theorem ss_frz {sts : List Stmt} (is : List Nat) (h : DSs W X sts τ) : DSs W X sts (fun DD ρ => τ DD (frz ρ is)) :=
  pss_imp h fun D σ H ⟨F0, H0, g, F, ρ, DD, I, p, nx, rt, bk, ct⟩ => ⟨F0, H0, g, _, _, DD, I.frz is, p, nx, rt, bk, ct⟩
/-- x.append(e), x one's own -/
theorem s_append {i : Nat} {x : Str} {px apos cpos : Pos} (hN : X.N[i]? = some x) (he : DE W X e φ) (hv : Vis X.env.scope x := by first | exact Or.inl rfl | exact Or.inr (Or.inl rfl) | exact Or.inr (Or.inr rfl)) (hd : (x == ("__debug__" : Str)) = false := by decide) (hcd : (x == ("__classdict__" : Str)) = false := by decide)
    (hbase : attributeBase (.Name x px) "append" X.env (eval (.Name x px) X.env) = eval (.Name x px) X.env := by rfl)
    (hfew : ((backTo cpos (starEach [e] X.env)).all (fun x => !x.1) && (backToKw cpos (keywordEach [] X.env)).all (fun x => x.1.isSome)
      && decide ([e].length + ([] : List Keyword).length + (if ([] : List Keyword).isEmpty then 0 else 1) < 30)) = true := by rfl)
    (hline : (apos.endLine == cpos.line) = true := by rfl) (hst : starEach [e] X.env = (false, eval e X.env) :: starEach [] X.env := by rfl) (hplain : (backTo cpos (starEach [] X.env)).any (·.1) = false := by rfl)
    (hs : swapsWith (.Call (.Attribute (.Name x px) "append" apos) [e] [] cpos) none pos.line X.env = pure false := by rfl) :
    DS W X (.Expr (.Call (.Attribute (.Name x px) "append" apos) [e] [] cpos) pos) (fun DD ρ g => ∃ xs, ρ[i]? = some (.o xs) ∧ xs.length ≤ 1000000 ∧ φ ρ (fun d => DD.nx (ρ.set i (.o (xs ++ [d])))) g) :=
  ps_imp (ps_expr (pe_bm PySem.F.plainAttrs_list PySem.F.slot_list_append PySem.F.type_list_append mt_append (pe_var hN hv hd hcd) (pa_cons he pa_nil hst) hbase hfew hline hst hplain) hs)
    fun D σ H ⟨F0, H0, g, F, ρ, DD, I, ⟨xs, e1, lx, p⟩, nx, rt, bk, ct⟩ => by
      obtain ⟨a, vs, h1, h2, h3, h4, h5⟩ := I.env.o i xs e1
      refine ⟨_, h1, .inl ⟨rfl, _, SqL.of h4⟩, g, F, ρ, _, I.gr.wld, I.env, p, fun v H1 F1 d g1 G1 r1 p1 => ?_⟩
      obtain ⟨k1, k2⟩ := G1.own a _ h4 h2 h3
      have hz : xs.length + 1 ≤ sizeLine := by rw [sizeLine_eq]; omega
      have rv := h5.mono G1.fz
      refine ⟨a, vs, v, rfl, rfl, k1, by rw [rv.length]; omega, ?_⟩
      have I1 := I.grow G1
      have n0 : H0 a = none := I.new i xs a e1 h1
      have ei : (σ.set i (some (.ref a))) = σ := by
        apply List.ext_getElem?
        intro j
        by_cases hj : i = j
        · subst hj
          have hl : i < σ.length := (List.getElem?_eq_some_iff.mp h1).1
          rw [List.getElem?_set_self hl, h1]
        · rw [List.getElem?_set_ne hj]
      -- the list written
      have w1 := G1.wld
      have H0n : ∀ b o, H0 b = some o → b ≠ a := fun b o q z => by rw [z, n0] at q; cases q
      refine nx σ _ F1 _ g1 ⟨⟨I1.gr.fz, fun b o q n r => ?_, fun b o q => ?_, w1.nopen, w1.cel, ?_⟩, ⟨by rw [List.length_set]; exact I1.env.len, fun j y q => ?_, fun j ys q => ?_, fun j k ys zs b q1 q2 q3 q4 => ?_⟩, fun j ys b q1 q2 => ?_, fun j ys q1 => ?_⟩ p1
      · rw [upd_ne (H0n b o q)]; exact I1.gr.own b o q n r
      · have : b ≠ a := fun z => by rw [z, k2] at q; cases q
        rw [upd_ne this]; exact w1.sub b o q
      · obtain ⟨a', d', m, f, q2, q3⟩ := w1.pen
        exact ⟨a', d', m, f, by rw [upd_ne (Ne.symm h3)]; exact q2, q3⟩
      · have hij : i ≠ j := fun z => by
          subst z
          have hl : i < ρ.length := (List.getElem?_eq_some_iff.mp e1).1
          rw [List.getElem?_set_self hl] at q; cases q
        rw [List.getElem?_set_ne hij] at q
        exact I1.env.d j y q
      · by_cases hij : i = j
        · subst hij
          have hl : i < ρ.length := (List.getElem?_eq_some_iff.mp e1).1
          rw [List.getElem?_set_self hl] at q; cases q
          exact ⟨a, _, h1, k2, h3, upd_same, rv.append (.one r1)⟩
        · rw [List.getElem?_set_ne hij] at q
          obtain ⟨b, ws, z1, z2, z3, z4, z5⟩ := I1.env.o j ys q
          refine ⟨b, ws, z1, z2, z3, ?_, z5⟩
          rw [upd_ne]; exact z4
          intro z; subst z
          exact hij (I.env.ne i j xs ys b e1 q h1 z1)
      · have back : ∀ (m : Nat) us, (ρ.set i (.o (xs ++ [d])))[m]? = some (.o us) → ∃ us', ρ[m]? = some (.o us') := fun m us q => by
          by_cases hm : i = m
          · subst hm; exact ⟨xs, e1⟩
          · rw [List.getElem?_set_ne hm] at q; exact ⟨us, q⟩
        obtain ⟨u1, z1⟩ := back j ys q1
        obtain ⟨u2, z2⟩ := back k zs q2
        exact I.env.ne j k u1 u2 b z1 z2 q3 q4
      · by_cases hij : i = j
        · subst hij
          rw [h1] at q2; cases q2; exact n0
        · rw [List.getElem?_set_ne hij] at q1
          exact I.new j ys b q1 q2
      · by_cases hij : i = j
        · subst hij
          have hl : i < ρ.length := (List.getElem?_eq_some_iff.mp e1).1
          rw [List.getElem?_set_self hl] at q1; cases q1
          simp; exact hz
        · rw [List.getElem?_set_ne hij] at q1
          exact I.sm j ys q1
/-- a target = e -/
theorem s_asg {is : List Nat} {θ : DGT} (he : DE W X e φ) (hg : DG W X tg is θ) (hs : swapsWithSole [tg] e pos.line X.env = pure false := by rfl) (hw : swappedStores [tg] e X.env = pure none := by rfl)
    (h1 : (assignEach [tg] X.env).map (·.2) = [assign tg X.env] := by rfl) : DS W X (.Assign [tg] e pos) (fun DD ρ => φ ρ fun d => θ d ρ DD.nx) :=
  ps_imp (ps_asg he hg hs hw h1) fun D σ H ⟨F0, H0, g, F, ρ, DD, I, p, nx, rt, bk, ct⟩ => ⟨g, F, ρ, _, I.gr.wld, I.env, p, fun v H1 F1 d g1 G1 r1 p1 =>
    ⟨g1, F1, ρ, d, _, G1.wld, I.env.grow G1, r1, p1, fun σ' ρ' en' off p2 => nx σ' H1 F1 ρ' g1 ⟨I.gr.trans G1, en', fun j xs a e1 e2 => by
      obtain ⟨h1, h2⟩ := off.own j xs e1
      rw [h2] at e2; exact I.new j xs a h1 e2, fun j xs e1 => I.sm j xs (off.own j xs e1).1⟩ p2⟩⟩
/-- another base -/
theorem Grow.rebase {K : PySem.W.Frag} {F0 H0 F1 H1 F H : Hp} {g1 g : Nat} (a : Grow K W F0 H0 g1 F1 H1) (b : Grow K W F0 H0 g F H) (s : Same F1 F) : Grow K W F1 H0 g F H :=
  ⟨s, fun c o e n r => b.own c o e (a.fz.free n) r, b.wld⟩
theorem Grow.unbase {K : PySem.W.Frag} {F0 H0 F1 H1 F H : Hp} {g1 g : Nat} (a : Grow K W F0 H0 g1 F1 H1) (b : Grow K W F1 H0 g F H) : Grow K W F0 H0 g F H :=
  ⟨a.fz.trans b.fz, fun c o e n r => b.own c o e (a.own c o e n r).2 r, b.wld⟩
theorem SInv.rebase {K : PySem.W.Frag} {F0 H0 F1 H1 F H : Hp} {g1 g : Nat} {σ : St} {ρ : List SV} (a : Grow K W F0 H0 g1 F1 H1) (I : SInv K W F0 H0 g F H σ ρ) (s : Same F1 F) : SInv K W F1 H0 g F H σ ρ := ⟨a.rebase I.gr s, I.env, I.new, I.sm⟩
theorem SInv.unbase {K : PySem.W.Frag} {F0 H0 F1 H1 F H : Hp} {g1 g : Nat} {σ : St} {ρ : List SV} (a : Grow K W F0 H0 g1 F1 H1) (I : SInv K W F1 H0 g F H σ ρ) : SInv K W F0 H0 g F H σ ρ := ⟨a.unbase I.gr, I.env, I.new, I.sm⟩
/-- what for does with the items xs -/
def forD (θ : DGT) (τ : DTS) (DD : DEnds) : List D → List SV → GP
  | [], ρ => DD.nx ρ
  | x :: xs, ρ => fun g => ∃ N : List SV → GP, θ x ρ (fun ρ1 => τ { nx := N, ct := N, bk := DD.nx, rt := DD.rt } ρ1) g ∧ ∀ ρ' g', N ρ' g' → forD θ τ DD xs ρ' g'
theorem s_for {is : List Nat} {θ : DGT} {body : List Stmt} (hp : PassesOwn (model X.prog X.w) X.A X.env X.xe) (hc : X.calm = true) (hi : DI W X tg iter ι) (hg : DG W X tg is θ) (hb : DSs W X body τ) (hs : ∀ x, foldedSetIterable iter X.env x = pure x := by intro _; rfl) :
    DS W X (.For tg iter body [] pos) (fun DD ρ => ι ρ fun xs => forD θ τ DD xs ρ) :=
  ps_imp (ps_for hp hc hi hg hb hs) fun D σ H ⟨F0, H0, g, F, ρ, DD, I, p, nx, rt, bk, ct⟩ => by
    refine ⟨g, F, ρ, _, I.gr.wld, I.env, p, fun J H1 F1 xs g1 G1 WK p1 => ?_⟩
    refine ⟨fun i m σ' H' => m = xs.length - i ∧ i ≤ xs.length ∧ ∃ g2 F2 ρ2, SInv X.K W F0 H0 g2 F2 H' σ' ρ2 ∧ Same F1 F2 ∧ forD θ τ DD (xs.drop i) ρ2 g2, ⟨xs.length, rfl, Nat.zero_le _, g1, F1, ρ, I.grow G1, Same.refl _, by simpa using p1⟩, ?_⟩
    rintro i m σ' H' ⟨rfl, hi, g2, F2, ρ2, I2, s2, p2⟩
    by_cases hlt : i < xs.length
    · refine .inr ⟨WK.goes i H' hlt (s2.trans I2.gr.wld.sub), fun σ3 H3 => ∃ g3 F3 ρ3, SInv X.K W F0 H0 g3 F3 H3 σ3 ρ3 ∧ Same F1 F3 ∧ forD θ τ DD (xs.drop (i + 1)) ρ3 g3, fun σ3 H3 ⟨g3, F3, ρ3, h1, h2, h3⟩ => ⟨xs.length - (i + 1), by omega, rfl, hlt, g3, F3, ρ3, h1, h2, h3⟩, fun x H3 y => ?_⟩
      obtain ⟨F3, d, G3, r3, e3⟩ := WK.yields i H' x H3 F2 g2 hlt s2 I2.gr.wld y
      have ed : xs.drop i = d :: xs.drop (i + 1) := by
        obtain ⟨hl, he⟩ := List.getElem?_eq_some_iff.mp e3
        rw [← he]; exact List.drop_eq_getElem_cons hl
      rw [ed] at p2
      obtain ⟨N, p3, n1⟩ := p2
      -- the body's own view: its base is the heap at the turn's start
      have I3 := I2.grow G3
      refine ⟨g2, F3, ρ2, d, _, G3.wld, I3.env, r3, p3, fun σ4 ρ4 en4 off p4 => ?_⟩
      have I4 : SInv X.K W F0 H0 g2 F3 H3 σ4 ρ4 := ⟨I3.gr, en4, fun j ys a e1 e2 => by
        obtain ⟨h1, h2⟩ := off.own j ys e1
        rw [h2] at e2; exact I3.new j ys a h1 e2, fun j ys e1 => I3.sm j ys (off.own j ys e1).1⟩
      have B := I.gr.trans G1
      have I5 := I4.rebase B (s2.trans G3.fz)
      exact ⟨F1, H0, g2, F3, ρ4, _, I5, p4, fun σ5 H5 F5 ρ5 g5 J p5 => ⟨g5, F5, ρ5, J.unbase B, J.gr.fz, n1 ρ5 g5 p5⟩, fun v H5 F5 d g5 G r p5 => rt v H5 F5 d g5 (B.unbase G) r p5,
        fun σ5 H5 F5 ρ5 g5 J p5 => nx _ _ _ _ _ (J.unbase B) p5, fun σ5 H5 F5 ρ5 g5 J p5 => ⟨g5, F5, ρ5, J.unbase B, J.gr.fz, n1 ρ5 g5 p5⟩⟩
    · have e : i = xs.length := by omega
      subst e
      refine .inl ⟨WK.stops H' (s2.trans I2.gr.wld.sub), ?_⟩
      rw [List.drop_length] at p2
      exact nx _ _ _ _ _ I2 p2
end
/-! ### a def -/
def startD (N : List Str) (ds : List D) : List SV := ds.map .d ++ List.replicate (N.length - ds.length) .u
theorem start_env {K : PySem.W.Frag} {W : Wd} {F H : Hp} {N : List Str} {vs : List V} {ds : List D} (r : Reps K W F vs ds) : EnvR K W F H (L2.start N vs) (startD N ds) := by
  have hl := r.length
  have noO : ∀ (j : Nat) xs, (startD N ds)[j]? ≠ some (.o xs) := fun j xs e => by
    unfold startD at e
    by_cases h : j < ds.length
    · rw [List.getElem?_append_left (by simpa using h), List.getElem?_map] at e
      cases q : ds[j]? with
      | none => rw [q] at e; simp at e
      | some d => rw [q] at e; simp at e
    · rw [List.getElem?_append_right (by simp; omega)] at e
      have := List.mem_of_getElem? e
      rw [List.mem_replicate] at this
      exact nomatch this.2
  refine ⟨by unfold L2.start startD; simp [hl], fun j x e => ?_, fun j xs e => absurd e (noO j xs), fun j k xs ys p e => absurd e (noO j xs)⟩
  unfold startD at e
  unfold L2.start
  by_cases h : j < ds.length
  · rw [List.getElem?_append_left (by simpa using h), List.getElem?_map] at e
    rw [List.getElem?_append_left (by simp; omega), List.getElem?_map]
    cases q : ds[j]? with
    | none => rw [q] at e; simp at e
    | some d =>
      rw [q] at e; simp at e; subst e
      obtain ⟨v, h1, h2⟩ := r.get q
      exact ⟨v, by rw [h1]; rfl, h2⟩
  · rw [List.getElem?_append_right (by simp; omega)] at e
    have := List.mem_of_getElem? e
    rw [List.mem_replicate] at this
    exact nomatch this.2
theorem startD_own {N : List Str} {ds : List D} {j : Nat} {xs : List D} (e : (startD N ds)[j]? = some (.o xs)) : False := by
  unfold startD at e
  by_cases h : j < ds.length
  · rw [List.getElem?_append_left (by simpa using h), List.getElem?_map] at e
    cases q : ds[j]? with
    | none => rw [q] at e; simp at e
    | some d => rw [q] at e; simp at e
  · rw [List.getElem?_append_right (by simp; omega)] at e
    have := List.mem_of_getElem? e
    rw [List.mem_replicate] at this
    exact nomatch this.2
section
variable {P : Program} {w : World} {K : PySem.W.Frag} {mg : Str → Option Value} {base : Heap} {cls : Nat → Addr}
abbrev DOk (P : Program) (w : World) (K : PySem.W.Frag) (mg : Str → Option Value) (base : Heap) (cls : Nat → Addr) (k : Nat) (f : Addr) (fd : FuncData) (ps : List Str) (sp : SpD) : Prop := FnOk P w K mg base CX0 k f fd ps (spD K cls ps.length sp)
theorem dfun {x qual : Str} {st : Stmt} {f : Addr} {fd : FuncData} {N ps : List Str} {k : Nat} {sp : SpD} (F : Fun K x qual st f fd) (S : FnScope N ps (defScope st))
    (hb : ∀ (pen cells : Addr) (cl : List Int) (cdv : Value) (A : Around) (outer : List Env) (s : Shared) (H : Hp) (E : XK), Room k (A.deeper (envOfC qual (defScope st) s.heap.objs.size f cdv)) →
      ∃ τ, DSs ⟨cls, pen, cells, cl⟩ (cxOf CX0 P w K mg base N qual (defScope st) f cdv A outer s H E).nox (defBody st) τ ∧ ∀ ds Q g, ds.length = ps.length → sp ds Q g → τ { nx := fun _ => Q .non, rt := Q } (startD N ds) g) :
    DOk P w K mg base cls (k + 1) f fd ps sp := by
  refine F.ok S (fun vs H Q E h => ?_) (fun cdv A outer s H vs Q E hr h => ?_)
  · obtain ⟨pen, cells, cl, g, F', ds, P', w', r, l, _⟩ := h
    rw [r.length]; exact l
  · obtain ⟨pen, cells, cl, g, F', ds, P', w', r, l, p, q⟩ := h
    obtain ⟨τ, h1, h2⟩ := hb pen cells cl cdv A outer s H E hr
    refine ⟨_, h1, F', H, g, F', startD N ds, _, ⟨Grow.refl w', start_env r, fun i xs p e => (startD_own e).elim, fun i xs e => (startD_own e).elim⟩, h2 ds P' g l p, ?_, ?_, ?_, ?_⟩
    · exact fun σ' H' F2 ρ' g' I p' => q .non H' F2 .non g' I.gr .non p'
    · exact fun v H' F2 d g' G r p' => q v H' F2 d g' G r p'
    · exact fun σ' H' F2 ρ' g' I p' => False.elim p'
    · exact fun σ' H' F2 ρ' g' I p' => False.elim p'
end
end DL

set_option Elab.async false
set_option linter.all false
set_option maxRecDepth 100000
set_option maxHeartbeats 4000000
/-! Names of the module, calls of defs and classes, dict displays, two targets at once. -/
namespace DL
open PySem PySem.Spec L2
open PyProof.Rows hiding St
/-! ### built-ins by name -/
theorem bv_len : bootBuiltins "len" = some (.builtin "len") := by decide +kernel
theorem bv_abs : bootBuiltins "abs" = some (.builtin "abs") := by decide +kernel
theorem bv_min : bootBuiltins "min" = some (.builtin "min") := by decide +kernel
theorem bv_all : bootBuiltins "all" = some (.builtin "all") := by decide +kernel
theorem bv_any : bootBuiltins "any" = some (.builtin "any") := by decide +kernel
theorem bv_isinstance : bootBuiltins "isinstance" = some (.builtin "isinstance") := by decide +kernel
theorem bv_int : bootBuiltins "int" = some (.type "int") := by decide +kernel
theorem bv_str : bootBuiltins "str" = some (.type "str") := by decide +kernel
theorem bv_bool : bootBuiltins "bool" = some (.type "bool") := by decide +kernel
theorem bv_tuple : bootBuiltins "tuple" = some (.type "tuple") := by decide +kernel
theorem bv_list : bootBuiltins "list" = some (.type "list") := by decide +kernel
theorem bv_dict : bootBuiltins "dict" = some (.type "dict") := by decide +kernel
/-! ### constants of the module -/
structure GConst (K : PySem.W.Frag) (mg : Str → Option Value) (x : Str) (d : D) : Prop where
  ex : ∃ (v : V) (u : Value), mg x = some u ∧ RelV v u ∧ ∀ W F, Rep K W F v d
section
variable {X : Cx} {W : Wd} {e a b : Expr} {es : List Expr} {φ ψ : DT} {α : DA} {β : DB} {pos : Pos}
theorem d_gc {x : Str} {d : D} {pos : Pos} (T : GConst X.K X.mg x d) (hg : Gl X x := by rfl) (hd : (x == ("__debug__" : Str)) = false := by decide) : DE W X (.Name x pos) (rC d) := by
  obtain ⟨v, u, h1, h2, h3⟩ := T.ex
  exact d_glob hg h1 h2 (fun F => h3 W F) hd
/-! ### defs of the module -/
structure DDef (P : Program) (w : World) (K : PySem.W.Frag) (mg : Str → Option Value) (base : Heap) (cls : Nat → Addr) (k : Nat) (x : Str) (ps : List Str) (sp : SpD) : Prop where
  ex : ∃ (f : Addr) (fd : FuncData), DOk P w K mg base cls k f fd ps sp ∧ mg x = some (.ref f) ∧ PySem.W.keepIn K (.ref f) = true ∧ Binds K fd ps []
theorem d_callD {x : Str} {ps : List Str} {k : Nat} {sp : SpD} {p : Pos} (G : DDef X.prog X.w X.K X.mg X.base W.cls k x ps sp) (hr : Room k X.A) (ha : DAr W X (e :: es) α) (hg : Gl X x := by rfl) (hdb : (x == ("__debug__" : Str)) = false := by decide)
    (he : starEach (e :: es) X.env = (false, eval e X.env) :: starEach es X.env := by rfl) (hpl : (backTo pos (starEach es X.env)).any (·.1) = false := by rfl) :
    DE W X (.Call (.Name x p) (e :: es) [] pos) (fun ρ P => α ρ fun ds g => ds.length = ps.length ∧ sp ds P g) := by
  obtain ⟨f, fd, h1, h2, h3, h4⟩ := G.ex
  exact d_call h1 hr h2 h3 h4 ha hg hdb he hpl
/-! ### an own class is called: its __init__ lays the fields -/
structure GrowX (K : PySem.W.Frag) (W : Wd) (x : Addr) (F H : Hp) (g : Nat) (F' H' : Hp) : Prop where
  fz : Same F F'
  own : ∀ a o, H a = some o → F a = none → a ≠ W.pen → a ≠ x → H' a = some o ∧ F' a = none
  no : F' x = none
  wld : Wld K W g F' H'
abbrev SpM := List D → (List D → GP) → GP
def spMk (K : PySem.W.Frag) (cls : Nat → Addr) (c n : Nat) (ks : List Str) (sp : SpM) : Sp := fun vs H Q _ => ∃ pen cells cl g F ds P x dx rest, vs = .ref x :: rest ∧ Wld K ⟨cls, pen, cells, cl⟩ g F H ∧ Reps K ⟨cls, pen, cells, cl⟩ F rest ds ∧ ds.length = n ∧
  H x = some (.ins (cls c) dx []) ∧ F x = none ∧ x ≠ pen ∧ sp ds P g ∧
  ∀ H' F' us es g', GrowX K ⟨cls, pen, cells, cl⟩ x F H g' F' H' → H' x = some (.ins (cls c) dx (ks.zip us)) → ks.length = us.length → Reps K ⟨cls, pen, cells, cl⟩ F' us es → P es g' → Q .non H'
structure DMk (P : Program) (w : World) (K : PySem.W.Frag) (mg : Str → Option Value) (base : Heap) (cls : Nat → Addr) (k : Nat) (x : Str) (c n : Nat) (ks ps : List Str) (sp : SpM) : Prop where
  ex : ∃ (f : Addr) (fd : FuncData), FnOk P w K mg base CX0 k f fd ps (spMk K cls c n ks sp) ∧ mg x = some (.ref (cls c)) ∧ Mk K (cls c) f ∧ Binds K fd ps []
theorem d_callM {x : Str} {c n k : Nat} {ks ps : List Str} {sp : SpM} {p : Pos} (G : DMk X.prog X.w X.K X.mg X.base W.cls k x c n ks ps sp) (hr : Room (k + 1) X.A) (ha : DAr W X (e :: es) α) (hg : Gl X x := by rfl) (hdb : (x == ("__debug__" : Str)) = false := by decide)
    (he : starEach (e :: es) X.env = (false, eval e X.env) :: starEach es X.env := by rfl) (hpl : (backTo pos (starEach es X.env)).any (·.1) = false := by rfl) :
    DE W X (.Call (.Name x p) (e :: es) [] pos) (fun ρ P => α ρ fun ds g => ds.length = n ∧ sp ds (fun es => P (.obj c ks es)) g) := by
  obtain ⟨f, fd, h1, h2, h3, h4⟩ := G.ex
  refine pe_imp (pe_make h3 h1 hr hg h2 h4 .nil pass0 ha hdb he hpl) fun σ H Q ⟨g, F, ρ, P, w, en, p, q⟩ => ⟨g, F, ρ, _, w, en, p, fun vs H1 F1 ds g1 G1 r1 ⟨l1, p1⟩ x dx nx ndx hne => ?_⟩
  have w1 := G1.wld
  have fx : F1 x = none := w1.fnone nx
  have fdx : F1 dx = none := w1.fnone ndx
  have hxp : x ≠ W.pen := w1.ne nx
  have hdp : dx ≠ W.pen := w1.ne ndx
  have w2 : Wld X.K W g1 F1 (upd (upd H1 dx (.own x)) x (.ins (W.cls c) dx [])) := by
    refine ⟨fun b o e => ?_, w1.nopen, w1.cel, ?_⟩
    · have b1 : b ≠ x := fun z => by rw [z, fx] at e; cases e
      have b2 : b ≠ dx := fun z => by rw [z, fdx] at e; cases e
      rw [upd_ne b1, upd_ne b2]; exact w1.sub b o e
    · obtain ⟨a', d', m', f', q2, q3⟩ := w1.pen
      exact ⟨a', d', m', f', by rw [upd_ne (Ne.symm hxp), upd_ne (Ne.symm hdp)]; exact q2, q3⟩
  refine ⟨W.pen, W.cells, W.cl, g1, F1, ds, _, x, dx, vs ++ [], rfl, w2, by rw [List.append_nil]; exact r1, l1, upd_same, fx, hxp, p1, fun H' F' us es' g' G2 hx lk r2 p2 => ⟨rfl, ?_⟩⟩
  have sx := same_upd (o := .ins (W.cls c) dx (ks.zip us)) G2.no
  refine q (.ref x) H' (upd F' x (.ins (W.cls c) dx (ks.zip us))) _ g' (G1.trans ⟨G2.fz.trans sx, fun b o e n r => ?_, ?_⟩) (.obj upd_same lk (r2.mono sx)) p2
  · have b1 : b ≠ x := fun z => by rw [z, nx] at e; cases e
    have b2 : b ≠ dx := fun z => by rw [z, ndx] at e; cases e
    rw [upd_ne b1]
    exact G2.own b o (by rw [upd_ne b1, upd_ne b2]; exact e) n r b1
  · refine ⟨fun b o e => ?_, ?_, sx _ _ G2.wld.cel, G2.wld.pen⟩
    · by_cases hb : b = x
      · subst hb; rw [upd_same] at e; rw [hx]; exact e
      · rw [upd_ne hb] at e; exact G2.wld.sub b o e
    · rw [upd_ne (Ne.symm hxp)]; exact G2.wld.nopen
/-! ### tests that read own lists -/
theorem dt_bor {e : Expr} {β : DB} (is : List Nat) (h : DTe W X e β) : DTe W X e (fun ρ P g => (∀ (i : Nat) xs, ρ[i]? = some (.o xs) → xs.length ≤ sizeLine) ∧ β (frz ρ is) P g) :=
  pt_imp h fun σ H Q ⟨g, F, ρ, P, w, en, ⟨hz, p⟩, q⟩ => by
    have s0 := frzF_same (is := is) w en
    refine ⟨g, frzF F H σ ρ is, frz ρ is, _, frz_wld w en, frz_env w en hz, p, fun b H' F' g' G p' => ?_⟩
    let B : Addr → Prop := fun a => ∃ (i : Nat) (xs : List D), i ∈ is ∧ ρ[i]? = some (.o xs) ∧ σ[i]? = some (some (.ref a))
    have hB : ∀ a, B a → ∃ vs, H a = some (.lst vs) ∧ F a = none ∧ a ≠ W.pen ∧ F' a = some (.lst vs) := fun a ⟨i, xs, h1, h2, h3⟩ => by
      obtain ⟨p, vs, q1, q2, q3, q4, _⟩ := en.o i xs h2
      rw [h3] at q1; cases q1
      exact ⟨vs, q4, q2, q3, G.fz _ _ (by rw [frzF_at en h1 h2 h3]; exact q4)⟩
    let F2 : Hp := fun a => open Classical in if B a then none else F' a
    have f2n : ∀ a, B a → F2 a = none := fun a h => by show (open Classical in if B a then none else F' a) = none; rw [if_pos h]
    have f2s : ∀ a, ¬ B a → F2 a = F' a := fun a h => by show (open Classical in if B a then none else F' a) = F' a; rw [if_neg h]
    have f2F : ∀ a, F a ≠ none → ¬ B a := fun a h hb => by obtain ⟨_, _, z, _⟩ := hB a hb; exact h z
    refine q b H' F2 g' ⟨fun a o e => ?_, fun a o e n r => ?_, fun a o e => ?_, ?_, ?_, G.wld.pen⟩ p'
    · rw [f2s a (f2F a (by rw [e]; exact fun z => nomatch z))]
      exact G.fz a o (s0 a o e)
    · by_cases hb : B a
      · obtain ⟨vs, h1, h2, h3, h4⟩ := hB a hb
        rw [h1] at e; cases e
        exact ⟨G.wld.sub _ _ h4, f2n a hb⟩
      · rw [f2s a hb]
        exact G.own a o e (by rw [frzF_off hb]; exact n) r
    · by_cases hb : B a
      · rw [f2n a hb] at e; cases e
      · rw [f2s a hb] at e; exact G.wld.sub a o e
    · rw [f2s]; exact G.wld.nopen
      intro hb; obtain ⟨_, _, _, z, _⟩ := hB _ hb; exact z rfl
    · rw [f2s _ (f2F _ (by rw [w.cel]; exact fun z => nomatch z))]
      exact G.fz _ _ (s0 _ _ w.cel)
/-! ### two names at once -/
section
variable {i j : Nat} {x y : Str} {px py pt : Pos} {kt k2 : Nat} {pt2 : Pos} {αl αr : DA}
theorem s_par_dd {kt k2} (hc : X.calm = true) (hN : X.N.Nodup) (hi : X.N[i]? = some x) (hj : X.N[j]? = some y) (hij : i ≠ j)
    (hx : X.env.scope.names.lookup x = some .local) (hy : X.env.scope.names.lookup y = some .local) (ha : DE W X a φ) (hb : DE W X b ψ)
    (hw : swappedStores [.Tuple [.Name x px, .Name y py] kt pt] (.Tuple [a, b] k2 pt2) X.env = pure (some [x, y]))
    (hs : swapsWithSole [.Tuple [.Name x px, .Name y py] kt pt] (.Tuple [a, b] k2 pt2) pos.line X.env = pure false := by rfl) (h1 : starEach [a, b] X.env = (false, eval a X.env) :: starEach [b] X.env := by rfl) (h2 : starEach [b] X.env = (false, eval b X.env) :: starEach [] X.env := by rfl) :
    DS W X (.Assign [.Tuple [.Name x px, .Name y py] kt pt] (.Tuple [a, b] k2 pt2) pos) (fun DD ρ => φ ρ fun d => ψ ρ fun e => DD.nx ((ρ.set i (.d d)).set j (.d e))) :=
  ps_imp (ps_par hc hN hi hj hij hx hy (pa_cons ha (pa_cons hb pa_nil h2) h1) hw hs) fun D σ H ⟨F0, H0, g, F, ρ, DD, I, p, nx, rt, bk, ct⟩ =>
    ⟨g, F, ρ, _, I.gr.wld, I.env, p, fun v H1 F1 d g1 G1 r1 p1 => ⟨g1, F1, ρ, _, G1.wld, I.env.grow G1, p1, fun u H2 F2 e g2 G2 r2 p2 =>
      ⟨v, u, rfl, nx _ _ _ _ _ (((I.grow G1).setD G2 (r1.mono G2.fz)).setD (Grow.refl G2.wld) r2) p2⟩⟩⟩
theorem s_par_do {kt k2} (hc : X.calm = true) (hN : X.N.Nodup) (hi : X.N[i]? = some x) (hj : X.N[j]? = some y) (hij : i ≠ j)
    (hx : X.env.scope.names.lookup x = some .local) (hy : X.env.scope.names.lookup y = some .local) (ha : DE W X a φ) (hb : DF W X b αr)
    (hw : swappedStores [.Tuple [.Name x px, .Name y py] kt pt] (.Tuple [a, b] k2 pt2) X.env = pure (some [x, y]))
    (hs : swapsWithSole [.Tuple [.Name x px, .Name y py] kt pt] (.Tuple [a, b] k2 pt2) pos.line X.env = pure false := by rfl) (h1 : starEach [a, b] X.env = (false, eval a X.env) :: starEach [b] X.env := by rfl) (h2 : starEach [b] X.env = (false, eval b X.env) :: starEach [] X.env := by rfl) :
    DS W X (.Assign [.Tuple [.Name x px, .Name y py] kt pt] (.Tuple [a, b] k2 pt2) pos) (fun DD ρ => φ ρ fun d => αr ρ fun es => DD.nx ((ρ.set i (.d d)).set j (.o es))) :=
  ps_imp (ps_par hc hN hi hj hij hx hy (pa_cons ha (pa_cons hb pa_nil h2) h1) hw hs) fun D σ H ⟨F0, H0, g, F, ρ, DD, I, p, nx, rt, bk, ct⟩ =>
    ⟨g, F, ρ, _, I.gr.wld, I.env, p, fun v H1 F1 d g1 G1 r1 p1 => ⟨g1, F1, ρ, _, G1.wld, I.env.grow G1, p1, fun u H2 F2 vs es g2 n G2 n2 h2 r2 z p2 =>
      ⟨v, .ref u, rfl, nx _ _ _ _ _ (((I.grow G1).setD (Grow.refl G1.wld) r1).setO n G2 n2 h2 r2 z) p2⟩⟩⟩
theorem s_par_oo {kt k2} (hc : X.calm = true) (hN : X.N.Nodup) (hi : X.N[i]? = some x) (hj : X.N[j]? = some y) (hij : i ≠ j)
    (hx : X.env.scope.names.lookup x = some .local) (hy : X.env.scope.names.lookup y = some .local) (ha : DF W X a αl) (hb : DF W X b αr)
    (hw : swappedStores [.Tuple [.Name x px, .Name y py] kt pt] (.Tuple [a, b] k2 pt2) X.env = pure (some [x, y]))
    (hs : swapsWithSole [.Tuple [.Name x px, .Name y py] kt pt] (.Tuple [a, b] k2 pt2) pos.line X.env = pure false := by rfl) (h1 : starEach [a, b] X.env = (false, eval a X.env) :: starEach [b] X.env := by rfl) (h2 : starEach [b] X.env = (false, eval b X.env) :: starEach [] X.env := by rfl) :
    DS W X (.Assign [.Tuple [.Name x px, .Name y py] kt pt] (.Tuple [a, b] k2 pt2) pos) (fun DD ρ => αl ρ fun ds => αr ρ fun es => DD.nx ((ρ.set i (.o ds)).set j (.o es))) :=
  ps_imp (ps_par hc hN hi hj hij hx hy (pa_cons ha (pa_cons hb pa_nil h2) h1) hw hs) fun D σ H ⟨F0, H0, g, F, ρ, DD, I, p, nx, rt, bk, ct⟩ =>
    ⟨g, F, ρ, _, I.gr.wld, I.env, p, fun v H1 F1 vs1 ds g1 n1 G1 m1 k1 r1 z1 p1 => ⟨g1, F1, ρ, _, G1.wld, I.env.grow G1, p1, fun u H2 F2 vs es g2 n G2 n2 h2 r2 z p2 =>
      ⟨.ref v, .ref u, rfl, nx _ _ _ _ _ ((I.setO n1 G1 m1 k1 r1 z1).setO n G2 n2 h2 r2 z) p2⟩⟩⟩
end
/-! ### dict displays with texts as keys -/
structure DPs (W : Wd) (X : Cx) (pos : Pos) (ks : List (Option Expr)) (vs : List Expr) (names : List Str) (α : DA) : Prop where
  ex : ∃ trs, PPs X pos ks vs trs ∧ ∀ (σ : St) (H : Hp) (R : List (V × V) → Hp → Prop) (g : Nat) (F : Hp) (ρ : List SV) (P : List D → GP), Wld X.K W g F H → EnvR X.K W F H σ ρ → α ρ P g →
    (∀ us H' F' ds g', Grow X.K W F H g' F' H' → Reps X.K W F' us ds → P ds g' → names.length = us.length → R ((names.zip us).map fun p => (V.str p.1, p.2)) H') → tPairs trs σ H R
theorem dp_nil : DPs W X pos [] [] [] rNil := ⟨[], pps_nil, fun σ H R g F ρ P w en p q => q [] H F [] g (Grow.refl w) .nil p rfl⟩
theorem dp_cons {k : Str} {j : Nat} {kp : Pos} {v : Expr} {ks : List (Option Expr)} {vs : List Expr} {names : List Str} (hv : DE W X v φ) (t : DPs W X pos ks vs names α) :
    DPs W X pos (some (.Constant (.str k) j kp) :: ks) (v :: vs) (k :: names) (rCons φ α) := by
  obtain ⟨trs, h1, h2⟩ := t.ex
  refine ⟨_, pps_cons pe_str hv h1, fun σ H R g F ρ P w en p q => ?_⟩
  refine ⟨g, F, ρ, _, w, en, p, fun x H1 F1 d g1 G1 r1 p1 => ?_⟩
  exact h2 σ H1 _ g1 F1 ρ _ G1.wld (en.grow G1) p1 fun us H2 F2 ds g2 G2 r2 p2 l => q (x :: us) H2 F2 (d :: ds) g2 (G1.trans G2) (.cons (r1.mono G2.fz) r2) p2 (congrArg (· + 1) l)
theorem merge_new : ∀ (kvs acc : List (Key × V)), (acc.map (·.1) ++ kvs.map (·.1)).Nodup → mergeK acc kvs = acc ++ kvs
  | [], acc, _ => by show acc = acc ++ []; simp
  | p :: r, acc, h => by
    show mergeK (putK acc p.1 p.2) r = acc ++ p :: r
    have hn : valV acc p.1 = none := by
      cases e : valV acc p.1 with
      | none => rfl
      | some v =>
        have hm : p.1 ∈ acc.map (·.1) := by
          unfold valV at e
          cases e2 : acc.find? fun kv => decide (kv.1 = p.1) with
          | none => rw [e2] at e; cases e
          | some kv =>
            have h1 := List.find?_some e2
            have h2 := List.mem_of_find?_eq_some e2
            exact List.mem_map.mpr ⟨kv, h2, by simpa using h1⟩
        have := List.nodup_append.mp h
        exact absurd rfl (this.2.2 p.1 hm p.1 (by simp))
    rw [putK_new _ hn, merge_new r _ (by simpa using h)]
    simp
theorem key_pairs : ∀ (names : List Str) (us : List V), ((names.zip us).map fun p => (V.str p.1, p.2)) = ((names.map Sum.inr : List Key).zip us).map fun kv => (kV kv.1, kv.2)
  | [], _ => rfl
  | n :: ns, [] => rfl
  | n :: ns, u :: us => by
    show (V.str n, u) :: ((ns.zip us).map fun p => (V.str p.1, p.2)) = (V.str n, u) :: ((ns.map Sum.inr : List Key).zip us).map fun kv => (kV kv.1, kv.2)
    rw [key_pairs ns us]
theorem d_disp {ks : List (Option Expr)} {vs : List Expr} {names : List Str} (t : DPs W X pos ks vs names α) (hall : ks.all (·.isSome) = true) (hl : ks.length = vs.length) (h0 : ks ≠ []) (h15 : ks.length ≤ 15) (hn : names.length = ks.length := by rfl) (hd : names.Nodup := by decide +kernel) :
    DE W X (.Dict ks vs pos) (fun ρ P => α ρ fun ds => P (.dic names ds)) := by
  obtain ⟨trs, h1, h2⟩ := t.ex
  refine pe_imp (pe_disp h1 hall hl h0 h15) fun σ H Q ⟨g, F, ρ, P, w, en, p, q⟩ a na => ?_
  have G0 := Grow.newOwn w (.dK []) na
  refine h2 σ _ _ g F ρ _ G0.wld (en.grow G0) p fun us H2 F2 ds g2 G2 r2 p2 l => ?_
  obtain ⟨k1, k2⟩ := G2.own a _ upd_same (w.fnone na) (w.ne na)
  refine ⟨k1, (names.map Sum.inr).zip us, ?_, ?_, ?_⟩
  · exact key_pairs names us
  · simp only [List.length_zip, List.length_map]; omega
  · have em : mergeK [] (((names.map Sum.inr : List Key)).zip us) = (names.map Sum.inr).zip us := by
      rw [merge_new]
      · simp
      · rw [List.map_nil, List.nil_append, List.map_fst_zip (by simp; omega)]
        exact hd.map _ (fun x y h e => h (Sum.inr.inj e))
    rw [em]
    have sx := same_upd (o := .dK ((names.map Sum.inr).zip us)) k2
    refine q (.ref a) _ (upd F2 a (.dK ((names.map Sum.inr).zip us))) _ g2 ⟨((G0.trans G2).fz).trans sx, fun b o e n r => ?_, ?_⟩ (.dic upd_same l (r2.mono sx)) p2
    · have b1 : b ≠ a := ne_of_none e na
      rw [upd_ne b1, upd_ne b1]; exact (G0.trans G2).own b o e n r
    · have w2 := G2.wld
      refine ⟨fun b o e => ?_, ?_, sx _ _ w2.cel, ?_⟩
      · by_cases hb : b = a
        · subst hb; rw [upd_same] at e ⊢; exact e
        · rw [upd_ne hb] at e ⊢; exact w2.sub b o e
      · rw [upd_ne (Ne.symm (w.ne na))]; exact w2.nopen
      · obtain ⟨a', d', m', f', q2, q3⟩ := w2.pen
        exact ⟨a', d', m', f', by rw [upd_ne (Ne.symm (w.ne na))]; exact q2, q3⟩
end
end DL

set_option Elab.async false
set_option linter.all false
set_option maxRecDepth 100000
set_option maxHeartbeats 4000000
/-! Ratios as data, their sizes. -/
namespace DL
open PySem PySem.Spec L2
open PyProof.Rows hiding St
def rat (q : Rat) : D := .tup [.int q.num, .int (q.den : Int)]
/-- top and bottom below 2 ^ n -/
def Sz (n : Nat) (q : Rat) : Prop := q.num.natAbs < 2 ^ n ∧ q.den < 2 ^ n
theorem Sz.mono {n m : Nat} {q : Rat} (h : Sz n q) (l : n ≤ m) : Sz m q := ⟨Nat.lt_of_lt_of_le h.1 (Nat.pow_le_pow_right (by decide) l), Nat.lt_of_lt_of_le h.2 (Nat.pow_le_pow_right (by decide) l)⟩
theorem sz_mk {a : Int} {b n : Nat} (h0 : 0 < n) (ha : a.natAbs < 2 ^ n) (hb : b < 2 ^ n) : Sz n (mkRat a b) := by
  refine ⟨?_, ?_⟩
  · rw [Rat.num_mkRat]
    split
    · exact Nat.pos_of_ne_zero (by exact Nat.ne_of_gt (Nat.pow_pos (by decide)))
    · rw [Int.natAbs_ediv_of_dvd (Int.ofNat_dvd_left.mpr (Nat.gcd_dvd_right _ _))]
      exact Nat.lt_of_le_of_lt (Nat.div_le_self _ _) ha
  · rw [Rat.den_mkRat]
    split
    · exact Nat.one_lt_two_pow (by omega)
    · exact Nat.lt_of_le_of_lt (Nat.div_le_self _ _) hb
theorem Sz.pos {n : Nat} {q : Rat} (h : Sz n q) : 0 < n := by
  have h1 := h.2
  have h2 := q.den_pos
  cases n with
  | zero => simp at h1; omega
  | succ n => omega
theorem Sz.add {n m : Nat} {p q : Rat} (a : Sz n p) (b : Sz m q) : Sz (n + m + 1) (p + q) := by
  rw [Rat.add_def']
  have e : 2 ^ (n + m + 1) = 2 ^ n * 2 ^ m + 2 ^ n * 2 ^ m := by rw [Nat.pow_succ, Nat.pow_add]; omega
  have h1 : (p.num * (q.den : Int)).natAbs < 2 ^ n * 2 ^ m := by rw [Int.natAbs_mul]; exact Nat.mul_lt_mul'' a.1 (by simpa using b.2)
  have h2 : (q.num * (p.den : Int)).natAbs < 2 ^ n * 2 ^ m := by rw [Int.natAbs_mul, Nat.mul_comm]; exact Nat.mul_lt_mul'' (by simpa using a.2) b.1
  have h3 : p.den * q.den < 2 ^ n * 2 ^ m := Nat.mul_lt_mul'' a.2 b.2
  refine sz_mk (by omega) ?_ ?_ <;> rw [e]
  · have := Int.natAbs_add_le (p.num * (q.den : Int)) (q.num * (p.den : Int)); omega
  · omega
theorem Sz.neg {n : Nat} {p : Rat} (a : Sz n p) : Sz n (-p) := ⟨by rw [Rat.neg_num, Int.natAbs_neg]; exact a.1, by rw [Rat.neg_den]; exact a.2⟩
theorem Sz.sub {n m : Nat} {p q : Rat} (a : Sz n p) (b : Sz m q) : Sz (n + m + 1) (p - q) := by
  rw [Rat.sub_eq_add_neg]; exact a.add b.neg
theorem Sz.mul {n m : Nat} {p q : Rat} (a : Sz n p) (b : Sz m q) : Sz (n + m) (p * q) := by
  rw [Rat.mul_def']
  have e : 2 ^ (n + m) = 2 ^ n * 2 ^ m := Nat.pow_add ..
  have := a.pos
  refine sz_mk (by omega) ?_ ?_ <;> rw [e]
  · rw [Int.natAbs_mul]; exact Nat.mul_lt_mul'' a.1 b.1
  · exact Nat.mul_lt_mul'' a.2 b.2
/-- what lowest tells -/
theorem low_eq {a b : Int} (h : 0 < b) : D.tup [.int (a / ((Nat.gcd a.natAbs b.natAbs : Nat) : Int)), .int (b / ((Nat.gcd a.natAbs b.natAbs : Nat) : Int))] = rat (mkRat a b.toNat) := by
  have hb : b.natAbs = b.toNat := by omega
  have hn : b.toNat ≠ 0 := by omega
  have e1 : (mkRat a b.toNat).num = a / ((Nat.gcd a.natAbs b.natAbs : Nat) : Int) := by
    rw [Rat.num_mkRat, if_neg hn, hb, Nat.gcd_comm]
  have e2 : ((mkRat a b.toNat).den : Int) = b / ((Nat.gcd a.natAbs b.natAbs : Nat) : Int) := by
    rw [Rat.den_mkRat, if_neg hn, hb, Nat.gcd_comm]
    rw [Int.natCast_ediv]
    congr 1
    omega
  unfold rat
  rw [e1, e2]
theorem div_ok {a b : Int} (h : 0 < b) (hb : b.natAbs < 2 ^ 9000) (x : Int) : CDivW x ((Nat.gcd a.natAbs b.natAbs : Nat) : Int) := by
  have hp : 0 < Nat.gcd a.natAbs b.natAbs := Nat.gcd_pos_of_pos_right _ (by omega)
  refine wide_div (b := 9000) (by omega) ?_ (by decide) (by decide)
  rw [Int.natAbs_natCast]
  exact Nat.lt_of_le_of_lt (Nat.le_of_dvd (by omega) (Nat.gcd_dvd_right _ _)) hb
theorem mul_ok {n m : Nat} {i j : Int} (hi : i.natAbs < 2 ^ n) (hj : j.natAbs < 2 ^ m) (hn : 0 < n) (hm : 0 < m) (h : n + m ≤ 1000000) : CMulW i j := wide_mul hi hj hn hm h
/-- a list (true) or a tuple -/
def sqD : Bool → List D → D
  | true, xs => .lst xs
  | false, xs => .tup xs
theorem asL_sq (b : Bool) (xs : List D) (P : List D → GP) : asL (sqD b xs) P = P xs := by cases b <;> rfl
end DL

set_option Elab.async false
set_option linter.all false
set_option maxRecDepth 100000
set_option maxHeartbeats 4000000
/-! Small facts for readings. -/
namespace DL
open PySem PySem.Spec L2
open PyProof.Rows hiding St
theorem at_nat {α : Type} {xs : List α} {n : Nat} {v : α} (h : xs[n]? = some v) : atI xs ((n : Nat) : Int) = some v := atI_nat h
theorem at0 {α : Type} {x : α} {xs : List α} : atI (x :: xs) 0 = some x := atI_nat (j := 0) rfl
theorem at1 {α : Type} {x y : α} {xs : List α} : atI (x :: y :: xs) 1 = some y := atI_nat (j := 1) rfl
theorem at2 {α : Type} {x y z : α} {xs : List α} : atI (x :: y :: z :: xs) 2 = some z := atI_nat (j := 2) rfl
theorem at3 {α : Type} {x y z u : α} {xs : List α} : atI (x :: y :: z :: u :: xs) 3 = some u := atI_nat (j := 3) rfl
theorem at4 {α : Type} {x y z u v : α} {xs : List α} : atI (x :: y :: z :: u :: v :: xs) 4 = some v := atI_nat (j := 4) rfl
theorem at5 {α : Type} {x y z u v t : α} {xs : List α} : atI (x :: y :: z :: u :: v :: t :: xs) 5 = some t := atI_nat (j := 5) rfl
theorem small_size {n : Nat} (h : n ≤ 1000000) : n ≤ sizeLine := by rw [sizeLine_eq]; omega
theorem eqOk_int (i j : Int) : eqOk (.int i) (.int j) = true := by
  unfold eqOk
  simp only [D.py]
  rfl
theorem eqD_int (i j : Int) : eqD (.int i) (.int j) = (i == j) := by
  unfold eqD
  simp only [D.py]
  rfl
theorem k_ii : kitB "int" "int" = some true := by decide +kernel
theorem k_ib : kitB "int" "bool" = some false := by decide +kernel
theorem k_it : kitB "int" "tuple" = some false := by decide +kernel
theorem k_il : kitB "int" "list" = some false := by decide +kernel
theorem k_tt : kitB "tuple" "tuple" = some true := by decide +kernel
theorem k_tl : kitB "tuple" "list" = some false := by decide +kernel
theorem k_ti : kitB "tuple" "int" = some false := by decide +kernel
theorem k_ts : kitB "tuple" "str" = some false := by decide +kernel
theorem k_ss : kitB "str" "str" = some true := by decide +kernel
theorem k_lt : kitB "list" "tuple" = some false := by decide +kernel
theorem k_ll : kitB "list" "list" = some true := by decide +kernel
theorem k_st : kitB "str" "tuple" = some false := by decide +kernel
/-- a constant's slot, a list's slots: what simp makes of a reading -/
theorem ex_some {α : Type} {a : α} {p : α → Prop} : (∃ x, some a = some x ∧ p x) ↔ p a := by simp
theorem rVar0 {d : D} {ρ : List SV} {P : D → GP} : rVar 0 (.d d :: ρ) P = P d := by funext g; simp [rVar]
theorem rVarS {i : Nat} {x : SV} {ρ : List SV} {P : D → GP} : rVar (i + 1) (x :: ρ) P = rVar i ρ P := by funext g; simp [rVar]
theorem iteG {c : Prop} [Decidable c] {A B : GP} {g : Nat} : (if c then A else B) g = if c then A g else B g := by split <;> rfl
theorem ix_t {xs : List D} {i : Int} {d : D} {P : D → GP} (h : atI xs i = some d) : oIx (.tup xs) (.int i) P = P d := by funext g; simp [oIx, h]
theorem ix_l {xs : List D} {i : Int} {d : D} {P : D → GP} (h : atI xs i = some d) : oIx (.lst xs) (.int i) P = P d := by funext g; simp [oIx, h]
theorem ix_t0 {x : D} {xs : List D} {P : D → GP} : oIx (.tup (x :: xs)) (.int 0) P = P x := ix_t at0
theorem ix_t1 {x y : D} {xs : List D} {P : D → GP} : oIx (.tup (x :: y :: xs)) (.int 1) P = P y := ix_t at1
theorem ix_t2 {x y z : D} {xs : List D} {P : D → GP} : oIx (.tup (x :: y :: z :: xs)) (.int 2) P = P z := ix_t at2
theorem ix_t3 {x y z u : D} {xs : List D} {P : D → GP} : oIx (.tup (x :: y :: z :: u :: xs)) (.int 3) P = P u := ix_t at3
theorem ix_t4 {x y z u v : D} {xs : List D} {P : D → GP} : oIx (.tup (x :: y :: z :: u :: v :: xs)) (.int 4) P = P v := ix_t at4
theorem ix_r0 {q : Rat} {P : D → GP} : oIx (rat q) (.int 0) P = P (.int q.num) := ix_t at0
theorem ix_r1 {q : Rat} {P : D → GP} : oIx (rat q) (.int 1) P = P (.int (q.den : Int)) := ix_t at1
theorem eq_ii {i j : Int} {P : D → GP} : oEq (.int i) (.int j) P = P (.bl (i == j)) := by funext g; simp [oEq, eqOk_int, eqD_int]
theorem ne_ii {i j : Int} {P : D → GP} : oNe (.int i) (.int j) P = P (.bl (!(i == j))) := by funext g; simp [oNe, eqOk_int, eqD_int]
theorem sl0 : (0 ≤ sizeLine) = True := by simp
theorem sl1 : (1 ≤ sizeLine) = True := by rw [sizeLine_eq]; simp
theorem sl2 : (2 ≤ sizeLine) = True := by rw [sizeLine_eq]; simp
theorem sl3 : (3 ≤ sizeLine) = True := by rw [sizeLine_eq]; simp
theorem sl4 : (4 ≤ sizeLine) = True := by rw [sizeLine_eq]; simp
theorem sl5 : (5 ≤ sizeLine) = True := by rw [sizeLine_eq]; simp
theorem sl6 : (6 ≤ sizeLine) = True := by rw [sizeLine_eq]; simp
theorem sl7 : (7 ≤ sizeLine) = True := by rw [sizeLine_eq]; simp
theorem sl8 : (8 ≤ sizeLine) = True := by rw [sizeLine_eq]; simp
theorem sl9 : (9 ≤ sizeLine) = True := by rw [sizeLine_eq]; simp
theorem isi_i {P : D → GP} {i : Int} : oIsi "int" (.int i) P = P (.bl true) := by funext g; simp [oIsi, D.ty, k_ii]
theorem isi_ib {P : D → GP} {i : Int} : oIsi "bool" (.int i) P = P (.bl false) := by funext g; simp [oIsi, D.ty, k_ib]
theorem isi_it {P : D → GP} {i : Int} : oIsi "tuple" (.int i) P = P (.bl false) := by funext g; simp [oIsi, D.ty, k_it]
theorem isi_tt {P : D → GP} {xs : List D} : oIsi "tuple" (.tup xs) P = P (.bl true) := by funext g; simp [oIsi, D.ty, k_tt]
theorem isi_ti {P : D → GP} {xs : List D} : oIsi "int" (.tup xs) P = P (.bl false) := by funext g; simp [oIsi, D.ty, k_ti]
theorem isi_tl {P : D → GP} {xs : List D} : oIsi "list" (.tup xs) P = P (.bl false) := by funext g; simp [oIsi, D.ty, k_tl]
theorem isi_ll {P : D → GP} {xs : List D} : oIsi "list" (.lst xs) P = P (.bl true) := by funext g; simp [oIsi, D.ty, k_ll]
theorem isi_ts {P : D → GP} {xs : List D} : oIsi "str" (.tup xs) P = P (.bl false) := by funext g; simp [oIsi, D.ty, k_ts]
theorem isi_ss {P : D → GP} {x : Str} : oIsi "str" (.str x) P = P (.bl true) := by funext g; simp [oIsi, D.ty, k_ss]
theorem isi_st {P : D → GP} {x : Str} : oIsi "tuple" (.str x) P = P (.bl false) := by funext g; simp [oIsi, D.ty, k_st]
theorem isi2_t {P : D → GP} {xs : List D} : oIsi2 "tuple" "list" (.tup xs) P = P (.bl true) := by funext g; simp [oIsi2, D.ty, k_tt, k_tl]
theorem isi2_l {P : D → GP} {xs : List D} : oIsi2 "tuple" "list" (.lst xs) P = P (.bl true) := by funext g; simp [oIsi2, D.ty, k_lt, k_ll]
theorem isi2_i {P : D → GP} {i : Int} : oIsi2 "tuple" "list" (.int i) P = P (.bl false) := by funext g; simp [oIsi2, D.ty, k_it, k_il]
end DL

set_option Elab.async false
set_option linter.all false
set_option maxRecDepth 100000
set_option maxHeartbeats 4000000
/-! Loops and comprehensions by invariants; == of ratios; sums of products. -/
namespace DL
open PySem PySem.Spec L2
open PyProof.Rows hiding St
theorem for_inv {θ : DGT} {τ : DTS} {DD : DEnds} {xs : List D} {ρ : List SV} {g : Nat} (I : Nat → List SV → Nat → Prop) (h0 : I 0 ρ g)
    (hs : ∀ i x ρ g, xs[i]? = some x → I i ρ g → θ x ρ (fun ρ1 => τ { nx := I (i + 1), ct := I (i + 1), bk := DD.nx, rt := DD.rt } ρ1) g)
    (he : ∀ ρ g, I xs.length ρ g → DD.nx ρ g) : forD θ τ DD xs ρ g := by
  have key : ∀ n k ρ g, xs.length - k = n → k ≤ xs.length → I k ρ g → forD θ τ DD (xs.drop k) ρ g := by
    intro n
    induction n with
    | zero =>
      intro k ρ g hn hk h
      have e : k = xs.length := by omega
      subst e
      rw [List.drop_length]
      exact he ρ g h
    | succ n ih =>
      intro k ρ g hn hk h
      have hl : k < xs.length := by omega
      rw [List.drop_eq_getElem_cons hl]
      refine ⟨I (k + 1), hs k _ ρ g (List.getElem?_eq_getElem hl) h, fun ρ' g' h' => ih (k + 1) ρ' g' (by omega) hl h'⟩
  exact key _ 0 ρ g rfl (Nat.zero_le _) h0
theorem for_fold {α σ : Type} {θ : DGT} {τ : DTS} {DD : DEnds} {ρ : List SV} {g : Nat} (as : List α) (emb : α → D) (S : σ → List SV → Prop) (step : σ → α → σ) (Z : Nat → σ → Prop) (s0 : σ) (h0 : S s0 ρ) (z0 : Z 0 s0)
    (hz : ∀ i a s, a ∈ as → i < as.length → Z i s → Z (i + 1) (step s a))
    (hs : ∀ i a s ρ, a ∈ as → i < as.length → S s ρ → Z i s → θ (emb a) ρ (fun ρ1 => τ { nx := fun ρ' g' => g' = g ∧ S (step s a) ρ', ct := fun ρ' g' => g' = g ∧ S (step s a) ρ', bk := DD.nx, rt := DD.rt } ρ1) g)
    (he : ∀ ρ, S (as.foldl step s0) ρ → Z as.length (as.foldl step s0) → DD.nx ρ g) : forD θ τ DD (as.map emb) ρ g := by
  have key : ∀ (bs : List α) k s ρ, (∀ b ∈ bs, b ∈ as) → k + bs.length = as.length → S s ρ → Z k s → (∀ ρ, S (bs.foldl step s) ρ → Z as.length (bs.foldl step s) → DD.nx ρ g) → forD θ τ DD (bs.map emb) ρ g := by
    intro bs
    induction bs with
    | nil => intro k s ρ hb hk h1 h2 h3; exact h3 ρ h1 (by rw [List.length_nil] at hk; rw [← hk]; exact h2)
    | cons b bs ih =>
      intro k s ρ hb hk h1 h2 h3
      rw [List.length_cons] at hk
      have hm : b ∈ as := hb b (by simp)
      refine ⟨_, hs k b s ρ hm (by omega) h1 h2, fun ρ' g' h' => ?_⟩
      obtain ⟨rfl, h'⟩ := h'
      exact ih (k + 1) (step s b) ρ' (fun c hc => hb c (by simp [hc])) (by omega) h' (hz k b s hm (by omega) h2) h3
  exact key as 0 s0 ρ (fun _ h => h) (by omega) h0 z0 he
theorem lc_map {α : Type} {τ : DGT} {tt : DB} {φ : DT} {own : List Nat} {ρ : List SV} {P : List D → GP} {g : Nat} (as : List α) (emb f : α → D)
    (h : ∀ a ∈ as, τ (emb a) (wipeD ρ own) (fun ρ1 => tt ρ1 fun b => if b = true then φ ρ1 (fun y g' => y = f a ∧ g' = g) else fun _ => False) g) (p : P (as.map f) g) : lcD τ tt φ own ρ (as.map emb) P g := by
  induction as generalizing P with
  | nil => exact p
  | cons a as ih =>
    refine ⟨fun o g' => match o with | some y => y = f a ∧ g' = g | none => False, h a (by simp), fun y g' e => ?_, fun g' e => e.elim⟩
    obtain ⟨rfl, rfl⟩ := e
    exact ih (fun b hb => h b (by simp [hb])) p
inductive All2 {α β : Type} (R : α → β → Prop) : List α → List β → Prop
  | nil : All2 R [] []
  | cons {a b as bs} (h : R a b) (t : All2 R as bs) : All2 R (a :: as) (b :: bs)
theorem All2.length {α β : Type} {R : α → β → Prop} {as : List α} {bs : List β} (h : All2 R as bs) : as.length = bs.length := by
  induction h with
  | nil => rfl
  | cons _ _ ih => simp [ih]
theorem lc_all {α : Type} {τ : DGT} {tt : DB} {φ : DT} {own : List Nat} {ρ : List SV} {P : List D → GP} {g : Nat} (as : List α) (emb : α → D) (R : α → D → Prop) (J : Nat → Nat → Prop)
    (h : ∀ i a g, a ∈ as → i < as.length → J i g → τ (emb a) (wipeD ρ own) (fun ρ1 => tt ρ1 fun b => if b = true then φ ρ1 (fun y g' => R a y ∧ J (i + 1) g') else fun _ => False) g) (h0 : J 0 g)
    (he : ∀ ys g', All2 R as ys → J as.length g' → P ys g') : lcD τ tt φ own ρ (as.map emb) P g := by
  have key : ∀ (bs : List α) k g (P : List D → GP), (∀ b ∈ bs, b ∈ as) → k + bs.length = as.length → J k g → (∀ ys g', All2 R bs ys → J as.length g' → P ys g') → lcD τ tt φ own ρ (bs.map emb) P g := by
    intro bs
    induction bs with
    | nil => intro k g P hb hk h1 h3; exact h3 [] g .nil (by rw [List.length_nil] at hk; rw [← hk]; exact h1)
    | cons b bs ih =>
      intro k g P hb hk h1 h3
      rw [List.length_cons] at hk
      have hm : b ∈ as := hb b (by simp)
      refine ⟨fun o g' => match o with | some y => R b y ∧ J (k + 1) g' | none => False, h k b g hm (by omega) h1, fun y g' e => ?_, fun g' e => e.elim⟩
      exact ih (k + 1) g' _ (fun c hc => hb c (by simp [hc])) (by omega) e.2 fun ys g2 a j => h3 (y :: ys) g2 (.cons e.1 a) j
  exact key as 0 g P (fun _ h => h) (by omega) h0 he
theorem pairD_map {α β : Type} (e1 : α → D) (e2 : β → D) : ∀ (as : List α) (bs : List β), pairD (as.map e1) (bs.map e2) = (as.zip bs).map fun p => D.tup [e1 p.1, e2 p.2]
  | [], _ => rfl
  | _ :: _, [] => rfl
  | a :: as, b :: bs => by
    show D.tup [e1 a, e2 b] :: pairD (as.map e1) (bs.map e2) = _
    rw [pairD_map e1 e2 as bs]; rfl
theorem pairD_self {α : Type} (e1 e2 : α → D) : ∀ (as : List α), pairD (as.map e1) (as.map e2) = as.map fun a => D.tup [e1 a, e2 a]
  | [] => rfl
  | a :: as => by
    show D.tup [e1 a, e2 a] :: pairD (as.map e1) (as.map e2) = _
    rw [pairD_self e1 e2 as]; rfl
theorem enumD_map {α : Type} (e : α → D) (as : List α) : enumD (as.map e) = as.mapIdx fun i a => D.tup [.int ((i : Nat) : Int), e a] := by
  unfold enumD
  apply List.ext_getElem?
  intro i
  rw [List.getElem?_mapIdx, List.getElem?_mapIdx, List.getElem?_map]
  cases as[i]? <;> rfl
/-! ### what operators give -/
theorem isB_bl {b : Bool} {P : Bool → GP} : isB (.bl b) P = P b := rfl
theorem isI_int {i : Int} {P : Int → GP} : isI (.int i) P = P i := rfl
theorem add_ii {i j : Int} {P : D → GP} : oAdd (.int i) (.int j) P = P (.int (i + j)) := rfl
theorem sub_ii {i j : Int} {P : D → GP} : oSub (.int i) (.int j) P = P (.int (i - j)) := rfl
theorem mul_ii {i j : Int} {P : D → GP} : oMul (.int i) (.int j) P = fun g => CMulW i j ∧ P (.int (i * j)) g := rfl
theorem fdiv_ii {i j : Int} {P : D → GP} : oFdiv (.int i) (.int j) P = fun g => CDivW i j ∧ P (.int (i / j)) g := rfl
theorem mod_ii {i j : Int} {P : D → GP} : oMod (.int i) (.int j) P = fun g => 0 < j ∧ P (.int (i % j)) g := rfl
theorem cmp_ii {p : Int → Int → Bool} {i j : Int} {P : D → GP} : oCmpI p (.int i) (.int j) P = P (.bl (p i j)) := rfl
theorem neg_i {i : Int} {P : D → GP} : oNeg (.int i) P = P (.int (-i)) := rfl
theorem len_t {xs : List D} {P : D → GP} : bLen [.tup xs] P = P (.int xs.length) := rfl
theorem len_l {xs : List D} {P : D → GP} : bLen [.lst xs] P = P (.int xs.length) := rfl
theorem abs_i {i : Int} {P : D → GP} : bAbs [.int i] P = P (.int (if i < 0 then -i else i)) := rfl
theorem int_i {i : Int} {P : D → GP} : bInt [.int i] P = P (.int i) := rfl
theorem int_b {b : Bool} {P : D → GP} : bInt [.bl b] P = P (.int (if b = true then 1 else 0)) := rfl
theorem str_i {i : Int} {P : D → GP} : bStr [.int i] P = fun g => i.natAbs.log2 < 1920 ∧ P (.str (toString i)) g := rfl
theorem tuple_t {xs : List D} {P : D → GP} : bTuple [.tup xs] P = P (.tup xs) := rfl
theorem tuple_l {xs : List D} {P : D → GP} : bTuple [.lst xs] P = P (.tup xs) := rfl
theorem gcd_ii {i j : Int} {P : D → GP} : bGcd [.int i, .int j] P = P (.int ((Nat.gcd i.natAbs j.natAbs : Nat) : Int)) := rfl
theorem isB_bb {i j : Bool} {P : D → GP} : oIsB (.bl i) (.bl j) P = P (.bl (i == j)) := rfl
theorem notB_bb {i j : Bool} {P : D → GP} : oNotB (.bl i) (.bl j) P = P (.bl (i != j)) := rfl
theorem isN_x {a : D} {P : D → GP} : oIsN a .non P = P (.bl a.isN) := by funext g; simp [oIsN]
theorem notN_x {a : D} {P : D → GP} : oNotN a .non P = P (.bl (!a.isN)) := by funext g; simp [oNotN]
theorem asL_l {xs : List D} {P : List D → GP} : asL (.lst xs) P = P xs := rfl
theorem asL_t {xs : List D} {P : List D → GP} : asL (.tup xs) P = P xs := rfl
theorem ex_cons {α : Type} {x : α} {xs : List α} {p : α → List α → Prop} : (∃ d r, x :: xs = d :: r ∧ p d r) = p x xs := by
  apply propext
  constructor
  · rintro ⟨d, r, e, h⟩; cases e; exact h
  · intro h; exact ⟨_, _, rfl, h⟩
theorem ex_tup {xs : List D} {p : List D → Prop} : (∃ ys, D.tup xs = D.tup ys ∧ p ys) = p xs := by
  apply propext
  constructor
  · rintro ⟨d, e, h⟩; cases e; exact h
  · intro h; exact ⟨_, rfl, h⟩
theorem rVar_frz {i : Nat} {ρ : List SV} {is : List Nat} {xs : List D} {P : D → GP} (h : ρ[i]? = some (.o xs)) (hi : i ∈ is) : rVar i (frz ρ is) P = P (.lst xs) := by
  funext g
  apply propext
  unfold rVar
  rw [frz_get, h]
  simp [hi]
def frzA : Nat → List SV → List Nat → List SV
  | _, [], _ => []
  | k, .o xs :: r, is => (if k ∈ is then .d (.lst xs) else .o xs) :: frzA (k + 1) r is
  | k, x :: r, is => x :: frzA (k + 1) r is
theorem frz_A' : ∀ (ρ : List SV) (is : List Nat) (k : Nat), (ρ.mapIdx fun i x => match x with | .o xs => if i + k ∈ is then SV.d (.lst xs) else .o xs | x => x) = frzA k ρ is
  | [], _, _ => rfl
  | x :: r, is, k => by
    rw [List.mapIdx_cons]
    have e := frz_A' r is (k + 1)
    have e2 : (fun (i : Nat) (x : SV) => (match x with | .o xs => if i + (k + 1) ∈ is then SV.d (.lst xs) else .o xs | x => x : SV)) = fun i x => match x with | .o xs => if i + 1 + k ∈ is then SV.d (.lst xs) else .o xs | x => x := by
      funext i x
      rw [show i + (k + 1) = i + 1 + k by omega]
    rw [e2] at e
    rw [e]
    cases x <;> simp [frzA]
theorem frz_eq (ρ : List SV) (is : List Nat) : frz ρ is = frzA 0 ρ is := frz_A' ρ is 0
theorem num0 {q : Rat} (h : ¬ (!(q.num == 0)) = true) : q = 0 := by
  have : q.num = 0 := by simpa using h
  exact Rat.num_eq_zero.mp this
theorem isi_rt {P : D → GP} {q : Rat} : oIsi "tuple" (rat q) P = P (.bl true) := isi_tt
theorem isi_ri {P : D → GP} {q : Rat} : oIsi "int" (rat q) P = P (.bl false) := isi_ti
theorem isi_rs {P : D → GP} {q : Rat} : oIsi "str" (rat q) P = P (.bl false) := isi_ts
theorem isi2_r {P : D → GP} {q : Rat} : oIsi2 "tuple" "list" (rat q) P = P (.bl true) := isi2_t
theorem isN_rat {q : Rat} : (rat q).isN = false := rfl
theorem isN_tup {xs : List D} : (D.tup xs).isN = false := rfl
theorem isN_non : D.non.isN = true := rfl
theorem isN_int {i : Int} : (D.int i).isN = false := rfl
/-! ### == of ratios -/
theorem py_rat (q : Rat) : (rat q).py = some (.tuple [.int q.num, .int (q.den : Int)]) := by
  unfold rat
  simp only [D.py, D.pys]
  rfl
theorem rat_eqv (p q : Rat) : PyData.eqv (.tuple [.int p.num, .int (p.den : Int)]) (.tuple [.int q.num, .int (q.den : Int)]) = decide (p = q) := by
  have e : PyData.eqv (.tuple [.int p.num, .int (p.den : Int)]) (.tuple [.int q.num, .int (q.den : Int)]) = ((p.num == q.num) && (((p.den : Int) == (q.den : Int)) && true)) := rfl
  rw [e]
  by_cases h : p = q
  · subst h; simp
  · rw [decide_eq_false h]
    rw [Bool.and_true]
    cases e2 : (p.num == q.num) with
    | false => rfl
    | true =>
      cases e3 : ((p.den : Int) == (q.den : Int)) with
      | false => rfl
      | true => exact absurd (Rat.ext (by simpa using e2) (by simp at e3; omega)) h
theorem rat_shaped (p : Rat) : SeqAt.shaped (.tuple [.int p.num, .int (p.den : Int)]) = true := rfl
theorem eq_rr {p q : Rat} {P : D → GP} : oEq (rat p) (rat q) P = P (.bl (decide (p = q))) := by
  funext g
  simp only [oEq, eqOk, eqD, py_rat, rat_shaped, rat_eqv, Bool.and_self, true_and]
theorem ne_rr {p q : Rat} {P : D → GP} : oNe (rat p) (rat q) P = P (.bl (!decide (p = q))) := by
  funext g
  simp only [oNe, eqOk, eqD, py_rat, rat_shaped, rat_eqv, Bool.and_self, true_and]
theorem py_one (q : Rat) : (D.tup [rat q]).py = some (.tuple [.tuple [.int q.num, .int (q.den : Int)]]) := by
  simp only [D.py, D.pys, py_rat]; rfl
theorem one_eqv (p q : Rat) : PyData.eqv (.tuple [.tuple [.int p.num, .int (p.den : Int)]]) (.tuple [.tuple [.int q.num, .int (q.den : Int)]]) = decide (p = q) := by
  have e : PyData.eqv (.tuple [.tuple [.int p.num, .int (p.den : Int)]]) (.tuple [.tuple [.int q.num, .int (q.den : Int)]]) = (PyData.eqv (.tuple [.int p.num, .int (p.den : Int)]) (.tuple [.int q.num, .int (q.den : Int)]) && true) := rfl
  rw [e, rat_eqv, Bool.and_true]
theorem one_shaped (p : Rat) : SeqAt.shaped (.tuple [.tuple [.int p.num, .int (p.den : Int)]]) = true := rfl
theorem ne_11 {p q : Rat} {P : D → GP} : oNe (.tup [rat p]) (.tup [rat q]) P = P (.bl (!decide (p = q))) := by
  funext g
  simp only [oNe, eqOk, eqD, py_one, one_shaped, one_eqv, Bool.and_self, true_and]
theorem eq_ss {x y : Str} {P : D → GP} (hx : SeqAt.shaped (.str x) = true) (hy : SeqAt.shaped (.str y) = true) : oEq (.str x) (.str y) P = P (.bl (x == y)) := by
  funext g
  have e : eqD (.str x) (.str y) = (x == y) := by unfold eqD; simp only [D.py]; rfl
  have e2 : eqOk (.str x) (.str y) = true := by unfold eqOk; simp only [D.py, hx, hy, Bool.and_self]
  simp only [oEq, e, e2, true_and]
theorem eq_rs {p : Rat} {y : Str} {P : D → GP} (hy : SeqAt.shaped (.str y) = true) : oEq (rat p) (.str y) P = P (.bl false) := by
  funext g
  have e : eqD (rat p) (.str y) = false := by unfold eqD; simp only [py_rat]; simp only [D.py]; rfl
  have e2 : eqOk (rat p) (.str y) = true := by unfold eqOk; simp only [py_rat]; simp only [D.py, rat_shaped, hy, Bool.and_self]
  simp only [oEq, e, e2, true_and]
/-! ### sizes of sums -/
theorem Sz.zero : Sz 1 0 := ⟨by decide, by decide⟩
theorem Sz.one : Sz 1 1 := ⟨by decide, by decide⟩
theorem Sz.abs {n : Nat} {q : Rat} (h : Sz n q) : Sz n q.abs := by
  unfold Rat.abs
  split
  · exact h
  · exact h.neg
/-- the sum of products -/
def dotF (ps : List (Rat × Rat)) : Rat := ps.foldl (fun s p => s + p.1 * p.2) 0
def dotL (xs ys : List Rat) : Rat := dotF (xs.zip ys)
theorem foldl_dot : ∀ (ps : List (Rat × Rat)) (s : Rat), ps.foldl (fun s p => s + p.1 * p.2) s = s + (ps.map fun p => p.1 * p.2).sum
  | [], s => by simp [Rat.add_zero]
  | p :: ps, s => by
    rw [List.foldl_cons, foldl_dot ps, List.map_cons, List.sum_cons, Rat.add_assoc]
theorem dotF_sum (ps : List (Rat × Rat)) : dotF ps = (ps.map fun p => p.1 * p.2).sum := by
  unfold dotF
  rw [foldl_dot, Rat.zero_add]
theorem foldl_add : ∀ (xs : List Rat) (s : Rat), xs.foldl (fun s p => s + p) s = s + xs.sum
  | [], s => by simp [Rat.add_zero]
  | p :: ps, s => by
    rw [List.foldl_cons, foldl_add ps, List.sum_cons, Rat.add_assoc]
theorem Sz.fold {α : Type} {n : Nat} {f : α → Rat} (as : List α) (hf : ∀ a ∈ as, Sz n (f a)) : Sz (1 + as.length * (n + 1)) ((as.map f).sum) := by
  induction as with
  | nil => simpa using Sz.zero
  | cons a as ih =>
    rw [List.map_cons, List.sum_cons, List.length_cons]
    have h1 := hf a (by simp)
    have h2 := ih fun b hb => hf b (by simp [hb])
    refine (h1.add h2).mono ?_
    rw [Nat.add_mul]; omega
theorem dot_sz {n m : Nat} {ps : List (Rat × Rat)} (h : ∀ p ∈ ps, Sz n p.1 ∧ Sz m p.2) : Sz (1 + ps.length * (n + m + 1)) (dotF ps) := by
  rw [dotF_sum]
  exact Sz.fold ps fun p hp => (h p hp).1.mul (h p hp).2
end DL

set_option Elab.async false
set_option linter.all false
set_option maxRecDepth 100000
set_option maxHeartbeats 4000000
/-! A text in a tuple of texts; the fields that __init__ lays. -/
namespace DL
open PySem PySem.Spec L2
open PyProof.Rows hiding St
section
variable {X : Cx} {W : Wd}
def oIn : O2 := fun a b P g => ∃ (x : Str) (ws : List Str), a = .str x ∧ b = .tup (ws.map .str) ∧ P (.bl (ws.any fun y => y == x)) g
def oNotIn : O2 := fun a b P g => ∃ (x : Str) (ws : List Str), a = .str x ∧ b = .tup (ws.map .str) ∧ P (.bl (!(ws.any fun y => y == x))) g
theorem reps_str {K : PySem.W.Frag} {F : Hp} : ∀ {ws : List Str} {vs : List V}, Reps K W F vs (ws.map .str) → vs = ws.map V.str
  | [], _, .nil => rfl
  | w :: ws, _, .cons h t => by cases h; rw [reps_str t]; rfl
theorem inV_str (x : Str) : ∀ ws : List Str, inV (.str x) (ws.map V.str) = ws.any fun y => y == x
  | [] => rfl
  | w :: ws => by
    have := inV_str x ws
    unfold inV at this ⊢
    rw [List.map_cons, List.any_cons, List.any_cons, this]
    rfl
theorem flat_str : ∀ ws : List Str, (ws.map V.str).all flatV = true
  | [] => rfl
  | w :: ws => by rw [List.map_cons, List.all_cons, flat_str ws]; rfl
theorem op_oIn : Op2 X W (compareOp .In) oIn := by
  refine op2_of op_in_seq fun g F H x y a b P Q w ra rb p q => ?_
  obtain ⟨z, ws, rfl, rfl, p⟩ := p
  cases ra
  cases rb with
  | tup h z' r =>
    rw [reps_str r] at h
    refine ⟨_, _, rfl, .inr (sqT_mono w.sub h), rfl, flat_str ws, ?_⟩
    rw [if_neg Bool.false_ne_true, inV_str]
    exact q _ H F _ g (Grow.refl w) (.bl _) p
theorem op_oNotIn : Op2 X W (compareOp .NotIn) oNotIn := by
  refine op2_of op_notIn_seq fun g F H x y a b P Q w ra rb p q => ?_
  obtain ⟨z, ws, rfl, rfl, p⟩ := p
  cases ra
  cases rb with
  | tup h z' r =>
    rw [reps_str r] at h
    refine ⟨_, _, rfl, .inr (sqT_mono w.sub h), rfl, flat_str ws, ?_⟩
    rw [if_pos rfl, inV_str]
    exact q _ H F _ g (Grow.refl w) (.bl _) p
end
/-! ### __init__ -/
theorem GrowX.refl {K : PySem.W.Frag} {W : Wd} {x : Addr} {F H : Hp} {g : Nat} (w : Wld K W g F H) (n : F x = none) : GrowX K W x F H g F H := ⟨Same.refl _, fun a o h n _ _ => ⟨h, n⟩, n, w⟩
/-- what a body of __init__ keeps: the object's own fields so far, nothing else changed -/
structure MInv (K : PySem.W.Frag) (W : Wd) (c : Nat) (x dx : Addr) (F0 H0 : Hp) (g : Nat) (F H : Hp) (σ : St) (ρ : List SV) (kvs : List (Str × V)) : Prop where
  gr : GrowX K W x F0 H0 g F H
  at' : H x = some (.ins (W.cls c) dx kvs)
  xp : x ≠ W.pen
  env : EnvR K W F H σ ρ
  no : ∀ (i : Nat) xs, ρ[i]? ≠ some (.o xs)
  self : σ[0]? = some (some (.ref x))
theorem mk_step {K : PySem.W.Frag} {W : Wd} {c : Nat} {x dx : Addr} {F0 H0 : Hp} {g : Nat} {F H : Hp} {σ : St} {ρ : List SV} {kvs : List (Str × V)} {φ : DT} {f : Str} {D0 : Ends} {P : D → GP} (I : MInv K W c x dx F0 H0 g F H σ ρ kvs) (cl : Cls K (W.cls c)) (na : NoAttr K (W.cls c) f) (hl : kvs.length < 1000)
    (p : φ ρ P g) (k : ∀ v H' F' d g', MInv K W c x dx F0 H0 g' F' H' σ ρ (putF f v kvs) → Same F F' → Rep K W F' v d → P d g' → D0.nx σ H') : sFld K (tVar 0) (tD K W φ) f D0 σ H := by
  refine ⟨g, F, ρ, P, I.gr.wld, I.env, p, fun v H1 F1 d g1 G1 r1 p1 => ?_⟩
  have fx : F x = none := I.gr.no
  obtain ⟨h1, n1⟩ := G1.own x _ I.at' fx I.xp
  refine ⟨_, I.self, x, W.cls c, dx, kvs, rfl, h1, cl, na, hl, ?_⟩
  have w1 := G1.wld
  refine k v _ F1 d g1 ⟨⟨I.gr.fz.trans G1.fz, fun a o e n r rx => ?_, n1, ?_⟩, upd_same, I.xp, ?_, I.no, I.self⟩ G1.fz r1 p1
  · obtain ⟨h2, n2⟩ := I.gr.own a o e n r rx
    rw [upd_ne rx]
    exact G1.own a o h2 n2 r
  · refine ⟨fun b o e => ?_, w1.nopen, w1.cel, ?_⟩
    · have : b ≠ x := fun z => by rw [z, n1] at e; cases e
      rw [upd_ne this]; exact w1.sub b o e
    · obtain ⟨a', d', m, f', q2, q3⟩ := w1.pen
      exact ⟨a', d', m, f', by rw [upd_ne (Ne.symm I.xp)]; exact q2, q3⟩
  · have en := I.env.grow G1
    exact ⟨en.len, en.d, fun i xs e => absurd e (I.no i xs), fun i j xs ys p e => absurd e (I.no i xs)⟩
end DL

set_option Elab.async false
set_option linter.all false
set_option maxRecDepth 100000
set_option maxHeartbeats 4000000
/-! The pen's dict, read and written. -/
namespace DL
open PySem PySem.Spec L2
open PyProof.Rows hiding St
theorem kne {x y : Str} (h : ¬ x = y) : ¬ ((Sum.inr x : Key) = Sum.inr y) := fun e => h (Sum.inr.inj e)
theorem n_ca : ¬ ("cells" : Str) = "at" := by decide +kernel
theorem n_cd : ¬ ("cells" : Str) = "digits" := by decide +kernel
theorem n_cc : ¬ ("cells" : Str) = "count" := by decide +kernel
theorem n_cf : ¬ ("cells" : Str) = "fold" := by decide +kernel
theorem n_ad : ¬ ("at" : Str) = "digits" := by decide +kernel
theorem n_ac : ¬ ("at" : Str) = "count" := by decide +kernel
theorem n_af : ¬ ("at" : Str) = "fold" := by decide +kernel
theorem n_dc : ¬ ("digits" : Str) = "count" := by decide +kernel
theorem n_df : ¬ ("digits" : Str) = "fold" := by decide +kernel
theorem n_cof : ¬ ("count" : Str) = "fold" := by decide +kernel
section
variable {c : Addr} {a d n f x : Int}
theorem v_cells : valV (penD c a d n f) (Sum.inr "cells") = some (.ref c) := valV_pos rfl
theorem v_at : valV (penD c a d n f) (Sum.inr "at") = some (.int a) := by unfold penD; rw [valV_neg (kne n_ca)]; exact valV_pos rfl
theorem v_digits : valV (penD c a d n f) (Sum.inr "digits") = some (.int d) := by unfold penD; rw [valV_neg (kne n_cd), valV_neg (kne n_ad)]; exact valV_pos rfl
theorem v_count : valV (penD c a d n f) (Sum.inr "count") = some (.int n) := by unfold penD; rw [valV_neg (kne n_cc), valV_neg (kne n_ac), valV_neg (kne n_dc)]; exact valV_pos rfl
theorem v_fold : valV (penD c a d n f) (Sum.inr "fold") = some (.int f) := by unfold penD; rw [valV_neg (kne n_cf), valV_neg (kne n_af), valV_neg (kne n_df), valV_neg (kne n_cof)]; exact valV_pos rfl
theorem put_in {kvs : List (Key × V)} {k : Key} {v w : V} (h : (k, w) ∈ kvs) : putK kvs k v = kvs.map fun kv => if kv.1 = k then (kv.1, v) else kv := by
  unfold putK
  rw [if_pos (List.any_eq_true.mpr ⟨_, h, by simp⟩)]
theorem p_at : putK (penD c a d n f) (Sum.inr "at") (.int x) = penD c x d n f := by
  rw [put_in (w := .int a) (by simp [penD])]
  simp only [penD, List.map_cons, List.map_nil, if_neg (kne n_ca), if_neg (kne (fun e => n_ad e.symm)), if_neg (kne (fun e => n_ac e.symm)), if_neg (kne (fun e => n_af e.symm)), if_true]
theorem p_digits : putK (penD c a d n f) (Sum.inr "digits") (.int x) = penD c a x n f := by
  rw [put_in (w := .int d) (by simp [penD])]
  simp only [penD, List.map_cons, List.map_nil, if_neg (kne n_cd), if_neg (kne n_ad), if_neg (kne (fun e => n_dc e.symm)), if_neg (kne (fun e => n_df e.symm)), if_true]
theorem p_count : putK (penD c a d n f) (Sum.inr "count") (.int x) = penD c a d x f := by
  rw [put_in (w := .int n) (by simp [penD])]
  simp only [penD, List.map_cons, List.map_nil, if_neg (kne n_cc), if_neg (kne n_ac), if_neg (kne n_dc), if_neg (kne (fun e => n_cof e.symm)), if_true]
theorem p_fold : putK (penD c a d n f) (Sum.inr "fold") (.int x) = penD c a d n x := by
  rw [put_in (w := .int f) (by simp [penD])]
  simp only [penD, List.map_cons, List.map_nil, if_neg (kne n_cf), if_neg (kne n_af), if_neg (kne n_df), if_neg (kne n_cof), if_true]
end
/-- pen['key'] -/
theorem rd_pen {key : Str} {val : V} {kvs : List (Key × V)} {p : Addr} {σ : St} {H : Hp} {Q : VK} (hs : σ[0]? = some (some (.ref p))) (hH : H p = some (.dK kvs)) (h : valV kvs (Sum.inr key) = some val) (q : Q val H) : tDGet (tVar 0) (tC (.str key)) σ H Q :=
  ⟨.ref p, hs, p, val, rfl, by rw [← h]; exact DGet.k (k := Sum.inr key) hH, q⟩
theorem put_pen {key : Str} {y : V} {kvs kvs' : List (Key × V)} {p : Addr} {σ : St} {H : Hp} {D0 : Ends} (hs : σ[0]? = some (some (.ref p))) (hH : H p = some (.dK kvs)) (hl : kvs.length < 100) (h : putK kvs (Sum.inr key) y = kvs') (q : D0.nx σ (upd H p (.dK kvs'))) :
    tVar 0 σ H fun x H2 => tC (.str key) σ H2 fun z H3 => ∃ a H4, x = .ref a ∧ DPut H3 a z y H4 ∧ D0.nx σ H4 :=
  ⟨.ref p, hs, p, _, rfl, by rw [← h]; exact DPut.k (k := Sum.inr key) hH (by rw [sizeLine_eq]; omega), q⟩
theorem upd_upd {H : Hp} {p : Addr} {x y : HO} : upd (upd H p x) p y = upd H p y := by
  funext a
  by_cases h : a = p
  · subst h; rw [upd_same, upd_same]
  · rw [upd_ne h, upd_ne h, upd_ne h]
/-- the pen written anew -/
theorem Grow.penned {K : PySem.W.Frag} {W : Wd} {g g' : Nat} {F H : Hp} {a d n f : Int} (w : Wld K W g F H) (h : Pen g' a d n f W.cl.length) : Grow K W F H g' F (upd H W.pen (.dK (penD W.cells a d n f))) := by
  refine ⟨Same.refl _, fun b o e nb r => ?_, fun b o e => ?_, w.nopen, w.cel, a, d, n, f, upd_same, h⟩
  · rw [upd_ne r]; exact ⟨e, nb⟩
  · have : b ≠ W.pen := fun z => by rw [z, w.nopen] at e; cases e
    rw [upd_ne this]; exact w.sub b o e
end DL

set_option Elab.async false
set_option linter.all false
set_option maxRecDepth 100000
set_option maxHeartbeats 4000000
set_option exponentiation.threshold 20000
namespace K64
open PySem PySem.Spec L2 DL
open PyProof.Rows hiding St
def top (i : Nat) : Stmt := PySem.Challenge.pw_fitpapers_k64_whole_bounds_from_below_of.main.body.getD i (.Pass ⟨0, 0, 0, 0⟩)
/-- what the module's top leaves: built-ins, constants, the class -/
structure Txt (K : PySem.W.Frag) (mg : Str → Option Value) (cls : Nat → Addr) : Prop where
  m_len : mg "len" = none
  m_abs : mg "abs" = none
  m_all : mg "all" = none
  m_int : mg "int" = none
  m_str : mg "str" = none
  m_bool : mg "bool" = none
  m_tuple : mg "tuple" = none
  m_list : mg "list" = none
  m_range : mg "range" = none
  m_zip : mg "zip" = none
  m_enumerate : mg "enumerate" = none
  m_isinstance : mg "isinstance" = none
  m_gcd : mg "gcd" = some (.builtin "math.gcd")
  c_NONE : GConst K mg "NONE" (rat 0)
  c_ONE : GConst K mg "ONE" (rat 1)
  c_LESS : GConst K mg "LESS" (rat (-1))
  c_WORDS : GConst K mg "WORDS" (.tup [.str "squares", .str "sums", .str "greatest"])
  cl : Cls K (cls 0)
  n_tables : NoAttr K (cls 0) "tables"
  n_fits : NoAttr K (cls 0) "fits"
  n_asks : NoAttr K (cls 0) "asks"
  oc : OwnC K (cls 0)
  no : ∀ S, ([] : List String).contains S = true → PySem.W.kitOne K (.type S) (.ref (cls 0)) = some false
  g_Model : mg "Model" = some (.ref (cls 0))
local macro_rules | `(tactic| walk_at "dl") => `(tactic| simp only [rVar0, rVarS, rC, rNil, rCons, rNext, startD, List.map_cons, List.map_nil, List.length_cons, List.length_nil, List.replicate, Nat.reduceAdd, Nat.reduceSub, List.cons_append, List.nil_append, List.append_nil,
  List.getElem?_cons_zero, List.getElem?_cons_succ, List.set_cons_zero, List.set_cons_succ, Option.some.injEq, SV.d.injEq, SV.o.injEq, exists_eq_left', exists_eq_left, and_true, true_and, if_true, if_false, Bool.false_eq_true, Bool.not_true, Bool.not_false, ↓reduceIte,
  isB_bl, isI_int, add_ii, sub_ii, mul_ii, fdiv_ii, mod_ii, cmp_ii, neg_i, len_t, len_l, abs_i, int_i, int_b, str_i, tuple_t, tuple_l, gcd_ii, isB_bb, notB_bb, isN_x, notN_x, asL_l, asL_t, asL_sq, eq_ii, ne_ii, isN_rat, isN_tup, isN_non, isN_int, isi_rt, isi_ri, isi_rs, isi2_r, ex_cons, ex_tup, eq_self_iff_true, rYes, rgName, ix_t0, ix_t1, ix_t2, ix_t3, ix_t4, ix_r0, ix_r1, Bool.or_false, Bool.or_true, Bool.true_or, Bool.false_or,
  isi_i, isi_ib, isi_it, isi_tt, isi_ti, isi_tl, isi_ll, isi_ts, isi_ss, isi_st, isi2_t, isi2_l, isi2_i, sl0, sl1, sl2, sl3, sl4, sl5, sl6, sl7, sl8, sl9, iteG, wipeD, Int.cast_ofNat_Int, Int.reduceBEq, beq_self_eq_true, eq_rr, ne_rr, ne_11, Int.ofNat_one, Int.ofNat_zero])
section
variable {P : Program} {w : World} {K : PySem.W.Frag} {mg : Str → Option Value} {base : Heap} {cls : Nat → Addr} {f : Addr} {fd : FuncData}
abbrev s_is_whole : Stmt := top 7
theorem sc_is_whole : FnScope ["value"] ["value"] (defScope s_is_whole) := ⟨rfl, rfl, rfl, by decide +kernel, rfl, by decide +kernel, by decide +kernel⟩
def sp_is_whole : SpD := fun ds P g => (∃ i : Int, ds = [.int i] ∧ P (.bl true) g) ∨ ∃ xs : List D, ds = [.tup xs] ∧ P (.bl false) g
theorem ok_is_whole (F : Fun K "is_whole" "is_whole" s_is_whole f fd) (T : Txt K mg cls) : DOk P w K mg base cls 1 f fd ["value"] sp_is_whole := by
  refine dfun (k := 0) F sc_is_whole fun pen cells cl cdv A outer s H E hr => ⟨_, (ds_one (s_ret (d_and (d_isi rfl T.m_isinstance bv_isinstance rfl T.m_int bv_int (dv 0)) (d_one (d_not (d_isi rfl T.m_isinstance bv_isinstance rfl T.m_bool bv_bool (dv 0))))))), fun ds Q g hl h => ?_⟩
  rcases h with ⟨i, rfl, h⟩ | ⟨xs, rfl, h⟩
  · walk_at "dl"
    exact h
  · walk_at "dl"
    exact h
abbrev s_is_pair : Stmt := top 12
theorem sc_is_pair : FnScope ["value"] ["value"] (defScope s_is_pair) := ⟨rfl, rfl, rfl, by decide +kernel, rfl, by decide +kernel, by decide +kernel⟩
def sp_is_pair : SpD := fun ds P g => ∃ a b : Int, ds = [.tup [.int a, .int b]] ∧ P (.bl (decide (0 < b))) g
theorem ok_is_pair (F : Fun K "is_pair" "is_pair" s_is_pair f fd) (T : Txt K mg cls) (D_is_whole : DDef P w K mg base cls 1 "is_whole" ["value"] sp_is_whole) : DOk P w K mg base cls 2 f fd ["value"] sp_is_pair := by
  refine dfun (k := 1) F sc_is_pair fun pen cells cl cdv A outer s H E hr => ⟨_, (ds_cons (s_if (dt_w (dw_or (dt_not (dt_val (d_isi2 rfl T.m_isinstance bv_isinstance rfl T.m_tuple bv_tuple rfl T.m_list bv_list (dv 0)))) (dw_or1 (dt_cmp (op_oNe hr.units) (d_callB cal_len rfl T.m_len bv_len (da_cons (dv 0) da_nil)) d_int (nomark _))))) (ds_one (s_ret d_bl)) ds_nil)
    (ds_one (s_ret (d_and (d_callD D_is_whole (hr.mono (by decide)) (da_cons (d_ix (dv 0) d_int) da_nil)) (d_and (d_callD D_is_whole (hr.mono (by decide)) (da_cons (d_ix (dv 0) d_int) da_nil)) (d_one (d_cmp op_oGt (d_ix (dv 0) d_int) d_int (nomark _)))))))), fun ds Q g hl h => ?_⟩
  obtain ⟨a, b, rfl, h⟩ := h
  walk_at "dl"
  refine .inl ⟨a, rfl, ?_⟩
  simp only [if_true]
  refine .inl ⟨b, rfl, ?_⟩
  simp only [if_true]
  exact h
abbrev s_lowest : Stmt := top 14
theorem sc_lowest : FnScope ["top", "bottom", "by"] ["top", "bottom"] (defScope s_lowest) := ⟨rfl, rfl, rfl, by decide +kernel, rfl, by decide +kernel, by decide +kernel⟩
def sp_lowest : SpD := fun ds P g => ∃ a b : Int, ds = [.int a, .int b] ∧ 0 < b ∧ b.natAbs < 2 ^ 9000 ∧ P (rat (mkRat a b.toNat)) g
theorem ok_lowest (F : Fun K "lowest" "lowest" s_lowest f fd) (T : Txt K mg cls) : DOk P w K mg base cls 1 f fd ["top", "bottom"] sp_lowest := by
  refine dfun (k := 0) F sc_lowest fun pen cells cl cdv A outer s H E hr => ⟨_, (ds_cons (s_set (i := 2) sc_lowest.nd rfl (Or.inl rfl) (d_if (dt_cmp op_oGt (dv 1) d_int (nomark _)) (d_callBf cal_gcd rfl T.m_gcd (da_cons (dv 0) (da_cons (dv 1) da_nil))) (d_neg (d_callBf cal_gcd rfl T.m_gcd (da_cons (dv 0) (da_cons (dv 1) da_nil))))))
    (ds_one (s_ret (d_tup (da_cons (d_op op_oFdiv (dv 0) (dv 2)) (da_cons (d_op op_oFdiv (dv 1) (dv 2)) da_nil)))))), fun ds Q g hl h => ?_⟩
  obtain ⟨a, b, rfl, h0, hb, h⟩ := h
  walk_at "dl"
  rw [if_pos (decide_eq_true h0)]
  refine ⟨div_ok h0 hb _, div_ok h0 hb _, ?_⟩
  rw [low_eq h0]; exact h
abbrev s_summed : Stmt := top 17
theorem sc_summed : FnScope ["one", "other"] ["one", "other"] (defScope s_summed) := ⟨rfl, rfl, rfl, by decide +kernel, rfl, by decide +kernel, by decide +kernel⟩
theorem den_pos (q : Rat) : (0 : Int) < (q.den : Int) := by have := q.den_pos; omega
theorem ok_nd {p q : Rat} (hp : Sz 4000 p) (hq : Sz 4000 q) : CMulW p.num (q.den : Int) := mul_ok (n := 4000) (m := 4000) hp.1 (by simpa using hq.2) (by decide) (by decide) (by decide)
theorem ok_dd {p q : Rat} (hp : Sz 4000 p) (hq : Sz 4000 q) : CMulW (p.den : Int) (q.den : Int) := mul_ok (n := 4000) (m := 4000) (by simpa using hp.2) (by simpa using hq.2) (by decide) (by decide) (by decide)
theorem ok_nn {p q : Rat} (hp : Sz 4000 p) (hq : Sz 4000 q) : CMulW p.num q.num := mul_ok (n := 4000) (m := 4000) hp.1 hq.1 (by decide) (by decide) (by decide)
theorem dd_pos (p q : Rat) : (0 : Int) < (p.den : Int) * (q.den : Int) := Int.mul_pos (den_pos p) (den_pos q)
theorem dd_lt {p q : Rat} (hp : Sz 4000 p) (hq : Sz 4000 q) : ((p.den : Int) * (q.den : Int)).natAbs < 2 ^ 9000 := by
  have h := wide_lt (i := (p.den : Int)) (j := (q.den : Int)) (a := 4000) (b := 4000) (by simpa using hp.2) (by simpa using hq.2)
  exact Nat.lt_of_lt_of_le h (Nat.pow_le_pow_right (by decide) (by decide))
theorem dd_nat (p q : Rat) : ((p.den : Int) * (q.den : Int)).toNat = p.den * q.den := by rw [← Int.natCast_mul]; exact Int.toNat_natCast _
def sp_summed : SpD := fun ds P g => ∃ p q : Rat, ds = [rat p, rat q] ∧ Sz 4000 p ∧ Sz 4000 q ∧ P (rat (p + q)) g
theorem ok_summed (F : Fun K "summed" "summed" s_summed f fd) (T : Txt K mg cls) (D_lowest : DDef P w K mg base cls 1 "lowest" ["top", "bottom"] sp_lowest) : DOk P w K mg base cls 2 f fd ["one", "other"] sp_summed := by
  refine dfun (k := 1) F sc_summed fun pen cells cl cdv A outer s H E hr => ⟨_, (ds_one (s_ret (d_callD D_lowest (hr.mono (by decide)) (da_cons (d_op op_oAdd (d_op op_oMul (d_ix (dv 0) d_int) (d_ix (dv 1) d_int)) (d_op op_oMul (d_ix (dv 1) d_int) (d_ix (dv 0) d_int))) (da_cons (d_op op_oMul (d_ix (dv 0) d_int) (d_ix (dv 1) d_int)) da_nil))))), fun ds Q g hl h => ?_⟩
  obtain ⟨p, q, rfl, hp, hq, h⟩ := h
  walk_at "dl"
  refine ⟨ok_nd hp hq, ok_nd hq hp, ok_dd hp hq, _, _, rfl, dd_pos p q, dd_lt hp hq, ?_⟩
  rw [dd_nat, ← Rat.add_def']; exact h
abbrev s_lessened : Stmt := top 18
theorem sc_lessened : FnScope ["one", "other"] ["one", "other"] (defScope s_lessened) := ⟨rfl, rfl, rfl, by decide +kernel, rfl, by decide +kernel, by decide +kernel⟩
def sp_lessened : SpD := fun ds P g => ∃ p q : Rat, ds = [rat p, rat q] ∧ Sz 4000 p ∧ Sz 4000 q ∧ P (rat (p - q)) g
theorem sub_def' (p q : Rat) : p - q = mkRat (p.num * (q.den : Int) - q.num * (p.den : Int)) (p.den * q.den) := by
  rw [Rat.sub_def, ← Rat.normalize_eq_mkRat]
theorem ok_lessened (F : Fun K "lessened" "lessened" s_lessened f fd) (T : Txt K mg cls) (D_lowest : DDef P w K mg base cls 1 "lowest" ["top", "bottom"] sp_lowest) : DOk P w K mg base cls 2 f fd ["one", "other"] sp_lessened := by
  refine dfun (k := 1) F sc_lessened fun pen cells cl cdv A outer s H E hr => ⟨_, (ds_one (s_ret (d_callD D_lowest (hr.mono (by decide)) (da_cons (d_op op_oSub (d_op op_oMul (d_ix (dv 0) d_int) (d_ix (dv 1) d_int)) (d_op op_oMul (d_ix (dv 1) d_int) (d_ix (dv 0) d_int))) (da_cons (d_op op_oMul (d_ix (dv 0) d_int) (d_ix (dv 1) d_int)) da_nil))))), fun ds Q g hl h => ?_⟩
  obtain ⟨p, q, rfl, hp, hq, h⟩ := h
  walk_at "dl"
  refine ⟨ok_nd hp hq, ok_nd hq hp, ok_dd hp hq, _, _, rfl, dd_pos p q, dd_lt hp hq, ?_⟩
  rw [dd_nat, ← sub_def']; exact h
abbrev s_scaled : Stmt := top 19
theorem sc_scaled : FnScope ["one", "other"] ["one", "other"] (defScope s_scaled) := ⟨rfl, rfl, rfl, by decide +kernel, rfl, by decide +kernel, by decide +kernel⟩
def sp_scaled : SpD := fun ds P g => ∃ p q : Rat, ds = [rat p, rat q] ∧ Sz 4000 p ∧ Sz 4000 q ∧ P (rat (p * q)) g
theorem ok_scaled (F : Fun K "scaled" "scaled" s_scaled f fd) (T : Txt K mg cls) (D_lowest : DDef P w K mg base cls 1 "lowest" ["top", "bottom"] sp_lowest) : DOk P w K mg base cls 2 f fd ["one", "other"] sp_scaled := by
  refine dfun (k := 1) F sc_scaled fun pen cells cl cdv A outer s H E hr => ⟨_, (ds_one (s_ret (d_callD D_lowest (hr.mono (by decide)) (da_cons (d_op op_oMul (d_ix (dv 0) d_int) (d_ix (dv 1) d_int)) (da_cons (d_op op_oMul (d_ix (dv 0) d_int) (d_ix (dv 1) d_int)) da_nil))))), fun ds Q g hl h => ?_⟩
  obtain ⟨p, q, rfl, hp, hq, h⟩ := h
  walk_at "dl"
  refine ⟨ok_nn hp hq, ok_dd hp hq, _, _, rfl, dd_pos p q, dd_lt hp hq, ?_⟩
  rw [dd_nat, ← Rat.mul_def']; exact h
abbrev s_below : Stmt := top 20
theorem sc_below : FnScope ["one", "other"] ["one", "other"] (defScope s_below) := ⟨rfl, rfl, rfl, by decide +kernel, rfl, by decide +kernel, by decide +kernel⟩
def sp_below : SpD := fun ds P g => ∃ p q : Rat, ds = [rat p, rat q] ∧ Sz 4000 p ∧ Sz 4000 q ∧ P (.bl (decide (p < q))) g
theorem below_eq (p q : Rat) : decide (p.num * (q.den : Int) < q.num * (p.den : Int)) = decide (p < q) := by
  simp only [Rat.lt_iff]
theorem ok_below (F : Fun K "below" "below" s_below f fd) (T : Txt K mg cls) : DOk P w K mg base cls 1 f fd ["one", "other"] sp_below := by
  refine dfun (k := 0) F sc_below fun pen cells cl cdv A outer s H E hr => ⟨_, (ds_one (s_ret (d_cmp op_oLt (d_op op_oMul (d_ix (dv 0) d_int) (d_ix (dv 1) d_int)) (d_op op_oMul (d_ix (dv 1) d_int) (d_ix (dv 0) d_int)) (nomark _)))), fun ds Q g hl h => ?_⟩
  obtain ⟨p, q, rfl, hp, hq, h⟩ := h
  walk_at "dl"
  refine ⟨ok_nd hp hq, ok_nd hq hp, ?_⟩
  rw [below_eq]; exact h
abbrev s_turned_sign : Stmt := top 21
theorem sc_turned_sign : FnScope ["one"] ["one"] (defScope s_turned_sign) := ⟨rfl, rfl, rfl, by decide +kernel, rfl, by decide +kernel, by decide +kernel⟩
theorem rat_neg (p : Rat) : D.tup [.int (-p.num), .int (p.den : Int)] = rat (-p) := by unfold rat; rw [Rat.neg_num, Rat.neg_den]
def sp_turned_sign : SpD := fun ds P g => ∃ p : Rat, ds = [rat p] ∧ P (rat (-p)) g
theorem ok_turned_sign (F : Fun K "turned_sign" "turned_sign" s_turned_sign f fd) (T : Txt K mg cls) : DOk P w K mg base cls 1 f fd ["one"] sp_turned_sign := by
  refine dfun (k := 0) F sc_turned_sign fun pen cells cl cdv A outer s H E hr => ⟨_, (ds_one (s_ret (d_tup (da_cons (d_neg (d_ix (dv 0) d_int)) (da_cons (d_ix (dv 0) d_int) da_nil))))), fun ds Q g hl h => ?_⟩
  obtain ⟨p, rfl, h⟩ := h
  walk_at "dl"
  rw [rat_neg]; exact h
end
end K64

set_option Elab.async false
set_option linter.all false
set_option maxRecDepth 100000
set_option maxHeartbeats 4000000
set_option exponentiation.threshold 20000
namespace K64
open PySem PySem.Spec L2 DL
open PyProof.Rows hiding St
local macro_rules | `(tactic| walk_at "dl") => `(tactic| simp only [rVar0, rVarS, rC, rNil, rCons, rNext, startD, List.map_cons, List.map_nil, List.length_cons, List.length_nil, List.replicate, Nat.reduceAdd, Nat.reduceSub, List.cons_append, List.nil_append, List.append_nil,
  List.getElem?_cons_zero, List.getElem?_cons_succ, List.set_cons_zero, List.set_cons_succ, Option.some.injEq, SV.d.injEq, SV.o.injEq, exists_eq_left', exists_eq_left, and_true, true_and, if_true, if_false, Bool.false_eq_true, Bool.not_true, Bool.not_false, ↓reduceIte,
  isB_bl, isI_int, add_ii, sub_ii, mul_ii, fdiv_ii, mod_ii, cmp_ii, neg_i, len_t, len_l, abs_i, int_i, int_b, str_i, tuple_t, tuple_l, gcd_ii, isB_bb, notB_bb, isN_x, notN_x, asL_l, asL_t, asL_sq, eq_ii, ne_ii, isN_rat, isN_tup, isN_non, isN_int, isi_rt, isi_ri, isi_rs, isi2_r, ex_cons, ex_tup, eq_self_iff_true, rYes, rgName, ix_t0, ix_t1, ix_t2, ix_t3, ix_t4, ix_r0, ix_r1, Bool.or_false, Bool.or_true, Bool.true_or, Bool.false_or,
  isi_i, isi_ib, isi_it, isi_tt, isi_ti, isi_tl, isi_ll, isi_ts, isi_ss, isi_st, isi2_t, isi2_l, isi2_i, sl0, sl1, sl2, sl3, sl4, sl5, sl6, sl7, sl8, sl9, iteG, wipeD, Int.cast_ofNat_Int, Int.reduceBEq, beq_self_eq_true, eq_rr, ne_rr, ne_11, Int.ofNat_one, Int.ofNat_zero])
section
variable {P : Program} {w : World} {K : PySem.W.Frag} {mg : Str → Option Value} {base : Heap} {cls : Nat → Addr} {f : Addr} {fd : FuncData}

/-- a table of two columns and a fit on one feature -/
structure Inst where
  rows : List (Rat × Rat)
  ws : List Rat
  one : Bool
  lo : Rat
  hi : Rat
def rowD (r : Rat × Rat) : D := .tup [rat r.1, rat r.2]
def Inst.tab (M : Inst) (nm cn : D) : D := .tup [nm, cn, .tup (M.rows.map rowD), .tup (M.ws.map rat)]
def Inst.col (M : Inst) : D := if M.one = true then .non else .int 0
def Inst.fit (M : Inst) : D := .tup [.str "f", .int 0, .int 1, .tup [M.col], .tup [.tup [rat M.lo, rat M.hi]], .tup []]
def mod (M : Inst) (nm cn : D) : D := .obj 0 ["tables", "fits", "asks"] [.tup [M.tab nm cn], .tup [M.fit], .tup []]
def Inst.x (M : Inst) (r : Rat × Rat) : Rat := if M.one = true then 1 else r.1
def oneD (q : Rat) : D := .tup [rat q]
structure Inst.Ok (M : Inst) : Prop where
  len : M.rows.length ≤ 6
  wl : M.ws.length = M.rows.length
  sr : ∀ r ∈ M.rows, Sz 8 r.1 ∧ Sz 8 r.2
  sw : ∀ w ∈ M.ws, Sz 8 w
  lo : Sz 8 M.lo
  hi : Sz 8 M.hi
theorem Inst.Ok.x {M : Inst} (h : M.Ok) : ∀ r ∈ M.rows, Sz 8 (M.x r) := fun r hr => by
  unfold Inst.x; split
  · exact Sz.one.mono (by decide)
  · exact (h.sr r hr).1
theorem fld_of {c : Nat} {f : Str} {ks : List Str} {xs : List D} {d : D} {P : D → GP} (h : (ks.zip xs).lookup f = some d) : oFld c f (.obj c ks xs) P = P d := by
  funext g
  apply propext
  constructor
  · rintro ⟨ks', xs', d', e, l, p⟩
    cases e
    rw [h] at l; cases l; exact p
  · intro p; exact ⟨_, _, _, rfl, h, p⟩
theorem fld_tables {M : Inst} {nm cn : D} {P : D → GP} : oFld 0 "tables" (mod M nm cn) P = P (D.tup [M.tab nm cn]) := fld_of rfl
theorem fld_fits {M : Inst} {nm cn : D} {P : D → GP} : oFld 0 "fits" (mod M nm cn) P = P (D.tup [M.fit]) := fld_of rfl
abbrev s_is_tuple_of : Stmt := top 9
theorem sc_is_tuple_of : FnScope ["value", "many"] ["value", "many"] (defScope s_is_tuple_of) := ⟨rfl, rfl, rfl, by decide +kernel, rfl, by decide +kernel, by decide +kernel⟩
def sp_is_tuple_of : SpD := fun ds P g => ∃ xs n, ds = [.tup xs, .int n] ∧ P (.bl ((xs.length : Int) == n)) g
theorem ok_is_tuple_of (F : Fun K "is_tuple_of" "is_tuple_of" s_is_tuple_of f fd) (T : Txt K mg cls) : DOk P w K mg base cls 1 f fd ["value", "many"] sp_is_tuple_of := by
  refine dfun (k := 0) F sc_is_tuple_of fun pen cells cl cdv A outer s H E hr => ⟨_, (ds_one (s_ret (d_and (d_isi rfl T.m_isinstance bv_isinstance rfl T.m_tuple bv_tuple (dv 0)) (d_one (d_cmp (op_oEq hr.units) (d_callB cal_len rfl T.m_len bv_len (da_cons (dv 0) da_nil)) (dv 1) (nomark _)))))), fun ds Q g hl h => ?_⟩
  obtain ⟨xs, n, rfl, h⟩ := h
  walk_at "dl"
  exact h
abbrev s_is_ratio : Stmt := top 13
theorem sc_is_ratio : FnScope ["value"] ["value"] (defScope s_is_ratio) := ⟨rfl, rfl, rfl, by decide +kernel, rfl, by decide +kernel, by decide +kernel⟩
def sp_is_ratio : SpD := fun ds P g => ∃ q : Rat, ds = [rat q] ∧ P (.bl true) g
theorem ok_is_ratio (F : Fun K "is_ratio" "is_ratio" s_is_ratio f fd) (T : Txt K mg cls) (D_is_pair : DDef P w K mg base cls 2 "is_pair" ["value"] sp_is_pair) (D_is_whole : DDef P w K mg base cls 1 "is_whole" ["value"] sp_is_whole) : DOk P w K mg base cls 3 f fd ["value"] sp_is_ratio := by
  refine dfun (k := 2) F sc_is_ratio fun pen cells cl cdv A outer s H E hr => ⟨_, (ds_one (s_ret (d_or (d_callD D_is_whole (hr.mono (by decide)) (da_cons (dv 0) da_nil)) (d_one (d_and (d_isi rfl T.m_isinstance bv_isinstance rfl T.m_tuple bv_tuple (dv 0)) (d_one (d_callD D_is_pair (hr.mono (by decide)) (da_cons (dv 0) da_nil)))))))), fun ds Q g hl h => ?_⟩
  obtain ⟨q, rfl, h⟩ := h
  walk_at "dl"
  refine .inr ⟨_, rfl, ?_⟩
  unfold rat
  walk_at "dl"
  refine ⟨_, _, rfl, ?_⟩
  rw [decide_eq_true (den_pos q)]; exact h
abbrev s_told : Stmt := top 15
theorem sc_told : FnScope ["ratio"] ["ratio"] (defScope s_told) := ⟨rfl, rfl, rfl, by decide +kernel, rfl, by decide +kernel, by decide +kernel⟩
def sp_told : SpD := fun ds P g => ∃ q : Rat, ds = [rat q] ∧ Sz 4000 q ∧ P (rat q) g
theorem ok_told (F : Fun K "told" "told" s_told f fd) (T : Txt K mg cls) (D_is_pair : DDef P w K mg base cls 2 "is_pair" ["value"] sp_is_pair) (D_is_whole : DDef P w K mg base cls 1 "is_whole" ["value"] sp_is_whole) (D_lowest : DDef P w K mg base cls 1 "lowest" ["top", "bottom"] sp_lowest) : DOk P w K mg base cls 3 f fd ["ratio"] sp_told := by
  refine dfun (k := 2) F sc_told fun pen cells cl cdv A outer s H E hr => ⟨_, (ds_cons (s_if (dt_val (d_callD D_is_whole (hr.mono (by decide)) (da_cons (dv 0) da_nil))) (ds_one (s_ret (d_tup (da_cons (dv 0) (da_cons d_int da_nil))))) ds_nil)
    (ds_cons (s_if (dt_not (dt_val (d_callD D_is_pair (hr.mono (by decide)) (da_cons (dv 0) da_nil)))) (ds_one s_never) ds_nil)
    (ds_one (s_ret (d_callD D_lowest (hr.mono (by decide)) (da_cons (d_ix (dv 0) d_int) (da_cons (d_ix (dv 0) d_int) da_nil))))))), fun ds Q g hl h => ?_⟩
  obtain ⟨q, rfl, hq, h⟩ := h
  walk_at "dl"
  refine .inr ⟨_, rfl, ?_⟩
  walk_at "dl"
  refine ⟨_, _, rfl, ?_⟩
  rw [decide_eq_true (den_pos q)]
  walk_at "dl"
  refine ⟨_, _, rfl, den_pos q, ?_, ?_⟩
  · rw [Int.natAbs_natCast]; exact Nat.lt_of_lt_of_le hq.2 (Nat.pow_le_pow_right (by decide) (by decide))
  · rw [Int.toNat_natCast, Rat.mkRat_self]; exact h
abbrev s_is_told : Stmt := top 16
theorem sc_is_told : FnScope ["value"] ["value"] (defScope s_is_told) := ⟨rfl, rfl, rfl, by decide +kernel, rfl, by decide +kernel, by decide +kernel⟩
def sp_is_told : SpD := fun ds P g => ∃ q : Rat, ds = [rat q] ∧ P (.bl true) g
theorem ok_is_told (F : Fun K "is_told" "is_told" s_is_told f fd) (T : Txt K mg cls) (D_is_pair : DDef P w K mg base cls 2 "is_pair" ["value"] sp_is_pair) : DOk P w K mg base cls 3 f fd ["value"] sp_is_told := by
  refine dfun (k := 2) F sc_is_told fun pen cells cl cdv A outer s H E hr => ⟨_, (ds_one (s_ret (d_and (d_isi rfl T.m_isinstance bv_isinstance rfl T.m_tuple bv_tuple (dv 0)) (d_and (d_callD D_is_pair (hr.mono (by decide)) (da_cons (dv 0) da_nil)) (d_one (d_cmp (op_oEq hr.units) (d_callBf cal_gcd rfl T.m_gcd (da_cons (d_ix (dv 0) d_int) (da_cons (d_ix (dv 0) d_int) da_nil))) d_int (nomark _))))))), fun ds Q g hl h => ?_⟩
  obtain ⟨q, rfl, h⟩ := h
  unfold rat at hl ⊢
  walk_at "dl"
  refine ⟨_, _, rfl, ?_⟩
  rw [decide_eq_true (den_pos q)]
  walk_at "dl"
  rw [Int.natAbs_natCast, show Nat.gcd q.num.natAbs q.den = 1 from q.reduced]
  exact h
abbrev s_dot_of : Stmt := top 31
theorem sc_dot_of : FnScope ["one", "other", "out", "a", "b"] ["one", "other"] (defScope s_dot_of) := ⟨rfl, rfl, rfl, by decide +kernel, rfl, by decide +kernel, by decide +kernel⟩
def sp_dot_of : SpD := fun ds P g => ∃ (b1 b2 : Bool) (xs ys : List Rat) (n m : Nat), ds = [sqD b1 (xs.map rat), sqD b2 (ys.map rat)] ∧ (∀ x ∈ xs, Sz n x) ∧ (∀ y ∈ ys, Sz m y) ∧ n ≤ 1500 ∧ m ≤ 1500 ∧ 1 + xs.length * (n + m + 1) ≤ 4000 ∧ P (rat (dotL xs ys)) g
theorem ok_dot_of (F : Fun K "dot_of" "dot_of" s_dot_of f fd) (T : Txt K mg cls) (D_scaled : DDef P w K mg base cls 2 "scaled" ["one", "other"] sp_scaled) (D_summed : DDef P w K mg base cls 2 "summed" ["one", "other"] sp_summed) : DOk P w K mg base cls 3 f fd ["one", "other"] sp_dot_of := by
  refine dfun (k := 2) F sc_dot_of fun pen cells cl cdv A outer s H E hr => ⟨_, (ds_cons (s_set (i := 2) sc_dot_of.nd rfl (Or.inl rfl) (d_gc T.c_NONE))
    (ds_cons (s_for PassesOwn.never rfl (di_zip T.m_zip (dv 0) (dv 1)) (dg_tup (n := 2) rfl (dgs_cons (dg_name (i := 3) sc_dot_of.nd rfl (Or.inl rfl)) (dgs_cons (dg_name (i := 4) sc_dot_of.nd rfl (Or.inl rfl)) dgs_nil)))
    (ds_one (s_if (dt_w (dw_and (dt_cmp (op_oNe hr.units) (d_ix (dv 3) d_int) d_int (nomark _)) (dw_and1 (dt_cmp (op_oNe hr.units) (d_ix (dv 4) d_int) d_int (nomark _))))) (ds_one (s_set (i := 2) sc_dot_of.nd rfl (Or.inl rfl) (d_callD D_summed (hr.mono (by decide)) (da_cons (dv 2) (da_cons (d_callD D_scaled (hr.mono (by decide)) (da_cons (dv 3) (da_cons (dv 4) da_nil))) da_nil))))) ds_nil)))
    (ds_one (s_ret (dv 2))))), fun ds Q g hl h => ?_⟩
  obtain ⟨b1, b2, xs, ys, n, m, rfl, hx, hy, hn, hm, hb, h⟩ := h
  walk_at "dl"
  rw [pairD_map]
  have hmem : ∀ p ∈ xs.zip ys, Sz n p.1 ∧ Sz m p.2 := fun p hp => ⟨hx _ (List.of_mem_zip hp).1, hy _ (List.of_mem_zip hp).2⟩
  have hlen : (xs.zip ys).length ≤ xs.length := by rw [List.length_zip]; omega
  refine for_fold (xs.zip ys) _ (fun s ρ => ∃ a b, ρ = [.d (sqD b1 (xs.map rat)), .d (sqD b2 (ys.map rat)), .d (rat s), a, b]) (fun s p => s + p.1 * p.2) (fun i s => Sz (1 + i * (n + m + 1)) s) 0 ⟨.u, .u, rfl⟩ (by simpa using Sz.zero) ?_ ?_ ?_
  · intro i p s hp hi hz
    refine (hz.add ((hmem p hp).1.mul (hmem p hp).2)).mono ?_
    rw [Nat.add_mul]; omega
  · rintro i p s ρ hp hi ⟨a, b, rfl⟩ hz
    have h1 := (hmem p hp).1
    have h2 := (hmem p hp).2
    have hs : Sz 4000 s := hz.mono (by
      have : i * (n + m + 1) ≤ xs.length * (n + m + 1) := Nat.mul_le_mul_right _ (by omega)
      omega)
    walk_at "dl"
    split
    · split
      · exact ⟨_, _, rfl, h1.mono (by omega), h2.mono (by omega), _, _, rfl, hs, (h1.mul h2).mono (by omega), rfl, _, _, rfl⟩
      · rename_i e
        rw [num0 e, Rat.mul_zero, Rat.add_zero]
        exact ⟨_, _, rfl⟩
    · rename_i e
      rw [num0 e, Rat.zero_mul, Rat.add_zero]
      exact ⟨_, _, rfl⟩
  · rintro ρ ⟨a, b, rfl⟩ hz
    walk_at "dl"
    exact h
end
end K64

set_option Elab.async false
set_option linter.all false
set_option maxRecDepth 100000
set_option maxHeartbeats 4000000
set_option exponentiation.threshold 20000
namespace K64
open PySem PySem.Spec L2 DL
open PyProof.Rows hiding St
local macro_rules | `(tactic| walk_at "dl") => `(tactic| simp only [rVar0, rVarS, rC, rNil, rCons, rNext, startD, List.map_cons, List.map_nil, List.length_cons, List.length_nil, List.replicate, Nat.reduceAdd, Nat.reduceSub, List.cons_append, List.nil_append, List.append_nil,
  List.getElem?_cons_zero, List.getElem?_cons_succ, List.set_cons_zero, List.set_cons_succ, Option.some.injEq, SV.d.injEq, SV.o.injEq, exists_eq_left', exists_eq_left, and_true, true_and, if_true, if_false, Bool.false_eq_true, Bool.not_true, Bool.not_false, ↓reduceIte,
  isB_bl, isI_int, add_ii, sub_ii, mul_ii, fdiv_ii, mod_ii, cmp_ii, neg_i, len_t, len_l, abs_i, int_i, int_b, str_i, tuple_t, tuple_l, gcd_ii, isB_bb, notB_bb, isN_x, notN_x, asL_l, asL_t, asL_sq, eq_ii, ne_ii, isN_rat, isN_tup, isN_non, isN_int, isi_rt, isi_ri, isi_rs, isi2_r, ex_cons, ex_tup, eq_self_iff_true, rYes, rgName, ix_t0, ix_t1, ix_t2, ix_t3, ix_t4, ix_r0, ix_r1, Bool.or_false, Bool.or_true, Bool.true_or, Bool.false_or,
  isi_i, isi_ib, isi_it, isi_tt, isi_ti, isi_tl, isi_ll, isi_ts, isi_ss, isi_st, isi2_t, isi2_l, isi2_i, sl0, sl1, sl2, sl3, sl4, sl5, sl6, sl7, sl8, sl9, iteG, wipeD, Int.cast_ofNat_Int, Int.reduceBEq, beq_self_eq_true, eq_rr, ne_rr, ne_11, Int.ofNat_one, Int.ofNat_zero])
section
variable {P : Program} {w : World} {K : PySem.W.Frag} {mg : Str → Option Value} {base : Heap} {cls : Nat → Addr} {f : Addr} {fd : FuncData}

abbrev s_size_of : Stmt := top 32
theorem sc_size_of : FnScope ["ratio"] ["ratio"] (defScope s_size_of) := ⟨rfl, rfl, rfl, by decide +kernel, rfl, by decide +kernel, by decide +kernel⟩
def sp_size_of : SpD := fun ds P g => ∃ q : Rat, ds = [rat q] ∧ P (rat q.abs) g
theorem abs_rat (q : Rat) : D.tup [.int (if q.num < 0 then -q.num else q.num), .int (q.den : Int)] = rat q.abs := by
  unfold Rat.abs rat
  by_cases h : 0 ≤ q
  · rw [if_pos h, if_neg (by have := Rat.num_nonneg.mpr h; omega)]
  · rw [if_neg h, Rat.neg_num, Rat.neg_den, if_pos (by
      have := mt Rat.num_nonneg.mp h; omega)]
theorem ok_size_of (F : Fun K "size_of" "size_of" s_size_of f fd) (T : Txt K mg cls) : DOk P w K mg base cls 1 f fd ["ratio"] sp_size_of := by
  refine dfun (k := 0) F sc_size_of fun pen cells cl cdv A outer s H E hr => ⟨_, (ds_one (s_ret (d_tup (da_cons (d_callB cal_abs rfl T.m_abs bv_abs (da_cons (d_ix (dv 0) d_int) da_nil)) (da_cons (d_ix (dv 0) d_int) da_nil))))), fun ds Q g hl h => ?_⟩
  obtain ⟨q, rfl, h⟩ := h
  walk_at "dl"
  rw [abs_rat]; exact h
abbrev s_mixed_rows : Stmt := top 33
theorem sc_mixed_rows : FnScope ["rows", "shares", "wide", "out", "row", "share", "a", "b"] ["rows", "shares", "wide"] (defScope s_mixed_rows) := ⟨rfl, rfl, rfl, by decide +kernel, rfl, by decide +kernel, by decide +kernel⟩
def sp_mixed_rows : SpD := fun ds P g => ∃ (b1 b2 : Bool) (xs ss : List Rat) (n m : Nat), ds = [sqD b1 (xs.map oneD), sqD b2 (ss.map rat), .int 1] ∧ (∀ x ∈ xs, Sz n x) ∧ (∀ y ∈ ss, Sz m y) ∧ n ≤ 1500 ∧ m ≤ 1500 ∧ 1 + xs.length * (n + m + 1) ≤ 4000 ∧ P (oneD (dotL xs ss)) g
theorem rep1 (d : D) : (List.replicate (1 : Int).toNat [d]).flatten = [d] := rfl
theorem asL_one {q : Rat} {P : List D → GP} : asL (oneD q) P = P [rat q] := rfl
theorem ok_mixed_rows (F : Fun K "mixed_rows" "mixed_rows" s_mixed_rows f fd) (T : Txt K mg cls) (D_scaled : DDef P w K mg base cls 2 "scaled" ["one", "other"] sp_scaled) (D_summed : DDef P w K mg base cls 2 "summed" ["one", "other"] sp_summed) : DOk P w K mg base cls 3 f fd ["rows", "shares", "wide"] sp_mixed_rows := by
  refine dfun (k := 2) F sc_mixed_rows fun pen cells cl cdv A outer s H E hr => ⟨_, (ds_cons (s_set (i := 3) sc_mixed_rows.nd rfl (Or.inl rfl) (d_op op_oMul (d_tup (da_cons (d_gc T.c_NONE) da_nil)) (dv 2)))
    (ds_cons (s_for PassesOwn.never rfl (di_zip T.m_zip (dv 0) (dv 1)) (dg_tup (n := 2) rfl (dgs_cons (dg_name (i := 4) sc_mixed_rows.nd rfl (Or.inl rfl)) (dgs_cons (dg_name (i := 5) sc_mixed_rows.nd rfl (Or.inr rfl)) dgs_nil)))
    (ds_one (s_if (dt_cmp (op_oNe hr.units) (d_ix (dv 5) d_int) d_int (nomark _)) (ds_one (s_set (i := 3) sc_mixed_rows.nd rfl (Or.inl rfl) (d_callTy cal_tuple rfl T.m_tuple bv_tuple (da_cons (d_of_f (f_lc rfl sc_mixed_rows.nd (di_zip T.m_zip (dv 3) (dv 4)) (blkOk_by (own := [("a", 6), ("b", 7)]) (N := ["rows", "shares", "wide", "out", "row", "share", "a", "b"]) (sc := defScope s_mixed_rows) (by decide +kernel)) (by decide) (fun _ _ _ _ _ => (dg_tup (n := 2) rfl (dgs_cons (dg_name (i := 6) sc_mixed_rows.nd rfl (Or.inl rfl)) (dgs_cons (dg_name (i := 7) sc_mixed_rows.nd rfl (Or.inl rfl)) dgs_nil)))) (fun _ _ _ _ _ => dts_nil) (fun _ _ _ _ _ => (d_callD D_summed (hr.mono (by decide)) (da_cons (dv 6) (da_cons (d_callD D_scaled (hr.mono (by decide)) (da_cons (dv 5) (da_cons (dv 7) da_nil))) da_nil)))))) da_nil)))) ds_nil)))
    (ds_one (s_ret (dv 3))))), fun ds Q g hl h => ?_⟩
  obtain ⟨b1, b2, xs, ss, n, m, rfl, hx, hy, hn, hm, hb, h⟩ := h
  walk_at "dl"
  refine ⟨by simp, by decide, by decide, by decide, ?_⟩
  rw [rep1, pairD_map]
  have hmem : ∀ p ∈ xs.zip ss, Sz n p.1 ∧ Sz m p.2 := fun p hp => ⟨hx _ (List.of_mem_zip hp).1, hy _ (List.of_mem_zip hp).2⟩
  have hlen : (xs.zip ss).length ≤ xs.length := by rw [List.length_zip]; omega
  refine for_fold (xs.zip ss) _ (fun s ρ => ∃ a b c d, ρ = [.d (sqD b1 (xs.map oneD)), .d (sqD b2 (ss.map rat)), .d (.int 1), .d (oneD s), a, b, c, d]) (fun s p => s + p.1 * p.2) (fun i s => Sz (1 + i * (n + m + 1)) s) 0 ⟨.u, .u, .u, .u, rfl⟩ (by simpa using Sz.zero) ?_ ?_ ?_
  · intro i p s hp hi hz
    refine (hz.add ((hmem p hp).1.mul (hmem p hp).2)).mono ?_
    rw [Nat.add_mul]; omega
  · rintro i p s ρ hp hi ⟨a, b, c, d, rfl⟩ hz
    have h1 := (hmem p hp).1
    have h2 := (hmem p hp).2
    have hs : Sz 4000 s := hz.mono (by
      have : i * (n + m + 1) ≤ xs.length * (n + m + 1) := Nat.mul_le_mul_right _ (by omega)
      omega)
    walk_at "dl"
    split
    · simp only [asL_one]
      refine lc_map [(s, p.1)] (fun q => D.tup [rat q.1, rat q.2]) (fun q => rat (q.1 + p.2 * q.2)) ?_ ?_
      · intro q hq
        cases List.mem_singleton.mp hq
        walk_at "dl"
        exact ⟨_, _, rfl, h2.mono (by omega), h1.mono (by omega), _, _, rfl, hs, (h2.mul h1).mono (by omega), rfl, rfl⟩
      · exact ⟨rfl, .d (oneD p.1), .d (rat p.2), c, d, by rw [Rat.mul_comm p.1 p.2]; rfl⟩
    · rename_i e
      rw [num0 e, Rat.mul_zero, Rat.add_zero]
      exact ⟨_, _, _, _, rfl⟩
  · rintro ρ ⟨a, b, c, d, rfl⟩ hz
    walk_at "dl"
    exact h
abbrev s_table_of : Stmt := top 35
theorem sc_table_of : FnScope ["model", "fit"] ["model", "fit"] (defScope s_table_of) := ⟨rfl, rfl, rfl, by decide +kernel, rfl, by decide +kernel, by decide +kernel⟩
def sp_table_of : SpD := fun ds P g => ∃ M nm cn, ds = [mod M nm cn, .int 0] ∧ P (M.tab nm cn) g
theorem ok_table_of (F : Fun K "table_of" "table_of" s_table_of f fd) (T : Txt K mg cls) : DOk P w K mg base cls 1 f fd ["model", "fit"] sp_table_of := by
  refine dfun (k := 0) F sc_table_of fun pen cells cl cdv A outer s H E hr => ⟨_, (ds_one (s_ret (d_ix (d_fld (c := 0) T.cl T.n_tables (dv 0)) (d_ix (d_ix (d_fld (c := 0) T.cl T.n_fits (dv 0)) (dv 1)) d_int)))), fun ds Q g hl h => ?_⟩
  obtain ⟨M, nm, cn, rfl, h⟩ := h
  walk_at "dl"
  simp only [fld_tables, fld_fits, ix_t0, Inst.fit, ix_t1]
  exact h
abbrev s_wide_of : Stmt := top 36
theorem sc_wide_of : FnScope ["model", "fit"] ["model", "fit"] (defScope s_wide_of) := ⟨rfl, rfl, rfl, by decide +kernel, rfl, by decide +kernel, by decide +kernel⟩
def sp_wide_of : SpD := fun ds P g => ∃ M nm cn, ds = [mod M nm cn, .int 0] ∧ P (.int 1) g
theorem ok_wide_of (F : Fun K "wide_of" "wide_of" s_wide_of f fd) (T : Txt K mg cls) : DOk P w K mg base cls 1 f fd ["model", "fit"] sp_wide_of := by
  refine dfun (k := 0) F sc_wide_of fun pen cells cl cdv A outer s H E hr => ⟨_, (ds_one (s_ret (d_callB cal_len rfl T.m_len bv_len (da_cons (d_ix (d_ix (d_fld (c := 0) T.cl T.n_fits (dv 0)) (dv 1)) d_int) da_nil)))), fun ds Q g hl h => ?_⟩
  obtain ⟨M, nm, cn, rfl, h⟩ := h
  walk_at "dl"
  simp only [fld_tables, fld_fits, ix_t0, Inst.fit, ix_t1, ix_t3]
  walk_at "dl"
  exact h
abbrev s_features_by : Stmt := top 37
theorem sc_features_by : FnScope ["model", "fit", "columns", "out", "row", "column"] ["model", "fit"] (defScope s_features_by) := ⟨rfl, rfl, rfl, by decide +kernel, rfl, by decide +kernel, by decide +kernel⟩
def sp_features_by : SpD := fun ds P g => ∃ M nm cn, ds = [mod M nm cn, .int 0] ∧ M.Ok ∧ P (.lst (M.rows.map fun r => oneD (M.x r))) g
theorem foldl_app {α β : Type} (f : α → β) : ∀ (as : List α) (bs : List β), as.foldl (fun s a => s ++ [f a]) bs = bs ++ as.map f
  | [], bs => by simp
  | a :: as, bs => by rw [List.foldl_cons, foldl_app f as]; simp
theorem ok_features_by (F : Fun K "features_by" "features_by" s_features_by f fd) (T : Txt K mg cls) (D_table_of : DDef P w K mg base cls 1 "table_of" ["model", "fit"] sp_table_of) : DOk P w K mg base cls 2 f fd ["model", "fit"] sp_features_by := by
  refine dfun (k := 1) F sc_features_by fun pen cells cl cdv A outer s H E hr => ⟨_, (ds_cons (s_par_do (i := 2) (j := 3) rfl sc_features_by.nd rfl rfl (by decide) rfl rfl (d_ix (d_ix (d_fld (c := 0) T.cl T.n_fits (dv 0)) (dv 1)) d_int) (f_lst da_nil) (by rfl))
    (ds_cons (s_for PassesOwn.never rfl (di_seq (d_ix (d_callD D_table_of (hr.mono (by decide)) (da_cons (dv 0) (da_cons (dv 1) da_nil))) d_int)) (dg_name (i := 4) sc_features_by.nd rfl (Or.inr rfl))
    (ds_one (s_append (i := 3) rfl (d_callTy cal_tuple rfl T.m_tuple bv_tuple (da_cons (d_of_f (f_lc rfl sc_features_by.nd (di_seq (dv 2)) (blkOk_by (own := [("column", 5)]) (N := ["model", "fit", "columns", "out", "row", "column"]) (sc := defScope s_features_by) (by decide +kernel)) (by decide) (fun _ _ _ _ _ => (dg_name (i := 5) sc_features_by.nd rfl (Or.inl rfl))) (fun _ _ _ _ _ => dts_nil) (fun _ _ _ _ _ => (d_if (dt_cmp op_oIsN (dv 5) d_non (nomark _)) (d_gc T.c_ONE) (d_ix (dv 4) (dv 5)))))) da_nil)))))
    (ss_frz [3] (ds_one (s_ret (dv 3)))))), fun ds Q g hl h => ?_⟩
  obtain ⟨M, nm, cn, rfl, ok, h⟩ := h
  walk_at "dl"
  simp only [fld_tables, fld_fits, ix_t0, Inst.fit, ix_t1, ix_t3]
  refine ⟨M, nm, cn, rfl, ?_⟩
  simp only [Inst.tab, ix_t2, asL_t]
  refine for_fold M.rows _ (fun s ρ => ∃ a b, ρ = [.d (mod M nm cn), .d (.int 0), .d (.tup [M.col]), .o s, a, b]) (fun s r => s ++ [oneD (M.x r)]) (fun i s => s.length = i) [] ⟨.u, .u, rfl⟩ rfl ?_ ?_ ?_
  · intro i p s hp hi hz
    rw [List.length_append, hz]; rfl
  · rintro i r s ρ hp hi ⟨a, b, rfl⟩ hz
    walk_at "dl"
    refine ⟨by have := ok.len; omega, ?_⟩
    refine lc_map [()] (fun _ => M.col) (fun _ => rat (M.x r)) (fun _ _ => ?_) ⟨rfl, _, _, rfl⟩
    walk_at "dl"
    unfold Inst.col Inst.x
    split
    · walk_at "dl"
    · unfold rowD
      walk_at "dl"
  · rintro ρ ⟨a, b, rfl⟩ hz
    rw [foldl_app]
    walk_at "dl"
    rw [rVar_frz rfl (by decide)]
    exact h
abbrev s_targets_by : Stmt := top 38
theorem sc_targets_by : FnScope ["model", "fit", "row"] ["model", "fit"] (defScope s_targets_by) := ⟨rfl, rfl, rfl, by decide +kernel, rfl, by decide +kernel, by decide +kernel⟩
def sp_targets_by : SpD := fun ds P g => ∃ M nm cn, ds = [mod M nm cn, .int 0] ∧ M.Ok ∧ P (.lst (M.rows.map fun r => rat r.2)) g
theorem ok_targets_by (F : Fun K "targets_by" "targets_by" s_targets_by f fd) (T : Txt K mg cls) (D_table_of : DDef P w K mg base cls 1 "table_of" ["model", "fit"] sp_table_of) : DOk P w K mg base cls 2 f fd ["model", "fit"] sp_targets_by := by
  refine dfun (k := 1) F sc_targets_by fun pen cells cl cdv A outer s H E hr => ⟨_, (ds_one (s_ret (d_of_f (f_lc rfl sc_targets_by.nd (di_seq (d_ix (d_callD D_table_of (hr.mono (by decide)) (da_cons (dv 0) (da_cons (dv 1) da_nil))) d_int)) (blkOk_by (own := [("row", 2)]) (N := ["model", "fit", "row"]) (sc := defScope s_targets_by) (by decide +kernel)) (by decide) (fun _ _ _ _ _ => (dg_name (i := 2) sc_targets_by.nd rfl (Or.inl rfl))) (fun _ _ _ _ _ => dts_nil) (fun _ _ _ _ _ => (d_ix (dv 2) (d_ix (d_ix (d_fld (c := 0) T.cl T.n_fits (dv 0)) (dv 1)) d_int))))))), fun ds Q g hl h => ?_⟩
  obtain ⟨M, nm, cn, rfl, ok, h⟩ := h
  walk_at "dl"
  refine ⟨M, nm, cn, rfl, ?_⟩
  simp only [Inst.tab, ix_t2, asL_t]
  refine lc_map M.rows _ _ (fun r hr => ?_) h
  walk_at "dl"
  simp only [fld_tables, fld_fits, ix_t0, Inst.fit, ix_t1, ix_t2]
  unfold rowD
  walk_at "dl"
abbrev s_weights_by : Stmt := top 39
theorem sc_weights_by : FnScope ["model", "fit"] ["model", "fit"] (defScope s_weights_by) := ⟨rfl, rfl, rfl, by decide +kernel, rfl, by decide +kernel, by decide +kernel⟩
def sp_weights_by : SpD := fun ds P g => ∃ M nm cn, ds = [mod M nm cn, .int 0] ∧ P (.tup (M.ws.map rat)) g
theorem ok_weights_by (F : Fun K "weights_by" "weights_by" s_weights_by f fd) (T : Txt K mg cls) (D_table_of : DDef P w K mg base cls 1 "table_of" ["model", "fit"] sp_table_of) : DOk P w K mg base cls 2 f fd ["model", "fit"] sp_weights_by := by
  refine dfun (k := 1) F sc_weights_by fun pen cells cl cdv A outer s H E hr => ⟨_, (ds_one (s_ret (d_ix (d_callD D_table_of (hr.mono (by decide)) (da_cons (dv 0) (da_cons (dv 1) da_nil))) d_int))), fun ds Q g hl h => ?_⟩
  obtain ⟨M, nm, cn, rfl, h⟩ := h
  walk_at "dl"
  refine ⟨M, nm, cn, rfl, ?_⟩
  simp only [Inst.tab, ix_t3]
  exact h
abbrev s_unit_row : Stmt := top 40
theorem sc_unit_row : FnScope ["wide", "place", "item", "k"] ["wide", "place", "item"] (defScope s_unit_row) := ⟨rfl, rfl, rfl, by decide +kernel, rfl, by decide +kernel, by decide +kernel⟩
def sp_unit_row : SpD := fun ds P g => ∃ q : Rat, ds = [.int 1, .int 0, rat q] ∧ P (oneD q) g
theorem ok_unit_row (F : Fun K "unit_row" "unit_row" s_unit_row f fd) (T : Txt K mg cls) : DOk P w K mg base cls 1 f fd ["wide", "place", "item"] sp_unit_row := by
  refine dfun (k := 0) F sc_unit_row fun pen cells cl cdv A outer s H E hr => ⟨_, (ds_one (s_ret (d_callTy cal_tuple rfl T.m_tuple bv_tuple (da_cons (d_of_f (f_lc rfl sc_unit_row.nd (di_range T.m_range (dv 0)) (blkOk_by (own := [("k", 3)]) (N := ["wide", "place", "item", "k"]) (sc := defScope s_unit_row) (by decide +kernel)) (by decide) (fun _ _ _ _ _ => (dg_name (i := 3) sc_unit_row.nd rfl (Or.inl rfl))) (fun _ _ _ _ _ => dts_nil) (fun _ _ _ _ _ => (d_if (dt_cmp (op_oEq hr.units) (dv 3) (dv 1) (nomark _)) (dv 2) (d_gc T.c_NONE))))) da_nil)))), fun ds Q g hl h => ?_⟩
  obtain ⟨q, rfl, h⟩ := h
  walk_at "dl"
  refine ⟨⟨by decide, by decide⟩, ?_⟩
  refine lc_map [()] (fun _ => D.int 0) (fun _ => rat q) (fun r hr => ?_) h
  walk_at "dl"
abbrev s_plus_row : Stmt := top 34
theorem sc_plus_row : FnScope ["one", "other", "a", "b"] ["one", "other"] (defScope s_plus_row) := ⟨rfl, rfl, rfl, by decide +kernel, rfl, by decide +kernel, by decide +kernel⟩
def sp_plus_row : SpD := fun _ _ _ => False
theorem ok_plus_row (F : Fun K "plus_row" "plus_row" s_plus_row f fd) (T : Txt K mg cls) (D_summed : DDef P w K mg base cls 2 "summed" ["one", "other"] sp_summed) : DOk P w K mg base cls 3 f fd ["one", "other"] sp_plus_row := by
  refine dfun (k := 2) F sc_plus_row fun pen cells cl cdv A outer s H E hr => ⟨_, (ds_one (s_ret (d_callTy cal_tuple rfl T.m_tuple bv_tuple (da_cons (d_of_f (f_lc rfl sc_plus_row.nd (di_zip T.m_zip (dv 0) (dv 1)) (blkOk_by (own := [("a", 2), ("b", 3)]) (N := ["one", "other", "a", "b"]) (sc := defScope s_plus_row) (by decide +kernel)) (by decide) (fun _ _ _ _ _ => (dg_tup (n := 2) rfl (dgs_cons (dg_name (i := 2) sc_plus_row.nd rfl (Or.inl rfl)) (dgs_cons (dg_name (i := 3) sc_plus_row.nd rfl (Or.inl rfl)) dgs_nil)))) (fun _ _ _ _ _ => dts_nil) (fun _ _ _ _ _ => (d_callD D_summed (hr.mono (by decide)) (da_cons (dv 2) (da_cons (dv 3) da_nil)))))) da_nil)))), fun ds Q g hl h => ?_⟩
  exact h.elim
abbrev s_limits_by : Stmt := top 41
theorem sc_limits_by : FnScope ["model", "fit", "name", "table", "target", "features", "bounds", "orders", "wide", "out", "place", "least", "most", "one", "other"] ["model", "fit"] (defScope s_limits_by) := ⟨rfl, rfl, rfl, by decide +kernel, rfl, by decide +kernel, by decide +kernel⟩
def sp_limits_by : SpD := fun ds P g => ∃ M nm cn, ds = [mod M nm cn, .int 0] ∧ P (.lst [.tup [oneD (-1), rat (-M.lo)], .tup [oneD 1, rat M.hi]]) g
theorem ok_limits_by (F : Fun K "limits_by" "limits_by" s_limits_by f fd) (T : Txt K mg cls) (D_plus_row : DDef P w K mg base cls 3 "plus_row" ["one", "other"] sp_plus_row) (D_turned_sign : DDef P w K mg base cls 1 "turned_sign" ["one"] sp_turned_sign) (D_unit_row : DDef P w K mg base cls 1 "unit_row" ["wide", "place", "item"] sp_unit_row) : DOk P w K mg base cls 4 f fd ["model", "fit"] sp_limits_by := by
  refine dfun (k := 3) F sc_limits_by fun pen cells cl cdv A outer s H E hr => ⟨_, (ds_cons (s_asg (d_ix (d_fld (c := 0) T.cl T.n_fits (dv 0)) (dv 1)) (dg_tup (n := 6) rfl (dgs_cons (dg_name (i := 2) sc_limits_by.nd rfl (Or.inl rfl)) (dgs_cons (dg_name (i := 3) sc_limits_by.nd rfl (Or.inl rfl)) (dgs_cons (dg_name (i := 4) sc_limits_by.nd rfl (Or.inl rfl)) (dgs_cons (dg_name (i := 5) sc_limits_by.nd rfl (Or.inl rfl)) (dgs_cons (dg_name (i := 6) sc_limits_by.nd rfl (Or.inl rfl)) (dgs_cons (dg_name (i := 7) sc_limits_by.nd rfl (Or.inl rfl)) dgs_nil))))))))
    (ds_cons (s_par_do (i := 8) (j := 9) rfl sc_limits_by.nd rfl rfl (by decide) rfl rfl (d_callB cal_len rfl T.m_len bv_len (da_cons (dv 5) da_nil)) (f_lst da_nil) (by rfl))
    (ds_cons (s_for PassesOwn.never rfl (di_enum T.m_enumerate (dv 6)) (dg_tup (n := 2) rfl (dgs_cons (dg_name (i := 10) sc_limits_by.nd rfl (Or.inl rfl)) (dgs_cons (dg_tup (n := 2) rfl (dgs_cons (dg_name (i := 11) sc_limits_by.nd rfl (Or.inl rfl)) (dgs_cons (dg_name (i := 12) sc_limits_by.nd rfl (Or.inl rfl)) dgs_nil))) dgs_nil)))
    (ds_cons (s_if (dt_cmp op_oNotN (dv 11) d_non (nomark _)) (ds_one (s_append (i := 9) rfl (d_tup (da_cons (d_callD D_unit_row (hr.mono (by decide)) (da_cons (dv 8) (da_cons (dv 10) (da_cons (d_gc T.c_LESS) da_nil)))) (da_cons (d_callD D_turned_sign (hr.mono (by decide)) (da_cons (dv 11) da_nil)) da_nil))))) ds_nil)
    (ds_one (s_if (dt_cmp op_oNotN (dv 12) d_non (nomark _)) (ds_one (s_append (i := 9) rfl (d_tup (da_cons (d_callD D_unit_row (hr.mono (by decide)) (da_cons (dv 8) (da_cons (dv 10) (da_cons (d_gc T.c_ONE) da_nil)))) (da_cons (dv 12) da_nil))))) ds_nil))))
    (ds_cons (s_for PassesOwn.never rfl (di_seq (dv 7)) (dg_tup (n := 2) rfl (dgs_cons (dg_name (i := 13) sc_limits_by.nd rfl (Or.inl rfl)) (dgs_cons (dg_name (i := 14) sc_limits_by.nd rfl (Or.inl rfl)) dgs_nil)))
    (ds_one (s_append (i := 9) rfl (d_tup (da_cons (d_callD D_plus_row (hr.mono (by decide)) (da_cons (d_callD D_unit_row (hr.mono (by decide)) (da_cons (dv 8) (da_cons (dv 13) (da_cons (d_gc T.c_ONE) da_nil)))) (da_cons (d_callD D_unit_row (hr.mono (by decide)) (da_cons (dv 8) (da_cons (dv 14) (da_cons (d_gc T.c_LESS) da_nil)))) da_nil))) (da_cons (d_gc T.c_NONE) da_nil))))))
    (ss_frz [9] (ds_one (s_ret (dv 9)))))))), fun ds Q g hl h => ?_⟩
  obtain ⟨M, nm, cn, rfl, h⟩ := h
  walk_at "dl"
  simp only [fld_tables, fld_fits, ix_t0, Inst.fit, ix_t1, ix_t3]
  walk_at "dl"
  refine ⟨fun ρ' g' => g' = g ∧ ∃ a b c d e a' b' c' d' e', ρ' = [a', b', c', d', e', .d (D.tup [M.col]), .d (.tup [.tup [rat M.lo, rat M.hi]]), .d (.tup []), .d (.int 1), .o [.tup [oneD (-1), rat (-M.lo)], .tup [oneD 1, rat M.hi]], a, b, c, d, e], ?_, ?_⟩
  · walk_at "dl"
    refine ⟨by decide, _, rfl, _, rfl, by decide, _, rfl, rfl, _, _, _, _, _, _, _, _, _, _, rfl⟩
  · rintro ρ' g' ⟨rfl, a, b, c, d, e, a', b', c', d', e', rfl⟩
    show rVar 7 _ _ _
    walk_at "dl"
    show rVar 9 _ _ _
    rw [rVar_frz rfl (by decide)]
    exact h
abbrev s_misses_by : Stmt := top 42
theorem sc_misses_by : FnScope ["model", "fit", "coefs", "x", "y"] ["model", "fit", "coefs"] (defScope s_misses_by) := ⟨rfl, rfl, rfl, by decide +kernel, rfl, by decide +kernel, by decide +kernel⟩
def Inst.miss (M : Inst) (c : Rat) (r : Rat × Rat) : Rat := r.2 - M.x r * c
def sp_misses_by : SpD := fun ds P g => ∃ M nm cn c, ds = [mod M nm cn, .int 0, oneD c] ∧ M.Ok ∧ Sz 100 c ∧ P (.lst (M.rows.map fun r => rat (M.miss c r))) g
theorem oneD_sq (q : Rat) : oneD q = sqD false ([q].map rat) := rfl
theorem dotL1 (x c : Rat) : dotL [x] [c] = x * c := by show 0 + x * c = x * c; rw [Rat.zero_add]
theorem sz1 {n : Nat} {q : Rat} (h : Sz n q) : ∀ x ∈ [q], Sz n x := fun x hx => by rw [List.mem_singleton.mp hx]; exact h
theorem ok_misses_by (F : Fun K "misses_by" "misses_by" s_misses_by f fd) (T : Txt K mg cls) (D_dot_of : DDef P w K mg base cls 3 "dot_of" ["one", "other"] sp_dot_of) (D_features_by : DDef P w K mg base cls 2 "features_by" ["model", "fit"] sp_features_by) (D_lessened : DDef P w K mg base cls 2 "lessened" ["one", "other"] sp_lessened) (D_targets_by : DDef P w K mg base cls 2 "targets_by" ["model", "fit"] sp_targets_by) : DOk P w K mg base cls 5 f fd ["model", "fit", "coefs"] sp_misses_by := by
  refine dfun (k := 4) F sc_misses_by fun pen cells cl cdv A outer s H E hr => ⟨_, (ds_one (s_ret (d_of_f (f_lc rfl sc_misses_by.nd (di_zip T.m_zip (d_callD D_features_by (hr.mono (by decide)) (da_cons (dv 0) (da_cons (dv 1) da_nil))) (d_callD D_targets_by (hr.mono (by decide)) (da_cons (dv 0) (da_cons (dv 1) da_nil)))) (blkOk_by (own := [("x", 3), ("y", 4)]) (N := ["model", "fit", "coefs", "x", "y"]) (sc := defScope s_misses_by) (by decide +kernel)) (by decide) (fun _ _ _ _ _ => (dg_tup (n := 2) rfl (dgs_cons (dg_name (i := 3) sc_misses_by.nd rfl (Or.inl rfl)) (dgs_cons (dg_name (i := 4) sc_misses_by.nd rfl (Or.inl rfl)) dgs_nil)))) (fun _ _ _ _ _ => dts_nil) (fun _ _ _ _ _ => (d_callD D_lessened (hr.mono (by decide)) (da_cons (dv 4) (da_cons (d_callD D_dot_of (hr.mono (by decide)) (da_cons (dv 3) (da_cons (dv 2) da_nil))) da_nil)))))))), fun ds Q g hl h => ?_⟩
  obtain ⟨M, nm, cn, c, rfl, ok, hc, h⟩ := h
  walk_at "dl"
  refine ⟨M, nm, cn, rfl, ok, M, nm, cn, rfl, ok, ?_⟩
  simp only [asL_l]
  rw [pairD_self]
  refine lc_map M.rows _ _ (fun r hr => ?_) h
  walk_at "dl"
  refine ⟨false, false, [M.x r], [c], 8, 100, rfl, sz1 (ok.x r hr), sz1 hc, by decide, by decide, by simp, ?_⟩
  rw [dotL1]
  refine ⟨_, _, rfl, (ok.sr r hr).2.mono (by decide), ((ok.x r hr).mul hc).mono (by decide), rfl, rfl⟩
abbrev s_part_of : Stmt := top 43
theorem sc_part_of : FnScope ["miss", "ratio"] ["miss", "ratio"] (defScope s_part_of) := ⟨rfl, rfl, rfl, by decide +kernel, rfl, by decide +kernel, by decide +kernel⟩
theorem npos (q : Rat) : (0 < q.num) ↔ 0 < q := by rw [Rat.lt_iff]; simp
def part (r q : Rat) : Rat := if 0 < q then q * r else -q * (1 - r)
def sp_part_of : SpD := fun ds P g => ∃ q r : Rat, ds = [rat q, rat r] ∧ Sz 1000 q ∧ Sz 1000 r ∧ P (rat (part r q)) g
theorem ok_part_of (F : Fun K "part_of" "part_of" s_part_of f fd) (T : Txt K mg cls) (D_lessened : DDef P w K mg base cls 2 "lessened" ["one", "other"] sp_lessened) (D_scaled : DDef P w K mg base cls 2 "scaled" ["one", "other"] sp_scaled) (D_turned_sign : DDef P w K mg base cls 1 "turned_sign" ["one"] sp_turned_sign) : DOk P w K mg base cls 3 f fd ["miss", "ratio"] sp_part_of := by
  refine dfun (k := 2) F sc_part_of fun pen cells cl cdv A outer s H E hr => ⟨_, (ds_one (s_ret (d_if (dt_cmp op_oGt (d_ix (dv 0) d_int) d_int (nomark _)) (d_callD D_scaled (hr.mono (by decide)) (da_cons (dv 0) (da_cons (dv 1) da_nil))) (d_callD D_scaled (hr.mono (by decide)) (da_cons (d_callD D_turned_sign (hr.mono (by decide)) (da_cons (dv 0) da_nil)) (da_cons (d_callD D_lessened (hr.mono (by decide)) (da_cons (d_gc T.c_ONE) (da_cons (dv 1) da_nil))) da_nil)))))), fun ds Q g hl h => ?_⟩
  obtain ⟨q, r, rfl, hq, hr', h⟩ := h
  unfold part at h
  walk_at "dl"
  by_cases e : 0 < q
  · rw [if_pos (decide_eq_true ((npos q).mpr e))]
    rw [if_pos e] at h
    exact ⟨_, _, rfl, hq.mono (by decide), hr'.mono (by decide), h⟩
  · rw [if_neg (by simpa using mt (npos q).mp e)]
    rw [if_neg e] at h
    exact ⟨_, rfl, _, _, rfl, Sz.one.mono (by decide), hr'.mono (by decide), _, _, rfl, hq.neg.mono (by decide), (Sz.one.sub hr').mono (by decide), h⟩
abbrev s_greatest_of : Stmt := top 44
theorem sc_greatest_of : FnScope ["row", "out", "item"] ["row"] (defScope s_greatest_of) := ⟨rfl, rfl, rfl, by decide +kernel, rfl, by decide +kernel, by decide +kernel⟩
def grt (xs : List Rat) : Rat := xs.foldl (fun s x => if s < x then x else s) 0
def sp_greatest_of : SpD := fun ds P g => ∃ (b : Bool) (xs : List Rat), ds = [sqD b (xs.map rat)] ∧ (∀ x ∈ xs, Sz 1000 x) ∧ P (rat (grt xs)) g
theorem ok_greatest_of (F : Fun K "greatest_of" "greatest_of" s_greatest_of f fd) (T : Txt K mg cls) (D_below : DDef P w K mg base cls 1 "below" ["one", "other"] sp_below) : DOk P w K mg base cls 2 f fd ["row"] sp_greatest_of := by
  refine dfun (k := 1) F sc_greatest_of fun pen cells cl cdv A outer s H E hr => ⟨_, (ds_cons (s_set (i := 1) sc_greatest_of.nd rfl (Or.inl rfl) (d_gc T.c_NONE))
    (ds_cons (s_for PassesOwn.never rfl (di_seq (dv 0)) (dg_name (i := 2) sc_greatest_of.nd rfl (Or.inl rfl))
    (ds_one (s_set (i := 1) sc_greatest_of.nd rfl (Or.inl rfl) (d_if (dt_val (d_callD D_below (hr.mono (by decide)) (da_cons (dv 1) (da_cons (dv 2) da_nil)))) (dv 2) (dv 1)))))
    (ds_one (s_ret (dv 1))))), fun ds Q g hl h => ?_⟩
  obtain ⟨b, xs, rfl, hx, h⟩ := h
  walk_at "dl"
  refine for_fold xs _ (fun s ρ => ∃ a, ρ = [.d (sqD b (xs.map rat)), .d (rat s), a]) (fun s x => if s < x then x else s) (fun i s => Sz 1000 s) 0 ⟨.u, rfl⟩ (Sz.zero.mono (by decide)) ?_ ?_ ?_
  · intro i x s hp hi hz
    split
    · exact hx x hp
    · exact hz
  · rintro i x s ρ hp hi ⟨a, rfl⟩ hz
    walk_at "dl"
    refine ⟨_, _, rfl, hz.mono (by decide), (hx x hp).mono (by decide), ?_⟩
    simp only [isB_bl, decide_eq_true_eq]
    split
    · exact ⟨rfl, _, rfl⟩
    · exact ⟨rfl, _, rfl⟩
  · rintro ρ ⟨a, rfl⟩ hz
    walk_at "dl"
    exact h
end
end K64

set_option Elab.async false
set_option linter.all false
set_option maxRecDepth 100000
set_option maxHeartbeats 4000000
set_option exponentiation.threshold 20000
namespace K64
open PySem PySem.Spec L2 DL
open PyProof.Rows hiding St
local macro_rules | `(tactic| walk_at "dl") => `(tactic| simp only [rVar0, rVarS, rC, rNil, rCons, rNext, startD, List.map_cons, List.map_nil, List.length_cons, List.length_nil, List.replicate, Nat.reduceAdd, Nat.reduceSub, List.cons_append, List.nil_append, List.append_nil,
  List.getElem?_cons_zero, List.getElem?_cons_succ, List.set_cons_zero, List.set_cons_succ, Option.some.injEq, SV.d.injEq, SV.o.injEq, exists_eq_left', exists_eq_left, and_true, true_and, if_true, if_false, Bool.false_eq_true, Bool.not_true, Bool.not_false, ↓reduceIte,
  isB_bl, isI_int, add_ii, sub_ii, mul_ii, fdiv_ii, mod_ii, cmp_ii, neg_i, len_t, len_l, abs_i, int_i, int_b, str_i, tuple_t, tuple_l, gcd_ii, isB_bb, notB_bb, isN_x, notN_x, asL_l, asL_t, asL_sq, eq_ii, ne_ii, isN_rat, isN_tup, isN_non, isN_int, isi_rt, isi_ri, isi_rs, isi2_r, ex_cons, ex_tup, eq_self_iff_true, rYes, rgName, ix_t0, ix_t1, ix_t2, ix_t3, ix_t4, ix_r0, ix_r1, Bool.or_false, Bool.or_true, Bool.true_or, Bool.false_or,
  isi_i, isi_ib, isi_it, isi_tt, isi_ti, isi_tl, isi_ll, isi_ts, isi_ss, isi_st, isi2_t, isi2_l, isi2_i, sl0, sl1, sl2, sl3, sl4, sl5, sl6, sl7, sl8, sl9, iteG, wipeD, Int.cast_ofNat_Int, Int.reduceBEq, beq_self_eq_true, eq_rr, ne_rr, ne_11, Int.ofNat_one, Int.ofNat_zero])
section
variable {P : Program} {w : World} {K : PySem.W.Frag} {mg : Str → Option Value} {base : Heap} {cls : Nat → Addr} {f : Addr} {fd : FuncData}

abbrev s_copied : Stmt := top 10
theorem sc_copied : FnScope ["value"] ["value"] (defScope s_copied) := ⟨rfl, rfl, rfl, by decide +kernel, rfl, by decide +kernel, by decide +kernel⟩
def sp_copied : SpD := fun ds P g => ∃ xs, ds = [D.tup xs] ∧ P (.tup xs) g
theorem ok_copied (F : Fun K "copied" "copied" s_copied f fd) (T : Txt K mg cls) : DOk P w K mg base cls 1 f fd ["value"] sp_copied := by
  refine dfun (k := 0) F sc_copied fun pen cells cl cdv A outer s H E hr => ⟨_, (ds_one (s_ret (d_if (dt_val (d_isi rfl T.m_isinstance bv_isinstance rfl T.m_list bv_list (dv 0))) (d_callTy cal_tuple rfl T.m_tuple bv_tuple (da_cons (dv 0) da_nil)) (dv 0)))), fun ds Q g hl h => ?_⟩
  obtain ⟨xs, rfl, h⟩ := h
  walk_at "dl"
  exact h
abbrev s_init : Stmt := inClass (top 23) 0
theorem sc_init : FnScope ["self", "tables", "fits", "asks"] ["self", "tables", "fits", "asks"] (defScope s_init) := ⟨rfl, rfl, rfl, by decide +kernel, rfl, by decide +kernel, by decide +kernel⟩
def sp_Model : SpM := fun ds P g => ∃ xs ys zs, ds = [D.tup xs, .tup ys, .tup zs] ∧ P ds g
theorem tf_ : ¬ (("tables" : Str) = "fits") := by decide +kernel
theorem ta_ : ¬ (("tables" : Str) = "asks") := by decide +kernel
theorem fa_ : ¬ (("fits" : Str) = "asks") := by decide +kernel
theorem ok_init (F : Fun K "__init__" "Model.__init__" s_init f fd) (T : Txt K mg cls) (D_copied : DDef P w K mg base cls 1 "copied" ["value"] sp_copied) : FnOk P w K mg base CX0 2 f fd ["self", "tables", "fits", "asks"] (spMk K cls 0 3 ["tables", "fits", "asks"] sp_Model) := by
  refine F.ok sc_init (fun vs H Q E h => ?_) (fun cdv A outer s H vs Q E hr h => ?_)
  · obtain ⟨pen, cells, cl, g, F', ds, P', x, dx, rest, rfl, w', r, l, _⟩ := h
    rw [List.length_cons, r.length, l]; rfl
  · obtain ⟨pen, cells, cl, g, F', ds, P', x, dx, rest, rfl, w', r, l, hx, fx, xp, ⟨xs, ys, zs, rfl, p⟩, q⟩ := h
    cases r with
    | @cons v1 _ _ _ r1 t =>
    cases t with
    | @cons v2 _ _ _ r2 t =>
    cases t with
    | @cons v3 _ _ _ r3 t =>
    cases t
    refine ⟨_, pss_cons (ps_fld (pv 0) (d_callD (W := ⟨cls, pen, cells, cl⟩) D_copied (hr.mono (by decide)) (da_cons (dv 1) da_nil)) rfl) (pss_cons (ps_fld (pv 0) (d_callD (W := ⟨cls, pen, cells, cl⟩) D_copied (hr.mono (by decide)) (da_cons (dv 2) da_nil)) rfl)
      (pss_one (ps_fld (pv 0) (d_callD (W := ⟨cls, pen, cells, cl⟩) D_copied (hr.mono (by decide)) (da_cons (dv 3) da_nil)) rfl))), ?_⟩
    have en : EnvR K ⟨cls, pen, cells, cl⟩ F' H [some (.ref x), some v1, some v2, some v3] [.u, .d (.tup xs), .d (.tup ys), .d (.tup zs)] := by
      refine ⟨rfl, fun i y e => ?_, fun i y e => ?_, fun i j y z a e => ?_⟩
      · rcases i with _ | _ | _ | _ | i
        · cases e
        · cases e; exact ⟨_, rfl, r1⟩
        · cases e; exact ⟨_, rfl, r2⟩
        · cases e; exact ⟨_, rfl, r3⟩
        · cases e
      · rcases i with _ | _ | _ | _ | i <;> cases e
      · rcases i with _ | _ | _ | _ | i <;> cases e
    have no : ∀ (i : Nat) (ws : List D), ([.u, .d (.tup xs), .d (.tup ys), .d (.tup zs)] : List SV)[i]? ≠ some (.o ws) := fun i y e => by
      rcases i with _ | _ | _ | _ | i <;> cases e
    have I0 : MInv K ⟨cls, pen, cells, cl⟩ 0 x dx F' H g F' H [some (.ref x), some v1, some v2, some v3] [.u, .d (.tup xs), .d (.tup ys), .d (.tup zs)] [] := ⟨GrowX.refl w' fx, hx, xp, en, no, rfl⟩
    refine mk_step I0 T.cl T.n_tables (by decide) (P := fun d g' => d = .tup xs ∧ g' = g) ?_ fun a H1 F1 d g1 I1 s1 q1 e1 => ?_
    · exact ⟨_, rfl, rfl, xs, rfl, rfl, rfl⟩
    obtain ⟨rfl, rfl⟩ := e1
    have e2 : ∀ b, putF "fits" b (putF "tables" a []) = [(("tables" : Str), a), (("fits" : Str), b)] := fun b => by
      show putF "fits" b [(("tables" : Str), a)] = _
      unfold putF; rw [if_neg tf_]; rfl
    refine mk_step I1 T.cl T.n_fits (by show 1 < 1000; decide) (P := fun d g' => d = .tup ys ∧ g' = g1) ?_ fun b H2 F2 d g2 I2 s2 q2 e2 => ?_
    · exact ⟨_, rfl, rfl, ys, rfl, rfl, rfl⟩
    obtain ⟨rfl, rfl⟩ := e2
    refine mk_step I2 T.cl T.n_asks ?_ (P := fun d g' => d = .tup zs ∧ g' = g2) ?_ fun c H3 F3 d g3 I3 s3 q3 e3 => ?_
    · rw [e2 b]; show 2 < 1000; decide
    · exact ⟨_, rfl, rfl, zs, rfl, rfl, rfl⟩
    obtain ⟨rfl, rfl⟩ := e3
    have ek : putF "asks" c (putF "fits" b (putF "tables" a [])) = (["tables", "fits", "asks"] : List Str).zip [a, b, c] := by
      rw [e2 b]
      unfold putF; rw [if_neg ta_]
      unfold putF; rw [if_neg fa_]
      rfl
    have h3 := I3.at'
    rw [ek] at h3
    exact q H3 F3 [a, b, c] _ g3 I3.gr h3 rfl (.cons ((q1.mono s2).mono s3) (.cons (q2.mono s3) (.cons q3 .nil))) p
abbrev s_in_tuples : Stmt := top 8
theorem sc_in_tuples : FnScope ["value", "item"] ["value"] (defScope s_in_tuples) := ⟨rfl, rfl, rfl, by decide +kernel, rfl, by decide +kernel, by decide +kernel⟩
def inT : Nat → D → Prop
  | 0, d => ∃ i, d = .int i
  | n + 1, d => (∃ i, d = .int i) ∨ ∃ xs, d = .tup xs ∧ ∀ x ∈ xs, inT n x
def inI : Nat → D → Prop
  | 0, _ => False
  | n + 1, d => inT n d
def sp_in_t (n : Nat) : SpD := fun ds P g => ∃ d, ds = [d] ∧ inT n d ∧ P d g
theorem ok_in_t (F : Fun K "in_tuples" "in_tuples" s_in_tuples f fd) (T : Txt K mg cls) {m : Nat} (n : Nat) {sp' : SpD} (D_in_tuples : DDef P w K mg base cls m "in_tuples" ["value"] sp') (hs : ∀ x P g, inI n x → P x g → sp' [x] P g) : DOk P w K mg base cls (m + 1) f fd ["value"] (sp_in_t n) := by
  refine dfun (k := m) F sc_in_tuples fun pen cells cl cdv A outer s H E hr => ⟨_, (ds_cons (s_if (dt_not (dt_val (d_isi2 rfl T.m_isinstance bv_isinstance rfl T.m_tuple bv_tuple rfl T.m_list bv_list (dv 0)))) (ds_one (s_ret (dv 0))) ds_nil)
    (ds_one (s_ret (d_callTy cal_tuple rfl T.m_tuple bv_tuple (da_cons (d_of_f (f_lc rfl sc_in_tuples.nd (di_seq (dv 0)) (blkOk_by (own := [("item", 1)]) (N := ["value", "item"]) (sc := defScope s_in_tuples) (by decide +kernel)) (by decide) (fun _ _ _ _ _ => (dg_name (i := 1) sc_in_tuples.nd rfl (Or.inl rfl))) (fun _ _ _ _ _ => dts_nil) (fun _ _ _ _ _ => (d_callD D_in_tuples (hr.mono (by first | decide | exact Nat.le_refl _)) (da_cons (dv 1) da_nil))))) da_nil))))), fun ds Q g hl h => ?_⟩
  obtain ⟨d, rfl, hd, h⟩ := h
  have h1 : (∃ i, d = .int i) ∨ ∃ xs, d = .tup xs ∧ ∀ x ∈ xs, inI n x := by
    cases n with
    | zero => exact .inl hd
    | succ n => exact hd
  rcases h1 with ⟨i, rfl⟩ | ⟨xs, rfl, hx⟩
  · walk_at "dl"
    exact h
  · walk_at "dl"
    have e : xs = xs.map id := by simp
    rw [e] at h ⊢
    refine lc_map xs id id (fun x hx' => ?_) h
    walk_at "dl"
    exact hs _ _ _ (hx x hx') ⟨rfl, rfl⟩
theorem dd_false {k : Nat} {x : Str} {ps : List Str} (hm : mg x = some (.ref f)) (hk : PySem.W.keepIn K (.ref f) = true) (hb : Binds K fd ps []) : DDef P w K mg base cls k x ps (fun _ _ _ => False) :=
  ⟨f, fd, ⟨fun vs H Q E h => by obtain ⟨_, _, _, _, _, _, _, _, _, _, z, _⟩ := h; exact z.elim, fun _ _ _ _ _ _ _ _ _ _ _ _ _ h => by obtain ⟨_, _, _, _, _, _, _, _, _, _, z, _⟩ := h; exact z.elim⟩, hm, hk, hb⟩
def sp_in_tuples : SpD := sp_in_t 2
theorem ok_in_tuples (F : Fun K "in_tuples" "in_tuples" s_in_tuples f fd) (T : Txt K mg cls) (hm : mg "in_tuples" = some (.ref f)) (hk : PySem.W.keepIn K (.ref f) = true) (hb : Binds K fd ["value"] []) : DOk P w K mg base cls 4 f fd ["value"] sp_in_tuples := by
  have d0 : DOk P w K mg base cls 1 f fd ["value"] (sp_in_t 0) := ok_in_t F T 0 (dd_false (k := 0) hm hk hb) fun _ _ _ z => z.elim
  have d1 : DOk P w K mg base cls 2 f fd ["value"] (sp_in_t 1) := ok_in_t F T 1 ⟨f, fd, d0, hm, hk, hb⟩ fun x P g z p => ⟨x, rfl, z, p⟩
  have d2 : DOk P w K mg base cls 3 f fd ["value"] (sp_in_t 2) := ok_in_t F T 2 ⟨f, fd, d1, hm, hk, hb⟩ fun x P g z p => ⟨x, rfl, z, p⟩
  exact d2.mono (by decide)
theorem inT_rat (q : Rat) : inT 1 (rat q) := .inr ⟨_, rfl, fun x hx => by
  rcases List.mem_cons.mp hx with rfl | hx
  · exact ⟨_, rfl⟩
  · rw [List.mem_singleton.mp hx]; exact ⟨_, rfl⟩⟩
theorem inT_row (qs : List Rat) : inT 2 (.tup (qs.map rat)) := .inr ⟨_, rfl, fun x hx => by
  obtain ⟨q, _, rfl⟩ := List.mem_map.mp hx
  exact inT_rat q⟩
abbrev s_need_model : Stmt := top 25
theorem sc_need_model : FnScope ["model"] ["model"] (defScope s_need_model) := ⟨rfl, rfl, rfl, by decide +kernel, rfl, by decide +kernel, by decide +kernel⟩
def sp_need_model : SpD := fun ds P g => ∃ M nm cn, ds = [mod M nm cn] ∧ P .non g
theorem isC_mod {no : List String} {M : Inst} {nm cn : D} {P : D → GP} : oIsC 0 no (mod M nm cn) P = P (.bl true) := by
  funext g; show (0 = 0 ∧ P (.bl true) g) = _; simp
theorem ok_need_model (F : Fun K "need_model" "need_model" s_need_model f fd) (T : Txt K mg cls) : DOk P w K mg base cls 1 f fd ["model"] sp_need_model := by
  refine dfun (k := 0) F sc_need_model fun pen cells cl cdv A outer s H E hr => ⟨_, (ds_one (s_if (dt_not (dt_val (d_isC (c := 0) T.oc T.no rfl T.m_isinstance bv_isinstance rfl T.g_Model (dv 0)))) (ds_one s_never) ds_nil)), fun ds Q g hl h => ?_⟩
  obtain ⟨M, nm, cn, rfl, h⟩ := h
  walk_at "dl"
  simp only [isC_mod]
  walk_at "dl"
  exact h
abbrev s_need_number : Stmt := top 48
theorem sc_need_number : FnScope ["what", "number", "many"] ["what", "number", "many"] (defScope s_need_number) := ⟨rfl, rfl, rfl, by decide +kernel, rfl, by decide +kernel, by decide +kernel⟩
def sp_need_number : SpD := fun ds P g => ∃ a, ds = [a, .int 0, .int 1] ∧ P .non g
theorem ok_need_number (F : Fun K "need_number" "need_number" s_need_number f fd) (T : Txt K mg cls) (D_is_whole : DDef P w K mg base cls 1 "is_whole" ["value"] sp_is_whole) : DOk P w K mg base cls 2 f fd ["what", "number", "many"] sp_need_number := by
  refine dfun (k := 1) F sc_need_number fun pen cells cl cdv A outer s H E hr => ⟨_, (ds_one (s_if (dt_w (dw_or (dt_not (dt_val (d_callD D_is_whole (hr.mono (by decide)) (da_cons (dv 1) da_nil)))) (dw_or1 (dt_not (dt_chain op_oLe op_oLt d_int (dv 1) (dv 2)))))) (ds_one s_never) ds_nil)), fun ds Q g hl h => ?_⟩
  obtain ⟨a, rfl, h⟩ := h
  walk_at "dl"
  refine .inl ⟨_, rfl, ?_⟩
  walk_at "dl"
  exact h
abbrev s_need_fit : Stmt := top 49
theorem sc_need_fit : FnScope ["model", "fit"] ["model", "fit"] (defScope s_need_fit) := ⟨rfl, rfl, rfl, by decide +kernel, rfl, by decide +kernel, by decide +kernel⟩
def sp_need_fit : SpD := fun ds P g => ∃ M nm cn, ds = [mod M nm cn, .int 0] ∧ P .non g
theorem ok_need_fit (F : Fun K "need_fit" "need_fit" s_need_fit f fd) (T : Txt K mg cls) (D_need_model : DDef P w K mg base cls 1 "need_model" ["model"] sp_need_model) (D_need_number : DDef P w K mg base cls 2 "need_number" ["what", "number", "many"] sp_need_number) : DOk P w K mg base cls 3 f fd ["model", "fit"] sp_need_fit := by
  refine dfun (k := 2) F sc_need_fit fun pen cells cl cdv A outer s H E hr => ⟨_, (ds_cons (s_expr (d_callD D_need_model (hr.mono (by decide)) (da_cons (dv 0) da_nil)))
    (ds_one (s_expr (d_callD D_need_number (hr.mono (by decide)) (da_cons d_str (da_cons (dv 1) (da_cons (d_callB cal_len rfl T.m_len bv_len (da_cons (d_fld (c := 0) T.cl T.n_fits (dv 0)) da_nil)) da_nil))))))), fun ds Q g hl h => ?_⟩
  obtain ⟨M, nm, cn, rfl, h⟩ := h
  walk_at "dl"
  refine ⟨M, nm, cn, rfl, ?_⟩
  simp only [fld_fits]
  walk_at "dl"
  exact ⟨_, rfl, h⟩
abbrev s_row_from : Stmt := top 50
theorem sc_row_from : FnScope ["row", "many", "made", "item"] ["row", "many"] (defScope s_row_from) := ⟨rfl, rfl, rfl, by decide +kernel, rfl, by decide +kernel, by decide +kernel⟩
def sp_row_from : SpD := fun ds P g => ∃ (qs : List Rat) (n : Int), ds = [.tup (qs.map rat), .int n] ∧ (qs.length : Int) = n ∧ (∀ q ∈ qs, Sz 4000 q) ∧ P (.tup (qs.map rat)) g
theorem bls_true {α : Type} : ∀ as : List α, D.bls (as.map fun _ => D.bl true) = some (as.map fun _ => true)
  | [] => rfl
  | a :: as => by
    show (D.bls (as.map fun _ => D.bl true)).map (true :: ·) = _
    rw [bls_true as]; rfl
theorem all_true {α : Type} (as : List α) : (as.map fun _ => true).all id = true := by simp
theorem ok_row_from (F : Fun K "row_from" "row_from" s_row_from f fd) (T : Txt K mg cls) (D_in_tuples : DDef P w K mg base cls 4 "in_tuples" ["value"] sp_in_tuples) (D_is_ratio : DDef P w K mg base cls 3 "is_ratio" ["value"] sp_is_ratio) (D_is_tuple_of : DDef P w K mg base cls 1 "is_tuple_of" ["value", "many"] sp_is_tuple_of) (D_told : DDef P w K mg base cls 3 "told" ["ratio"] sp_told) : DOk P w K mg base cls 5 f fd ["row", "many"] sp_row_from := by
  refine dfun (k := 4) F sc_row_from fun pen cells cl cdv A outer s H E hr => ⟨_, (ds_cons (s_set (i := 2) sc_row_from.nd rfl (Or.inl rfl) (d_callD D_in_tuples (hr.mono (by decide)) (da_cons (dv 0) da_nil)))
    (ds_cons (s_if (dt_w (dw_or (dt_not (dt_val (d_callD D_is_tuple_of (hr.mono (by decide)) (da_cons (dv 2) (da_cons (dv 1) da_nil))))) (dw_or1 (dt_not (dt_val (d_callB (cal_all rfl) rfl T.m_all bv_all (da_cons (d_of_f (f_lc rfl sc_row_from.nd (di_seq (dv 2)) (blkOk_by (own := [("item", 3)]) (N := ["row", "many", "made", "item"]) (sc := defScope s_row_from) (by decide +kernel)) (by decide) (fun _ _ _ _ _ => (dg_name (i := 3) sc_row_from.nd rfl (Or.inl rfl))) (fun _ _ _ _ _ => dts_nil) (fun _ _ _ _ _ => (d_callD D_is_ratio (hr.mono (by decide)) (da_cons (dv 3) da_nil))))) da_nil))))))) (ds_one s_never) ds_nil)
    (ds_one (s_ret (d_callTy cal_tuple rfl T.m_tuple bv_tuple (da_cons (d_of_f (f_lc rfl sc_row_from.nd (di_seq (dv 2)) (blkOk_by (own := [("item", 3)]) (N := ["row", "many", "made", "item"]) (sc := defScope s_row_from) (by decide +kernel)) (by decide) (fun _ _ _ _ _ => (dg_name (i := 3) sc_row_from.nd rfl (Or.inl rfl))) (fun _ _ _ _ _ => dts_nil) (fun _ _ _ _ _ => (d_callD D_told (hr.mono (by decide)) (da_cons (dv 3) da_nil))))) da_nil)))))), fun ds Q g hl h => ?_⟩
  obtain ⟨qs, n, rfl, hn, hq, h⟩ := h
  walk_at "dl"
  refine ⟨_, rfl, inT_row qs, ?_⟩
  walk_at "dl"
  refine ⟨_, _, rfl, ?_⟩
  rw [List.length_map]
  have e : ((qs.length : Int) == n) = true := by simpa using hn
  rw [e]
  walk_at "dl"
  refine lc_map qs rat (fun _ => D.bl true) (fun q hq' => ?_) ?_
  · walk_at "dl"
    exact ⟨q, rfl, rfl, rfl⟩
  · refine ⟨_, _, rfl, bls_true qs, ?_⟩
    rw [all_true]
    walk_at "dl"
    refine lc_map qs rat rat (fun q hq' => ?_) h
    walk_at "dl"
    exact ⟨q, rfl, hq q hq', rfl, rfl⟩
end
end K64

set_option Elab.async false
set_option linter.all false
set_option maxRecDepth 100000
set_option maxHeartbeats 4000000
set_option exponentiation.threshold 20000
namespace K64
open PySem PySem.Spec L2 DL
open PyProof.Rows hiding St
local macro_rules | `(tactic| walk_at "dl") => `(tactic| simp only [rVar0, rVarS, rC, rNil, rCons, rNext, startD, List.map_cons, List.map_nil, List.length_cons, List.length_nil, List.replicate, Nat.reduceAdd, Nat.reduceSub, List.cons_append, List.nil_append, List.append_nil,
  List.getElem?_cons_zero, List.getElem?_cons_succ, List.set_cons_zero, List.set_cons_succ, Option.some.injEq, SV.d.injEq, SV.o.injEq, exists_eq_left', exists_eq_left, and_true, true_and, if_true, if_false, Bool.false_eq_true, Bool.not_true, Bool.not_false, ↓reduceIte,
  isB_bl, isI_int, add_ii, sub_ii, mul_ii, fdiv_ii, mod_ii, cmp_ii, neg_i, len_t, len_l, abs_i, int_i, int_b, str_i, tuple_t, tuple_l, gcd_ii, isB_bb, notB_bb, isN_x, notN_x, asL_l, asL_t, asL_sq, eq_ii, ne_ii, isN_rat, isN_tup, isN_non, isN_int, isi_rt, isi_ri, isi_rs, isi2_r, ex_cons, ex_tup, eq_self_iff_true, rYes, rgName, ix_t0, ix_t1, ix_t2, ix_t3, ix_t4, ix_r0, ix_r1, Bool.or_false, Bool.or_true, Bool.true_or, Bool.false_or,
  isi_i, isi_ib, isi_it, isi_tt, isi_ti, isi_tl, isi_ll, isi_ts, isi_ss, isi_st, isi2_t, isi2_l, isi2_i, sl0, sl1, sl2, sl3, sl4, sl5, sl6, sl7, sl8, sl9, iteG, wipeD, Int.cast_ofNat_Int, Int.reduceBEq, beq_self_eq_true, eq_rr, ne_rr, ne_11, Int.ofNat_one, Int.ofNat_zero])
section
variable {P : Program} {w : World} {K : PySem.W.Frag} {mg : Str → Option Value} {base : Heap} {cls : Nat → Addr} {f : Addr} {fd : FuncData}

inductive Wo where
  | sums | greatest | squares | part (r : Rat)
def Wo.d : Wo → D
  | .sums => .str "sums"
  | .greatest => .str "greatest"
  | .squares => .str "squares"
  | .part r => rat r
def Wo.Ok : Wo → Prop
  | .part r => Sz 8 r ∧ 0 < r ∧ r < 1
  | _ => True
def Inst.meas (M : Inst) (w : Wo) (c : Rat) : Rat := match w with
  | .squares => dotL M.ws (M.rows.map fun r => M.miss c r * M.miss c r)
  | .sums => dotL M.ws (M.rows.map fun r => (M.miss c r).abs)
  | .greatest => grt (M.rows.map fun r => (M.miss c r).abs)
  | .part q => dotL M.ws (M.rows.map fun r => part q (M.miss c r))
theorem sh_sums : SeqAt.shaped (.str "sums") = true := by decide +kernel
theorem sh_greatest : SeqAt.shaped (.str "greatest") = true := by decide +kernel
theorem sh_squares : SeqAt.shaped (.str "squares") = true := by decide +kernel
theorem ww1 {P : D → GP} : oEq (.str "sums") (.str "greatest") P = P (.bl false) := by rw [eq_ss sh_sums sh_greatest]; rfl
theorem ww2 {P : D → GP} : oEq (.str "sums") (.str "squares") P = P (.bl false) := by rw [eq_ss sh_sums sh_squares]; rfl
theorem ww3 {P : D → GP} : oEq (.str "sums") (.str "sums") P = P (.bl true) := by rw [eq_ss sh_sums sh_sums]; rfl
theorem ww4 {P : D → GP} : oEq (.str "greatest") (.str "greatest") P = P (.bl true) := by rw [eq_ss sh_greatest sh_greatest]; rfl
theorem ww5 {P : D → GP} : oEq (.str "squares") (.str "greatest") P = P (.bl false) := by rw [eq_ss sh_squares sh_greatest]; rfl
theorem ww6 {P : D → GP} : oEq (.str "squares") (.str "squares") P = P (.bl true) := by rw [eq_ss sh_squares sh_squares]; rfl
theorem ww7 {q : Rat} {P : D → GP} : oEq (rat q) (.str "greatest") P = P (.bl false) := eq_rs sh_greatest
theorem ww8 {q : Rat} {P : D → GP} : oEq (rat q) (.str "squares") P = P (.bl false) := eq_rs sh_squares
theorem ww9 {q : Rat} {P : D → GP} : oEq (rat q) (.str "sums") P = P (.bl false) := eq_rs sh_sums
theorem wwa {P : D → GP} : oEq (.str "greatest") (.str "sums") P = P (.bl false) := by rw [eq_ss sh_greatest sh_sums]; rfl
theorem miss_sz {M : Inst} {c : Rat} (ok : M.Ok) (hc : Sz 100 c) {r : Rat × Rat} (hr : r ∈ M.rows) : Sz 117 (M.miss c r) := (ok.sr r hr).2.sub ((ok.x r hr).mul hc)
theorem part_sz {n m : Nat} {q r : Rat} (hq : Sz n q) (hr : Sz m r) : Sz (n + m + 2) (part r q) := by
  unfold part; split
  · exact (hq.mul hr).mono (by omega)
  · exact (hq.neg.mul (Sz.one.sub hr)).mono (by omega)
theorem all_map {α β : Type} {f : α → β} {p : β → Prop} {as : List α} (h : ∀ a ∈ as, p (f a)) : ∀ b ∈ as.map f, p b := fun b hb => by
  obtain ⟨a, ha, rfl⟩ := List.mem_map.mp hb
  exact h a ha
abbrev s_measure_by : Stmt := top 45
theorem sc_measure_by : FnScope ["model", "word", "fit", "coefs", "misses", "weights", "miss"] ["model", "word", "fit", "coefs"] (defScope s_measure_by) := ⟨rfl, rfl, rfl, by decide +kernel, rfl, by decide +kernel, by decide +kernel⟩
def sp_measure_by : SpD := fun ds P g => ∃ M nm cn w c, ds = [mod M nm cn, Wo.d w, .int 0, oneD c] ∧ M.Ok ∧ w.Ok ∧ Sz 100 c ∧ P (rat (M.meas w c)) g
theorem sq_t (ws : List Rat) : D.tup (ws.map rat) = sqD false (ws.map rat) := rfl
theorem sq_l (ws : List Rat) : D.lst (ws.map rat) = sqD true (ws.map rat) := rfl
theorem dot_ok {ws : List Rat} (h : ws.length ≤ 6) (n m : Nat) (hnm : n + m ≤ 600) : 1 + ws.length * (n + m + 1) ≤ 4000 := by
  have := Nat.mul_le_mul h (show n + m + 1 ≤ 601 by omega)
  omega
theorem ok_measure_by (F : Fun K "measure_by" "measure_by" s_measure_by f fd) (T : Txt K mg cls) (D_dot_of : DDef P w K mg base cls 3 "dot_of" ["one", "other"] sp_dot_of) (D_greatest_of : DDef P w K mg base cls 2 "greatest_of" ["row"] sp_greatest_of) (D_misses_by : DDef P w K mg base cls 5 "misses_by" ["model", "fit", "coefs"] sp_misses_by) (D_part_of : DDef P w K mg base cls 3 "part_of" ["miss", "ratio"] sp_part_of) (D_scaled : DDef P w K mg base cls 2 "scaled" ["one", "other"] sp_scaled) (D_size_of : DDef P w K mg base cls 1 "size_of" ["ratio"] sp_size_of) (D_weights_by : DDef P w K mg base cls 2 "weights_by" ["model", "fit"] sp_weights_by) : DOk P w K mg base cls 6 f fd ["model", "word", "fit", "coefs"] sp_measure_by := by
  refine dfun (k := 5) F sc_measure_by fun pen cells cl cdv A outer s H E hr => ⟨_, (ds_cons (s_par_dd (i := 4) (j := 5) rfl sc_measure_by.nd rfl rfl (by decide) rfl rfl (d_callD D_misses_by (hr.mono (by decide)) (da_cons (dv 0) (da_cons (dv 2) (da_cons (dv 3) da_nil)))) (d_callD D_weights_by (hr.mono (by decide)) (da_cons (dv 0) (da_cons (dv 2) da_nil))) (by rfl))
    (ds_cons (s_if (dt_cmp (op_oEq hr.units) (dv 1) d_str (nomark _)) (ds_one (s_ret (d_callD D_greatest_of (hr.mono (by decide)) (da_cons (d_of_f (f_lc rfl sc_measure_by.nd (di_seq (dv 4)) (blkOk_by (own := [("miss", 6)]) (N := ["model", "word", "fit", "coefs", "misses", "weights", "miss"]) (sc := defScope s_measure_by) (by decide +kernel)) (by decide) (fun _ _ _ _ _ => (dg_name (i := 6) sc_measure_by.nd rfl (Or.inl rfl))) (fun _ _ _ _ _ => dts_nil) (fun _ _ _ _ _ => (d_callD D_size_of (hr.mono (by decide)) (da_cons (dv 6) da_nil))))) da_nil)))) ds_nil)
    (ds_cons (s_if (dt_cmp (op_oEq hr.units) (dv 1) d_str (nomark _)) (ds_one (s_ret (d_callD D_dot_of (hr.mono (by decide)) (da_cons (dv 5) (da_cons (d_of_f (f_lc rfl sc_measure_by.nd (di_seq (dv 4)) (blkOk_by (own := [("miss", 6)]) (N := ["model", "word", "fit", "coefs", "misses", "weights", "miss"]) (sc := defScope s_measure_by) (by decide +kernel)) (by decide) (fun _ _ _ _ _ => (dg_name (i := 6) sc_measure_by.nd rfl (Or.inl rfl))) (fun _ _ _ _ _ => dts_nil) (fun _ _ _ _ _ => (d_callD D_scaled (hr.mono (by decide)) (da_cons (dv 6) (da_cons (dv 6) da_nil)))))) da_nil))))) ds_nil)
    (ds_cons (s_if (dt_cmp (op_oEq hr.units) (dv 1) d_str (nomark _)) (ds_one (s_ret (d_callD D_dot_of (hr.mono (by decide)) (da_cons (dv 5) (da_cons (d_of_f (f_lc rfl sc_measure_by.nd (di_seq (dv 4)) (blkOk_by (own := [("miss", 6)]) (N := ["model", "word", "fit", "coefs", "misses", "weights", "miss"]) (sc := defScope s_measure_by) (by decide +kernel)) (by decide) (fun _ _ _ _ _ => (dg_name (i := 6) sc_measure_by.nd rfl (Or.inl rfl))) (fun _ _ _ _ _ => dts_nil) (fun _ _ _ _ _ => (d_callD D_size_of (hr.mono (by decide)) (da_cons (dv 6) da_nil))))) da_nil))))) ds_nil)
    (ds_one (s_ret (d_callD D_dot_of (hr.mono (by decide)) (da_cons (dv 5) (da_cons (d_of_f (f_lc rfl sc_measure_by.nd (di_seq (dv 4)) (blkOk_by (own := [("miss", 6)]) (N := ["model", "word", "fit", "coefs", "misses", "weights", "miss"]) (sc := defScope s_measure_by) (by decide +kernel)) (by decide) (fun _ _ _ _ _ => (dg_name (i := 6) sc_measure_by.nd rfl (Or.inl rfl))) (fun _ _ _ _ _ => dts_nil) (fun _ _ _ _ _ => (d_callD D_part_of (hr.mono (by decide)) (da_cons (dv 6) (da_cons (dv 1) da_nil)))))) da_nil))))))))), fun ds Q g hl h => ?_⟩
  obtain ⟨M, nm, cn, w, c, rfl, ok, wok, hc, h⟩ := h
  walk_at "dl"
  refine ⟨M, nm, cn, c, rfl, ok, hc, M, nm, cn, rfl, ?_⟩
  have hw : M.ws.length ≤ 6 := by rw [ok.wl]; exact ok.len
  have lm : ∀ f : Rat → Rat, M.rows.map (fun r => rat (f (M.miss c r))) = (M.rows.map fun r => f (M.miss c r)).map rat := fun f => by simp
  have go : ∀ (f : Rat → Rat) (n : Nat), n ≤ 500 → (∀ r ∈ M.rows, Sz n (f (M.miss c r))) → Q (rat (dotL M.ws (M.rows.map fun r => f (M.miss c r)))) g → sp_dot_of [.tup (M.ws.map rat), .lst (M.rows.map fun r => rat (f (M.miss c r)))] Q g := fun f n hn hf hQ => by
    rw [lm]
    exact ⟨false, true, M.ws, _, 8, n, rfl, ok.sw, all_map hf, by decide, by omega, dot_ok hw _ _ (by omega), hQ⟩
  cases w with
  | sums =>
    simp only [Wo.d, ww1, ww2, ww3]
    walk_at "dl"
    refine lc_map M.rows _ (fun r => rat (M.miss c r).abs) (fun r hr => ?_) (go Rat.abs 117 (by decide) (fun r hr => (miss_sz ok hc hr).abs) h)
    walk_at "dl"
    exact ⟨_, rfl, rfl, rfl⟩
  | greatest =>
    simp only [Wo.d, ww4]
    walk_at "dl"
    refine lc_map M.rows _ (fun r => rat (M.miss c r).abs) (fun r hr => ?_) ?_
    · walk_at "dl"
      exact ⟨_, rfl, rfl, rfl⟩
    · rw [lm Rat.abs]
      exact ⟨true, _, rfl, all_map fun r hr => (miss_sz ok hc hr).abs.mono (by decide), h⟩
  | squares =>
    simp only [Wo.d, ww5, ww6]
    walk_at "dl"
    refine lc_map M.rows _ (fun r => rat (M.miss c r * M.miss c r)) (fun r hr => ?_) (go (fun x => x * x) 234 (by decide) (fun r hr => (miss_sz ok hc hr).mul (miss_sz ok hc hr)) h)
    walk_at "dl"
    exact ⟨_, _, rfl, (miss_sz ok hc hr).mono (by decide), (miss_sz ok hc hr).mono (by decide), rfl, rfl⟩
  | part q =>
    simp only [Wo.d, ww7, ww8, ww9]
    walk_at "dl"
    refine lc_map M.rows _ (fun r => rat (K64.part q (M.miss c r))) (fun r hr => ?_) (go (K64.part q) 127 (by decide) (fun r hr => part_sz (miss_sz ok hc hr) wok.1) h)
    walk_at "dl"
    exact ⟨_, _, rfl, (miss_sz ok hc hr).mono (by decide), wok.1.mono (by decide), rfl, rfl⟩
abbrev s_evens_by : Stmt := top 46
theorem sc_evens_by : FnScope ["model", "fit", "signs"] ["model", "fit", "signs"] (defScope s_evens_by) := ⟨rfl, rfl, rfl, by decide +kernel, rfl, by decide +kernel, by decide +kernel⟩
def sp_evens_by : SpD := fun ds P g => ∃ (M : Inst) (nm cn : D) (ss : List Rat), ds = [mod M nm cn, .int 0, .tup (ss.map rat)] ∧ M.Ok ∧ (∀ s ∈ ss, Sz 300 s) ∧ P (oneD (dotL (M.rows.map M.x) ss)) g
theorem ok_evens_by (F : Fun K "evens_by" "evens_by" s_evens_by f fd) (T : Txt K mg cls) (D_features_by : DDef P w K mg base cls 2 "features_by" ["model", "fit"] sp_features_by) (D_mixed_rows : DDef P w K mg base cls 3 "mixed_rows" ["rows", "shares", "wide"] sp_mixed_rows) (D_wide_of : DDef P w K mg base cls 1 "wide_of" ["model", "fit"] sp_wide_of) : DOk P w K mg base cls 4 f fd ["model", "fit", "signs"] sp_evens_by := by
  refine dfun (k := 3) F sc_evens_by fun pen cells cl cdv A outer s H E hr => ⟨_, (ds_one (s_ret (d_callD D_mixed_rows (hr.mono (by decide)) (da_cons (d_callD D_features_by (hr.mono (by decide)) (da_cons (dv 0) (da_cons (dv 1) da_nil))) (da_cons (dv 2) (da_cons (d_callD D_wide_of (hr.mono (by decide)) (da_cons (dv 0) (da_cons (dv 1) da_nil))) da_nil)))))), fun ds Q g hl h => ?_⟩
  obtain ⟨M, nm, cn, ss, rfl, ok, hs, h⟩ := h
  walk_at "dl"
  refine ⟨M, nm, cn, rfl, ok, M, nm, cn, rfl, ?_⟩
  have e : (M.rows.map fun r => oneD (M.x r)) = (M.rows.map M.x).map oneD := by simp
  rw [e]
  exact ⟨true, false, _, ss, 8, 300, rfl, all_map ok.x, hs, by decide, by decide, dot_ok (by simpa using ok.len) _ _ (by decide), h⟩
abbrev s_pulled_by : Stmt := top 47
theorem sc_pulled_by : FnScope ["model", "fit", "pulls", "limits", "rows", "row", "number"] ["model", "fit", "pulls"] (defScope s_pulled_by) := ⟨rfl, rfl, rfl, by decide +kernel, rfl, by decide +kernel, by decide +kernel⟩
def sp_pulled_by : SpD := fun ds P g => ∃ (M : Inst) (nm cn : D) (a b : Rat), ds = [mod M nm cn, .int 0, .tup [rat a, rat b]] ∧ M.Ok ∧ Sz 500 a ∧ Sz 500 b ∧ P (.tup [oneD (b - a), rat (b * M.hi - a * M.lo)]) g
theorem ok_pulled_by (F : Fun K "pulled_by" "pulled_by" s_pulled_by f fd) (T : Txt K mg cls) (D_dot_of : DDef P w K mg base cls 3 "dot_of" ["one", "other"] sp_dot_of) (D_limits_by : DDef P w K mg base cls 4 "limits_by" ["model", "fit"] sp_limits_by) (D_mixed_rows : DDef P w K mg base cls 3 "mixed_rows" ["rows", "shares", "wide"] sp_mixed_rows) (D_wide_of : DDef P w K mg base cls 1 "wide_of" ["model", "fit"] sp_wide_of) : DOk P w K mg base cls 5 f fd ["model", "fit", "pulls"] sp_pulled_by := by
  refine dfun (k := 4) F sc_pulled_by fun pen cells cl cdv A outer s H E hr => ⟨_, (ds_cons (s_set (i := 3) sc_pulled_by.nd rfl (Or.inl rfl) (d_callD D_limits_by (hr.mono (by decide)) (da_cons (dv 0) (da_cons (dv 1) da_nil))))
    (ds_cons (s_set (i := 4) sc_pulled_by.nd rfl (Or.inl rfl) (d_callD D_mixed_rows (hr.mono (by decide)) (da_cons (d_of_f (f_lc rfl sc_pulled_by.nd (di_seq (dv 3)) (blkOk_by (own := [("row", 5), ("number", 6)]) (N := ["model", "fit", "pulls", "limits", "rows", "row", "number"]) (sc := defScope s_pulled_by) (by decide +kernel)) (by decide) (fun _ _ _ _ _ => (dg_tup (n := 2) rfl (dgs_cons (dg_name (i := 5) sc_pulled_by.nd rfl (Or.inl rfl)) (dgs_cons (dg_name (i := 6) sc_pulled_by.nd rfl (Or.inl rfl)) dgs_nil)))) (fun _ _ _ _ _ => dts_nil) (fun _ _ _ _ _ => (dv 5)))) (da_cons (dv 2) (da_cons (d_callD D_wide_of (hr.mono (by decide)) (da_cons (dv 0) (da_cons (dv 1) da_nil))) da_nil)))))
    (ds_one (s_ret (d_tup (da_cons (dv 4) (da_cons (d_callD D_dot_of (hr.mono (by decide)) (da_cons (dv 2) (da_cons (d_of_f (f_lc rfl sc_pulled_by.nd (di_seq (dv 3)) (blkOk_by (own := [("row", 5), ("number", 6)]) (N := ["model", "fit", "pulls", "limits", "rows", "row", "number"]) (sc := defScope s_pulled_by) (by decide +kernel)) (by decide) (fun _ _ _ _ _ => (dg_tup (n := 2) rfl (dgs_cons (dg_name (i := 5) sc_pulled_by.nd rfl (Or.inl rfl)) (dgs_cons (dg_name (i := 6) sc_pulled_by.nd rfl (Or.inl rfl)) dgs_nil)))) (fun _ _ _ _ _ => dts_nil) (fun _ _ _ _ _ => (dv 6)))) da_nil))) da_nil))))))), fun ds Q g hl h => ?_⟩
  obtain ⟨M, nm, cn, a, b, rfl, ok, ha, hb, h⟩ := h
  walk_at "dl"
  refine ⟨M, nm, cn, rfl, ?_⟩
  walk_at "dl"
  have hab : ∀ s ∈ [a, b], Sz 500 s := fun s hs => by
    rcases List.mem_cons.mp hs with rfl | hs
    · exact ha
    · rw [List.mem_singleton.mp hs]; exact hb
  refine lc_map [((-1 : Rat), -M.lo), (1, M.hi)] (fun p => D.tup [oneD p.1, rat p.2]) (fun p => oneD p.1) (fun r hr => ?_) ?_
  · walk_at "dl"
  walk_at "dl"
  refine ⟨M, nm, cn, rfl, ?_⟩
  refine ⟨true, false, [-1, 1], [a, b], 1, 500, rfl, ?_, hab, by decide, by decide, by decide, ?_⟩
  · intro x hx
    rcases List.mem_cons.mp hx with rfl | hx
    · exact Sz.one.neg
    · rw [List.mem_singleton.mp hx]; exact Sz.one
  walk_at "dl"
  refine lc_map [((-1 : Rat), -M.lo), (1, M.hi)] (fun p => D.tup [oneD p.1, rat p.2]) (fun p => rat p.2) (fun r hr => ?_) ?_
  · walk_at "dl"
  refine ⟨false, true, [a, b], [-M.lo, M.hi], 500, 8, rfl, hab, ?_, by decide, by decide, by show 1 + 2 * (500 + 8 + 1) ≤ 4000; decide, ?_⟩
  · intro x hx
    rcases List.mem_cons.mp hx with rfl | hx
    · exact ok.lo.neg
    · rw [List.mem_singleton.mp hx]; exact ok.hi
  have e1 : dotL [-1, 1] [a, b] = b - a := by show 0 + -1 * a + 1 * b = b - a; grind
  have e2 : dotL [a, b] [-M.lo, M.hi] = b * M.hi - a * M.lo := by show 0 + a * -M.lo + b * M.hi = b * M.hi - a * M.lo; grind
  rw [e1, e2]
  exact h
abbrev s_word_from : Stmt := top 51
theorem sc_word_from : FnScope ["word", "made"] ["word"] (defScope s_word_from) := ⟨rfl, rfl, rfl, by decide +kernel, rfl, by decide +kernel, by decide +kernel⟩
def sp_word_from : SpD := fun ds P g => ∃ w : Wo, ds = [w.d] ∧ w.Ok ∧ P w.d g
theorem inT_mono1 {d : D} (h : inT 1 d) : inT 2 d := by
  rcases h with h | ⟨xs, rfl, h⟩
  · exact .inl h
  · exact .inr ⟨xs, rfl, fun x hx => .inl (h x hx)⟩
theorem ok_word_from (F : Fun K "word_from" "word_from" s_word_from f fd) (T : Txt K mg cls) (D_below : DDef P w K mg base cls 1 "below" ["one", "other"] sp_below) (D_in_tuples : DDef P w K mg base cls 4 "in_tuples" ["value"] sp_in_tuples) (D_is_ratio : DDef P w K mg base cls 3 "is_ratio" ["value"] sp_is_ratio) (D_told : DDef P w K mg base cls 3 "told" ["ratio"] sp_told) : DOk P w K mg base cls 5 f fd ["word"] sp_word_from := by
  refine dfun (k := 4) F sc_word_from fun pen cells cl cdv A outer s H E hr => ⟨_, (ds_cons (s_if (dt_val (d_isi rfl T.m_isinstance bv_isinstance rfl T.m_str bv_str (dv 0))) (ds_cons (s_if (dt_cmp op_oIn (dv 0) (d_gc T.c_WORDS) (by rfl)) (ds_one (s_ret (dv 0))) ds_nil)
    (ds_one s_never)) ds_nil)
    (ds_cons (s_set (i := 1) sc_word_from.nd rfl (Or.inl rfl) (d_callD D_in_tuples (hr.mono (by decide)) (da_cons (dv 0) da_nil)))
    (ds_cons (s_if (dt_w (dw_or (dt_not (dt_val (d_callD D_is_ratio (hr.mono (by decide)) (da_cons (dv 1) da_nil)))) (dw_or (dt_not (dt_val (d_callD D_below (hr.mono (by decide)) (da_cons (d_gc T.c_NONE) (da_cons (d_callD D_told (hr.mono (by decide)) (da_cons (dv 1) da_nil)) da_nil))))) (dw_or1 (dt_not (dt_val (d_callD D_below (hr.mono (by decide)) (da_cons (d_callD D_told (hr.mono (by decide)) (da_cons (dv 1) da_nil)) (da_cons (d_gc T.c_ONE) da_nil))))))))) (ds_one s_never) ds_nil)
    (ds_one (s_ret (d_callD D_told (hr.mono (by decide)) (da_cons (dv 1) da_nil))))))), fun ds Q g hl h => ?_⟩
  obtain ⟨w, rfl, ok, h⟩ := h
  cases w with
  | sums =>
    simp only [Wo.d] at h ⊢
    walk_at "dl"
    exact ⟨_, [_, _, _], rfl, rfl, h⟩
  | greatest =>
    simp only [Wo.d] at h ⊢
    walk_at "dl"
    exact ⟨_, [_, _, _], rfl, rfl, h⟩
  | squares =>
    simp only [Wo.d] at h ⊢
    walk_at "dl"
    exact ⟨_, [_, _, _], rfl, rfl, h⟩
  | part q =>
    simp only [Wo.d] at h ⊢
    obtain ⟨hq, h0, h1⟩ := ok
    have hq' : Sz 4000 q := hq.mono (by decide)
    walk_at "dl"
    refine ⟨_, rfl, inT_mono1 (inT_rat q), ?_⟩
    walk_at "dl"
    refine ⟨q, rfl, ?_⟩
    walk_at "dl"
    refine ⟨q, rfl, hq', 0, q, rfl, Sz.zero.mono (by decide), hq', ?_⟩
    rw [decide_eq_true h0]
    walk_at "dl"
    refine ⟨q, rfl, hq', q, 1, rfl, hq', Sz.one.mono (by decide), ?_⟩
    rw [decide_eq_true h1]
    walk_at "dl"
    exact ⟨q, rfl, hq', h⟩
end
end K64

set_option Elab.async false
set_option linter.all false
set_option maxRecDepth 100000
set_option maxHeartbeats 4000000
set_option exponentiation.threshold 20000
namespace K64
open PySem PySem.Spec L2 DL
open PyProof.Rows hiding St
local macro_rules | `(tactic| walk_at "dl") => `(tactic| simp only [rVar0, rVarS, rC, rNil, rCons, rNext, startD, List.map_cons, List.map_nil, List.length_cons, List.length_nil, List.replicate, Nat.reduceAdd, Nat.reduceSub, List.cons_append, List.nil_append, List.append_nil,
  List.getElem?_cons_zero, List.getElem?_cons_succ, List.set_cons_zero, List.set_cons_succ, Option.some.injEq, SV.d.injEq, SV.o.injEq, exists_eq_left', exists_eq_left, and_true, true_and, if_true, if_false, Bool.false_eq_true, Bool.not_true, Bool.not_false, ↓reduceIte,
  isB_bl, isI_int, add_ii, sub_ii, mul_ii, fdiv_ii, mod_ii, cmp_ii, neg_i, len_t, len_l, abs_i, int_i, int_b, str_i, tuple_t, tuple_l, gcd_ii, isB_bb, notB_bb, isN_x, notN_x, asL_l, asL_t, asL_sq, eq_ii, ne_ii, isN_rat, isN_tup, isN_non, isN_int, isi_rt, isi_ri, isi_rs, isi2_r, ex_cons, ex_tup, eq_self_iff_true, rYes, rgName, ix_t0, ix_t1, ix_t2, ix_t3, ix_t4, ix_r0, ix_r1, Bool.or_false, Bool.or_true, Bool.true_or, Bool.false_or,
  isi_i, isi_ib, isi_it, isi_tt, isi_ti, isi_tl, isi_ll, isi_ts, isi_ss, isi_st, isi2_t, isi2_l, isi2_i, sl0, sl1, sl2, sl3, sl4, sl5, sl6, sl7, sl8, sl9, iteG, wipeD, Int.cast_ofNat_Int, Int.reduceBEq, beq_self_eq_true, eq_rr, ne_rr, ne_11, Int.ofNat_one, Int.ofNat_zero])
section
variable {P : Program} {w : World} {K : PySem.W.Frag} {mg : Str → Option Value} {base : Heap} {cls : Nat → Addr} {f : Addr} {fd : FuncData}

abbrev s_targets_there : Stmt := top 52
theorem sc_targets_there : FnScope ["model", "fit"] ["model", "fit"] (defScope s_targets_there) := ⟨rfl, rfl, rfl, by decide +kernel, rfl, by decide +kernel, by decide +kernel⟩
def sp_targets_there : SpD := fun ds P g => ∃ M nm cn, ds = [mod M nm cn, .int 0] ∧ M.Ok ∧ P (.tup (M.rows.map fun r => rat r.2)) g
theorem ok_targets_there (F : Fun K "targets_there" "targets_there" s_targets_there f fd) (T : Txt K mg cls) (D_need_fit : DDef P w K mg base cls 3 "need_fit" ["model", "fit"] sp_need_fit) (D_targets_by : DDef P w K mg base cls 2 "targets_by" ["model", "fit"] sp_targets_by) : DOk P w K mg base cls 4 f fd ["model", "fit"] sp_targets_there := by
  refine dfun (k := 3) F sc_targets_there fun pen cells cl cdv A outer s H E hr => ⟨_, (ds_cons (s_expr (d_callD D_need_fit (hr.mono (by decide)) (da_cons (dv 0) (da_cons (dv 1) da_nil))))
    (ds_one (s_ret (d_callTy cal_tuple rfl T.m_tuple bv_tuple (da_cons (d_callD D_targets_by (hr.mono (by decide)) (da_cons (dv 0) (da_cons (dv 1) da_nil))) da_nil))))), fun ds Q g hl h => ?_⟩
  obtain ⟨M, nm, cn, rfl, ok, h⟩ := h
  walk_at "dl"
  refine ⟨M, nm, cn, rfl, M, nm, cn, rfl, ok, ?_⟩
  walk_at "dl"
  exact h
abbrev s_limits_there : Stmt := top 53
theorem sc_limits_there : FnScope ["model", "fit"] ["model", "fit"] (defScope s_limits_there) := ⟨rfl, rfl, rfl, by decide +kernel, rfl, by decide +kernel, by decide +kernel⟩
def sp_limits_there : SpD := fun ds P g => ∃ M nm cn, ds = [mod M nm cn, .int 0] ∧ P (.tup [.tup [oneD (-1), rat (-M.lo)], .tup [oneD 1, rat M.hi]]) g
theorem ok_limits_there (F : Fun K "limits_there" "limits_there" s_limits_there f fd) (T : Txt K mg cls) (D_limits_by : DDef P w K mg base cls 4 "limits_by" ["model", "fit"] sp_limits_by) (D_need_fit : DDef P w K mg base cls 3 "need_fit" ["model", "fit"] sp_need_fit) : DOk P w K mg base cls 5 f fd ["model", "fit"] sp_limits_there := by
  refine dfun (k := 4) F sc_limits_there fun pen cells cl cdv A outer s H E hr => ⟨_, (ds_cons (s_expr (d_callD D_need_fit (hr.mono (by decide)) (da_cons (dv 0) (da_cons (dv 1) da_nil))))
    (ds_one (s_ret (d_callTy cal_tuple rfl T.m_tuple bv_tuple (da_cons (d_callD D_limits_by (hr.mono (by decide)) (da_cons (dv 0) (da_cons (dv 1) da_nil))) da_nil))))), fun ds Q g hl h => ?_⟩
  obtain ⟨M, nm, cn, rfl, h⟩ := h
  walk_at "dl"
  refine ⟨M, nm, cn, rfl, M, nm, cn, rfl, ?_⟩
  walk_at "dl"
  exact h
abbrev s_misses_there : Stmt := top 54
theorem sc_misses_there : FnScope ["model", "fit", "coefs"] ["model", "fit", "coefs"] (defScope s_misses_there) := ⟨rfl, rfl, rfl, by decide +kernel, rfl, by decide +kernel, by decide +kernel⟩
def sp_misses_there : SpD := fun ds P g => ∃ M nm cn c, ds = [mod M nm cn, .int 0, oneD c] ∧ M.Ok ∧ Sz 100 c ∧ P (.tup (M.rows.map fun r => rat (M.miss c r))) g
theorem row_one {c : Rat} {P : D → GP} {g : Nat} (hc : Sz 4000 c) (h : P (oneD c) g) : sp_row_from [oneD c, .int 1] P g := ⟨[c], 1, rfl, rfl, sz1 hc, h⟩
theorem ok_misses_there (F : Fun K "misses_there" "misses_there" s_misses_there f fd) (T : Txt K mg cls) (D_misses_by : DDef P w K mg base cls 5 "misses_by" ["model", "fit", "coefs"] sp_misses_by) (D_need_fit : DDef P w K mg base cls 3 "need_fit" ["model", "fit"] sp_need_fit) (D_row_from : DDef P w K mg base cls 5 "row_from" ["row", "many"] sp_row_from) (D_wide_of : DDef P w K mg base cls 1 "wide_of" ["model", "fit"] sp_wide_of) : DOk P w K mg base cls 6 f fd ["model", "fit", "coefs"] sp_misses_there := by
  refine dfun (k := 5) F sc_misses_there fun pen cells cl cdv A outer s H E hr => ⟨_, (ds_cons (s_expr (d_callD D_need_fit (hr.mono (by decide)) (da_cons (dv 0) (da_cons (dv 1) da_nil))))
    (ds_one (s_ret (d_callTy cal_tuple rfl T.m_tuple bv_tuple (da_cons (d_callD D_misses_by (hr.mono (by decide)) (da_cons (dv 0) (da_cons (dv 1) (da_cons (d_callD D_row_from (hr.mono (by decide)) (da_cons (dv 2) (da_cons (d_callD D_wide_of (hr.mono (by decide)) (da_cons (dv 0) (da_cons (dv 1) da_nil))) da_nil))) da_nil)))) da_nil))))), fun ds Q g hl h => ?_⟩
  obtain ⟨M, nm, cn, c, rfl, ok, hc, h⟩ := h
  walk_at "dl"
  refine ⟨M, nm, cn, rfl, M, nm, cn, rfl, row_one (hc.mono (by decide)) ⟨M, nm, cn, c, rfl, ok, hc, ?_⟩⟩
  walk_at "dl"
  exact h
abbrev s_measure_there : Stmt := top 55
theorem sc_measure_there : FnScope ["model", "word", "fit", "coefs", "made"] ["model", "word", "fit", "coefs"] (defScope s_measure_there) := ⟨rfl, rfl, rfl, by decide +kernel, rfl, by decide +kernel, by decide +kernel⟩
def sp_measure_there : SpD := fun ds P g => ∃ M nm cn w c, ds = [mod M nm cn, Wo.d w, .int 0, oneD c] ∧ M.Ok ∧ w.Ok ∧ Sz 100 c ∧ P (rat (M.meas w c)) g
theorem ok_measure_there (F : Fun K "measure_there" "measure_there" s_measure_there f fd) (T : Txt K mg cls) (D_measure_by : DDef P w K mg base cls 6 "measure_by" ["model", "word", "fit", "coefs"] sp_measure_by) (D_need_fit : DDef P w K mg base cls 3 "need_fit" ["model", "fit"] sp_need_fit) (D_need_model : DDef P w K mg base cls 1 "need_model" ["model"] sp_need_model) (D_row_from : DDef P w K mg base cls 5 "row_from" ["row", "many"] sp_row_from) (D_wide_of : DDef P w K mg base cls 1 "wide_of" ["model", "fit"] sp_wide_of) (D_word_from : DDef P w K mg base cls 5 "word_from" ["word"] sp_word_from) : DOk P w K mg base cls 7 f fd ["model", "word", "fit", "coefs"] sp_measure_there := by
  refine dfun (k := 6) F sc_measure_there fun pen cells cl cdv A outer s H E hr => ⟨_, (ds_cons (s_expr (d_callD D_need_model (hr.mono (by decide)) (da_cons (dv 0) da_nil)))
    (ds_cons (s_set (i := 4) sc_measure_there.nd rfl (Or.inl rfl) (d_callD D_word_from (hr.mono (by decide)) (da_cons (dv 1) da_nil)))
    (ds_cons (s_expr (d_callD D_need_fit (hr.mono (by decide)) (da_cons (dv 0) (da_cons (dv 2) da_nil))))
    (ds_one (s_ret (d_callD D_measure_by (hr.mono (by decide)) (da_cons (dv 0) (da_cons (dv 4) (da_cons (dv 2) (da_cons (d_callD D_row_from (hr.mono (by decide)) (da_cons (dv 3) (da_cons (d_callD D_wide_of (hr.mono (by decide)) (da_cons (dv 0) (da_cons (dv 2) da_nil))) da_nil))) da_nil)))))))))), fun ds Q g hl h => ?_⟩
  obtain ⟨M, nm, cn, w, c, rfl, ok, wok, hc, h⟩ := h
  walk_at "dl"
  refine ⟨M, nm, cn, rfl, w, rfl, wok, ?_⟩
  walk_at "dl"
  exact ⟨M, nm, cn, rfl, M, nm, cn, rfl, row_one (hc.mono (by decide)) ⟨M, nm, cn, w, c, rfl, ok, wok, hc, h⟩⟩
abbrev s_evens_there : Stmt := top 56
theorem sc_evens_there : FnScope ["model", "fit", "signs"] ["model", "fit", "signs"] (defScope s_evens_there) := ⟨rfl, rfl, rfl, by decide +kernel, rfl, by decide +kernel, by decide +kernel⟩
def sp_evens_there : SpD := fun ds P g => ∃ (M : Inst) (nm cn : D) (ss : List Rat), ds = [mod M nm cn, .int 0, .tup (ss.map rat)] ∧ M.Ok ∧ ss.length = M.rows.length ∧ (∀ s ∈ ss, Sz 300 s) ∧ P (oneD (dotL (M.rows.map M.x) ss)) g
theorem ok_evens_there (F : Fun K "evens_there" "evens_there" s_evens_there f fd) (T : Txt K mg cls) (D_evens_by : DDef P w K mg base cls 4 "evens_by" ["model", "fit", "signs"] sp_evens_by) (D_need_fit : DDef P w K mg base cls 3 "need_fit" ["model", "fit"] sp_need_fit) (D_row_from : DDef P w K mg base cls 5 "row_from" ["row", "many"] sp_row_from) (D_table_of : DDef P w K mg base cls 1 "table_of" ["model", "fit"] sp_table_of) : DOk P w K mg base cls 6 f fd ["model", "fit", "signs"] sp_evens_there := by
  refine dfun (k := 5) F sc_evens_there fun pen cells cl cdv A outer s H E hr => ⟨_, (ds_cons (s_expr (d_callD D_need_fit (hr.mono (by decide)) (da_cons (dv 0) (da_cons (dv 1) da_nil))))
    (ds_one (s_ret (d_callD D_evens_by (hr.mono (by decide)) (da_cons (dv 0) (da_cons (dv 1) (da_cons (d_callD D_row_from (hr.mono (by decide)) (da_cons (dv 2) (da_cons (d_callB cal_len rfl T.m_len bv_len (da_cons (d_ix (d_callD D_table_of (hr.mono (by decide)) (da_cons (dv 0) (da_cons (dv 1) da_nil))) d_int) da_nil)) da_nil))) da_nil))))))), fun ds Q g hl h => ?_⟩
  obtain ⟨M, nm, cn, ss, rfl, ok, hl', hs, h⟩ := h
  walk_at "dl"
  refine ⟨M, nm, cn, rfl, M, nm, cn, rfl, ?_⟩
  simp only [Inst.tab]
  walk_at "dl"
  exact ⟨ss, _, rfl, by rw [List.length_map, hl'], fun s h => (hs s h).mono (by decide), M, nm, cn, ss, rfl, ok, hs, h⟩
abbrev s_pulled_there : Stmt := top 57
theorem sc_pulled_there : FnScope ["model", "fit", "pulls"] ["model", "fit", "pulls"] (defScope s_pulled_there) := ⟨rfl, rfl, rfl, by decide +kernel, rfl, by decide +kernel, by decide +kernel⟩
def sp_pulled_there : SpD := fun ds P g => ∃ (M : Inst) (nm cn : D) (a b : Rat), ds = [mod M nm cn, .int 0, .tup [rat a, rat b]] ∧ M.Ok ∧ Sz 500 a ∧ Sz 500 b ∧ P (.tup [oneD (b - a), rat (b * M.hi - a * M.lo)]) g
theorem ok_pulled_there (F : Fun K "pulled_there" "pulled_there" s_pulled_there f fd) (T : Txt K mg cls) (D_limits_by : DDef P w K mg base cls 4 "limits_by" ["model", "fit"] sp_limits_by) (D_need_fit : DDef P w K mg base cls 3 "need_fit" ["model", "fit"] sp_need_fit) (D_pulled_by : DDef P w K mg base cls 5 "pulled_by" ["model", "fit", "pulls"] sp_pulled_by) (D_row_from : DDef P w K mg base cls 5 "row_from" ["row", "many"] sp_row_from) : DOk P w K mg base cls 6 f fd ["model", "fit", "pulls"] sp_pulled_there := by
  refine dfun (k := 5) F sc_pulled_there fun pen cells cl cdv A outer s H E hr => ⟨_, (ds_cons (s_expr (d_callD D_need_fit (hr.mono (by decide)) (da_cons (dv 0) (da_cons (dv 1) da_nil))))
    (ds_one (s_ret (d_callD D_pulled_by (hr.mono (by decide)) (da_cons (dv 0) (da_cons (dv 1) (da_cons (d_callD D_row_from (hr.mono (by decide)) (da_cons (dv 2) (da_cons (d_callB cal_len rfl T.m_len bv_len (da_cons (d_callD D_limits_by (hr.mono (by decide)) (da_cons (dv 0) (da_cons (dv 1) da_nil))) da_nil)) da_nil))) da_nil))))))), fun ds Q g hl h => ?_⟩
  obtain ⟨M, nm, cn, a, b, rfl, ok, ha, hb, h⟩ := h
  walk_at "dl"
  refine ⟨M, nm, cn, rfl, M, nm, cn, rfl, ?_⟩
  walk_at "dl"
  refine ⟨[a, b], 2, rfl, rfl, ?_, M, nm, cn, a, b, rfl, ok, ha, hb, h⟩
  intro s hs
  rcases List.mem_cons.mp hs with rfl | hs
  · exact ha.mono (by decide)
  · rw [List.mem_singleton.mp hs]; exact hb.mono (by decide)
abbrev s_is_row : Stmt := top 58
theorem sc_is_row : FnScope ["value", "many", "item"] ["value", "many"] (defScope s_is_row) := ⟨rfl, rfl, rfl, by decide +kernel, rfl, by decide +kernel, by decide +kernel⟩
def sp_is_row : SpD := fun ds P g => ∃ c, ds = [oneD c, .int 1] ∧ P (.bl true) g
theorem ok_is_row (F : Fun K "is_row" "is_row" s_is_row f fd) (T : Txt K mg cls) (D_is_told : DDef P w K mg base cls 3 "is_told" ["value"] sp_is_told) (D_is_tuple_of : DDef P w K mg base cls 1 "is_tuple_of" ["value", "many"] sp_is_tuple_of) : DOk P w K mg base cls 4 f fd ["value", "many"] sp_is_row := by
  refine dfun (k := 3) F sc_is_row fun pen cells cl cdv A outer s H E hr => ⟨_, (ds_one (s_ret (d_and (d_callD D_is_tuple_of (hr.mono (by decide)) (da_cons (dv 0) (da_cons (dv 1) da_nil))) (d_one (d_callB (cal_all rfl) rfl T.m_all bv_all (da_cons (d_of_f (f_lc rfl sc_is_row.nd (di_seq (dv 0)) (blkOk_by (own := [("item", 2)]) (N := ["value", "many", "item"]) (sc := defScope s_is_row) (by decide +kernel)) (by decide) (fun _ _ _ _ _ => (dg_name (i := 2) sc_is_row.nd rfl (Or.inl rfl))) (fun _ _ _ _ _ => dts_nil) (fun _ _ _ _ _ => (d_callD D_is_told (hr.mono (by decide)) (da_cons (dv 2) da_nil))))) da_nil)))))), fun ds Q g hl h => ?_⟩
  obtain ⟨c, rfl, h⟩ := h
  walk_at "dl"
  refine ⟨[rat c], 1, rfl, ?_⟩
  walk_at "dl"
  simp only [asL_one]
  refine lc_map [c] rat (fun _ => D.bl true) (fun q hq' => ?_) ?_
  · walk_at "dl"
    exact ⟨q, rfl, rfl, rfl⟩
  · exact ⟨_, _, rfl, bls_true [c], h⟩
abbrev s_first_limit : Stmt := top 59
theorem sc_first_limit : FnScope ["model", "fit", "coefs", "k", "row", "number"] ["model", "fit", "coefs"] (defScope s_first_limit) := ⟨rfl, rfl, rfl, by decide +kernel, rfl, by decide +kernel, by decide +kernel⟩
def sp_first_limit : SpD := fun ds P g => ∃ M nm cn c, ds = [mod M nm cn, .int 0, oneD c] ∧ M.Ok ∧ Sz 100 c ∧ M.lo ≤ c ∧ c ≤ M.hi ∧ P .non g
theorem ok_first_limit (F : Fun K "first_limit" "first_limit" s_first_limit f fd) (T : Txt K mg cls) (D_below : DDef P w K mg base cls 1 "below" ["one", "other"] sp_below) (D_dot_of : DDef P w K mg base cls 3 "dot_of" ["one", "other"] sp_dot_of) (D_limits_by : DDef P w K mg base cls 4 "limits_by" ["model", "fit"] sp_limits_by) : DOk P w K mg base cls 5 f fd ["model", "fit", "coefs"] sp_first_limit := by
  refine dfun (k := 4) F sc_first_limit fun pen cells cl cdv A outer s H E hr => ⟨_, (ds_cons (s_for PassesOwn.never rfl (di_enum T.m_enumerate (d_callD D_limits_by (hr.mono (by decide)) (da_cons (dv 0) (da_cons (dv 1) da_nil)))) (dg_tup (n := 2) rfl (dgs_cons (dg_name (i := 3) sc_first_limit.nd rfl (Or.inl rfl)) (dgs_cons (dg_tup (n := 2) rfl (dgs_cons (dg_name (i := 4) sc_first_limit.nd rfl (Or.inl rfl)) (dgs_cons (dg_name (i := 5) sc_first_limit.nd rfl (Or.inl rfl)) dgs_nil))) dgs_nil)))
    (ds_one (s_if (dt_val (d_callD D_below (hr.mono (by decide)) (da_cons (dv 5) (da_cons (d_callD D_dot_of (hr.mono (by decide)) (da_cons (dv 4) (da_cons (dv 2) da_nil))) da_nil)))) (ds_one (s_ret (dv 3))) ds_nil)))
    (ds_one (s_ret d_non))), fun ds Q g hl h => ?_⟩
  obtain ⟨M, nm, cn, c, rfl, ok, hc, h1, h2, h⟩ := h
  walk_at "dl"
  refine ⟨M, nm, cn, rfl, ?_⟩
  walk_at "dl"
  have k1 : ¬ (-M.lo < -1 * c) := by grind
  have k2 : ¬ (M.hi < 1 * c) := by grind
  refine ⟨fun ρ' g' => g' = g ∧ ∃ a b d, ρ' = [.d (mod M nm cn), .d (.int 0), .d (oneD c), a, b, d], ?_, ?_⟩
  · walk_at "dl"
    refine ⟨false, false, [-1], [c], 1, 100, rfl, sz1 Sz.one.neg, sz1 hc, by decide, by decide, by show 1 + 1 * (1 + 100 + 1) ≤ 4000; decide, ?_⟩
    rw [dotL1]
    refine ⟨_, _, rfl, ok.lo.neg.mono (by decide), (Sz.one.neg.mul hc).mono (by decide), ?_⟩
    rw [decide_eq_false k1]
    walk_at "dl"
    exact ⟨_, _, _, rfl⟩
  · rintro ρ' g' ⟨rfl, a, b, d, rfl⟩
    refine ⟨fun ρ' g'' => g'' = g' ∧ ∃ a b d, ρ' = [.d (mod M nm cn), .d (.int 0), .d (oneD c), a, b, d], ?_, ?_⟩
    · walk_at "dl"
      refine ⟨false, false, [1], [c], 1, 100, rfl, sz1 Sz.one, sz1 hc, by decide, by decide, by show 1 + 1 * (1 + 100 + 1) ≤ 4000; decide, ?_⟩
      rw [dotL1]
      refine ⟨_, _, rfl, ok.hi.mono (by decide), (Sz.one.mul hc).mono (by decide), ?_⟩
      rw [decide_eq_false k2]
      walk_at "dl"
      exact ⟨_, _, _, rfl⟩
    · rintro ρ' g'' ⟨rfl, a, b, d, rfl⟩
      exact h
abbrev s_is_let_there : Stmt := top 60
theorem sc_is_let_there : FnScope ["model", "fit", "value"] ["model", "fit", "value"] (defScope s_is_let_there) := ⟨rfl, rfl, rfl, by decide +kernel, rfl, by decide +kernel, by decide +kernel⟩
def sp_is_let_there : SpD := fun ds P g => ∃ M nm cn c, ds = [mod M nm cn, .int 0, oneD c] ∧ M.Ok ∧ Sz 100 c ∧ M.lo ≤ c ∧ c ≤ M.hi ∧ P (.bl true) g
theorem ok_is_let_there (F : Fun K "is_let_there" "is_let_there" s_is_let_there f fd) (T : Txt K mg cls) (D_first_limit : DDef P w K mg base cls 5 "first_limit" ["model", "fit", "coefs"] sp_first_limit) (D_is_row : DDef P w K mg base cls 4 "is_row" ["value", "many"] sp_is_row) (D_need_fit : DDef P w K mg base cls 3 "need_fit" ["model", "fit"] sp_need_fit) (D_wide_of : DDef P w K mg base cls 1 "wide_of" ["model", "fit"] sp_wide_of) : DOk P w K mg base cls 6 f fd ["model", "fit", "value"] sp_is_let_there := by
  refine dfun (k := 5) F sc_is_let_there fun pen cells cl cdv A outer s H E hr => ⟨_, (ds_cons (s_expr (d_callD D_need_fit (hr.mono (by decide)) (da_cons (dv 0) (da_cons (dv 1) da_nil))))
    (ds_one (s_ret (d_and (d_callD D_is_row (hr.mono (by decide)) (da_cons (dv 2) (da_cons (d_callD D_wide_of (hr.mono (by decide)) (da_cons (dv 0) (da_cons (dv 1) da_nil))) da_nil))) (d_one (d_cmp op_oIsN (d_callD D_first_limit (hr.mono (by decide)) (da_cons (dv 0) (da_cons (dv 1) (da_cons (dv 2) da_nil)))) d_non (nomark _))))))), fun ds Q g hl h => ?_⟩
  obtain ⟨M, nm, cn, c, rfl, ok, hc, h1, h2, h⟩ := h
  walk_at "dl"
  refine ⟨M, nm, cn, rfl, M, nm, cn, rfl, c, rfl, ?_⟩
  walk_at "dl"
  refine ⟨M, nm, cn, c, rfl, ok, hc, h1, h2, ?_⟩
  walk_at "dl"
  exact h
end
end K64

set_option Elab.async false
set_option linter.all false
set_option maxRecDepth 100000
set_option maxHeartbeats 4000000
set_option exponentiation.threshold 20000
namespace K64
open PySem PySem.Spec L2 DL
open PyProof.Rows hiding St
local macro_rules | `(tactic| walk_at "dl") => `(tactic| simp only [rVar0, rVarS, rC, rNil, rCons, rNext, startD, List.map_cons, List.map_nil, List.length_cons, List.length_nil, List.replicate, Nat.reduceAdd, Nat.reduceSub, List.cons_append, List.nil_append, List.append_nil,
  List.getElem?_cons_zero, List.getElem?_cons_succ, List.set_cons_zero, List.set_cons_succ, Option.some.injEq, SV.d.injEq, SV.o.injEq, exists_eq_left', exists_eq_left, and_true, true_and, if_true, if_false, Bool.false_eq_true, Bool.not_true, Bool.not_false, ↓reduceIte,
  isB_bl, isI_int, add_ii, sub_ii, mul_ii, fdiv_ii, mod_ii, cmp_ii, neg_i, len_t, len_l, abs_i, int_i, int_b, str_i, tuple_t, tuple_l, gcd_ii, isB_bb, notB_bb, isN_x, notN_x, asL_l, asL_t, asL_sq, eq_ii, ne_ii, isN_rat, isN_tup, isN_non, isN_int, isi_rt, isi_ri, isi_rs, isi2_r, ex_cons, ex_tup, eq_self_iff_true, rYes, rgName, ix_t0, ix_t1, ix_t2, ix_t3, ix_t4, ix_r0, ix_r1, Bool.or_false, Bool.or_true, Bool.true_or, Bool.false_or,
  isi_i, isi_ib, isi_it, isi_tt, isi_ti, isi_tl, isi_ll, isi_ts, isi_ss, isi_st, isi2_t, isi2_l, isi2_i, sl0, sl1, sl2, sl3, sl4, sl5, sl6, sl7, sl8, sl9, iteG, wipeD, Int.cast_ofNat_Int, Int.reduceBEq, beq_self_eq_true, eq_rr, ne_rr, ne_11, Int.ofNat_one, Int.ofNat_zero])
section
variable {P : Program} {w : World} {K : PySem.W.Frag} {mg : Str → Option Value} {base : Heap} {cls : Nat → Addr} {f : Addr} {fd : FuncData}

abbrev s__law_draw : Stmt := top 63
theorem sc__law_draw : FnScope ["pen", "many", "cell", "digit", "blend"] ["pen", "many"] (defScope s__law_draw) := ⟨rfl, rfl, rfl, by decide +kernel, rfl, by decide +kernel, by decide +kernel⟩
def sp__law_draw : SpD := fun ds P g => ∃ m : Int, ds = [.pen, .int m] ∧ 0 < m ∧ m < 1000000 ∧ 1 ≤ g ∧ ∀ r, 0 ≤ r → r < m → P (.int r) (g - 1)
theorem at_b {φ : Bool → Hp → Prop} {b c : Bool} {H : Hp} (hb : b = c) (h : φ c H) : φ b H := hb ▸ h
theorem pow_small {b : Int} (h : 0 ≤ b) (h2 : b < 18446744073709551616) : CPow b 53 := ⟨by decide, by decide, by omega⟩
theorem ok__law_draw (F : Fun K "_law_draw" "_law_draw" s__law_draw f fd) (T : Txt K mg cls) : DOk P w K mg base cls 1 f fd ["pen", "many"] sp__law_draw := by
  refine F.ok sc__law_draw (fun vs H Q E h => ?_) (fun cdv A outer s H vs Q E hr h => ?_)
  · obtain ⟨pen, cells, cl, g, F', ds, P', w', r, l, _⟩ := h
    rw [r.length]; exact l
  · obtain ⟨pen, cells, cl, g, F', ds, P', w', r, l, ⟨m, rfl, hm0, hm1, hg, p⟩, q⟩ := h
    obtain ⟨v1, v2, rfl, r1, r2⟩ := reps2 r
    cases r1
    cases r2
    obtain ⟨a, d, n, e, hp, Pn⟩ := w'.pen
    have hu := hu_of hr
    have hcel : H cells = some (.lst (cl.map V.int)) := w'.sub _ _ w'.cel
    have cp : cells ≠ pen := fun z => by
      have h1 := w'.cel
      rw [z, w'.nopen] at h1; cases h1
    have hlen := Pn.len
    have hng := Pn.ng
    have hn0 := Pn.n0
    have ha0 := Pn.a0
    have hd0 := Pn.d0
    have he0 := Pn.f0
    have he1 := Pn.f1
    refine ⟨_, pss_cons (ps_dput hu (pv 0) pe_str (pe_op op_add (pe_dget hu (pv 0) pe_str (fun _ _ => rfl)) pe_int) rfl)
      (pss_cons (ps_if (PW.pt (pw_and (pt_cmpR op_eq (pe_dget hu (pv 0) pe_str (fun _ _ => rfl)) pe_int (nomark _)) (pw_and1 (pt_cmpR op_lt (pe_dget hu (pv 0) pe_str (fun _ _ => rfl)) (pe_callB call_len_seq rfl T.m_len bv_len (pa_cons (pe_dget hu (pv 0) pe_str (fun _ _ => rfl)) pa_nil)) (nomark _)))))
          (pss_cons (ps_set (i := 2) sc__law_draw.nd rfl (Or.inl rfl) (pe_ix ix_seq (pe_dget hu (pv 0) pe_str (fun _ _ => rfl)) (pe_dget hu (pv 0) pe_str (fun _ _ => rfl)) (fun _ _ => rfl)))
            (pss_cons (ps_dput hu (pv 0) pe_str (pe_op op_add (pe_dget hu (pv 0) pe_str (fun _ _ => rfl)) pe_int) rfl)
              (pss_one (ps_if (pt_cmpR op_ge (pv 2) (pe_op op_pow pe_int pe_int) (nomark _))
                (pss_one (ps_dput hu (pv 0) pe_str (pe_op op_sub (pv 2) (pe_op op_pow pe_int pe_int)) rfl))
                (pss_one (ps_dput hu (pv 0) pe_str (pe_op op_mod (pe_callTy call_int1 rfl T.m_int bv_int (pa_cons (pe_op op_add (pe_op op_mulW (pe_dget hu (pv 0) pe_str (fun _ _ => rfl)) pe_int) (pv 2)) pa_nil)) pe_int) rfl)))))) pss_nil)
        (pss_imp (t' := fun D σ H2 => ∃ a d e x2 x3 x4, σ = [some (.ref pen), some (.int m), x2, x3, x4] ∧ 0 ≤ a ∧ 0 ≤ d ∧ 0 ≤ e ∧ e < 2147482909 ∧ H2 = upd H pen (.dK (penD cells a d (n + 1) e)) ∧ D.rt = Q)
          (pss_cons (ps_if (pt_cmpR op_gt (pe_dget hu (pv 0) pe_str (fun _ _ => rfl)) pe_int (nomark _))
              (pss_cons (ps_set (i := 3) sc__law_draw.nd rfl (Or.inl rfl) (pe_op op_mod (pe_callTy call_int1 rfl T.m_int bv_int (pa_cons (pe_dget hu (pv 0) pe_str (fun _ _ => rfl)) pa_nil)) (pv 1)))
                (pss_cons (ps_dput hu (pv 0) pe_str (pe_op op_fdivW (pe_dget hu (pv 0) pe_str (fun _ _ => rfl)) (pv 1)) rfl)
                  (pss_one (ps_ret (pv 3))))) pss_nil)
            (pss_cons (ps_set (i := 4) sc__law_draw.nd rfl (Or.inl rfl) (pe_op op_add (pe_op op_add (pe_dget hu (pv 0) pe_str (fun _ _ => rfl)) (pe_op op_mulW (pe_dget hu (pv 0) pe_str (fun _ _ => rfl)) pe_int)) pe_int))
              (pss_one (ps_ret (pe_op op_mod (pe_op op_fdivW (pe_callTy call_int1 rfl T.m_int bv_int (pa_cons (pe_op op_mod (pe_op op_pow (pv 4) pe_int) pe_int) pa_nil)) pe_int) (pv 1))))))
          (fun D σ H2 hh => ?tail))), ?_⟩
    case tail =>
      obtain ⟨a, d, e, x2, x3, x4, rfl, ha, hd, he, he', rfl, hrt⟩ := hh
      have hP : (upd H pen (.dK (penD cells a d (n + 1) e))) pen = some (.dK (penD cells a d (n + 1) e)) := upd_same
      refine rd_pen rfl hP v_digits ?_
      refine ⟨_, _, rfl, rfl, _, rfl, ?_⟩
      by_cases hpos : 0 < d
      · rw [decide_eq_true hpos]
        refine rd_pen rfl hP v_digits ?_
        refine .inl ⟨_, rfl, _, rfl, _, _, rfl, rfl, hm0, ?_⟩
        refine rd_pen rfl hP v_digits ?_
        refine ⟨_, rfl, _, _, rfl, rfl, wide_div (b := 30) hm0 (by omega) (by decide) (by decide), ?_⟩
        refine put_pen rfl hP (by show 5 < 100; decide) p_digits ?_
        refine ⟨_, rfl, ?_⟩
        rw [L2.upd_upd, hrt]
        refine q _ _ F' (.int (d % m)) (g - 1) (Grow.penned w' ⟨hlen, ha, ?_, by omega, by omega, he, he'⟩) (.int _) (p _ (Int.emod_nonneg _ (by omega)) (Int.emod_lt_of_pos _ hm0))
        exact Int.ediv_nonneg hd (by omega)
      · rw [decide_eq_false hpos]
        refine rd_pen rfl hP v_fold ?_
        refine rd_pen rfl hP v_count ?_
        refine ⟨_, _, rfl, rfl, wide_mul (a := 60) (b := 20) (by omega) (by decide) (by decide) (by decide) (by decide), ?_⟩
        refine ⟨_, _, rfl, rfl, ?_⟩
        refine ⟨_, _, rfl, rfl, ?_⟩
        refine ⟨_, rfl, _, _, rfl, rfl, pow_small (by omega) (by omega), ?_⟩
        refine ⟨_, _, rfl, rfl, (by decide : (0 : Int) < 2305843009213693951), ?_⟩
        refine .inl ⟨_, rfl, _, _, rfl, rfl, wide_div (b := 12) (by decide) (by decide) (by decide) (by decide), ?_⟩
        refine ⟨_, rfl, _, _, rfl, rfl, hm0, ?_⟩
        rw [hrt]
        exact q _ _ F' (.int _) (g - 1) (Grow.penned w' ⟨hlen, ha, hd, by omega, by omega, he, he'⟩) (.int _) (p _ (Int.emod_nonneg _ (by omega)) (Int.emod_lt_of_pos _ hm0))
    refine rd_pen rfl hp v_count ?_
    refine ⟨_, _, rfl, rfl, ?_⟩
    refine put_pen rfl hp (by show 5 < 100; decide) p_count ?_
    have hP : (upd H pen (.dK (penD cells a d (n + 1) e))) pen = some (.dK (penD cells a d (n + 1) e)) := upd_same
    refine rd_pen rfl hP v_digits ?_
    refine ⟨rfl, _, rfl, ?_⟩
    have last : ∀ a d e x2, 0 ≤ a → 0 ≤ d → 0 ≤ e → e < 2147482909 → ∃ a' d' e' x2' x3 x4, ([some (.ref pen), some (.int m), x2, none, none] : St) = [some (.ref pen), some (.int m), x2', x3, x4] ∧ 0 ≤ a' ∧ 0 ≤ d' ∧ 0 ≤ e' ∧ e' < 2147482909 ∧ upd H pen (.dK (penD cells a d (n + 1) e)) = upd H pen (.dK (penD cells a' d' (n + 1) e')) ∧ Q = Q :=
      fun a d e x2 h1 h2 h3 h4 => ⟨a, d, e, x2, none, none, rfl, h1, h2, h3, h4, rfl, rfl⟩
    by_cases hd1 : V.int d = V.int 0
    · have hd2 : d = 0 := by cases hd1; rfl
      rw [decide_eq_true hd1]
      refine rd_pen rfl hP v_at ?_
      refine rd_pen rfl hP v_cells ?_
      have hC : (upd H pen (.dK (penD cells a d (n + 1) e))) cells = some (.lst (cl.map V.int)) := by rw [upd_ne cp]; exact hcel
      refine ⟨cells, cl.map V.int, rfl, .inl (SqL.of hC), ?_⟩
      refine ⟨_, _, rfl, rfl, _, rfl, ?_⟩
      rw [List.length_map]
      by_cases hlt : a < (cl.length : Int)
      · rw [decide_eq_true hlt]
        refine rd_pen rfl hP v_cells ?_
        refine rd_pen rfl hP v_at ?_
        have hi : a.toNat < cl.length := by omega
        have hget : atI (cl.map V.int) a = some (V.int cl[a.toNat]) := by
          have h1 : atI (cl.map V.int) ((a.toNat : Nat) : Int) = some (V.int cl[a.toNat]) := atI_nat (by simp [hi])
          rw [show ((a.toNat : Nat) : Int) = a by omega] at h1
          exact h1
        generalize cl[a.toNat] = z at hget
        refine .inl ⟨cells, _, a, _, rfl, rfl, SqL.of hC, hget, ?_⟩
        refine rd_pen rfl hP v_at ?_
        refine ⟨_, _, rfl, rfl, ?_⟩
        refine put_pen rfl hP (by show 5 < 100; decide) p_at ?_
        rw [L2.upd_upd]
        have hP2 : (upd H pen (.dK (penD cells (a + 1) d (n + 1) e))) pen = some (.dK (penD cells (a + 1) d (n + 1) e)) := upd_same
        refine ⟨_, rfl, ⟨_, _, rfl, rfl, ⟨by decide, by decide, by decide⟩, _, _, rfl, rfl, _, rfl, ?_⟩⟩
        by_cases hz : (10 : Int) ^ (18 : Int).toNat ≤ z
        · rw [decide_eq_true hz]
          refine ⟨_, rfl, _, _, rfl, rfl, ⟨by decide, by decide, by decide⟩, _, _, rfl, rfl, ?_⟩
          refine put_pen rfl hP2 (by show 5 < 100; decide) p_digits ?_
          rw [L2.upd_upd]
          exact last _ _ _ _ (by omega) (by omega) he0 he1
        · rw [decide_eq_false hz]
          refine rd_pen rfl hP2 v_fold ?_
          refine ⟨_, _, rfl, rfl, wide_mul (a := 40) (b := 20) (by omega) (by decide) (by decide) (by decide) (by decide), ?_⟩
          refine ⟨_, rfl, _, _, rfl, rfl, .inl ⟨_, rfl, _, _, rfl, rfl, (by decide : (0 : Int) < 2147482909), ?_⟩⟩
          refine put_pen rfl hP2 (by show 5 < 100; decide) p_fold ?_
          rw [L2.upd_upd]
          exact last _ _ _ _ (by omega) hd0 (Int.emod_nonneg _ (by decide)) (Int.emod_lt_of_pos _ (by decide))
      · rw [decide_eq_false hlt]
        exact last _ _ _ _ ha0 hd0 he0 he1
    · rw [decide_eq_false hd1]
      exact last _ _ _ _ ha0 hd0 he0 he1

end
end K64

set_option Elab.async false
set_option linter.all false
set_option maxRecDepth 100000
set_option maxHeartbeats 4000000
set_option exponentiation.threshold 20000
namespace K64
open PySem PySem.Spec L2 DL
open PyProof.Rows hiding St
local macro_rules | `(tactic| walk_at "dl") => `(tactic| simp only [rVar0, rVarS, rC, rNil, rCons, rNext, startD, List.map_cons, List.map_nil, List.length_cons, List.length_nil, List.replicate, Nat.reduceAdd, Nat.reduceSub, List.cons_append, List.nil_append, List.append_nil,
  List.getElem?_cons_zero, List.getElem?_cons_succ, List.set_cons_zero, List.set_cons_succ, Option.some.injEq, SV.d.injEq, SV.o.injEq, exists_eq_left', exists_eq_left, and_true, true_and, if_true, if_false, Bool.false_eq_true, Bool.not_true, Bool.not_false, ↓reduceIte,
  isB_bl, isI_int, add_ii, sub_ii, mul_ii, fdiv_ii, mod_ii, cmp_ii, neg_i, len_t, len_l, abs_i, int_i, int_b, str_i, tuple_t, tuple_l, gcd_ii, isB_bb, notB_bb, isN_x, notN_x, asL_l, asL_t, asL_sq, eq_ii, ne_ii, isN_rat, isN_tup, isN_non, isN_int, isi_rt, isi_ri, isi_rs, isi2_r, ex_cons, ex_tup, eq_self_iff_true, rYes, rgName, ix_t0, ix_t1, ix_t2, ix_t3, ix_t4, ix_r0, ix_r1, Bool.or_false, Bool.or_true, Bool.true_or, Bool.false_or,
  isi_i, isi_ib, isi_it, isi_tt, isi_ti, isi_tl, isi_ll, isi_ts, isi_ss, isi_st, isi2_t, isi2_l, isi2_i, sl0, sl1, sl2, sl3, sl4, sl5, sl6, sl7, sl8, sl9, iteG, rBits, D.int.injEq, wipeD, rBrk, rCnt, Int.cast_ofNat_Int, Int.reduceBEq, beq_self_eq_true, eq_rr, ne_rr, ne_11, Int.ofNat_one, Int.ofNat_zero])
section
variable {P : Program} {w : World} {K : PySem.W.Frag} {mg : Str → Option Value} {base : Heap} {cls : Nat → Addr} {f : Addr} {fd : FuncData}

abbrev s__law_pick : Stmt := top 64
theorem sc__law_pick : FnScope ["pen", "some"] ["pen", "some"] (defScope s__law_pick) := ⟨rfl, rfl, rfl, by decide +kernel, rfl, by decide +kernel, by decide +kernel⟩
def sp__law_pick : SpD := fun ds P g => ∃ b xs, ds = [.pen, sqD b xs] ∧ xs ≠ [] ∧ xs.length ≤ 1000 ∧ 1 ≤ g ∧ ∀ x ∈ xs, P x (g - 1)
theorem ok__law_pick (F : Fun K "_law_pick" "_law_pick" s__law_pick f fd) (T : Txt K mg cls) (D__law_draw : DDef P w K mg base cls 1 "_law_draw" ["pen", "many"] sp__law_draw) : DOk P w K mg base cls 2 f fd ["pen", "some"] sp__law_pick := by
  refine dfun (k := 1) F sc__law_pick fun pen cells cl cdv A outer s H E hr => ⟨_, (ds_one (s_ret (d_ix (dv 1) (d_callD D__law_draw (hr.mono (by decide)) (da_cons (dv 0) (da_cons (d_callB cal_len rfl T.m_len bv_len (da_cons (dv 1) da_nil)) da_nil)))))), fun ds Q g hl h => ?_⟩
  obtain ⟨b, xs, rfl, hx, hl', hg, h⟩ := h
  have hp : 0 < xs.length := List.length_pos_iff.mpr hx
  cases b
  · simp only [sqD]
    walk_at "dl"
    refine ⟨_, rfl, by omega, by omega, hg, fun r h0 h1 => ?_⟩
    have hi : r.toNat < xs.length := by omega
    have e : atI xs r = some xs[r.toNat] := by
      have h1 : atI xs ((r.toNat : Nat) : Int) = some xs[r.toNat] := at_nat (by simp [hi])
      rw [show ((r.toNat : Nat) : Int) = r by omega] at h1
      exact h1
    show oIx _ _ _ _
    rw [ix_t e]
    exact h _ (List.getElem_mem hi)
  · simp only [sqD]
    walk_at "dl"
    refine ⟨_, rfl, by omega, by omega, hg, fun r h0 h1 => ?_⟩
    have hi : r.toNat < xs.length := by omega
    have e : atI xs r = some xs[r.toNat] := by
      have h1 : atI xs ((r.toNat : Nat) : Int) = some xs[r.toNat] := at_nat (by simp [hi])
      rw [show ((r.toNat : Nat) : Int) = r by omega] at h1
      exact h1
    show oIx _ _ _ _
    rw [ix_l e]
    exact h _ (List.getElem_mem hi)
abbrev s__law_gcd : Stmt := top 65
theorem sc__law_gcd : FnScope ["one", "two", "lap"] ["one", "two"] (defScope s__law_gcd) := ⟨rfl, rfl, rfl, by decide +kernel, rfl, by decide +kernel, by decide +kernel⟩
theorem two_mod {a b : Nat} (h : b < a) (h0 : 0 < b) : 2 * (a % b) < a := by
  have h1 := Nat.mod_lt a h0
  have h2 := Nat.mod_add_div a b
  have h3 : 1 ≤ a / b := Nat.div_pos (Nat.le_of_lt h) h0
  have h4 : b ≤ b * (a / b) := Nat.le_mul_of_pos_right b h3
  omega
/-- how far Euclid's pair is behind k laps, n bits at first -/
def eu (n i a b : Nat) : Prop := b = 0 ∨ (i % 2 = 0 ∧ b < 2 ^ (n - i / 2)) ∨ (i % 2 = 1 ∧ b < a ∧ a < 2 ^ (n - i / 2))
theorem eu_step {n i a b : Nat} (hb : b ≠ 0) (h : eu n i a b) : eu n (i + 1) b (a % b) := by
  have hp : 0 < b := Nat.pos_of_ne_zero hb
  rcases h with h | ⟨h1, h2⟩ | ⟨h1, h2, h3⟩
  · exact absurd h hb
  · refine .inr (.inr ⟨by omega, Nat.mod_lt _ hp, ?_⟩)
    rw [show (i + 1) / 2 = i / 2 by omega]; exact h2
  · by_cases hz : a % b = 0
    · exact .inl hz
    · refine .inr (.inl ⟨by omega, ?_⟩)
      have h4 := two_mod h2 hp
      rw [show (i + 1) / 2 = i / 2 + 1 by omega]
      have h5 : n - i / 2 ≠ 0 := fun z => by rw [z] at h3; simp at h3; omega
      have h6 : 2 ^ (n - i / 2) = 2 * 2 ^ (n - (i / 2 + 1)) := by
        rw [show n - i / 2 = (n - (i / 2 + 1)) + 1 by omega, Nat.pow_succ]; omega
      omega
theorem eu_end {n a b : Nat} (h : eu n (4 + 2 * n) a b) : b = 0 := by
  rcases h with h | ⟨h1, h2⟩ | ⟨h1, _, _⟩
  · exact h
  · rw [show n - (4 + 2 * n) / 2 = 0 by omega] at h2
    simpa using h2
  · omega
theorem gcd_step {a b : Nat} : Nat.gcd b (a % b) = Nat.gcd a b := by
  rw [Nat.gcd_comm a b, Nat.gcd_rec b a, Nat.gcd_comm]
theorem intBits_nat (b : Nat) : b < 2 ^ (Builtin.Int.intBits (b : Int)) := by
  unfold Builtin.Int.intBits
  by_cases h : (b : Int) == 0
  · rw [if_pos h]
    have : b = 0 := by simpa using h
    subst this; decide
  · rw [if_neg h, Int.natAbs_natCast]
    exact Nat.lt_log2_self
def sp__law_gcd : SpD := fun ds P g => ∃ a b : Int, ds = [.int a, .int b] ∧ b.natAbs < 2 ^ 9000 ∧ P (.int ((Nat.gcd a.natAbs b.natAbs : Nat) : Int)) g
theorem abs_nat (a : Int) : (if a < 0 then -a else a) = ((a.natAbs : Nat) : Int) := by split <;> omega
theorem bits_lt {b : Int} (h : b.natAbs < 2 ^ 9000) : Builtin.Int.intBits ((b.natAbs : Nat) : Int) ≤ 9000 := by
  unfold Builtin.Int.intBits
  split
  · exact Nat.zero_le _
  · rename_i hz
    rw [Int.natAbs_natCast]
    have hn : b.natAbs ≠ 0 := fun z => hz (by rw [z]; rfl)
    exact (Nat.log2_lt hn).mpr h
theorem ok__law_gcd (F : Fun K "_law_gcd" "_law_gcd" s__law_gcd f fd) (T : Txt K mg cls) : DOk P w K mg base cls 1 f fd ["one", "two"] sp__law_gcd := by
  refine dfun (k := 0) F sc__law_gcd fun pen cells cl cdv A outer s H E hr => ⟨_, (ds_cons (s_par_dd (i := 0) (j := 1) rfl sc__law_gcd.nd rfl rfl (by decide) rfl rfl (d_callB cal_abs rfl T.m_abs bv_abs (da_cons (dv 0) da_nil)) (d_callB cal_abs rfl T.m_abs bv_abs (da_cons (dv 1) da_nil)) (by rfl))
    (ds_cons (s_for PassesOwn.never rfl (di_range T.m_range (d_op op_oAdd d_int (d_op op_oMul d_int (d_bits (d_callTy cal_int rfl T.m_int bv_int (da_cons (dv 1) da_nil)))))) (dg_name (i := 2) sc__law_gcd.nd rfl (Or.inl rfl))
    (ds_cons (s_if (dt_cmp (op_oEq hr.units) (dv 1) d_int (nomark _)) (ds_one s_break) ds_nil)
    (ds_one (s_par_dd (i := 0) (j := 1) rfl sc__law_gcd.nd rfl rfl (by decide) rfl rfl (dv 1) (d_op op_oMod (d_callTy cal_int rfl T.m_int bv_int (da_cons (dv 0) da_nil)) (dv 1)) (by rfl)))))
    (ds_one (s_ret (dv 0))))), fun ds Q g hl h => ?_⟩
  obtain ⟨a, b, rfl, hb, h⟩ := h
  walk_at "dl"
  simp only [abs_nat]
  have hbits := bits_lt hb
  generalize hN : Builtin.Int.intBits ((b.natAbs : Nat) : Int) = n at hbits ⊢
  refine ⟨wide_mul (a := 2) (b := 14) (by decide) (by rw [Int.natAbs_natCast]; omega) (by decide) (by decide) (by decide), ⟨by omega, by omega⟩, ?_⟩
  have hl2 : (rangeD (4 + 2 * (n : Int))).length = 4 + 2 * n := by unfold rangeD; simp; omega
  refine for_inv (fun i ρ g' => g' = g ∧ ∃ (a' b' : Nat) (x : SV), ρ = [.d (.int (a' : Int)), .d (.int (b' : Int)), x] ∧ Nat.gcd a' b' = Nat.gcd a.natAbs b.natAbs ∧ eu n i a' b') ⟨rfl, _, _, _, rfl, rfl, .inr (.inl ⟨rfl, by rw [← hN]; exact intBits_nat _⟩)⟩ ?_ ?_
  · rintro i x ρ g' hx ⟨rfl, a', b', y, rfl, hg, he⟩
    walk_at "dl"
    split
    · rename_i hz
      have hz' : b' = 0 := by simpa using hz
      subst hz'
      rw [Nat.gcd_zero_right] at hg
      rw [hg]; exact h
    · rename_i hz
      have hz' : b' ≠ 0 := fun z => hz (by rw [z]; rfl)
      refine ⟨by omega, b', a' % b', _, by rw [Int.natCast_emod], ?_, eu_step hz' he⟩
      rw [← hg]; exact gcd_step
  · rintro ρ g' ⟨rfl, a', b', y, rfl, hg, he⟩
    rw [hl2] at he
    have hz := eu_end he
    subst hz
    rw [Nat.gcd_zero_right] at hg
    walk_at "dl"
    rw [hg]; exact h
abbrev s__law_q : Stmt := top 66
theorem sc__law_q : FnScope ["top", "bottom", "by"] ["top", "bottom"] (defScope s__law_q) := ⟨rfl, rfl, rfl, by decide +kernel, rfl, by decide +kernel, by decide +kernel⟩
def sp__law_q : SpD := fun ds P g => ∃ a b : Int, ds = [.int a, .int b] ∧ 0 < b ∧ b.natAbs < 2 ^ 9000 ∧ P (rat (mkRat a b.toNat)) g
theorem ok__law_q (F : Fun K "_law_q" "_law_q" s__law_q f fd) (T : Txt K mg cls) (D__law_gcd : DDef P w K mg base cls 1 "_law_gcd" ["one", "two"] sp__law_gcd) : DOk P w K mg base cls 2 f fd ["top", "bottom"] sp__law_q := by
  refine dfun (k := 1) F sc__law_q fun pen cells cl cdv A outer s H E hr => ⟨_, (ds_cons (s_set (i := 2) sc__law_q.nd rfl (Or.inl rfl) (d_callD D__law_gcd (hr.mono (by decide)) (da_cons (dv 0) (da_cons (dv 1) da_nil))))
    (ds_cons (s_set (i := 2) sc__law_q.nd rfl (Or.inl rfl) (d_if (dt_cmp op_oLt (dv 1) d_int (nomark _)) (d_neg (dv 2)) (dv 2)))
    (ds_one (s_ret (d_tup (da_cons (d_op op_oFdiv (dv 0) (dv 2)) (da_cons (d_op op_oFdiv (dv 1) (dv 2)) da_nil))))))), fun ds Q g hl h => ?_⟩
  obtain ⟨a, b, rfl, h0, hb, h⟩ := h
  walk_at "dl"
  refine ⟨a, b, rfl, hb, ?_⟩
  rw [decide_eq_false (by omega)]
  walk_at "dl"
  refine ⟨div_ok h0 hb _, div_ok h0 hb _, ?_⟩
  rw [low_eq h0]; exact h
abbrev s__law_plus : Stmt := top 67
theorem sc__law_plus : FnScope ["one", "two"] ["one", "two"] (defScope s__law_plus) := ⟨rfl, rfl, rfl, by decide +kernel, rfl, by decide +kernel, by decide +kernel⟩
def sp__law_plus : SpD := fun ds P g => ∃ p q : Rat, ds = [rat p, rat q] ∧ Sz 4000 p ∧ Sz 4000 q ∧ P (rat (p + q)) g
theorem ok__law_plus (F : Fun K "_law_plus" "_law_plus" s__law_plus f fd) (T : Txt K mg cls) (D__law_q : DDef P w K mg base cls 2 "_law_q" ["top", "bottom"] sp__law_q) : DOk P w K mg base cls 3 f fd ["one", "two"] sp__law_plus := by
  refine dfun (k := 2) F sc__law_plus fun pen cells cl cdv A outer s H E hr => ⟨_, (ds_one (s_ret (d_callD D__law_q (hr.mono (by decide)) (da_cons (d_op op_oAdd (d_op op_oMul (d_ix (dv 0) d_int) (d_ix (dv 1) d_int)) (d_op op_oMul (d_ix (dv 1) d_int) (d_ix (dv 0) d_int))) (da_cons (d_op op_oMul (d_ix (dv 0) d_int) (d_ix (dv 1) d_int)) da_nil))))), fun ds Q g hl h => ?_⟩
  obtain ⟨p, q, rfl, hp, hq, h⟩ := h
  walk_at "dl"
  refine ⟨ok_nd hp hq, ok_nd hq hp, ok_dd hp hq, _, _, rfl, dd_pos p q, dd_lt hp hq, ?_⟩
  rw [dd_nat, ← Rat.add_def']; exact h
abbrev s__law_times : Stmt := top 68
theorem sc__law_times : FnScope ["one", "two"] ["one", "two"] (defScope s__law_times) := ⟨rfl, rfl, rfl, by decide +kernel, rfl, by decide +kernel, by decide +kernel⟩
def sp__law_times : SpD := fun ds P g => ∃ p q : Rat, ds = [rat p, rat q] ∧ Sz 4000 p ∧ Sz 4000 q ∧ P (rat (p * q)) g
theorem ok__law_times (F : Fun K "_law_times" "_law_times" s__law_times f fd) (T : Txt K mg cls) (D__law_q : DDef P w K mg base cls 2 "_law_q" ["top", "bottom"] sp__law_q) : DOk P w K mg base cls 3 f fd ["one", "two"] sp__law_times := by
  refine dfun (k := 2) F sc__law_times fun pen cells cl cdv A outer s H E hr => ⟨_, (ds_one (s_ret (d_callD D__law_q (hr.mono (by decide)) (da_cons (d_op op_oMul (d_ix (dv 0) d_int) (d_ix (dv 1) d_int)) (da_cons (d_op op_oMul (d_ix (dv 0) d_int) (d_ix (dv 1) d_int)) da_nil))))), fun ds Q g hl h => ?_⟩
  obtain ⟨p, q, rfl, hp, hq, h⟩ := h
  walk_at "dl"
  refine ⟨ok_nn hp hq, ok_dd hp hq, _, _, rfl, dd_pos p q, dd_lt hp hq, ?_⟩
  rw [dd_nat, ← Rat.mul_def']; exact h
abbrev s__law_less : Stmt := top 69
theorem sc__law_less : FnScope ["one", "two"] ["one", "two"] (defScope s__law_less) := ⟨rfl, rfl, rfl, by decide +kernel, rfl, by decide +kernel, by decide +kernel⟩
def sp__law_less : SpD := fun ds P g => ∃ p q : Rat, ds = [rat p, rat q] ∧ Sz 4000 p ∧ Sz 4000 q ∧ P (.bl (decide (p < q))) g
theorem ok__law_less (F : Fun K "_law_less" "_law_less" s__law_less f fd) (T : Txt K mg cls) : DOk P w K mg base cls 1 f fd ["one", "two"] sp__law_less := by
  refine dfun (k := 0) F sc__law_less fun pen cells cl cdv A outer s H E hr => ⟨_, (ds_one (s_ret (d_cmp op_oLt (d_op op_oMul (d_ix (dv 0) d_int) (d_ix (dv 1) d_int)) (d_op op_oMul (d_ix (dv 1) d_int) (d_ix (dv 0) d_int)) (nomark _)))), fun ds Q g hl h => ?_⟩
  obtain ⟨p, q, rfl, hp, hq, h⟩ := h
  walk_at "dl"
  refine ⟨ok_nd hp hq, ok_nd hq hp, ?_⟩
  rw [below_eq]; exact h
abbrev s__law_minus : Stmt := top 70
theorem sc__law_minus : FnScope ["one", "two"] ["one", "two"] (defScope s__law_minus) := ⟨rfl, rfl, rfl, by decide +kernel, rfl, by decide +kernel, by decide +kernel⟩
def sp__law_minus : SpD := fun ds P g => ∃ p q : Rat, ds = [rat p, rat q] ∧ Sz 4000 p ∧ Sz 4000 q ∧ P (rat (p - q)) g
theorem ok__law_minus (F : Fun K "_law_minus" "_law_minus" s__law_minus f fd) (T : Txt K mg cls) (D__law_q : DDef P w K mg base cls 2 "_law_q" ["top", "bottom"] sp__law_q) : DOk P w K mg base cls 3 f fd ["one", "two"] sp__law_minus := by
  refine dfun (k := 2) F sc__law_minus fun pen cells cl cdv A outer s H E hr => ⟨_, (ds_one (s_ret (d_callD D__law_q (hr.mono (by decide)) (da_cons (d_op op_oSub (d_op op_oMul (d_ix (dv 0) d_int) (d_ix (dv 1) d_int)) (d_op op_oMul (d_ix (dv 1) d_int) (d_ix (dv 0) d_int))) (da_cons (d_op op_oMul (d_ix (dv 0) d_int) (d_ix (dv 1) d_int)) da_nil))))), fun ds Q g hl h => ?_⟩
  obtain ⟨p, q, rfl, hp, hq, h⟩ := h
  walk_at "dl"
  refine ⟨ok_nd hp hq, ok_nd hq hp, ok_dd hp hq, _, _, rfl, dd_pos p q, dd_lt hp hq, ?_⟩
  rw [dd_nat, ← sub_def']; exact h
abbrev s__law_share : Stmt := top 71
theorem sc__law_share : FnScope ["one", "two"] ["one", "two"] (defScope s__law_share) := ⟨rfl, rfl, rfl, by decide +kernel, rfl, by decide +kernel, by decide +kernel⟩
def sp__law_share : SpD := fun ds P g => ∃ p q : Rat, ds = [rat p, rat q] ∧ Sz 4000 p ∧ Sz 4000 q ∧ 0 < q ∧ P (rat (p / q)) g
theorem div_mk {p q : Rat} (h : 0 < q) : mkRat (p.num * (q.den : Int)) ((p.den : Int) * q.num).toNat = p / q := by
  have hn : 0 < q.num := (npos q).mpr h
  have hd : (p.den : Int) ≠ 0 := Int.ne_of_gt (den_pos p)
  have hp : 0 < (p.den : Int) * q.num := Int.mul_pos (den_pos p) hn
  rw [Rat.div_def, Rat.inv_def, ← Rat.divInt_ofNat, Int.toNat_of_nonneg (Int.le_of_lt hp)]
  conv => rhs; rw [← Rat.num_divInt_den p]
  rw [Rat.divInt_mul_divInt]
theorem ok__law_share (F : Fun K "_law_share" "_law_share" s__law_share f fd) (T : Txt K mg cls) (D__law_q : DDef P w K mg base cls 2 "_law_q" ["top", "bottom"] sp__law_q) : DOk P w K mg base cls 3 f fd ["one", "two"] sp__law_share := by
  refine dfun (k := 2) F sc__law_share fun pen cells cl cdv A outer s H E hr => ⟨_, (ds_one (s_ret (d_callD D__law_q (hr.mono (by decide)) (da_cons (d_op op_oMul (d_ix (dv 0) d_int) (d_ix (dv 1) d_int)) (da_cons (d_op op_oMul (d_ix (dv 0) d_int) (d_ix (dv 1) d_int)) da_nil))))), fun ds Q g hl h => ?_⟩
  obtain ⟨p, q, rfl, hp, hq, h0, h⟩ := h
  have hn : 0 < q.num := (npos q).mpr h0
  walk_at "dl"
  refine ⟨ok_nd hp hq, mul_ok (n := 4000) (m := 4000) (by simpa using hp.2) hq.1 (by decide) (by decide) (by decide), _, _, rfl, Int.mul_pos (den_pos p) hn, ?_, ?_⟩
  · have h := wide_lt (i := (p.den : Int)) (j := q.num) (a := 4000) (b := 4000) (by simpa using hp.2) hq.1
    exact Nat.lt_of_lt_of_le h (Nat.pow_le_pow_right (by decide) (by decide))
  · rw [div_mk h0]; exact h
abbrev s__law_sum : Stmt := top 72
theorem sc__law_sum : FnScope ["items", "found", "item"] ["items"] (defScope s__law_sum) := ⟨rfl, rfl, rfl, by decide +kernel, rfl, by decide +kernel, by decide +kernel⟩
def sp__law_sum : SpD := fun ds P g => ∃ (b : Bool) (xs : List Rat) (n : Nat), ds = [sqD b (xs.map rat)] ∧ (∀ x ∈ xs, Sz n x) ∧ n ≤ 3000 ∧ 1 + xs.length * (n + 1) ≤ 4000 ∧ P (rat xs.sum) g
theorem rat0 : D.tup [.int 0, .int 1] = rat 0 := rfl
theorem rat1 : D.tup [.int 1, .int 1] = rat 1 := rfl
theorem ok__law_sum (F : Fun K "_law_sum" "_law_sum" s__law_sum f fd) (T : Txt K mg cls) (D__law_plus : DDef P w K mg base cls 3 "_law_plus" ["one", "two"] sp__law_plus) : DOk P w K mg base cls 4 f fd ["items"] sp__law_sum := by
  refine dfun (k := 3) F sc__law_sum fun pen cells cl cdv A outer s H E hr => ⟨_, (ds_cons (s_set (i := 1) sc__law_sum.nd rfl (Or.inl rfl) (d_tup (da_cons d_int (da_cons d_int da_nil))))
    (ds_cons (s_for PassesOwn.never rfl (di_seq (dv 0)) (dg_name (i := 2) sc__law_sum.nd rfl (Or.inl rfl))
    (ds_one (s_set (i := 1) sc__law_sum.nd rfl (Or.inl rfl) (d_callD D__law_plus (hr.mono (by decide)) (da_cons (dv 1) (da_cons (dv 2) da_nil))))))
    (ds_one (s_ret (dv 1))))), fun ds Q g hl h => ?_⟩
  obtain ⟨b, xs, n, rfl, hx, hn, hb, h⟩ := h
  walk_at "dl"
  rw [rat0]
  refine for_fold xs _ (fun s ρ => ∃ a, ρ = [.d (sqD b (xs.map rat)), .d (rat s), a]) (fun s x => s + x) (fun i s => Sz (1 + i * (n + 1)) s) 0 ⟨.u, rfl⟩ (by simpa using Sz.zero) ?_ ?_ ?_
  · intro i x s hp hi hz
    refine (hz.add (hx x hp)).mono ?_
    rw [Nat.add_mul]; omega
  · rintro i x s ρ hp hi ⟨a, rfl⟩ hz
    have hs : Sz 4000 s := hz.mono (by
      have : i * (n + 1) ≤ xs.length * (n + 1) := Nat.mul_le_mul_right _ (by omega)
      omega)
    walk_at "dl"
    exact ⟨_, _, rfl, hs, (hx x hp).mono (by omega), rfl, _, rfl⟩
  · rintro ρ ⟨a, rfl⟩ hz
    walk_at "dl"
    rw [DL.foldl_add, Rat.zero_add]; exact h
abbrev s__law_dot : Stmt := top 73
theorem sc__law_dot : FnScope ["one", "other", "a", "b"] ["one", "other"] (defScope s__law_dot) := ⟨rfl, rfl, rfl, by decide +kernel, rfl, by decide +kernel, by decide +kernel⟩
def sp__law_dot : SpD := fun ds P g => ∃ (b1 b2 : Bool) (xs ys : List Rat) (n m : Nat), ds = [sqD b1 (xs.map rat), sqD b2 (ys.map rat)] ∧ (∀ x ∈ xs, Sz n x) ∧ (∀ y ∈ ys, Sz m y) ∧ n ≤ 1500 ∧ m ≤ 1500 ∧ 1 + xs.length * (n + m + 1) ≤ 4000 ∧ P (rat (dotL xs ys)) g
theorem ok__law_dot (F : Fun K "_law_dot" "_law_dot" s__law_dot f fd) (T : Txt K mg cls) (D__law_sum : DDef P w K mg base cls 4 "_law_sum" ["items"] sp__law_sum) (D__law_times : DDef P w K mg base cls 3 "_law_times" ["one", "two"] sp__law_times) : DOk P w K mg base cls 5 f fd ["one", "other"] sp__law_dot := by
  refine dfun (k := 4) F sc__law_dot fun pen cells cl cdv A outer s H E hr => ⟨_, (ds_one (s_ret (d_callD D__law_sum (hr.mono (by decide)) (da_cons (d_of_f (f_lc rfl sc__law_dot.nd (di_zip T.m_zip (dv 0) (dv 1)) (blkOk_by (own := [("a", 2), ("b", 3)]) (N := ["one", "other", "a", "b"]) (sc := defScope s__law_dot) (by decide +kernel)) (by decide) (fun _ _ _ _ _ => (dg_tup (n := 2) rfl (dgs_cons (dg_name (i := 2) sc__law_dot.nd rfl (Or.inl rfl)) (dgs_cons (dg_name (i := 3) sc__law_dot.nd rfl (Or.inl rfl)) dgs_nil)))) (fun _ _ _ _ _ => dts_nil) (fun _ _ _ _ _ => (d_callD D__law_times (hr.mono (by decide)) (da_cons (dv 2) (da_cons (dv 3) da_nil)))))) da_nil)))), fun ds Q g hl h => ?_⟩
  obtain ⟨b1, b2, xs, ys, n, m, rfl, hx, hy, hn, hm, hb, h⟩ := h
  walk_at "dl"
  rw [pairD_map]
  have hmem : ∀ p ∈ xs.zip ys, Sz n p.1 ∧ Sz m p.2 := fun p hp => ⟨hx _ (List.of_mem_zip hp).1, hy _ (List.of_mem_zip hp).2⟩
  have hlen : (xs.zip ys).length ≤ xs.length := by rw [List.length_zip]; omega
  refine lc_map (xs.zip ys) _ (fun p => rat (p.1 * p.2)) (fun p hp => ?_) ?_
  · walk_at "dl"
    exact ⟨_, _, rfl, (hmem p hp).1.mono (by omega), (hmem p hp).2.mono (by omega), rfl, rfl⟩
  · have e : ((xs.zip ys).map fun p => rat (p.1 * p.2)) = ((xs.zip ys).map fun p => p.1 * p.2).map rat := by simp
    rw [e]
    refine ⟨true, _, n + m, rfl, all_map fun p hp => (hmem p hp).1.mul (hmem p hp).2, by omega, ?_, ?_⟩
    · rw [List.length_map]
      have := Nat.mul_le_mul_right (n + m + 1) hlen
      omega
    · rw [← dotF_sum]; exact h
abbrev s__law_turn : Stmt := top 74
theorem sc__law_turn : FnScope ["ratio"] ["ratio"] (defScope s__law_turn) := ⟨rfl, rfl, rfl, by decide +kernel, rfl, by decide +kernel, by decide +kernel⟩
def sp__law_turn : SpD := fun ds P g => ∃ p : Rat, ds = [rat p] ∧ P (rat (-p)) g
theorem ok__law_turn (F : Fun K "_law_turn" "_law_turn" s__law_turn f fd) (T : Txt K mg cls) : DOk P w K mg base cls 1 f fd ["ratio"] sp__law_turn := by
  refine dfun (k := 0) F sc__law_turn fun pen cells cl cdv A outer s H E hr => ⟨_, (ds_one (s_ret (d_tup (da_cons (d_neg (d_ix (dv 0) d_int)) (da_cons (d_ix (dv 0) d_int) da_nil))))), fun ds Q g hl h => ?_⟩
  obtain ⟨p, rfl, h⟩ := h
  walk_at "dl"
  rw [rat_neg]; exact h
abbrev s__law_n_model : Stmt := top 75
theorem sc__law_n_model : FnScope ["book"] ["book"] (defScope s__law_n_model) := ⟨rfl, rfl, rfl, by decide +kernel, rfl, by decide +kernel, by decide +kernel⟩
def sp__law_n_model : SpD := fun ds P g => ∃ M nm cn, ds = [.dic ["tables", "fits", "asks"] [.lst [Inst.tab M nm cn], .lst [Inst.fit M], .lst []]] ∧ P (mod M nm cn) g
theorem get_of {ks : List Str} {xs : List D} {k : Str} {d : D} {P : D → GP} (h : (ks.zip xs).lookup k = some d) : oGet (.dic ks xs) (.str k) P = P d := by
  funext g
  apply propext
  constructor
  · rintro ⟨ks', xs', k', d', e, e2, l, p⟩
    cases e; cases e2
    rw [h] at l; cases l; exact p
  · intro p; exact ⟨_, _, _, _, rfl, rfl, h, p⟩
theorem bk_t {a b c : D} {P : D → GP} : oGet (.dic ["tables", "fits", "asks"] [a, b, c]) (.str "tables") P = P a := get_of rfl
theorem bk_f {a b c : D} {P : D → GP} : oGet (.dic ["tables", "fits", "asks"] [a, b, c]) (.str "fits") P = P b := get_of rfl
theorem bk_a {a b c : D} {P : D → GP} : oGet (.dic ["tables", "fits", "asks"] [a, b, c]) (.str "asks") P = P c := get_of rfl
theorem ok__law_n_model (F : Fun K "_law_n_model" "_law_n_model" s__law_n_model f fd) (T : Txt K mg cls) (D_Model___init__ : DMk P w K mg base cls 2 "Model" 0 3 ["tables", "fits", "asks"] ["self", "tables", "fits", "asks"] sp_Model) : DOk P w K mg base cls 4 f fd ["book"] sp__law_n_model := by
  refine dfun (k := 3) F sc__law_n_model fun pen cells cl cdv A outer s H E hr => ⟨_, (ds_one (s_ret (d_callM D_Model___init__ (hr.mono (by decide)) (da_cons (d_callTy cal_tuple rfl T.m_tuple bv_tuple (da_cons (d_get (hu_of hr) (dv 0) d_str) da_nil)) (da_cons (d_callTy cal_tuple rfl T.m_tuple bv_tuple (da_cons (d_get (hu_of hr) (dv 0) d_str) da_nil)) (da_cons (d_callTy cal_tuple rfl T.m_tuple bv_tuple (da_cons (d_get (hu_of hr) (dv 0) d_str) da_nil)) da_nil)))))), fun ds Q g hl h => ?_⟩
  obtain ⟨M, nm, cn, rfl, h⟩ := h
  walk_at "dl"
  simp only [bk_t, bk_f, bk_a]
  walk_at "dl"
  exact ⟨_, _, _, rfl, h⟩
end
end K64

set_option Elab.async false
set_option linter.all false
set_option maxRecDepth 100000
set_option maxHeartbeats 4000000
set_option exponentiation.threshold 20000
namespace K64
open PySem PySem.Spec L2 DL
open PyProof.Rows hiding St
local macro_rules | `(tactic| walk_at "dl") => `(tactic| simp only [rVar0, rVarS, rC, rNil, rCons, rNext, startD, List.map_cons, List.map_nil, List.length_cons, List.length_nil, List.replicate, Nat.reduceAdd, Nat.reduceSub, List.cons_append, List.nil_append, List.append_nil,
  List.getElem?_cons_zero, List.getElem?_cons_succ, List.set_cons_zero, List.set_cons_succ, Option.some.injEq, SV.d.injEq, SV.o.injEq, exists_eq_left', exists_eq_left, and_true, true_and, if_true, if_false, Bool.false_eq_true, Bool.not_true, Bool.not_false, ↓reduceIte,
  isB_bl, isI_int, add_ii, sub_ii, mul_ii, fdiv_ii, mod_ii, cmp_ii, neg_i, len_t, len_l, abs_i, int_i, int_b, str_i, tuple_t, tuple_l, gcd_ii, isB_bb, notB_bb, isN_x, notN_x, asL_l, asL_t, asL_sq, eq_ii, ne_ii, isN_rat, isN_tup, isN_non, isN_int, isi_rt, isi_ri, isi_rs, isi2_r, ex_cons, ex_tup, eq_self_iff_true, rYes, rgName, ix_t0, ix_t1, ix_t2, ix_t3, ix_t4, ix_r0, ix_r1, Bool.or_false, Bool.or_true, Bool.true_or, Bool.false_or,
  isi_i, isi_ib, isi_it, isi_tt, isi_ti, isi_tl, isi_ll, isi_ts, isi_ss, isi_st, isi2_t, isi2_l, isi2_i, sl0, sl1, sl2, sl3, sl4, sl5, sl6, sl7, sl8, sl9, iteG, rBits, D.int.injEq, wipeD, rBrk, rCnt, Int.cast_ofNat_Int, Int.reduceBEq, beq_self_eq_true, eq_rr, ne_rr, ne_11, Int.ofNat_one, Int.ofNat_zero])
section
variable {P : Program} {w : World} {K : PySem.W.Frag} {mg : Str → Option Value} {base : Heap} {cls : Nat → Addr} {f : Addr} {fd : FuncData}

instance (n : Nat) (q : Rat) : Decidable (Sz n q) := by unfold Sz; infer_instance
theorem tr {a b : Int} (q : Rat) (h1 : q.num = a) (h2 : (q.den : Int) = b) : D.tup [.int a, .int b] = rat q := by unfold rat; rw [h1, h2]
abbrev s__law_n_item : Stmt := top 76
theorem sc__law_n_item : FnScope ["pen"] ["pen"] (defScope s__law_n_item) := ⟨rfl, rfl, rfl, by decide +kernel, rfl, by decide +kernel, by decide +kernel⟩
def sp__law_n_item : SpD := fun ds P g => ds = [.pen] ∧ 1 ≤ g ∧ ∀ q, Sz 3 q → P (rat q) (g - 1)
theorem ok__law_n_item (F : Fun K "_law_n_item" "_law_n_item" s__law_n_item f fd) (T : Txt K mg cls) (D__law_pick : DDef P w K mg base cls 2 "_law_pick" ["pen", "some"] sp__law_pick) : DOk P w K mg base cls 3 f fd ["pen"] sp__law_n_item := by
  refine dfun (k := 2) F sc__law_n_item fun pen cells cl cdv A outer s H E hr => ⟨_, (ds_one (s_ret (d_callD D__law_pick (hr.mono (by decide)) (da_cons (dv 0) (da_cons (d_of_f (f_lst (da_cons (d_tup (da_cons d_int (da_cons d_int da_nil))) (da_cons (d_tup (da_cons d_int (da_cons d_int da_nil))) (da_cons (d_tup (da_cons d_int (da_cons d_int da_nil))) (da_cons (d_tup (da_cons d_int (da_cons d_int da_nil))) (da_cons (d_tup (da_cons d_int (da_cons d_int da_nil))) (da_cons (d_tup (da_cons (d_neg d_int) (da_cons d_int da_nil))) (da_cons (d_tup (da_cons d_int (da_cons d_int da_nil))) (da_cons (d_tup (da_cons d_int (da_cons d_int da_nil))) (da_cons (d_tup (da_cons (d_neg d_int) (da_cons d_int da_nil))) da_nil))))))))))) da_nil))))), fun ds Q g hl h => ?_⟩
  obtain ⟨rfl, hg, h⟩ := h
  walk_at "dl"
  have ok : ∀ (q : Rat) (a b : Int), q.num = a → (q.den : Int) = b → Sz 3 q → Q (.tup [.int a, .int b]) (g - 1) := fun q a b h1 h2 h3 => by rw [tr q h1 h2]; exact h q h3
  refine ⟨true, _, rfl, by simp, by decide, hg, ?_⟩
  simp only [List.forall_mem_cons, List.not_mem_nil, false_implies, implies_true, and_true]
  exact ⟨ok 0 _ _ rfl rfl (by decide +kernel), ok 0 _ _ rfl rfl (by decide +kernel), ok 1 _ _ rfl rfl (by decide +kernel), ok 1 _ _ rfl rfl (by decide +kernel), ok 2 _ _ rfl rfl (by decide +kernel), ok (-1) _ _ rfl rfl (by decide +kernel), ok 3 _ _ rfl rfl (by decide +kernel), ok (mkRat 1 2) _ _ (by decide +kernel) (by decide +kernel) (by decide +kernel), ok (-2) _ _ rfl rfl (by decide +kernel)⟩
abbrev s__law_n_weight : Stmt := top 77
theorem sc__law_n_weight : FnScope ["pen"] ["pen"] (defScope s__law_n_weight) := ⟨rfl, rfl, rfl, by decide +kernel, rfl, by decide +kernel, by decide +kernel⟩
def sp__law_n_weight : SpD := fun ds P g => ds = [.pen] ∧ 1 ≤ g ∧ ∀ q, Sz 3 q → 0 < q → P (rat q) (g - 1)
theorem ok__law_n_weight (F : Fun K "_law_n_weight" "_law_n_weight" s__law_n_weight f fd) (T : Txt K mg cls) (D__law_pick : DDef P w K mg base cls 2 "_law_pick" ["pen", "some"] sp__law_pick) : DOk P w K mg base cls 3 f fd ["pen"] sp__law_n_weight := by
  refine dfun (k := 2) F sc__law_n_weight fun pen cells cl cdv A outer s H E hr => ⟨_, (ds_one (s_ret (d_callD D__law_pick (hr.mono (by decide)) (da_cons (dv 0) (da_cons (d_of_f (f_lst (da_cons (d_tup (da_cons d_int (da_cons d_int da_nil))) (da_cons (d_tup (da_cons d_int (da_cons d_int da_nil))) (da_cons (d_tup (da_cons d_int (da_cons d_int da_nil))) (da_cons (d_tup (da_cons d_int (da_cons d_int da_nil))) (da_cons (d_tup (da_cons d_int (da_cons d_int da_nil))) da_nil))))))) da_nil))))), fun ds Q g hl h => ?_⟩
  obtain ⟨rfl, hg, h⟩ := h
  walk_at "dl"
  have ok : ∀ (q : Rat) (a b : Int), q.num = a → (q.den : Int) = b → Sz 3 q → 0 < q → Q (.tup [.int a, .int b]) (g - 1) := fun q a b h1 h2 h3 h4 => by rw [tr q h1 h2]; exact h q h3 h4
  refine ⟨true, _, rfl, by simp, by decide, hg, ?_⟩
  simp only [List.forall_mem_cons, List.not_mem_nil, false_implies, implies_true, and_true]
  exact ⟨ok 1 _ _ rfl rfl (by decide +kernel) (by decide +kernel), ok 1 _ _ rfl rfl (by decide +kernel) (by decide +kernel), ok 2 _ _ rfl rfl (by decide +kernel) (by decide +kernel), ok 3 _ _ rfl rfl (by decide +kernel) (by decide +kernel), ok (mkRat 1 2) _ _ (by decide +kernel) (by decide +kernel) (by decide +kernel) (by decide +kernel)⟩
abbrev s__law_n_table : Stmt := top 78
theorem sc__law_n_table : FnScope ["pen", "name", "wide", "many", "rows", "k", "n", "row"] ["pen", "name", "wide", "many"] (defScope s__law_n_table) := ⟨rfl, rfl, rfl, by decide +kernel, rfl, by decide +kernel, by decide +kernel⟩
def rowPy (r : Rat × Rat) : PyData := .tuple [.tuple [.int r.1.num, .int (r.1.den : Int)], .tuple [.int r.2.num, .int (r.2.den : Int)]]
theorem py_row (r : Rat × Rat) : (rowD r).py = some (rowPy r) := by unfold rowD; simp only [D.py, D.pys, py_rat]; rfl
theorem pys_rows : ∀ rs : List (Rat × Rat), D.pys (rs.map rowD) = some (rs.map rowPy)
  | [] => rfl
  | r :: rs => by rw [List.map_cons]; simp only [D.pys, py_row, pys_rows rs]; rfl
theorem lay_rows : ∀ rs : List (Rat × Rat), PyData.canLayAll0 (rs.map rowPy) = true
  | [] => by simp only [List.map_nil, PyData.canLayAll0]
  | r :: rs => by
    rw [List.map_cons]; simp only [PyData.canLayAll0, lay_rows rs, Bool.and_true]
    simp only [rowPy, PyData.canLay0, PyData.canLayAll0, Bool.and_self]
theorem depth_rows : ∀ rs : List (Rat × Rat), PyData.depthAll (rs.map rowPy) ≤ 2
  | [] => by simp [PyData.depthAll]
  | r :: rs => by
    rw [List.map_cons]; simp only [PyData.depthAll]
    have := depth_rows rs
    have h2 : PyData.depth (rowPy r) = 2 := by simp [rowPy, PyData.depth, PyData.depthAll]
    rw [h2]; exact Nat.max_le.mpr ⟨Nat.le_refl _, this⟩
theorem ne_nil {rs : List (Rat × Rat)} {P : D → GP} : oNe (.lst (rs.map rowD)) (.lst []) P = P (.bl (!rs.isEmpty)) := by
  funext g
  have h1 : (D.lst (rs.map rowD)).py = some (.list (rs.map rowPy)) := by simp only [D.py, pys_rows]; rfl
  have h2 : (D.lst []).py = some (.list []) := by simp only [D.py, D.pys]; rfl
  have h3 : SeqAt.shaped (.list (rs.map rowPy)) = true := by
    unfold SeqAt.shaped
    have := depth_rows rs
    have e : PyData.depth (.list (rs.map rowPy)) = PyData.depthAll (rs.map rowPy) + 1 := by simp only [PyData.depth]
    rw [Bool.and_eq_true]
    exact ⟨by simp only [PyData.canLay0, lay_rows], decide_eq_true (by rw [e]; omega)⟩
  have h4 : PyData.eqv (.list (rs.map rowPy)) (.list []) = rs.isEmpty := by cases rs <;> rfl
  simp only [oNe, eqOk, eqD, h1, h2, h3, h4, show SeqAt.shaped (.list []) = true from rfl, Bool.and_self, true_and]
theorem own4 {a b c d e f h : SV} {xs : List D} (hx : xs.length ≤ sizeLine) (ha : ∀ ys, a ≠ .o ys) (hb : ∀ ys, b ≠ .o ys) (hc : ∀ ys, c ≠ .o ys) (hd : ∀ ys, d ≠ .o ys) (he : ∀ ys, e ≠ .o ys) (hf : ∀ ys, f ≠ .o ys) (hh : ∀ ys, h ≠ .o ys) :
    ∀ (i : Nat) ys, ([a, b, c, d, .o xs, e, f, h] : List SV)[i]? = some (.o ys) → ys.length ≤ sizeLine := fun i ys q => by
  rcases i with _ | _ | _ | _ | _ | _ | _ | _ | i
  · exact absurd (Option.some.inj q) (ha ys)
  · exact absurd (Option.some.inj q) (hb ys)
  · exact absurd (Option.some.inj q) (hc ys)
  · exact absurd (Option.some.inj q) (hd ys)
  · cases Option.some.inj q; exact hx
  · exact absurd (Option.some.inj q) (he ys)
  · exact absurd (Option.some.inj q) (hf ys)
  · exact absurd (Option.some.inj q) (hh ys)
  · cases q
theorem lf_row (r : Rat × Rat) : LF (rowD r) = true := by unfold rowD rat; simp [LF, LFs]
theorem all2_rat {α : Type} {R : α → Rat → Prop} : ∀ {as : List α} {ys : List D}, All2 (fun a y => ∃ q, y = rat q ∧ R a q) as ys → ∃ qs, ys = qs.map rat ∧ All2 R as qs
  | [], _, .nil => ⟨[], rfl, .nil⟩
  | a :: as, _, .cons h t => by
    obtain ⟨q, rfl, hq⟩ := h
    obtain ⟨qs, rfl, hs⟩ := all2_rat t
    exact ⟨q :: qs, rfl, .cons hq hs⟩
theorem All2.mem {α β : Type} {R : α → β → Prop} {p : β → Prop} {as : List α} {bs : List β} (h : All2 R as bs) (hp : ∀ a b, R a b → p b) : ∀ b ∈ bs, p b := by
  induction h with
  | nil => intro b hb; cases hb
  | cons h t ih =>
    intro b hb
    rcases List.mem_cons.mp hb with rfl | hb
    · exact hp _ _ h
    · exact ih b hb
theorem range2 : rangeD 2 = [(0 : Int), 1].map D.int := rfl
def sp__law_n_table : SpD := fun ds P g => ∃ n : Nat, ds = [.pen, .str "t", .int 2, .int (n : Int)] ∧ 1 ≤ n ∧ n ≤ 6 ∧ 40 ≤ g ∧ ∀ (rows : List (Rat × Rat)) (ws : List Rat) (nm cn : D) (g' : Nat), rows.length = n → ws.length = n → (∀ r ∈ rows, Sz 3 r.1 ∧ Sz 3 r.2) → (∀ w ∈ ws, Sz 3 w ∧ 0 < w) → g ≤ g' + 40 →
  P (.tup [nm, cn, .tup (rows.map rowD), .tup (ws.map rat)]) g'
theorem ok__law_n_table (F : Fun K "_law_n_table" "_law_n_table" s__law_n_table f fd) (T : Txt K mg cls) (D__law_draw : DDef P w K mg base cls 1 "_law_draw" ["pen", "many"] sp__law_draw) (D__law_n_item : DDef P w K mg base cls 3 "_law_n_item" ["pen"] sp__law_n_item) (D__law_n_weight : DDef P w K mg base cls 3 "_law_n_weight" ["pen"] sp__law_n_weight) (D__law_pick : DDef P w K mg base cls 2 "_law_pick" ["pen", "some"] sp__law_pick) : DOk P w K mg base cls 4 f fd ["pen", "name", "wide", "many"] sp__law_n_table := by
  refine dfun (k := 3) F sc__law_n_table fun pen cells cl cdv A outer s H E hr => ⟨_, (ds_cons (s_setO (i := 4) sc__law_n_table.nd rfl (Or.inl rfl) (f_lst da_nil))
    (ds_cons (s_for PassesOwn.never rfl (di_range T.m_range (dv 3)) (dg_name (i := 5) sc__law_n_table.nd rfl (Or.inl rfl))
    (ds_one (s_if (dt_bor [4] (dt_w (dw_and (dt_cmp (op_oNe hr.units) (dv 4) (d_of_f (f_lst da_nil)) (nomark _)) (dw_and1 (dt_cmp (op_oEq hr.units) (d_callD D__law_draw (hr.mono (by decide)) (da_cons (dv 0) (da_cons d_int da_nil))) d_int (nomark _)))))) (ds_one (s_append (i := 4) rfl (d_bor [4] (d_callD D__law_pick (hr.mono (by decide)) (da_cons (dv 0) (da_cons (dv 4) da_nil)))))) (ds_one (s_append (i := 4) rfl (d_callTy cal_tuple rfl T.m_tuple bv_tuple (da_cons (d_of_f (f_lc rfl sc__law_n_table.nd (di_range T.m_range (dv 2)) (blkOk_by (own := [("n", 6)]) (N := ["pen", "name", "wide", "many", "rows", "k", "n", "row"]) (sc := defScope s__law_n_table) (by decide +kernel)) (by decide) (fun _ _ _ _ _ => (dg_name (i := 6) sc__law_n_table.nd rfl (Or.inl rfl))) (fun _ _ _ _ _ => dts_nil) (fun _ _ _ _ _ => (d_callD D__law_n_item (hr.mono (by decide)) (da_cons (dv 0) da_nil))))) da_nil)))))))
    (ds_cons (s_if (dt_w (dw_and (dt_cmp op_oGt (dv 2) d_int (nomark _)) (dw_and1 (dt_cmp (op_oEq hr.units) (d_callD D__law_draw (hr.mono (by decide)) (da_cons (dv 0) (da_cons d_int da_nil))) d_int (nomark _))))) (ss_frz [4] (ds_one (s_setLcO (i := 4) rfl sc__law_n_table.nd rfl rfl (sw_true rfl rfl rfl (by decide +kernel)) (di_seq (dv 4)) (blkOk_by (own := [("row", 7)]) (N := ["pen", "name", "wide", "many", "rows", "k", "n", "row"]) (sc := defScope s__law_n_table) (by decide +kernel)) (by decide) (fun _ _ _ _ _ => (dg_name (i := 7) sc__law_n_table.nd rfl (Or.inl rfl))) (fun _ _ _ _ _ => dts_nil) (fun _ _ _ _ _ => (d_op op_oAdd (d_op op_oAdd (d_slice (dv 7) do_none (do_some d_int)) (d_slice (dv 7) do_none (do_some d_int))) (d_slice (dv 7) (do_some d_int) do_none)))))) ds_nil)
    (ss_frz [4] (ds_one (s_ret (d_tup (da_cons (dv 1) (da_cons (d_callTy cal_tuple rfl T.m_tuple bv_tuple (da_cons (d_of_f (f_lc rfl sc__law_n_table.nd (di_range T.m_range (dv 2)) (blkOk_by (own := [("n", 6)]) (N := ["pen", "name", "wide", "many", "rows", "k", "n", "row"]) (sc := defScope s__law_n_table) (by decide +kernel)) (by decide) (fun _ _ _ _ _ => (dg_name (i := 6) sc__law_n_table.nd rfl (Or.inl rfl))) (fun _ _ _ _ _ => dts_nil) (fun _ _ _ _ _ => (d_op op_oAdd (d_op op_oAdd (dv 1) d_str) (d_callTy cal_str rfl T.m_str bv_str (da_cons (dv 6) da_nil)))))) da_nil)) (da_cons (d_callTy cal_tuple rfl T.m_tuple bv_tuple (da_cons (dv 4) da_nil)) (da_cons (d_callTy cal_tuple rfl T.m_tuple bv_tuple (da_cons (d_of_f (f_lc rfl sc__law_n_table.nd (di_seq (dv 4)) (blkOk_by (own := [("row", 7)]) (N := ["pen", "name", "wide", "many", "rows", "k", "n", "row"]) (sc := defScope s__law_n_table) (by decide +kernel)) (by decide) (fun _ _ _ _ _ => (dg_name (i := 7) sc__law_n_table.nd rfl (Or.inl rfl))) (fun _ _ _ _ _ => dts_nil) (fun _ _ _ _ _ => (d_callD D__law_n_weight (hr.mono (by decide)) (da_cons (dv 0) da_nil))))) da_nil)) da_nil))))))))))), fun ds Q g hl h => ?_⟩
  obtain ⟨n, rfl, h1, h6, hg, h⟩ := h
  walk_at "dl"
  have hl2 : (rangeD (n : Int)).length = n := by unfold rangeD; simp
  refine ⟨⟨by omega, by omega⟩, ?_⟩
  refine for_inv (fun i ρ g' => ∃ (rows : List (Rat × Rat)) (a : SV), ρ = [.d .pen, .d (.str "t"), .d (.int 2), .d (.int (n : Int)), .o (rows.map rowD), a, .u, .u] ∧ (a = .u ∨ ∃ d, a = .d d) ∧ rows.length = i ∧ (∀ r ∈ rows, Sz 3 r.1 ∧ Sz 3 r.2) ∧ g ≤ g' + 3 * i) ⟨[], .u, rfl, .inl rfl, rfl, (fun r hr => by cases hr), by omega⟩ ?_ ?_
  · rintro i x ρ g' hx ⟨rows, a, rfl, _, hlen, hok, hg'⟩
    have hi : i < n := by rw [← hl2]; exact (List.getElem?_eq_some_iff.mp hx).1
    have hs : (rows.map rowD).length ≤ sizeLine := by rw [List.length_map, sizeLine_eq]; omega
    walk_at "dl"
    refine ⟨own4 hs (fun _ z => nomatch z) (fun _ z => nomatch z) (fun _ z => nomatch z) (fun _ z => nomatch z) (fun _ z => nomatch z) (fun _ z => nomatch z) (fun _ z => nomatch z), ?_⟩
    simp only [frz_eq, frzA, Nat.reduceAdd, List.mem_cons, List.not_mem_nil, or_false, if_true]
    walk_at "dl"
    rw [ne_nil]
    walk_at "dl"
    have made : ∀ g2, g' ≤ g2 + 1 → (rows.map rowD).length ≤ 1000000 ∧ ((-1000000 : Int) ≤ 2 ∧ (2 : Int) ≤ 1000000) ∧ lcD (rgName 6) rYes (fun ρ P => rVar 0 ρ fun x g => sp__law_n_item [x] P g) [6] [.d .pen, .d (.str "t"), .d (.int 2), .d (.int (n : Int)), .o (rows.map rowD), .d x, .u, .u] (rangeD 2) (fun ds g' => ∃ (rows' : List (Rat × Rat)) (a : SV), [SV.d .pen, .d (.str "t"), .d (.int 2), .d (.int (n : Int)), .o (rows.map rowD ++ [.tup ds]), .d x, .u, .u] = [.d .pen, .d (.str "t"), .d (.int 2), .d (.int (n : Int)), .o (rows'.map rowD), a, .u, .u] ∧ (a = .u ∨ ∃ d, a = .d d) ∧ rows'.length = i + 1 ∧ (∀ r ∈ rows', Sz 3 r.1 ∧ Sz 3 r.2) ∧ g ≤ g' + 3 * (i + 1)) g2 := fun g2 hg2 => by
      refine ⟨by rw [List.length_map]; omega, ⟨by decide, by decide⟩, ?_⟩
      rw [range2]
      refine lc_all [(0 : Int), 1] D.int (fun _ y => ∃ q, y = rat q ∧ Sz 3 q) (fun k g3 => g2 ≤ g3 + k) ?_ (by omega) ?_
      · intro k a g3 ha hk hg3
        have : k < 2 := hk
        walk_at "dl"
        exact ⟨rfl, by omega, fun q hq => ⟨⟨q, rfl, hq⟩, by omega⟩⟩
      · intro ys g3 hys hg3
        have hg4 : g2 ≤ g3 + 2 := hg3
        obtain ⟨qs, rfl, hqs⟩ := all2_rat (R := fun _ q => Sz 3 q) hys
        match qs, hqs with
        | [q1, q2], .cons h1 (.cons h2 .nil) =>
          exact ⟨rows ++ [(q1, q2)], _, by rw [List.map_append]; rfl, .inr ⟨_, rfl⟩, by simp [hlen], fun r hr => by
            rcases List.mem_append.mp hr with hr | hr
            · exact hok r hr
            · rw [List.mem_singleton.mp hr]; exact ⟨h1, h2⟩, by omega⟩
    by_cases hr0 : rows = []
    · rw [if_neg (by rw [hr0]; decide)]
      exact made g' (by omega)
    · rw [if_pos (by cases rows with | nil => exact absurd rfl hr0 | cons _ _ => rfl)]
      refine ⟨4, rfl, by decide, by decide, by omega, fun r h0 h1 => ?_⟩
      walk_at "dl"
      by_cases hz : (r == 0) = true
      · rw [if_pos hz]
        refine ⟨by rw [List.length_map]; omega, own4 hs (fun _ z => nomatch z) (fun _ z => nomatch z) (fun _ z => nomatch z) (fun _ z => nomatch z) (fun _ z => nomatch z) (fun _ z => nomatch z) (fun _ z => nomatch z), true, rows.map rowD, rfl, by simpa using hr0, by rw [List.length_map]; omega, by omega, fun d hd => ?_⟩
        obtain ⟨r0, hr1, rfl⟩ := List.mem_map.mp hd
        refine ⟨lf_row r0, rows ++ [r0], _, by rw [List.map_append]; rfl, .inr ⟨_, rfl⟩, by simp [hlen], fun r hr => ?_, by omega⟩
        rcases List.mem_append.mp hr with hr | hr
        · exact hok r hr
        · rw [List.mem_singleton.mp hr]; exact hok r0 hr1
      · rw [if_neg hz]; exact made (g' - 1) (by omega)
  · rintro ρ g' ⟨rows, a, rfl, ha, hlen, hok, hg'⟩
    rw [hl2] at hlen hg'
    have cut1 : ∀ (x y : D) (P : D → GP), oCut (.tup [x, y]) none (some 1) P = P (.tup [x]) := fun x y P => by
      funext g; show (¬ _ ∧ P (.tup [x]) g) = _; simp [show ¬ (HT.sIx 2 0 none = 0 ∧ HT.sIx 2 2 (some 1) = 2) from by decide]
    have cut2 : ∀ (x y : D) (P : D → GP), oCut (.tup [x, y]) (some 2) none P = P (.tup []) := fun x y P => by
      funext g; show (¬ _ ∧ P (.tup []) g) = _; simp [show ¬ (HT.sIx 2 0 (some 2) = 0 ∧ HT.sIx 2 2 none = 2) from by decide]
    have fin : ∀ (a : SV) (rows : List (Rat × Rat)) (g2 : Nat), rows.length = n → (∀ r ∈ rows, Sz 3 r.1 ∧ Sz 3 r.2) → g ≤ g2 + 25 → (((-1000000 : Int) ≤ 2 ∧ (2 : Int) ≤ 1000000) ∧
        lcD (rgName 6) rYes (fun ρ P => rVar 1 ρ fun x => oAdd x (.str "c") fun x => rVar 6 ρ fun x_1 => bStr [x_1] fun y => oAdd x y P) [6] [.d .pen, .d (.str "t"), .d (.int 2), .d (.int (n : Int)), .d (.lst (rows.map rowD)), a, .u, .u] (rangeD 2)
          (fun ds => lcD (rgName 7) rYes (fun ρ P => rVar 0 ρ fun x g => sp__law_n_weight [x] P g) [7] [.d .pen, .d (.str "t"), .d (.int 2), .d (.int (n : Int)), .d (.lst (rows.map rowD)), a, .u, .u] (rows.map rowD) fun ds_1 => Q (.tup [.str "t", .tup ds, .tup (rows.map rowD), .tup ds_1])) g2) := fun a rows g2 hlen hok hg2 => by
      refine ⟨⟨by decide, by decide⟩, ?_⟩
      rw [range2]
      refine lc_all [(0 : Int), 1] D.int (fun _ _ => True) (fun _ g' => g' = g2) ?_ rfl ?_
      · rintro k i g3 hi hk rfl
        walk_at "dl"
        have : i = 0 ∨ i = 1 := by simpa using hi
        rcases this with rfl | rfl
        · exact ⟨by decide, by decide, by decide +kernel, rfl⟩
        · exact ⟨by decide, by decide, by decide +kernel, rfl⟩
      · rintro ds g3 _ rfl
        refine lc_all rows rowD (fun _ y => ∃ q, y = rat q ∧ Sz 3 q ∧ 0 < q) (fun k g4 => g3 ≤ g4 + k) ?_ (by omega) ?_
        · intro k r g4 hr hk hg4
          walk_at "dl"
          exact ⟨rfl, by omega, fun q hq hq0 => ⟨⟨q, rfl, hq, hq0⟩, by omega⟩⟩
        · intro ys g4 hys hg4
          obtain ⟨ws, rfl, hws⟩ := all2_rat (R := fun _ q => Sz 3 q ∧ 0 < q) hys
          exact h rows ws _ _ g4 hlen (by rw [← hws.length, hlen]) hok (All2.mem hws fun _ _ z => z) (by omega)
    have em : (rows.map fun r => rowD (r.1, r.1)) = (rows.map fun r => ((r.1, r.1) : Rat × Rat)).map rowD := by simp
    rcases ha with rfl | ⟨d, rfl⟩
    · walk_at "dl"
      simp only [frz_eq, frzA, Nat.reduceAdd, List.mem_cons, List.not_mem_nil, or_false, if_true]
      walk_at "dl"
      refine ⟨5, rfl, by decide, by decide, by omega, fun r h0 h1 => ?_⟩
      walk_at "dl"
      by_cases hz : (r == 0) = true
      · rw [if_pos hz]
        refine lc_map rows rowD (fun r => rowD (r.1, r.1)) (fun r hr => ?_) ?_
        · walk_at "dl"
          simp only [rowD, rNoP, cut1, cut2]
          refine ⟨by simp, by simp [sizeLine_eq], ?_⟩
          exact ⟨by simp, by simp [sizeLine_eq], rfl, rfl⟩
        · rw [em]
          simp only [frzA, Nat.reduceAdd, List.mem_cons, List.not_mem_nil, or_false, if_true]
          walk_at "dl"
          exact fin _ _ _ (by rw [List.length_map]; exact hlen) (all_map fun r hr => ⟨(hok r hr).1, (hok r hr).1⟩) (by omega)
      · rw [if_neg hz]
        exact fin _ _ _ hlen hok (by omega)
    · walk_at "dl"
      simp only [frz_eq, frzA, Nat.reduceAdd, List.mem_cons, List.not_mem_nil, or_false, if_true]
      walk_at "dl"
      refine ⟨5, rfl, by decide, by decide, by omega, fun r h0 h1 => ?_⟩
      walk_at "dl"
      by_cases hz : (r == 0) = true
      · rw [if_pos hz]
        refine lc_map rows rowD (fun r => rowD (r.1, r.1)) (fun r hr => ?_) ?_
        · walk_at "dl"
          simp only [rowD, rNoP, cut1, cut2]
          refine ⟨by simp, by simp [sizeLine_eq], ?_⟩
          exact ⟨by simp, by simp [sizeLine_eq], rfl, rfl⟩
        · rw [em]
          simp only [frzA, Nat.reduceAdd, List.mem_cons, List.not_mem_nil, or_false, if_true]
          walk_at "dl"
          exact fin _ _ _ (by rw [List.length_map]; exact hlen) (all_map fun r hr => ⟨(hok r hr).1, (hok r hr).1⟩) (by omega)
      · rw [if_neg hz]
        exact fin _ _ _ hlen hok (by omega)
abbrev s__law_n_features : Stmt := top 79
theorem sc__law_n_features : FnScope ["book", "f", "fit", "row", "k"] ["book", "f"] (defScope s__law_n_features) := ⟨rfl, rfl, rfl, by decide +kernel, rfl, by decide +kernel, by decide +kernel⟩
theorem ix_l0 {x : D} {xs : List D} {P : D → GP} : oIx (.lst (x :: xs)) (.int 0) P = P x := ix_l at0
def sp__law_n_features : SpD := fun ds P g => ∃ M nm cn, ds = [.dic ["tables", "fits", "asks"] [.lst [Inst.tab M nm cn], .lst [Inst.fit M], .lst []], .int 0] ∧ P (.tup (M.rows.map fun r => oneD (M.x r))) g
theorem ok__law_n_features (F : Fun K "_law_n_features" "_law_n_features" s__law_n_features f fd) (T : Txt K mg cls) : DOk P w K mg base cls 1 f fd ["book", "f"] sp__law_n_features := by
  refine dfun (k := 0) F sc__law_n_features fun pen cells cl cdv A outer s H E hr => ⟨_, (ds_cons (s_set (i := 2) sc__law_n_features.nd rfl (Or.inr rfl) (d_ix (d_get (hu_of hr) (dv 0) d_str) (dv 1)))
    (ds_one (s_ret (d_callTy cal_tuple rfl T.m_tuple bv_tuple (da_cons (d_of_f (f_lc rfl sc__law_n_features.nd (di_seq (d_ix (d_ix (d_get (hu_of hr) (dv 0) d_str) (d_ix (dv 2) d_int)) d_int)) (blkOk_by (own := [("row", 3)]) (N := ["book", "f", "fit", "row", "k"]) (sc := defScope s__law_n_features) (by decide +kernel)) (by decide) (fun _ _ _ _ _ => (dg_name (i := 3) sc__law_n_features.nd rfl (Or.inr rfl))) (fun _ _ _ _ _ => dts_nil) (fun _ _ _ _ _ => (d_callTy cal_tuple rfl T.m_tuple bv_tuple (da_cons (d_of_f (f_lc rfl sc__law_n_features.nd (di_seq (d_ix (dv 2) d_int)) (blkOk_by (own := [("k", 4)]) (N := ["book", "f", "fit", "row", "k"]) (by kernel_rfl)) (by decide) (fun _ _ _ _ _ => (dg_name (i := 4) sc__law_n_features.nd rfl (Or.inl rfl))) (fun _ _ _ _ _ => dts_nil) (fun _ _ _ _ _ => (d_if (dt_cmp op_oIsN (dv 4) d_non (nomark _)) (d_tup (da_cons d_int (da_cons d_int da_nil))) (d_ix (dv 3) (dv 4)))))) da_nil))))) da_nil))))), fun ds Q g hl h => ?_⟩
  obtain ⟨M, nm, cn, rfl, h⟩ := h
  walk_at "dl"
  simp only [bk_t, bk_f, bk_a, ix_l0, Inst.fit, Inst.tab, ix_t1, ix_t2, asL_t]
  refine lc_map M.rows rowD (fun r => oneD (M.x r)) (fun r hr => ?_) h
  walk_at "dl"
  refine lc_map [()] (fun _ => M.col) (fun _ => rat (M.x r)) (fun _ _ => ?_) ⟨rfl, rfl⟩
  walk_at "dl"
  unfold Inst.col Inst.x
  split
  · walk_at "dl"
    rfl
  · unfold rowD
    walk_at "dl"
abbrev s__law_share_drawn : Stmt := top 80
theorem sc__law_share_drawn : FnScope ["pen", "low", "high"] ["pen", "low", "high"] (defScope s__law_share_drawn) := ⟨rfl, rfl, rfl, by decide +kernel, rfl, by decide +kernel, by decide +kernel⟩
def sp__law_share_drawn : SpD := fun ds P g => ∃ (lo hi : Rat) (n : Nat), ds = [.pen, rat lo, rat hi] ∧ Sz n lo ∧ Sz n hi ∧ n ≤ 500 ∧ 1 ≤ g ∧ ∀ t, 0 ≤ t → t ≤ 1 → Sz 4 t → P (rat (lo + t * (hi - lo))) (g - 1)
theorem quarter {r : Int} (h0 : 0 ≤ r) (h1 : r < 5) : 0 ≤ mkRat r 4 ∧ mkRat r 4 ≤ 1 ∧ Sz 4 (mkRat r 4) := by
  have : r = 0 ∨ r = 1 ∨ r = 2 ∨ r = 3 ∨ r = 4 := by omega
  rcases this with rfl | rfl | rfl | rfl | rfl <;> exact ⟨by decide +kernel, by decide +kernel, by decide +kernel, by decide +kernel⟩
theorem ok__law_share_drawn (F : Fun K "_law_share_drawn" "_law_share_drawn" s__law_share_drawn f fd) (T : Txt K mg cls) (D__law_draw : DDef P w K mg base cls 1 "_law_draw" ["pen", "many"] sp__law_draw) (D__law_minus : DDef P w K mg base cls 3 "_law_minus" ["one", "two"] sp__law_minus) (D__law_plus : DDef P w K mg base cls 3 "_law_plus" ["one", "two"] sp__law_plus) (D__law_q : DDef P w K mg base cls 2 "_law_q" ["top", "bottom"] sp__law_q) (D__law_times : DDef P w K mg base cls 3 "_law_times" ["one", "two"] sp__law_times) : DOk P w K mg base cls 4 f fd ["pen", "low", "high"] sp__law_share_drawn := by
  refine dfun (k := 3) F sc__law_share_drawn fun pen cells cl cdv A outer s H E hr => ⟨_, (ds_one (s_ret (d_callD D__law_plus (hr.mono (by decide)) (da_cons (dv 1) (da_cons (d_callD D__law_times (hr.mono (by decide)) (da_cons (d_callD D__law_q (hr.mono (by decide)) (da_cons (d_callD D__law_draw (hr.mono (by decide)) (da_cons (dv 0) (da_cons d_int da_nil))) (da_cons d_int da_nil))) (da_cons (d_callD D__law_minus (hr.mono (by decide)) (da_cons (dv 2) (da_cons (dv 1) da_nil))) da_nil))) da_nil))))), fun ds Q g hl h => ?_⟩
  obtain ⟨lo, hi, n, rfl, hlo, hhi, hn, hg, h⟩ := h
  walk_at "dl"
  refine ⟨5, rfl, by decide, by decide, hg, fun r h0 h1 => ?_⟩
  obtain ⟨k1, k2, k3⟩ := quarter h0 h1
  refine ⟨_, _, rfl, by decide, by decide, ?_⟩
  refine ⟨_, _, rfl, hhi.mono (by omega), hlo.mono (by omega), ?_⟩
  refine ⟨_, _, rfl, k3.mono (by decide), (hhi.sub hlo).mono (by omega), ?_⟩
  exact ⟨_, _, rfl, hlo.mono (by omega), (k3.mul (hhi.sub hlo)).mono (by omega), h _ k1 k2 k3⟩
abbrev s__law_number : Stmt := top 82
theorem sc__law_number : FnScope ["model", "f", "signs", "pulls"] ["model", "f", "signs", "pulls"] (defScope s__law_number) := ⟨rfl, rfl, rfl, by decide +kernel, rfl, by decide +kernel, by decide +kernel⟩
def sp__law_number : SpD := fun ds P g => ∃ (M : Inst) (nm cn : D) (ss : List Rat) (a b : Rat), ds = [mod M nm cn, .int 0, .tup (ss.map rat), .tup [rat a, rat b]] ∧ M.Ok ∧ ss.length ≤ 6 ∧ (∀ s ∈ ss, Sz 60 s) ∧ Sz 500 a ∧ Sz 500 b ∧ P (rat (dotL ss (M.rows.map (·.2)) - (b * M.hi - a * M.lo))) g
theorem ok__law_number (F : Fun K "_law_number" "_law_number" s__law_number f fd) (T : Txt K mg cls) (D__law_dot : DDef P w K mg base cls 5 "_law_dot" ["one", "other"] sp__law_dot) (D__law_minus : DDef P w K mg base cls 3 "_law_minus" ["one", "two"] sp__law_minus) (D_pulled_there : DDef P w K mg base cls 6 "pulled_there" ["model", "fit", "pulls"] sp_pulled_there) (D_targets_there : DDef P w K mg base cls 4 "targets_there" ["model", "fit"] sp_targets_there) : DOk P w K mg base cls 7 f fd ["model", "f", "signs", "pulls"] sp__law_number := by
  refine dfun (k := 6) F sc__law_number fun pen cells cl cdv A outer s H E hr => ⟨_, (ds_one (s_ret (d_callD D__law_minus (hr.mono (by decide)) (da_cons (d_callD D__law_dot (hr.mono (by decide)) (da_cons (dv 2) (da_cons (d_callD D_targets_there (hr.mono (by decide)) (da_cons (dv 0) (da_cons (dv 1) da_nil))) da_nil))) (da_cons (d_ix (d_callD D_pulled_there (hr.mono (by decide)) (da_cons (dv 0) (da_cons (dv 1) (da_cons (dv 3) da_nil)))) d_int) da_nil))))), fun ds Q g hl h => ?_⟩
  obtain ⟨M, nm, cn, ss, a, b, rfl, ok, hl', hs, ha, hb, h⟩ := h
  walk_at "dl"
  refine ⟨M, nm, cn, rfl, ok, ?_⟩
  have e : (M.rows.map fun r => rat r.2) = (M.rows.map (·.2)).map rat := by simp
  rw [e]
  refine ⟨false, false, ss, _, 60, 8, rfl, hs, all_map fun r hr => (ok.sr r hr).2, by decide, by decide, dot_ok hl' _ _ (by decide), ?_⟩
  refine ⟨M, nm, cn, a, b, rfl, ok, ha, hb, ?_⟩
  walk_at "dl"
  refine ⟨_, _, rfl, ?_, ?_, h⟩
  · have := dot_sz (n := 60) (m := 8) (ps := ss.zip (M.rows.map (·.2))) fun p hp => ⟨hs _ (List.of_mem_zip hp).1, all_map (p := Sz 8) (fun r hr => (ok.sr r hr).2) _ (List.of_mem_zip hp).2⟩
    refine Sz.mono this ?_
    have h2 : (ss.zip (M.rows.map (·.2))).length ≤ 6 := by rw [List.length_zip]; omega
    have := Nat.mul_le_mul h2 (Nat.le_refl (60 + 8 + 1))
    omega
  · exact ((hb.mul ok.hi).sub (ha.mul ok.lo)).mono (by decide)
end
end K64

set_option Elab.async false
set_option linter.all false
set_option maxRecDepth 100000
set_option maxHeartbeats 4000000
set_option exponentiation.threshold 20000
namespace K64
open PySem PySem.Spec L2 DL
open PyProof.Rows hiding St
local macro_rules | `(tactic| walk_at "dl") => `(tactic| simp only [rVar0, rVarS, rC, rNil, rCons, rNext, startD, List.map_cons, List.map_nil, List.length_cons, List.length_nil, List.replicate, Nat.reduceAdd, Nat.reduceSub, List.cons_append, List.nil_append, List.append_nil,
  List.getElem?_cons_zero, List.getElem?_cons_succ, List.set_cons_zero, List.set_cons_succ, Option.some.injEq, SV.d.injEq, SV.o.injEq, exists_eq_left', exists_eq_left, and_true, true_and, if_true, if_false, Bool.false_eq_true, Bool.not_true, Bool.not_false, ↓reduceIte,
  isB_bl, isI_int, add_ii, sub_ii, mul_ii, fdiv_ii, mod_ii, cmp_ii, neg_i, len_t, len_l, abs_i, int_i, int_b, str_i, tuple_t, tuple_l, gcd_ii, isB_bb, notB_bb, isN_x, notN_x, asL_l, asL_t, asL_sq, eq_ii, ne_ii, isN_rat, isN_tup, isN_non, isN_int, isi_rt, isi_ri, isi_rs, isi2_r, ex_cons, ex_tup, eq_self_iff_true, rYes, rgName, ix_t0, ix_t1, ix_t2, ix_t3, ix_t4, ix_r0, ix_r1, Bool.or_false, Bool.or_true, Bool.true_or, Bool.false_or,
  isi_i, isi_ib, isi_it, isi_tt, isi_ti, isi_tl, isi_ll, isi_ts, isi_ss, isi_st, isi2_t, isi2_l, isi2_i, sl0, sl1, sl2, sl3, sl4, sl5, sl6, sl7, sl8, sl9, iteG, rBits, D.int.injEq, wipeD, rBrk, rCnt, Int.cast_ofNat_Int, Int.reduceBEq, beq_self_eq_true, eq_rr, ne_rr, ne_11, Int.ofNat_one, Int.ofNat_zero])
section
variable {P : Program} {w : World} {K : PySem.W.Frag} {mg : Str → Option Value} {base : Heap} {cls : Nat → Addr} {f : Addr} {fd : FuncData}

abbrev s__law_signs : Stmt := top 81
theorem sc__law_signs : FnScope ["pen", "word", "weights", "sizes", "total", "low", "high", "w", "size"] ["pen", "word", "weights"] (defScope s__law_signs) := ⟨rfl, rfl, rfl, by decide +kernel, rfl, by decide +kernel, by decide +kernel⟩
def SgOk : Wo → List Rat → List Rat → Prop
  | .sums, ws, ss => All2 (fun w s => -w ≤ s ∧ s ≤ w) ws ss
  | .greatest, _, ss => (ss.map Rat.abs).sum ≤ 1
  | .part q, ws, ss => All2 (fun w s => w * (q - 1) ≤ s ∧ s ≤ w * q) ws ss
  | .squares, _, _ => False
def sp__law_signs : SpD := fun ds P g => ∃ (w : Wo) (ws : List Rat), ds = [.pen, w.d, .tup (ws.map rat)] ∧ w.Ok ∧ w ≠ .squares ∧ ws.length ≤ 6 ∧ (∀ w ∈ ws, Sz 3 w ∧ 0 < w) ∧ 20 ≤ g ∧ ∀ (ss : List Rat) (g' : Nat), ss.length = ws.length → (∀ s ∈ ss, Sz 60 s) → SgOk w ws ss → g ≤ g' + 20 → P (.tup (ss.map rat)) g'
theorem _root_.DL.All2.imp {α β : Type} {R S : α → β → Prop} {as : List α} {bs : List β} (h : All2 R as bs) (k : ∀ a b, R a b → S a b) : All2 S as bs := by
  induction h with
  | nil => exact .nil
  | cons h t ih => exact .cons (k _ _ h) ih
theorem _root_.DL.All2.maps {α β γ : Type} {f : α → γ} {e : β → γ} {as : List α} {bs : List β} (h : All2 (fun a b => e b = f a) as bs) : bs.map e = as.map f := by
  induction h with
  | nil => rfl
  | cons h t ih => rw [List.map_cons, List.map_cons, h, ih]
theorem _root_.DL.Sz.div {n m : Nat} {p q : Rat} (a : Sz n p) (b : Sz m q) (h : 0 < q) : Sz (n + m) (p / q) := by
  rw [← div_mk h]
  have e : 2 ^ (n + m) = 2 ^ n * 2 ^ m := Nat.pow_add ..
  have := a.pos
  have hq := (npos q).mpr h
  refine sz_mk (by omega) ?_ ?_ <;> rw [e]
  · rw [Int.natAbs_mul, Int.natAbs_natCast]; exact Nat.mul_lt_mul'' a.1 b.2
  · have h2 : ((p.den : Int) * q.num).toNat = p.den * q.num.natAbs := by
      rw [show q.num = ((q.num.natAbs : Nat) : Int) by omega, ← Int.natCast_mul, Int.toNat_natCast, Int.natAbs_natCast]
    rw [h2]; exact Nat.mul_lt_mul'' a.2 b.1
theorem abs_pos1 {x : Rat} (h : 0 ≤ x) : (1 * x).abs = x := by unfold Rat.abs; split <;> grind
theorem abs_neg1 {x : Rat} (h : 0 ≤ x) : (-1 * x).abs = x := by unfold Rat.abs; split <;> grind
theorem rat_int (i : Int) : D.tup [.int i, .int 1] = rat (i : Rat) := tr _ (Rat.num_intCast i) (by rw [Rat.den_intCast]; rfl)
theorem nonneg_sum : ∀ {xs : List Rat}, (∀ x ∈ xs, 0 ≤ x) → 0 ≤ xs.sum
  | [], _ => by simp
  | x :: xs, h => by
    rw [List.sum_cons]
    have h1 := h x (by simp)
    have h2 := nonneg_sum (xs := xs) fun y hy => h y (by simp [hy])
    grind
theorem sum_div {T : Rat} : ∀ xs : List Rat, (xs.map fun x => x / T).sum = xs.sum / T
  | [] => by simp [Rat.div_def]
  | x :: xs => by rw [List.map_cons, List.sum_cons, List.sum_cons, sum_div xs, Rat.div_def, Rat.div_def, Rat.div_def]; grind
theorem ok__law_signs (F : Fun K "_law_signs" "_law_signs" s__law_signs f fd) (T : Txt K mg cls) (D__law_draw : DDef P w K mg base cls 1 "_law_draw" ["pen", "many"] sp__law_draw) (D__law_minus : DDef P w K mg base cls 3 "_law_minus" ["one", "two"] sp__law_minus) (D__law_pick : DDef P w K mg base cls 2 "_law_pick" ["pen", "some"] sp__law_pick) (D__law_share : DDef P w K mg base cls 3 "_law_share" ["one", "two"] sp__law_share) (D__law_share_drawn : DDef P w K mg base cls 4 "_law_share_drawn" ["pen", "low", "high"] sp__law_share_drawn) (D__law_sum : DDef P w K mg base cls 4 "_law_sum" ["items"] sp__law_sum) (D__law_times : DDef P w K mg base cls 3 "_law_times" ["one", "two"] sp__law_times) : DOk P w K mg base cls 5 f fd ["pen", "word", "weights"] sp__law_signs := by
  refine dfun (k := 4) F sc__law_signs fun pen cells cl cdv A outer s H E hr => ⟨_, (ds_cons (s_if (dt_cmp (op_oEq hr.units) (dv 1) d_str (nomark _)) (ds_cons (s_setLc (i := 3) rfl sc__law_signs.nd rfl rfl (sw_true rfl rfl rfl (by decide +kernel)) (di_seq (dv 2)) (blkOk_by (own := [("w", 7)]) (N := ["pen", "word", "weights", "sizes", "total", "low", "high", "w", "size"]) (sc := defScope s__law_signs) (by decide +kernel)) (by decide) (fun _ _ _ _ _ => (dg_name (i := 7) sc__law_signs.nd rfl (Or.inl rfl))) (fun _ _ _ _ _ => dts_nil) (fun _ _ _ _ _ => (d_tup (da_cons (d_callD D__law_draw (hr.mono (by decide)) (da_cons (dv 0) (da_cons d_int da_nil))) (da_cons d_int da_nil)))))
    (ds_cons (s_set (i := 4) sc__law_signs.nd rfl (Or.inr rfl) (d_callD D__law_sum (hr.mono (by decide)) (da_cons (dv 3) da_nil)))
    (ds_one (s_ret (d_callTy cal_tuple rfl T.m_tuple bv_tuple (da_cons (d_of_f (f_lc rfl sc__law_signs.nd (di_seq (dv 3)) (blkOk_by (own := [("size", 8)]) (N := ["pen", "word", "weights", "sizes", "total", "low", "high", "w", "size"]) (sc := defScope s__law_signs) (by decide +kernel)) (by decide) (fun _ _ _ _ _ => (dg_name (i := 8) sc__law_signs.nd rfl (Or.inl rfl))) (fun _ _ _ _ _ => dts_nil) (fun _ _ _ _ _ => (d_if (dt_cmp op_oGt (d_ix (dv 4) d_int) d_int (nomark _)) (d_callD D__law_times (hr.mono (by decide)) (da_cons (d_tup (da_cons (d_callD D__law_pick (hr.mono (by decide)) (da_cons (dv 0) (da_cons (d_of_f (f_lst (da_cons d_int (da_cons (d_neg d_int) da_nil)))) da_nil))) (da_cons d_int da_nil))) (da_cons (d_callD D__law_share (hr.mono (by decide)) (da_cons (dv 8) (da_cons (dv 4) da_nil))) da_nil))) (d_tup (da_cons d_int (da_cons d_int da_nil))))))) da_nil)))))) ds_nil)
    (ds_cons (s_set (i := 5) sc__law_signs.nd rfl (Or.inr rfl) (d_if (dt_val (d_isi rfl T.m_isinstance bv_isinstance rfl T.m_tuple bv_tuple (dv 1))) (d_callD D__law_minus (hr.mono (by decide)) (da_cons (dv 1) (da_cons (d_tup (da_cons d_int (da_cons d_int da_nil))) da_nil))) (d_tup (da_cons (d_neg d_int) (da_cons d_int da_nil)))))
    (ds_cons (s_set (i := 6) sc__law_signs.nd rfl (Or.inr rfl) (d_if (dt_val (d_isi rfl T.m_isinstance bv_isinstance rfl T.m_tuple bv_tuple (dv 1))) (dv 1) (d_tup (da_cons d_int (da_cons d_int da_nil)))))
    (ds_one (s_ret (d_callTy cal_tuple rfl T.m_tuple bv_tuple (da_cons (d_of_f (f_lc rfl sc__law_signs.nd (di_seq (dv 2)) (blkOk_by (own := [("w", 7)]) (N := ["pen", "word", "weights", "sizes", "total", "low", "high", "w", "size"]) (sc := defScope s__law_signs) (by decide +kernel)) (by decide) (fun _ _ _ _ _ => (dg_name (i := 7) sc__law_signs.nd rfl (Or.inl rfl))) (fun _ _ _ _ _ => dts_nil) (fun _ _ _ _ _ => (d_callD D__law_times (hr.mono (by decide)) (da_cons (dv 7) (da_cons (d_callD D__law_share_drawn (hr.mono (by decide)) (da_cons (dv 0) (da_cons (dv 5) (da_cons (dv 6) da_nil)))) da_nil)))))) da_nil))))))), fun ds Q g hl h => ?_⟩
  obtain ⟨w, ws, rfl, ok, hns, hlen, hws, hg, h⟩ := h
  have hsh : ∀ (lo hi : Rat) (n : Nat), Sz n lo → Sz n hi → n ≤ 10 → lo ≤ hi → (∀ ss : List Rat, All2 (fun w s => w * lo ≤ s ∧ s ≤ w * hi) ws ss → SgOk w ws ss) → ∀ ρ : List SV, ρ[0]? = some (.d .pen) → ρ[5]? = some (.d (rat lo)) → ρ[6]? = some (.d (rat hi)) → ρ.length = 9 →
      lcD (rgName 7) rYes (fun ρ P => rVar 7 ρ fun x => rVar 0 ρ fun x_1 => rVar 5 ρ fun x_2 => rVar 6 ρ fun x_3 g => sp__law_share_drawn [x_1, x_2, x_3] (fun x_4 g => sp__law_times [x, x_4] P g) g) [7] ρ (ws.map rat) (fun ds => Q (.tup ds)) g := fun lo hi n hlo hhi hn hle hso ρ e0 e5 e6 el => by
    match ρ, el, e0, e5, e6 with
    | [r0, r1, r2, r3, r4, r5, r6, r7, r8], _, e0, e5, e6 =>
      cases e0
      cases e5
      cases e6
      refine lc_all ws rat (fun w y => ∃ s, y = rat s ∧ Sz 60 s ∧ w * lo ≤ s ∧ s ≤ w * hi) (fun k g' => g ≤ g' + k) ?_ (by omega) ?_
      · intro k w' g' hw hk hg'
        obtain ⟨z1, z2⟩ := hws w' hw
        walk_at "dl"
        refine ⟨lo, hi, n, rfl, hlo, hhi, by omega, by omega, fun t t0 t1 tz => ?_⟩
        refine ⟨_, _, rfl, z1.mono (by decide), (hlo.add (tz.mul (hhi.sub hlo))).mono (by omega), ⟨_, rfl, (z1.mul (hlo.add (tz.mul (hhi.sub hlo)))).mono (by omega), ?_, ?_⟩, by omega⟩
        · have h3 : 0 ≤ t * (hi - lo) := Rat.mul_nonneg t0 (by grind)
          have h4 : 0 ≤ w' * (t * (hi - lo)) := Rat.mul_nonneg (Rat.le_of_lt z2) h3
          grind
        · have h3 : 0 ≤ (1 - t) * (hi - lo) := Rat.mul_nonneg (by grind) (by grind)
          have h4 : 0 ≤ w' * ((1 - t) * (hi - lo)) := Rat.mul_nonneg (Rat.le_of_lt z2) h3
          grind
      · intro ys g' hys hg'
        obtain ⟨ss, rfl, hss⟩ := all2_rat (R := fun w s => Sz 60 s ∧ w * lo ≤ s ∧ s ≤ w * hi) hys
        refine h ss g' hss.length.symm (All2.mem hss fun _ _ z => z.1) (hso ss ?_) (by omega)
        exact hss.imp fun _ _ z => z.2
  cases w with
  | squares => exact absurd rfl hns
  | sums =>
    simp only [Wo.d] at hl ⊢
    walk_at "dl"
    simp only [ww1]
    walk_at "dl"
    exact hsh (-1) 1 1 Sz.one.neg Sz.one (by decide) (by decide) (fun ss k => k.imp fun a b z => ⟨by grind, by grind⟩) _ rfl rfl rfl rfl
  | greatest =>
    simp only [Wo.d] at hl ⊢
    walk_at "dl"
    simp only [ww4]
    walk_at "dl"
    refine lc_all ws rat (fun _ y => ∃ k : Rat, y = rat k ∧ 0 ≤ k ∧ Sz 2 k) (fun k g' => g ≤ g' + k) ?_ (by omega) ?_
    · intro k w' g' hw hk hg'
      walk_at "dl"
      refine ⟨3, rfl, by decide, by decide, by omega, fun r h0 h1 => ⟨⟨(r : Rat), rat_int r, ?_, ?_⟩, by omega⟩⟩
      · have : r = 0 ∨ r = 1 ∨ r = 2 := by omega
        rcases this with rfl | rfl | rfl <;> decide +kernel
      · have : r = 0 ∨ r = 1 ∨ r = 2 := by omega
        rcases this with rfl | rfl | rfl <;> decide +kernel
    · intro ys g1 hys hg1
      obtain ⟨ks, rfl, hks⟩ := all2_rat (R := fun _ k => 0 ≤ k ∧ Sz 2 k) hys
      have kl := hks.length
      have k0 : ∀ k ∈ ks, 0 ≤ k := All2.mem hks fun _ _ z => z.1
      have kz : ∀ k ∈ ks, Sz 2 k := All2.mem hks fun _ _ z => z.2
      have hTz : Sz 19 ks.sum := by
        have := Sz.fold (f := id) ks kz
        rw [List.map_id] at this
        exact this.mono (by omega)
      refine ⟨true, ks, 2, rfl, kz, by decide, by omega, ?_⟩
      generalize hT : ks.sum = t at hTz
      by_cases ht : 0 < t
      · refine lc_all ks rat (fun k y => ∃ s, y = rat s ∧ s.abs = k / t ∧ Sz 60 s) (fun k g' => g1 ≤ g' + k) ?_ (by omega) ?_
        · intro k x g' hx hk hg'
          walk_at "dl"
          rw [if_pos (decide_eq_true ((npos t).mpr ht))]
          have hxt : 0 ≤ x / t := by
            rw [Rat.div_def]
            exact Rat.mul_nonneg (k0 x hx) (Rat.le_of_lt (Rat.inv_pos.mpr ht))
          have hz : Sz 21 (x / t) := (kz x hx).div hTz ht
          refine ⟨true, [.int 1, .int (-1)], rfl, by simp, by decide, by omega, fun y hy => ?_⟩
          refine ⟨x, t, rfl, (kz x hx).mono (by decide), hTz.mono (by decide), ht, ?_⟩
          simp only [List.mem_cons, List.not_mem_nil, or_false] at hy
          rcases hy with rfl | rfl
          · exact ⟨1, x / t, rfl, Sz.one.mono (by decide), hz.mono (by decide), ⟨_, rfl, abs_pos1 hxt, (Sz.one.mul hz).mono (by decide)⟩, by omega⟩
          · exact ⟨-1, x / t, rfl, Sz.one.neg.mono (by decide), hz.mono (by decide), ⟨_, rfl, abs_neg1 hxt, (Sz.one.neg.mul hz).mono (by decide)⟩, by omega⟩
        · intro ys g2 hys2 hg2
          obtain ⟨ss, rfl, hss⟩ := all2_rat (R := fun k s => s.abs = k / t ∧ Sz 60 s) hys2
          refine h ss g2 (by rw [← hss.length, ← kl]) (All2.mem hss fun _ _ z => z.2) ?_ (by omega)
          show (ss.map Rat.abs).sum ≤ 1
          have e := All2.maps (f := fun k => k / t) (e := Rat.abs) (hss.imp fun _ _ z => z.1)
          rw [e, sum_div, hT, Rat.div_def, Rat.mul_inv_cancel _ (by grind)]
          exact Rat.le_refl
      · refine lc_map ks rat (fun _ => rat 0) (fun k hk => ?_) ?_
        · walk_at "dl"
          rw [if_neg (by simpa using mt (npos t).mp ht)]
          rfl
        · have e : (ks.map fun _ => rat 0) = (ks.map fun _ => (0 : Rat)).map rat := by simp
          rw [e]
          refine h _ g1 (by rw [List.length_map, ← kl]) (all_map fun _ _ => Sz.zero.mono (by decide)) ?_ (by omega)
          show ((ks.map fun _ => (0 : Rat)).map Rat.abs).sum ≤ 1
          have e2 : ∀ xs : List Rat, ((xs.map fun _ => (0 : Rat)).map Rat.abs).sum = 0 := fun xs => by
            induction xs with
            | nil => rfl
            | cons x xs ih => rw [List.map_cons, List.map_cons, List.sum_cons, ih]; decide +kernel
          rw [e2]; decide
  | part q =>
    simp only [Wo.d] at hl ⊢
    walk_at "dl"
    simp only [ww7]
    walk_at "dl"
    obtain ⟨z, q0, q1⟩ := ok
    refine ⟨q, 1, rfl, z.mono (by decide), Sz.one.mono (by decide), ?_⟩
    exact hsh (q - 1) q 10 (z.sub Sz.one) (z.mono (by decide)) (by decide) (by grind) (fun ss k => k) _ rfl rfl rfl rfl
end
end K64

set_option Elab.async false
set_option linter.all false
set_option maxRecDepth 100000
set_option maxHeartbeats 4000000
/-! The plain law. -/
namespace K64
open PySem DL
theorem dotL_nil (ys : List Rat) : dotL [] ys = 0 := rfl
theorem dotL_nilr (xs : List Rat) : dotL xs [] = 0 := by cases xs <;> rfl
theorem dotL_cons (x y : Rat) (xs ys : List Rat) : dotL (x :: xs) (y :: ys) = x * y + dotL xs ys := by
  unfold dotL
  rw [List.zip_cons_cons, dotF_sum, dotF_sum, List.map_cons, List.sum_cons]
theorem dotL_comm : ∀ xs ys : List Rat, dotL xs ys = dotL ys xs
  | [], ys => by rw [dotL_nil, dotL_nilr]
  | x :: xs, [] => by rw [dotL_nil, dotL_nilr]
  | x :: xs, y :: ys => by rw [dotL_cons, dotL_cons, dotL_comm xs ys, Rat.mul_comm]
theorem sq_nonneg (x : Rat) : 0 ≤ x * x := by
  by_cases h : 0 ≤ x
  · exact Rat.mul_nonneg h h
  · have : 0 ≤ -x * -x := Rat.mul_nonneg (by grind) (by grind)
    grind
theorem abs_le {x y : Rat} : x ≤ x.abs ∧ -x ≤ x.abs := by unfold Rat.abs; split <;> constructor <;> grind
theorem abs_nonneg (x : Rat) : 0 ≤ x.abs := by unfold Rat.abs; split <;> grind
theorem dot_miss (M : Inst) (c : Rat) : ∀ (ss : List Rat) (rows : List (Rat × Rat)), dotL ss (rows.map (M.miss c)) = dotL ss (rows.map (·.2)) - dotL ss (rows.map M.x) * c
  | [], _ => by simp only [dotL_nil]; grind
  | s :: ss, [] => by simp only [List.map_nil, dotL_nilr]; grind
  | s :: ss, r :: rows => by
    simp only [List.map_cons, dotL_cons, dot_miss M c ss rows]
    unfold Inst.miss
    grind
theorem grt_le : ∀ (xs : List Rat) (s : Rat), s ≤ xs.foldl (fun s x => if s < x then x else s) s ∧ ∀ x ∈ xs, x ≤ xs.foldl (fun s x => if s < x then x else s) s
  | [], s => ⟨Rat.le_refl, fun x hx => by cases hx⟩
  | x :: xs, s => by
    obtain ⟨h1, h2⟩ := grt_le xs (if s < x then x else s)
    rw [List.foldl_cons]
    have h3 : s ≤ (if s < x then x else s) ∧ x ≤ (if s < x then x else s) := by split <;> constructor <;> grind
    refine ⟨Rat.le_trans h3.1 h1, fun y hy => ?_⟩
    rcases List.mem_cons.mp hy with rfl | hy
    · exact Rat.le_trans h3.2 h1
    · exact h2 y hy
theorem sums_le : ∀ {ws ss : List Rat} (ms : List Rat), All2 (fun w s => -w ≤ s ∧ s ≤ w) ws ss → dotL ss ms ≤ dotL ws (ms.map Rat.abs)
  | [], [], _, .nil => by rw [dotL_nil, dotL_nil]; exact Rat.le_refl
  | w :: ws, s :: ss, [], _ => by rw [List.map_nil, dotL_nilr, dotL_nilr]; exact Rat.le_refl
  | w :: ws, s :: ss, m :: ms, .cons h t => by
    rw [List.map_cons, dotL_cons, dotL_cons]
    have ih := sums_le ms t
    have : s * m ≤ w * m.abs := by
      unfold Rat.abs
      split
      · rename_i h0
        have := Rat.mul_nonneg (a := w - s) (b := m) (by grind) h0
        grind
      · rename_i h0
        have := Rat.mul_nonneg (a := w + s) (b := -m) (by grind) (by grind)
        grind
    grind
theorem part_le {q : Rat} : ∀ {ws ss : List Rat} (ms : List Rat), All2 (fun w s => w * (q - 1) ≤ s ∧ s ≤ w * q) ws ss → dotL ss ms ≤ dotL ws (ms.map (part q))
  | [], [], _, .nil => by rw [dotL_nil, dotL_nil]; exact Rat.le_refl
  | w :: ws, s :: ss, [], _ => by rw [List.map_nil, dotL_nilr, dotL_nilr]; exact Rat.le_refl
  | w :: ws, s :: ss, m :: ms, .cons h t => by
    rw [List.map_cons, dotL_cons, dotL_cons]
    have ih := part_le ms t
    have : s * m ≤ w * part q m := by
      unfold part
      split
      · rename_i h0
        have := Rat.mul_nonneg (a := w * q - s) (b := m) (by grind) (Rat.le_of_lt h0)
        grind
      · rename_i h0
        have := Rat.mul_nonneg (a := s - w * (q - 1)) (b := -m) (by grind) (by grind)
        grind
    grind
theorem grt_dot {T : Rat} (hT : 0 ≤ T) : ∀ (ss ms : List Rat), (∀ m ∈ ms, m.abs ≤ T) → dotL ss ms ≤ (ss.map Rat.abs).sum * T
  | [], ms, _ => by rw [dotL_nil]; simp
  | s :: ss, [], _ => by
    rw [dotL_nilr]
    exact Rat.mul_nonneg (nonneg_sum fun x hx => by obtain ⟨y, _, rfl⟩ := List.mem_map.mp hx; exact abs_nonneg y) hT
  | s :: ss, m :: ms, h => by
    rw [dotL_cons, List.map_cons, List.sum_cons]
    have ih := grt_dot hT ss ms fun y hy => h y (by simp [hy])
    have hm := h m (by simp)
    have h1 := (abs_le (x := m) (y := m))
    have hsm : s * m ≤ s.abs * T := by
      have h2 : 0 ≤ T - m := by grind
      have h3 : 0 ≤ T + m := by grind
      unfold Rat.abs
      split
      · rename_i h0
        have := Rat.mul_nonneg h0 h2
        grind
      · rename_i h0
        have := Rat.mul_nonneg (a := -s) (by grind) h3
        grind
    grind
/-- signs show no more than the measure is -/
theorem weak (M : Inst) (w : Wo) (ss : List Rat) (a b c : Rat) (hs : SgOk w M.ws ss) (ha : 0 ≤ a) (hb : 0 ≤ b) (hab : b - a = dotL ss (M.rows.map M.x)) (h1 : M.lo ≤ c) (h2 : c ≤ M.hi) :
    ¬ M.meas w c < dotL ss (M.rows.map (·.2)) - (b * M.hi - a * M.lo) := by
  have e := dot_miss M c ss M.rows
  have k1 := Rat.mul_nonneg (a := b) (b := M.hi - c) hb (by grind)
  have k2 := Rat.mul_nonneg (a := a) (b := c - M.lo) ha (by grind)
  have main : dotL ss (M.rows.map (M.miss c)) ≤ M.meas w c := by
    cases w with
    | squares => exact hs.elim
    | sums =>
      have := sums_le (M.rows.map (M.miss c)) hs
      rw [List.map_map] at this
      exact this
    | part q =>
      have := part_le (M.rows.map (M.miss c)) hs
      rw [List.map_map] at this
      exact this
    | greatest =>
      have hg := grt_le (M.rows.map fun r => (M.miss c r).abs) 0
      have h3 := grt_dot (T := M.meas .greatest c) hg.1 ss (M.rows.map (M.miss c)) fun m hm => by
        obtain ⟨r, hr, rfl⟩ := List.mem_map.mp hm
        exact hg.2 _ (List.mem_map.mpr ⟨r, hr, rfl⟩)
      have h4 : (ss.map Rat.abs).sum ≤ 1 := hs
      have h5 := Rat.mul_nonneg (a := 1 - (ss.map Rat.abs).sum) (b := M.meas .greatest c) (by grind) hg.1
      grind
  rw [← hab] at e
  grind
def sgn (x : Rat) : Rat := if 0 < x then 1 else if x < 0 then -1 else 0
theorem sgn_abs (x : Rat) : sgn x * x = x.abs := by
  unfold sgn Rat.abs
  split
  · split <;> grind
  · split
    · split <;> grind
    · split <;> grind
/-- full signs -/
def fullS (ws ms : List Rat) : List Rat := (ws.zip ms).map fun p => p.1 * sgn p.2
theorem full_dot : ∀ (ws ms : List Rat), dotL (fullS ws ms) ms = dotL ws (ms.map Rat.abs)
  | [], ms => rfl
  | w :: ws, [] => rfl
  | w :: ws, m :: ms => by
    have ih := full_dot ws ms
    show dotL (w * sgn m :: fullS ws ms) (m :: ms) = dotL (w :: ws) (m.abs :: ms.map Rat.abs)
    rw [dotL_cons, dotL_cons, ih, ← sgn_abs, Rat.mul_assoc]
theorem full_eq (M : Inst) (a b c : Rat) (h : (a = -dotL (fullS M.ws (M.rows.map (M.miss c))) (M.rows.map M.x) ∧ b = 0 ∧ c = M.lo) ∨ (a = 0 ∧ b = dotL (fullS M.ws (M.rows.map (M.miss c))) (M.rows.map M.x) ∧ c = M.hi)) :
    dotL (fullS M.ws (M.rows.map (M.miss c))) (M.rows.map (·.2)) - (b * M.hi - a * M.lo) = M.meas .sums c := by
  have e := dot_miss M c (fullS M.ws (M.rows.map (M.miss c))) M.rows
  have f := full_dot M.ws (M.rows.map (M.miss c))
  rw [List.map_map] at f
  have g : M.meas .sums c = dotL (fullS M.ws (M.rows.map (M.miss c))) (M.rows.map (M.miss c)) := f.symm
  rw [g, e]
  rcases h with ⟨h1, h2, h3⟩ | ⟨h1, h2, h3⟩
  · rw [h1, h2, h3]; grind
  · rw [h1, h2, h3]; grind
theorem tang (M : Inst) (c d : Rat) : ∀ (ws : List Rat) (rows : List (Rat × Rat)), (∀ w ∈ ws, 0 < w) →
    dotL ws (rows.map fun r => M.miss c r * M.miss c r) + -2 * dotL (rows.map M.x) ((ws.zip (rows.map (M.miss c))).map fun p => p.1 * p.2) * (d - c) ≤ dotL ws (rows.map fun r => M.miss d r * M.miss d r)
  | [], rows, _ => by
    rw [dotL_nil, dotL_nil]
    show 0 + -2 * dotL (rows.map M.x) [] * (d - c) ≤ 0
    rw [dotL_nilr]; grind
  | w :: ws, [], _ => by
    show dotL (w :: ws) [] + -2 * dotL [] _ * (d - c) ≤ dotL (w :: ws) []
    rw [dotL_nil, dotL_nilr]; grind
  | w :: ws, r :: rows, h => by
    have ih := tang M c d ws rows fun w hw => h w (by simp [hw])
    simp only [List.map_cons, List.zip_cons_cons, dotL_cons]
    have h0 := h w (by simp)
    have h1 := Rat.mul_nonneg (Rat.le_of_lt h0) (sq_nonneg (M.x r * (d - c)))
    unfold Inst.miss at ih ⊢
    grind
theorem tangent (M : Inst) (c d : Rat) (h : ∀ w ∈ M.ws, 0 < w) :
    ¬ M.meas .squares d < M.meas .squares c + -2 * dotL (M.rows.map M.x) ((M.ws.zip (M.rows.map (M.miss c))).map fun p => p.1 * p.2) * (d - c) := by
  have := tang M c d M.ws M.rows h
  have e : ∀ d, M.meas .squares d = dotL M.ws (M.rows.map fun r => M.miss d r * M.miss d r) := fun _ => rfl
  rw [e, e]
  grind
theorem grt_sz {n : Nat} : ∀ (xs : List Rat) (s : Rat), Sz n s → (∀ x ∈ xs, Sz n x) → Sz n (xs.foldl (fun s x => if s < x then x else s) s)
  | [], s, hs, _ => hs
  | x :: xs, s, hs, h => by
    rw [List.foldl_cons]
    refine grt_sz xs _ ?_ fun y hy => h y (by simp [hy])
    split
    · exact h x (by simp)
    · exact hs
theorem meas_sz {M : Inst} (ok : M.Ok) {w : Wo} (wok : w.Ok) {c : Rat} (hc : Sz 100 c) : Sz 1600 (M.meas w c) := by
  have go : ∀ (f : Rat → Rat) (n : Nat), n ≤ 250 → (∀ r ∈ M.rows, Sz n (f (M.miss c r))) → Sz 1600 (dotL M.ws (M.rows.map fun r => f (M.miss c r))) := fun f n hn hf => by
    have := dot_sz (n := 8) (m := n) (ps := M.ws.zip (M.rows.map fun r => f (M.miss c r))) fun p hp => ⟨ok.sw _ (List.of_mem_zip hp).1, all_map (p := Sz n) hf _ (List.of_mem_zip hp).2⟩
    refine Sz.mono this ?_
    have h2 : (M.ws.zip (M.rows.map fun r => f (M.miss c r))).length ≤ 6 := by rw [List.length_zip, List.length_map]; have := ok.len; omega
    have := Nat.mul_le_mul h2 (show 8 + n + 1 ≤ 259 by omega)
    omega
  cases w with
  | sums => exact go Rat.abs 117 (by decide) fun r hr => (miss_sz ok hc hr).abs
  | squares => exact go (fun x => x * x) 234 (by decide) fun r hr => (miss_sz ok hc hr).mul (miss_sz ok hc hr)
  | part q => exact go (part q) 127 (by decide) fun r hr => part_sz (miss_sz ok hc hr) wok.1
  | greatest => exact grt_sz _ _ (Sz.zero.mono (by decide)) (all_map fun r hr => (miss_sz ok hc hr).abs.mono (by decide))
end K64

set_option Elab.async false
set_option linter.all false
set_option maxRecDepth 100000
set_option maxHeartbeats 4000000
set_option exponentiation.threshold 20000
namespace K64
open PySem PySem.Spec L2 DL
open PyProof.Rows hiding St
local macro_rules | `(tactic| walk_at "dl") => `(tactic| simp only [rVar0, rVarS, rC, rNil, rCons, rNext, startD, List.map_cons, List.map_nil, List.length_cons, List.length_nil, List.replicate, Nat.reduceAdd, Nat.reduceSub, List.cons_append, List.nil_append, List.append_nil,
  List.getElem?_cons_zero, List.getElem?_cons_succ, List.set_cons_zero, List.set_cons_succ, Option.some.injEq, SV.d.injEq, SV.o.injEq, exists_eq_left', exists_eq_left, and_true, true_and, if_true, if_false, Bool.false_eq_true, Bool.not_true, Bool.not_false, ↓reduceIte,
  isB_bl, isI_int, add_ii, sub_ii, mul_ii, fdiv_ii, mod_ii, cmp_ii, neg_i, len_t, len_l, abs_i, int_i, int_b, str_i, tuple_t, tuple_l, gcd_ii, isB_bb, notB_bb, isN_x, notN_x, asL_l, asL_t, asL_sq, eq_ii, ne_ii, isN_rat, isN_tup, isN_non, isN_int, isi_rt, isi_ri, isi_rs, isi2_r, ex_cons, ex_tup, eq_self_iff_true, rYes, rgName, ix_t0, ix_t1, ix_t2, ix_t3, ix_t4, ix_r0, ix_r1, Bool.or_false, Bool.or_true, Bool.true_or, Bool.false_or,
  isi_i, isi_ib, isi_it, isi_tt, isi_ti, isi_tl, isi_ll, isi_ts, isi_ss, isi_st, isi2_t, isi2_l, isi2_i, sl0, sl1, sl2, sl3, sl4, sl5, sl6, sl7, sl8, sl9, iteG, rBits, D.int.injEq, wipeD, rBrk, rCnt, Int.cast_ofNat_Int, Int.reduceBEq, beq_self_eq_true, eq_rr, ne_rr, ne_11, Int.ofNat_one, Int.ofNat_zero])
section
variable {P : Program} {w : World} {K : PySem.W.Frag} {mg : Str → Option Value} {base : Heap} {cls : Nat → Addr} {f : Addr} {fd : FuncData}

abbrev s__law_pen : Stmt := top 62
theorem sc__law_pen : FnScope ["script", "fold", "cell"] ["script"] (defScope s__law_pen) := ⟨rfl, rfl, rfl, by decide +kernel, rfl, by decide +kernel, by decide +kernel⟩
def spPen (K : PySem.W.Frag) : Sp := fun vs H Q _ => ∃ (a : Addr) (ns : List Int), vs = [.ref a] ∧ SqL K H a (ns.map V.int) ∧ ns.length ≤ 63 ∧ ∀ (p c : Addr) (e : Int) (H' : Hp), H p = none → H c = none → p ≠ c → Same H H' → H' p = some (.dK (penD c 0 0 0 e)) → H' c = some (.lst (ns.map V.int)) → 0 ≤ e → e < 2147482909 → Q (.ref p) H'
theorem pen_merge (c : Addr) (e : Int) : mergeK [] [((Sum.inr "cells" : Key), V.ref c), (Sum.inr "at", .int 0), (Sum.inr "digits", .int 0), (Sum.inr "count", .int 0), (Sum.inr "fold", .int e)] = penD c 0 0 0 e := by
  rw [merge_new]
  · rfl
  · rw [List.map_nil, List.nil_append]
    show ((["cells", "at", "digits", "count", "fold"] : List Str).map Sum.inr : List Key).Nodup
    exact (by decide +kernel : (["cells", "at", "digits", "count", "fold"] : List Str).Nodup).map _ (fun x y h z => h (Sum.inr.inj z))
theorem ok__law_pen (F : Fun K "_law_pen" "_law_pen" s__law_pen f fd) (T : Txt K mg cls) : FnOk P w K mg base CX0 1 f fd ["script"] (spPen K) := by
  refine F.ok sc__law_pen (fun vs H Q E h => ?_) (fun cdv A outer s H vs Q E hr h => ?_)
  · obtain ⟨a, ns, rfl, _⟩ := h
    rfl
  · obtain ⟨a, ns, rfl, hS, hlen, k⟩ := h
    refine ⟨_, pss_cons (ps_set (i := 1) sc__law_pen.nd rfl (Or.inl rfl) pe_int) (pss_cons (ps_for PassesOwn.never rfl (pi_list (pv 0)) (pg_name (i := 2) sc__law_pen.nd rfl (Or.inl rfl))
        (pss_one (ps_set (i := 1) sc__law_pen.nd rfl (Or.inl rfl) (pe_op op_mod (pe_callTy call_int1 rfl T.m_int bv_int (pa_cons (pe_op op_add (pe_op op_mulW (pv 1) pe_int) (pv 2)) pa_nil)) pe_int))))
      (pss_one (ps_ret (pe_disp (pps_cons pe_str (pe_callTy call_list_of rfl T.m_list bv_list (pa_cons (pv 0) pa_nil)) (pps_cons pe_str pe_int (pps_cons pe_str pe_int (pps_cons pe_str pe_int (pps_cons pe_str (pv 1) pps_nil))))) rfl rfl (by decide) (by decide))))), ?_⟩
    refine ⟨_, rfl, a, rfl, ⟨_, hS⟩, for_list (K := K) (a := a) (xs := ns.map V.int) (fun i σ H' => H' = H ∧ ∃ (e : Int) (x : Option V), σ = [some (.ref a), some (.int e), x] ∧ 0 ≤ e ∧ e < 2147482909) ⟨rfl, 0, none, rfl, by decide, by decide⟩ (fun i σ H' _ ⟨z, _⟩ => z ▸ hS) ?_ ?_⟩
    · rintro i y σ H' hi ⟨rfl, e, x, rfl, e0, e1⟩
      obtain ⟨u, rfl⟩ : ∃ u, y = V.int u := by
        rw [List.getElem?_map] at hi
        cases q : ns[i]? with
        | none => rw [q] at hi; cases hi
        | some u => rw [q] at hi; exact ⟨u, (Option.some.inj hi).symm⟩
      refine ⟨_, rfl, _, _, rfl, rfl, wide_mul (a := 40) (b := 20) (by omega) (by decide) (by decide) (by decide) (by decide), ?_⟩
      refine ⟨_, rfl, _, _, rfl, rfl, .inl ⟨_, rfl, _, _, rfl, rfl, (by decide : (0 : Int) < 999999131), ?_⟩⟩
      have h1 := Int.emod_lt_of_pos (e * 193 + u) (by decide : (0 : Int) < 999999131)
      exact ⟨rfl, _, _, rfl, Int.emod_nonneg _ (by decide), by omega⟩
    · rintro σ H' ⟨rfl, e, x, rfl, e0, e1⟩
      intro p hp
      have s1 : Same H' (upd H' p (.dK [])) := same_upd hp
      refine ⟨.ref a, rfl, a, ns.map V.int, rfl, .inl (s1.seq hS), fun c hc => ?_⟩
      have hcp : c ≠ p := fun z => by rw [z, upd_same] at hc; cases hc
      have hc0 : H' c = none := by rw [upd_ne hcp] at hc; exact hc
      refine ⟨_, rfl, ?_, [(Sum.inr "cells", V.ref c), (Sum.inr "at", .int 0), (Sum.inr "digits", .int 0), (Sum.inr "count", .int 0), (Sum.inr "fold", .int e)], rfl, by show 5 ≤ 15; decide, ?_⟩
      · rw [upd_ne (Ne.symm hcp), upd_same]
      rw [pen_merge]
      refine k p c e _ hp hc0 (Ne.symm hcp) (fun b o q => ?_) upd_same ?_ e0 e1
      · have b1 : b ≠ p := ne_of_none q hp
        have b2 : b ≠ c := ne_of_none q hc0
        rw [upd_ne b1, upd_ne b2, upd_ne b1]; exact q
      · rw [upd_ne hcp, upd_same]

end
end K64

set_option Elab.async false
set_option linter.all false
set_option maxRecDepth 100000
set_option maxHeartbeats 4000000
set_option exponentiation.threshold 20000
namespace K64
open PySem PySem.Spec L2 DL
open PyProof.Rows hiding St
local macro_rules | `(tactic| walk_at "dl") => `(tactic| simp only [rVar0, rVarS, rC, rNil, rCons, rNext, startD, List.map_cons, List.map_nil, List.length_cons, List.length_nil, List.replicate, Nat.reduceAdd, Nat.reduceSub, List.cons_append, List.nil_append, List.append_nil,
  List.getElem?_cons_zero, List.getElem?_cons_succ, List.set_cons_zero, List.set_cons_succ, Option.some.injEq, SV.d.injEq, SV.o.injEq, exists_eq_left', exists_eq_left, and_true, true_and, if_true, if_false, Bool.false_eq_true, Bool.not_true, Bool.not_false, ↓reduceIte,
  isB_bl, isI_int, add_ii, sub_ii, mul_ii, fdiv_ii, mod_ii, cmp_ii, neg_i, len_t, len_l, abs_i, int_i, int_b, str_i, tuple_t, tuple_l, gcd_ii, isB_bb, notB_bb, isN_x, notN_x, asL_l, asL_t, asL_sq, eq_ii, ne_ii, isN_rat, isN_tup, isN_non, isN_int, isi_rt, isi_ri, isi_rs, isi2_r, ex_cons, ex_tup, eq_self_iff_true, rYes, rgName, ix_t0, ix_t1, ix_t2, ix_t3, ix_t4, ix_r0, ix_r1, Bool.or_false, Bool.or_true, Bool.true_or, Bool.false_or,
  isi_i, isi_ib, isi_it, isi_tt, isi_ti, isi_tl, isi_ll, isi_ts, isi_ss, isi_st, isi2_t, isi2_l, isi2_i, sl0, sl1, sl2, sl3, sl4, sl5, sl6, sl7, sl8, sl9, iteG, rBits, D.int.injEq, wipeD, rBrk, rCnt, Int.cast_ofNat_Int, Int.reduceBEq, beq_self_eq_true, eq_rr, ne_rr, ne_11, Int.ofNat_one, Int.ofNat_zero])
section
variable {P : Program} {w : World} {K : PySem.W.Frag} {mg : Str → Option Value} {base : Heap} {cls : Nat → Addr} {f : Addr} {fd : FuncData}

abbrev s_law : Stmt := top 83
theorem sc_law : FnScope ["script", "pen", "lap", "table", "least", "most", "fit", "book", "model", "weights", "rows", "word", "signs", "more", "total", "low", "high", "pulls", "number", "k", "coefs", "misses", "full", "ends", "other", "slope", "tangent", "row", "w", "miss"] ["script"] (defScope s_law) := ⟨rfl, rfl, rfl, by decide +kernel, rfl, by decide +kernel, by decide +kernel⟩
theorem mid {lo hi t : Rat} (h : lo ≤ hi) (t0 : 0 ≤ t) (t1 : t ≤ 1) : lo ≤ lo + t * (hi - lo) ∧ lo + t * (hi - lo) ≤ hi := by
  have h1 := Rat.mul_nonneg (a := t) (b := hi - lo) t0 (by grind)
  have h2 := Rat.mul_nonneg (a := 1 - t) (b := hi - lo) (by grind) (by grind)
  constructor <;> grind
theorem nneg (q : Rat) : q.num < 0 ↔ q < 0 := by rw [Rat.lt_iff]; simp
theorem sgn_rat (m : Rat) : D.tup [.int ((if 0 < m.num then 1 else 0) - (if m.num < 0 then 1 else 0)), .int 1] = rat (sgn m) := by
  unfold sgn
  by_cases h1 : 0 < m
  · rw [if_pos ((npos m).mpr h1), if_neg (by have := (npos m).mpr h1; omega), if_pos h1]; rfl
  · rw [if_neg (fun z => h1 ((npos m).mp z)), if_neg h1]
    by_cases h2 : m < 0
    · rw [if_pos ((nneg m).mpr h2), if_pos h2]; rfl
    · rw [if_neg (fun z => h2 ((nneg m).mp z)), if_neg h2]; rfl
theorem sgn_sz (m : Rat) : Sz 1 (sgn m) := by unfold sgn; split; exact Sz.one; split; exact Sz.one.neg; exact Sz.zero
theorem ix_one {q : Rat} {P : D → GP} : oIx (oneD q) (.int 0) P = P (rat q) := ix_t0
theorem ne_oo {p q : Rat} {P : D → GP} : oNe (oneD p) (oneD q) P = P (.bl (!decide (p = q))) := ne_11
theorem ne_ot {p q : Rat} {P : D → GP} : oNe (oneD p) (.tup [rat q]) P = P (.bl (!decide (p = q))) := ne_11
theorem pk_most {P : D → Prop} (h : ∀ d : Rat, 0 ≤ d → Sz 3 d → P (rat d)) : ∀ x ∈ [D.tup [.int 0, .int 1], D.tup [.int 1, .int 1], D.tup [.int 1, .int 2], D.tup [.int 3, .int 1]], P x := by
  simp only [List.forall_mem_cons, List.not_mem_nil, false_implies, implies_true, and_true]
  refine ⟨h 0 (by decide) (by decide +kernel), h 1 (by decide) (by decide +kernel), ?_, h 3 (by decide) (by decide +kernel)⟩
  rw [tr (mkRat 1 2) (by decide +kernel) (by decide +kernel)]
  exact h _ (by decide +kernel) (by decide +kernel)
theorem pk_more {P : D → Prop} (h : ∀ d : Rat, 0 ≤ d → Sz 1 d → P (rat d)) : ∀ x ∈ [D.tup [.int 0, .int 1], D.tup [.int 0, .int 1], D.tup [.int 1, .int 1]], P x := by
  simp only [List.forall_mem_cons, List.not_mem_nil, false_implies, implies_true, and_true]
  exact ⟨h 0 (by decide) (by decide +kernel), h 0 (by decide) (by decide +kernel), h 1 (by decide) (by decide +kernel)⟩
theorem pk_col {P : D → Prop} (h : ∀ b : Bool, P (if b = true then .non else .int 0)) : ∀ x ∈ [D.non, D.int 0], P x := by
  simp only [List.forall_mem_cons, List.not_mem_nil, false_implies, implies_true, and_true]
  exact ⟨h true, h false⟩
theorem pk_word {P : D → Prop} (h : ∀ q : Rat, Sz 8 q → 0 < q → q < 1 → P (rat q)) : ∀ x ∈ [D.tup [.int 1, .int 2], D.tup [.int 1, .int 3], D.tup [.int 4, .int 5]], P x := by
  simp only [List.forall_mem_cons, List.not_mem_nil, false_implies, implies_true, and_true]
  rw [tr (mkRat 1 2) (a := 1) (b := 2) (by decide +kernel) (by decide +kernel), tr (mkRat 1 3) (a := 1) (b := 3) (by decide +kernel) (by decide +kernel), tr (mkRat 4 5) (a := 4) (b := 5) (by decide +kernel) (by decide +kernel)]
  exact ⟨h _ (by decide +kernel) (by decide +kernel) (by decide +kernel), h _ (by decide +kernel) (by decide +kernel) (by decide +kernel), h _ (by decide +kernel) (by decide +kernel) (by decide +kernel)⟩
theorem pk_end {P : D → Prop} {lo hi : Rat} (h : ∀ c : Rat, c = lo ∨ c = hi → P (rat c)) : ∀ x ∈ [rat lo, rat hi], P x := by
  simp only [List.forall_mem_cons, List.not_mem_nil, false_implies, implies_true, and_true]
  exact ⟨h _ (.inl rfl), h _ (.inr rfl)⟩
def spLaw (K : PySem.W.Frag) : Sp := fun vs H Q _ => ∃ (a : Addr) (ns : List Int), vs = [.ref a] ∧ SqL K H a (ns.map V.int) ∧ ns.length ≤ 63 ∧ ∀ H', Q (.bl true) H'
/-- behind the pen: whatever is drawn, True -/
def LawTail (τ : DTS) : Prop := ∀ (s0 : SV) (Q : D → GP) (g : Nat), 2000 ≤ g → (∀ g', Q (.bl true) g') → τ { nx := fun _ => Q .non, rt := Q } [s0, .d .pen, .u, .u, .u, .u, .u, .u, .u, .u, .u, .u, .u, .u, .u, .u, .u, .u, .u, .u, .u, .u, .u, .u, .u, .u, .u, .u, .u, .u] g
theorem pss_ex {X : Cx} {ι : Type} {sts : List Stmt} {t : ι → TS} (h : ∀ i, PSs X sts (t i)) : PSs X sts (fun D σ H => ∃ i, t i D σ H) := ⟨fun pins s σ H D I ⟨i, q⟩ => (h i).run pins s σ H D I q⟩
theorem ok_law {fp : Addr} {fdp : FuncData} (F : Fun K "law" "law" s_law f fd) (T : Txt K mg cls) (FP : FnOk P w K mg base CX0 1 fp fdp ["script"] (spPen K)) (mP : mg "_law_pen" = some (.ref fp)) (kP : PySem.W.keepIn K (.ref fp) = true) (bP : Binds K fdp ["script"] [])
    (D__law_n_table : DDef P w K mg base cls 4 "_law_n_table" ["pen", "name", "wide", "many"] sp__law_n_table) (D__law_draw : DDef P w K mg base cls 1 "_law_draw" ["pen", "many"] sp__law_draw) (D__law_n_item : DDef P w K mg base cls 3 "_law_n_item" ["pen"] sp__law_n_item) (D__law_plus : DDef P w K mg base cls 3 "_law_plus" ["one", "two"] sp__law_plus) (D__law_pick : DDef P w K mg base cls 2 "_law_pick" ["pen", "some"] sp__law_pick) (D__law_n_model : DDef P w K mg base cls 4 "_law_n_model" ["book"] sp__law_n_model) (D__law_n_features : DDef P w K mg base cls 1 "_law_n_features" ["book", "f"] sp__law_n_features) (D__law_signs : DDef P w K mg base cls 5 "_law_signs" ["pen", "word", "weights"] sp__law_signs) (D__law_dot : DDef P w K mg base cls 5 "_law_dot" ["one", "other"] sp__law_dot) (D__law_turn : DDef P w K mg base cls 1 "_law_turn" ["ratio"] sp__law_turn) (D_evens_there : DDef P w K mg base cls 6 "evens_there" ["model", "fit", "signs"] sp_evens_there) (D_pulled_there : DDef P w K mg base cls 6 "pulled_there" ["model", "fit", "pulls"] sp_pulled_there) (D__law_number : DDef P w K mg base cls 7 "_law_number" ["model", "f", "signs", "pulls"] sp__law_number) (D__law_share_drawn : DDef P w K mg base cls 4 "_law_share_drawn" ["pen", "low", "high"] sp__law_share_drawn) (D_is_let_there : DDef P w K mg base cls 6 "is_let_there" ["model", "fit", "value"] sp_is_let_there) (D__law_less : DDef P w K mg base cls 1 "_law_less" ["one", "two"] sp__law_less) (D_measure_there : DDef P w K mg base cls 7 "measure_there" ["model", "word", "fit", "coefs"] sp_measure_there) (D_misses_there : DDef P w K mg base cls 6 "misses_there" ["model", "fit", "coefs"] sp_misses_there) (D__law_times : DDef P w K mg base cls 3 "_law_times" ["one", "two"] sp__law_times) (D__law_minus : DDef P w K mg base cls 3 "_law_minus" ["one", "two"] sp__law_minus) (D_limits_there : DDef P w K mg base cls 5 "limits_there" ["model", "fit"] sp_limits_there) :
    FnOk P w K mg base CX0 8 f fd ["script"] (spLaw K) := by
  refine F.ok sc_law (fun vs H Q E h => ?_) (fun cdv A outer s H vs Q E hr h => ?_)
  · obtain ⟨a, ns, rfl, _⟩ := h
    rfl
  · obtain ⟨a, ns, rfl, hS, hlen, k⟩ := h
    obtain ⟨τ, h1, h2⟩ : ∃ τ : DTS, (∀ i : Addr × Addr, DSs ⟨cls, i.1, i.2, ns⟩ (cxOf CX0 P w K mg base ["script", "pen", "lap", "table", "least", "most", "fit", "book", "model", "weights", "rows", "word", "signs", "more", "total", "low", "high", "pulls", "number", "k", "coefs", "misses", "full", "ends", "other", "slope", "tangent", "row", "w", "miss"] "law" (defScope s_law) f cdv A outer s H E).nox ((defBody s_law).drop 1) τ) ∧ LawTail τ := by
      refine ⟨_, fun i => (ds_cons (s_for PassesOwn.never rfl (di_range T.m_range d_int) (dg_name (i := 2) sc_law.nd rfl (Or.inl rfl))
    (ds_cons (s_set (i := 3) sc_law.nd rfl (Or.inl rfl) (d_callD D__law_n_table (hr.mono (by decide)) (da_cons (dv 1) (da_cons d_str (da_cons d_int (da_cons (d_op op_oAdd d_int (d_callD D__law_draw (hr.mono (by decide)) (da_cons (dv 1) (da_cons d_int da_nil)))) da_nil))))))
    (ds_cons (s_set (i := 4) sc_law.nd rfl (Or.inl rfl) (d_callD D__law_n_item (hr.mono (by decide)) (da_cons (dv 1) da_nil)))
    (ds_cons (s_set (i := 5) sc_law.nd rfl (Or.inl rfl) (d_callD D__law_plus (hr.mono (by decide)) (da_cons (dv 4) (da_cons (d_callD D__law_pick (hr.mono (by decide)) (da_cons (dv 1) (da_cons (d_of_f (f_lst (da_cons (d_tup (da_cons d_int (da_cons d_int da_nil))) (da_cons (d_tup (da_cons d_int (da_cons d_int da_nil))) (da_cons (d_tup (da_cons d_int (da_cons d_int da_nil))) (da_cons (d_tup (da_cons d_int (da_cons d_int da_nil))) da_nil)))))) da_nil))) da_nil))))
    (ds_cons (s_set (i := 6) sc_law.nd rfl (Or.inl rfl) (d_tup (da_cons d_str (da_cons d_int (da_cons d_int (da_cons (d_tup (da_cons (d_callD D__law_pick (hr.mono (by decide)) (da_cons (dv 1) (da_cons (d_of_f (f_lst (da_cons d_non (da_cons d_int da_nil)))) da_nil))) da_nil)) (da_cons (d_tup (da_cons (d_tup (da_cons (dv 4) (da_cons (dv 5) da_nil))) da_nil)) (da_cons (d_tup da_nil) da_nil))))))))
    (ds_cons (s_set (i := 7) sc_law.nd rfl (Or.inl rfl) (d_disp (dp_cons (d_of_f (f_lst (da_cons (dv 3) da_nil))) (dp_cons (d_of_f (f_lst (da_cons (dv 6) da_nil))) (dp_cons (d_of_f (f_lst da_nil)) dp_nil))) rfl rfl (by decide) (by decide)))
    (ds_cons (s_par_dd (i := 8) (j := 9) rfl sc_law.nd rfl rfl (by decide) rfl rfl (d_callD D__law_n_model (hr.mono (by decide)) (da_cons (dv 7) da_nil)) (d_ix (dv 3) d_int) (by rfl))
    (ds_cons (s_setLc (i := 10) rfl sc_law.nd rfl rfl (sw_true rfl rfl rfl (by decide +kernel)) (di_seq (d_callD D__law_n_features (hr.mono (by decide)) (da_cons (dv 7) (da_cons d_int da_nil)))) (blkOk_by (own := [("row", 27)]) (N := ["script", "pen", "lap", "table", "least", "most", "fit", "book", "model", "weights", "rows", "word", "signs", "more", "total", "low", "high", "pulls", "number", "k", "coefs", "misses", "full", "ends", "other", "slope", "tangent", "row", "w", "miss"]) (sc := defScope s_law) (by decide +kernel)) (by decide) (fun _ _ _ _ _ => (dg_name (i := 27) sc_law.nd rfl (Or.inl rfl))) (fun _ _ _ _ _ => dts_nil) (fun _ _ _ _ _ => (d_ix (dv 27) d_int)))
    (ds_cons (s_for PassesOwn.never rfl (di_seq (d_tup (da_cons d_str (da_cons d_str (da_cons (d_callD D__law_pick (hr.mono (by decide)) (da_cons (dv 1) (da_cons (d_of_f (f_lst (da_cons (d_tup (da_cons d_int (da_cons d_int da_nil))) (da_cons (d_tup (da_cons d_int (da_cons d_int da_nil))) (da_cons (d_tup (da_cons d_int (da_cons d_int da_nil))) da_nil))))) da_nil))) da_nil))))) (dg_name (i := 11) sc_law.nd rfl (Or.inl rfl))
    (ds_cons (s_par_dd (i := 12) (j := 13) rfl sc_law.nd rfl rfl (by decide) rfl rfl (d_callD D__law_signs (hr.mono (by decide)) (da_cons (dv 1) (da_cons (dv 11) (da_cons (dv 9) da_nil)))) (d_callD D__law_pick (hr.mono (by decide)) (da_cons (dv 1) (da_cons (d_of_f (f_lst (da_cons (d_tup (da_cons d_int (da_cons d_int da_nil))) (da_cons (d_tup (da_cons d_int (da_cons d_int da_nil))) (da_cons (d_tup (da_cons d_int (da_cons d_int da_nil))) da_nil))))) da_nil))) (by rfl))
    (ds_cons (s_set (i := 14) sc_law.nd rfl (Or.inl rfl) (d_callD D__law_dot (hr.mono (by decide)) (da_cons (dv 12) (da_cons (dv 10) da_nil))))
    (ds_cons (s_asg (d_if (dt_cmp op_oGt (d_ix (dv 14) d_int) d_int (nomark _)) (d_tup (da_cons (d_tup (da_cons d_int (da_cons d_int da_nil))) (da_cons (dv 14) da_nil))) (d_tup (da_cons (d_callD D__law_turn (hr.mono (by decide)) (da_cons (dv 14) da_nil)) (da_cons (d_tup (da_cons d_int (da_cons d_int da_nil))) da_nil)))) (dg_tup (n := 2) rfl (dgs_cons (dg_name (i := 15) sc_law.nd rfl (Or.inl rfl)) (dgs_cons (dg_name (i := 16) sc_law.nd rfl (Or.inl rfl)) dgs_nil))))
    (ds_cons (s_set (i := 17) sc_law.nd rfl (Or.inl rfl) (d_tup (da_cons (d_callD D__law_plus (hr.mono (by decide)) (da_cons (dv 15) (da_cons (dv 13) da_nil))) (da_cons (d_callD D__law_plus (hr.mono (by decide)) (da_cons (dv 16) (da_cons (dv 13) da_nil))) da_nil))))
    (ds_cons (s_if (dt_w (dw_or (dt_cmp (op_oNe hr.units) (d_callD D_evens_there (hr.mono (by decide)) (da_cons (dv 8) (da_cons d_int (da_cons (dv 12) da_nil)))) (d_ix (d_callD D_pulled_there (hr.mono (by decide)) (da_cons (dv 8) (da_cons d_int (da_cons (dv 17) da_nil)))) d_int) (nomark _)) (dw_or1 (dt_cmp (op_oNe hr.units) (d_callD D_evens_there (hr.mono (by decide)) (da_cons (dv 8) (da_cons d_int (da_cons (dv 12) da_nil)))) (d_tup (da_cons (dv 14) da_nil)) (nomark _))))) (ds_one (s_ret d_bl)) ds_nil)
    (ds_cons (s_set (i := 18) sc_law.nd rfl (Or.inl rfl) (d_callD D__law_number (hr.mono (by decide)) (da_cons (dv 8) (da_cons d_int (da_cons (dv 12) (da_cons (dv 17) da_nil))))))
    (ds_cons (s_for PassesOwn.never rfl (di_range T.m_range d_int) (dg_name (i := 19) sc_law.nd rfl (Or.inl rfl))
    (ds_cons (s_set (i := 20) sc_law.nd rfl (Or.inl rfl) (d_tup (da_cons (d_callD D__law_share_drawn (hr.mono (by decide)) (da_cons (dv 1) (da_cons (dv 4) (da_cons (dv 5) da_nil)))) da_nil)))
    (ds_one (s_if (dt_w (dw_or (dt_cmp op_oNotB (d_callD D_is_let_there (hr.mono (by decide)) (da_cons (dv 8) (da_cons d_int (da_cons (dv 20) da_nil)))) d_bl (nomark _)) (dw_or1 (dt_val (d_callD D__law_less (hr.mono (by decide)) (da_cons (d_callD D_measure_there (hr.mono (by decide)) (da_cons (dv 8) (da_cons (dv 11) (da_cons d_int (da_cons (dv 20) da_nil))))) (da_cons (dv 18) da_nil))))))) (ds_one (s_ret d_bl)) ds_nil))))
    (ds_cons (s_set (i := 20) sc_law.nd rfl (Or.inl rfl) (d_tup (da_cons (d_callD D__law_pick (hr.mono (by decide)) (da_cons (dv 1) (da_cons (d_of_f (f_lst (da_cons (dv 4) (da_cons (dv 5) da_nil)))) da_nil))) da_nil)))
    (ds_cons (s_set (i := 21) sc_law.nd rfl (Or.inl rfl) (d_callD D_misses_there (hr.mono (by decide)) (da_cons (dv 8) (da_cons d_int (da_cons (dv 20) da_nil)))))
    (ds_one (s_if (dt_cmp (op_oEq hr.units) (dv 11) d_str (nomark _)) (ds_cons (s_set (i := 22) sc_law.nd rfl (Or.inl rfl) (d_callTy cal_tuple rfl T.m_tuple bv_tuple (da_cons (d_of_f (f_lc rfl sc_law.nd (di_zip T.m_zip (dv 9) (dv 21)) (blkOk_by (own := [("w", 28), ("miss", 29)]) (N := ["script", "pen", "lap", "table", "least", "most", "fit", "book", "model", "weights", "rows", "word", "signs", "more", "total", "low", "high", "pulls", "number", "k", "coefs", "misses", "full", "ends", "other", "slope", "tangent", "row", "w", "miss"]) (sc := defScope s_law) (by decide +kernel)) (by decide) (fun _ _ _ _ _ => (dg_tup (n := 2) rfl (dgs_cons (dg_name (i := 28) sc_law.nd rfl (Or.inl rfl)) (dgs_cons (dg_name (i := 29) sc_law.nd rfl (Or.inl rfl)) dgs_nil)))) (fun _ _ _ _ _ => dts_nil) (fun _ _ _ _ _ => (d_callD D__law_times (hr.mono (by decide)) (da_cons (dv 28) (da_cons (d_tup (da_cons (d_op op_oSub (d_callTy cal_int rfl T.m_int bv_int (da_cons (d_cmp op_oGt (d_ix (dv 29) d_int) d_int (nomark _)) da_nil)) (d_callTy cal_int rfl T.m_int bv_int (da_cons (d_cmp op_oLt (d_ix (dv 29) d_int) d_int (nomark _)) da_nil))) (da_cons d_int da_nil))) da_nil)))))) da_nil)))
    (ds_cons (s_set (i := 14) sc_law.nd rfl (Or.inl rfl) (d_callD D__law_dot (hr.mono (by decide)) (da_cons (dv 22) (da_cons (dv 10) da_nil))))
    (ds_cons (s_set (i := 23) sc_law.nd rfl (Or.inl rfl) (d_if (dt_cmp (op_oEq hr.units) (d_ix (dv 20) d_int) (dv 4) (nomark _)) (d_tup (da_cons (d_callD D__law_turn (hr.mono (by decide)) (da_cons (dv 14) da_nil)) (da_cons (d_tup (da_cons d_int (da_cons d_int da_nil))) da_nil))) (d_tup (da_cons (d_tup (da_cons d_int (da_cons d_int da_nil))) (da_cons (dv 14) da_nil)))))
    (ds_one (s_if (dt_cmp (op_oNe hr.units) (d_callD D__law_number (hr.mono (by decide)) (da_cons (dv 8) (da_cons d_int (da_cons (dv 22) (da_cons (dv 23) da_nil))))) (d_callD D_measure_there (hr.mono (by decide)) (da_cons (dv 8) (da_cons (dv 11) (da_cons d_int (da_cons (dv 20) da_nil))))) (nomark _)) (ds_one (s_ret d_bl)) ds_nil))))) ds_nil))))))))))))
    (ds_cons (s_par_dd (i := 20) (j := 24) rfl sc_law.nd rfl rfl (by decide) rfl rfl (d_tup (da_cons (d_callD D__law_share_drawn (hr.mono (by decide)) (da_cons (dv 1) (da_cons (dv 4) (da_cons (dv 5) da_nil)))) da_nil)) (d_tup (da_cons (d_callD D__law_share_drawn (hr.mono (by decide)) (da_cons (dv 1) (da_cons (dv 4) (da_cons (dv 5) da_nil)))) da_nil)) (by rfl))
    (ds_cons (s_set (i := 21) sc_law.nd rfl (Or.inl rfl) (d_callD D_misses_there (hr.mono (by decide)) (da_cons (dv 8) (da_cons d_int (da_cons (dv 20) da_nil)))))
    (ds_cons (s_set (i := 25) sc_law.nd rfl (Or.inl rfl) (d_callD D__law_times (hr.mono (by decide)) (da_cons (d_tup (da_cons (d_neg d_int) (da_cons d_int da_nil))) (da_cons (d_ix (d_callD D_evens_there (hr.mono (by decide)) (da_cons (dv 8) (da_cons d_int (da_cons (d_callTy cal_tuple rfl T.m_tuple bv_tuple (da_cons (d_of_f (f_lc rfl sc_law.nd (di_zip T.m_zip (dv 9) (dv 21)) (blkOk_by (own := [("w", 28), ("miss", 29)]) (N := ["script", "pen", "lap", "table", "least", "most", "fit", "book", "model", "weights", "rows", "word", "signs", "more", "total", "low", "high", "pulls", "number", "k", "coefs", "misses", "full", "ends", "other", "slope", "tangent", "row", "w", "miss"]) (sc := defScope s_law) (by decide +kernel)) (by decide) (fun _ _ _ _ _ => (dg_tup (n := 2) rfl (dgs_cons (dg_name (i := 28) sc_law.nd rfl (Or.inl rfl)) (dgs_cons (dg_name (i := 29) sc_law.nd rfl (Or.inl rfl)) dgs_nil)))) (fun _ _ _ _ _ => dts_nil) (fun _ _ _ _ _ => (d_callD D__law_times (hr.mono (by decide)) (da_cons (dv 28) (da_cons (dv 29) da_nil)))))) da_nil)) da_nil)))) d_int) da_nil))))
    (ds_cons (s_set (i := 26) sc_law.nd rfl (Or.inl rfl) (d_callD D__law_plus (hr.mono (by decide)) (da_cons (d_callD D_measure_there (hr.mono (by decide)) (da_cons (dv 8) (da_cons d_str (da_cons d_int (da_cons (dv 20) da_nil))))) (da_cons (d_callD D__law_times (hr.mono (by decide)) (da_cons (dv 25) (da_cons (d_callD D__law_minus (hr.mono (by decide)) (da_cons (d_ix (dv 24) d_int) (da_cons (d_ix (dv 20) d_int) da_nil))) da_nil))) da_nil))))
    (ds_one (s_if (dt_w (dw_or (dt_val (d_callD D__law_less (hr.mono (by decide)) (da_cons (d_callD D_measure_there (hr.mono (by decide)) (da_cons (dv 8) (da_cons d_str (da_cons d_int (da_cons (dv 24) da_nil))))) (da_cons (dv 26) da_nil)))) (dw_or1 (dt_cmp (op_oNe hr.units) (d_callB cal_len rfl T.m_len bv_len (da_cons (d_callD D_limits_there (hr.mono (by decide)) (da_cons (dv 8) (da_cons d_int da_nil))) da_nil)) d_int (nomark _))))) (ds_one (s_ret d_bl)) ds_nil)))))))))))))))
    (ds_one (s_ret d_bl))), ?_⟩
      intro s0 Q g hg hQ
      walk_at "dl"
      refine ⟨⟨by decide, by decide⟩, ?_⟩
      refine for_inv (fun i ρ g' => (∃ a2 a3 a4 a5 a6 a7 a8 a9 a10 a11 a12 a13 a14 a15 a16 a17 a18 a19 a20 a21 a22 a23 a24 a25 a26 a27 a28 a29, ρ = [s0, .d .pen, a2, a3, a4, a5, a6, a7, a8, a9, a10, a11, a12, a13, a14, a15, a16, a17, a18, a19, a20, a21, a22, a23, a24, a25, a26, a27, a28, a29]) ∧ g ≤ g' + 300 * i) ⟨⟨.u, .u, .u, .u, .u, .u, .u, .u, .u, .u, .u, .u, .u, .u, .u, .u, .u, .u, .u, .u, .u, .u, .u, .u, .u, .u, .u, .u, rfl⟩, by omega⟩ ?_ ?_
      · rintro i x ρ g1 hx ⟨⟨a2, a3, a4, a5, a6, a7, a8, a9, a10, a11, a12, a13, a14, a15, a16, a17, a18, a19, a20, a21, a22, a23, a24, a25, a26, a27, a28, a29, rfl⟩, hg1⟩
        have hi : i < 4 := (List.getElem?_eq_some_iff.mp hx).1
        walk_at "dl"
        refine ⟨6, rfl, by decide, by decide, by omega, fun r r0 r1 => ?_⟩
        obtain ⟨n, hn⟩ : ∃ n : Nat, 1 + r = (n : Int) := ⟨(1 + r).toNat, by omega⟩
        walk_at "dl"
        rw [hn]
        refine ⟨n, rfl, by omega, by omega, by omega, fun rows ws nm cn g2 hr' hw' hrz hwz hg2 => ?_⟩
        walk_at "dl"
        refine ⟨rfl, by omega, fun lo hlo => ?_⟩
        walk_at "dl"
        refine ⟨true, _, rfl, by simp, by decide, by omega, pk_most fun d hd hdz => ?_⟩
        refine ⟨lo, d, rfl, hlo.mono (by decide), hdz.mono (by decide), ?_⟩
        walk_at "dl"
        refine ⟨true, _, rfl, by simp, by decide, by omega, pk_col fun one => ?_⟩
        walk_at "dl"
        obtain ⟨M, eM⟩ : ∃ M : Inst, M = ⟨rows, ws, one, lo, lo + d⟩ := ⟨_, rfl⟩
        have eR : rows = M.rows := by rw [eM]
        have eW : ws = M.ws := by rw [eM]
        have eL : lo = M.lo := by rw [eM]
        have eH : lo + d = M.hi := by rw [eM]
        have eC : (if one = true then D.non else D.int 0) = M.col := by rw [eM]; rfl
        have ok : M.Ok := by
          refine ⟨by rw [← eR, hr']; omega, by rw [← eR, ← eW, hw', hr'], fun r hr => ?_, fun w hw => ?_, by rw [← eL]; exact hlo.mono (by decide), by rw [← eH]; exact (hlo.add hdz).mono (by decide)⟩
          · rw [← eR] at hr; exact ⟨(hrz r hr).1.mono (by decide), (hrz r hr).2.mono (by decide)⟩
          · rw [← eW] at hw; exact (hwz w hw).1.mono (by decide)
        have hle : M.lo ≤ M.hi := by rw [← eL, ← eH]; grind
        have hwz' : ∀ w ∈ M.ws, Sz 3 w ∧ 0 < w := by rw [← eW]; exact hwz
        refine ⟨M, nm, cn, by rw [eM]; rfl, ?_⟩
        rw [eC, eH, eL, eR, eW]
        walk_at "dl"
        refine ⟨M, nm, cn, rfl, ?_⟩
        walk_at "dl"
        refine lc_map M.rows _ (fun r => rat (M.x r)) (fun r hr => ?_) ?_
        · walk_at "dl"
          simp only [ix_one]
          trivial
        rw [show (M.rows.map fun r => rat (M.x r)) = (M.rows.map M.x).map rat by simp]
        refine ⟨true, _, rfl, by simp, by decide, by omega, pk_word fun q qz q0 q1 => ?_⟩
        obtain ⟨g3, eg3⟩ : ∃ g3, g3 = g2 - 1 - 1 - 1 - 1 := ⟨_, rfl⟩
        rw [← eg3]
        clear eM eR eW eL eH eC
        refine for_inv (fun j ρ g' => (∃ b2 b6 b7 b11 b12 b13 b14 b15 b16 b17 b18 b19 b20 b21 b22 b23 b24 b25 b26 b27 b28 b29, ρ = [s0, .d .pen, b2, .d (Inst.tab M nm cn), .d (rat M.lo), .d (rat M.hi), b6, b7, .d (mod M nm cn), .d (.tup (M.ws.map rat)), .d (.lst ((M.rows.map M.x).map rat)), b11, b12, b13, b14, b15, b16, b17, b18, b19, b20, b21, b22, b23, b24, b25, b26, b27, b28, b29]) ∧ g3 ≤ g' + 30 * j) ⟨⟨_, _, _, _, _, _, _, _, _, _, _, _, _, _, _, _, _, _, _, _, _, _, rfl⟩, by omega⟩ ?_ ?_
        · rintro j x ρ g4 hx ⟨⟨b2, b6, b7, b11, b12, b13, b14, b15, b16, b17, b18, b19, b20, b21, b22, b23, b24, b25, b26, b27, b28, b29, rfl⟩, hg4⟩
          have hj : j < 3 := (List.getElem?_eq_some_iff.mp hx).1
          obtain ⟨w, rfl, wok, wns⟩ : ∃ w : Wo, x = w.d ∧ w.Ok ∧ w ≠ .squares := by
            rcases j with _ | _ | _ | j
            · exact ⟨.sums, (Option.some.inj hx).symm, trivial, fun z => nomatch z⟩
            · exact ⟨.greatest, (Option.some.inj hx).symm, trivial, fun z => nomatch z⟩
            · exact ⟨.part q, (Option.some.inj hx).symm, ⟨qz, q0, q1⟩, fun z => nomatch z⟩
            · omega
          walk_at "dl"
          have hwl : M.ws.length ≤ 6 := by rw [ok.wl]; exact ok.len
          refine ⟨w, M.ws, rfl, wok, wns, hwl, hwz', by omega, fun ss g5 hsl hsz hso hg5 => ?_⟩
          have hsl' : ss.length = M.rows.length := by rw [hsl, ok.wl]
          have hs6 : ss.length ≤ 6 := by rw [hsl]; exact hwl
          walk_at "dl"
          refine ⟨true, _, rfl, by simp, by decide, by omega, pk_more fun m hm hmz => ?_⟩
          refine ⟨false, true, ss, M.rows.map M.x, 60, 8, rfl, hsz, all_map ok.x, by decide, by decide, dot_ok hs6 _ _ (by decide), ?_⟩
          have htz : Sz 420 (dotL ss (M.rows.map M.x)) := by
            refine Sz.mono (dot_sz (n := 60) (m := 8) (ps := ss.zip (M.rows.map M.x)) fun p hp => ⟨hsz _ (List.of_mem_zip hp).1, all_map (p := Sz 8) ok.x _ (List.of_mem_zip hp).2⟩) ?_
            have h2 : (ss.zip (M.rows.map M.x)).length ≤ 6 := by rw [List.length_zip]; omega
            have := Nat.mul_le_mul h2 (Nat.le_refl (60 + 8 + 1))
            omega
          generalize hT : dotL ss (M.rows.map M.x) = t at htz
          walk_at "dl"
          have ht0 : Sz 4000 t := htz.mono (by decide)
          have hm0 : Sz 4000 m := hmz.mono (by decide)
          have h00 : Sz 4000 (0 : Rat) := Sz.zero.mono (by decide)
          obtain ⟨g6, eg6⟩ : ∃ g6, g6 = g5 - 1 := ⟨_, rfl⟩
          have hg6 : g4 ≤ g6 + 21 := by omega
          rw [← eg6]
          clear eg6 hg5
          by_cases hT0 : 0 < t
          case' pos =>
            rw [if_pos (decide_eq_true ((npos t).mpr hT0))]
            refine ⟨0, m, rfl, h00, hm0, t, m, rfl, ht0, hm0, ?_⟩
            obtain ⟨a, ea⟩ : ∃ a, a = 0 + m := ⟨_, rfl⟩
            obtain ⟨b, eb⟩ : ∃ b, b = t + m := ⟨_, rfl⟩
            rw [← ea, ← eb]
            have a0 : 0 ≤ a := by rw [ea]; grind
            have b0 : 0 ≤ b := by rw [eb]; grind
            have hab : b - a = t := by rw [ea, eb]; grind
            have az : Sz 500 a := by rw [ea]; exact (Sz.zero.add hmz).mono (by decide)
            have bz : Sz 500 b := by rw [eb]; exact (htz.add hmz).mono (by decide)
          case' neg =>
            rw [if_neg (fun z => hT0 ((npos t).mp (of_decide_eq_true z)))]
            refine ⟨t, rfl, -t, m, rfl, ht0.neg, hm0, 0, m, rfl, h00, hm0, ?_⟩
            obtain ⟨a, ea⟩ : ∃ a, a = -t + m := ⟨_, rfl⟩
            obtain ⟨b, eb⟩ : ∃ b, b = 0 + m := ⟨_, rfl⟩
            rw [← ea, ← eb]
            have a0 : 0 ≤ a := by rw [ea]; grind
            have b0 : 0 ≤ b := by rw [eb]; grind
            have hab : b - a = t := by rw [ea, eb]; grind
            have az : Sz 500 a := by rw [ea]; exact (htz.neg.add hmz).mono (by decide)
            have bz : Sz 500 b := by rw [eb]; exact (Sz.zero.add hmz).mono (by decide)
          all_goals
            have hT' : dotL (M.rows.map M.x) ss = t := by rw [dotL_comm]; exact hT
            refine ⟨M, nm, cn, ss, rfl, ok, hsl', fun s hs => (hsz s hs).mono (by decide), M, nm, cn, a, b, rfl, ok, az, bz, ?_⟩
            rw [hT', hab]
            walk_at "dl"
            simp only [ne_oo]
            walk_at "dl"
            simp only [decide_true, Bool.not_true, Bool.false_eq_true, if_false]
            refine ⟨M, nm, cn, ss, rfl, ok, hsl', fun s hs => (hsz s hs).mono (by decide), ?_⟩
            rw [hT']
            simp only [ne_ot]
            walk_at "dl"
            simp only [decide_true, Bool.not_true, Bool.false_eq_true, if_false]
            refine ⟨M, nm, cn, ss, a, b, rfl, ok, hs6, hsz, az, bz, ?_⟩
            have hweak : ∀ c, M.lo ≤ c → c ≤ M.hi → ¬ M.meas w c < dotL ss (M.rows.map (·.2)) - (b * M.hi - a * M.lo) := fun c h1 h2 => weak M w ss a b c hso a0 b0 (by rw [hab, hT]) h1 h2
            have hnz : Sz 2000 (dotL ss (M.rows.map (·.2)) - (b * M.hi - a * M.lo)) := by
              have h3 : Sz 420 (dotL ss (M.rows.map (·.2))) := by
                refine Sz.mono (dot_sz (n := 60) (m := 8) (ps := ss.zip (M.rows.map (·.2))) fun p hp => ⟨hsz _ (List.of_mem_zip hp).1, all_map (p := Sz 8) (fun r hr => (ok.sr r hr).2) _ (List.of_mem_zip hp).2⟩) ?_
                have h2 : (ss.zip (M.rows.map (·.2))).length ≤ 6 := by rw [List.length_zip]; omega
                have := Nat.mul_le_mul h2 (Nat.le_refl (60 + 8 + 1))
                omega
              exact (h3.sub ((bz.mul ok.hi).sub (az.mul ok.lo))).mono (by decide)
            generalize dotL ss (M.rows.map (·.2)) - (b * M.hi - a * M.lo) = num at hweak hnz ⊢
            refine ⟨⟨by decide, by decide⟩, ?_⟩
            refine for_inv (fun k ρ g' => (∃ c13 c14 c15 c16 c17 c19 c20 c21 c22 c23 c24 c25 c26 c27 c28 c29, ρ = [s0, .d .pen, b2, .d (Inst.tab M nm cn), .d (rat M.lo), .d (rat M.hi), b6, b7, .d (mod M nm cn), .d (.tup (M.ws.map rat)), .d (.lst ((M.rows.map M.x).map rat)), .d w.d, .d (.tup (ss.map rat)), c13, c14, c15, c16, c17, .d (rat num), c19, c20, c21, c22, c23, c24, c25, c26, c27, c28, c29]) ∧ g6 ≤ g' + k) ⟨⟨_, _, _, _, _, _, _, _, _, _, _, _, _, _, _, _, rfl⟩, by omega⟩ ?_ ?_
            · rintro k x ρ g7 hx ⟨⟨c13, c14, c15, c16, c17, c19, c20, c21, c22, c23, c24, c25, c26, c27, c28, c29, rfl⟩, hg7⟩
              have hk : k < 3 := (List.getElem?_eq_some_iff.mp hx).1
              walk_at "dl"
              refine ⟨M.lo, M.hi, 8, rfl, ok.lo, ok.hi, by decide, by omega, fun t1 u0 u1 uz => ?_⟩
              have cz : Sz 100 (M.lo + t1 * (M.hi - M.lo)) := (ok.lo.add (uz.mul (ok.hi.sub ok.lo))).mono (by decide)
              obtain ⟨c0, c1⟩ := mid hle u0 u1
              generalize M.lo + t1 * (M.hi - M.lo) = c at cz c0 c1
              refine ⟨M, nm, cn, c, rfl, ok, cz, c0, c1, ?_⟩
              walk_at "dl"
              rw [if_neg (show ¬ ((true != true) = true) by decide)]
              refine ⟨M, nm, cn, w, c, rfl, ok, wok, cz, ?_⟩
              refine ⟨_, _, rfl, (meas_sz ok wok cz).mono (by decide), hnz.mono (by decide), ?_⟩
              rw [decide_eq_false (hweak c c0 c1)]
              walk_at "dl"
              exact ⟨⟨_, _, _, _, _, _, _, _, _, _, _, _, _, _, _, _, rfl⟩, by omega⟩
            · rintro ρ g7 ⟨⟨c13, c14, c15, c16, c17, c19, c20, c21, c22, c23, c24, c25, c26, c27, c28, c29, rfl⟩, hg7⟩
              have hg7' : g6 ≤ g7 + 3 := hg7
              walk_at "dl"
              refine ⟨true, [rat M.lo, rat M.hi], rfl, by simp, (by show 2 ≤ 1000; decide), by omega, pk_end fun c hc => ?_⟩
              have cz : Sz 100 c := by
                rcases hc with rfl | rfl
                · exact ok.lo.mono (by decide)
                · exact ok.hi.mono (by decide)
              refine ⟨M, nm, cn, c, rfl, ok, cz, ?_⟩
              rw [show (M.rows.map fun r => rat (M.miss c r)) = (M.rows.map (M.miss c)).map rat by simp]
              cases w with
              | squares => exact absurd rfl wns
              | greatest =>
                simp only [Wo.d, wwa]
                walk_at "dl"
                exact ⟨⟨_, _, _, _, _, _, _, _, _, _, _, _, _, _, _, _, _, _, _, _, _, _, rfl⟩, by omega⟩
              | part q =>
                simp only [Wo.d, ww9]
                walk_at "dl"
                exact ⟨⟨_, _, _, _, _, _, _, _, _, _, _, _, _, _, _, _, _, _, _, _, _, _, rfl⟩, by omega⟩
              | sums =>
                simp only [Wo.d, ww3]
                walk_at "dl"
                rw [pairD_map]
                have hmz : ∀ p ∈ M.ws.zip (M.rows.map (M.miss c)), Sz 3 p.1 ∧ Sz 117 p.2 := fun p hp => ⟨(hwz' _ (List.of_mem_zip hp).1).1, all_map (p := Sz 117) (fun r hr => miss_sz ok cz hr) _ (List.of_mem_zip hp).2⟩
                refine lc_map (M.ws.zip (M.rows.map (M.miss c))) _ (fun p => rat (p.1 * sgn p.2)) (fun p hp => ?_) ?_
                · walk_at "dl"
                  simp only [decide_eq_true_eq]
                  rw [sgn_rat p.2]
                  exact ⟨_, _, rfl, (hmz p hp).1.mono (by decide), (sgn_sz _).mono (by decide), rfl, rfl⟩
                rw [show ((M.ws.zip (M.rows.map (M.miss c))).map fun p => rat (p.1 * sgn p.2)) = (fullS M.ws (M.rows.map (M.miss c))).map rat by simp [fullS]]
                have fz : ∀ s ∈ fullS M.ws (M.rows.map (M.miss c)), Sz 60 s := all_map fun p hp => ((hmz p hp).1.mul (sgn_sz p.2)).mono (by decide)
                have fl : (fullS M.ws (M.rows.map (M.miss c))).length ≤ 6 := by unfold fullS; rw [List.length_map, List.length_zip]; omega
                have fT : Sz 420 (dotL (fullS M.ws (M.rows.map (M.miss c))) (M.rows.map M.x)) := by
                  refine Sz.mono (dot_sz (n := 60) (m := 8) (ps := (fullS M.ws (M.rows.map (M.miss c))).zip (M.rows.map M.x)) fun p hp => ⟨fz _ (List.of_mem_zip hp).1, all_map (p := Sz 8) ok.x _ (List.of_mem_zip hp).2⟩) ?_
                  have h2 : ((fullS M.ws (M.rows.map (M.miss c))).zip (M.rows.map M.x)).length ≤ 6 := by rw [List.length_zip]; omega
                  have := Nat.mul_le_mul h2 (Nat.le_refl (60 + 8 + 1))
                  omega
                refine ⟨false, true, _, M.rows.map M.x, 60, 8, rfl, fz, all_map ok.x, by decide, by decide, dot_ok fl _ _ (by decide), ?_⟩
                walk_at "dl"
                by_cases hcl : c = M.lo
                · rw [if_pos (decide_eq_true hcl)]
                  refine ⟨_, rfl, ?_⟩
                  walk_at "dl"
                  refine ⟨M, nm, cn, _, _, 0, rfl, ok, fl, fz, fT.neg.mono (by decide), Sz.zero.mono (by decide), M, nm, cn, .sums, c, rfl, ok, trivial, cz, ?_⟩
                  rw [full_eq M _ _ c (.inl ⟨rfl, rfl, hcl⟩)]
                  walk_at "dl"
                  simp only [decide_true, Bool.not_true, Bool.false_eq_true, if_false]
                  exact ⟨⟨_, _, _, _, _, _, _, _, _, _, _, _, _, _, _, _, _, _, _, _, _, _, rfl⟩, by omega⟩
                · rw [if_neg (fun z => hcl (of_decide_eq_true z))]
                  refine ⟨M, nm, cn, _, 0, _, rfl, ok, fl, fz, Sz.zero.mono (by decide), fT.mono (by decide), M, nm, cn, .sums, c, rfl, ok, trivial, cz, ?_⟩
                  rw [full_eq M _ _ c (.inr ⟨rfl, rfl, hc.resolve_left hcl⟩)]
                  walk_at "dl"
                  simp only [decide_true, Bool.not_true, Bool.false_eq_true, if_false]
                  exact ⟨⟨_, _, _, _, _, _, _, _, _, _, _, _, _, _, _, _, _, _, _, _, _, _, rfl⟩, by omega⟩
        · rintro ρ g4 ⟨⟨b2, b6, b7, b11, b12, b13, b14, b15, b16, b17, b18, b19, b20, b21, b22, b23, b24, b25, b26, b27, b28, b29, rfl⟩, hg4⟩
          have hg4' : g3 ≤ g4 + 90 := hg4
          walk_at "dl"
          refine ⟨M.lo, M.hi, 8, rfl, ok.lo, ok.hi, by decide, by omega, fun t1 u0 u1 uz => ?_⟩
          refine ⟨M.lo, M.hi, 8, rfl, ok.lo, ok.hi, by decide, by omega, fun t2 v0 v1 vz => ?_⟩
          have cz : Sz 100 (M.lo + t1 * (M.hi - M.lo)) := (ok.lo.add (uz.mul (ok.hi.sub ok.lo))).mono (by decide)
          have ez : Sz 100 (M.lo + t2 * (M.hi - M.lo)) := (ok.lo.add (vz.mul (ok.hi.sub ok.lo))).mono (by decide)
          generalize M.lo + t1 * (M.hi - M.lo) = c at cz
          generalize M.lo + t2 * (M.hi - M.lo) = e at ez
          refine ⟨M, nm, cn, c, rfl, ok, cz, ?_⟩
          rw [show (M.rows.map fun r => rat (M.miss c r)) = (M.rows.map (M.miss c)).map rat by simp]
          walk_at "dl"
          rw [pairD_map]
          have hmz : ∀ p ∈ M.ws.zip (M.rows.map (M.miss c)), Sz 8 p.1 ∧ Sz 117 p.2 := fun p hp => ⟨ok.sw _ (List.of_mem_zip hp).1, all_map (p := Sz 117) (fun r hr => miss_sz ok cz hr) _ (List.of_mem_zip hp).2⟩
          refine lc_map (M.ws.zip (M.rows.map (M.miss c))) _ (fun p => rat (p.1 * p.2)) (fun p hp => ?_) ?_
          · walk_at "dl"
            exact ⟨_, _, rfl, (hmz p hp).1.mono (by decide), (hmz p hp).2.mono (by decide), rfl, rfl⟩
          rw [show ((M.ws.zip (M.rows.map (M.miss c))).map fun p => rat (p.1 * p.2)) = ((M.ws.zip (M.rows.map (M.miss c))).map fun p => p.1 * p.2).map rat by simp]
          refine ⟨M, nm, cn, _, rfl, ok, by simp [List.length_zip, ok.wl], all_map fun p hp => ((hmz p hp).1.mul (hmz p hp).2).mono (by decide), ?_⟩
          simp only [ix_one]
          have htan := tangent M c e fun w hw => (hwz' w hw).2
          have hEz : Sz 900 (dotL (M.rows.map M.x) ((M.ws.zip (M.rows.map (M.miss c))).map fun p => p.1 * p.2)) := by
            refine Sz.mono (dot_sz (n := 8) (m := 125) (ps := (M.rows.map M.x).zip ((M.ws.zip (M.rows.map (M.miss c))).map fun p => p.1 * p.2)) fun p hp => ⟨all_map (p := Sz 8) ok.x _ (List.of_mem_zip hp).1, all_map (p := Sz 125) (fun p hp => ((hmz p hp).1.mul (hmz p hp).2)) _ (List.of_mem_zip hp).2⟩) ?_
            have h2 : ((M.rows.map M.x).zip ((M.ws.zip (M.rows.map (M.miss c))).map fun p => p.1 * p.2)).length ≤ 6 := by rw [List.length_zip, List.length_map]; have := ok.len; omega
            have := Nat.mul_le_mul h2 (Nat.le_refl (8 + 125 + 1))
            omega
          generalize dotL (M.rows.map M.x) ((M.ws.zip (M.rows.map (M.miss c))).map fun p => p.1 * p.2) = Ev at hEz htan
          have h2z : Sz 2 (-2 : Rat) := by decide +kernel
          refine ⟨-2, Ev, rfl, h2z.mono (by decide), hEz.mono (by decide), ?_⟩
          refine ⟨M, nm, cn, .squares, c, rfl, ok, trivial, cz, ?_⟩
          refine ⟨e, c, rfl, ez.mono (by decide), cz.mono (by decide), ?_⟩
          refine ⟨-2 * Ev, e - c, rfl, (h2z.mul hEz).mono (by decide), (ez.sub cz).mono (by decide), ?_⟩
          have hqz := meas_sz ok (w := .squares) trivial cz
          have hqe := meas_sz ok (w := .squares) trivial ez
          have hpz : Sz 1200 (-2 * Ev * (e - c)) := ((h2z.mul hEz).mul (ez.sub cz)).mono (by decide)
          refine ⟨_, _, rfl, hqz.mono (by decide), hpz.mono (by decide), ?_⟩
          refine ⟨M, nm, cn, .squares, e, rfl, ok, trivial, ez, ?_⟩
          refine ⟨_, _, rfl, hqe.mono (by decide), (hqz.add hpz).mono (by decide), ?_⟩
          rw [decide_eq_false htan]
          walk_at "dl"
          refine ⟨M, nm, cn, rfl, ?_⟩
          walk_at "dl"
          exact ⟨⟨_, _, _, _, _, _, _, _, _, _, _, _, _, _, _, _, _, _, _, _, _, _, _, _, _, _, _, _, rfl⟩, by omega⟩
      · rintro ρ g1 ⟨⟨a2, a3, a4, a5, a6, a7, a8, a9, a10, a11, a12, a13, a14, a15, a16, a17, a18, a19, a20, a21, a22, a23, a24, a25, a26, a27, a28, a29, rfl⟩, hg1⟩
        walk_at "dl"
        exact hQ _
    refine ⟨_, pss_cons (ps_set (i := 1) sc_law.nd rfl (Or.inl rfl) (pe_call FP (hr.mono (by decide)) rfl mP kP bP .nil pass0 (pa_cons (pv 0) pa_nil))) (pss_ex (ι := Addr × Addr) h1), ?_⟩
    refine ⟨_, rfl, a, ns, rfl, hS, hlen, fun p c e H' hp hc hpc s1 q1 q2 e0 e1 => ?_⟩
    refine ⟨(p, c), ?_⟩
    have hF : ∀ b, b ≠ p → (fun b => if b = p then none else H' b : Hp) b = H' b := fun b hb => if_neg hb
    have wl : Wld K ⟨cls, p, c, ns⟩ 5000 (fun b => if b = p then none else H' b) H' := by
      refine ⟨fun b o e => ?_, if_pos rfl, ?_, 0, 0, 0, e, q1, ⟨hlen, by decide, by decide, by decide, by decide, e0, e1⟩⟩
      · by_cases hb : b = p
        · subst hb; rw [if_pos rfl] at e; cases e
        · rw [if_neg hb] at e; exact e
      · show (if c = p then none else H' c) = _
        rw [if_neg (Ne.symm hpc)]; exact q2
    have en : EnvR K ⟨cls, p, c, ns⟩ (fun b => if b = p then none else H' b) H' ([some (.ref a), some (.ref p), none, none, none, none, none, none, none, none, none, none, none, none, none, none, none, none, none, none, none, none, none, none, none, none, none, none, none, none] : St) [.u, .d .pen, .u, .u, .u, .u, .u, .u, .u, .u, .u, .u, .u, .u, .u, .u, .u, .u, .u, .u, .u, .u, .u, .u, .u, .u, .u, .u, .u, .u] := by
      have shp : ∀ (i : Nat) (y : SV), ([.u, .d .pen, .u, .u, .u, .u, .u, .u, .u, .u, .u, .u, .u, .u, .u, .u, .u, .u, .u, .u, .u, .u, .u, .u, .u, .u, .u, .u, .u, .u] : List SV)[i]? = some y → y = .u ∨ (i = 1 ∧ y = .d .pen) := fun i y q => by
        rcases i with _ | _ | i
        · exact .inl (Option.some.inj q).symm
        · exact .inr ⟨rfl, (Option.some.inj q).symm⟩
        · have := List.mem_of_getElem? (show (List.replicate 28 SV.u)[i]? = some y from q)
          exact .inl (List.mem_replicate.mp this).2
      refine ⟨rfl, fun i y q => ?_, fun i y q => ?_, fun i j y z b q => ?_⟩
      · rcases shp i _ q with h | ⟨rfl, h⟩
        · cases h
        · cases h; exact ⟨_, rfl, .pen⟩
      · rcases shp i _ q with h | ⟨rfl, h⟩ <;> cases h
      · rcases shp i _ q with h | ⟨rfl, h⟩ <;> cases h
    have no : ∀ (i : Nat) ys, ([.u, .d .pen, .u, .u, .u, .u, .u, .u, .u, .u, .u, .u, .u, .u, .u, .u, .u, .u, .u, .u, .u, .u, .u, .u, .u, .u, .u, .u, .u, .u] : List SV)[i]? ≠ some (.o ys) := fun i ys q => by
      rcases i with _ | _ | i
      · cases Option.some.inj q
      · cases Option.some.inj q
      · have := List.mem_of_getElem? (show (List.replicate 28 SV.u)[i]? = some (.o ys) from q)
        cases (List.mem_replicate.mp this).2
    refine ⟨_, H', 5000, _, _, { nx := fun _ => (fun (d : D) (_ : Nat) => d = D.bl true) D.non, rt := fun (d : D) (_ : Nat) => d = D.bl true }, ⟨Grow.refl wl, en, fun i ys p q => absurd q (no i ys), fun i ys q => absurd q (no i ys)⟩, h2 .u (fun (d : D) (_ : Nat) => d = D.bl true) 5000 (by decide) (fun _ => rfl), ?_, ?_, ?_, ?_⟩
    · exact fun σ' H2 F2 ρ' g' I p' => nomatch p'
    · intro v H2 F2 d g' G r p'
      subst p'
      cases r
      exact k H2
    · exact fun σ' H2 F2 ρ' g' I p' => False.elim p'
    · exact fun σ' H2 F2 ρ' g' I p' => False.elim p'

end
end K64

set_option Elab.async false
set_option linter.all false
set_option maxRecDepth 100000
set_option maxHeartbeats 4000000
namespace K64
open PySem PySem.Spec L2 DL
open PyProof.Rows hiding St
theorem all_mk {l : PySem.W.OpenLaw} {w : World} {K : PySem.W.Frag} {h : Heap} {mg : Str → Option Value} {fa C fI f1 f2 f3 f4 f5 f6 f7 f8 f9 f10 f11 f12 f13 f14 f15 f16 f17 f18 f19 f20 f21 f22 f23 f24 f25 f26 f27 f28 f29 f30 f31 f32 f33 f34 f35 f36 f37 f38 f39 f40 f41 f42 f43 f44 f45 f46 f47 f48 f49 f50 f51 f52 f53 f54 f55 f56 f57 f58 f59 f60 f61 f62 f63 f64 f65 f66 f67 : Addr} (X : K.In h) (G : h.Ns mainGlobals mg) (hfa : mg "law" = some (.ref fa))
    {odI anI od1 an1 od2 an2 od3 an3 od4 an4 od5 an5 od6 an6 od7 an7 od8 an8 od9 an9 od10 an10 od11 an11 od12 an12 od13 an13 od14 an14 od15 an15 od16 an16 od17 an17 od18 an18 od19 an19 od20 an20 od21 an21 od22 an22 od23 an23 od24 an24 od25 an25 od26 an26 od27 an27 od28 an28 od29 an29 od30 an30 od31 an31 od32 an32 od33 an33 od34 an34 od35 an35 od36 an36 od37 an37 od38 an38 od39 an39 od40 an40 od41 an41 od42 an42 od43 an43 od44 an44 od45 an45 od46 an46 od47 an47 od48 an48 od49 an49 od50 an50 od51 an51 od52 an52 od53 an53 od54 an54 od55 an55 od56 an56 od57 an57 od58 an58 od59 an59 od60 an60 od61 an61 od62 an62 od63 an63 od64 an64 od65 an65 od66 an66 od67 an67 : Option Addr} {slI sl1 sl2 sl3 sl4 sl5 sl6 sl7 sl8 sl9 sl10 sl11 sl12 sl13 sl14 sl15 sl16 sl17 sl18 sl19 sl20 sl21 sl22 sl23 sl24 sl25 sl26 sl27 sl28 sl29 sl30 sl31 sl32 sl33 sl34 sl35 sl36 sl37 sl38 sl39 sl40 sl41 sl42 sl43 sl44 sl45 sl46 sl47 sl48 sl49 sl50 sl51 sl52 sl53 sl54 sl55 sl56 sl57 sl58 sl59 sl60 sl61 sl62 sl63 sl64 sl65 sl66 sl67 : Array (Option Value)} {ocI kVI dcI pmI cdI ctI oc1 kV1 dc1 pm1 cd1 ct1 oc2 kV2 dc2 pm2 cd2 ct2 oc3 kV3 dc3 pm3 cd3 ct3 oc4 kV4 dc4 pm4 cd4 ct4 oc5 kV5 dc5 pm5 cd5 ct5 oc6 kV6 dc6 pm6 cd6 ct6 oc7 kV7 dc7 pm7 cd7 ct7 oc8 kV8 dc8 pm8 cd8 ct8 oc9 kV9 dc9 pm9 cd9 ct9 oc10 kV10 dc10 pm10 cd10 ct10 oc11 kV11 dc11 pm11 cd11 ct11 oc12 kV12 dc12 pm12 cd12 ct12 oc13 kV13 dc13 pm13 cd13 ct13 oc14 kV14 dc14 pm14 cd14 ct14 oc15 kV15 dc15 pm15 cd15 ct15 oc16 kV16 dc16 pm16 cd16 ct16 oc17 kV17 dc17 pm17 cd17 ct17 oc18 kV18 dc18 pm18 cd18 ct18 oc19 kV19 dc19 pm19 cd19 ct19 oc20 kV20 dc20 pm20 cd20 ct20 oc21 kV21 dc21 pm21 cd21 ct21 oc22 kV22 dc22 pm22 cd22 ct22 oc23 kV23 dc23 pm23 cd23 ct23 oc24 kV24 dc24 pm24 cd24 ct24 oc25 kV25 dc25 pm25 cd25 ct25 oc26 kV26 dc26 pm26 cd26 ct26 oc27 kV27 dc27 pm27 cd27 ct27 oc28 kV28 dc28 pm28 cd28 ct28 oc29 kV29 dc29 pm29 cd29 ct29 oc30 kV30 dc30 pm30 cd30 ct30 oc31 kV31 dc31 pm31 cd31 ct31 oc32 kV32 dc32 pm32 cd32 ct32 oc33 kV33 dc33 pm33 cd33 ct33 oc34 kV34 dc34 pm34 cd34 ct34 oc35 kV35 dc35 pm35 cd35 ct35 oc36 kV36 dc36 pm36 cd36 ct36 oc37 kV37 dc37 pm37 cd37 ct37 oc38 kV38 dc38 pm38 cd38 ct38 oc39 kV39 dc39 pm39 cd39 ct39 oc40 kV40 dc40 pm40 cd40 ct40 oc41 kV41 dc41 pm41 cd41 ct41 oc42 kV42 dc42 pm42 cd42 ct42 oc43 kV43 dc43 pm43 cd43 ct43 oc44 kV44 dc44 pm44 cd44 ct44 oc45 kV45 dc45 pm45 cd45 ct45 oc46 kV46 dc46 pm46 cd46 ct46 oc47 kV47 dc47 pm47 cd47 ct47 oc48 kV48 dc48 pm48 cd48 ct48 oc49 kV49 dc49 pm49 cd49 ct49 oc50 kV50 dc50 pm50 cd50 ct50 oc51 kV51 dc51 pm51 cd51 ct51 oc52 kV52 dc52 pm52 cd52 ct52 oc53 kV53 dc53 pm53 cd53 ct53 oc54 kV54 dc54 pm54 cd54 ct54 oc55 kV55 dc55 pm55 cd55 ct55 oc56 kV56 dc56 pm56 cd56 ct56 oc57 kV57 dc57 pm57 cd57 ct57 oc58 kV58 dc58 pm58 cd58 ct58 oc59 kV59 dc59 pm59 cd59 ct59 oc60 kV60 dc60 pm60 cd60 ct60 oc61 kV61 dc61 pm61 cd61 ct61 oc62 kV62 dc62 pm62 cd62 ct62 oc63 kV63 dc63 pm63 cd63 ct63 oc64 kV64 dc64 pm64 cd64 ct64 oc65 kV65 dc65 pm65 cd65 ct65 oc66 kV66 dc66 pm66 cd66 ct66 oc67 kV67 dc67 pm67 cd67 ct67 : Value}
    (a1 : PySem.W.nsIn K mainGlobals "is_whole" = some (some (.ref f1))) (l1 : K.lookup f1 = some ⟨oc1, od1, .func (PySem.W.fnOf "is_whole" "is_whole" (defArgs s_is_whole) (defBody s_is_whole) (defScope s_is_whole) .none kV1 dc1 pm1 an1 cd1 ct1), sl1⟩) (c1 : PySem.W.codeIn K cd1 "is_whole" = true) (k1 : PySem.W.keepIn K (.ref f1) = true)
    (a2 : PySem.W.nsIn K mainGlobals "is_pair" = some (some (.ref f2))) (l2 : K.lookup f2 = some ⟨oc2, od2, .func (PySem.W.fnOf "is_pair" "is_pair" (defArgs s_is_pair) (defBody s_is_pair) (defScope s_is_pair) .none kV2 dc2 pm2 an2 cd2 ct2), sl2⟩) (c2 : PySem.W.codeIn K cd2 "is_pair" = true) (k2 : PySem.W.keepIn K (.ref f2) = true)
    (a3 : PySem.W.nsIn K mainGlobals "lowest" = some (some (.ref f3))) (l3 : K.lookup f3 = some ⟨oc3, od3, .func (PySem.W.fnOf "lowest" "lowest" (defArgs s_lowest) (defBody s_lowest) (defScope s_lowest) .none kV3 dc3 pm3 an3 cd3 ct3), sl3⟩) (c3 : PySem.W.codeIn K cd3 "lowest" = true) (k3 : PySem.W.keepIn K (.ref f3) = true)
    (a4 : PySem.W.nsIn K mainGlobals "summed" = some (some (.ref f4))) (l4 : K.lookup f4 = some ⟨oc4, od4, .func (PySem.W.fnOf "summed" "summed" (defArgs s_summed) (defBody s_summed) (defScope s_summed) .none kV4 dc4 pm4 an4 cd4 ct4), sl4⟩) (c4 : PySem.W.codeIn K cd4 "summed" = true) (k4 : PySem.W.keepIn K (.ref f4) = true)
    (a5 : PySem.W.nsIn K mainGlobals "lessened" = some (some (.ref f5))) (l5 : K.lookup f5 = some ⟨oc5, od5, .func (PySem.W.fnOf "lessened" "lessened" (defArgs s_lessened) (defBody s_lessened) (defScope s_lessened) .none kV5 dc5 pm5 an5 cd5 ct5), sl5⟩) (c5 : PySem.W.codeIn K cd5 "lessened" = true) (k5 : PySem.W.keepIn K (.ref f5) = true)
    (a6 : PySem.W.nsIn K mainGlobals "scaled" = some (some (.ref f6))) (l6 : K.lookup f6 = some ⟨oc6, od6, .func (PySem.W.fnOf "scaled" "scaled" (defArgs s_scaled) (defBody s_scaled) (defScope s_scaled) .none kV6 dc6 pm6 an6 cd6 ct6), sl6⟩) (c6 : PySem.W.codeIn K cd6 "scaled" = true) (k6 : PySem.W.keepIn K (.ref f6) = true)
    (a7 : PySem.W.nsIn K mainGlobals "below" = some (some (.ref f7))) (l7 : K.lookup f7 = some ⟨oc7, od7, .func (PySem.W.fnOf "below" "below" (defArgs s_below) (defBody s_below) (defScope s_below) .none kV7 dc7 pm7 an7 cd7 ct7), sl7⟩) (c7 : PySem.W.codeIn K cd7 "below" = true) (k7 : PySem.W.keepIn K (.ref f7) = true)
    (a8 : PySem.W.nsIn K mainGlobals "turned_sign" = some (some (.ref f8))) (l8 : K.lookup f8 = some ⟨oc8, od8, .func (PySem.W.fnOf "turned_sign" "turned_sign" (defArgs s_turned_sign) (defBody s_turned_sign) (defScope s_turned_sign) .none kV8 dc8 pm8 an8 cd8 ct8), sl8⟩) (c8 : PySem.W.codeIn K cd8 "turned_sign" = true) (k8 : PySem.W.keepIn K (.ref f8) = true)
    (a9 : PySem.W.nsIn K mainGlobals "is_tuple_of" = some (some (.ref f9))) (l9 : K.lookup f9 = some ⟨oc9, od9, .func (PySem.W.fnOf "is_tuple_of" "is_tuple_of" (defArgs s_is_tuple_of) (defBody s_is_tuple_of) (defScope s_is_tuple_of) .none kV9 dc9 pm9 an9 cd9 ct9), sl9⟩) (c9 : PySem.W.codeIn K cd9 "is_tuple_of" = true) (k9 : PySem.W.keepIn K (.ref f9) = true)
    (a10 : PySem.W.nsIn K mainGlobals "is_ratio" = some (some (.ref f10))) (l10 : K.lookup f10 = some ⟨oc10, od10, .func (PySem.W.fnOf "is_ratio" "is_ratio" (defArgs s_is_ratio) (defBody s_is_ratio) (defScope s_is_ratio) .none kV10 dc10 pm10 an10 cd10 ct10), sl10⟩) (c10 : PySem.W.codeIn K cd10 "is_ratio" = true) (k10 : PySem.W.keepIn K (.ref f10) = true)
    (a11 : PySem.W.nsIn K mainGlobals "told" = some (some (.ref f11))) (l11 : K.lookup f11 = some ⟨oc11, od11, .func (PySem.W.fnOf "told" "told" (defArgs s_told) (defBody s_told) (defScope s_told) .none kV11 dc11 pm11 an11 cd11 ct11), sl11⟩) (c11 : PySem.W.codeIn K cd11 "told" = true) (k11 : PySem.W.keepIn K (.ref f11) = true)
    (a12 : PySem.W.nsIn K mainGlobals "is_told" = some (some (.ref f12))) (l12 : K.lookup f12 = some ⟨oc12, od12, .func (PySem.W.fnOf "is_told" "is_told" (defArgs s_is_told) (defBody s_is_told) (defScope s_is_told) .none kV12 dc12 pm12 an12 cd12 ct12), sl12⟩) (c12 : PySem.W.codeIn K cd12 "is_told" = true) (k12 : PySem.W.keepIn K (.ref f12) = true)
    (a13 : PySem.W.nsIn K mainGlobals "dot_of" = some (some (.ref f13))) (l13 : K.lookup f13 = some ⟨oc13, od13, .func (PySem.W.fnOf "dot_of" "dot_of" (defArgs s_dot_of) (defBody s_dot_of) (defScope s_dot_of) .none kV13 dc13 pm13 an13 cd13 ct13), sl13⟩) (c13 : PySem.W.codeIn K cd13 "dot_of" = true) (k13 : PySem.W.keepIn K (.ref f13) = true)
    (a14 : PySem.W.nsIn K mainGlobals "size_of" = some (some (.ref f14))) (l14 : K.lookup f14 = some ⟨oc14, od14, .func (PySem.W.fnOf "size_of" "size_of" (defArgs s_size_of) (defBody s_size_of) (defScope s_size_of) .none kV14 dc14 pm14 an14 cd14 ct14), sl14⟩) (c14 : PySem.W.codeIn K cd14 "size_of" = true) (k14 : PySem.W.keepIn K (.ref f14) = true)
    (a15 : PySem.W.nsIn K mainGlobals "mixed_rows" = some (some (.ref f15))) (l15 : K.lookup f15 = some ⟨oc15, od15, .func (PySem.W.fnOf "mixed_rows" "mixed_rows" (defArgs s_mixed_rows) (defBody s_mixed_rows) (defScope s_mixed_rows) .none kV15 dc15 pm15 an15 cd15 ct15), sl15⟩) (c15 : PySem.W.codeIn K cd15 "mixed_rows" = true) (k15 : PySem.W.keepIn K (.ref f15) = true)
    (a16 : PySem.W.nsIn K mainGlobals "table_of" = some (some (.ref f16))) (l16 : K.lookup f16 = some ⟨oc16, od16, .func (PySem.W.fnOf "table_of" "table_of" (defArgs s_table_of) (defBody s_table_of) (defScope s_table_of) .none kV16 dc16 pm16 an16 cd16 ct16), sl16⟩) (c16 : PySem.W.codeIn K cd16 "table_of" = true) (k16 : PySem.W.keepIn K (.ref f16) = true)
    (a17 : PySem.W.nsIn K mainGlobals "wide_of" = some (some (.ref f17))) (l17 : K.lookup f17 = some ⟨oc17, od17, .func (PySem.W.fnOf "wide_of" "wide_of" (defArgs s_wide_of) (defBody s_wide_of) (defScope s_wide_of) .none kV17 dc17 pm17 an17 cd17 ct17), sl17⟩) (c17 : PySem.W.codeIn K cd17 "wide_of" = true) (k17 : PySem.W.keepIn K (.ref f17) = true)
    (a18 : PySem.W.nsIn K mainGlobals "features_by" = some (some (.ref f18))) (l18 : K.lookup f18 = some ⟨oc18, od18, .func (PySem.W.fnOf "features_by" "features_by" (defArgs s_features_by) (defBody s_features_by) (defScope s_features_by) .none kV18 dc18 pm18 an18 cd18 ct18), sl18⟩) (c18 : PySem.W.codeIn K cd18 "features_by" = true) (k18 : PySem.W.keepIn K (.ref f18) = true)
    (a19 : PySem.W.nsIn K mainGlobals "targets_by" = some (some (.ref f19))) (l19 : K.lookup f19 = some ⟨oc19, od19, .func (PySem.W.fnOf "targets_by" "targets_by" (defArgs s_targets_by) (defBody s_targets_by) (defScope s_targets_by) .none kV19 dc19 pm19 an19 cd19 ct19), sl19⟩) (c19 : PySem.W.codeIn K cd19 "targets_by" = true) (k19 : PySem.W.keepIn K (.ref f19) = true)
    (a20 : PySem.W.nsIn K mainGlobals "weights_by" = some (some (.ref f20))) (l20 : K.lookup f20 = some ⟨oc20, od20, .func (PySem.W.fnOf "weights_by" "weights_by" (defArgs s_weights_by) (defBody s_weights_by) (defScope s_weights_by) .none kV20 dc20 pm20 an20 cd20 ct20), sl20⟩) (c20 : PySem.W.codeIn K cd20 "weights_by" = true) (k20 : PySem.W.keepIn K (.ref f20) = true)
    (a21 : PySem.W.nsIn K mainGlobals "unit_row" = some (some (.ref f21))) (l21 : K.lookup f21 = some ⟨oc21, od21, .func (PySem.W.fnOf "unit_row" "unit_row" (defArgs s_unit_row) (defBody s_unit_row) (defScope s_unit_row) .none kV21 dc21 pm21 an21 cd21 ct21), sl21⟩) (c21 : PySem.W.codeIn K cd21 "unit_row" = true) (k21 : PySem.W.keepIn K (.ref f21) = true)
    (a22 : PySem.W.nsIn K mainGlobals "plus_row" = some (some (.ref f22))) (l22 : K.lookup f22 = some ⟨oc22, od22, .func (PySem.W.fnOf "plus_row" "plus_row" (defArgs s_plus_row) (defBody s_plus_row) (defScope s_plus_row) .none kV22 dc22 pm22 an22 cd22 ct22), sl22⟩) (c22 : PySem.W.codeIn K cd22 "plus_row" = true) (k22 : PySem.W.keepIn K (.ref f22) = true)
    (a23 : PySem.W.nsIn K mainGlobals "limits_by" = some (some (.ref f23))) (l23 : K.lookup f23 = some ⟨oc23, od23, .func (PySem.W.fnOf "limits_by" "limits_by" (defArgs s_limits_by) (defBody s_limits_by) (defScope s_limits_by) .none kV23 dc23 pm23 an23 cd23 ct23), sl23⟩) (c23 : PySem.W.codeIn K cd23 "limits_by" = true) (k23 : PySem.W.keepIn K (.ref f23) = true)
    (a24 : PySem.W.nsIn K mainGlobals "misses_by" = some (some (.ref f24))) (l24 : K.lookup f24 = some ⟨oc24, od24, .func (PySem.W.fnOf "misses_by" "misses_by" (defArgs s_misses_by) (defBody s_misses_by) (defScope s_misses_by) .none kV24 dc24 pm24 an24 cd24 ct24), sl24⟩) (c24 : PySem.W.codeIn K cd24 "misses_by" = true) (k24 : PySem.W.keepIn K (.ref f24) = true)
    (a25 : PySem.W.nsIn K mainGlobals "part_of" = some (some (.ref f25))) (l25 : K.lookup f25 = some ⟨oc25, od25, .func (PySem.W.fnOf "part_of" "part_of" (defArgs s_part_of) (defBody s_part_of) (defScope s_part_of) .none kV25 dc25 pm25 an25 cd25 ct25), sl25⟩) (c25 : PySem.W.codeIn K cd25 "part_of" = true) (k25 : PySem.W.keepIn K (.ref f25) = true)
    (a26 : PySem.W.nsIn K mainGlobals "greatest_of" = some (some (.ref f26))) (l26 : K.lookup f26 = some ⟨oc26, od26, .func (PySem.W.fnOf "greatest_of" "greatest_of" (defArgs s_greatest_of) (defBody s_greatest_of) (defScope s_greatest_of) .none kV26 dc26 pm26 an26 cd26 ct26), sl26⟩) (c26 : PySem.W.codeIn K cd26 "greatest_of" = true) (k26 : PySem.W.keepIn K (.ref f26) = true)
    (a27 : PySem.W.nsIn K mainGlobals "copied" = some (some (.ref f27))) (l27 : K.lookup f27 = some ⟨oc27, od27, .func (PySem.W.fnOf "copied" "copied" (defArgs s_copied) (defBody s_copied) (defScope s_copied) .none kV27 dc27 pm27 an27 cd27 ct27), sl27⟩) (c27 : PySem.W.codeIn K cd27 "copied" = true) (k27 : PySem.W.keepIn K (.ref f27) = true)
    (a28 : PySem.W.nsIn K mainGlobals "in_tuples" = some (some (.ref f28))) (l28 : K.lookup f28 = some ⟨oc28, od28, .func (PySem.W.fnOf "in_tuples" "in_tuples" (defArgs s_in_tuples) (defBody s_in_tuples) (defScope s_in_tuples) .none kV28 dc28 pm28 an28 cd28 ct28), sl28⟩) (c28 : PySem.W.codeIn K cd28 "in_tuples" = true) (k28 : PySem.W.keepIn K (.ref f28) = true)
    (a29 : PySem.W.nsIn K mainGlobals "need_model" = some (some (.ref f29))) (l29 : K.lookup f29 = some ⟨oc29, od29, .func (PySem.W.fnOf "need_model" "need_model" (defArgs s_need_model) (defBody s_need_model) (defScope s_need_model) .none kV29 dc29 pm29 an29 cd29 ct29), sl29⟩) (c29 : PySem.W.codeIn K cd29 "need_model" = true) (k29 : PySem.W.keepIn K (.ref f29) = true)
    (a30 : PySem.W.nsIn K mainGlobals "need_number" = some (some (.ref f30))) (l30 : K.lookup f30 = some ⟨oc30, od30, .func (PySem.W.fnOf "need_number" "need_number" (defArgs s_need_number) (defBody s_need_number) (defScope s_need_number) .none kV30 dc30 pm30 an30 cd30 ct30), sl30⟩) (c30 : PySem.W.codeIn K cd30 "need_number" = true) (k30 : PySem.W.keepIn K (.ref f30) = true)
    (a31 : PySem.W.nsIn K mainGlobals "need_fit" = some (some (.ref f31))) (l31 : K.lookup f31 = some ⟨oc31, od31, .func (PySem.W.fnOf "need_fit" "need_fit" (defArgs s_need_fit) (defBody s_need_fit) (defScope s_need_fit) .none kV31 dc31 pm31 an31 cd31 ct31), sl31⟩) (c31 : PySem.W.codeIn K cd31 "need_fit" = true) (k31 : PySem.W.keepIn K (.ref f31) = true)
    (a32 : PySem.W.nsIn K mainGlobals "row_from" = some (some (.ref f32))) (l32 : K.lookup f32 = some ⟨oc32, od32, .func (PySem.W.fnOf "row_from" "row_from" (defArgs s_row_from) (defBody s_row_from) (defScope s_row_from) .none kV32 dc32 pm32 an32 cd32 ct32), sl32⟩) (c32 : PySem.W.codeIn K cd32 "row_from" = true) (k32 : PySem.W.keepIn K (.ref f32) = true)
    (a33 : PySem.W.nsIn K mainGlobals "measure_by" = some (some (.ref f33))) (l33 : K.lookup f33 = some ⟨oc33, od33, .func (PySem.W.fnOf "measure_by" "measure_by" (defArgs s_measure_by) (defBody s_measure_by) (defScope s_measure_by) .none kV33 dc33 pm33 an33 cd33 ct33), sl33⟩) (c33 : PySem.W.codeIn K cd33 "measure_by" = true) (k33 : PySem.W.keepIn K (.ref f33) = true)
    (a34 : PySem.W.nsIn K mainGlobals "evens_by" = some (some (.ref f34))) (l34 : K.lookup f34 = some ⟨oc34, od34, .func (PySem.W.fnOf "evens_by" "evens_by" (defArgs s_evens_by) (defBody s_evens_by) (defScope s_evens_by) .none kV34 dc34 pm34 an34 cd34 ct34), sl34⟩) (c34 : PySem.W.codeIn K cd34 "evens_by" = true) (k34 : PySem.W.keepIn K (.ref f34) = true)
    (a35 : PySem.W.nsIn K mainGlobals "pulled_by" = some (some (.ref f35))) (l35 : K.lookup f35 = some ⟨oc35, od35, .func (PySem.W.fnOf "pulled_by" "pulled_by" (defArgs s_pulled_by) (defBody s_pulled_by) (defScope s_pulled_by) .none kV35 dc35 pm35 an35 cd35 ct35), sl35⟩) (c35 : PySem.W.codeIn K cd35 "pulled_by" = true) (k35 : PySem.W.keepIn K (.ref f35) = true)
    (a36 : PySem.W.nsIn K mainGlobals "word_from" = some (some (.ref f36))) (l36 : K.lookup f36 = some ⟨oc36, od36, .func (PySem.W.fnOf "word_from" "word_from" (defArgs s_word_from) (defBody s_word_from) (defScope s_word_from) .none kV36 dc36 pm36 an36 cd36 ct36), sl36⟩) (c36 : PySem.W.codeIn K cd36 "word_from" = true) (k36 : PySem.W.keepIn K (.ref f36) = true)
    (a37 : PySem.W.nsIn K mainGlobals "targets_there" = some (some (.ref f37))) (l37 : K.lookup f37 = some ⟨oc37, od37, .func (PySem.W.fnOf "targets_there" "targets_there" (defArgs s_targets_there) (defBody s_targets_there) (defScope s_targets_there) .none kV37 dc37 pm37 an37 cd37 ct37), sl37⟩) (c37 : PySem.W.codeIn K cd37 "targets_there" = true) (k37 : PySem.W.keepIn K (.ref f37) = true)
    (a38 : PySem.W.nsIn K mainGlobals "limits_there" = some (some (.ref f38))) (l38 : K.lookup f38 = some ⟨oc38, od38, .func (PySem.W.fnOf "limits_there" "limits_there" (defArgs s_limits_there) (defBody s_limits_there) (defScope s_limits_there) .none kV38 dc38 pm38 an38 cd38 ct38), sl38⟩) (c38 : PySem.W.codeIn K cd38 "limits_there" = true) (k38 : PySem.W.keepIn K (.ref f38) = true)
    (a39 : PySem.W.nsIn K mainGlobals "misses_there" = some (some (.ref f39))) (l39 : K.lookup f39 = some ⟨oc39, od39, .func (PySem.W.fnOf "misses_there" "misses_there" (defArgs s_misses_there) (defBody s_misses_there) (defScope s_misses_there) .none kV39 dc39 pm39 an39 cd39 ct39), sl39⟩) (c39 : PySem.W.codeIn K cd39 "misses_there" = true) (k39 : PySem.W.keepIn K (.ref f39) = true)
    (a40 : PySem.W.nsIn K mainGlobals "measure_there" = some (some (.ref f40))) (l40 : K.lookup f40 = some ⟨oc40, od40, .func (PySem.W.fnOf "measure_there" "measure_there" (defArgs s_measure_there) (defBody s_measure_there) (defScope s_measure_there) .none kV40 dc40 pm40 an40 cd40 ct40), sl40⟩) (c40 : PySem.W.codeIn K cd40 "measure_there" = true) (k40 : PySem.W.keepIn K (.ref f40) = true)
    (a41 : PySem.W.nsIn K mainGlobals "evens_there" = some (some (.ref f41))) (l41 : K.lookup f41 = some ⟨oc41, od41, .func (PySem.W.fnOf "evens_there" "evens_there" (defArgs s_evens_there) (defBody s_evens_there) (defScope s_evens_there) .none kV41 dc41 pm41 an41 cd41 ct41), sl41⟩) (c41 : PySem.W.codeIn K cd41 "evens_there" = true) (k41 : PySem.W.keepIn K (.ref f41) = true)
    (a42 : PySem.W.nsIn K mainGlobals "pulled_there" = some (some (.ref f42))) (l42 : K.lookup f42 = some ⟨oc42, od42, .func (PySem.W.fnOf "pulled_there" "pulled_there" (defArgs s_pulled_there) (defBody s_pulled_there) (defScope s_pulled_there) .none kV42 dc42 pm42 an42 cd42 ct42), sl42⟩) (c42 : PySem.W.codeIn K cd42 "pulled_there" = true) (k42 : PySem.W.keepIn K (.ref f42) = true)
    (a43 : PySem.W.nsIn K mainGlobals "is_row" = some (some (.ref f43))) (l43 : K.lookup f43 = some ⟨oc43, od43, .func (PySem.W.fnOf "is_row" "is_row" (defArgs s_is_row) (defBody s_is_row) (defScope s_is_row) .none kV43 dc43 pm43 an43 cd43 ct43), sl43⟩) (c43 : PySem.W.codeIn K cd43 "is_row" = true) (k43 : PySem.W.keepIn K (.ref f43) = true)
    (a44 : PySem.W.nsIn K mainGlobals "first_limit" = some (some (.ref f44))) (l44 : K.lookup f44 = some ⟨oc44, od44, .func (PySem.W.fnOf "first_limit" "first_limit" (defArgs s_first_limit) (defBody s_first_limit) (defScope s_first_limit) .none kV44 dc44 pm44 an44 cd44 ct44), sl44⟩) (c44 : PySem.W.codeIn K cd44 "first_limit" = true) (k44 : PySem.W.keepIn K (.ref f44) = true)
    (a45 : PySem.W.nsIn K mainGlobals "is_let_there" = some (some (.ref f45))) (l45 : K.lookup f45 = some ⟨oc45, od45, .func (PySem.W.fnOf "is_let_there" "is_let_there" (defArgs s_is_let_there) (defBody s_is_let_there) (defScope s_is_let_there) .none kV45 dc45 pm45 an45 cd45 ct45), sl45⟩) (c45 : PySem.W.codeIn K cd45 "is_let_there" = true) (k45 : PySem.W.keepIn K (.ref f45) = true)
    (a46 : PySem.W.nsIn K mainGlobals "_law_draw" = some (some (.ref f46))) (l46 : K.lookup f46 = some ⟨oc46, od46, .func (PySem.W.fnOf "_law_draw" "_law_draw" (defArgs s__law_draw) (defBody s__law_draw) (defScope s__law_draw) .none kV46 dc46 pm46 an46 cd46 ct46), sl46⟩) (c46 : PySem.W.codeIn K cd46 "_law_draw" = true) (k46 : PySem.W.keepIn K (.ref f46) = true)
    (a47 : PySem.W.nsIn K mainGlobals "_law_pick" = some (some (.ref f47))) (l47 : K.lookup f47 = some ⟨oc47, od47, .func (PySem.W.fnOf "_law_pick" "_law_pick" (defArgs s__law_pick) (defBody s__law_pick) (defScope s__law_pick) .none kV47 dc47 pm47 an47 cd47 ct47), sl47⟩) (c47 : PySem.W.codeIn K cd47 "_law_pick" = true) (k47 : PySem.W.keepIn K (.ref f47) = true)
    (a48 : PySem.W.nsIn K mainGlobals "_law_gcd" = some (some (.ref f48))) (l48 : K.lookup f48 = some ⟨oc48, od48, .func (PySem.W.fnOf "_law_gcd" "_law_gcd" (defArgs s__law_gcd) (defBody s__law_gcd) (defScope s__law_gcd) .none kV48 dc48 pm48 an48 cd48 ct48), sl48⟩) (c48 : PySem.W.codeIn K cd48 "_law_gcd" = true) (k48 : PySem.W.keepIn K (.ref f48) = true)
    (a49 : PySem.W.nsIn K mainGlobals "_law_q" = some (some (.ref f49))) (l49 : K.lookup f49 = some ⟨oc49, od49, .func (PySem.W.fnOf "_law_q" "_law_q" (defArgs s__law_q) (defBody s__law_q) (defScope s__law_q) .none kV49 dc49 pm49 an49 cd49 ct49), sl49⟩) (c49 : PySem.W.codeIn K cd49 "_law_q" = true) (k49 : PySem.W.keepIn K (.ref f49) = true)
    (a50 : PySem.W.nsIn K mainGlobals "_law_plus" = some (some (.ref f50))) (l50 : K.lookup f50 = some ⟨oc50, od50, .func (PySem.W.fnOf "_law_plus" "_law_plus" (defArgs s__law_plus) (defBody s__law_plus) (defScope s__law_plus) .none kV50 dc50 pm50 an50 cd50 ct50), sl50⟩) (c50 : PySem.W.codeIn K cd50 "_law_plus" = true) (k50 : PySem.W.keepIn K (.ref f50) = true)
    (a51 : PySem.W.nsIn K mainGlobals "_law_times" = some (some (.ref f51))) (l51 : K.lookup f51 = some ⟨oc51, od51, .func (PySem.W.fnOf "_law_times" "_law_times" (defArgs s__law_times) (defBody s__law_times) (defScope s__law_times) .none kV51 dc51 pm51 an51 cd51 ct51), sl51⟩) (c51 : PySem.W.codeIn K cd51 "_law_times" = true) (k51 : PySem.W.keepIn K (.ref f51) = true)
    (a52 : PySem.W.nsIn K mainGlobals "_law_less" = some (some (.ref f52))) (l52 : K.lookup f52 = some ⟨oc52, od52, .func (PySem.W.fnOf "_law_less" "_law_less" (defArgs s__law_less) (defBody s__law_less) (defScope s__law_less) .none kV52 dc52 pm52 an52 cd52 ct52), sl52⟩) (c52 : PySem.W.codeIn K cd52 "_law_less" = true) (k52 : PySem.W.keepIn K (.ref f52) = true)
    (a53 : PySem.W.nsIn K mainGlobals "_law_minus" = some (some (.ref f53))) (l53 : K.lookup f53 = some ⟨oc53, od53, .func (PySem.W.fnOf "_law_minus" "_law_minus" (defArgs s__law_minus) (defBody s__law_minus) (defScope s__law_minus) .none kV53 dc53 pm53 an53 cd53 ct53), sl53⟩) (c53 : PySem.W.codeIn K cd53 "_law_minus" = true) (k53 : PySem.W.keepIn K (.ref f53) = true)
    (a54 : PySem.W.nsIn K mainGlobals "_law_share" = some (some (.ref f54))) (l54 : K.lookup f54 = some ⟨oc54, od54, .func (PySem.W.fnOf "_law_share" "_law_share" (defArgs s__law_share) (defBody s__law_share) (defScope s__law_share) .none kV54 dc54 pm54 an54 cd54 ct54), sl54⟩) (c54 : PySem.W.codeIn K cd54 "_law_share" = true) (k54 : PySem.W.keepIn K (.ref f54) = true)
    (a55 : PySem.W.nsIn K mainGlobals "_law_sum" = some (some (.ref f55))) (l55 : K.lookup f55 = some ⟨oc55, od55, .func (PySem.W.fnOf "_law_sum" "_law_sum" (defArgs s__law_sum) (defBody s__law_sum) (defScope s__law_sum) .none kV55 dc55 pm55 an55 cd55 ct55), sl55⟩) (c55 : PySem.W.codeIn K cd55 "_law_sum" = true) (k55 : PySem.W.keepIn K (.ref f55) = true)
    (a56 : PySem.W.nsIn K mainGlobals "_law_dot" = some (some (.ref f56))) (l56 : K.lookup f56 = some ⟨oc56, od56, .func (PySem.W.fnOf "_law_dot" "_law_dot" (defArgs s__law_dot) (defBody s__law_dot) (defScope s__law_dot) .none kV56 dc56 pm56 an56 cd56 ct56), sl56⟩) (c56 : PySem.W.codeIn K cd56 "_law_dot" = true) (k56 : PySem.W.keepIn K (.ref f56) = true)
    (a57 : PySem.W.nsIn K mainGlobals "_law_turn" = some (some (.ref f57))) (l57 : K.lookup f57 = some ⟨oc57, od57, .func (PySem.W.fnOf "_law_turn" "_law_turn" (defArgs s__law_turn) (defBody s__law_turn) (defScope s__law_turn) .none kV57 dc57 pm57 an57 cd57 ct57), sl57⟩) (c57 : PySem.W.codeIn K cd57 "_law_turn" = true) (k57 : PySem.W.keepIn K (.ref f57) = true)
    (a58 : PySem.W.nsIn K mainGlobals "_law_n_model" = some (some (.ref f58))) (l58 : K.lookup f58 = some ⟨oc58, od58, .func (PySem.W.fnOf "_law_n_model" "_law_n_model" (defArgs s__law_n_model) (defBody s__law_n_model) (defScope s__law_n_model) .none kV58 dc58 pm58 an58 cd58 ct58), sl58⟩) (c58 : PySem.W.codeIn K cd58 "_law_n_model" = true) (k58 : PySem.W.keepIn K (.ref f58) = true)
    (a59 : PySem.W.nsIn K mainGlobals "_law_n_item" = some (some (.ref f59))) (l59 : K.lookup f59 = some ⟨oc59, od59, .func (PySem.W.fnOf "_law_n_item" "_law_n_item" (defArgs s__law_n_item) (defBody s__law_n_item) (defScope s__law_n_item) .none kV59 dc59 pm59 an59 cd59 ct59), sl59⟩) (c59 : PySem.W.codeIn K cd59 "_law_n_item" = true) (k59 : PySem.W.keepIn K (.ref f59) = true)
    (a60 : PySem.W.nsIn K mainGlobals "_law_n_weight" = some (some (.ref f60))) (l60 : K.lookup f60 = some ⟨oc60, od60, .func (PySem.W.fnOf "_law_n_weight" "_law_n_weight" (defArgs s__law_n_weight) (defBody s__law_n_weight) (defScope s__law_n_weight) .none kV60 dc60 pm60 an60 cd60 ct60), sl60⟩) (c60 : PySem.W.codeIn K cd60 "_law_n_weight" = true) (k60 : PySem.W.keepIn K (.ref f60) = true)
    (a61 : PySem.W.nsIn K mainGlobals "_law_n_table" = some (some (.ref f61))) (l61 : K.lookup f61 = some ⟨oc61, od61, .func (PySem.W.fnOf "_law_n_table" "_law_n_table" (defArgs s__law_n_table) (defBody s__law_n_table) (defScope s__law_n_table) .none kV61 dc61 pm61 an61 cd61 ct61), sl61⟩) (c61 : PySem.W.codeIn K cd61 "_law_n_table" = true) (k61 : PySem.W.keepIn K (.ref f61) = true)
    (a62 : PySem.W.nsIn K mainGlobals "_law_n_features" = some (some (.ref f62))) (l62 : K.lookup f62 = some ⟨oc62, od62, .func (PySem.W.fnOf "_law_n_features" "_law_n_features" (defArgs s__law_n_features) (defBody s__law_n_features) (defScope s__law_n_features) .none kV62 dc62 pm62 an62 cd62 ct62), sl62⟩) (c62 : PySem.W.codeIn K cd62 "_law_n_features" = true) (k62 : PySem.W.keepIn K (.ref f62) = true)
    (a63 : PySem.W.nsIn K mainGlobals "_law_share_drawn" = some (some (.ref f63))) (l63 : K.lookup f63 = some ⟨oc63, od63, .func (PySem.W.fnOf "_law_share_drawn" "_law_share_drawn" (defArgs s__law_share_drawn) (defBody s__law_share_drawn) (defScope s__law_share_drawn) .none kV63 dc63 pm63 an63 cd63 ct63), sl63⟩) (c63 : PySem.W.codeIn K cd63 "_law_share_drawn" = true) (k63 : PySem.W.keepIn K (.ref f63) = true)
    (a64 : PySem.W.nsIn K mainGlobals "_law_number" = some (some (.ref f64))) (l64 : K.lookup f64 = some ⟨oc64, od64, .func (PySem.W.fnOf "_law_number" "_law_number" (defArgs s__law_number) (defBody s__law_number) (defScope s__law_number) .none kV64 dc64 pm64 an64 cd64 ct64), sl64⟩) (c64 : PySem.W.codeIn K cd64 "_law_number" = true) (k64 : PySem.W.keepIn K (.ref f64) = true)
    (a65 : PySem.W.nsIn K mainGlobals "_law_signs" = some (some (.ref f65))) (l65 : K.lookup f65 = some ⟨oc65, od65, .func (PySem.W.fnOf "_law_signs" "_law_signs" (defArgs s__law_signs) (defBody s__law_signs) (defScope s__law_signs) .none kV65 dc65 pm65 an65 cd65 ct65), sl65⟩) (c65 : PySem.W.codeIn K cd65 "_law_signs" = true) (k65 : PySem.W.keepIn K (.ref f65) = true)
    (a66 : PySem.W.nsIn K mainGlobals "_law_pen" = some (some (.ref f66))) (l66 : K.lookup f66 = some ⟨oc66, od66, .func (PySem.W.fnOf "_law_pen" "_law_pen" (defArgs s__law_pen) (defBody s__law_pen) (defScope s__law_pen) .none kV66 dc66 pm66 an66 cd66 ct66), sl66⟩) (c66 : PySem.W.codeIn K cd66 "_law_pen" = true) (k66 : PySem.W.keepIn K (.ref f66) = true)
    (a67 : PySem.W.nsIn K mainGlobals "law" = some (some (.ref f67))) (l67 : K.lookup f67 = some ⟨oc67, od67, .func (PySem.W.fnOf "law" "law" (defArgs s_law) (defBody s_law) (defScope s_law) .none kV67 dc67 pm67 an67 cd67 ct67), sl67⟩) (c67 : PySem.W.codeIn K cd67 "law" = true) (k67 : PySem.W.keepIn K (.ref f67) = true)
    (aC : PySem.W.nsIn K mainGlobals "Model" = some (some (.ref C)))
    (aI : PySem.W.findIn K (.ref C) "__init__" = some (some (.ref fI))) (iI : PySem.W.isFn K (.ref fI) = true) (lI : K.lookup fI = some ⟨ocI, odI, .func (PySem.W.fnOf "__init__" "Model.__init__" (defArgs s_init) (defBody s_init) (defScope s_init) .none kVI dcI pmI anI cdI ctI), slI⟩) (cI : PySem.W.codeIn K cdI "Model.__init__" = true) (kI : PySem.W.keepIn K (.ref fI) = true)
    (pg : PySem.W.plainGet K C Str.empty = true) (hd : PySem.W.hasDictIn K C = true) (po : PySem.W.plainOver K C = true) (sa : PySem.W.findIn K (.ref C) "__setattr__" = some (some (.builtin "object.__setattr__"))) (mk : PySem.W.makesIn K C = true) (kc : PySem.W.keepIn K (.ref C) = true)
    (nT : PySem.W.findIn K (.ref C) "tables" = some none) (nF : PySem.W.findIn K (.ref C) "fits" = some none) (nA : PySem.W.findIn K (.ref C) "asks" = some none)
    (o1 : PySem.W.findIn K (.ref C) "__class__" = some (some (.builtin "object.__class__"))) (o2 : PySem.W.specialIn K (.builtin "object.__class__") "__get__" = some (some (.builtin "getset_descriptor.__get__"))) (o3 : PySem.W.takesIn K (.builtin "object.__class__") = some true) (o4 : PySem.W.mroIn K C (.type "object") = some true)
    (z_len : PySem.W.nsIn K mainGlobals "len" = some none)
    (z_abs : PySem.W.nsIn K mainGlobals "abs" = some none)
    (z_all : PySem.W.nsIn K mainGlobals "all" = some none)
    (z_int : PySem.W.nsIn K mainGlobals "int" = some none)
    (z_str : PySem.W.nsIn K mainGlobals "str" = some none)
    (z_bool : PySem.W.nsIn K mainGlobals "bool" = some none)
    (z_tuple : PySem.W.nsIn K mainGlobals "tuple" = some none)
    (z_list : PySem.W.nsIn K mainGlobals "list" = some none)
    (z_range : PySem.W.nsIn K mainGlobals "range" = some none)
    (z_zip : PySem.W.nsIn K mainGlobals "zip" = some none)
    (z_enumerate : PySem.W.nsIn K mainGlobals "enumerate" = some none)
    (z_isinstance : PySem.W.nsIn K mainGlobals "isinstance" = some none)
    (z_gcd : PySem.W.nsIn K mainGlobals "gcd" = some (some (.builtin "math.gcd")))
    {g_NONE : Addr} {u_NONE : Option Addr} {n_NONE : Nat} {w_NONE : Array (Option Value)} {t0_NONE t1_NONE : Tok} (q_NONE : PySem.W.nsIn K mainGlobals "NONE" = some (some (.ref g_NONE))) (r_NONE : K.lookup g_NONE = some ⟨.type "tuple", u_NONE, .seq #[.int 0 t0_NONE, .int 1 t1_NONE] n_NONE, w_NONE⟩)
    {g_ONE : Addr} {u_ONE : Option Addr} {n_ONE : Nat} {w_ONE : Array (Option Value)} {t0_ONE t1_ONE : Tok} (q_ONE : PySem.W.nsIn K mainGlobals "ONE" = some (some (.ref g_ONE))) (r_ONE : K.lookup g_ONE = some ⟨.type "tuple", u_ONE, .seq #[.int 1 t0_ONE, .int 1 t1_ONE] n_ONE, w_ONE⟩)
    {g_LESS : Addr} {u_LESS : Option Addr} {n_LESS : Nat} {w_LESS : Array (Option Value)} {t0_LESS t1_LESS : Tok} (q_LESS : PySem.W.nsIn K mainGlobals "LESS" = some (some (.ref g_LESS))) (r_LESS : K.lookup g_LESS = some ⟨.type "tuple", u_LESS, .seq #[.int (-1) t0_LESS, .int 1 t1_LESS] n_LESS, w_LESS⟩)
    {g_WORDS : Addr} {u_WORDS : Option Addr} {n_WORDS : Nat} {w_WORDS : Array (Option Value)} {t0_WORDS t1_WORDS t2_WORDS : Tok} (q_WORDS : PySem.W.nsIn K mainGlobals "WORDS" = some (some (.ref g_WORDS))) (r_WORDS : K.lookup g_WORDS = some ⟨.type "tuple", u_WORDS, .seq #[.str "squares" t0_WORDS, .str "sums" t1_WORDS, .str "greatest" t2_WORDS] n_WORDS, w_WORDS⟩)
    : ∃ fd : FuncData, (∀ (s : Shared) (v : Value), BindsTo s fd ⟨[v], []⟩ [("script", v)]) ∧ ∀ base : Heap, K.In base → base.Ns mainGlobals mg → FnOk l.prog w K mg base CX0 8 fa fd ["script"] (spLaw K) := by
  have e := hfa.symm.trans (PySem.W.mg_of X G a67)
  cases e
  have tupC : ∀ (g : Addr) (o : Obj) (its : Array Value) (vs : List V) (ds : List D) (n : Nat), K.lookup g = some o → o.cls = .type "tuple" → o.data = .seq its n → its.size ≤ sizeLine → Vals vs its.toList → ds.length ≤ sizeLine → (∀ W F, Reps K W F vs ds) → ∀ x, mg x = some (.ref g) → GConst K mg x (.tup ds) := fun g o its vs ds n h1 h2 h3 h4 h5 h6 h7 x h8 => ⟨⟨.ref g, .ref g, h8, rfl, fun W F => .tup (.inr ⟨o, its, n, h1, h2, h3, h4, h5⟩) h6 (h7 W F)⟩⟩
  have G_NONE := tupC g_NONE _ #[.int 0 t0_NONE, .int 1 t1_NONE] [.int 0, .int 1] [.int 0, .int 1] n_NONE r_NONE rfl rfl (by show 2 ≤ sizeLine; decide) (.cons ⟨_, rfl⟩ (.cons ⟨_, rfl⟩ .nil)) (by show 2 ≤ sizeLine; decide) (fun W F => (.cons (.int _) (.cons (.int _) .nil))) "NONE" (PySem.W.mg_of X G q_NONE)
  have G_ONE := tupC g_ONE _ #[.int 1 t0_ONE, .int 1 t1_ONE] [.int 1, .int 1] [.int 1, .int 1] n_ONE r_ONE rfl rfl (by show 2 ≤ sizeLine; decide) (.cons ⟨_, rfl⟩ (.cons ⟨_, rfl⟩ .nil)) (by show 2 ≤ sizeLine; decide) (fun W F => (.cons (.int _) (.cons (.int _) .nil))) "ONE" (PySem.W.mg_of X G q_ONE)
  have G_LESS := tupC g_LESS _ #[.int (-1) t0_LESS, .int 1 t1_LESS] [.int (-1), .int 1] [.int (-1), .int 1] n_LESS r_LESS rfl rfl (by show 2 ≤ sizeLine; decide) (.cons ⟨_, rfl⟩ (.cons ⟨_, rfl⟩ .nil)) (by show 2 ≤ sizeLine; decide) (fun W F => (.cons (.int _) (.cons (.int _) .nil))) "LESS" (PySem.W.mg_of X G q_LESS)
  have G_WORDS := tupC g_WORDS _ #[.str "squares" t0_WORDS, .str "sums" t1_WORDS, .str "greatest" t2_WORDS] [.str "squares", .str "sums", .str "greatest"] [.str "squares", .str "sums", .str "greatest"] n_WORDS r_WORDS rfl rfl (by show 3 ≤ sizeLine; decide) (.cons ⟨_, rfl⟩ (.cons ⟨_, rfl⟩ (.cons ⟨_, rfl⟩ .nil))) (by show 3 ≤ sizeLine; decide) (fun W F => (.cons (.str _) (.cons (.str _) (.cons (.str _) .nil)))) "WORDS" (PySem.W.mg_of X G q_WORDS)
  have T : Txt K mg (fun _ => C) := {
    m_len := PySem.W.mg_none_of X G z_len
    m_abs := PySem.W.mg_none_of X G z_abs
    m_all := PySem.W.mg_none_of X G z_all
    m_int := PySem.W.mg_none_of X G z_int
    m_str := PySem.W.mg_none_of X G z_str
    m_bool := PySem.W.mg_none_of X G z_bool
    m_tuple := PySem.W.mg_none_of X G z_tuple
    m_list := PySem.W.mg_none_of X G z_list
    m_range := PySem.W.mg_none_of X G z_range
    m_zip := PySem.W.mg_none_of X G z_zip
    m_enumerate := PySem.W.mg_none_of X G z_enumerate
    m_isinstance := PySem.W.mg_none_of X G z_isinstance
    m_gcd := PySem.W.mg_of X G z_gcd
    c_NONE := G_NONE
    c_ONE := G_ONE
    c_LESS := G_LESS
    c_WORDS := G_WORDS
    cl := ⟨pg, hd, po, sa⟩
    n_tables := nT
    n_fits := nF
    n_asks := nA
    oc := ⟨⟨pg, hd, po, sa⟩, o1, o2, o3, o4⟩
    no := fun S hS => by cases hS
    g_Model := PySem.W.mg_of X G aC }
  have F1 := fun_mk (st := s_is_whole) l1 c1 k1
  have b1 := F1.binds (ps := ["value"]) fun _ _ _ _ _ _ us hl => match us, hl with | [_], _ => rfl
  have F2 := fun_mk (st := s_is_pair) l2 c2 k2
  have b2 := F2.binds (ps := ["value"]) fun _ _ _ _ _ _ us hl => match us, hl with | [_], _ => rfl
  have F3 := fun_mk (st := s_lowest) l3 c3 k3
  have b3 := F3.binds (ps := ["top", "bottom"]) fun _ _ _ _ _ _ us hl => match us, hl with | [_, _], _ => rfl
  have F4 := fun_mk (st := s_summed) l4 c4 k4
  have b4 := F4.binds (ps := ["one", "other"]) fun _ _ _ _ _ _ us hl => match us, hl with | [_, _], _ => rfl
  have F5 := fun_mk (st := s_lessened) l5 c5 k5
  have b5 := F5.binds (ps := ["one", "other"]) fun _ _ _ _ _ _ us hl => match us, hl with | [_, _], _ => rfl
  have F6 := fun_mk (st := s_scaled) l6 c6 k6
  have b6 := F6.binds (ps := ["one", "other"]) fun _ _ _ _ _ _ us hl => match us, hl with | [_, _], _ => rfl
  have F7 := fun_mk (st := s_below) l7 c7 k7
  have b7 := F7.binds (ps := ["one", "other"]) fun _ _ _ _ _ _ us hl => match us, hl with | [_, _], _ => rfl
  have F8 := fun_mk (st := s_turned_sign) l8 c8 k8
  have b8 := F8.binds (ps := ["one"]) fun _ _ _ _ _ _ us hl => match us, hl with | [_], _ => rfl
  have F9 := fun_mk (st := s_is_tuple_of) l9 c9 k9
  have b9 := F9.binds (ps := ["value", "many"]) fun _ _ _ _ _ _ us hl => match us, hl with | [_, _], _ => rfl
  have F10 := fun_mk (st := s_is_ratio) l10 c10 k10
  have b10 := F10.binds (ps := ["value"]) fun _ _ _ _ _ _ us hl => match us, hl with | [_], _ => rfl
  have F11 := fun_mk (st := s_told) l11 c11 k11
  have b11 := F11.binds (ps := ["ratio"]) fun _ _ _ _ _ _ us hl => match us, hl with | [_], _ => rfl
  have F12 := fun_mk (st := s_is_told) l12 c12 k12
  have b12 := F12.binds (ps := ["value"]) fun _ _ _ _ _ _ us hl => match us, hl with | [_], _ => rfl
  have F13 := fun_mk (st := s_dot_of) l13 c13 k13
  have b13 := F13.binds (ps := ["one", "other"]) fun _ _ _ _ _ _ us hl => match us, hl with | [_, _], _ => rfl
  have F14 := fun_mk (st := s_size_of) l14 c14 k14
  have b14 := F14.binds (ps := ["ratio"]) fun _ _ _ _ _ _ us hl => match us, hl with | [_], _ => rfl
  have F15 := fun_mk (st := s_mixed_rows) l15 c15 k15
  have b15 := F15.binds (ps := ["rows", "shares", "wide"]) fun _ _ _ _ _ _ us hl => match us, hl with | [_, _, _], _ => rfl
  have F16 := fun_mk (st := s_table_of) l16 c16 k16
  have b16 := F16.binds (ps := ["model", "fit"]) fun _ _ _ _ _ _ us hl => match us, hl with | [_, _], _ => rfl
  have F17 := fun_mk (st := s_wide_of) l17 c17 k17
  have b17 := F17.binds (ps := ["model", "fit"]) fun _ _ _ _ _ _ us hl => match us, hl with | [_, _], _ => rfl
  have F18 := fun_mk (st := s_features_by) l18 c18 k18
  have b18 := F18.binds (ps := ["model", "fit"]) fun _ _ _ _ _ _ us hl => match us, hl with | [_, _], _ => rfl
  have F19 := fun_mk (st := s_targets_by) l19 c19 k19
  have b19 := F19.binds (ps := ["model", "fit"]) fun _ _ _ _ _ _ us hl => match us, hl with | [_, _], _ => rfl
  have F20 := fun_mk (st := s_weights_by) l20 c20 k20
  have b20 := F20.binds (ps := ["model", "fit"]) fun _ _ _ _ _ _ us hl => match us, hl with | [_, _], _ => rfl
  have F21 := fun_mk (st := s_unit_row) l21 c21 k21
  have b21 := F21.binds (ps := ["wide", "place", "item"]) fun _ _ _ _ _ _ us hl => match us, hl with | [_, _, _], _ => rfl
  have F22 := fun_mk (st := s_plus_row) l22 c22 k22
  have b22 := F22.binds (ps := ["one", "other"]) fun _ _ _ _ _ _ us hl => match us, hl with | [_, _], _ => rfl
  have F23 := fun_mk (st := s_limits_by) l23 c23 k23
  have b23 := F23.binds (ps := ["model", "fit"]) fun _ _ _ _ _ _ us hl => match us, hl with | [_, _], _ => rfl
  have F24 := fun_mk (st := s_misses_by) l24 c24 k24
  have b24 := F24.binds (ps := ["model", "fit", "coefs"]) fun _ _ _ _ _ _ us hl => match us, hl with | [_, _, _], _ => rfl
  have F25 := fun_mk (st := s_part_of) l25 c25 k25
  have b25 := F25.binds (ps := ["miss", "ratio"]) fun _ _ _ _ _ _ us hl => match us, hl with | [_, _], _ => rfl
  have F26 := fun_mk (st := s_greatest_of) l26 c26 k26
  have b26 := F26.binds (ps := ["row"]) fun _ _ _ _ _ _ us hl => match us, hl with | [_], _ => rfl
  have F27 := fun_mk (st := s_copied) l27 c27 k27
  have b27 := F27.binds (ps := ["value"]) fun _ _ _ _ _ _ us hl => match us, hl with | [_], _ => rfl
  have F28 := fun_mk (st := s_in_tuples) l28 c28 k28
  have b28 := F28.binds (ps := ["value"]) fun _ _ _ _ _ _ us hl => match us, hl with | [_], _ => rfl
  have F29 := fun_mk (st := s_need_model) l29 c29 k29
  have b29 := F29.binds (ps := ["model"]) fun _ _ _ _ _ _ us hl => match us, hl with | [_], _ => rfl
  have F30 := fun_mk (st := s_need_number) l30 c30 k30
  have b30 := F30.binds (ps := ["what", "number", "many"]) fun _ _ _ _ _ _ us hl => match us, hl with | [_, _, _], _ => rfl
  have F31 := fun_mk (st := s_need_fit) l31 c31 k31
  have b31 := F31.binds (ps := ["model", "fit"]) fun _ _ _ _ _ _ us hl => match us, hl with | [_, _], _ => rfl
  have F32 := fun_mk (st := s_row_from) l32 c32 k32
  have b32 := F32.binds (ps := ["row", "many"]) fun _ _ _ _ _ _ us hl => match us, hl with | [_, _], _ => rfl
  have F33 := fun_mk (st := s_measure_by) l33 c33 k33
  have b33 := F33.binds (ps := ["model", "word", "fit", "coefs"]) fun _ _ _ _ _ _ us hl => match us, hl with | [_, _, _, _], _ => rfl
  have F34 := fun_mk (st := s_evens_by) l34 c34 k34
  have b34 := F34.binds (ps := ["model", "fit", "signs"]) fun _ _ _ _ _ _ us hl => match us, hl with | [_, _, _], _ => rfl
  have F35 := fun_mk (st := s_pulled_by) l35 c35 k35
  have b35 := F35.binds (ps := ["model", "fit", "pulls"]) fun _ _ _ _ _ _ us hl => match us, hl with | [_, _, _], _ => rfl
  have F36 := fun_mk (st := s_word_from) l36 c36 k36
  have b36 := F36.binds (ps := ["word"]) fun _ _ _ _ _ _ us hl => match us, hl with | [_], _ => rfl
  have F37 := fun_mk (st := s_targets_there) l37 c37 k37
  have b37 := F37.binds (ps := ["model", "fit"]) fun _ _ _ _ _ _ us hl => match us, hl with | [_, _], _ => rfl
  have F38 := fun_mk (st := s_limits_there) l38 c38 k38
  have b38 := F38.binds (ps := ["model", "fit"]) fun _ _ _ _ _ _ us hl => match us, hl with | [_, _], _ => rfl
  have F39 := fun_mk (st := s_misses_there) l39 c39 k39
  have b39 := F39.binds (ps := ["model", "fit", "coefs"]) fun _ _ _ _ _ _ us hl => match us, hl with | [_, _, _], _ => rfl
  have F40 := fun_mk (st := s_measure_there) l40 c40 k40
  have b40 := F40.binds (ps := ["model", "word", "fit", "coefs"]) fun _ _ _ _ _ _ us hl => match us, hl with | [_, _, _, _], _ => rfl
  have F41 := fun_mk (st := s_evens_there) l41 c41 k41
  have b41 := F41.binds (ps := ["model", "fit", "signs"]) fun _ _ _ _ _ _ us hl => match us, hl with | [_, _, _], _ => rfl
  have F42 := fun_mk (st := s_pulled_there) l42 c42 k42
  have b42 := F42.binds (ps := ["model", "fit", "pulls"]) fun _ _ _ _ _ _ us hl => match us, hl with | [_, _, _], _ => rfl
  have F43 := fun_mk (st := s_is_row) l43 c43 k43
  have b43 := F43.binds (ps := ["value", "many"]) fun _ _ _ _ _ _ us hl => match us, hl with | [_, _], _ => rfl
  have F44 := fun_mk (st := s_first_limit) l44 c44 k44
  have b44 := F44.binds (ps := ["model", "fit", "coefs"]) fun _ _ _ _ _ _ us hl => match us, hl with | [_, _, _], _ => rfl
  have F45 := fun_mk (st := s_is_let_there) l45 c45 k45
  have b45 := F45.binds (ps := ["model", "fit", "value"]) fun _ _ _ _ _ _ us hl => match us, hl with | [_, _, _], _ => rfl
  have F46 := fun_mk (st := s__law_draw) l46 c46 k46
  have b46 := F46.binds (ps := ["pen", "many"]) fun _ _ _ _ _ _ us hl => match us, hl with | [_, _], _ => rfl
  have F47 := fun_mk (st := s__law_pick) l47 c47 k47
  have b47 := F47.binds (ps := ["pen", "some"]) fun _ _ _ _ _ _ us hl => match us, hl with | [_, _], _ => rfl
  have F48 := fun_mk (st := s__law_gcd) l48 c48 k48
  have b48 := F48.binds (ps := ["one", "two"]) fun _ _ _ _ _ _ us hl => match us, hl with | [_, _], _ => rfl
  have F49 := fun_mk (st := s__law_q) l49 c49 k49
  have b49 := F49.binds (ps := ["top", "bottom"]) fun _ _ _ _ _ _ us hl => match us, hl with | [_, _], _ => rfl
  have F50 := fun_mk (st := s__law_plus) l50 c50 k50
  have b50 := F50.binds (ps := ["one", "two"]) fun _ _ _ _ _ _ us hl => match us, hl with | [_, _], _ => rfl
  have F51 := fun_mk (st := s__law_times) l51 c51 k51
  have b51 := F51.binds (ps := ["one", "two"]) fun _ _ _ _ _ _ us hl => match us, hl with | [_, _], _ => rfl
  have F52 := fun_mk (st := s__law_less) l52 c52 k52
  have b52 := F52.binds (ps := ["one", "two"]) fun _ _ _ _ _ _ us hl => match us, hl with | [_, _], _ => rfl
  have F53 := fun_mk (st := s__law_minus) l53 c53 k53
  have b53 := F53.binds (ps := ["one", "two"]) fun _ _ _ _ _ _ us hl => match us, hl with | [_, _], _ => rfl
  have F54 := fun_mk (st := s__law_share) l54 c54 k54
  have b54 := F54.binds (ps := ["one", "two"]) fun _ _ _ _ _ _ us hl => match us, hl with | [_, _], _ => rfl
  have F55 := fun_mk (st := s__law_sum) l55 c55 k55
  have b55 := F55.binds (ps := ["items"]) fun _ _ _ _ _ _ us hl => match us, hl with | [_], _ => rfl
  have F56 := fun_mk (st := s__law_dot) l56 c56 k56
  have b56 := F56.binds (ps := ["one", "other"]) fun _ _ _ _ _ _ us hl => match us, hl with | [_, _], _ => rfl
  have F57 := fun_mk (st := s__law_turn) l57 c57 k57
  have b57 := F57.binds (ps := ["ratio"]) fun _ _ _ _ _ _ us hl => match us, hl with | [_], _ => rfl
  have F58 := fun_mk (st := s__law_n_model) l58 c58 k58
  have b58 := F58.binds (ps := ["book"]) fun _ _ _ _ _ _ us hl => match us, hl with | [_], _ => rfl
  have F59 := fun_mk (st := s__law_n_item) l59 c59 k59
  have b59 := F59.binds (ps := ["pen"]) fun _ _ _ _ _ _ us hl => match us, hl with | [_], _ => rfl
  have F60 := fun_mk (st := s__law_n_weight) l60 c60 k60
  have b60 := F60.binds (ps := ["pen"]) fun _ _ _ _ _ _ us hl => match us, hl with | [_], _ => rfl
  have F61 := fun_mk (st := s__law_n_table) l61 c61 k61
  have b61 := F61.binds (ps := ["pen", "name", "wide", "many"]) fun _ _ _ _ _ _ us hl => match us, hl with | [_, _, _, _], _ => rfl
  have F62 := fun_mk (st := s__law_n_features) l62 c62 k62
  have b62 := F62.binds (ps := ["book", "f"]) fun _ _ _ _ _ _ us hl => match us, hl with | [_, _], _ => rfl
  have F63 := fun_mk (st := s__law_share_drawn) l63 c63 k63
  have b63 := F63.binds (ps := ["pen", "low", "high"]) fun _ _ _ _ _ _ us hl => match us, hl with | [_, _, _], _ => rfl
  have F64 := fun_mk (st := s__law_number) l64 c64 k64
  have b64 := F64.binds (ps := ["model", "f", "signs", "pulls"]) fun _ _ _ _ _ _ us hl => match us, hl with | [_, _, _, _], _ => rfl
  have F65 := fun_mk (st := s__law_signs) l65 c65 k65
  have b65 := F65.binds (ps := ["pen", "word", "weights"]) fun _ _ _ _ _ _ us hl => match us, hl with | [_, _, _], _ => rfl
  have F66 := fun_mk (st := s__law_pen) l66 c66 k66
  have b66 := F66.binds (ps := ["script"]) fun _ _ _ _ _ _ us hl => match us, hl with | [_], _ => rfl
  have F67 := fun_mk (st := s_law) l67 c67 k67
  have b67 := F67.binds (ps := ["script"]) fun _ _ _ _ _ _ us hl => match us, hl with | [_], _ => rfl
  have FI := fun_mk (st := s_init) lI cI kI
  have bI := FI.binds (ps := ["self", "tables", "fits", "asks"]) fun _ _ _ _ _ _ us hl => match us, hl with | [_, _, _, _], _ => rfl
  refine ⟨PySem.W.fnOf "law" "law" (defArgs s_law) (defBody s_law) (defScope s_law) .none kV67 dc67 pm67 an67 cd67 ct67, fun s v => .of_eq rfl, fun base _ _ => ?_⟩
  have D_is_whole : DDef l.prog w K mg base (fun _ => C) 1 "is_whole" ["value"] sp_is_whole := ⟨f1, _, ok_is_whole F1 T , PySem.W.mg_of X G a1, k1, b1⟩
  have D_is_pair : DDef l.prog w K mg base (fun _ => C) 2 "is_pair" ["value"] sp_is_pair := ⟨f2, _, ok_is_pair F2 T D_is_whole, PySem.W.mg_of X G a2, k2, b2⟩
  have D_lowest : DDef l.prog w K mg base (fun _ => C) 1 "lowest" ["top", "bottom"] sp_lowest := ⟨f3, _, ok_lowest F3 T , PySem.W.mg_of X G a3, k3, b3⟩
  have D_summed : DDef l.prog w K mg base (fun _ => C) 2 "summed" ["one", "other"] sp_summed := ⟨f4, _, ok_summed F4 T D_lowest, PySem.W.mg_of X G a4, k4, b4⟩
  have D_lessened : DDef l.prog w K mg base (fun _ => C) 2 "lessened" ["one", "other"] sp_lessened := ⟨f5, _, ok_lessened F5 T D_lowest, PySem.W.mg_of X G a5, k5, b5⟩
  have D_scaled : DDef l.prog w K mg base (fun _ => C) 2 "scaled" ["one", "other"] sp_scaled := ⟨f6, _, ok_scaled F6 T D_lowest, PySem.W.mg_of X G a6, k6, b6⟩
  have D_below : DDef l.prog w K mg base (fun _ => C) 1 "below" ["one", "other"] sp_below := ⟨f7, _, ok_below F7 T , PySem.W.mg_of X G a7, k7, b7⟩
  have D_turned_sign : DDef l.prog w K mg base (fun _ => C) 1 "turned_sign" ["one"] sp_turned_sign := ⟨f8, _, ok_turned_sign F8 T , PySem.W.mg_of X G a8, k8, b8⟩
  have D_is_tuple_of : DDef l.prog w K mg base (fun _ => C) 1 "is_tuple_of" ["value", "many"] sp_is_tuple_of := ⟨f9, _, ok_is_tuple_of F9 T , PySem.W.mg_of X G a9, k9, b9⟩
  have D_is_ratio : DDef l.prog w K mg base (fun _ => C) 3 "is_ratio" ["value"] sp_is_ratio := ⟨f10, _, ok_is_ratio F10 T D_is_pair D_is_whole, PySem.W.mg_of X G a10, k10, b10⟩
  have D_told : DDef l.prog w K mg base (fun _ => C) 3 "told" ["ratio"] sp_told := ⟨f11, _, ok_told F11 T D_is_pair D_is_whole D_lowest, PySem.W.mg_of X G a11, k11, b11⟩
  have D_is_told : DDef l.prog w K mg base (fun _ => C) 3 "is_told" ["value"] sp_is_told := ⟨f12, _, ok_is_told F12 T D_is_pair, PySem.W.mg_of X G a12, k12, b12⟩
  have D_dot_of : DDef l.prog w K mg base (fun _ => C) 3 "dot_of" ["one", "other"] sp_dot_of := ⟨f13, _, ok_dot_of F13 T D_scaled D_summed, PySem.W.mg_of X G a13, k13, b13⟩
  have D_size_of : DDef l.prog w K mg base (fun _ => C) 1 "size_of" ["ratio"] sp_size_of := ⟨f14, _, ok_size_of F14 T , PySem.W.mg_of X G a14, k14, b14⟩
  have D_mixed_rows : DDef l.prog w K mg base (fun _ => C) 3 "mixed_rows" ["rows", "shares", "wide"] sp_mixed_rows := ⟨f15, _, ok_mixed_rows F15 T D_scaled D_summed, PySem.W.mg_of X G a15, k15, b15⟩
  have D_table_of : DDef l.prog w K mg base (fun _ => C) 1 "table_of" ["model", "fit"] sp_table_of := ⟨f16, _, ok_table_of F16 T , PySem.W.mg_of X G a16, k16, b16⟩
  have D_wide_of : DDef l.prog w K mg base (fun _ => C) 1 "wide_of" ["model", "fit"] sp_wide_of := ⟨f17, _, ok_wide_of F17 T , PySem.W.mg_of X G a17, k17, b17⟩
  have D_features_by : DDef l.prog w K mg base (fun _ => C) 2 "features_by" ["model", "fit"] sp_features_by := ⟨f18, _, ok_features_by F18 T D_table_of, PySem.W.mg_of X G a18, k18, b18⟩
  have D_targets_by : DDef l.prog w K mg base (fun _ => C) 2 "targets_by" ["model", "fit"] sp_targets_by := ⟨f19, _, ok_targets_by F19 T D_table_of, PySem.W.mg_of X G a19, k19, b19⟩
  have D_weights_by : DDef l.prog w K mg base (fun _ => C) 2 "weights_by" ["model", "fit"] sp_weights_by := ⟨f20, _, ok_weights_by F20 T D_table_of, PySem.W.mg_of X G a20, k20, b20⟩
  have D_unit_row : DDef l.prog w K mg base (fun _ => C) 1 "unit_row" ["wide", "place", "item"] sp_unit_row := ⟨f21, _, ok_unit_row F21 T , PySem.W.mg_of X G a21, k21, b21⟩
  have D_plus_row : DDef l.prog w K mg base (fun _ => C) 3 "plus_row" ["one", "other"] sp_plus_row := ⟨f22, _, ok_plus_row F22 T D_summed, PySem.W.mg_of X G a22, k22, b22⟩
  have D_limits_by : DDef l.prog w K mg base (fun _ => C) 4 "limits_by" ["model", "fit"] sp_limits_by := ⟨f23, _, ok_limits_by F23 T D_plus_row D_turned_sign D_unit_row, PySem.W.mg_of X G a23, k23, b23⟩
  have D_misses_by : DDef l.prog w K mg base (fun _ => C) 5 "misses_by" ["model", "fit", "coefs"] sp_misses_by := ⟨f24, _, ok_misses_by F24 T D_dot_of D_features_by D_lessened D_targets_by, PySem.W.mg_of X G a24, k24, b24⟩
  have D_part_of : DDef l.prog w K mg base (fun _ => C) 3 "part_of" ["miss", "ratio"] sp_part_of := ⟨f25, _, ok_part_of F25 T D_lessened D_scaled D_turned_sign, PySem.W.mg_of X G a25, k25, b25⟩
  have D_greatest_of : DDef l.prog w K mg base (fun _ => C) 2 "greatest_of" ["row"] sp_greatest_of := ⟨f26, _, ok_greatest_of F26 T D_below, PySem.W.mg_of X G a26, k26, b26⟩
  have D_copied : DDef l.prog w K mg base (fun _ => C) 1 "copied" ["value"] sp_copied := ⟨f27, _, ok_copied F27 T , PySem.W.mg_of X G a27, k27, b27⟩
  have D_Model___init__ : DMk l.prog w K mg base (fun _ => C) 2 "Model" 0 3 ["tables", "fits", "asks"] ["self", "tables", "fits", "asks"] sp_Model := ⟨fI, _, ok_init FI T D_copied, PySem.W.mg_of X G aC, ⟨mk, aI, iI, kc⟩, bI⟩
  have D_in_tuples : DDef l.prog w K mg base (fun _ => C) 4 "in_tuples" ["value"] sp_in_tuples := ⟨f28, _, ok_in_tuples F28 T (PySem.W.mg_of X G a28) k28 b28, PySem.W.mg_of X G a28, k28, b28⟩
  have D_need_model : DDef l.prog w K mg base (fun _ => C) 1 "need_model" ["model"] sp_need_model := ⟨f29, _, ok_need_model F29 T , PySem.W.mg_of X G a29, k29, b29⟩
  have D_need_number : DDef l.prog w K mg base (fun _ => C) 2 "need_number" ["what", "number", "many"] sp_need_number := ⟨f30, _, ok_need_number F30 T D_is_whole, PySem.W.mg_of X G a30, k30, b30⟩
  have D_need_fit : DDef l.prog w K mg base (fun _ => C) 3 "need_fit" ["model", "fit"] sp_need_fit := ⟨f31, _, ok_need_fit F31 T D_need_model D_need_number, PySem.W.mg_of X G a31, k31, b31⟩
  have D_row_from : DDef l.prog w K mg base (fun _ => C) 5 "row_from" ["row", "many"] sp_row_from := ⟨f32, _, ok_row_from F32 T D_in_tuples D_is_ratio D_is_tuple_of D_told, PySem.W.mg_of X G a32, k32, b32⟩
  have D_measure_by : DDef l.prog w K mg base (fun _ => C) 6 "measure_by" ["model", "word", "fit", "coefs"] sp_measure_by := ⟨f33, _, ok_measure_by F33 T D_dot_of D_greatest_of D_misses_by D_part_of D_scaled D_size_of D_weights_by, PySem.W.mg_of X G a33, k33, b33⟩
  have D_evens_by : DDef l.prog w K mg base (fun _ => C) 4 "evens_by" ["model", "fit", "signs"] sp_evens_by := ⟨f34, _, ok_evens_by F34 T D_features_by D_mixed_rows D_wide_of, PySem.W.mg_of X G a34, k34, b34⟩
  have D_pulled_by : DDef l.prog w K mg base (fun _ => C) 5 "pulled_by" ["model", "fit", "pulls"] sp_pulled_by := ⟨f35, _, ok_pulled_by F35 T D_dot_of D_limits_by D_mixed_rows D_wide_of, PySem.W.mg_of X G a35, k35, b35⟩
  have D_word_from : DDef l.prog w K mg base (fun _ => C) 5 "word_from" ["word"] sp_word_from := ⟨f36, _, ok_word_from F36 T D_below D_in_tuples D_is_ratio D_told, PySem.W.mg_of X G a36, k36, b36⟩
  have D_targets_there : DDef l.prog w K mg base (fun _ => C) 4 "targets_there" ["model", "fit"] sp_targets_there := ⟨f37, _, ok_targets_there F37 T D_need_fit D_targets_by, PySem.W.mg_of X G a37, k37, b37⟩
  have D_limits_there : DDef l.prog w K mg base (fun _ => C) 5 "limits_there" ["model", "fit"] sp_limits_there := ⟨f38, _, ok_limits_there F38 T D_limits_by D_need_fit, PySem.W.mg_of X G a38, k38, b38⟩
  have D_misses_there : DDef l.prog w K mg base (fun _ => C) 6 "misses_there" ["model", "fit", "coefs"] sp_misses_there := ⟨f39, _, ok_misses_there F39 T D_misses_by D_need_fit D_row_from D_wide_of, PySem.W.mg_of X G a39, k39, b39⟩
  have D_measure_there : DDef l.prog w K mg base (fun _ => C) 7 "measure_there" ["model", "word", "fit", "coefs"] sp_measure_there := ⟨f40, _, ok_measure_there F40 T D_measure_by D_need_fit D_need_model D_row_from D_wide_of D_word_from, PySem.W.mg_of X G a40, k40, b40⟩
  have D_evens_there : DDef l.prog w K mg base (fun _ => C) 6 "evens_there" ["model", "fit", "signs"] sp_evens_there := ⟨f41, _, ok_evens_there F41 T D_evens_by D_need_fit D_row_from D_table_of, PySem.W.mg_of X G a41, k41, b41⟩
  have D_pulled_there : DDef l.prog w K mg base (fun _ => C) 6 "pulled_there" ["model", "fit", "pulls"] sp_pulled_there := ⟨f42, _, ok_pulled_there F42 T D_limits_by D_need_fit D_pulled_by D_row_from, PySem.W.mg_of X G a42, k42, b42⟩
  have D_is_row : DDef l.prog w K mg base (fun _ => C) 4 "is_row" ["value", "many"] sp_is_row := ⟨f43, _, ok_is_row F43 T D_is_told D_is_tuple_of, PySem.W.mg_of X G a43, k43, b43⟩
  have D_first_limit : DDef l.prog w K mg base (fun _ => C) 5 "first_limit" ["model", "fit", "coefs"] sp_first_limit := ⟨f44, _, ok_first_limit F44 T D_below D_dot_of D_limits_by, PySem.W.mg_of X G a44, k44, b44⟩
  have D_is_let_there : DDef l.prog w K mg base (fun _ => C) 6 "is_let_there" ["model", "fit", "value"] sp_is_let_there := ⟨f45, _, ok_is_let_there F45 T D_first_limit D_is_row D_need_fit D_wide_of, PySem.W.mg_of X G a45, k45, b45⟩
  have D__law_draw : DDef l.prog w K mg base (fun _ => C) 1 "_law_draw" ["pen", "many"] sp__law_draw := ⟨f46, _, ok__law_draw F46 T , PySem.W.mg_of X G a46, k46, b46⟩
  have D__law_pick : DDef l.prog w K mg base (fun _ => C) 2 "_law_pick" ["pen", "some"] sp__law_pick := ⟨f47, _, ok__law_pick F47 T D__law_draw, PySem.W.mg_of X G a47, k47, b47⟩
  have D__law_gcd : DDef l.prog w K mg base (fun _ => C) 1 "_law_gcd" ["one", "two"] sp__law_gcd := ⟨f48, _, ok__law_gcd F48 T , PySem.W.mg_of X G a48, k48, b48⟩
  have D__law_q : DDef l.prog w K mg base (fun _ => C) 2 "_law_q" ["top", "bottom"] sp__law_q := ⟨f49, _, ok__law_q F49 T D__law_gcd, PySem.W.mg_of X G a49, k49, b49⟩
  have D__law_plus : DDef l.prog w K mg base (fun _ => C) 3 "_law_plus" ["one", "two"] sp__law_plus := ⟨f50, _, ok__law_plus F50 T D__law_q, PySem.W.mg_of X G a50, k50, b50⟩
  have D__law_times : DDef l.prog w K mg base (fun _ => C) 3 "_law_times" ["one", "two"] sp__law_times := ⟨f51, _, ok__law_times F51 T D__law_q, PySem.W.mg_of X G a51, k51, b51⟩
  have D__law_less : DDef l.prog w K mg base (fun _ => C) 1 "_law_less" ["one", "two"] sp__law_less := ⟨f52, _, ok__law_less F52 T , PySem.W.mg_of X G a52, k52, b52⟩
  have D__law_minus : DDef l.prog w K mg base (fun _ => C) 3 "_law_minus" ["one", "two"] sp__law_minus := ⟨f53, _, ok__law_minus F53 T D__law_q, PySem.W.mg_of X G a53, k53, b53⟩
  have D__law_share : DDef l.prog w K mg base (fun _ => C) 3 "_law_share" ["one", "two"] sp__law_share := ⟨f54, _, ok__law_share F54 T D__law_q, PySem.W.mg_of X G a54, k54, b54⟩
  have D__law_sum : DDef l.prog w K mg base (fun _ => C) 4 "_law_sum" ["items"] sp__law_sum := ⟨f55, _, ok__law_sum F55 T D__law_plus, PySem.W.mg_of X G a55, k55, b55⟩
  have D__law_dot : DDef l.prog w K mg base (fun _ => C) 5 "_law_dot" ["one", "other"] sp__law_dot := ⟨f56, _, ok__law_dot F56 T D__law_sum D__law_times, PySem.W.mg_of X G a56, k56, b56⟩
  have D__law_turn : DDef l.prog w K mg base (fun _ => C) 1 "_law_turn" ["ratio"] sp__law_turn := ⟨f57, _, ok__law_turn F57 T , PySem.W.mg_of X G a57, k57, b57⟩
  have D__law_n_model : DDef l.prog w K mg base (fun _ => C) 4 "_law_n_model" ["book"] sp__law_n_model := ⟨f58, _, ok__law_n_model F58 T D_Model___init__, PySem.W.mg_of X G a58, k58, b58⟩
  have D__law_n_item : DDef l.prog w K mg base (fun _ => C) 3 "_law_n_item" ["pen"] sp__law_n_item := ⟨f59, _, ok__law_n_item F59 T D__law_pick, PySem.W.mg_of X G a59, k59, b59⟩
  have D__law_n_weight : DDef l.prog w K mg base (fun _ => C) 3 "_law_n_weight" ["pen"] sp__law_n_weight := ⟨f60, _, ok__law_n_weight F60 T D__law_pick, PySem.W.mg_of X G a60, k60, b60⟩
  have D__law_n_table : DDef l.prog w K mg base (fun _ => C) 4 "_law_n_table" ["pen", "name", "wide", "many"] sp__law_n_table := ⟨f61, _, ok__law_n_table F61 T D__law_draw D__law_n_item D__law_n_weight D__law_pick, PySem.W.mg_of X G a61, k61, b61⟩
  have D__law_n_features : DDef l.prog w K mg base (fun _ => C) 1 "_law_n_features" ["book", "f"] sp__law_n_features := ⟨f62, _, ok__law_n_features F62 T , PySem.W.mg_of X G a62, k62, b62⟩
  have D__law_share_drawn : DDef l.prog w K mg base (fun _ => C) 4 "_law_share_drawn" ["pen", "low", "high"] sp__law_share_drawn := ⟨f63, _, ok__law_share_drawn F63 T D__law_draw D__law_minus D__law_plus D__law_q D__law_times, PySem.W.mg_of X G a63, k63, b63⟩
  have D__law_number : DDef l.prog w K mg base (fun _ => C) 7 "_law_number" ["model", "f", "signs", "pulls"] sp__law_number := ⟨f64, _, ok__law_number F64 T D__law_dot D__law_minus D_pulled_there D_targets_there, PySem.W.mg_of X G a64, k64, b64⟩
  have D__law_signs : DDef l.prog w K mg base (fun _ => C) 5 "_law_signs" ["pen", "word", "weights"] sp__law_signs := ⟨f65, _, ok__law_signs F65 T D__law_draw D__law_minus D__law_pick D__law_share D__law_share_drawn D__law_sum D__law_times, PySem.W.mg_of X G a65, k65, b65⟩
  have O_pen : FnOk l.prog w K mg base CX0 1 f66 _ ["script"] (spPen K) := ok__law_pen F66 T
  exact ok_law F67 T O_pen (PySem.W.mg_of X G a66) k66 b66 D__law_n_table D__law_draw D__law_n_item D__law_plus D__law_pick D__law_n_model D__law_n_features D__law_signs D__law_dot D__law_turn D_evens_there D_pulled_there D__law_number D__law_share_drawn D_is_let_there D__law_less D_measure_there D_misses_there D__law_times D__law_minus D_limits_there
theorem walk {l : PySem.W.OpenLaw} {q : Program} {loose : List Str} {XP : (Str → Option Value) → Heap → Prop} {YP : World → Heap → Prop} {d : DefRec} {K : Params → PySem.W.Frag} (hn : l.most = some 63) (hdf : d.params.defaults = [])
    (hY : ∀ (w : World) (h : Heap), YP w h → (K w.params).In h)
    (F : ∀ (w : World) (mg : Str → Option Value) (fa : Addr) (h : Heap), (K w.params).In h → h.Ns mainGlobals mg → mg d.name = some (.ref fa) →
      ∃ fd : FuncData, (∀ (s : Shared) (u : Value), BindsTo s fd ⟨[u], []⟩ [("script", u)]) ∧ ∀ base : Heap, (K w.params).In base → base.Ns mainGlobals mg → FnOk l.prog w (K w.params) mg base CX0 8 fa fd ["script"] (spLaw (K w.params))) :
    PySem.W.WalkO q loose XP YP l.row.toRowW d [] (fun f vs => PySem.call f vs) :=
  L2.walk_of (n := 63) (k := 8) (x := "script") (CX := fun _ => CX0) (sp := fun w => spLaw (K w.params)) hn (by decide) hdf ⟨rfl, by decide, by decide⟩ hY F (fun _ _ a ns hl _ hS => ⟨a, ns, rfl, hS, hl, fun _ => rfl⟩) fun _ _ _ _ _ z => z
end K64
open PySem PySem.W PyProof.Rows
set_option maxRecDepth 100000 in
set_option maxHeartbeats 0 in
theorem PySem.Challenge.cw_fitpapers_k64_whole_bounds_from_below_of_holds : PySem.Challenge.rw_fitpapers_k64_whole_bounds_from_below_of.Holds := by
  w_on; o_law; k_head; (case hw => w_witness2)
  k_fill
  refine K64.walk (l := PySem.Challenge.rw_fitpapers_k64_whole_bounds_from_below_of) rfl rfl (fun w h Y => PySem.W.kIn_of Y) ?F
  case F =>
    intro w mg fa h KX G hmg
    refine' K64.all_mk KX G hmg ?a1 ?l1 ?c1 ?k1 ?a2 ?l2 ?c2 ?k2 ?a3 ?l3 ?c3 ?k3 ?a4 ?l4 ?c4 ?k4 ?a5 ?l5 ?c5 ?k5 ?a6 ?l6 ?c6 ?k6 ?a7 ?l7 ?c7 ?k7 ?a8 ?l8 ?c8 ?k8 ?a9 ?l9 ?c9 ?k9 ?a10 ?l10 ?c10 ?k10 ?a11 ?l11 ?c11 ?k11 ?a12 ?l12 ?c12 ?k12 ?a13 ?l13 ?c13 ?k13 ?a14 ?l14 ?c14 ?k14 ?a15 ?l15 ?c15 ?k15 ?a16 ?l16 ?c16 ?k16 ?a17 ?l17 ?c17 ?k17 ?a18 ?l18 ?c18 ?k18 ?a19 ?l19 ?c19 ?k19 ?a20 ?l20 ?c20 ?k20 ?a21 ?l21 ?c21 ?k21 ?a22 ?l22 ?c22 ?k22 ?a23 ?l23 ?c23 ?k23 ?a24 ?l24 ?c24 ?k24 ?a25 ?l25 ?c25 ?k25 ?a26 ?l26 ?c26 ?k26 ?a27 ?l27 ?c27 ?k27 ?a28 ?l28 ?c28 ?k28 ?a29 ?l29 ?c29 ?k29 ?a30 ?l30 ?c30 ?k30 ?a31 ?l31 ?c31 ?k31 ?a32 ?l32 ?c32 ?k32 ?a33 ?l33 ?c33 ?k33 ?a34 ?l34 ?c34 ?k34 ?a35 ?l35 ?c35 ?k35 ?a36 ?l36 ?c36 ?k36 ?a37 ?l37 ?c37 ?k37 ?a38 ?l38 ?c38 ?k38 ?a39 ?l39 ?c39 ?k39 ?a40 ?l40 ?c40 ?k40 ?a41 ?l41 ?c41 ?k41 ?a42 ?l42 ?c42 ?k42 ?a43 ?l43 ?c43 ?k43 ?a44 ?l44 ?c44 ?k44 ?a45 ?l45 ?c45 ?k45 ?a46 ?l46 ?c46 ?k46 ?a47 ?l47 ?c47 ?k47 ?a48 ?l48 ?c48 ?k48 ?a49 ?l49 ?c49 ?k49 ?a50 ?l50 ?c50 ?k50 ?a51 ?l51 ?c51 ?k51 ?a52 ?l52 ?c52 ?k52 ?a53 ?l53 ?c53 ?k53 ?a54 ?l54 ?c54 ?k54 ?a55 ?l55 ?c55 ?k55 ?a56 ?l56 ?c56 ?k56 ?a57 ?l57 ?c57 ?k57 ?a58 ?l58 ?c58 ?k58 ?a59 ?l59 ?c59 ?k59 ?a60 ?l60 ?c60 ?k60 ?a61 ?l61 ?c61 ?k61 ?a62 ?l62 ?c62 ?k62 ?a63 ?l63 ?c63 ?k63 ?a64 ?l64 ?c64 ?k64 ?a65 ?l65 ?c65 ?k65 ?a66 ?l66 ?c66 ?k66 ?a67 ?l67 ?c67 ?k67 ?aC ?aI ?iI ?lI ?cI ?kI ?pg ?hd ?po ?sa ?mk ?kc ?nT ?nF ?nA ?o1 ?o2 ?o3 ?o4 ?z_len ?z_abs ?z_all ?z_int ?z_str ?z_bool ?z_tuple ?z_list ?z_range ?z_zip ?z_enumerate ?z_isinstance ?z_gcd ?q_NONE ?r_NONE ?q_ONE ?r_ONE ?q_LESS ?r_LESS ?q_WORDS ?r_WORDS
    (case a1 => k_is)
    (case l1 => k_is)
    (case c1 => k_is)
    (case k1 => k_is)
    (case a2 => k_is)
    (case l2 => k_is)
    (case c2 => k_is)
    (case k2 => k_is)
    (case a3 => k_is)
    (case l3 => k_is)
    (case c3 => k_is)
    (case k3 => k_is)
    (case a4 => k_is)
    (case l4 => k_is)
    (case c4 => k_is)
    (case k4 => k_is)
    (case a5 => k_is)
    (case l5 => k_is)
    (case c5 => k_is)
    (case k5 => k_is)
    (case a6 => k_is)
    (case l6 => k_is)
    (case c6 => k_is)
    (case k6 => k_is)
    (case a7 => k_is)
    (case l7 => k_is)
    (case c7 => k_is)
    (case k7 => k_is)
    (case a8 => k_is)
    (case l8 => k_is)
    (case c8 => k_is)
    (case k8 => k_is)
    (case a9 => k_is)
    (case l9 => k_is)
    (case c9 => k_is)
    (case k9 => k_is)
    (case a10 => k_is)
    (case l10 => k_is)
    (case c10 => k_is)
    (case k10 => k_is)
    (case a11 => k_is)
    (case l11 => k_is)
    (case c11 => k_is)
    (case k11 => k_is)
    (case a12 => k_is)
    (case l12 => k_is)
    (case c12 => k_is)
    (case k12 => k_is)
    (case a13 => k_is)
    (case l13 => k_is)
    (case c13 => k_is)
    (case k13 => k_is)
    (case a14 => k_is)
    (case l14 => k_is)
    (case c14 => k_is)
    (case k14 => k_is)
    (case a15 => k_is)
    (case l15 => k_is)
    (case c15 => k_is)
    (case k15 => k_is)
    (case a16 => k_is)
    (case l16 => k_is)
    (case c16 => k_is)
    (case k16 => k_is)
    (case a17 => k_is)
    (case l17 => k_is)
    (case c17 => k_is)
    (case k17 => k_is)
    (case a18 => k_is)
    (case l18 => k_is)
    (case c18 => k_is)
    (case k18 => k_is)
    (case a19 => k_is)
    (case l19 => k_is)
    (case c19 => k_is)
    (case k19 => k_is)
    (case a20 => k_is)
    (case l20 => k_is)
    (case c20 => k_is)
    (case k20 => k_is)
    (case a21 => k_is)
    (case l21 => k_is)
    (case c21 => k_is)
    (case k21 => k_is)
    (case a22 => k_is)
    (case l22 => k_is)
    (case c22 => k_is)
    (case k22 => k_is)
    (case a23 => k_is)
    (case l23 => k_is)
    (case c23 => k_is)
    (case k23 => k_is)
    (case a24 => k_is)
    (case l24 => k_is)
    (case c24 => k_is)
    (case k24 => k_is)
    (case a25 => k_is)
    (case l25 => k_is)
    (case c25 => k_is)
    (case k25 => k_is)
    (case a26 => k_is)
    (case l26 => k_is)
    (case c26 => k_is)
    (case k26 => k_is)
    (case a27 => k_is)
    (case l27 => k_is)
    (case c27 => k_is)
    (case k27 => k_is)
    (case a28 => k_is)
    (case l28 => k_is)
    (case c28 => k_is)
    (case k28 => k_is)
    (case a29 => k_is)
    (case l29 => k_is)
    (case c29 => k_is)
    (case k29 => k_is)
    (case a30 => k_is)
    (case l30 => k_is)
    (case c30 => k_is)
    (case k30 => k_is)
    (case a31 => k_is)
    (case l31 => k_is)
    (case c31 => k_is)
    (case k31 => k_is)
    (case a32 => k_is)
    (case l32 => k_is)
    (case c32 => k_is)
    (case k32 => k_is)
    (case a33 => k_is)
    (case l33 => k_is)
    (case c33 => k_is)
    (case k33 => k_is)
    (case a34 => k_is)
    (case l34 => k_is)
    (case c34 => k_is)
    (case k34 => k_is)
    (case a35 => k_is)
    (case l35 => k_is)
    (case c35 => k_is)
    (case k35 => k_is)
    (case a36 => k_is)
    (case l36 => k_is)
    (case c36 => k_is)
    (case k36 => k_is)
    (case a37 => k_is)
    (case l37 => k_is)
    (case c37 => k_is)
    (case k37 => k_is)
    (case a38 => k_is)
    (case l38 => k_is)
    (case c38 => k_is)
    (case k38 => k_is)
    (case a39 => k_is)
    (case l39 => k_is)
    (case c39 => k_is)
    (case k39 => k_is)
    (case a40 => k_is)
    (case l40 => k_is)
    (case c40 => k_is)
    (case k40 => k_is)
    (case a41 => k_is)
    (case l41 => k_is)
    (case c41 => k_is)
    (case k41 => k_is)
    (case a42 => k_is)
    (case l42 => k_is)
    (case c42 => k_is)
    (case k42 => k_is)
    (case a43 => k_is)
    (case l43 => k_is)
    (case c43 => k_is)
    (case k43 => k_is)
    (case a44 => k_is)
    (case l44 => k_is)
    (case c44 => k_is)
    (case k44 => k_is)
    (case a45 => k_is)
    (case l45 => k_is)
    (case c45 => k_is)
    (case k45 => k_is)
    (case a46 => k_is)
    (case l46 => k_is)
    (case c46 => k_is)
    (case k46 => k_is)
    (case a47 => k_is)
    (case l47 => k_is)
    (case c47 => k_is)
    (case k47 => k_is)
    (case a48 => k_is)
    (case l48 => k_is)
    (case c48 => k_is)
    (case k48 => k_is)
    (case a49 => k_is)
    (case l49 => k_is)
    (case c49 => k_is)
    (case k49 => k_is)
    (case a50 => k_is)
    (case l50 => k_is)
    (case c50 => k_is)
    (case k50 => k_is)
    (case a51 => k_is)
    (case l51 => k_is)
    (case c51 => k_is)
    (case k51 => k_is)
    (case a52 => k_is)
    (case l52 => k_is)
    (case c52 => k_is)
    (case k52 => k_is)
    (case a53 => k_is)
    (case l53 => k_is)
    (case c53 => k_is)
    (case k53 => k_is)
    (case a54 => k_is)
    (case l54 => k_is)
    (case c54 => k_is)
    (case k54 => k_is)
    (case a55 => k_is)
    (case l55 => k_is)
    (case c55 => k_is)
    (case k55 => k_is)
    (case a56 => k_is)
    (case l56 => k_is)
    (case c56 => k_is)
    (case k56 => k_is)
    (case a57 => k_is)
    (case l57 => k_is)
    (case c57 => k_is)
    (case k57 => k_is)
    (case a58 => k_is)
    (case l58 => k_is)
    (case c58 => k_is)
    (case k58 => k_is)
    (case a59 => k_is)
    (case l59 => k_is)
    (case c59 => k_is)
    (case k59 => k_is)
    (case a60 => k_is)
    (case l60 => k_is)
    (case c60 => k_is)
    (case k60 => k_is)
    (case a61 => k_is)
    (case l61 => k_is)
    (case c61 => k_is)
    (case k61 => k_is)
    (case a62 => k_is)
    (case l62 => k_is)
    (case c62 => k_is)
    (case k62 => k_is)
    (case a63 => k_is)
    (case l63 => k_is)
    (case c63 => k_is)
    (case k63 => k_is)
    (case a64 => k_is)
    (case l64 => k_is)
    (case c64 => k_is)
    (case k64 => k_is)
    (case a65 => k_is)
    (case l65 => k_is)
    (case c65 => k_is)
    (case k65 => k_is)
    (case a66 => k_is)
    (case l66 => k_is)
    (case c66 => k_is)
    (case k66 => k_is)
    (case a67 => k_is)
    (case l67 => k_is)
    (case c67 => k_is)
    (case k67 => k_is)
    (case aC => k_is)
    (case aI => k_is)
    (case iI => k_is)
    (case lI => k_is)
    (case cI => k_is)
    (case kI => k_is)
    (case pg => k_is)
    (case hd => k_is)
    (case po => k_is)
    (case sa => k_is)
    (case mk => k_is)
    (case kc => k_is)
    (case nT => k_is)
    (case nF => k_is)
    (case nA => k_is)
    (case o1 => k_is)
    (case o2 => k_is)
    (case o3 => k_is)
    (case o4 => k_is)
    (case z_len => k_is)
    (case z_abs => k_is)
    (case z_all => k_is)
    (case z_int => k_is)
    (case z_str => k_is)
    (case z_bool => k_is)
    (case z_tuple => k_is)
    (case z_list => k_is)
    (case z_range => k_is)
    (case z_zip => k_is)
    (case z_enumerate => k_is)
    (case z_isinstance => k_is)
    (case z_gcd => k_is)
    (case q_NONE => k_is)
    (case r_NONE => k_is)
    (case q_ONE => k_is)
    (case r_ONE => k_is)
    (case q_LESS => k_is)
    (case r_LESS => k_is)
    (case q_WORDS => k_is)
    (case r_WORDS => k_is)
