import PyProof.Rows.All
import Wide.All
import OpenK.AllK
import Wide.FinOn
import HandS.ForMost
import HandS.Gcd
import HandS.Wide
import HandS.IsInst
import HandS.NoneIn
import HandS.Style
import HandS.Evl
import HandS.Codes
import HandS.Deep
import PySem.Challenge.RW_plateheaps_k08_whole_heights_and_lines
set_option Elab.async false
set_option linter.all false
set_option maxRecDepth 100000
set_option maxHeartbeats 4000000
namespace K8
/-! ### the mathematics: pairs and triples without a common divisor -/
abbrev F2 := Int × Int
abbrev F3 := Int × Int × Int
def g2 (a b : Int) : Int := ((Nat.gcd a.natAbs b.natAbs : Nat) : Int)
def g3 (a b c : Int) : Int := g2 (g2 a b) c
def N2 (p q : Int) : F2 := (p / g2 p q, q / g2 p q)
def N3 (x y z : Int) : F3 := (x / g3 x y z, y / g3 x y z, z / g3 x y z)

theorem g2_nn (a b : Int) : 0 ≤ g2 a b := Int.natCast_nonneg _
theorem g2_dl (a b : Int) : g2 a b ∣ a := by
  unfold g2
  exact Int.natAbs_dvd_natAbs.mp (Nat.gcd_dvd_left _ _)
theorem g2_dr (a b : Int) : g2 a b ∣ b := by
  unfold g2
  exact Int.natAbs_dvd_natAbs.mp (Nat.gcd_dvd_right _ _)
theorem g2_pos {a b : Int} (h : a ≠ 0 ∨ b ≠ 0) : 0 < g2 a b := by
  have h0 := g2_nn a b
  rcases Int.lt_or_eq_of_le h0 with h1 | h1
  · exact h1
  · exfalso
    have e1 := g2_dl a b
    have e2 := g2_dr a b
    rw [← h1] at e1 e2
    have f1 := Int.zero_dvd.mp e1
    have f2 := Int.zero_dvd.mp e2
    omega
theorem g2_scale (k a b : Int) (hk : 0 ≤ k) : g2 (k * a) (k * b) = k * g2 a b := by
  unfold g2
  rw [Int.natAbs_mul, Int.natAbs_mul, Nat.gcd_mul_left, Int.natCast_mul, Int.natAbs_of_nonneg hk]
theorem g3_nn (a b c : Int) : 0 ≤ g3 a b c := g2_nn _ _
theorem g3_d1 (a b c : Int) : g3 a b c ∣ a := Int.dvd_trans (g2_dl _ _) (g2_dl _ _)
theorem g3_d2 (a b c : Int) : g3 a b c ∣ b := Int.dvd_trans (g2_dl _ _) (g2_dr _ _)
theorem g3_d3 (a b c : Int) : g3 a b c ∣ c := g2_dr _ _
theorem g3_pos {a b c : Int} (h : a ≠ 0 ∨ b ≠ 0 ∨ c ≠ 0) : 0 < g3 a b c := by
  unfold g3
  apply g2_pos
  by_cases hc : c = 0
  · left
    have : 0 < g2 a b := g2_pos (by omega)
    omega
  · exact Or.inr hc
theorem g3_scale (k a b c : Int) (hk : 0 ≤ k) : g3 (k * a) (k * b) (k * c) = k * g3 a b c := by
  unfold g3
  rw [g2_scale k a b hk, g2_scale k _ c hk]

theorem mul_left_cancel {g a b : Int} (h : g ≠ 0) (e : g * a = g * b) : a = b := Int.eq_of_mul_eq_mul_left h e

theorem N2_of {p q : Int} (h : p ≠ 0 ∨ q ≠ 0) : ∃ g, 0 < g ∧ p = g * (N2 p q).1 ∧ q = g * (N2 p q).2 ∧ g2 (N2 p q).1 (N2 p q).2 = 1 := by
  have hg := g2_pos h
  have e1 : p = g2 p q * (p / g2 p q) := (Int.mul_ediv_cancel' (g2_dl p q)).symm
  have e2 : q = g2 p q * (q / g2 p q) := (Int.mul_ediv_cancel' (g2_dr p q)).symm
  refine ⟨g2 p q, hg, e1, e2, ?_⟩
  show g2 (p / g2 p q) (q / g2 p q) = 1
  have e3 := g2_scale (g2 p q) (p / g2 p q) (q / g2 p q) (by omega)
  rw [← e1, ← e2] at e3
  apply mul_left_cancel (g := g2 p q) (by omega)
  omega
theorem N3_of {x y z : Int} (h : x ≠ 0 ∨ y ≠ 0 ∨ z ≠ 0) : ∃ g, 0 < g ∧ x = g * (N3 x y z).1 ∧ y = g * (N3 x y z).2.1 ∧ z = g * (N3 x y z).2.2 ∧ g3 (N3 x y z).1 (N3 x y z).2.1 (N3 x y z).2.2 = 1 := by
  have hg := g3_pos h
  have e1 : x = g3 x y z * (x / g3 x y z) := (Int.mul_ediv_cancel' (g3_d1 x y z)).symm
  have e2 : y = g3 x y z * (y / g3 x y z) := (Int.mul_ediv_cancel' (g3_d2 x y z)).symm
  have e3 : z = g3 x y z * (z / g3 x y z) := (Int.mul_ediv_cancel' (g3_d3 x y z)).symm
  refine ⟨g3 x y z, hg, e1, e2, e3, ?_⟩
  show g3 (x / g3 x y z) (y / g3 x y z) (z / g3 x y z) = 1
  have e4 := g3_scale (g3 x y z) (x / g3 x y z) (y / g3 x y z) (z / g3 x y z) (by omega)
  rw [← e1, ← e2, ← e3] at e4
  apply mul_left_cancel (g := g3 x y z) (by omega)
  omega
/-- proportional pairs without a common divisor are equal -/
theorem uniq2 {a b a' b' g g' : Int} (hg : 0 < g) (hg' : 0 < g') (h : g2 a b = 1) (h' : g2 a' b' = 1) (e1 : g * a = g' * a') (e2 : g * b = g' * b') : a = a' ∧ b = b' := by
  have s1 := g2_scale g a b (by omega)
  have s2 := g2_scale g' a' b' (by omega)
  rw [e1, e2, s2, h, h'] at s1
  have : g = g' := by omega
  subst this
  exact ⟨mul_left_cancel (by omega) e1, mul_left_cancel (by omega) e2⟩
theorem uniq3 {a b c a' b' c' g g' : Int} (hg : 0 < g) (hg' : 0 < g') (h : g3 a b c = 1) (h' : g3 a' b' c' = 1) (e1 : g * a = g' * a') (e2 : g * b = g' * b') (e3 : g * c = g' * c') : a = a' ∧ b = b' ∧ c = c' := by
  have s1 := g3_scale g a b c (by omega)
  have s2 := g3_scale g' a' b' c' (by omega)
  rw [e1, e2, e3, s2, h, h'] at s1
  have : g = g' := by omega
  subst this
  exact ⟨mul_left_cancel (by omega) e1, mul_left_cancel (by omega) e2, mul_left_cancel (by omega) e3⟩
end K8
/-! The layer: data without addresses, and what evaluates to what. -/
namespace K8
open PySem PySem.Spec PyProof.Rows L2
open Evl (Ex Ex.refl Ex.trans Ex.new fresh_back)

/-- a datum: None, a bool, an int, a tuple of ints -/
inductive Dt where
  | n | b (x : Bool) | i (x : Int) | t (xs : List Int)
/-- the value v stands for the datum in this heap -/
def Rp (H : Hp) (v : V) : Dt → Prop
  | .n => v = .non
  | .b x => v = .bl x
  | .i x => v = .int x
  | .t xs => ∃ a, v = .ref a ∧ H a = some (.tup (xs.map V.int))
theorem Rp.up {H H' : Hp} {v : V} {d : Dt} (e : Ex H H') (r : Rp H v d) : Rp H' v d := by
  cases d with
  | n => exact r
  | b x => exact r
  | i x => exact r
  | t xs =>
    obtain ⟨a, h1, h2⟩ := r
    exact ⟨a, h1, e _ _ h2⟩
theorem Rp.tup {H : Hp} {p : Addr} {xs : List Int} (h : H p = some (.tup (xs.map V.int))) : Rp H (.ref p) (.t xs) := ⟨p, rfl, h⟩
abbrev Rps (H : Hp) : List V → List Dt → Prop := Paired (Rp H)
theorem Rps.up {H H' : Hp} (e : Ex H H') : ∀ {vs : List V} {ds : List Dt}, Rps H vs ds → Rps H' vs ds
  | _, _, .nil => .nil
  | _, _, .cons r t => .cons (r.up e) (Rps.up e t)
abbrev t2 (u : Int × Int) : Dt := .t [u.1, u.2]
abbrev t3 (p : Int × Int × Int) : Dt := .t [p.1, p.2.1, p.2.2]

/-! ### the weakest readings -/
def Wx (X : Cx) (e : Expr) : TE := fun σ H Q => ∀ (pins : List (Addr × Obj)) (s : Shared), Inv X pins σ H s → wpAny (model X.prog X.w) X.A (eval e X.env) (EP X pins σ Q) X.xe s
def Wt (X : Cx) (e : Expr) : TT := fun σ H Q => ∀ (pins : List (Addr × Obj)) (s : Shared), Inv X pins σ H s → wpAny (model X.prog X.w) X.A (isTrue e X.env (eval e X.env)) (TP X pins σ Q) X.xe s
def Wa (X : Cx) (es : List Expr) : TA := fun σ H Q => ∀ (pos : Pos) (pins : List (Addr × Obj)) (s : Shared), Inv X pins σ H s → wpAny (model X.prog X.w) X.A (spliced (backTo pos (starEach es X.env))) (AP X pins σ Q) X.xe s
def Wb (X : Cx) (st : List Stmt) : TS := fun D σ H => ∀ (pins : List (Addr × Obj)) (s : Shared), Inv X pins σ H s → wpAny (model X.prog X.w) X.A (execs st X.env) (SP X pins D) X.xe s
section
variable {X : Cx} {e : Expr} {es : List Expr} {st : List Stmt} {σ : L2.St} {H : Hp}
theorem wx : PE X e (Wx X e) := ⟨fun pins s _ _ _ I h => h pins s I⟩
theorem wt : PT X e (Wt X e) := ⟨fun pins s _ _ _ I h => h pins s I⟩
theorem wa : PA X es (Wa X es) := ⟨fun pos pins s _ _ _ I h => h pos pins s I⟩
theorem wb : PSs X st (Wb X st) := ⟨fun pins s _ _ _ I h => h pins s I⟩
theorem wx_of {t : TE} {Q : VK} (h : PE X e t) (q : t σ H Q) : Wx X e σ H Q := fun pins s I => h.run pins s σ H Q I q
theorem wt_of {t : TT} {Q : Bool → Hp → Prop} (h : PT X e t) (q : t σ H Q) : Wt X e σ H Q := fun pins s I => h.run pins s σ H Q I q
theorem wa_of {t : TA} {Q : List V → Hp → Prop} (h : PA X es t) (q : t σ H Q) : Wa X es σ H Q := fun pos pins s I => h.run pos pins s σ H Q I q
theorem wb_of {t : TS} {D : Ends} (h : PSs X st t) (q : t D σ H) : Wb X st D σ H := fun pins s I => h.run pins s σ H D I q
end

/-! ### what evaluates to what; nothing that stood is changed -/
def Dv (X : Cx) (σ : L2.St) (H : Hp) (e : Expr) (d : Dt) : Prop := ∀ H1, Ex H H1 → ∀ Q : VK, (∀ v H2, Ex H1 H2 → Rp H2 v d → Q v H2) → Wx X e σ H1 Q
def Dq (X : Cx) (σ : L2.St) (H : Hp) (e : Expr) (b : Bool) : Prop := ∀ H1, Ex H H1 → ∀ Q : Bool → Hp → Prop, (∀ H2, Ex H1 H2 → Q b H2) → Wt X e σ H1 Q
def Da (X : Cx) (σ : L2.St) (H : Hp) (es : List Expr) (ds : List Dt) : Prop := ∀ H1, Ex H H1 → ∀ Q : List V → Hp → Prop, (∀ vs H2, Ex H1 H2 → Rps H2 vs ds → Q vs H2) → Wa X es σ H1 Q
/-- an operation on values -/
def Ro (r : R2) (H : Hp) (d1 d2 d : Dt) : Prop := ∀ H1, Ex H H1 → ∀ x y, Rp H1 x d1 → Rp H1 y d2 → ∀ Q : VK, (∀ v H2, Ex H1 H2 → Rp H2 v d → Q v H2) → r x y H1 Q

section
variable {X : Cx} {σ : L2.St} {H H' : Hp} {a b c e : Expr} {es rest : List Expr} {pos p : Pos} {d d1 d2 : Dt} {ds : List Dt} {x y z : Int} {k j : Nat}
theorem Dv.up (e1 : Ex H H') (h : Dv X σ H e d) : Dv X σ H' e d := fun H1 e2 Q q => h H1 (e1.trans e2) Q q
theorem Dq.up {v : Bool} (e1 : Ex H H') (h : Dq X σ H e v) : Dq X σ H' e v := fun H1 e2 Q q => h H1 (e1.trans e2) Q q
theorem Dv.to (h : Dv X σ H e d) (q : d = d1) : Dv X σ H e d1 := q ▸ h
theorem Dq.to {v w : Bool} (h : Dq X σ H e v) (q : v = w) : Dq X σ H e w := q ▸ h
theorem dv_var {n : Str} {v : V} (i : Nat) (hs : σ[i]? = some (some v)) (r : Rp H v d) (hN : X.N[i]? = some n := by rfl) (hv : Vis X.env.scope n := by first | exact Or.inl rfl | exact Or.inr (Or.inl rfl) | exact Or.inr (Or.inr rfl))
    (hd : (n == ("__debug__" : Str)) = false := by decide) (hcd : (n == ("__classdict__" : Str)) = false := by decide) : Dv X σ H (.Name n pos) d := fun H1 e1 Q q =>
  wx_of (pe_var hN hv hd hcd) ⟨v, hs, q v H1 (Ex.refl _) (r.up e1)⟩
theorem dv_int {m : Int} {w : Nat} : Dv X σ H (.Constant (.int m) w pos) (.i m) := fun H1 _ Q q => wx_of pe_int (q _ H1 (Ex.refl _) rfl)
theorem dv_bl {m : Bool} {w : Nat} : Dv X σ H (.Constant (.bool m) w pos) (.b m) := fun H1 _ Q q => wx_of pe_bl (q _ H1 (Ex.refl _) rfl)
theorem dv_non {w : Nat} : Dv X σ H (.Constant .none w pos) .n := fun H1 _ Q q => wx_of pe_non (q _ H1 (Ex.refl _) rfl)
theorem dv_op {op : Operator} {r : R2} (ho : OpR X (binaryOp op) r) (ha : Dv X σ H a d1) (hb : Dv X σ H b d2) (hr : Ro r H d1 d2 d) : Dv X σ H (.BinOp a op b pos) d := fun H1 e1 Q q =>
  wx_of (pe_op ho wx wx) (ha H1 e1 _ fun u H2 e2 r1 => hb H2 (e1.trans e2) _ fun v H3 e3 r2 => hr H3 ((e1.trans e2).trans e3) u v (r1.up e3) r2 Q fun w H4 e4 r3 => q w H4 ((e2.trans e3).trans e4) r3)
theorem dv_cmp {op : CmpOp} {r : R2} (ho : OpR X (compareOp op) r) (hm : behindInMarks op b = false) (ha : Dv X σ H a d1) (hb : Dv X σ H b d2) (hr : Ro r H d1 d2 d) : Dv X σ H (.Compare a [op] [b] pos) d := fun H1 e1 Q q =>
  wx_of (pe_cmpR ho wx wx hm) (ha H1 e1 _ fun u H2 e2 r1 => hb H2 (e1.trans e2) _ fun v H3 e3 r2 => hr H3 ((e1.trans e2).trans e3) u v (r1.up e3) r2 Q fun w H4 e4 r3 => q w H4 ((e2.trans e3).trans e4) r3)
theorem ro_i {g : Int → Int → Int} : Ro (rI0 fun i j => .int (g i j)) H (.i x) (.i y) (.i (g x y)) := fun H1 _ u v r1 r2 Q q => ⟨x, y, r1, r2, q _ H1 (Ex.refl _) rfl⟩
theorem ro_b {g : Int → Int → Bool} : Ro (rI0 fun i j => .bl (g i j)) H (.i x) (.i y) (.b (g x y)) := fun H1 _ u v r1 r2 Q q => ⟨x, y, r1, r2, q _ H1 (Ex.refl _) rfl⟩
theorem ro_c {C : Int → Int → Prop} {g : Int → Int → Int} (hc : C x y) : Ro (rI C fun i j => .int (g i j)) H (.i x) (.i y) (.i (g x y)) := fun H1 _ u v r1 r2 Q q => ⟨x, y, r1, r2, hc, q _ H1 (Ex.refl _) rfl⟩
theorem dv_add (ha : Dv X σ H a (.i x)) (hb : Dv X σ H b (.i y)) : Dv X σ H (.BinOp a .Add b pos) (.i (x + y)) := dv_op op_add ha hb ro_i
theorem dv_sub (ha : Dv X σ H a (.i x)) (hb : Dv X σ H b (.i y)) : Dv X σ H (.BinOp a .Sub b pos) (.i (x - y)) := dv_op op_sub ha hb ro_i
theorem dv_mul (ha : Dv X σ H a (.i x)) (hb : Dv X σ H b (.i y)) (hc : CMulW x y) : Dv X σ H (.BinOp a .Mult b pos) (.i (x * y)) := dv_op op_mulW ha hb (ro_c hc)
theorem dv_mod (ha : Dv X σ H a (.i x)) (hb : Dv X σ H b (.i y)) (hc : 0 < y) : Dv X σ H (.BinOp a .Mod b pos) (.i (x % y)) := dv_op op_mod ha hb (ro_c hc)
theorem dv_fdiv (ha : Dv X σ H a (.i x)) (hb : Dv X σ H b (.i y)) (hc : CDivW x y) : Dv X σ H (.BinOp a .FloorDiv b pos) (.i (x / y)) := dv_op op_fdivW ha hb (ro_c hc)
/-- // by any divisor but 0 -/
def CDivZ (_ j : Int) : Prop := j ≠ 0 ∧ j.natAbs.log2 < 9000
theorem op_fdivZ : OpR X (binaryOp .FloorDiv) (rI CDivZ fun i j => .int (i.fdiv j)) := opI fun i j _ _ _ _ _ hc q => floordiv_int hc.1 q (.inl (PyProof.noPylong_of_log2 hc.2))
theorem dv_fdivZ (ha : Dv X σ H a (.i x)) (hb : Dv X σ H b (.i y)) (hc : CDivZ x y) : Dv X σ H (.BinOp a .FloorDiv b pos) (.i (x.fdiv y)) := dv_op op_fdivZ ha hb (ro_c hc)
theorem dv_neg (ha : Dv X σ H a (.i x)) : Dv X σ H (.UnaryOp .USub a pos) (.i (-x)) := fun H1 e1 Q q =>
  wx_of (pe_un un_neg wx) (ha H1 e1 _ fun u H2 e2 r1 => ⟨x, r1, q _ H2 e2 rfl⟩)
theorem nm {op : CmpOp} (b : Expr) (h : op ≠ .In) (h2 : op ≠ .NotIn) : behindInMarks op b = false := nobehind b h h2
theorem ro_eqI : Ro rEq H (.i x) (.i y) (.b (decide (x = y))) := fun H1 _ u v r1 r2 Q q => by
  cases r1
  cases r2
  refine ⟨rfl, q _ H1 (Ex.refl _) ?_⟩
  show V.bl _ = V.bl _
  congr 1
  exact decide_eq_decide.mpr ⟨fun h => V.int.inj h, fun h => congrArg V.int h⟩
theorem ro_neI : Ro rNe H (.i x) (.i y) (.b (!decide (x = y))) := fun H1 _ u v r1 r2 Q q => by
  cases r1
  cases r2
  refine ⟨rfl, q _ H1 (Ex.refl _) ?_⟩
  show V.bl _ = V.bl _
  congr 2
  exact decide_eq_decide.mpr ⟨fun h => V.int.inj h, fun h => congrArg V.int h⟩
theorem ro_neB {x y : Bool} : Ro rNe H (.b x) (.b y) (.b (x != y)) := fun H1 _ u v r1 r2 Q q => by
  cases r1
  cases r2
  refine ⟨rfl, q _ H1 (Ex.refl _) ?_⟩
  cases x <;> cases y <;> rfl
/-- is None, is not None -/
def isN : Dt → Bool
  | .n => true
  | _ => false
theorem isN_of {v : V} (r : Rp H v d) : decide (v = .non) = isN d := by
  cases d with
  | n => exact decide_eq_true r
  | b x => cases r; rfl
  | i x => cases r; rfl
  | t xs =>
    obtain ⟨a, rfl, _⟩ := r
    rfl
theorem ro_isN : Ro (fun x y H Q => y = .non ∧ Q (.bl (decide (x = .non))) H) H d .n (.b (isN d)) := fun H1 _ u v r1 r2 Q q => by
  cases r2
  refine ⟨rfl, q _ H1 (Ex.refl _) ?_⟩
  show V.bl _ = V.bl _
  rw [isN_of r1]
theorem ro_notN : Ro (fun x y H Q => y = .non ∧ Q (.bl (!decide (x = .non))) H) H d .n (.b (!isN d)) := fun H1 _ u v r1 r2 Q q => by
  cases r2
  refine ⟨rfl, q _ H1 (Ex.refl _) ?_⟩
  show V.bl _ = V.bl _
  rw [isN_of r1]
/-- a comparison as a test -/
theorem dq_cmp {op : CmpOp} {r : R2} {v : Bool} (ho : OpR X (compareOp op) r) (hm : behindInMarks op b = false) (ha : Dv X σ H a d1) (hb : Dv X σ H b d2) (hr : Ro r H d1 d2 (.b v)) : Dq X σ H (.Compare a [op] [b] pos) v := fun H1 e1 Q q =>
  wt_of (pt_cmpR ho wx wx hm) (ha H1 e1 _ fun u H2 e2 r1 => hb H2 (e1.trans e2) _ fun w H3 e3 r2 => hr H3 ((e1.trans e2).trans e3) u w (r1.up e3) r2 _ fun z H4 e4 r3 => ⟨v, r3, q H4 ((e2.trans e3).trans e4)⟩)
theorem dv_lt (ha : Dv X σ H a (.i x)) (hb : Dv X σ H b (.i y)) : Dv X σ H (.Compare a [.Lt] [b] pos) (.b (decide (x < y))) := dv_cmp op_lt (nm _ (by decide) (by decide)) ha hb ro_b
theorem dv_gt (ha : Dv X σ H a (.i x)) (hb : Dv X σ H b (.i y)) : Dv X σ H (.Compare a [.Gt] [b] pos) (.b (decide (y < x))) := dv_cmp op_gt (nm _ (by decide) (by decide)) ha hb ro_b
theorem dv_ge (ha : Dv X σ H a (.i x)) (hb : Dv X σ H b (.i y)) : Dv X σ H (.Compare a [.GtE] [b] pos) (.b (decide (y ≤ x))) := dv_cmp op_ge (nm _ (by decide) (by decide)) ha hb ro_b
theorem dv_eqI (ha : Dv X σ H a (.i x)) (hb : Dv X σ H b (.i y)) : Dv X σ H (.Compare a [.Eq] [b] pos) (.b (decide (x = y))) := dv_cmp op_eq (nm _ (by decide) (by decide)) ha hb ro_eqI
theorem dv_neI (ha : Dv X σ H a (.i x)) (hb : Dv X σ H b (.i y)) : Dv X σ H (.Compare a [.NotEq] [b] pos) (.b (!decide (x = y))) := dv_cmp op_ne (nm _ (by decide) (by decide)) ha hb ro_neI
theorem dv_neB {x y : Bool} (ha : Dv X σ H a (.b x)) (hb : Dv X σ H b (.b y)) : Dv X σ H (.Compare a [.NotEq] [b] pos) (.b (x != y)) := dv_cmp op_ne (nm _ (by decide) (by decide)) ha hb ro_neB
theorem dq_lt (ha : Dv X σ H a (.i x)) (hb : Dv X σ H b (.i y)) : Dq X σ H (.Compare a [.Lt] [b] pos) (decide (x < y)) := dq_cmp op_lt (nm _ (by decide) (by decide)) ha hb ro_b
theorem dq_gt (ha : Dv X σ H a (.i x)) (hb : Dv X σ H b (.i y)) : Dq X σ H (.Compare a [.Gt] [b] pos) (decide (y < x)) := dq_cmp op_gt (nm _ (by decide) (by decide)) ha hb ro_b
theorem dq_ge (ha : Dv X σ H a (.i x)) (hb : Dv X σ H b (.i y)) : Dq X σ H (.Compare a [.GtE] [b] pos) (decide (y ≤ x)) := dq_cmp op_ge (nm _ (by decide) (by decide)) ha hb ro_b
theorem dq_eqI (ha : Dv X σ H a (.i x)) (hb : Dv X σ H b (.i y)) : Dq X σ H (.Compare a [.Eq] [b] pos) (decide (x = y)) := dq_cmp op_eq (nm _ (by decide) (by decide)) ha hb ro_eqI
theorem dq_neI (ha : Dv X σ H a (.i x)) (hb : Dv X σ H b (.i y)) : Dq X σ H (.Compare a [.NotEq] [b] pos) (!decide (x = y)) := dq_cmp op_ne (nm _ (by decide) (by decide)) ha hb ro_neI
theorem dq_neB {x y : Bool} (ha : Dv X σ H a (.b x)) (hb : Dv X σ H b (.b y)) : Dq X σ H (.Compare a [.NotEq] [b] pos) (x != y) := dq_cmp op_ne (nm _ (by decide) (by decide)) ha hb ro_neB
theorem dv_isN {w : Nat} {pos' : Pos} (ha : Dv X σ H a d) : Dv X σ H (.Compare a [.Is] [.Constant .none w pos'] pos) (.b (isN d)) := dv_cmp op_isN (nm _ (by decide) (by decide)) ha dv_non ro_isN
theorem dv_notN {w : Nat} {pos' : Pos} (ha : Dv X σ H a d) : Dv X σ H (.Compare a [.IsNot] [.Constant .none w pos'] pos) (.b (!isN d)) := dv_cmp op_notN (nm _ (by decide) (by decide)) ha dv_non ro_notN
theorem dq_isN {w : Nat} {pos' : Pos} (ha : Dv X σ H a d) : Dq X σ H (.Compare a [.Is] [.Constant .none w pos'] pos) (isN d) := dq_cmp op_isN (nm _ (by decide) (by decide)) ha dv_non ro_isN
theorem dq_notN {w : Nat} {pos' : Pos} (ha : Dv X σ H a d) : Dq X σ H (.Compare a [.IsNot] [.Constant .none w pos'] pos) (!isN d) := dq_cmp op_notN (nm _ (by decide) (by decide)) ha dv_non ro_notN
/-- bool - bool -/
theorem op_subB : OpR X (binaryOp .Sub) (fun x y H Q => ∃ p q : Bool, x = .bl p ∧ y = .bl q ∧ Q (.int (b2i p - b2i q)) H) := by
  intro pins s σ H x y
  intro v u Q I rx ry h
  obtain ⟨p, q, rfl, rfl, h⟩ := h
  cases rx
  cases ry
  exact sub_bool ⟨.int _, H, I.tok _, ⟨_, rfl⟩, h⟩
theorem dv_subB {x y : Bool} (ha : Dv X σ H a (.b x)) (hb : Dv X σ H b (.b y)) : Dv X σ H (.BinOp a .Sub b pos) (.i (b2i x - b2i y)) := dv_op op_subB ha hb fun H1 _ u v r1 r2 Q q => ⟨x, y, r1, r2, q _ H1 (Ex.refl _) rfl⟩
/-! equality of tuples of ints -/
theorem dp_ints {K : PySem.W.Frag} : ∀ ns : List Int, DpAll K H (ns.map V.int) (ns.map PyData.int)
  | [] => .nil
  | n :: ns => .cons (.int n) (dp_ints ns)
end
end K8
/-! The layer, further: calls, tests, statements. -/
namespace K8
open PySem PySem.Spec PyProof.Rows L2
open Evl (Ex Ex.refl Ex.trans Ex.new fresh_back)

theorem atI_map {α β : Type} (f : α → β) (xs : List α) (i : Int) : atI (xs.map f) i = (atI xs i).map f := by
  unfold atI
  rw [List.length_map]
  cases ixN xs.length i with
  | none => rfl
  | some j => exact List.getElem?_map
theorem rps_ints {H : Hp} : ∀ {xs : List Int} {vs : List V}, Rps H vs (xs.map Dt.i) → vs = xs.map V.int
  | [], _, h => by cases h; rfl
  | x :: xs, _, h => by
    cases h with
    | cons r t => rw [r, rps_ints t] <;> rfl
section
variable {X : Cx} {σ : L2.St} {H H' : Hp} {a b c e : Expr} {es rest : List Expr} {pos p : Pos} {d d1 d2 : Dt} {ds : List Dt} {x y z : Int} {k j : Nat}
theorem ixc {m : Int} {w : Nat} : PlainIx (.Constant (.int m) w p) := fun _ _ => rfl
theorem dv_ix {xs : List Int} {m : Int} {w : Nat} (ha : Dv X σ H a (.t xs)) (hm : atI xs m = some z) : Dv X σ H (.Subscript a (.Constant (.int m) w p) pos) (.i z) := fun H1 e1 Q q =>
  wx_of (pe_ix ix_tup wx pe_int ixc) (ha H1 e1 _ fun u H2 e2 r1 => by
    obtain ⟨o, rfl, ho⟩ := r1
    refine ⟨o, xs.map V.int, m, .int z, rfl, rfl, SqT.of ho, ?_, q _ H2 e2 rfl⟩
    rw [atI_map, hm] <;> rfl)
theorem dv_20 {u : Int × Int} {w : Nat} (h : Dv X σ H a (t2 u)) : Dv X σ H (.Subscript a (.Constant (.int 0) w p) pos) (.i u.1) := dv_ix h rfl
theorem dv_21 {u : Int × Int} {w : Nat} (h : Dv X σ H a (t2 u)) : Dv X σ H (.Subscript a (.Constant (.int 1) w p) pos) (.i u.2) := dv_ix h rfl
theorem dv_30 {u : Int × Int × Int} {w : Nat} (h : Dv X σ H a (t3 u)) : Dv X σ H (.Subscript a (.Constant (.int 0) w p) pos) (.i u.1) := dv_ix h rfl
theorem dv_31 {u : Int × Int × Int} {w : Nat} (h : Dv X σ H a (t3 u)) : Dv X σ H (.Subscript a (.Constant (.int 1) w p) pos) (.i u.2.1) := dv_ix h rfl
theorem dv_32 {u : Int × Int × Int} {w : Nat} (h : Dv X σ H a (t3 u)) : Dv X σ H (.Subscript a (.Constant (.int 2) w p) pos) (.i u.2.2) := dv_ix h rfl
/-! arguments -/
theorem da_nil : Da X σ H [] [] := fun H1 _ Q q => wa_of pa_nil (q [] H1 (Ex.refl _) .nil)
theorem da_cons (h : Dv X σ H e d) (hr : Da X σ H es ds) (hs : starEach (e :: es) X.env = (false, eval e X.env) :: starEach es X.env := by rfl) : Da X σ H (e :: es) (d :: ds) := fun H1 e1 Q q =>
  wa_of (pa_cons wx wa hs) (h H1 e1 _ fun v H2 e2 r => hr H2 (e1.trans e2) _ fun vs H3 e3 rs => q (v :: vs) H3 (e2.trans e3) (.cons (r.up e3) rs))
theorem dv_tup {xs : List Int} {w : Nat} (h : Da X σ H es (xs.map Dt.i)) (hl : xs.length ≤ 100) : Dv X σ H (.Tuple es w pos) (.t xs) := fun H1 e1 Q q =>
  wx_of (pe_tup wa) (h H1 e1 _ fun vs H2 e2 r => by
    have ev := rps_ints r
    subst ev
    refine ⟨by rw [List.length_map]; exact Nat.le_trans hl (by decide), fun o ho => q _ _ (e2.trans (Ex.new ho)) (Rp.tup upd_same)⟩)
theorem dv_t2 {w : Nat} (ha : Dv X σ H a (.i x)) (hb : Dv X σ H b (.i y)) (hs : starEach [a, b] X.env = (false, eval a X.env) :: starEach [b] X.env := by rfl) (hs1 : starEach [b] X.env = (false, eval b X.env) :: starEach [] X.env := by rfl) :
    Dv X σ H (.Tuple [a, b] w pos) (t2 (x, y)) := dv_tup (xs := [x, y]) (da_cons ha (da_cons hb da_nil hs1) hs) (by show 2 ≤ 100; decide)
theorem dv_t3 {w : Nat} (ha : Dv X σ H a (.i x)) (hb : Dv X σ H b (.i y)) (hc : Dv X σ H c (.i z)) (hs : starEach [a, b, c] X.env = (false, eval a X.env) :: starEach [b, c] X.env := by rfl)
    (hs1 : starEach [b, c] X.env = (false, eval b X.env) :: starEach [c] X.env := by rfl) (hs2 : starEach [c] X.env = (false, eval c X.env) :: starEach [] X.env := by rfl) :
    Dv X σ H (.Tuple [a, b, c] w pos) (t3 (x, y, z)) := dv_tup (xs := [x, y, z]) (da_cons ha (da_cons hb (da_cons hc da_nil hs2) hs1) hs) (by show 3 ≤ 100; decide)
/-! calls -/
/-- a promise: arguments that stand for the data ar a, where pre a holds, give what stands for f a -/
def pSp {α : Type} (ar : α → List Dt) (pre : α → Prop) (f : α → Dt) : Sp := fun vs H Q _ => ∃ a : α, Rps H vs (ar a) ∧ pre a ∧ ∀ v H2, Ex H H2 → Rp H2 v (f a) → Q v H2
theorem dv_call {α : Type} {ar : α → List Dt} {pre : α → Prop} {f : α → Dt} (w : α) {n : Str} (g : C8.Cal X.prog X.w X.K X.mg X.base k n (pSp ar pre f) []) (hr : Room j X.A) (hk : k ≤ j) (hg : Gl X n) (ha : Da X σ H (e :: es) (ar w)) (hp : pre w)
    (hdb : (n == ("__debug__" : Str)) = false := by decide) (he : starEach (e :: es) X.env = (false, eval e X.env) :: starEach es X.env := by rfl) (hpl : (backTo pos (starEach es X.env)).any (·.1) = false := by rfl) :
    Dv X σ H (.Call (.Name n p) (e :: es) [] pos) (f w) := fun H1 e1 Q q =>
  wx_of (C8.pe_c g hr hk hg wa hdb he hpl) (ha H1 e1 _ fun vs H2 e2 r => ⟨w, by rw [List.append_nil]; exact r, hp, fun v H3 e3 r3 => q v H3 (e2.trans e3) r3⟩)
/-- a built-in function by its name -/
theorem dv_blt {id : String} {r : List V → Hp → VK → Prop} {n : Str} (hc : CallR X (.builtin id) r) (hg : Gl X n) (hm : X.mg n = none) (hv : bootBuiltins n = some (.builtin id)) (ha : Da X σ H (e :: es) ds)
    (hq : ∀ H1, Ex H H1 → ∀ vs, Rps H1 vs ds → ∀ Q : VK, (∀ v H2, Ex H1 H2 → Rp H2 v d → Q v H2) → r vs H1 Q) (hn : n ≠ "__name__" := by decide) (hdb : (n == ("__debug__" : Str)) = false := by decide)
    (he : starEach (e :: es) X.env = (false, eval e X.env) :: starEach es X.env := by rfl) (hpl : (backTo pos (starEach es X.env)).any (·.1) = false := by rfl) : Dv X σ H (.Call (.Name n p) (e :: es) [] pos) d := fun H1 e1 Q q =>
  wx_of (pe_callB hc hg hm hv wa hn hdb he hpl) (ha H1 e1 _ fun vs H2 e2 r => hq H2 (e1.trans e2) vs r Q fun v H3 e3 r3 => q v H3 (e2.trans e3) r3)
/-! math.gcd -/
theorem dv_gcd2 (hg : Gl X "gcd") (hm : X.mg "gcd" = some (.builtin "math.gcd")) (ha : Dv X σ H a (.i x)) (hb : Dv X σ H b (.i y)) (hs : starEach [a, b] X.env = (false, eval a X.env) :: starEach [b] X.env := by rfl)
    (hs1 : starEach [b] X.env = (false, eval b X.env) :: starEach [] X.env := by rfl) (hpl : (backTo pos (starEach [b] X.env)).any (·.1) = false := by rfl) : Dv X σ H (.Call (.Name "gcd" p) [a, b] [] pos) (.i (g2 x y)) := fun H1 e1 Q q =>
  wx_of (pe_callBfun cr_gcd hg hm wa (by decide) hs hpl) (da_cons ha (da_cons hb da_nil hs1) hs H1 e1 _ fun vs H2 e2 r => by
    have ev := rps_ints (xs := [x, y]) r
    subst ev
    exact ⟨x, y, rfl, q _ H2 e2 rfl⟩)
theorem args_gcd3 (a b c : Value) : argsOk "math.gcd" ⟨[a, b, c], []⟩ := by unfold argsOk; kernel_rfl
theorem run_gcd3 (a : Int) (t : Tok) (b : Int) (u : Tok) (c : Int) (v : Tok) : Gives (Builtin.«math.gcd» ⟨[.int a t, .int b u, .int c v], []⟩) (.int (((((Nat.gcd 0 a.natAbs).gcd b.natAbs).gcd c.natAbs : Nat) : Int))) :=
  .of_wp fun _ _ _ s _ h => by
    obtain ⟨hp, g, d, tk, os⟩ := s
    wp_walk
    exact ⟨_, rfl, h⟩
def rGcd3 : List V → Hp → VK → Prop := fun vs H Q => ∃ a b c : Int, vs = [.int a, .int b, .int c] ∧ Q (.int (g3 a b c)) H
theorem cr_gcd3 : CallR X (.builtin "math.gcd") rGcd3 := by
  intro pins s σ H vs
  intro us Q I r h
  obtain ⟨a, b, c, rfl, q⟩ := h
  cases r with
  | cons r1 r =>
    cases r with
    | cons r2 r =>
      cases r with
      | cons r3 r =>
        cases r
        obtain ⟨t1, rfl⟩ := r1
        obtain ⟨t2, rfl⟩ := r2
        obtain ⟨t3, rfl⟩ := r3
        have g := run_gcd3 a t1 b t2 c t3
        rw [Nat.gcd_zero_left] at g
        exact call_function_meets PySem.W.MGF.kind_gcd PySem.W.MGF.plain_gcd PySem.W.MGF.entry_gcd (args_gcd3 _ _ _) g.meets ⟨.int _, H, I.tok _, ⟨_, rfl⟩, q⟩
theorem dv_gcd3 (hg : Gl X "gcd") (hm : X.mg "gcd" = some (.builtin "math.gcd")) (ha : Dv X σ H a (.i x)) (hb : Dv X σ H b (.i y)) (hc : Dv X σ H c (.i z)) (hs : starEach [a, b, c] X.env = (false, eval a X.env) :: starEach [b, c] X.env := by rfl)
    (hs1 : starEach [b, c] X.env = (false, eval b X.env) :: starEach [c] X.env := by rfl) (hs2 : starEach [c] X.env = (false, eval c X.env) :: starEach [] X.env := by rfl) (hpl : (backTo pos (starEach [b, c] X.env)).any (·.1) = false := by rfl) :
    Dv X σ H (.Call (.Name "gcd" p) [a, b, c] [] pos) (.i (g3 x y z)) := fun H1 e1 Q q =>
  wx_of (pe_callBfun cr_gcd3 hg hm wa (by decide) hs hpl) (da_cons ha (da_cons hb (da_cons hc da_nil hs2) hs1) hs H1 e1 _ fun vs H2 e2 r => by
    have ev := rps_ints (xs := [x, y, z]) r
    subst ev
    exact ⟨x, y, z, rfl, q _ H2 e2 rfl⟩)
/-! tests -/
theorem dq_val {v : Bool} (h : Dv X σ H e (.b v)) (he : ∀ whole, isTrue e X.env whole = (do let v ← whole; standAt e.pos; holding [v] (truthy v)) := by intro _; rfl) : Dq X σ H e v := fun H1 e1 Q q =>
  wt_of (pt_val wx he) (h H1 e1 _ fun u H2 e2 r => ⟨v, r, q H2 e2⟩)
theorem dq_not {v : Bool} (h : Dq X σ H a v) : Dq X σ H (.UnaryOp .Not a pos) (!v) := fun H1 e1 Q q => wt_of (pt_not wt) (h H1 e1 _ fun H2 e2 => q H2 e2)
def Ww (X : Cx) (e : Expr) : TT := fun σ H Q => ∀ (whole : Sem Value) (pins : List (Addr × Obj)) (s : Shared), Inv X pins σ H s → wpAny (model X.prog X.w) X.A (isTrue e X.env whole) (TP X pins σ Q) X.xe s
theorem ww : PW X e (Ww X e) := ⟨fun whole pins s _ _ _ I h => h whole pins s I⟩
theorem ww_of {t : TT} {Q : Bool → Hp → Prop} (h : PW X e t) (q : t σ H Q) : Ww X e σ H Q := fun whole pins s I => h.run whole pins s σ H Q I q
/-- a chain of and, or as a test -/
def Dw (X : Cx) (σ : L2.St) (H : Hp) (e : Expr) (b : Bool) : Prop := ∀ H1, Ex H H1 → ∀ Q : Bool → Hp → Prop, (∀ H2, Ex H1 H2 → Q b H2) → Ww X e σ H1 Q
theorem Dw.q {v : Bool} (h : Dw X σ H e v) : Dq X σ H e v := fun H1 e1 Q q => wt_of ww.pt (h H1 e1 Q q)
theorem Dw.up {v : Bool} (e1 : Ex H H') (h : Dw X σ H e v) : Dw X σ H' e v := fun H1 e2 Q q => h H1 (e1.trans e2) Q q
theorem dw_and1 {v : Bool} (h : Dq X σ H a v) : Dw X σ H (.BoolOp .And [a] pos) v := fun H1 e1 Q q => ww_of (pw_and1 wt) (h H1 e1 _ q)
theorem dw_or1 {v : Bool} (h : Dq X σ H a v) : Dw X σ H (.BoolOp .Or [a] pos) v := fun H1 e1 Q q => ww_of (pw_or1 wt) (h H1 e1 _ q)
theorem dw_and {v w : Bool} (h : Dq X σ H a v) (h2 : v = true → Dw X σ H (.BoolOp .And (b :: es) pos) w) : Dw X σ H (.BoolOp .And (a :: b :: es) pos) (v && w) := fun H1 e1 Q q =>
  ww_of (pw_and wt ww) (h H1 e1 _ fun H2 e2 => by
    cases v with
    | true => exact iteT (h2 rfl H2 (e1.trans e2) _ fun H3 e3 => q H3 (e2.trans e3))
    | false => exact iteF (q H2 e2))
theorem dw_or {v w : Bool} (h : Dq X σ H a v) (h2 : v = false → Dw X σ H (.BoolOp .Or (b :: es) pos) w) : Dw X σ H (.BoolOp .Or (a :: b :: es) pos) (v || w) := fun H1 e1 Q q =>
  ww_of (pw_or wt ww) (h H1 e1 _ fun H2 e2 => by
    cases v with
    | true => exact iteT (q H2 e2)
    | false => exact iteF (h2 rfl H2 (e1.trans e2) _ fun H3 e3 => q H3 (e2.trans e3)))
/-- a == b == c of ints -/
theorem dq_chain (ha : Dv X σ H a (.i x)) (hb : Dv X σ H b (.i y)) (hc : Dv X σ H c (.i z)) (hl : lastMarks [CmpOp.Eq, CmpOp.Eq] [b, c] = false := by rfl) : Dq X σ H (.Compare a [.Eq, .Eq] [b, c] pos) (decide (x = y ∧ y = z)) := fun H1 e1 Q q =>
  wt_of (pt_chain op_eq op_eq wx wx wx (hm := hl)) (ha H1 e1 _ fun u H2 e2 r1 => hb H2 (e1.trans e2) _ fun v H3 e3 r2 => by
    cases r1
    cases r2
    refine ⟨rfl, _, rfl, ?_⟩
    by_cases hxy : x = y
    · rw [decide_eq_true (congrArg V.int hxy)]
      refine iteT (hc H3 ((e1.trans e2).trans e3) _ fun w H4 e4 r3 => ?_)
      cases r3
      refine ⟨rfl, _, rfl, ?_⟩
      have ev : decide (V.int y = V.int z) = decide (x = y ∧ y = z) := decide_eq_decide.mpr ⟨fun h => ⟨hxy, V.int.inj h⟩, fun h => congrArg V.int h.2⟩
      rw [ev]
      exact q H4 ((e2.trans e3).trans e4)
    · rw [decide_eq_false (fun h => hxy (V.int.inj h))]
      refine iteF ⟨_, rfl, ?_⟩
      rw [← decide_eq_false (p := x = y ∧ y = z) fun h => hxy h.1]
      exact q H3 (e2.trans e3))
/-! values by tests -/
theorem dv_if {v : Bool} (h : Dq X σ H c v) (h1 : v = true → Dv X σ H a d) (h2 : v = false → Dv X σ H b d) : Dv X σ H (.IfExp c a b pos) d := fun H1 e1 Q q =>
  wx_of (pe_ifExp wt wx wx) (h H1 e1 _ fun H2 e2 => by
    cases v with
    | true => exact iteT (h1 rfl H2 (e1.trans e2) _ fun w H3 e3 r => q w H3 (e2.trans e3) r)
    | false => exact iteF (h2 rfl H2 (e1.trans e2) _ fun w H3 e3 r => q w H3 (e2.trans e3) r))
theorem dv_one {op : BoolOp} (h : Dv X σ H a d) : Dv X σ H (.BoolOp op [a] pos) d := fun H1 e1 Q q => wx_of (pe_one wx) (h H1 e1 _ q)
theorem dv_and {v w : Bool} (h : Dv X σ H a (.b v)) (h2 : v = true → Dv X σ H (.BoolOp .And (b :: es) pos) (.b w)) : Dv X σ H (.BoolOp .And (a :: b :: es) pos) (.b (v && w)) := fun H1 e1 Q q =>
  wx_of (pe_and wx wx) (h H1 e1 _ fun u H2 e2 r => ⟨v, r, by
    cases v with
    | true => exact iteT (h2 rfl H2 (e1.trans e2) _ fun w H3 e3 r => q w H3 (e2.trans e3) r)
    | false => exact iteF (q _ H2 e2 rfl)⟩)
theorem dv_or {v w : Bool} (h : Dv X σ H a (.b v)) (h2 : v = false → Dv X σ H (.BoolOp .Or (b :: es) pos) (.b w)) : Dv X σ H (.BoolOp .Or (a :: b :: es) pos) (.b (v || w)) := fun H1 e1 Q q =>
  wx_of (pe_or wx wx) (h H1 e1 _ fun u H2 e2 r => ⟨v, r, by
    cases v with
    | true => exact iteT (q _ H2 e2 rfl)
    | false => exact iteF (h2 rfl H2 (e1.trans e2) _ fun w H3 e3 r => q w H3 (e2.trans e3) r)⟩)
theorem dv_not {v : Bool} (h : Dv X σ H a (.b v)) : Dv X σ H (.UnaryOp .Not a pos) (.b (!v)) := fun H1 e1 Q q =>
  wx_of (pe_not wx) (h H1 e1 _ fun u H2 e2 r => ⟨v, r, q _ H2 e2 rfl⟩)
/-! tuples of ints compared -/
theorem dp_tup {K : PySem.W.Frag} {v : V} {xs : List Int} (r : Rp H v (.t xs)) : Dp K H v (.tuple (xs.map PyData.int)) := by
  obtain ⟨o, rfl, ho⟩ := r
  exact .tup (SqT.of ho) (dp_ints xs)
theorem lay_ints : ∀ xs : List Int, PyData.canLayAll0 (xs.map PyData.int) = true
  | [] => by simp [PyData.canLayAll0]
  | x :: xs => by simp [PyData.canLayAll0, PyData.canLay0, lay_ints xs]
theorem depth_ints : ∀ xs : List Int, PyData.depthAll (xs.map PyData.int) = 0
  | [] => by simp [PyData.depthAll]
  | x :: xs => by simp [PyData.depthAll, PyData.depth, depth_ints xs]
theorem shaped_ints (xs : List Int) : SeqAt.shaped (.tuple (xs.map PyData.int)) = true := by
  show ((PyData.tuple (xs.map PyData.int)).canLay0 && decide ((PyData.tuple (xs.map PyData.int)).depth ≤ 64)) = true
  rw [Bool.and_eq_true]
  refine ⟨by simp only [PyData.canLay0]; exact lay_ints xs, decide_eq_true ?_⟩
  simp only [PyData.depth, depth_ints]
  decide
theorem eqv_ints : ∀ xs ys : List Int, PyData.eqvAll (xs.map PyData.int) (ys.map PyData.int) = decide (xs = ys)
  | [], [] => by simp [PyData.eqvAll]
  | [], y :: ys => by simp [PyData.eqvAll]
  | x :: xs, [] => by simp [PyData.eqvAll]
  | x :: xs, y :: ys => by
    simp only [List.map_cons, PyData.eqvAll, PyData.eqv, eqv_ints xs ys, List.cons.injEq]
    by_cases h : x = y <;> simp [h]
theorem eqv_tups (xs ys : List Int) : PyData.eqv (.tuple (xs.map PyData.int)) (.tuple (ys.map PyData.int)) = decide (xs = ys) := by
  simp only [PyData.eqv, eqv_ints]
theorem ro_eqT {K : PySem.W.Frag} {xs ys : List Int} : Ro (rEqD K) H (.t xs) (.t ys) (.b (decide (xs = ys))) := fun H1 _ u v r1 r2 Q q => ⟨_, _, dp_tup r1, dp_tup r2, shaped_ints xs, shaped_ints ys, by rw [eqv_tups]; exact q _ H1 (Ex.refl _) rfl⟩
theorem ro_neT {K : PySem.W.Frag} {xs ys : List Int} : Ro (rNeD K) H (.t xs) (.t ys) (.b (!decide (xs = ys))) := fun H1 _ u v r1 r2 Q q => ⟨_, _, dp_tup r1, dp_tup r2, shaped_ints xs, shaped_ints ys, by rw [eqv_tups]; exact q _ H1 (Ex.refl _) rfl⟩
theorem dv_eqT {xs ys : List Int} (hu : X.A.units + 64 < cLine) (ha : Dv X σ H a (.t xs)) (hb : Dv X σ H b (.t ys)) : Dv X σ H (.Compare a [.Eq] [b] pos) (.b (decide (xs = ys))) := dv_cmp (op_eqD hu) (nm _ (by decide) (by decide)) ha hb ro_eqT
theorem dv_neT {xs ys : List Int} (hu : X.A.units + 64 < cLine) (ha : Dv X σ H a (.t xs)) (hb : Dv X σ H b (.t ys)) : Dv X σ H (.Compare a [.NotEq] [b] pos) (.b (!decide (xs = ys))) := dv_cmp (op_neD hu) (nm _ (by decide) (by decide)) ha hb ro_neT
theorem dq_eqT {xs ys : List Int} (hu : X.A.units + 64 < cLine) (ha : Dv X σ H a (.t xs)) (hb : Dv X σ H b (.t ys)) : Dq X σ H (.Compare a [.Eq] [b] pos) (decide (xs = ys)) := dq_cmp (op_eqD hu) (nm _ (by decide) (by decide)) ha hb ro_eqT
theorem dq_neT {xs ys : List Int} (hu : X.A.units + 64 < cLine) (ha : Dv X σ H a (.t xs)) (hb : Dv X σ H b (.t ys)) : Dq X σ H (.Compare a [.NotEq] [b] pos) (!decide (xs = ys)) := dq_cmp (op_neD hu) (nm _ (by decide) (by decide)) ha hb ro_neT
end
/-! ### statements -/
section
variable {X : Cx} {σ : L2.St} {H H' : Hp} {a b c e : Expr} {pos p : Pos} {d : Dt} {D : Ends} {st : Stmt} {rest as bs : List Stmt}
theorem sb_nil (h : D.nx σ H) : Wb X [] D σ H := wb_of pss_nil h
theorem sb_ret (h : Dv X σ H e d) (k : ∀ v H1, Ex H H1 → Rp H1 v d → D.rt v H1) : Wb X [.Return (some e) pos] D σ H := wb_of (pss_one (ps_ret wx)) (h H (Ex.refl _) _ k)
theorem sb_set {n : Str} (i : Nat) (hN : X.N.Nodup) (h : Dv X σ H e d) (k : ∀ v H1, Ex H H1 → Rp H1 v d → Wb X rest D (σ.set i (some v)) H1) (hi : X.N[i]? = some n := by rfl) (hx : Loc X.env.scope n := by first | exact Or.inl rfl | exact Or.inr rfl)
    (hs : swapsWith e (some (.Name n p)) pos.line X.env = pure false := by rfl) (hf : X.fn n = true ∨ X.env.scope.names.lookup n = some .local := by first | exact .inl rfl | exact .inr rfl) : Wb X (.Assign [.Name n p] e pos :: rest) D σ H :=
  wb_of (pss_cons (ps_set hN hi hx wx hs hf) wb) (h H (Ex.refl _) _ k)
theorem sb_if {v : Bool} (h : Dq X σ H c v) (h1 : v = true → ∀ H1, Ex H H1 → Wb X as { D with nx := fun σ' H' => Wb X rest D σ' H' } σ H1) (h2 : v = false → ∀ H1, Ex H H1 → Wb X bs { D with nx := fun σ' H' => Wb X rest D σ' H' } σ H1) :
    Wb X (.If c as bs pos :: rest) D σ H := wb_of (pss_cons (ps_if wt wb wb) wb) (h H (Ex.refl _) _ fun H1 e1 => by
  cases v with
  | true => exact iteT (h1 rfl H1 e1)
  | false => exact iteF (h2 rfl H1 e1))
/-- an if without else whose branch is not taken -/
theorem sb_skip (h : Dq X σ H c false) (k : ∀ H1, Ex H H1 → Wb X rest D σ H1) : Wb X (.If c as [] pos :: rest) D σ H := sb_if h (fun q => nomatch q) fun _ H1 e1 => sb_nil (k H1 e1)
end
end K8
/-! The layer: comprehensions over a tuple, a def by its body. -/
namespace K8
open PySem PySem.Spec PyProof.Rows L2
open Evl (Ex Ex.refl Ex.trans Ex.new fresh_back)

theorem Rp.mut {H : Hp} {v : V} {d : Dt} {D : Addr} {xs ys : List V} (h : H D = some (.lst xs)) (r : Rp H v d) : Rp (upd H D (.lst ys)) v d := by
  cases d with
  | n => exact r
  | b x => exact r
  | i x => exact r
  | t zs =>
    obtain ⟨a, h1, h2⟩ := r
    exact ⟨a, h1, by rw [upd_ne (ne_of h2 h (by intro z; cases z))]; exact h2⟩
theorem Rps.mut {H : Hp} {D : Addr} {xs ys : List V} (h : H D = some (.lst xs)) : ∀ {vs : List V} {ds : List Dt}, Rps H vs ds → Rps (upd H D (.lst ys)) vs ds
  | _, _, .nil => .nil
  | _, _, .cons r t => .cons (r.mut h) (Rps.mut h t)
theorem Rps.get {H : Hp} : ∀ {vs : List V} {ds : List Dt} {i : Nat} {v : V}, Rps H vs ds → vs[i]? = some v → ∃ d, ds[i]? = some d ∧ Rp H v d
  | _, _, _, _, .nil, h => by simp at h
  | _, _, 0, v, .cons r t, h => by
    simp only [List.getElem?_cons_zero, Option.some.injEq] at h
    subst h
    exact ⟨_, rfl, r⟩
  | _, _, i + 1, v, .cons r t, h => by
    obtain ⟨d, h1, h2⟩ := Rps.get (i := i) (v := v) t (by simpa using h)
    exact ⟨d, by simpa using h1, h2⟩
theorem Rps.snoc {H : Hp} {v : V} {d : Dt} (r : Rp H v d) : ∀ {vs : List V} {ds : List Dt}, Rps H vs ds → Rps H (vs ++ [v]) (ds ++ [d])
  | _, _, .nil => .cons r .nil
  | _, _, .cons q t => .cons q (Rps.snoc r t)
theorem Rps.len {H : Hp} {vs : List V} {ds : List Dt} (r : Rps H vs ds) : vs.length = ds.length := Paired.length r
theorem take_snoc {α : Type} {xs : List α} {i : Nat} {x : α} (h : xs[i]? = some x) : xs.take (i + 1) = xs.take i ++ [x] := by
  rw [List.take_add_one, h] <;> rfl
theorem wipe_one (σ : L2.St) (j : Nat) (x : Option V) : wipe ((wipe σ [j]).set j x) [j] = wipe σ [j] := by
  show ((σ.set j none).set j x).set j none = σ.set j none
  rw [List.set_set, List.set_set]
section
variable {X : Cx} {σ : L2.St} {H H' : Hp} {restS : List Stmt} {a b c e iter elt : Expr} {es rest : List Expr} {pos p tp : Pos} {d d1 d2 : Dt} {ds : List Dt} {x y z : Int} {k j : Nat}
/-- e evaluates to a tuple of what stands for ds; to a new list of such -/
def Du (X : Cx) (σ : L2.St) (H : Hp) (e : Expr) (ds : List Dt) : Prop := ∀ H1, Ex H H1 → ∀ Q : VK, (∀ o vs H2, Ex H1 H2 → H2 o = some (.tup vs) → Rps H2 vs ds → Q (.ref o) H2) → Wx X e σ H1 Q
def Dl (X : Cx) (σ : L2.St) (H : Hp) (e : Expr) (ds : List Dt) : Prop := ∀ H1, Ex H H1 → ∀ Q : VK, (∀ o vs H2, Ex H1 H2 → H1 o = none → H2 o = some (.lst vs) → Rps H2 vs ds → Q (.ref o) H2) → Wx X e σ H1 Q
theorem du_tup {w : Nat} (h : Da X σ H es ds) (hl : ds.length ≤ 100) : Du X σ H (.Tuple es w pos) ds := fun H1 e1 Q q =>
  wx_of (pe_tup wa) (h H1 e1 _ fun vs H2 e2 r => ⟨by rw [r.len]; exact Nat.le_trans hl (by decide), fun o ho => q _ vs _ (e2.trans (Ex.new ho)) upd_same (r.up (Ex.new ho))⟩)
theorem rps_of_ints {H : Hp} : ∀ xs : List Int, Rps H (xs.map V.int) (xs.map Dt.i)
  | [] => .nil
  | x :: xs => .cons rfl (rps_of_ints xs)
theorem du_t {xs : List Int} (h : Dv X σ H e (.t xs)) : Du X σ H e (xs.map Dt.i) := fun H1 e1 Q q => h H1 e1 _ fun v H2 e2 r => by
  obtain ⟨o, rfl, ho⟩ := r
  exact q o _ H2 e2 ho (rps_of_ints xs)
def Wk (X : Cx) (scope : Scope) (elt : Expr) : TE := fun σ H Q => ∀ (s0 : Shared) (H0 : Hp) (C : Addr) (cl : List (Str × Addr)) (fp : List Addr), Wx (X.blk s0 H0 scope (compEnvC scope cl C X.env) fp) elt σ H Q
theorem rd_comp {g : Dt → Dt} {scope : Scope} (j : Nat) (hs : Du X σ H iter ds) (hl : ds.length ≤ 100)
    (he : ∀ (s0 : Shared) (H0 : Hp) (C : Addr) (cl : List (Str × Addr)) (fp : List Addr) (v : V) (d : Dt) (H1 : Hp), Ex H H1 → d ∈ ds → Rp H1 v d → Dv (X.blk s0 H0 scope (compEnvC scope cl C X.env) fp) ((wipe σ [j]).set j (some v)) H1 elt (g d))
    (H1 : Hp) (e1 : Ex H H1) (Q : VK) (q : ∀ o vs H2, Ex H1 H2 → H1 o = none → H2 o = some (.lst vs) → Rps H2 vs (ds.map g) → Q (.ref o) H2) : tLc (iTup X.K (Wx X iter)) (gName j) tYes (Wk X scope elt) [j] σ H1 Q := by
  refine hs H1 e1 _ fun o vs H2 e2 ho r => ⟨o, rfl, ⟨vs, SqT.of ho⟩, fun D hD => ?_⟩
  have hlen := r.len
  refine lc_tup (xs := vs) (fun i H' => ∃ acc, (∀ b u, b ≠ D → H2 b = some u → H' b = some u) ∧ H' D = some (.lst acc) ∧ Rps H' acc ((ds.take i).map g) ∧ i ≤ ds.length)
    ⟨[], fun b u hb h => by rw [upd_ne hb]; exact h, upd_same, .nil, Nat.zero_le _⟩ (fun i H' _ ⟨acc, s1, _, _⟩ => SqT.of (s1 o _ (ne_of_none ho hD) ho)) ?_ ?_
  · rintro i v H' hv ⟨acc, s1, hD', ra, hi⟩
    obtain ⟨d, hd, rd⟩ := r.get hv
    have eH : Ex H2 H' := fun b u h => s1 b u (ne_of_none h hD) h
    refine ⟨wipe_one σ j (some v), ?_⟩
    dsimp only [tYes]
    rw [if_pos rfl]
    intro s0 H0 C cl fp
    refine he s0 H0 C cl fp v d H' ((e1.trans e2).trans eH) (List.mem_of_getElem? hd) (rd.up eH) H' (Ex.refl _) _ fun u H4 e4 r4 => ?_
    have hlt := (List.getElem?_eq_some_iff.mp hd).1
    refine ⟨acc, e4 _ _ hD', ?_, acc ++ [u], fun b u hb h => by rw [upd_ne hb]; exact e4 _ _ (s1 b u hb h), upd_same, ?_, hlt⟩
    · have := ra.len
      rw [this, List.length_map, List.length_take]
      exact Nat.lt_of_le_of_lt (Nat.le_trans (Nat.min_le_right _ _) hl) (by decide)
    · rw [take_snoc hd, List.map_append]
      exact (Rps.snoc r4 (ra.up e4)).mut (e4 _ _ hD')
  · rintro H' ⟨acc, s1, hD', ra, _⟩
    rw [List.take_of_length_le (by omega)] at ra
    exact q D acc H' (e2.trans fun b u h => s1 b u (ne_of_none h hD) h) (fresh_back e2 hD) hD' ra
theorem wk {scope : Scope} : ∀ (s0 : Shared) (H0 : Hp) (C : Addr) (cl : List (Str × Addr)) (fp : List Addr), PE (X.blk s0 H0 scope (compEnvC scope cl C X.env) fp) elt (Wk X scope elt) := fun s0 H0 C cl fp => ⟨fun pins s σ' H' Q' I h => h s0 H0 C cl fp pins s I⟩
theorem dl_comp {g : Dt → Dt} {scope : Scope} {n : Str} (j : Nat) (hc : X.calm = true) (hN : X.N.Nodup) (ok : BlkOk X.N X.env.scope scope [(n, j)]) (hs : Du X σ H iter ds) (hl : ds.length ≤ 100)
    (hgt : ∀ (s : Shared) (H : Hp) (C : Addr) (cl : List (Str × Addr)) (fp : List Addr), PG (X.blk s H scope (compEnvC scope cl C X.env) fp) (.Name n tp) (gName j))
    (he : ∀ (s0 : Shared) (H0 : Hp) (C : Addr) (cl : List (Str × Addr)) (fp : List Addr) (v : V) (d : Dt) (H1 : Hp), Ex H H1 → d ∈ ds → Rp H1 v d → Dv (X.blk s0 H0 scope (compEnvC scope cl C X.env) fp) ((wipe σ [j]).set j (some v)) H1 elt (g d))
    (hf : ∀ x, foldedSetIterable iter X.env x = pure x := by intro _; rfl) : Dl X σ H (.ListComp elt [⟨.Name n tp, iter, [], 0⟩] scope pos) (ds.map g) := fun H1 e1 Q q =>
  wx_of (pe_lc (own := [(n, j)]) (te := Wk X scope elt) hc hN (pi_tup wx) ok hgt (fun _ _ _ _ _ => pts_nil) wk hf) (rd_comp j hs hl he H1 e1 Q q)
/-- y = [f(x) for x in a tuple] -/
theorem sb_setLc {g : Dt → Dt} {scope : Scope} {n y : Str} {py spos : Pos} {D : Ends} (i j : Nat) (hc : X.calm = true) (hN : X.N.Nodup) (hy : X.N[i]? = some y) (hyl : X.env.scope.names.lookup y = some .local)
    (hsw : swapsWith (.ListComp elt [⟨.Name n tp, iter, [], 0⟩] scope pos) (some (.Name y py)) spos.line X.env = pure true) (ok : BlkOk X.N X.env.scope scope [(n, j)]) (hs : Du X σ H iter ds) (hl : ds.length ≤ 100)
    (hgt : ∀ (s : Shared) (H : Hp) (C : Addr) (cl : List (Str × Addr)) (fp : List Addr), PG (X.blk s H scope (compEnvC scope cl C X.env) fp) (.Name n tp) (gName j))
    (he : ∀ (s0 : Shared) (H0 : Hp) (C : Addr) (cl : List (Str × Addr)) (fp : List Addr) (v : V) (d : Dt) (H1 : Hp), Ex H H1 → d ∈ ds → Rp H1 v d → Dv (X.blk s0 H0 scope (compEnvC scope cl C X.env) fp) ((wipe σ [j]).set j (some v)) H1 elt (g d))
    (k : ∀ o vs H1, Ex H H1 → H o = none → H1 o = some (.lst vs) → Rps H1 vs (ds.map g) → Wb X restS D (σ.set i (some (.ref o))) H1)
    (hf : ∀ x, foldedSetIterable iter X.env x = pure x := by intro _; rfl) : Wb X (.Assign [.Name y py] (.ListComp elt [⟨.Name n tp, iter, [], 0⟩] scope pos) spos :: restS) D σ H :=
  wb_of (pss_cons (ps_setLc (i := i) (own := [(n, j)]) (te := Wk X scope elt) hc hN hy hyl hsw (pi_tup wx) ok hgt (fun _ _ _ _ _ => pts_nil) wk hf) wb) (rd_comp j hs hl he H (Ex.refl _) (fun x H1 => gName i x σ H1 fun σ' H' => Wb X restS D σ' H') k)
/-! isinstance -/
theorem dv_isi {T : String} {n : Str} {r : Bool} {tn : String} (hg : Gl X "isinstance") (hm : X.mg "isinstance" = none) (hgT : Gl X n) (hmT : X.mg n = none) (hvT : bootBuiltins n = some (.type T)) (h : Dv X σ H e d) (ht : ∀ H1 v, Rp H1 v d → TyOf X.K H1 v (.type tn))
    (hb : kitB tn T = some r) (hnn : n ≠ "__name__" := by decide) (hdb : (n == ("__debug__" : Str)) = false := by decide) (hs : starEach [e, .Name n tp] X.env = (false, eval e X.env) :: starEach [.Name n tp] X.env := by rfl)
    (hs1 : starEach [.Name n tp] X.env = (false, eval (.Name n tp) X.env) :: starEach [] X.env := by rfl) (hpl : (backTo pos (starEach [.Name n tp] X.env)).any (·.1) = false := by rfl) :
    Dv X σ H (.Call (.Name "isinstance" p) [e, .Name n tp] [] pos) (.b r) := fun H1 e1 Q q =>
  wx_of (pe_callB call_isi hg hm (by decide +kernel) (pa_cons wx (pa_cons (pe_bltn (v := .ty T) hgT hmT hvT rfl hnn hdb) pa_nil hs1) hs) (by decide) (by decide) hs hpl)
    (h H1 e1 _ fun v H2 e2 rv => ⟨v, .ty T, .type tn, .type T, r, rfl, .ty T, .base (ht H2 v rv), kit_ty hb, q _ H2 e2 rfl⟩)
theorem ty_i {K : PySem.W.Frag} {x : Int} : ∀ H1 v, Rp H1 v (.i x) → TyOf K H1 v (.type "int") := fun H1 v r => by
  cases r
  exact .int x
theorem ty_t {K : PySem.W.Frag} {xs : List Int} : ∀ H1 v, Rp H1 v (.t xs) → TyOf K H1 v (.type "tuple") := fun H1 v r => by
  obtain ⟨o, rfl, ho⟩ := r
  exact .tup ho
/-! all of a list of bools -/
theorem rps_bools {H : Hp} : ∀ {bs : List Bool} {vs : List V}, Rps H vs (bs.map Dt.b) → vs = bs.map V.bl
  | [], _, h => by cases h; rfl
  | x :: xs, _, h => by
    cases h with
    | cons r t => rw [r, rps_bools t] <;> rfl
theorem dv_all {bs : List Bool} (hc : X.calm = true) (hg : Gl X "all") (hm : X.mg "all" = none) (h : Dl X σ H e (bs.map Dt.b)) (hs : starEach [e] X.env = (false, eval e X.env) :: starEach [] X.env := by rfl) :
    Dv X σ H (.Call (.Name "all" p) [e] [] pos) (.b (bs.all id)) := fun H1 e1 Q q =>
  wx_of (pe_callB (cr_all hc) hg hm (by decide +kernel) (pa_cons wx pa_nil hs) (by decide) (by decide) hs (by rfl)) (h H1 e1 _ fun o vs H2 e2 _ ho r => by
    have ev := rps_bools r
    subst ev
    exact ⟨o, bs, rfl, SqL.of ho, q _ H2 e2 rfl⟩)
/-! len of a tuple -/
theorem dv_lenT {xs : List Int} (hg : Gl X "len") (hm : X.mg "len" = none) (h : Dv X σ H e (.t xs)) (hs : starEach [e] X.env = (false, eval e X.env) :: starEach [] X.env := by rfl) :
    Dv X σ H (.Call (.Name "len" p) [e] [] pos) (.i (xs.length : Int)) := fun H1 e1 Q q =>
  wx_of (pe_callB call_len_seq hg hm PySem.boot_len (pa_cons wx pa_nil hs) (by decide) (by decide) hs (by rfl)) (h H1 e1 _ fun v H2 e2 r => by
    obtain ⟨o, rfl, ho⟩ := r
    exact ⟨o, xs.map V.int, rfl, .inr (SqT.of ho), q _ H2 e2 (by show V.int _ = V.int _; rw [List.length_map])⟩)
/-! t[:2] of three -/
theorem dv_cut2 {u : Int × Int × Int} {w : Nat} {p2 p3 : Pos} (h : Dv X σ H e (t3 u)) : Dv X σ H (.Subscript e (.Slice none (some (.Constant (.int 2) w p3)) none p2) pos) (.t [u.1, u.2.1]) := fun H1 e1 Q q =>
  wx_of (pe_slice sl_tup wx po_none (po_some pe_int)) (h H1 e1 _ fun v H2 e2 r => by
    obtain ⟨o, rfl, ho⟩ := r
    refine ⟨2, rfl, o, _, rfl, SqT.of ho, by show ¬ (0 = 0 ∧ 2 = 3); omega, fun o' ho' => q _ _ (e2.trans (Ex.new ho')) (Rp.tup upd_same)⟩)
/-! -1 * or a value by a test; * by a small number is dv_mul -/
end
/-! ### arguments, one by one -/
theorem Rps.one {H : Hp} {vs : List V} {d1 : Dt} (r : Rps H vs [d1]) : ∃ v1, vs = [v1] ∧ Rp H v1 d1 := by
  cases r with
  | cons r1 r =>
    cases r
    exact ⟨_, rfl, r1⟩
theorem Rps.two {H : Hp} {vs : List V} {d1 d2 : Dt} (r : Rps H vs [d1, d2]) : ∃ v1 v2, vs = [v1, v2] ∧ Rp H v1 d1 ∧ Rp H v2 d2 := by
  cases r with
  | cons r1 r =>
    obtain ⟨v2, rfl, r2⟩ := Rps.one r
    exact ⟨_, _, rfl, r1, r2⟩
theorem Rps.three {H : Hp} {vs : List V} {d1 d2 d3 : Dt} (r : Rps H vs [d1, d2, d3]) : ∃ v1 v2 v3, vs = [v1, v2, v3] ∧ Rp H v1 d1 ∧ Rp H v2 d2 ∧ Rp H v3 d3 := by
  cases r with
  | cons r1 r =>
    obtain ⟨v2, v3, rfl, r2, r3⟩ := Rps.two r
    exact ⟨_, _, _, rfl, r1, r2, r3⟩
theorem Rps.four {H : Hp} {vs : List V} {d1 d2 d3 d4 : Dt} (r : Rps H vs [d1, d2, d3, d4]) : ∃ v1 v2 v3 v4, vs = [v1, v2, v3, v4] ∧ Rp H v1 d1 ∧ Rp H v2 d2 ∧ Rp H v3 d3 ∧ Rp H v4 d4 := by
  cases r with
  | cons r1 r =>
    obtain ⟨v2, v3, v4, rfl, r2, r3, r4⟩ := Rps.three r
    exact ⟨_, _, _, _, rfl, r1, r2, r3, r4⟩
/-! ### a def by its body -/
abbrev Bx (P : Program) (w : World) (K : PySem.W.Frag) (mg : Str → Option Value) (base : Heap) (N : List Str) (x : Str) (st : Stmt) (f : Addr) (cdv : Value) (A : Around) (outer : List Env) (s : Shared) (H : Hp) (E : XK) : Cx :=
  (cxOf CX0 P w K mg base N x (defScope st) f cdv A outer s H E).nox
theorem cal_of {P : Program} {w : World} {K : PySem.W.Frag} {mg : Str → Option Value} {base : Heap} {α : Type} {ar : α → List Dt} {pre : α → Prop} {fn : α → Dt} {x : Str} {st : Stmt} {N ps : List Str} {k : Nat} {f : Addr} {fd : FuncData}
    (F : Fun K x x st f fd) (hm : mg x = some (.ref f)) (b : Binds K fd ps []) (S : FnScope N ps (defScope st)) (hl : ∀ a, (ar a).length = ps.length)
    (hb : ∀ (cdv : Value) (A : Around) (outer : List Env) (s : Shared) (H : Hp) (E : XK) (vs : List V) (a : α) (D : Ends), Room k (Bx P w K mg base N x st f cdv A outer s H E).A → Rps H vs (ar a) → pre a →
      (∀ v H1, Ex H H1 → Rp H1 v (fn a) → D.rt v H1) → Wb (Bx P w K mg base N x st f cdv A outer s H E) (defBody st) D (start N vs) H) : C8.Cal P w K mg base (k + 1) x (pSp ar pre fn) [] := by
  refine ⟨⟨f, fd, ps, [], F.ok S (fun vs H Q E h => ?_) (fun cdv A outer s H vs Q E hr h => ?_), hm, F.kp, b, .nil⟩⟩
  · obtain ⟨a, r, _⟩ := h
    exact r.len.trans (hl a)
  · obtain ⟨a, r, p, q⟩ := h
    exact ⟨_, wb, hb cdv A outer s H E vs a _ hr r p q⟩
end K8
/-! The defs, one by one: numbers, fractions. -/
namespace K8
open PySem PySem.Spec PyProof.Rows L2
open Evl (Ex Ex.refl Ex.trans Ex.new fresh_back)

def topS (i : Nat) : Stmt := PySem.Challenge.pw_plateheaps_k08_whole_heights_and_lines.main.body.getD i (.Pass ⟨0, 0, 0, 0⟩)
/-- what the module's names hold -/
structure Gb (mg : Str → Option Value) : Prop where
  gcd : mg "gcd" = some (.builtin "math.gcd")
  isi : mg "isinstance" = none
  int : mg "int" = none
  bool : mg "bool" = none
  tuple : mg "tuple" = none
  all : mg "all" = none
  len : mg "len" = none
  abs : mg "abs" = none
  max : mg "max" = none
  repr : mg "repr" = none
  range : mg "range" = none
/-- a def of the text, as it stands behind the top -/
structure Df (K : PySem.W.Frag) (mg : Str → Option Value) (x : Str) (st : Stmt) : Prop where
  ex : ∃ (f : Addr) (fd : FuncData), Fun K x x st f fd ∧ mg x = some (.ref f)
/-- a bound by bits -/
def B (n : Nat) (x : Int) : Prop := x.natAbs < 2 ^ n
theorem B.up {n m : Nat} {x : Int} (h : B n x) (k : n ≤ m) : B m x := Nat.lt_of_lt_of_le h (Nat.pow_le_pow_right (by decide) k)
theorem mw {x y : Int} (hx : B 1000 x) (hy : B 1000 y) : CMulW x y := wide_mul hx hy (by decide) (by decide) (by decide)
theorem B.mul {n m : Nat} {x y : Int} (hx : B n x) (hy : B m y) : B (n + m) (x * y) := wide_lt hx hy
theorem B.neg {n : Nat} {x : Int} (hx : B n x) : B n (-x) := by
  unfold B
  rw [Int.natAbs_neg]
  exact hx
theorem B.add {n : Nat} {x y : Int} (hx : B n x) (hy : B n y) : B (n + 1) (x + y) := by
  unfold B at *
  rw [Nat.pow_succ]
  omega
theorem B.sub {n : Nat} {x y : Int} (hx : B n x) (hy : B n y) : B (n + 1) (x - y) := by
  unfold B at *
  rw [Nat.pow_succ]
  omega
theorem g2_le {p q : Int} (h : 0 < q) : g2 p q ≤ q := Int.le_of_dvd h (g2_dr p q)
theorem divW {p q x : Int} (h : 0 < q) (hb : B 9000 q) : CDivW x (g2 p q) := wide_div (b := 9000) (g2_pos (Or.inr (by omega))) (Nat.lt_of_le_of_lt (by have := g2_le (p := p) h; have := g2_nn p q; omega) hb) (by decide) (by decide)
section
variable {P : Program} {w : World} {K : PySem.W.Frag} {mg : Str → Option Value} {base : Heap}
theorem cal_d {α : Type} {ar : α → List Dt} {pre : α → Prop} {fn : α → Dt} {x : Str} {st : Stmt} {N ps : List Str} {k : Nat} (D : Df K mg x st)
    (bd : ∀ (kV doc pm : Value) (an : Option Addr) (cdv ct : Value) (us : List Value), us.length = ps.length → bindArgs (PySem.W.fnOf x x (defArgs st) (defBody st) (defScope st) .none kV doc pm an cdv ct) ⟨us, []⟩ = pure (ps.zip us))
    (S : FnScope N ps (defScope st)) (hl : ∀ a, (ar a).length = ps.length)
    (hb : ∀ (f : Addr) (cdv : Value) (A : Around) (outer : List Env) (s : Shared) (H : Hp) (E : XK) (vs : List V) (a : α) (D : Ends), Room k (Bx P w K mg base N x st f cdv A outer s H E).A → Rps H vs (ar a) → pre a →
      (∀ v H1, Ex H H1 → Rp H1 v (fn a) → D.rt v H1) → Wb (Bx P w K mg base N x st f cdv A outer s H E) (defBody st) D (start N vs) H) : C8.Cal P w K mg base (k + 1) x (pSp ar pre fn) [] := by
  obtain ⟨f, fd, F, hm⟩ := D.ex
  exact cal_of F hm (F.binds bd) S hl (hb f)

/-! ### is_number, is_row_of_numbers -/
abbrev sIsNumber : Stmt := topS 7
theorem scIsNumber : FnScope ["value"] ["value"] (defScope sIsNumber) := ⟨rfl, rfl, rfl, by decide +kernel, rfl, by decide +kernel, by decide +kernel⟩
abbrev spIsNumber : Sp := pSp (fun x : Int => [.i x]) (fun _ => True) (fun _ => .b true)
theorem cal_is_number (G : Gb mg) (D : Df K mg "is_number" sIsNumber) : C8.Cal P w K mg base 1 "is_number" spIsNumber [] := by
  refine cal_d D (fun _ _ _ _ _ _ us hl => match us, hl with | [_], _ => rfl) scIsNumber (fun _ => rfl) ?_
  intro f cdv A outer s H E vs x D hr r hp k
  obtain ⟨v1, rfl, r1⟩ := Rps.one (show Rps H vs [.i x] from r)
  refine sb_ret (d := .b true) ?_ k
  refine Dv.to (d := .b (true && !false)) ?_ rfl
  exact dv_and (dv_isi (r := true) (T := "int") rfl G.isi rfl G.int (by decide +kernel) (dv_var 0 rfl r1) ty_i (by decide +kernel)) fun _ => dv_one (dv_not (dv_isi (r := false) (T := "bool") rfl G.isi rfl G.bool (by decide +kernel) (dv_var 0 rfl r1) ty_i (by decide +kernel)))
abbrev sIsRow : Stmt := topS 8
theorem scIsRow : FnScope ["value", "many", "one"] ["value", "many"] (defScope sIsRow) := ⟨rfl, rfl, rfl, by decide +kernel, rfl, by decide +kernel, by decide +kernel⟩
abbrev spIsRow : Sp := pSp (fun a : List Int × Int => [.t a.1, .i a.2]) (fun a => (a.1.length : Int) = a.2 ∧ a.1.length ≤ 3) (fun _ => .b true)
/-- [is_number(one) for one in ints]: all true -/
theorem dl_nums {X : Cx} {σ : L2.St} {H : Hp} {iter : Expr} {xs : List Int} {scope : Scope} {j k : Nat} {p1 p2 p3 p4 p5 : Pos} (g : C8.Cal X.prog X.w X.K X.mg X.base 1 "is_number" spIsNumber []) (hr : Room (k + 1) X.A)
    (hc : X.calm = true) (hN : X.N.Nodup) (hNj : X.N[j]? = some "one") (hj : j < σ.length) (ok : BlkOk X.N X.env.scope scope [("one", j)]) (hs : Du X σ H iter (xs.map Dt.i)) (hl : xs.length ≤ 100)
    (hgt : ∀ (s : Shared) (H : Hp) (C : Addr) (cl : List (Str × Addr)) (fp : List Addr), PG (X.blk s H scope (compEnvC scope cl C X.env) fp) (.Name "one" p1) (gName j))
    (hv : ∀ (s : Shared) (H : Hp) (C : Addr) (cl : List (Str × Addr)) (fp : List Addr), Vis (compEnvC scope cl C X.env).scope "one" ∧ Gl (X.blk s H scope (compEnvC scope cl C X.env) fp) "is_number")
    (hf : ∀ x, foldedSetIterable iter X.env x = pure x := by intro _; rfl) :
    Dl X σ H (.ListComp (.Call (.Name "is_number" p2) [.Name "one" p3] [] p4) [⟨.Name "one" p1, iter, [], 0⟩] scope p5) ((xs.map fun _ => true).map Dt.b) := by
  have h := dl_comp (pos := p5) (elt := .Call (.Name "is_number" p2) [.Name "one" p3] [] p4) (g := fun _ => Dt.b true) j hc hN ok hs (by rw [List.length_map]; exact hl) hgt (fun s0 H0 C cl fp v d H1 e1 hd r => by
    obtain ⟨x, hx, rfl⟩ := List.mem_map.mp hd
    refine dv_call (X := X.blk s0 H0 scope (compEnvC scope cl C X.env) fp) x g hr (by omega) (hv s0 H0 C cl fp).2 (da_cons (dv_var (X := X.blk s0 H0 scope (compEnvC scope cl C X.env) fp) j ?_ r hNj (hv s0 H0 C cl fp).1) da_nil) trivial
    show ((σ.set j none).set j (some v))[j]? = some (some v)
    exact List.getElem?_set_self (by rw [List.length_set]; exact hj)) hf
  rw [List.map_map] at h
  rw [List.map_map]
  exact h
theorem cal_is_row (G : Gb mg) (g : C8.Cal P w K mg base 1 "is_number" spIsNumber []) (D : Df K mg "is_row_of_numbers" sIsRow) : C8.Cal P w K mg base 2 "is_row_of_numbers" spIsRow [] := by
  refine cal_d (k := 1) D (fun _ _ _ _ _ _ us hl => match us, hl with | [_, _], _ => rfl) scIsRow (fun _ => rfl) ?_
  rintro f cdv A outer s H E vs ⟨xs, n⟩ D hr r ⟨hn, hl⟩ k
  obtain ⟨v1, v2, rfl, r1, r2⟩ := Rps.two (show Rps H vs [.t xs, .i n] from r)
  refine sb_ret (d := .b true) ?_ k
  refine Dv.to (d := .b (true && (decide ((xs.length : Int) = n) && (xs.map fun _ => true).all id))) ?_ ?_
  · exact dv_and (dv_isi (r := true) (T := "tuple") rfl G.isi rfl G.tuple (by decide +kernel) (dv_var 0 rfl r1) ty_t (by decide +kernel)) fun _ =>
      dv_and (dv_eqI (dv_lenT rfl G.len (dv_var 0 rfl r1)) (dv_var 1 rfl r2)) fun _ =>
      dv_one (dv_all (bs := xs.map fun _ => true) rfl rfl G.all (dl_nums (j := 2) g hr rfl scIsRow.nd rfl (by show 2 < 3; decide) (blkOk_by (N := ["value", "many", "one"]) (sc := defScope sIsRow) (by decide +kernel)) (du_t (dv_var 0 rfl r1)) (by show xs.length ≤ 100; exact Nat.le_trans hl (by decide))
        (fun _ _ _ _ _ => pg_name scIsRow.nd rfl (Or.inl rfl)) (fun _ _ _ _ _ => ⟨Or.inl (by rfl), by rfl⟩)))
  · have e1 : ((xs.map fun _ => true).all id) = true := by simp
    have e2 : decide ((xs.length : Int) = n) = true := decide_eq_true hn
    rw [e1, e2] <;> rfl

/-! ### fraction, plus, minus, is_less -/
abbrev sFraction : Stmt := topS 9
theorem scFraction : FnScope ["p", "q", "divisor"] ["p", "q"] (defScope sFraction) := ⟨rfl, rfl, rfl, by decide +kernel, rfl, by decide +kernel, by decide +kernel⟩
abbrev spFraction : Sp := pSp (fun a : Int × Int => [.i a.1, .i a.2]) (fun a => 0 < a.2 ∧ B 9000 a.2) (fun a => t2 (N2 a.1 a.2))
theorem cal_fraction (G : Gb mg) (D : Df K mg "fraction" sFraction) : C8.Cal P w K mg base 1 "fraction" spFraction [] := by
  refine cal_d D (fun _ _ _ _ _ _ us hl => match us, hl with | [_, _], _ => rfl) scFraction (fun _ => rfl) ?_
  rintro f cdv A outer s H E vs ⟨p, q⟩ D hr r ⟨hq, hb⟩ k
  obtain ⟨v1, v2, rfl, r1, r2⟩ := Rps.two (show Rps H vs [.i p, .i q] from r)
  refine sb_set 2 scFraction.nd (d := .i (g2 p q)) (dv_if (v := true) (Dq.to (dq_gt (dv_var 1 rfl r2) dv_int) (decide_eq_true hq)) (fun _ => dv_gcd2 rfl G.gcd (dv_var 0 rfl r1) (dv_var 1 rfl r2)) (fun z => nomatch z)) fun v3 H1 e1 r3 => ?_
  replace r1 := r1.up e1
  replace r2 := r2.up e1
  exact sb_ret (dv_t2 (dv_fdiv (dv_var 0 rfl r1) (dv_var 2 rfl r3) (divW hq hb)) (dv_fdiv (dv_var 1 rfl r2) (dv_var 2 rfl r3) (divW hq hb))) fun v H2 e2 r => k v H2 (e1.trans e2) r
def F2ok (n : Nat) (s : Int × Int) : Prop := 0 < s.2 ∧ B n s.1 ∧ B n s.2
abbrev ar22 : (Int × Int) × (Int × Int) → List Dt := fun a => [t2 a.1, t2 a.2]
def plusF (s t : Int × Int) : Int × Int := N2 (s.1 * t.2 + t.1 * s.2) (s.2 * t.2)
def minusF (s t : Int × Int) : Int × Int := N2 (s.1 * t.2 - t.1 * s.2) (s.2 * t.2)
abbrev sPlus : Stmt := topS 10
theorem scPlus : FnScope ["s", "t"] ["s", "t"] (defScope sPlus) := ⟨rfl, rfl, rfl, by decide +kernel, rfl, by decide +kernel, by decide +kernel⟩
abbrev spPlus : Sp := pSp ar22 (fun a => F2ok 1000 a.1 ∧ F2ok 1000 a.2) (fun a => t2 (plusF a.1 a.2))
theorem cal_plus (g : C8.Cal P w K mg base 1 "fraction" spFraction []) (D : Df K mg "plus" sPlus) : C8.Cal P w K mg base 2 "plus" spPlus [] := by
  refine cal_d D (fun _ _ _ _ _ _ us hl => match us, hl with | [_, _], _ => rfl) scPlus (fun _ => rfl) ?_
  rintro f cdv A outer s H E vs ⟨s, t⟩ D hr r ⟨⟨hs, b1, b2⟩, ht, b3, b4⟩ k
  obtain ⟨v1, v2, rfl, r1, r2⟩ := Rps.two (show Rps H vs [t2 s, t2 t] from r)
  exact sb_ret (dv_call (_, _) g hr (by decide) rfl (da_cons (dv_add (dv_mul (dv_20 (dv_var 0 rfl r1)) (dv_21 (dv_var 1 rfl r2)) (mw (by assumption) (by assumption))) (dv_mul (dv_20 (dv_var 1 rfl r2)) (dv_21 (dv_var 0 rfl r1)) (mw (by assumption) (by assumption)))) (da_cons (dv_mul (dv_21 (dv_var 0 rfl r1)) (dv_21 (dv_var 1 rfl r2)) (mw (by assumption) (by assumption))) da_nil)) ⟨Int.mul_pos hs ht, (b2.mul b4).up (by decide)⟩) k
abbrev sMinus : Stmt := topS 11
theorem scMinus : FnScope ["s", "t"] ["s", "t"] (defScope sMinus) := ⟨rfl, rfl, rfl, by decide +kernel, rfl, by decide +kernel, by decide +kernel⟩
abbrev spMinus : Sp := pSp ar22 (fun a => F2ok 1000 a.1 ∧ F2ok 1000 a.2) (fun a => t2 (minusF a.1 a.2))
theorem cal_minus (g : C8.Cal P w K mg base 1 "fraction" spFraction []) (D : Df K mg "minus" sMinus) : C8.Cal P w K mg base 2 "minus" spMinus [] := by
  refine cal_d D (fun _ _ _ _ _ _ us hl => match us, hl with | [_, _], _ => rfl) scMinus (fun _ => rfl) ?_
  rintro f cdv A outer s H E vs ⟨s, t⟩ D hr r ⟨⟨hs, b1, b2⟩, ht, b3, b4⟩ k
  obtain ⟨v1, v2, rfl, r1, r2⟩ := Rps.two (show Rps H vs [t2 s, t2 t] from r)
  exact sb_ret (dv_call (_, _) g hr (by decide) rfl (da_cons (dv_sub (dv_mul (dv_20 (dv_var 0 rfl r1)) (dv_21 (dv_var 1 rfl r2)) (mw (by assumption) (by assumption))) (dv_mul (dv_20 (dv_var 1 rfl r2)) (dv_21 (dv_var 0 rfl r1)) (mw (by assumption) (by assumption)))) (da_cons (dv_mul (dv_21 (dv_var 0 rfl r1)) (dv_21 (dv_var 1 rfl r2)) (mw (by assumption) (by assumption))) da_nil)) ⟨Int.mul_pos hs ht, (b2.mul b4).up (by decide)⟩) k
abbrev sIsLess : Stmt := topS 12
theorem scIsLess : FnScope ["s", "t"] ["s", "t"] (defScope sIsLess) := ⟨rfl, rfl, rfl, by decide +kernel, rfl, by decide +kernel, by decide +kernel⟩
abbrev spIsLess : Sp := pSp ar22 (fun a => F2ok 1000 a.1 ∧ F2ok 1000 a.2) (fun a => .b (decide (a.1.1 * a.2.2 < a.2.1 * a.1.2)))
theorem cal_is_less (D : Df K mg "is_less" sIsLess) : C8.Cal P w K mg base 1 "is_less" spIsLess [] := by
  refine cal_d D (fun _ _ _ _ _ _ us hl => match us, hl with | [_, _], _ => rfl) scIsLess (fun _ => rfl) ?_
  rintro f cdv A outer s H E vs ⟨s, t⟩ D hr r ⟨⟨hs, b1, b2⟩, ht, b3, b4⟩ k
  obtain ⟨v1, v2, rfl, r1, r2⟩ := Rps.two (show Rps H vs [t2 s, t2 t] from r)
  exact sb_ret (dv_lt (dv_mul (dv_20 (dv_var 0 rfl r1)) (dv_21 (dv_var 1 rfl r2)) (mw (by assumption) (by assumption))) (dv_mul (dv_20 (dv_var 1 rfl r2)) (dv_21 (dv_var 0 rfl r1)) (mw (by assumption) (by assumption)))) k
end
end K8
/-! The defs: places, directions. -/
namespace K8
open PySem PySem.Spec PyProof.Rows L2
open Evl (Ex Ex.refl Ex.trans Ex.new fresh_back)

section
variable {X : Cx} {σ : L2.St} {H H' : Hp} {a b c e : Expr} {pos p : Pos} {d d1 d2 : Dt} {D : Ends} {st : Stmt} {rest as bs : List Stmt}
/-- x, y = e1, e2 -/
theorem sb_par {x y : Str} {px py pt p2 : Pos} {kt k2 : Nat} (i j : Nat) (hc : X.calm = true) (hN : X.N.Nodup) (h : Da X σ H [a, b] [d1, d2]) (k : ∀ v w H1, Ex H H1 → Rp H1 v d1 → Rp H1 w d2 → Wb X rest D ((σ.set i (some v)).set j (some w)) H1)
    (hi : X.N[i]? = some x := by rfl) (hj : X.N[j]? = some y := by rfl) (hij : i ≠ j := by decide) (hx : X.env.scope.names.lookup x = some .local := by rfl) (hy : X.env.scope.names.lookup y = some .local := by rfl)
    (hw : swappedStores [.Tuple [.Name x px, .Name y py] kt pt] (.Tuple [a, b] k2 p2) X.env = pure (some [x, y]) := by rfl)
    (hs : swapsWithSole [.Tuple [.Name x px, .Name y py] kt pt] (.Tuple [a, b] k2 p2) pos.line X.env = pure false := by rfl) :
    Wb X (.Assign [.Tuple [.Name x px, .Name y py] kt pt] (.Tuple [a, b] k2 p2) pos :: rest) D σ H :=
  wb_of (pss_cons (ps_par hc hN hi hj hij hx hy wa hw hs) wb) (h H (Ex.refl _) _ fun vs H1 e1 r => by
    obtain ⟨v, w, rfl, r1, r2⟩ := Rps.two r
    exact ⟨v, w, rfl, k v w H1 e1 r1 r2⟩)
/-- x, y, z = a tuple of three ints -/
theorem sb_unp3 {x y z : Str} {px py pz pt : Pos} {kt : Nat} {u : Int × Int × Int} (i j l : Nat) (hc : X.calm = true) (hN : X.N.Nodup) (h : Dv X σ H e (t3 u)) (k : ∀ H1, Ex H H1 → Wb X rest D (((σ.set i (some (.int u.1))).set j (some (.int u.2.1))).set l (some (.int u.2.2))) H1)
    (hg : PG X (.Tuple [.Name x px, .Name y py, .Name z pz] kt pt) (gTup X.K 3 (gCons (gName i) (gCons (gName j) (gCons (gName l) gNil)))))
    (hs : swapsWithSole [.Tuple [.Name x px, .Name y py, .Name z pz] kt pt] e pos.line X.env = pure false := by rfl) (hw : swappedStores [.Tuple [.Name x px, .Name y py, .Name z pz] kt pt] e X.env = pure none := by rfl)
    (h1 : (assignEach [.Tuple [.Name x px, .Name y py, .Name z pz] kt pt] X.env).map (·.2) = [assign (.Tuple [.Name x px, .Name y py, .Name z pz] kt pt) X.env] := by rfl) :
    Wb X (.Assign [.Tuple [.Name x px, .Name y py, .Name z pz] kt pt] e pos :: rest) D σ H :=
  wb_of (pss_cons (ps_asg wx hg hs hw h1) wb) (h H (Ex.refl _) _ fun v H1 e1 r => by
    obtain ⟨o, rfl, ho⟩ := r
    exact ⟨o, _, rfl, SqT.of ho, rfl, _, _, rfl, _, _, rfl, _, _, rfl, rfl, k H1 e1⟩)
end

/-! ### bounds of what is reduced -/
theorem abs_div {x g : Int} (h : 0 < g) (hd : g ∣ x) : (x / g).natAbs ≤ x.natAbs := by
  obtain ⟨k, rfl⟩ := hd
  rw [Int.mul_ediv_cancel_left _ (by omega), Int.natAbs_mul]
  exact Nat.le_mul_of_pos_left _ (by omega)
theorem div_pos {x g : Int} (h : 0 < g) (hd : g ∣ x) (hx : 0 < x) : 0 < x / g := by
  obtain ⟨k, rfl⟩ := hd
  rw [Int.mul_ediv_cancel_left _ (by omega)]
  rcases Int.lt_or_le 0 k with h1 | h1
  · exact h1
  · have := Int.mul_le_mul_of_nonneg_left h1 (show 0 ≤ g by omega)
    omega
theorem B.le {n : Nat} {x y : Int} (h : B n x) (k : y.natAbs ≤ x.natAbs) : B n y := Nat.lt_of_le_of_lt k h
theorem abs_of_dvd {g x : Int} (h : g ∣ x) (hx : x ≠ 0) : g.natAbs ≤ x.natAbs := Nat.le_of_dvd (by omega) (Int.natAbs_dvd_natAbs.mpr h)
def F3ok (n : Nat) (p : Int × Int × Int) : Prop := 0 < p.2.2 ∧ B n p.1 ∧ B n p.2.1 ∧ B n p.2.2
theorem F3ok.up {n m : Nat} {p : Int × Int × Int} (h : F3ok n p) (k : n ≤ m) : F3ok m p := ⟨h.1, h.2.1.up k, h.2.2.1.up k, h.2.2.2.up k⟩
theorem F2ok.up {n m : Nat} {p : Int × Int} (h : F2ok n p) (k : n ≤ m) : F2ok m p := ⟨h.1, h.2.1.up k, h.2.2.up k⟩
def B2 (n : Nat) (u : Int × Int) : Prop := B n u.1 ∧ B n u.2
def B3 (n : Nat) (p : Int × Int × Int) : Prop := B n p.1 ∧ B n p.2.1 ∧ B n p.2.2
theorem B2.up {n m : Nat} {p : Int × Int} (h : B2 n p) (k : n ≤ m) : B2 m p := ⟨h.1.up k, h.2.up k⟩
theorem B3.up {n m : Nat} {p : Int × Int × Int} (h : B3 n p) (k : n ≤ m) : B3 m p := ⟨h.1.up k, h.2.1.up k, h.2.2.up k⟩
theorem F3ok.b {n : Nat} {p : Int × Int × Int} (h : F3ok n p) : B3 n p := h.2
theorem F2ok.b {n : Nat} {p : Int × Int} (h : F2ok n p) : B2 n p := h.2
theorem N3_b {n : Nat} {x y z : Int} (h : x ≠ 0 ∨ y ≠ 0 ∨ z ≠ 0) (hx : B n x) (hy : B n y) (hz : B n z) : B3 n (N3 x y z) :=
  ⟨hx.le (abs_div (g3_pos h) (g3_d1 _ _ _)), hy.le (abs_div (g3_pos h) (g3_d2 _ _ _)), hz.le (abs_div (g3_pos h) (g3_d3 _ _ _))⟩
theorem N2_b {n : Nat} {x y : Int} (h : x ≠ 0 ∨ y ≠ 0) (hx : B n x) (hy : B n y) : B2 n (N2 x y) := ⟨hx.le (abs_div (g2_pos h) (g2_dl _ _)), hy.le (abs_div (g2_pos h) (g2_dr _ _))⟩
theorem N3_ok {n : Nat} {x y z : Int} (h : 0 < z) (hx : B n x) (hy : B n y) (hz : B n z) : F3ok n (N3 x y z) :=
  ⟨div_pos (g3_pos (Or.inr (Or.inr (by omega)))) (g3_d3 _ _ _) h, N3_b (Or.inr (Or.inr (by omega))) hx hy hz⟩
theorem N2_ok {n : Nat} {x y : Int} (h : 0 < y) (hx : B n x) (hy : B n y) : F2ok n (N2 x y) := ⟨div_pos (g2_pos (Or.inr (by omega))) (g2_dr _ _) h, N2_b (Or.inr (by omega)) hx hy⟩
theorem B.zw {n : Nat} {x g : Int} (hn : n ≤ 9000) (h0 : 0 < n) (h : g ≠ 0) (hb : B n g) : CDivZ x g := ⟨h, Nat.lt_of_lt_of_le (PySem.Flt.log2_lt_of h0 hb) hn⟩

/-! ### place -/
def placeF (x y d : Int) : Int × Int × Int := if 0 < d then N3 x y d else N3 (-x) (-y) (-d)
theorem placeF_pos {x y d : Int} (h : 0 < d) : placeF x y d = N3 x y d := if_pos h
theorem g3_neg (x y d : Int) : g3 (-x) (-y) (-d) = g3 x y d := by
  unfold g3 g2
  rw [Int.natAbs_neg, Int.natAbs_neg, Int.natAbs_neg]
theorem fdiv_pos' {x g : Int} (h : 0 < g) : x.fdiv g = x / g := Int.fdiv_eq_ediv_of_nonneg x (by omega)
theorem fdiv_neg' {x g : Int} (h : 0 < g) : x.fdiv (-g) = (-x) / g := by
  have e : x.fdiv (-g) = (-x).fdiv g := by
    have q := Int.neg_fdiv_neg (-x) g
    rw [Int.neg_neg] at q
    exact q
  rw [e, fdiv_pos' h]
abbrev arI3 : Int × Int × Int → List Dt := fun a => [.i a.1, .i a.2.1, .i a.2.2]
section
variable {P : Program} {w : World} {K : PySem.W.Frag} {mg : Str → Option Value} {base : Heap}
abbrev sPlace : Stmt := topS 14
theorem scPlace : FnScope ["x", "y", "d", "divisor", "one"] ["x", "y", "d"] (defScope sPlace) := ⟨rfl, rfl, rfl, by decide +kernel, rfl, by decide +kernel, by decide +kernel⟩
abbrev spPlace : Sp := pSp arI3 (fun a => a.2.2 ≠ 0 ∧ B 9000 a.2.2) (fun a => t3 (placeF a.1 a.2.1 a.2.2))
theorem cal_place (G : Gb mg) (g : C8.Cal P w K mg base 1 "is_number" spIsNumber []) (D : Df K mg "place" sPlace) : C8.Cal P w K mg base 2 "place" spPlace [] := by
  refine cal_d (k := 1) D (fun _ _ _ _ _ _ us hl => match us, hl with | [_, _, _], _ => rfl) scPlace (fun _ => rfl) ?_
  rintro f cdv A outer s H E vs ⟨x, y, d⟩ D hr r ⟨hd, hb⟩ k
  obtain ⟨v1, v2, v3, rfl, r1, r2, r3⟩ := Rps.three (show Rps H vs [.i x, .i y, .i d] from r)
  have hd : d ≠ 0 := hd
  have hb : B 9000 d := hb
  refine sb_skip (Dq.to (v := (!([true, true, true].all id) || decide (d = 0))) (Dw.q (dw_or (dq_not (dq_val (dv_all rfl rfl G.all (dl_nums (xs := [x, y, d]) (j := 4) g hr rfl scPlace.nd rfl (by show 4 < 5; decide) (blkOk_by (N := ["x", "y", "d", "divisor", "one"]) (sc := defScope sPlace) (by decide +kernel)) (du_tup (da_cons (dv_var 0 rfl r1) (da_cons (dv_var 1 rfl r2) (da_cons (dv_var 2 rfl r3) da_nil))) (by show 3 ≤ 100; decide)) (by show 3 ≤ 100; decide)
        (fun _ _ _ _ _ => pg_name scPlace.nd rfl (Or.inl rfl)) (fun _ _ _ _ _ => ⟨Or.inl (by rfl), by rfl⟩))))) fun _ => dw_or1 (dq_eqI (dv_var 2 rfl r3) dv_int))) (by rw [decide_eq_false hd] <;> rfl)) fun H1 e1 => ?_
  replace r1 := r1.up e1
  replace r2 := r2.up e1
  replace r3 := r3.up e1
  have hg : 0 < g3 x y d := g3_pos (Or.inr (Or.inr hd))
  have hgb : B 9000 (g3 x y d) := hb.le (abs_of_dvd (g3_d3 x y d) hd)
  refine sb_set 3 scPlace.nd (d := .i (if 0 < d then g3 x y d else -g3 x y d)) (dv_if (dq_gt (dv_var 2 rfl r3) dv_int) (fun hv => ?_) (fun hv => ?_)) fun v4 H2 e2 r4 => ?_
  · rw [if_pos (of_decide_eq_true hv)]
    exact dv_gcd3 rfl G.gcd (dv_var 0 rfl r1) (dv_var 1 rfl r2) (dv_var 2 rfl r3)
  · rw [if_neg (of_decide_eq_false hv)]
    exact dv_neg (dv_gcd3 rfl G.gcd (dv_var 0 rfl r1) (dv_var 1 rfl r2) (dv_var 2 rfl r3))
  replace r1 := r1.up e2
  replace r2 := r2.up e2
  replace r3 := r3.up e2
  by_cases h0 : 0 < d
  · rw [if_pos h0] at r4
    have cz : ∀ z, CDivZ z (g3 x y d) := fun z => hgb.zw (by decide) (by decide) (by omega)
    refine sb_ret (Dv.to (dv_t3 (dv_fdivZ (dv_var 0 rfl r1) (dv_var 3 rfl r4) (cz _)) (dv_fdivZ (dv_var 1 rfl r2) (dv_var 3 rfl r4) (cz _)) (dv_fdivZ (dv_var 2 rfl r3) (dv_var 3 rfl r4) (cz _))) ?_) fun v H3 e3 r => k v H3 ((e1.trans e2).trans e3) r
    rw [fdiv_pos' hg, fdiv_pos' hg, fdiv_pos' hg]
    show t3 _ = t3 (placeF x y d)
    rw [placeF_pos h0] <;> rfl
  · rw [if_neg h0] at r4
    have cz : ∀ z, CDivZ z (-g3 x y d) := fun z => hgb.neg.zw (by decide) (by decide) (by omega)
    refine sb_ret (Dv.to (dv_t3 (dv_fdivZ (dv_var 0 rfl r1) (dv_var 3 rfl r4) (cz _)) (dv_fdivZ (dv_var 1 rfl r2) (dv_var 3 rfl r4) (cz _)) (dv_fdivZ (dv_var 2 rfl r3) (dv_var 3 rfl r4) (cz _))) ?_) fun v H3 e3 r => k v H3 ((e1.trans e2).trans e3) r
    rw [fdiv_neg' hg, fdiv_neg' hg, fdiv_neg' hg]
    show t3 _ = t3 (placeF x y d)
    unfold placeF
    rw [if_neg h0]
    unfold N3
    rw [g3_neg]

abbrev sIsPlace : Stmt := topS 15
theorem scIsPlace : FnScope ["value"] ["value"] (defScope sIsPlace) := ⟨rfl, rfl, rfl, by decide +kernel, rfl, by decide +kernel, by decide +kernel⟩
abbrev spIsPlace : Sp := pSp (fun p : Int × Int × Int => [t3 p]) (fun _ => True) (fun p => .b (true && (decide (0 < p.2.2) && decide (g3 p.1 p.2.1 p.2.2 = 1))))
theorem cal_is_place (G : Gb mg) (g : C8.Cal P w K mg base 2 "is_row_of_numbers" spIsRow []) (D : Df K mg "is_place" sIsPlace) : C8.Cal P w K mg base 3 "is_place" spIsPlace [] := by
  refine cal_d (k := 2) D (fun _ _ _ _ _ _ us hl => match us, hl with | [_], _ => rfl) scIsPlace (fun _ => rfl) ?_
  intro f cdv A outer s H E vs p D hr r hp k
  obtain ⟨v1, rfl, r1⟩ := Rps.one (show Rps H vs [t3 p] from r)
  refine sb_ret ?_ k
  exact dv_and (dv_call ([p.1, p.2.1, p.2.2], 3) g hr (by decide) (by rfl) (da_cons (dv_var 0 rfl r1) (da_cons dv_int da_nil)) ⟨rfl, by show 3 ≤ 3; decide⟩) fun _ =>
    dv_and (dv_gt (dv_32 (dv_var 0 rfl r1)) dv_int) fun _ => dv_one (dv_eqI (dv_gcd3 rfl G.gcd (dv_30 (dv_var 0 rfl r1)) (dv_31 (dv_var 0 rfl r1)) (dv_32 (dv_var 0 rfl r1))) dv_int)

/-! ### moved, apart, scaled, turn -/
abbrev ar33 : (Int × Int × Int) × (Int × Int × Int) → List Dt := fun a => [t3 a.1, t3 a.2]
def movedF (p q : Int × Int × Int) : Int × Int × Int := N3 (p.1 * q.2.2 + q.1 * p.2.2) (p.2.1 * q.2.2 + q.2.1 * p.2.2) (p.2.2 * q.2.2)
def apartF (p q : Int × Int × Int) : Int × Int × Int := N3 (p.1 * q.2.2 - q.1 * p.2.2) (p.2.1 * q.2.2 - q.2.1 * p.2.2) (p.2.2 * q.2.2)
def scaledF (p : Int × Int × Int) (m n : Int) : Int × Int × Int := N3 (p.1 * m) (p.2.1 * m) (p.2.2 * n)
abbrev sMoved : Stmt := topS 16
theorem scMoved : FnScope ["p", "q"] ["p", "q"] (defScope sMoved) := ⟨rfl, rfl, rfl, by decide +kernel, rfl, by decide +kernel, by decide +kernel⟩
abbrev spMoved : Sp := pSp ar33 (fun a => F3ok 1000 a.1 ∧ F3ok 1000 a.2) (fun a => t3 (movedF a.1 a.2))
theorem cal_moved (g : C8.Cal P w K mg base 2 "place" spPlace []) (D : Df K mg "moved" sMoved) : C8.Cal P w K mg base 3 "moved" spMoved [] := by
  refine cal_d (k := 2) D (fun _ _ _ _ _ _ us hl => match us, hl with | [_, _], _ => rfl) scMoved (fun _ => rfl) ?_
  rintro f cdv A outer s H E vs ⟨p, q⟩ D hr r ⟨⟨hp, b1, b2, b3⟩, hq, b4, b5, b6⟩ k
  obtain ⟨v1, v2, rfl, r1, r2⟩ := Rps.two (show Rps H vs [t3 p, t3 q] from r)
  have h0 : 0 < p.2.2 * q.2.2 := Int.mul_pos hp hq
  refine sb_ret (Dv.to (dv_call (_, _, _) g hr (by decide) rfl (da_cons (dv_add (dv_mul (dv_30 (dv_var 0 rfl r1)) (dv_32 (dv_var 1 rfl r2)) (mw (by assumption) (by assumption))) (dv_mul (dv_30 (dv_var 1 rfl r2)) (dv_32 (dv_var 0 rfl r1)) (mw (by assumption) (by assumption)))) (da_cons (dv_add (dv_mul (dv_31 (dv_var 0 rfl r1)) (dv_32 (dv_var 1 rfl r2)) (mw (by assumption) (by assumption))) (dv_mul (dv_31 (dv_var 1 rfl r2)) (dv_32 (dv_var 0 rfl r1)) (mw (by assumption) (by assumption)))) (da_cons (dv_mul (dv_32 (dv_var 0 rfl r1)) (dv_32 (dv_var 1 rfl r2)) (mw (by assumption) (by assumption))) da_nil))) ⟨?_, ?_⟩) ?_) k
  · exact Int.ne_of_gt h0
  · exact (b3.mul b6).up (by decide)
  · exact congrArg t3 (placeF_pos h0)
abbrev sApart : Stmt := topS 17
theorem scApart : FnScope ["p", "q"] ["p", "q"] (defScope sApart) := ⟨rfl, rfl, rfl, by decide +kernel, rfl, by decide +kernel, by decide +kernel⟩
abbrev spApart : Sp := pSp ar33 (fun a => F3ok 1000 a.1 ∧ F3ok 1000 a.2) (fun a => t3 (apartF a.1 a.2))
theorem cal_apart (g : C8.Cal P w K mg base 2 "place" spPlace []) (D : Df K mg "apart" sApart) : C8.Cal P w K mg base 3 "apart" spApart [] := by
  refine cal_d (k := 2) D (fun _ _ _ _ _ _ us hl => match us, hl with | [_, _], _ => rfl) scApart (fun _ => rfl) ?_
  rintro f cdv A outer s H E vs ⟨p, q⟩ D hr r ⟨⟨hp, b1, b2, b3⟩, hq, b4, b5, b6⟩ k
  obtain ⟨v1, v2, rfl, r1, r2⟩ := Rps.two (show Rps H vs [t3 p, t3 q] from r)
  have h0 : 0 < p.2.2 * q.2.2 := Int.mul_pos hp hq
  refine sb_ret (Dv.to (dv_call (_, _, _) g hr (by decide) rfl (da_cons (dv_sub (dv_mul (dv_30 (dv_var 0 rfl r1)) (dv_32 (dv_var 1 rfl r2)) (mw (by assumption) (by assumption))) (dv_mul (dv_30 (dv_var 1 rfl r2)) (dv_32 (dv_var 0 rfl r1)) (mw (by assumption) (by assumption)))) (da_cons (dv_sub (dv_mul (dv_31 (dv_var 0 rfl r1)) (dv_32 (dv_var 1 rfl r2)) (mw (by assumption) (by assumption))) (dv_mul (dv_31 (dv_var 1 rfl r2)) (dv_32 (dv_var 0 rfl r1)) (mw (by assumption) (by assumption)))) (da_cons (dv_mul (dv_32 (dv_var 0 rfl r1)) (dv_32 (dv_var 1 rfl r2)) (mw (by assumption) (by assumption))) da_nil))) ⟨?_, ?_⟩) ?_) k
  · exact Int.ne_of_gt h0
  · exact (b3.mul b6).up (by decide)
  · exact congrArg t3 (placeF_pos h0)
abbrev sScaled : Stmt := topS 18
theorem scScaled : FnScope ["p", "m", "n"] ["p", "m", "n"] (defScope sScaled) := ⟨rfl, rfl, rfl, by decide +kernel, rfl, by decide +kernel, by decide +kernel⟩
abbrev spScaled : Sp := pSp (fun a : (Int × Int × Int) × Int × Int => [t3 a.1, .i a.2.1, .i a.2.2]) (fun a => F3ok 1000 a.1 ∧ B 1000 a.2.1 ∧ B 1000 a.2.2 ∧ 0 < a.2.2) (fun a => t3 (scaledF a.1 a.2.1 a.2.2))
theorem cal_scaled (g : C8.Cal P w K mg base 2 "place" spPlace []) (D : Df K mg "scaled" sScaled) : C8.Cal P w K mg base 3 "scaled" spScaled [] := by
  refine cal_d (k := 2) D (fun _ _ _ _ _ _ us hl => match us, hl with | [_, _, _], _ => rfl) scScaled (fun _ => rfl) ?_
  rintro f cdv A outer s H E vs ⟨p, m, n⟩ D hr r ⟨⟨hp, b1, b2, b3⟩, b4, b5, hn⟩ k
  obtain ⟨v1, v2, v3, rfl, r1, r2, r3⟩ := Rps.three (show Rps H vs [t3 p, .i m, .i n] from r)
  have h0 : 0 < p.2.2 * n := Int.mul_pos hp hn
  refine sb_ret (Dv.to (dv_call (_, _, _) g hr (by decide) rfl (da_cons (dv_mul (dv_30 (dv_var 0 rfl r1)) (dv_var 1 rfl r2) (mw (by assumption) (by assumption))) (da_cons (dv_mul (dv_31 (dv_var 0 rfl r1)) (dv_var 1 rfl r2) (mw (by assumption) (by assumption))) (da_cons (dv_mul (dv_32 (dv_var 0 rfl r1)) (dv_var 2 rfl r3) (mw (by assumption) (by assumption))) da_nil))) ⟨?_, ?_⟩) ?_) k
  · exact Int.ne_of_gt h0
  · exact (b3.mul b5).up (by decide)
  · exact congrArg t3 (placeF_pos h0)
theorem apart_ok {n m : Nat} {p q : Int × Int × Int} (hp : F3ok n p) (hq : F3ok m q) : F3ok (n + m + 1) (apartF p q) := by
  obtain ⟨hp, b1, b2, b3⟩ := hp
  obtain ⟨hq, b4, b5, b6⟩ := hq
  have e : m + n = n + m := Nat.add_comm m n
  exact N3_ok (Int.mul_pos hp hq) ((b1.mul b6).sub (e ▸ b4.mul b3)) ((b2.mul b6).sub (e ▸ b5.mul b3)) ((b3.mul b6).up (by omega))
theorem moved_ok {n m : Nat} {p q : Int × Int × Int} (hp : F3ok n p) (hq : F3ok m q) : F3ok (n + m + 1) (movedF p q) := by
  obtain ⟨hp, b1, b2, b3⟩ := hp
  obtain ⟨hq, b4, b5, b6⟩ := hq
  have e : m + n = n + m := Nat.add_comm m n
  exact N3_ok (Int.mul_pos hp hq) ((b1.mul b6).add (e ▸ b4.mul b3)) ((b2.mul b6).add (e ▸ b5.mul b3)) ((b3.mul b6).up (by omega))
theorem scaled_ok {n m : Nat} {p : Int × Int × Int} {a b : Int} (hp : F3ok n p) (ha : B m a) (hb : B m b) (h0 : 0 < b) : F3ok (n + m) (scaledF p a b) := by
  obtain ⟨hp, b1, b2, b3⟩ := hp
  exact N3_ok (Int.mul_pos hp h0) (b1.mul ha) (b2.mul ha) (b3.mul hb)
def crossF (a b : Int × Int × Int) : Int := a.1 * b.2.1 - a.2.1 * b.1
def turnF (p q r : Int × Int × Int) : Int := b2i (decide (0 < crossF (apartF q p) (apartF r p))) - b2i (decide (crossF (apartF q p) (apartF r p) < 0))
abbrev ar333 : (Int × Int × Int) × (Int × Int × Int) × (Int × Int × Int) → List Dt := fun a => [t3 a.1, t3 a.2.1, t3 a.2.2]
abbrev sTurn : Stmt := topS 19
theorem scTurn : FnScope ["p", "q", "r", "one", "other", "found"] ["p", "q", "r"] (defScope sTurn) := ⟨rfl, rfl, rfl, by decide +kernel, rfl, by decide +kernel, by decide +kernel⟩
abbrev spTurn : Sp := pSp ar333 (fun a => F3ok 400 a.1 ∧ F3ok 400 a.2.1 ∧ F3ok 400 a.2.2) (fun a => .i (turnF a.1 a.2.1 a.2.2))
theorem cal_turn (g : C8.Cal P w K mg base 3 "apart" spApart []) (D : Df K mg "turn" sTurn) : C8.Cal P w K mg base 4 "turn" spTurn [] := by
  refine cal_d (k := 3) D (fun _ _ _ _ _ _ us hl => match us, hl with | [_, _, _], _ => rfl) scTurn (fun _ => rfl) ?_
  rintro f cdv A outer s H E vs ⟨p, q, r⟩ D hr rr ⟨hp, hq, hr'⟩ k
  obtain ⟨v1, v2, v3, rfl, r1, r2, r3⟩ := Rps.three (show Rps H vs [t3 p, t3 q, t3 r] from rr)
  refine sb_par 3 4 rfl scTurn.nd (da_cons (dv_call (q, p) g hr (by decide) rfl (da_cons (dv_var 1 rfl r2) (da_cons (dv_var 0 rfl r1) da_nil)) ⟨hq.up (by decide), hp.up (by decide)⟩) (da_cons (dv_call (r, p) g hr (by decide) rfl (da_cons (dv_var 2 rfl r3) (da_cons (dv_var 0 rfl r1) da_nil)) ⟨hr'.up (by decide), hp.up (by decide)⟩) da_nil)) fun v4 v5 H1 e1 r4 r5 => ?_
  obtain ⟨_, c1, c2, c3⟩ := (apart_ok hq hp).up (show _ ≤ 1000 by decide)
  obtain ⟨_, c4, c5, c6⟩ := (apart_ok hr' hp).up (show _ ≤ 1000 by decide)
  refine sb_set 5 scTurn.nd (d := .i (crossF (apartF q p) (apartF r p))) (dv_sub (dv_mul (dv_30 (dv_var 3 rfl r4)) (dv_31 (dv_var 4 rfl r5)) (mw (by assumption) (by assumption))) (dv_mul (dv_31 (dv_var 3 rfl r4)) (dv_30 (dv_var 4 rfl r5)) (mw (by assumption) (by assumption)))) fun v6 H2 e2 r6 => ?_
  exact sb_ret (dv_subB (dv_gt (dv_var 5 rfl r6) dv_int) (dv_lt (dv_var 5 rfl r6) dv_int)) fun v H3 e3 r => k v H3 ((e1.trans e2).trans e3) r

/-! ### direction, back, quarter, towards -/
abbrev sDirection : Stmt := topS 21
theorem scDirection : FnScope ["a", "b", "divisor"] ["a", "b"] (defScope sDirection) := ⟨rfl, rfl, rfl, by decide +kernel, rfl, by decide +kernel, by decide +kernel⟩
abbrev spDirection : Sp := pSp (fun a : Int × Int => [.i a.1, .i a.2]) (fun a => (a.1 ≠ 0 ∨ a.2 ≠ 0) ∧ B 9000 a.1 ∧ B 9000 a.2) (fun a => t2 (N2 a.1 a.2))
theorem g2W {a b x : Int} (h : a ≠ 0 ∨ b ≠ 0) (ha : B 9000 a) (hb : B 9000 b) : CDivW x (g2 a b) := by
  refine wide_div (b := 9000) (g2_pos h) ?_ (by decide) (by decide)
  rcases h with h | h
  · exact ha.le (abs_of_dvd (g2_dl a b) h)
  · exact hb.le (abs_of_dvd (g2_dr a b) h)
theorem cal_direction (G : Gb mg) (g : C8.Cal P w K mg base 1 "is_number" spIsNumber []) (D : Df K mg "direction" sDirection) : C8.Cal P w K mg base 2 "direction" spDirection [] := by
  refine cal_d (k := 1) D (fun _ _ _ _ _ _ us hl => match us, hl with | [_, _], _ => rfl) scDirection (fun _ => rfl) ?_
  rintro f cdv A outer s H E vs ⟨a, b⟩ D hr r ⟨h0, b1, b2⟩ k
  obtain ⟨v1, v2, rfl, r1, r2⟩ := Rps.two (show Rps H vs [.i a, .i b] from r)
  have h0 : a ≠ 0 ∨ b ≠ 0 := h0
  refine sb_skip (Dq.to (v := (!true || (!true || decide (a = b ∧ b = 0)))) (Dw.q (dw_or (dq_not (dq_val (dv_call a g hr (by decide) (by rfl) (da_cons (dv_var 0 rfl r1) da_nil) trivial))) fun _ => dw_or (dq_not (dq_val (dv_call b g hr (by decide) (by rfl) (da_cons (dv_var 1 rfl r2) da_nil) trivial))) fun _ => dw_or1 (dq_chain (dv_var 0 rfl r1) (dv_var 1 rfl r2) dv_int)))
    (by rw [decide_eq_false (show ¬ (a = b ∧ b = 0) by omega)] <;> rfl)) fun H1 e1 => ?_
  replace r1 := r1.up e1
  replace r2 := r2.up e1
  refine sb_set 2 scDirection.nd (dv_gcd2 rfl G.gcd (dv_var 0 rfl r1) (dv_var 1 rfl r2)) fun v3 H2 e2 r3 => ?_
  replace r1 := r1.up e2
  replace r2 := r2.up e2
  exact sb_ret (dv_t2 (dv_fdiv (dv_var 0 rfl r1) (dv_var 2 rfl r3) (g2W h0 b1 b2)) (dv_fdiv (dv_var 1 rfl r2) (dv_var 2 rfl r3) (g2W h0 b1 b2))) fun v H3 e3 r => k v H3 ((e1.trans e2).trans e3) r
abbrev sBack : Stmt := topS 22
theorem scU (st : Stmt) (h : FnScope ["u"] ["u"] (defScope st)) : FnScope ["u"] ["u"] (defScope st) := h
theorem scBack : FnScope ["u"] ["u"] (defScope sBack) := ⟨rfl, rfl, rfl, by decide +kernel, rfl, by decide +kernel, by decide +kernel⟩
abbrev spBack : Sp := pSp (fun u : Int × Int => [t2 u]) (fun _ => True) (fun u => t2 (-u.1, -u.2))
theorem cal_back (D : Df K mg "back" sBack) : C8.Cal P w K mg base 1 "back" spBack [] := by
  refine cal_d D (fun _ _ _ _ _ _ us hl => match us, hl with | [_], _ => rfl) scBack (fun _ => rfl) ?_
  intro f cdv A outer s H E vs u D hr r _ k
  obtain ⟨v1, rfl, r1⟩ := Rps.one (show Rps H vs [t2 u] from r)
  exact sb_ret (dv_t2 (dv_neg (dv_20 (dv_var 0 rfl r1))) (dv_neg (dv_21 (dv_var 0 rfl r1)))) k
abbrev sQuarter : Stmt := topS 23
theorem scQuarter : FnScope ["u"] ["u"] (defScope sQuarter) := ⟨rfl, rfl, rfl, by decide +kernel, rfl, by decide +kernel, by decide +kernel⟩
abbrev spQuarter : Sp := pSp (fun u : Int × Int => [t2 u]) (fun _ => True) (fun u => t2 (-u.2, u.1))
theorem cal_quarter (D : Df K mg "quarter" sQuarter) : C8.Cal P w K mg base 1 "quarter" spQuarter [] := by
  refine cal_d D (fun _ _ _ _ _ _ us hl => match us, hl with | [_], _ => rfl) scQuarter (fun _ => rfl) ?_
  intro f cdv A outer s H E vs u D hr r _ k
  obtain ⟨v1, rfl, r1⟩ := Rps.one (show Rps H vs [t2 u] from r)
  exact sb_ret (dv_t2 (dv_neg (dv_21 (dv_var 0 rfl r1))) (dv_20 (dv_var 0 rfl r1))) k
def towardsF (p q : Int × Int × Int) : Int × Int := N2 (apartF q p).1 (apartF q p).2.1
abbrev sTowards : Stmt := topS 24
theorem scTowards : FnScope ["p", "q", "way"] ["p", "q"] (defScope sTowards) := ⟨rfl, rfl, rfl, by decide +kernel, rfl, by decide +kernel, by decide +kernel⟩
abbrev spTowards : Sp := pSp ar33 (fun a => F3ok 1000 a.1 ∧ F3ok 1000 a.2 ∧ ((apartF a.2 a.1).1 ≠ 0 ∨ (apartF a.2 a.1).2.1 ≠ 0)) (fun a => t2 (towardsF a.1 a.2))
theorem cal_towards (g : C8.Cal P w K mg base 3 "apart" spApart []) (g2 : C8.Cal P w K mg base 2 "direction" spDirection []) (D : Df K mg "towards" sTowards) : C8.Cal P w K mg base 4 "towards" spTowards [] := by
  refine cal_d (k := 3) D (fun _ _ _ _ _ _ us hl => match us, hl with | [_, _], _ => rfl) scTowards (fun _ => rfl) ?_
  rintro f cdv A outer s H E vs ⟨p, q⟩ D hr r ⟨hp, hq, hn⟩ k
  obtain ⟨v1, v2, rfl, r1, r2⟩ := Rps.two (show Rps H vs [t3 p, t3 q] from r)
  refine sb_set 2 scTowards.nd (dv_call (q, p) g hr (by decide) rfl (da_cons (dv_var 1 rfl r2) (da_cons (dv_var 0 rfl r1) da_nil)) ⟨hq, hp⟩) fun v3 H1 e1 r3 => ?_
  obtain ⟨_, c1, c2, _⟩ := (apart_ok hq hp).up (show _ ≤ 9000 by decide)
  exact sb_ret (dv_call (_, _) g2 hr (by decide) rfl (da_cons (dv_30 (dv_var 2 rfl r3)) (da_cons (dv_31 (dv_var 2 rfl r3)) da_nil)) ⟨hn, c1, c2⟩) fun v H2 e2 r => k v H2 (e1.trans e2) r
end
end K8
/-! The defs: half planes, heights. -/
namespace K8
open PySem PySem.Spec PyProof.Rows L2
open Evl (Ex Ex.refl Ex.trans Ex.new fresh_back)

section
variable {P : Program} {w : World} {K : PySem.W.Frag} {mg : Str → Option Value} {base : Heap}
abbrev sHalf : Stmt := topS 26
theorem scHalf : FnScope ["a", "b", "c", "divisor", "one"] ["a", "b", "c"] (defScope sHalf) := ⟨rfl, rfl, rfl, by decide +kernel, rfl, by decide +kernel, by decide +kernel⟩
abbrev spHalf : Sp := pSp arI3 (fun a => (a.1 ≠ 0 ∨ a.2.1 ≠ 0) ∧ B 9000 a.1 ∧ B 9000 a.2.1) (fun a => t3 (N3 a.1 a.2.1 a.2.2))
theorem g3W {a b c x : Int} (h : a ≠ 0 ∨ b ≠ 0) (ha : B 9000 a) (hb : B 9000 b) : CDivW x (g3 a b c) := by
  refine wide_div (b := 9000) (g3_pos (by omega)) ?_ (by decide) (by decide)
  rcases h with h | h
  · exact ha.le (abs_of_dvd (g3_d1 a b c) h)
  · exact hb.le (abs_of_dvd (g3_d2 a b c) h)
theorem cal_half (G : Gb mg) (g : C8.Cal P w K mg base 1 "is_number" spIsNumber []) (D : Df K mg "half" sHalf) : C8.Cal P w K mg base 2 "half" spHalf [] := by
  refine cal_d (k := 1) D (fun _ _ _ _ _ _ us hl => match us, hl with | [_, _, _], _ => rfl) scHalf (fun _ => rfl) ?_
  rintro f cdv A outer s H E vs ⟨a, b, c⟩ D hr r ⟨h0, b1, b2⟩ k
  obtain ⟨v1, v2, v3, rfl, r1, r2, r3⟩ := Rps.three (show Rps H vs [.i a, .i b, .i c] from r)
  have h0 : a ≠ 0 ∨ b ≠ 0 := h0
  have b1 : B 9000 a := b1
  have b2 : B 9000 b := b2
  refine sb_skip (Dq.to (v := (!([true, true, true].all id) || decide (a = b ∧ b = 0))) (Dw.q (dw_or (dq_not (dq_val (dv_all rfl rfl G.all (dl_nums (xs := [a, b, c]) (j := 4) g hr rfl scHalf.nd rfl (by show 4 < 5; decide) (blkOk_by (N := ["a", "b", "c", "divisor", "one"]) (sc := defScope sHalf) (by decide +kernel)) (du_tup (da_cons (dv_var 0 rfl r1) (da_cons (dv_var 1 rfl r2) (da_cons (dv_var 2 rfl r3) da_nil))) (by show 3 ≤ 100; decide)) (by show 3 ≤ 100; decide)
        (fun _ _ _ _ _ => pg_name scHalf.nd rfl (Or.inl rfl)) (fun _ _ _ _ _ => ⟨Or.inl (by rfl), by rfl⟩))))) fun _ => dw_or1 (dq_chain (dv_var 0 rfl r1) (dv_var 1 rfl r2) dv_int))) (by rw [decide_eq_false (show ¬ (a = b ∧ b = 0) by omega)] <;> rfl)) fun H1 e1 => ?_
  replace r1 := r1.up e1
  replace r2 := r2.up e1
  replace r3 := r3.up e1
  refine sb_set 3 scHalf.nd (dv_gcd3 rfl G.gcd (dv_var 0 rfl r1) (dv_var 1 rfl r2) (dv_var 2 rfl r3)) fun v4 H2 e2 r4 => ?_
  replace r1 := r1.up e2
  replace r2 := r2.up e2
  replace r3 := r3.up e2
  exact sb_ret (dv_t3 (dv_fdiv (dv_var 0 rfl r1) (dv_var 3 rfl r4) (g3W h0 b1 b2)) (dv_fdiv (dv_var 1 rfl r2) (dv_var 3 rfl r4) (g3W h0 b1 b2)) (dv_fdiv (dv_var 2 rfl r3) (dv_var 3 rfl r4) (g3W h0 b1 b2))) fun v H3 e3 r => k v H3 ((e1.trans e2).trans e3) r

abbrev sIsHalf : Stmt := topS 27
theorem scIsHalf : FnScope ["value"] ["value"] (defScope sIsHalf) := ⟨rfl, rfl, rfl, by decide +kernel, rfl, by decide +kernel, by decide +kernel⟩
def isHalfF (p : Int × Int × Int) : Bool := true && (!decide ([p.1, p.2.1] = [0, 0]) && decide (g3 p.1 p.2.1 p.2.2 = 1))
abbrev spIsHalf : Sp := pSp (fun p : Int × Int × Int => [t3 p]) (fun _ => True) (fun p => .b (isHalfF p))
theorem cal_is_half (G : Gb mg) (g : C8.Cal P w K mg base 2 "is_row_of_numbers" spIsRow []) (D : Df K mg "is_half" sIsHalf) : C8.Cal P w K mg base 3 "is_half" spIsHalf [] := by
  refine cal_d (k := 2) D (fun _ _ _ _ _ _ us hl => match us, hl with | [_], _ => rfl) scIsHalf (fun _ => rfl) ?_
  intro f cdv A outer s H E vs p D hr r hp k
  obtain ⟨v1, rfl, r1⟩ := Rps.one (show Rps H vs [t3 p] from r)
  refine sb_ret ?_ k
  exact dv_and (dv_call ([p.1, p.2.1, p.2.2], 3) g hr (by decide) (by rfl) (da_cons (dv_var 0 rfl r1) (da_cons dv_int da_nil)) ⟨rfl, by show 3 ≤ 3; decide⟩) fun _ =>
    dv_and (dv_neT hr.units (dv_cut2 (dv_var 0 rfl r1)) (dv_tup (xs := [0, 0]) (da_cons dv_int (da_cons dv_int da_nil)) (by decide))) fun _ => dv_one (dv_eqI (dv_gcd3 rfl G.gcd (dv_30 (dv_var 0 rfl r1)) (dv_31 (dv_var 0 rfl r1)) (dv_32 (dv_var 0 rfl r1))) dv_int)

def depthF (h p : Int × Int × Int) : Int := h.1 * p.1 + h.2.1 * p.2.1 - h.2.2 * p.2.2
abbrev sDepth : Stmt := topS 28
theorem scDepth : FnScope ["half_plane", "p", "a", "b", "c"] ["half_plane", "p"] (defScope sDepth) := ⟨rfl, rfl, rfl, by decide +kernel, rfl, by decide +kernel, by decide +kernel⟩
abbrev spDepth : Sp := pSp ar33 (fun a => B3 1000 a.1 ∧ B3 1000 a.2) (fun a => .i (depthF a.1 a.2))
theorem cal_depth (D : Df K mg "depth" sDepth) : C8.Cal P w K mg base 1 "depth" spDepth [] := by
  refine cal_d D (fun _ _ _ _ _ _ us hl => match us, hl with | [_, _], _ => rfl) scDepth (fun _ => rfl) ?_
  rintro f cdv A outer s H E vs ⟨h, p⟩ D hr r ⟨⟨b1, b2, b3⟩, b4, b5, b6⟩ k
  obtain ⟨v1, v2, rfl, r1, r2⟩ := Rps.two (show Rps H vs [t3 h, t3 p] from r)
  refine sb_unp3 (u := h) 2 3 4 rfl scDepth.nd (dv_var 0 rfl r1) (fun H1 e1 => ?_) (pg_tup rfl (pgs_cons (pg_name (i := 2) scDepth.nd rfl (.inl rfl)) (pgs_cons (pg_name (i := 3) scDepth.nd rfl (.inl rfl)) (pgs_cons (pg_name (i := 4) scDepth.nd rfl (.inl rfl)) pgs_nil))))
  replace r2 := r2.up e1
  refine sb_ret (d := .i (depthF h p)) ?_ fun v H2 e2 r => k v H2 (e1.trans e2) r
  have d1 : ∀ {pos}, Dv (Bx P w K mg base ["half_plane", "p", "a", "b", "c"] "depth" sDepth f cdv A outer s H E) (((L2.start ["half_plane", "p", "a", "b", "c"] [v1, v2]).set 2 (some (.int h.1))).set 3 (some (.int h.2.1)) |>.set 4 (some (.int h.2.2))) H1 (.Name "a" pos) (.i h.1) := dv_var 2 rfl rfl
  have d2 : ∀ {pos}, Dv (Bx P w K mg base ["half_plane", "p", "a", "b", "c"] "depth" sDepth f cdv A outer s H E) (((L2.start ["half_plane", "p", "a", "b", "c"] [v1, v2]).set 2 (some (.int h.1))).set 3 (some (.int h.2.1)) |>.set 4 (some (.int h.2.2))) H1 (.Name "b" pos) (.i h.2.1) := dv_var 3 rfl rfl
  have d3 : ∀ {pos}, Dv (Bx P w K mg base ["half_plane", "p", "a", "b", "c"] "depth" sDepth f cdv A outer s H E) (((L2.start ["half_plane", "p", "a", "b", "c"] [v1, v2]).set 2 (some (.int h.1))).set 3 (some (.int h.2.1)) |>.set 4 (some (.int h.2.2))) H1 (.Name "c" pos) (.i h.2.2) := dv_var 4 rfl rfl
  exact dv_sub (dv_add (dv_mul d1 (dv_30 (dv_var 1 rfl r2)) (mw b1 b4)) (dv_mul d2 (dv_31 (dv_var 1 rfl r2)) (mw b2 b5))) (dv_mul d3 (dv_32 (dv_var 1 rfl r2)) (mw b3 b6))
abbrev sHas : Stmt := topS 29
theorem scHas : FnScope ["half_plane", "p"] ["half_plane", "p"] (defScope sHas) := ⟨rfl, rfl, rfl, by decide +kernel, rfl, by decide +kernel, by decide +kernel⟩
abbrev spHas : Sp := pSp ar33 (fun a => B3 1000 a.1 ∧ B3 1000 a.2) (fun a => .b (decide (0 ≤ depthF a.1 a.2)))
theorem cal_has (g : C8.Cal P w K mg base 1 "depth" spDepth []) (D : Df K mg "has" sHas) : C8.Cal P w K mg base 2 "has" spHas [] := by
  refine cal_d (k := 1) D (fun _ _ _ _ _ _ us hl => match us, hl with | [_, _], _ => rfl) scHas (fun _ => rfl) ?_
  rintro f cdv A outer s H E vs ⟨h, p⟩ D hr r hb k
  obtain ⟨v1, v2, rfl, r1, r2⟩ := Rps.two (show Rps H vs [t3 h, t3 p] from r)
  exact sb_ret (dv_ge (dv_call (h, p) g hr (by decide) (by rfl) (da_cons (dv_var 0 rfl r1) (da_cons (dv_var 1 rfl r2) da_nil)) hb) dv_int) k
abbrev sOnLine : Stmt := topS 30
theorem scOnLine : FnScope ["half_plane", "p"] ["half_plane", "p"] (defScope sOnLine) := ⟨rfl, rfl, rfl, by decide +kernel, rfl, by decide +kernel, by decide +kernel⟩
abbrev spOnLine : Sp := pSp ar33 (fun a => B3 1000 a.1 ∧ B3 1000 a.2) (fun a => .b (decide (depthF a.1 a.2 = 0)))
theorem cal_on_line (g : C8.Cal P w K mg base 1 "depth" spDepth []) (D : Df K mg "on_line" sOnLine) : C8.Cal P w K mg base 2 "on_line" spOnLine [] := by
  refine cal_d (k := 1) D (fun _ _ _ _ _ _ us hl => match us, hl with | [_, _], _ => rfl) scOnLine (fun _ => rfl) ?_
  rintro f cdv A outer s H E vs ⟨h, p⟩ D hr r hb k
  obtain ⟨v1, v2, rfl, r1, r2⟩ := Rps.two (show Rps H vs [t3 h, t3 p] from r)
  exact sb_ret (dv_eqI (dv_call (h, p) g hr (by decide) (by rfl) (da_cons (dv_var 0 rfl r1) (da_cons (dv_var 1 rfl r2) da_nil)) hb) dv_int) k
def facingF (h : Int × Int × Int) : Int × Int × Int := (-h.1, -h.2.1, -h.2.2)
abbrev sFacing : Stmt := topS 31
theorem scFacing : FnScope ["half_plane", "a", "b", "c"] ["half_plane"] (defScope sFacing) := ⟨rfl, rfl, rfl, by decide +kernel, rfl, by decide +kernel, by decide +kernel⟩
abbrev spFacing : Sp := pSp (fun h : Int × Int × Int => [t3 h]) (fun _ => True) (fun h => t3 (facingF h))
theorem cal_facing (D : Df K mg "facing" sFacing) : C8.Cal P w K mg base 1 "facing" spFacing [] := by
  refine cal_d D (fun _ _ _ _ _ _ us hl => match us, hl with | [_], _ => rfl) scFacing (fun _ => rfl) ?_
  intro f cdv A outer s H E vs h D hr r _ k
  obtain ⟨v1, rfl, r1⟩ := Rps.one (show Rps H vs [t3 h] from r)
  refine sb_unp3 (u := h) 1 2 3 rfl scFacing.nd (dv_var 0 rfl r1) (fun H1 e1 => ?_) (pg_tup rfl (pgs_cons (pg_name (i := 1) scFacing.nd rfl (.inl rfl)) (pgs_cons (pg_name (i := 2) scFacing.nd rfl (.inl rfl)) (pgs_cons (pg_name (i := 3) scFacing.nd rfl (.inl rfl)) pgs_nil))))
  refine sb_ret (d := t3 (facingF h)) ?_ fun v H2 e2 r => k v H2 (e1.trans e2) r
  exact dv_t3 (dv_neg (dv_var (v := .int h.1) (d := .i h.1) 1 rfl rfl)) (dv_neg (dv_var (v := .int h.2.1) (d := .i h.2.1) 2 rfl rfl)) (dv_neg (dv_var (v := .int h.2.2) (d := .i h.2.2) 3 rfl rfl))
abbrev sNormal : Stmt := topS 32
theorem scNormal : FnScope ["half_plane"] ["half_plane"] (defScope sNormal) := ⟨rfl, rfl, rfl, by decide +kernel, rfl, by decide +kernel, by decide +kernel⟩
abbrev spNormal : Sp := pSp (fun h : Int × Int × Int => [t3 h]) (fun h => (h.1 ≠ 0 ∨ h.2.1 ≠ 0) ∧ B3 1000 h) (fun h => t2 (N2 h.1 h.2.1))
theorem cal_normal (g : C8.Cal P w K mg base 2 "direction" spDirection []) (D : Df K mg "normal" sNormal) : C8.Cal P w K mg base 3 "normal" spNormal [] := by
  refine cal_d (k := 2) D (fun _ _ _ _ _ _ us hl => match us, hl with | [_], _ => rfl) scNormal (fun _ => rfl) ?_
  rintro f cdv A outer s H E vs h D hr r ⟨hn, hb⟩ k
  obtain ⟨v1, rfl, r1⟩ := Rps.one (show Rps H vs [t3 h] from r)
  exact sb_ret (dv_call (_, _) g hr (by decide) (by rfl) (da_cons (dv_30 (dv_var 0 rfl r1)) (da_cons (dv_31 (dv_var 0 rfl r1)) da_nil)) ⟨hn, hb.1.up (by decide), hb.2.1.up (by decide)⟩) k
def meetF (a b : Int × Int × Int) : Int × Int × Int := placeF (a.2.2 * b.2.1 - b.2.2 * a.2.1) (a.1 * b.2.2 - b.1 * a.2.2) (crossF a b)
def crossingD (a b : Int × Int × Int) : Dt := if crossF a b = 0 then .n else t3 (meetF a b)
abbrev sCrossing : Stmt := topS 33
theorem scCrossing : FnScope ["one", "other", "cross"] ["one", "other"] (defScope sCrossing) := ⟨rfl, rfl, rfl, by decide +kernel, rfl, by decide +kernel, by decide +kernel⟩
abbrev spCrossing : Sp := pSp ar33 (fun a => B3 1000 a.1 ∧ B3 1000 a.2) (fun a => crossingD a.1 a.2)
theorem cal_crossing (g : C8.Cal P w K mg base 2 "place" spPlace []) (D : Df K mg "crossing" sCrossing) : C8.Cal P w K mg base 3 "crossing" spCrossing [] := by
  refine cal_d (k := 2) D (fun _ _ _ _ _ _ us hl => match us, hl with | [_, _], _ => rfl) scCrossing (fun _ => rfl) ?_
  rintro f cdv A outer s H E vs ⟨a, b⟩ D hr r ⟨⟨b1, b2, b3⟩, b4, b5, b6⟩ k
  obtain ⟨v1, v2, rfl, r1, r2⟩ := Rps.two (show Rps H vs [t3 a, t3 b] from r)
  refine sb_set 2 scCrossing.nd (d := .i (crossF a b)) (dv_sub (dv_mul (dv_30 (dv_var 0 rfl r1)) (dv_31 (dv_var 1 rfl r2)) (mw (by assumption) (by assumption))) (dv_mul (dv_31 (dv_var 0 rfl r1)) (dv_30 (dv_var 1 rfl r2)) (mw (by assumption) (by assumption)))) fun v3 H1 e1 r3 => ?_
  replace r1 := r1.up e1
  replace r2 := r2.up e1
  have hk : ∀ v H1, Ex H H1 → Rp H1 v (crossingD a b) → D.rt v H1 := k
  by_cases h0 : crossF a b = 0
  · refine sb_if (dq_eqI (dv_var 2 rfl r3) dv_int) (fun _ H2 e2 => ?_) (fun z => absurd h0 (of_decide_eq_false z))
    refine sb_ret dv_non fun v H3 e3 r => hk v H3 ((e1.trans e2).trans e3) ?_
    unfold crossingD
    rw [if_pos h0]
    exact r
  · refine sb_skip (Dq.to (dq_eqI (dv_var 2 rfl r3) dv_int) (decide_eq_false h0)) fun H2 e2 => ?_
    replace r1 := r1.up e2
    replace r2 := r2.up e2
    replace r3 := r3.up e2
    refine sb_ret (dv_call (_, _, _) g hr (by decide) (by rfl) (da_cons (dv_sub (dv_mul (dv_32 (dv_var 0 rfl r1)) (dv_31 (dv_var 1 rfl r2)) (mw (by assumption) (by assumption))) (dv_mul (dv_32 (dv_var 1 rfl r2)) (dv_31 (dv_var 0 rfl r1)) (mw (by assumption) (by assumption)))) (da_cons (dv_sub (dv_mul (dv_30 (dv_var 0 rfl r1)) (dv_32 (dv_var 1 rfl r2)) (mw (by assumption) (by assumption))) (dv_mul (dv_30 (dv_var 1 rfl r2)) (dv_32 (dv_var 0 rfl r1)) (mw (by assumption) (by assumption)))) (da_cons (dv_var 2 rfl r3) da_nil))) ⟨h0, ?_⟩) fun v H3 e3 r => hk v H3 ((e1.trans e2).trans e3) ?_
    · exact ((b1.mul b5).sub (b2.mul b4)).up (by decide)
    · unfold crossingD
      rw [if_neg h0]
      exact r

/-! ### heights -/
def heightF (u : Int × Int) (p : Int × Int × Int) : Int × Int := N2 (u.1 * p.1 + u.2 * p.2.1) p.2.2
def halfFromF (u h : Int × Int) : Int × Int × Int := N3 (u.1 * h.2) (u.2 * h.2) h.1
def halfAtF (u : Int × Int) (p : Int × Int × Int) : Int × Int × Int := halfFromF u (heightF u p)
abbrev ar23 : (Int × Int) × (Int × Int × Int) → List Dt := fun a => [t2 a.1, t3 a.2]
def U2ok (n : Nat) (u : Int × Int) : Prop := (u.1 ≠ 0 ∨ u.2 ≠ 0) ∧ B2 n u
theorem U2ok.up {n m : Nat} {u : Int × Int} (h : U2ok n u) (k : n ≤ m) : U2ok m u := ⟨h.1, h.2.up k⟩
abbrev sHeight : Stmt := topS 34
theorem scHeight : FnScope ["u", "p"] ["u", "p"] (defScope sHeight) := ⟨rfl, rfl, rfl, by decide +kernel, rfl, by decide +kernel, by decide +kernel⟩
abbrev spHeight : Sp := pSp ar23 (fun a => B2 1000 a.1 ∧ F3ok 1000 a.2) (fun a => t2 (heightF a.1 a.2))
theorem cal_height (g : C8.Cal P w K mg base 1 "fraction" spFraction []) (D : Df K mg "height" sHeight) : C8.Cal P w K mg base 2 "height" spHeight [] := by
  refine cal_d (k := 1) D (fun _ _ _ _ _ _ us hl => match us, hl with | [_, _], _ => rfl) scHeight (fun _ => rfl) ?_
  rintro f cdv A outer s H E vs ⟨u, p⟩ D hr r ⟨⟨b1, b2⟩, hp, b3, b4, b5⟩ k
  obtain ⟨v1, v2, rfl, r1, r2⟩ := Rps.two (show Rps H vs [t2 u, t3 p] from r)
  exact sb_ret (dv_call (_, _) g hr (by decide) (by rfl) (da_cons (dv_add (dv_mul (dv_20 (dv_var 0 rfl r1)) (dv_30 (dv_var 1 rfl r2)) (mw (by assumption) (by assumption))) (dv_mul (dv_21 (dv_var 0 rfl r1)) (dv_31 (dv_var 1 rfl r2)) (mw (by assumption) (by assumption)))) (da_cons (dv_32 (dv_var 1 rfl r2)) da_nil)) ⟨hp, b5.up (by decide)⟩) k
abbrev sHalfFrom : Stmt := topS 35
theorem scHalfFrom : FnScope ["u", "h"] ["u", "h"] (defScope sHalfFrom) := ⟨rfl, rfl, rfl, by decide +kernel, rfl, by decide +kernel, by decide +kernel⟩
abbrev spHalfFrom : Sp := pSp ar22 (fun a => U2ok 1000 a.1 ∧ F2ok 1000 a.2) (fun a => t3 (halfFromF a.1 a.2))
theorem mul_ne {x y : Int} (h : x ≠ 0) (k : 0 < y) : x * y ≠ 0 := Int.mul_ne_zero h (by omega)
theorem cal_half_from (g : C8.Cal P w K mg base 2 "half" spHalf []) (D : Df K mg "half_from" sHalfFrom) : C8.Cal P w K mg base 3 "half_from" spHalfFrom [] := by
  refine cal_d (k := 2) D (fun _ _ _ _ _ _ us hl => match us, hl with | [_, _], _ => rfl) scHalfFrom (fun _ => rfl) ?_
  rintro f cdv A outer s H E vs ⟨u, h⟩ D hr r ⟨⟨hu, b1, b2⟩, hh, b3, b4⟩ k
  obtain ⟨v1, v2, rfl, r1, r2⟩ := Rps.two (show Rps H vs [t2 u, t2 h] from r)
  refine sb_ret (dv_call (_, _, _) g hr (by decide) (by rfl) (da_cons (dv_mul (dv_20 (dv_var 0 rfl r1)) (dv_21 (dv_var 1 rfl r2)) (mw (by assumption) (by assumption))) (da_cons (dv_mul (dv_21 (dv_var 0 rfl r1)) (dv_21 (dv_var 1 rfl r2)) (mw (by assumption) (by assumption))) (da_cons (dv_20 (dv_var 1 rfl r2)) da_nil))) ⟨?_, (b1.mul b4).up (by decide), (b2.mul b4).up (by decide)⟩) k
  rcases hu with q | q
  · exact Or.inl (mul_ne q hh)
  · exact Or.inr (mul_ne q hh)
theorem height_ok {n m : Nat} {u : Int × Int} {p : Int × Int × Int} (hu : B2 n u) (hp : F3ok m p) : F2ok (n + m + 1) (heightF u p) :=
  N2_ok hp.1 ((hu.1.mul hp.2.1).add (hu.2.mul hp.2.2.1)) (hp.2.2.2.up (by omega))
theorem halfFrom_b {n m : Nat} {u h : Int × Int} (hu : U2ok n u) (hh : F2ok m h) : B3 (n + m) (halfFromF u h) := by
  refine N3_b ?_ (hu.2.1.mul hh.2.2) (hu.2.2.mul hh.2.2) (hh.2.1.up (by omega))
  rcases hu.1 with q | q
  · exact Or.inl (mul_ne q hh.1)
  · exact Or.inr (Or.inl (mul_ne q hh.1))
theorem halfAt_b {n m : Nat} {u : Int × Int} {p : Int × Int × Int} (hu : U2ok n u) (hp : F3ok m p) : B3 (n + (n + m + 1)) (halfAtF u p) := halfFrom_b hu (height_ok hu.2 hp)
abbrev sHalfAt : Stmt := topS 36
theorem scHalfAt : FnScope ["u", "p"] ["u", "p"] (defScope sHalfAt) := ⟨rfl, rfl, rfl, by decide +kernel, rfl, by decide +kernel, by decide +kernel⟩
abbrev spHalfAt : Sp := pSp ar23 (fun a => U2ok 400 a.1 ∧ F3ok 400 a.2) (fun a => t3 (halfAtF a.1 a.2))
theorem cal_half_at (g : C8.Cal P w K mg base 3 "half_from" spHalfFrom []) (g2 : C8.Cal P w K mg base 2 "height" spHeight []) (D : Df K mg "half_at" sHalfAt) : C8.Cal P w K mg base 4 "half_at" spHalfAt [] := by
  refine cal_d (k := 3) D (fun _ _ _ _ _ _ us hl => match us, hl with | [_, _], _ => rfl) scHalfAt (fun _ => rfl) ?_
  rintro f cdv A outer s H E vs ⟨u, p⟩ D hr r ⟨hu, hp⟩ k
  obtain ⟨v1, v2, rfl, r1, r2⟩ := Rps.two (show Rps H vs [t2 u, t3 p] from r)
  exact sb_ret (dv_call (u, heightF u p) g hr (by decide) (by rfl) (da_cons (dv_var 0 rfl r1) (da_cons (dv_call (u, p) g2 hr (by decide) (by rfl) (da_cons (dv_var 0 rfl r1) (da_cons (dv_var 1 rfl r2) da_nil)) ⟨hu.2.up (by decide), hp.up (by decide)⟩) da_nil)) ⟨hu.up (by decide), (height_ok hu.2 hp).up (by decide)⟩) k
end
end K8
/-! The law's own helpers that draw nothing. -/
namespace K8
open PySem PySem.Spec PyProof.Rows L2
open Evl (Ex Ex.refl Ex.trans Ex.new fresh_back)

section
variable {X : Cx} {σ : L2.St} {H H' : Hp} {a b c e : Expr} {pos p : Pos} {d d1 d2 : Dt} {D : Ends} {st : Stmt} {rest body : List Stmt} {x y : Int}
theorem sb_while (hp : PassesOwn (model X.prog X.w) X.A X.env X.xe) (W : Nat → L2.St → Hp → Prop) (m0 : Nat) (h0 : W m0 σ H)
    (hs : ∀ m σ' H', W m σ' H' → ∃ v, Dq X σ' H' c v ∧ (v = true → ∀ H1, Ex H' H1 → Wb X body { D with nx := fun σ2 H2 => ∃ m', m' < m ∧ W m' σ2 H2, ct := fun σ2 H2 => ∃ m', m' < m ∧ W m' σ2 H2, bk := fun σ2 H2 => Wb X rest D σ2 H2 } σ' H1) ∧ (v = false → ∀ H1, Ex H' H1 → Wb X rest D σ' H1)) :
    Wb X (.While c body [] pos :: rest) D σ H :=
  wb_of (pss_cons (ps_while hp wt wb) wb) ⟨W, ⟨m0, h0⟩, fun m σ' H' w => by
    obtain ⟨v, hq, ht, hf⟩ := hs m σ' H' w
    refine hq H' (Ex.refl _) _ fun H1 e1 => ?_
    cases v with
    | true =>
      rw [if_pos rfl]
      exact ⟨_, fun σ2 H2 q => q, ht rfl H1 e1⟩
    | false =>
      rw [if_neg Bool.false_ne_true]
      exact hf rfl H1 e1⟩
theorem dv_abs (hg : Gl X "abs") (hm : X.mg "abs" = none) (h : Dv X σ H e (.i x)) (hs : starEach [e] X.env = (false, eval e X.env) :: starEach [] X.env := by rfl) :
    Dv X σ H (.Call (.Name "abs" p) [e] [] pos) (.i (if x < 0 then -x else x)) := fun H1 e1 Q q =>
  wx_of (pe_callB call_abs hg hm (by decide +kernel) (pa_cons wx pa_nil hs) (by decide) (by decide) hs (by rfl)) (h H1 e1 _ fun v H2 e2 r => ⟨x, by cases r; rfl, q _ H2 e2 rfl⟩)
end
theorem abs_nn (x : Int) : 0 ≤ (if x < 0 then -x else x) := by split <;> omega
theorem g2_abs (x y : Int) : g2 (if x < 0 then -x else x) (if y < 0 then -y else y) = g2 x y := by
  have h : ∀ z : Int, (if z < 0 then -z else z).natAbs = z.natAbs := fun z => by split <;> omega
  unfold g2
  rw [h, h]
theorem g2_step {a b : Int} (ha : 0 ≤ a) (hb : 0 ≤ b) : g2 b (a % b) = g2 a b := by
  obtain ⟨m, rfl⟩ := Int.eq_ofNat_of_zero_le ha
  obtain ⟨n, rfl⟩ := Int.eq_ofNat_of_zero_le hb
  unfold g2
  have e : ((m : Int) % (n : Int)).natAbs = m % n := by rw [← Int.natCast_emod, Int.natAbs_natCast]
  rw [e, Int.natAbs_natCast, Int.natAbs_natCast, Nat.gcd_comm m n, Nat.gcd_rec n m, Nat.gcd_comm]
theorem g2_zero {a : Int} (ha : 0 ≤ a) : g2 a 0 = a := by
  unfold g2
  rw [Int.natAbs_zero, Nat.gcd_zero_right]
  omega
section
variable {P : Program} {w : World} {K : PySem.W.Frag} {mg : Str → Option Value} {base : Heap}
abbrev sCommon : Stmt := topS 40
theorem scCommon : FnScope ["_law_a", "_law_b"] ["_law_a", "_law_b"] (defScope sCommon) := ⟨rfl, rfl, rfl, by decide +kernel, rfl, by decide +kernel, by decide +kernel⟩
abbrev spCommon : Sp := pSp (fun a : Int × Int => [.i a.1, .i a.2]) (fun _ => True) (fun a => .i (g2 a.1 a.2))
theorem cal_common (G : Gb mg) (D : Df K mg "_law_common" sCommon) : C8.Cal P w K mg base 1 "_law_common" spCommon [] := by
  refine cal_d D (fun _ _ _ _ _ _ us hl => match us, hl with | [_, _], _ => rfl) scCommon (fun _ => rfl) ?_
  rintro f cdv A outer s H E vs ⟨a, b⟩ D hr r _ k
  obtain ⟨v1, v2, rfl, r1, r2⟩ := Rps.two (show Rps H vs [.i a, .i b] from r)
  refine sb_par 0 1 rfl scCommon.nd (da_cons (dv_abs rfl G.abs (dv_var 0 rfl r1)) (da_cons (dv_abs rfl G.abs (dv_var 1 rfl r2)) da_nil)) fun v3 v4 H1 e1 r3 r4 => ?_
  cases r3
  cases r4
  refine sb_while PassesOwn.never (fun m σ' H' => ∃ x y : Int, σ' = [some (.int x), some (.int y)] ∧ 0 ≤ x ∧ 0 ≤ y ∧ g2 x y = g2 a b ∧ m = y.toNat ∧ Ex H H') _ ⟨_, _, rfl, abs_nn a, abs_nn b, g2_abs a b, rfl, e1⟩ ?_
  rintro m σ' H' ⟨x, y, rfl, hx, hy, hg, rfl, eH⟩
  refine ⟨_, dq_neI (dv_var 1 rfl (d := .i y) rfl) dv_int, fun hv H2 e2 => ?_, fun hv H2 e2 => ?_⟩
  · have hy0 : ¬ y = 0 := by
      intro z
      rw [z] at hv
      exact Bool.noConfusion hv
    refine sb_par 0 1 rfl scCommon.nd (da_cons (dv_var 1 rfl (d := .i y) rfl) (da_cons (dv_mod (dv_var 0 rfl (d := .i x) rfl) (dv_var 1 rfl (d := .i y) rfl) (by omega)) da_nil)) fun v5 v6 H3 e3 r5 r6 => ?_
    cases r5
    cases r6
    refine sb_nil ⟨(x % y).toNat, ?_, y, x % y, rfl, hy, Int.emod_nonneg _ hy0, ?_, rfl, (eH.trans e2).trans e3⟩
    · have h1 := Int.emod_nonneg x hy0
      have h2 := Int.emod_lt_of_pos x (show 0 < y by omega)
      omega
    · rw [g2_step hx hy, hg]
  · have hy0 : y = 0 := by
      by_cases z : y = 0
      · exact z
      · rw [decide_eq_false z] at hv
        exact Bool.noConfusion hv
    subst hy0
    refine sb_ret (dv_var 0 rfl (d := .i x) rfl) fun v H3 e3 r => k v H3 ((eH.trans e2).trans e3) ?_
    rw [g2_zero hx] at hg
    show Rp H3 v (.i (g2 a b))
    rw [← hg]
    exact r
/-- the sign's factor, where the last number is above 0 -/
theorem B.one {n : Nat} (h : 0 < n) : B n 1 := by
  show 1 < 2 ^ n
  exact Nat.one_lt_two_pow (by omega)
theorem B.g2l {n : Nat} {a b : Int} (h : a ≠ 0 ∨ b ≠ 0) (ha : B n a) (hb : B n b) : B n (g2 a b) := by
  rcases h with h | h
  · exact ha.le (abs_of_dvd (g2_dl a b) h)
  · exact hb.le (abs_of_dvd (g2_dr a b) h)
abbrev sLFraction : Stmt := topS 41
theorem scLFraction : FnScope ["_law_p", "_law_q", "_law_n"] ["_law_p", "_law_q"] (defScope sLFraction) := ⟨rfl, rfl, rfl, by decide +kernel, rfl, by decide +kernel, by decide +kernel⟩
abbrev spLFraction : Sp := pSp (fun a : Int × Int => [.i a.1, .i a.2]) (fun a => 0 < a.2 ∧ B 1000 a.2) (fun a => t2 (N2 a.1 a.2))
theorem cal_lfraction (g : C8.Cal P w K mg base 1 "_law_common" spCommon []) (D : Df K mg "_law_fraction" sLFraction) : C8.Cal P w K mg base 2 "_law_fraction" spLFraction [] := by
  refine cal_d (k := 1) D (fun _ _ _ _ _ _ us hl => match us, hl with | [_, _], _ => rfl) scLFraction (fun _ => rfl) ?_
  rintro f cdv A outer s H E vs ⟨p, q⟩ D hr r ⟨hq, hb⟩ k
  obtain ⟨v1, v2, rfl, r1, r2⟩ := Rps.two (show Rps H vs [.i p, .i q] from r)
  have hq : 0 < q := hq
  have hb : B 1000 q := hb
  have hgb : B 1000 (g2 p q) := hb.le (abs_of_dvd (g2_dr p q) (by omega))
  refine sb_set 2 scLFraction.nd (Dv.to (d := .i (g2 p q * 1)) (dv_mul (dv_call (p, q) g hr (by decide) (by rfl) (da_cons (dv_var 0 rfl r1) (da_cons (dv_var 1 rfl r2) da_nil)) trivial) (dv_if (d := .i 1) (v := true) (Dq.to (dq_gt (dv_var 1 rfl r2) dv_int) (decide_eq_true hq)) (fun _ => dv_int) (fun z => nomatch z)) (mw hgb (B.one (by decide)))) (congrArg Dt.i (Int.mul_one _))) fun v3 H1 e1 r3 => ?_
  replace r1 := r1.up e1
  replace r2 := r2.up e1
  exact sb_ret (dv_t2 (dv_fdiv (dv_var 0 rfl r1) (dv_var 2 rfl r3) (divW hq (hb.up (by decide)))) (dv_fdiv (dv_var 1 rfl r2) (dv_var 2 rfl r3) (divW hq (hb.up (by decide))))) fun v H2 e2 r => k v H2 (e1.trans e2) r
abbrev sLPlace : Stmt := topS 42
theorem scLPlace : FnScope ["_law_x", "_law_y", "_law_d", "_law_n"] ["_law_x", "_law_y", "_law_d"] (defScope sLPlace) := ⟨rfl, rfl, rfl, by decide +kernel, rfl, by decide +kernel, by decide +kernel⟩
abbrev spLPlace : Sp := pSp arI3 (fun a => 0 < a.2.2 ∧ B 1000 a.2.2) (fun a => t3 (N3 a.1 a.2.1 a.2.2))
theorem cal_lplace (g : C8.Cal P w K mg base 1 "_law_common" spCommon []) (D : Df K mg "_law_place" sLPlace) : C8.Cal P w K mg base 2 "_law_place" spLPlace [] := by
  refine cal_d (k := 1) D (fun _ _ _ _ _ _ us hl => match us, hl with | [_, _, _], _ => rfl) scLPlace (fun _ => rfl) ?_
  rintro f cdv A outer s H E vs ⟨x, y, d⟩ D hr r ⟨hd, hb⟩ k
  obtain ⟨v1, v2, v3, rfl, r1, r2, r3⟩ := Rps.three (show Rps H vs [.i x, .i y, .i d] from r)
  have hd : 0 < d := hd
  have hb : B 1000 d := hb
  have h0 : 0 < g3 x y d := g3_pos (Or.inr (Or.inr (by omega)))
  have hgb : B 1000 (g3 x y d) := hb.le (abs_of_dvd (g3_d3 x y d) (by omega))
  refine sb_set 3 scLPlace.nd (Dv.to (d := .i (g3 x y d * 1)) (dv_mul (dv_call (g2 x y, d) g hr (by decide) (by rfl) (da_cons (dv_call (x, y) g hr (by decide) (by rfl) (da_cons (dv_var 0 rfl r1) (da_cons (dv_var 1 rfl r2) da_nil)) trivial) (da_cons (dv_var 2 rfl r3) da_nil)) trivial) (dv_if (d := .i 1) (v := true) (Dq.to (dq_gt (dv_var 2 rfl r3) dv_int) (decide_eq_true hd)) (fun _ => dv_int) (fun z => nomatch z)) (mw hgb (B.one (by decide)))) (congrArg Dt.i (Int.mul_one _))) fun v4 H1 e1 r4 => ?_
  replace r1 := r1.up e1
  replace r2 := r2.up e1
  replace r3 := r3.up e1
  have cw : ∀ z, CDivW z (g3 x y d) := fun z => wide_div (b := 1000) h0 hgb (by decide) (by decide)
  exact sb_ret (dv_t3 (dv_fdiv (dv_var 0 rfl r1) (dv_var 3 rfl r4) (cw _)) (dv_fdiv (dv_var 1 rfl r2) (dv_var 3 rfl r4) (cw _)) (dv_fdiv (dv_var 2 rfl r3) (dv_var 3 rfl r4) (cw _))) fun v H2 e2 r => k v H2 (e1.trans e2) r
abbrev sLDirection : Stmt := topS 43
theorem scLDirection : FnScope ["_law_a", "_law_b", "_law_n"] ["_law_a", "_law_b"] (defScope sLDirection) := ⟨rfl, rfl, rfl, by decide +kernel, rfl, by decide +kernel, by decide +kernel⟩
abbrev spLDirection : Sp := pSp (fun a : Int × Int => [.i a.1, .i a.2]) (fun a => (a.1 ≠ 0 ∨ a.2 ≠ 0) ∧ B 9000 a.1 ∧ B 9000 a.2) (fun a => t2 (N2 a.1 a.2))
theorem cal_ldirection (g : C8.Cal P w K mg base 1 "_law_common" spCommon []) (D : Df K mg "_law_direction" sLDirection) : C8.Cal P w K mg base 2 "_law_direction" spLDirection [] := by
  refine cal_d (k := 1) D (fun _ _ _ _ _ _ us hl => match us, hl with | [_, _], _ => rfl) scLDirection (fun _ => rfl) ?_
  rintro f cdv A outer s H E vs ⟨a, b⟩ D hr r ⟨h0, b1, b2⟩ k
  obtain ⟨v1, v2, rfl, r1, r2⟩ := Rps.two (show Rps H vs [.i a, .i b] from r)
  refine sb_set 2 scLDirection.nd (dv_call (a, b) g hr (by decide) (by rfl) (da_cons (dv_var 0 rfl r1) (da_cons (dv_var 1 rfl r2) da_nil)) trivial) fun v3 H1 e1 r3 => ?_
  replace r1 := r1.up e1
  replace r2 := r2.up e1
  exact sb_ret (dv_t2 (dv_fdiv (dv_var 0 rfl r1) (dv_var 2 rfl r3) (g2W h0 b1 b2)) (dv_fdiv (dv_var 1 rfl r2) (dv_var 2 rfl r3) (g2W h0 b1 b2))) fun v H2 e2 r => k v H2 (e1.trans e2) r
end
end K8
/-! The source of drawn numbers: a dict and a list that the draws change. -/
namespace K8
open PySem PySem.Spec PyProof.Rows L2
open Evl (Ex Ex.refl Ex.trans Ex.new fresh_back)

def sv (L : Addr) (l m t : Int) : List (Key × V) := [(Sum.inr "cells", .ref L), (Sum.inr "left", .int l), (Sum.inr "mixed", .int m), (Sum.inr "turn", .int t)]
theorem key_ne {a b : Str} (h : ¬ a = b) : ¬ (Sum.inr a : Key) = Sum.inr b := fun e => h (Sum.inr.inj e)
theorem n1 : ¬ ("cells" : Str) = "left" := by decide +kernel
theorem n2 : ¬ ("cells" : Str) = "mixed" := by decide +kernel
theorem n3 : ¬ ("cells" : Str) = "turn" := by decide +kernel
theorem n4 : ¬ ("left" : Str) = "mixed" := by decide +kernel
theorem n5 : ¬ ("left" : Str) = "turn" := by decide +kernel
theorem n6 : ¬ ("mixed" : Str) = "turn" := by decide +kernel
theorem n7 : ¬ ("mixed" : Str) = "left" := by decide +kernel
theorem n8 : ¬ ("turn" : Str) = "left" := by decide +kernel
theorem sv_cells (L : Addr) (l m t : Int) : valV (sv L l m t) (Sum.inr "cells" : Key) = some (.ref L) := valV_pos rfl
theorem sv_left (L : Addr) (l m t : Int) : valV (sv L l m t) (Sum.inr "left" : Key) = some (.int l) := by
  unfold sv
  rw [valV_neg (key_ne n1)]
  exact valV_pos rfl
theorem sv_mixed (L : Addr) (l m t : Int) : valV (sv L l m t) (Sum.inr "mixed" : Key) = some (.int m) := by
  unfold sv
  rw [valV_neg (key_ne n2), valV_neg (key_ne n4)]
  exact valV_pos rfl
theorem sv_turn (L : Addr) (l m t : Int) : valV (sv L l m t) (Sum.inr "turn" : Key) = some (.int t) := by
  unfold sv
  rw [valV_neg (key_ne n3), valV_neg (key_ne n5), valV_neg (key_ne n6)]
  exact valV_pos rfl
theorem put_left (L : Addr) (l m t l' : Int) : putK (sv L l m t) (Sum.inr "left" : Key) (.int l') = sv L l' m t := by
  unfold putK
  rw [if_pos (by rw [valV_any, sv_left] <;> rfl)]
  unfold sv
  simp only [List.map_cons, List.map_nil, if_neg (key_ne n1), if_neg (key_ne n7), if_neg (key_ne n8), if_true]
theorem put_turn (L : Addr) (l m t t' : Int) : putK (sv L l m t) (Sum.inr "turn" : Key) (.int t') = sv L l m t' := by
  unfold putK
  rw [if_pos (by rw [valV_any, sv_turn] <;> rfl)]
  unfold sv
  simp only [List.map_cons, List.map_nil, if_neg (key_ne n3), if_neg (key_ne n5), if_neg (key_ne n6), if_true]
/-- the source at d, its digits at L -/
def Src (d L : Addr) (H : Hp) : Prop := ∃ (cs : List Int) (l m t : Int), H d = some (.dK (sv L l m t)) ∧ H L = some (.lst (cs.map V.int))
/-- all but the source stands -/
def Rs (d L : Addr) (H H' : Hp) : Prop := ∀ b o, b ≠ d → b ≠ L → H b = some o → H' b = some o
theorem Rs.refl {d L : Addr} (H : Hp) : Rs d L H H := fun _ _ _ _ h => h
theorem Rs.trans {d L : Addr} {H H1 H2 : Hp} (a : Rs d L H H1) (b : Rs d L H1 H2) : Rs d L H H2 := fun x o h1 h2 h => b x o h1 h2 (a x o h1 h2 h)
theorem Rs.of {d L : Addr} {H H' : Hp} (e : Ex H H') : Rs d L H H' := fun b o _ _ h => e b o h
theorem Src.up {d L : Addr} {H H' : Hp} (s : Src d L H) (e : Ex H H') : Src d L H' := by
  obtain ⟨cs, l, m, t, h1, h2⟩ := s
  exact ⟨cs, l, m, t, e _ _ h1, e _ _ h2⟩
theorem Rp.rs {d L : Addr} {H H' : Hp} {v : V} {D : Dt} (r : Rp H v D) (s : Src d L H) (e : Rs d L H H') : Rp H' v D := by
  cases D with
  | n => exact r
  | b x => exact r
  | i x => exact r
  | t xs =>
    obtain ⟨a, h1, h2⟩ := r
    obtain ⟨cs, l, m, t, h3, h4⟩ := s
    exact ⟨a, h1, e _ _ (ne_of h2 h3 (by intro z; cases z)) (ne_of h2 h4 (by intro z; cases z)) h2⟩
theorem Rps.rs {d L : Addr} {H H' : Hp} (s : Src d L H) (e : Rs d L H H') : ∀ {vs : List V} {ds : List Dt}, Rps H vs ds → Rps H' vs ds
  | _, _, .nil => .nil
  | _, _, .cons r t => .cons (r.rs s e) (Rps.rs s e t)

section
variable {X : Cx} {σ : L2.St} {H H' : Hp} {a b c e : Expr} {es : List Expr} {pos p p1 p2 p3 : Pos} {dd d1 d2 : Dt} {ds : List Dt} {D : Ends} {st : Stmt} {rest body : List Stmt} {x y : Int} {d L : Addr} {kvs : List (Key × V)} {v : V} {n key : Str} {k j w2 : Nat}
theorem dv_get (hu : X.A.units + 1 < cLine) (i : Nat) (hs : σ[i]? = some (some (.ref d))) (hd : H d = some (.dK kvs)) (hv : valV kvs (Sum.inr key : Key) = some (.int x)) (hN : X.N[i]? = some n := by rfl)
    (hvs : Vis X.env.scope n := by first | exact Or.inl rfl | exact Or.inr (Or.inl rfl) | exact Or.inr (Or.inr rfl)) (hdb : (n == ("__debug__" : Str)) = false := by decide) (hcd : (n == ("__classdict__" : Str)) = false := by decide) :
    Dv X σ H (.Subscript (.Name n p1) (.Constant (.str key) w2 p2) pos) (.i x) := fun H1 e1 Q q =>
  wx_of (pe_dget hu (pe_var hN hvs hdb hcd) pe_str (fun _ _ => rfl)) ⟨_, hs, d, .int x, rfl, by rw [← hv]; exact DGet.k (k := Sum.inr key) (e1 _ _ hd), q _ H1 (Ex.refl _) rfl⟩
theorem wx_get {Q : VK} (hu : X.A.units + 1 < cLine) (i : Nat) (hs : σ[i]? = some (some (.ref d))) (hd : H d = some (.dK kvs)) (hv : valV kvs (Sum.inr key : Key) = some v) (q : Q v H) (hN : X.N[i]? = some n := by rfl)
    (hvs : Vis X.env.scope n := by first | exact Or.inl rfl | exact Or.inr (Or.inl rfl) | exact Or.inr (Or.inr rfl)) (hdb : (n == ("__debug__" : Str)) = false := by decide) (hcd : (n == ("__classdict__" : Str)) = false := by decide) :
    Wx X (.Subscript (.Name n p1) (.Constant (.str key) w2 p2) pos) σ H Q :=
  wx_of (pe_dget hu (pe_var hN hvs hdb hcd) pe_str (fun _ _ => rfl)) ⟨_, hs, d, v, rfl, by rw [← hv]; exact DGet.k (k := Sum.inr key) hd, q⟩
/-- d[key] = e -/
theorem sb_put (hu : X.A.units + 1 < cLine) (i : Nat) (hs : σ[i]? = some (some (.ref d))) (h : Wx X e σ H fun v H1 => ∃ kvs, H1 d = some (.dK kvs) ∧ kvs.length < 1000 ∧ Wb X rest D σ (upd H1 d (.dK (putK kvs (Sum.inr key : Key) v)))) (hN : X.N[i]? = some n := by rfl)
    (hvs : Vis X.env.scope n := by first | exact Or.inl rfl | exact Or.inr (Or.inl rfl) | exact Or.inr (Or.inr rfl)) (hdb : (n == ("__debug__" : Str)) = false := by decide) (hcd : (n == ("__classdict__" : Str)) = false := by decide)
    (hsw : swapsWith e (some (.Subscript (.Name n p1) (.Constant (.str key) w2 p2) p3)) pos.line X.env = pure false := by rfl) : Wb X (.Assign [.Subscript (.Name n p1) (.Constant (.str key) w2 p2) p3] e pos :: rest) D σ H := by
  refine wb_of (pss_cons (ps_dput hu (pe_var hN hvs hdb hcd) pe_str wx hsw) wb) fun pins s I => ?_
  refine thn (h pins s I) fun u s1 ⟨v, H1, I1, r1, kvs, h1, h2, q⟩ => ⟨v, H1, I1, r1, _, hs, d, _, rfl, DPut.k (k := Sum.inr key) h1 (small1000 (by omega)), q⟩
theorem sb_setW (i : Nat) (hN : X.N.Nodup) (h : Wx X e σ H fun v H1 => Wb X rest D (σ.set i (some v)) H1) (hi : X.N[i]? = some n := by rfl) (hx : Loc X.env.scope n := by first | exact Or.inl rfl | exact Or.inr rfl)
    (hs : swapsWith e (some (.Name n p)) pos.line X.env = pure false := by rfl) (hf : X.fn n = true ∨ X.env.scope.names.lookup n = some .local := by first | exact .inl rfl | exact .inr rfl) : Wb X (.Assign [.Name n p] e pos :: rest) D σ H :=
  wb_of (pss_cons (ps_set hN hi hx wx hs hf) wb) h
theorem dv_lenL {xs : List V} (hg : Gl X "len") (hm : X.mg "len" = none) (i : Nat) (hs : σ[i]? = some (some (.ref L))) (hL : H L = some (.lst xs)) (hN : X.N[i]? = some n := by rfl)
    (hvs : Vis X.env.scope n := by first | exact Or.inl rfl | exact Or.inr (Or.inl rfl) | exact Or.inr (Or.inr rfl)) (hdb : (n == ("__debug__" : Str)) = false := by decide) (hcd : (n == ("__classdict__" : Str)) = false := by decide) :
    Dv X σ H (.Call (.Name "len" p) [.Name n p1] [] pos) (.i (xs.length : Int)) := fun H1 e1 Q q =>
  wx_of (pe_callB call_len_seq hg hm PySem.boot_len (pa_cons (pe_var hN hvs hdb hcd) pa_nil) (by decide) (by decide) (by rfl) (by rfl)) ⟨_, hs, L, xs, rfl, .inl (SqL.of (e1 _ _ hL)), q _ H1 (Ex.refl _) rfl⟩
theorem wx_pop {Q : VK} {xs : List V} (i : Nat) (hs : σ[i]? = some (some (.ref L))) (hL : H L = some (.lst (xs ++ [v]))) (q : Q v (upd H L (.lst xs))) (hN : X.N[i]? = some n := by rfl)
    (hvs : Vis X.env.scope n := by first | exact Or.inl rfl | exact Or.inr (Or.inl rfl) | exact Or.inr (Or.inr rfl)) (hdb : (n == ("__debug__" : Str)) = false := by decide) (hcd : (n == ("__classdict__" : Str)) = false := by decide)
    (hbase : attributeBase (.Name n p1) "pop" X.env (eval (.Name n p1) X.env) = eval (.Name n p1) X.env := by rfl) (hline : (p.endLine == pos.line) = true := by rfl) :
    Wx X (.Call (.Attribute (.Name n p1) "pop" p) [] [] pos) σ H Q :=
  wx_of (pe_bm0 PySem.F.plainAttrs_list PySem.F.slot_list_pop PySem.F.type_list_pop mt_pop (pe_var hN hvs hdb hcd) hbase hline) ⟨_, hs, .inl ⟨rfl, _, SqL.of hL⟩, L, xs ++ [v], v, rfl, rfl, hL, by simp, by rw [List.dropLast_concat]; exact q⟩
theorem dv_intc (hg : Gl X "int") (hm : X.mg "int" = none) (h : Dv X σ H e (.i x)) (hs : starEach [e] X.env = (false, eval e X.env) :: starEach [] X.env := by rfl) : Dv X σ H (.Call (.Name "int" p) [e] [] pos) (.i x) := fun H1 e1 Q q =>
  wx_of (pe_callTy call_int1 hg hm (by decide +kernel) (pa_cons wx pa_nil hs) (by decide) (by decide) hs (by rfl)) (h H1 e1 _ fun v H2 e2 r => .inl ⟨x, by cases r; rfl, q _ H2 e2 rfl⟩)
/-- * by a small number -/
theorem dv_mulS (ha : Dv X σ H a (.i x)) (hb : Dv X σ H b (.i y)) (hc : CMul x y) : Dv X σ H (.BinOp a .Mult b pos) (.i (x * y)) := dv_op op_mul ha hb (ro_c hc)
theorem dv_fdivS (ha : Dv X σ H a (.i x)) (hb : Dv X σ H b (.i y)) (hc : CDiv x y) : Dv X σ H (.BinOp a .FloorDiv b pos) (.i (x / y)) := dv_op op_fdiv ha hb (ro_c hc)
end
section
variable {P : Program} {w : World} {K : PySem.W.Frag} {mg : Str → Option Value} {base : Heap}
theorem cal_g {x : Str} {st : Stmt} {N ps : List Str} {k : Nat} {sp : Sp} (D : Df K mg x st)
    (bd : ∀ (kV doc pm : Value) (an : Option Addr) (cdv ct : Value) (us : List Value), us.length = ps.length → bindArgs (PySem.W.fnOf x x (defArgs st) (defBody st) (defScope st) .none kV doc pm an cdv ct) ⟨us, []⟩ = pure (ps.zip us))
    (S : FnScope N ps (defScope st)) (hl : ∀ vs H Q E, sp vs H Q E → vs.length = ps.length)
    (hb : ∀ (f : Addr) (cdv : Value) (A : Around) (outer : List Env) (s : Shared) (H : Hp) (E : XK) (vs : List V) (Q : VK), Room k (Bx P w K mg base N x st f cdv A outer s H E).A → sp vs H Q E →
      Wb (Bx P w K mg base N x st f cdv A outer s H E) (defBody st) { nx := fun _ H' => Q .non H', rt := Q } (start N vs) H) : C8.Cal P w K mg base (k + 1) x sp [] := by
  obtain ⟨f, fd, F, hm⟩ := D.ex
  exact ⟨⟨f, fd, ps, [], F.ok S hl (fun cdv A outer s H vs Q E hr h => ⟨_, wb, hb f cdv A outer s H E vs Q hr h⟩), hm, F.kp, F.binds bd, .nil⟩⟩

/-! ### _law_pick -/
abbrev sPick : Stmt := topS 39
theorem scPick : FnScope ["_law_source", "_law_most", "_law_digits", "_law_left", "_law_laps", "_law_mixed"] ["_law_source", "_law_most"] (defScope sPick) := ⟨rfl, rfl, rfl, by decide +kernel, rfl, by decide +kernel, by decide +kernel⟩
def spPick : Sp := fun vs H Q _ => ∃ (d L : Addr) (n : Int), vs = [.ref d, .int n] ∧ Src d L H ∧ 2 ≤ n ∧ n < 1000000 ∧ ∀ (r : Int) H', 0 ≤ r → r < n → Rs d L H H' → Src d L H' → Q (.int r) H'
theorem cal_pick (G : Gb mg) (D : Df K mg "_law_pick" sPick) : C8.Cal P w K mg base 1 "_law_pick" spPick [] := by
  refine cal_g D (fun _ _ _ _ _ _ us hl => match us, hl with | [_, _], _ => rfl) scPick (fun vs H Q E h => ?_) ?_
  · obtain ⟨d, L, n, rfl, _⟩ := h
    rfl
  intro f cdv A outer s H E vs Q hr h
  obtain ⟨d, L, n, rfl, ⟨cs, l, m, t, h1, h2⟩, hn, hn2, k⟩ := h
  have hu := hu_of hr
  have ndL : d ≠ L := ne_of h1 h2 (by intro z; cases z)
  refine sb_skip (Dq.to (dq_lt (dv_var 1 rfl (d := .i n) rfl) dv_int) (decide_eq_false (by omega))) fun H1 e1 => ?_
  refine sb_setW 2 scPick.nd (wx_get hu 0 rfl (e1 _ _ h1) (sv_cells L l m t) ?_)
  refine sb_while PassesOwn.never (fun q σ' H' => ∃ (cs : List Int) (l : Int), σ' = [some (.ref d), some (.int n), some (.ref L), none, none, none] ∧ H' d = some (.dK (sv L l m t)) ∧ H' L = some (.lst (cs.map V.int)) ∧ q = cs.length ∧ Rs d L H H')
    _ ⟨cs, l, rfl, e1 _ _ h1, e1 _ _ h2, rfl, Rs.of e1⟩ ?_
  rintro q σ' H' ⟨cs, l, rfl, g1, g2, rfl, rs⟩
  refine ⟨_, Dw.q (dw_and (dq_lt (dv_get hu 0 rfl g1 (sv_left L l m t)) dv_int) fun _ => dw_and1 (dq_gt (dv_lenL rfl G.len 2 rfl g2) dv_int)), fun hv H2 e2 => ?_, fun hv H2 e2 => ?_⟩
  · -- one digit is taken
    rw [Bool.and_eq_true] at hv
    have hpos := of_decide_eq_true hv.2
    rw [List.length_map] at hpos
    obtain ⟨ys, y, rfl⟩ : ∃ ys y, cs = ys ++ [y] := by
      refine ⟨cs.dropLast, cs.getLast (by intro z; subst z; simp at hpos), (List.dropLast_concat_getLast _).symm⟩
    have g2' := e2 _ _ g2
    rw [List.map_append] at g2'
    refine sb_put hu 0 rfl (wx_pop 2 rfl g2' ⟨sv L l m t, ?_, by show 4 < 1000; decide, sb_nil ⟨ys.length, by simp, ys, y, rfl, ?_, ?_, rfl, fun b o hb hb2 hh => ?_⟩⟩)
    · rw [upd_ne ndL]
      exact e2 _ _ g1
    · rw [upd_same, put_left]
    · rw [upd_ne ndL.symm, upd_same]
    · rw [upd_ne hb, upd_ne hb2]
      exact e2 _ _ (rs _ _ hb hb2 hh)
  · -- behind the loop
    replace g1 := e2 _ _ g1
    replace g2 := e2 _ _ g2
    replace rs : Rs d L H H2 := rs.trans (Rs.of e2)
    refine sb_set 3 scPick.nd (dv_get hu 0 rfl g1 (sv_left L l m t)) fun v3 H3 e3 r3 => ?_
    cases r3
    replace g1 := e3 _ _ g1
    replace g2 := e3 _ _ g2
    replace rs : Rs d L H H3 := rs.trans (Rs.of e3)
    by_cases hl : 1 < l
    · refine sb_if (Dq.to (dq_gt (dv_var 3 rfl (d := .i l) rfl) dv_int) (decide_eq_true hl)) (fun _ H4 e4 => ?_) (fun z => nomatch z)
      replace g1 := e4 _ _ g1
      replace g2 := e4 _ _ g2
      replace rs : Rs d L H H4 := rs.trans (Rs.of e4)
      refine sb_put hu 0 rfl (dv_fdivS (dv_var 3 rfl (d := .i l) rfl) (dv_var 1 rfl (d := .i n) rfl) ⟨by omega, by omega⟩ H4 (Ex.refl _) _ fun v H5 e5 r5 => ?_)
      cases r5
      refine ⟨_, e5 _ _ g1, by show 4 < 1000; decide, ?_⟩
      rw [put_left]
      refine sb_ret (dv_mod (dv_intc rfl G.int (dv_var 3 rfl (d := .i l) rfl)) (dv_var 1 rfl (d := .i n) rfl) (by omega)) fun v H6 e6 r6 => ?_
      cases r6
      refine k _ H6 (Int.emod_nonneg _ (by omega)) (Int.emod_lt_of_pos _ (by omega)) (fun b o hb hb2 hh => e6 _ _ ?_) ⟨cs, _, m, t, e6 _ _ upd_same, e6 _ _ ?_⟩
      · rw [upd_ne hb]
        exact e5 _ _ (rs _ _ hb hb2 hh)
      · rw [upd_ne ndL.symm]
        exact e5 _ _ g2
    · refine sb_skip (Dq.to (dq_gt (dv_var 3 rfl (d := .i l) rfl) dv_int) (decide_eq_false hl)) fun H4 e4 => ?_
      replace g1 := e4 _ _ g1
      replace g2 := e4 _ _ g2
      replace rs : Rs d L H H4 := rs.trans (Rs.of e4)
      refine sb_put hu 0 rfl (dv_add (dv_get hu 0 rfl g1 (sv_turn L l m t)) dv_int H4 (Ex.refl _) _ fun v H5 e5 r5 => ?_)
      cases r5
      refine ⟨_, e5 _ _ g1, by show 4 < 1000; decide, ?_⟩
      rw [put_turn]
      have f1 : (upd H5 d (.dK (sv L l m (t + 1)))) d = some (.dK (sv L l m (t + 1))) := upd_same
      have f2 : (upd H5 d (.dK (sv L l m (t + 1)))) L = some (.lst (cs.map V.int)) := by
        rw [upd_ne ndL.symm]
        exact e5 _ _ g2
      have f3 : Rs d L H (upd H5 d (.dK (sv L l m (t + 1)))) := fun b o hb hb2 hh => by
        rw [upd_ne hb]
        exact e5 _ _ (rs _ _ hb hb2 hh)
      revert f1 f2 f3
      generalize upd H5 d (.dK (sv L l m (t + 1))) = H6
      intro f1 f2 f3
      refine sb_set 4 scPick.nd (dv_get hu 0 rfl f1 (sv_turn L l m (t + 1))) fun v H7 e7 r7 => ?_
      cases r7
      refine sb_set 5 scPick.nd (dv_mod (dv_intc rfl G.int (dv_add (dv_get hu 0 rfl (e7 _ _ f1) (sv_mixed L l m (t + 1))) (dv_mulS (dv_var 4 rfl (d := .i (t + 1)) rfl) dv_int (.inr ⟨by decide, by decide⟩)))) dv_int (by decide)) fun v H8 e8 r8 => ?_
      cases r8
      have lo := Int.emod_nonneg (m + (t + 1) * 104729) (show (998244353 : Int) ≠ 0 by decide)
      have hi := Int.emod_lt_of_pos (m + (t + 1) * 104729) (show (0 : Int) < 998244353 by decide)
      revert lo hi
      generalize (m + (t + 1) * 104729) % 998244353 = z
      intro lo hi
      refine sb_set 5 scPick.nd (dv_mod (dv_intc rfl G.int (dv_add (dv_mulS (dv_var 5 rfl (d := .i z) rfl) (dv_var 5 rfl (d := .i z) rfl) (.inl ⟨by omega, by omega⟩)) (dv_mulS (dv_var 4 rfl (d := .i (t + 1)) rfl) dv_int (.inr ⟨by decide, by decide⟩)))) dv_int (by decide)) fun v H9 e9 r9 => ?_
      cases r9
      refine sb_ret (dv_mod (dv_intc rfl G.int (dv_fdivS (dv_var 5 rfl (d := .i ((z * z + (t + 1) * 17) % 2147483647)) rfl) dv_int ⟨by decide, by decide⟩)) (dv_var 1 rfl (d := .i n) rfl) (by omega)) fun v H10 e10 r10 => ?_
      cases r10
      have ee := ((e7.trans e8).trans e9).trans e10
      exact k _ H10 (Int.emod_nonneg _ (by omega)) (Int.emod_lt_of_pos _ (by omega)) (f3.trans (Rs.of ee)) ⟨cs, _, _, _, ee _ _ f1, ee _ _ f2⟩
end
end K8
/-! The source is opened; drawn numbers, fractions, directions, places. -/
namespace K8
open PySem PySem.Spec PyProof.Rows L2
open Evl (Ex Ex.refl Ex.trans Ex.new fresh_back ex_l)

section
variable {X : Cx} {σ : L2.St} {H H' : Hp} {a b c e : Expr} {es : List Expr} {pos p p1 p2 p3 : Pos} {dd d1 d2 : Dt} {ds : List Dt} {D : Ends} {st : Stmt} {rest body : List Stmt} {x y : Int} {d L : Addr} {v : V} {n t : Str} {k j w2 : Nat}
/-- for x in xs, xs a name that holds a list -/
theorem sb_forL {xs : List V} {o : Addr} (hp : PassesOwn (model X.prog X.w) X.A X.env X.xe) (hc : X.calm = true) (hN : X.N.Nodup) (i j : Nat) (hs : σ[i]? = some (some (.ref o))) (hS : SqL X.K H o xs) (Pv : Nat → L2.St → Hp → Prop) (h0 : Pv 0 σ H)
    (hl : ∀ i σ H, i ≤ xs.length → Pv i σ H → SqL X.K H o xs)
    (ht : ∀ i x σ H, xs[i]? = some x → Pv i σ H → Wb X body { D with nx := Pv (i + 1), ct := Pv (i + 1), bk := fun σ2 H2 => Wb X rest D σ2 H2 } (σ.set j (some x)) H) (hd : ∀ σ H, Pv xs.length σ H → Wb X rest D σ H)
    (hNi : X.N[i]? = some n := by rfl) (hvs : Vis X.env.scope n := by first | exact Or.inl rfl | exact Or.inr (Or.inl rfl)) (hNj : X.N[j]? = some t := by rfl) (hx : Loc X.env.scope t := by first | exact Or.inl rfl | exact Or.inr rfl)
    (hf : X.fn t = true ∨ X.env.scope.names.lookup t = some .local := by first | exact .inl rfl | exact .inr rfl) (hdb : (n == ("__debug__" : Str)) = false := by decide) (hcd : (n == ("__classdict__" : Str)) = false := by decide) :
    Wb X (.For (.Name t p1) (.Name n p2) body [] pos :: rest) D σ H :=
  wb_of (pss_cons (ps_for hp hc (pi_list (pe_var hNi hvs hdb hcd)) (pg_name hN hNj hx hf) wb) wb) ⟨_, hs, o, rfl, ⟨xs, hS⟩, for_list (K := X.K) (xs := xs) Pv h0 hl ht hd⟩
/-- [f(x) for x in xs] of ints, read -/
theorem rd_ints {scope : Scope} {elt : Expr} {o : Addr} {ns : List Int} {g : Int → Int} {Q : VK} {i j : Nat} (hs : σ[i]? = some (some (.ref o))) (hS : SqL X.K H o (ns.map V.int)) (hl : ns.length ≤ 1000)
    (he : ∀ (s0 : Shared) (H0 : Hp) (C : Addr) (cl : List (Str × Addr)) (fp : List Addr) (m : Int) (H1 : Hp), Dv (X.blk s0 H0 scope (compEnvC scope cl C X.env) fp) ((wipe σ [j]).set j (some (.int m))) H1 elt (.i (g m)))
    (q : ∀ r H2, H r = none → Ex H H2 → H2 r = some (.lst ((ns.map g).map V.int)) → Q (.ref r) H2) : tLc (iList X.K (tVar i)) (gName j) tYes (Wk X scope elt) [j] σ H Q := by
  refine ⟨_, hs, o, rfl, ⟨_, hS⟩, fun r hr => ?_⟩
  refine lc_list (xs := ns.map V.int) (fun i H' => i ≤ ns.length ∧ (∀ b u, b ≠ r → H b = some u → H' b = some u) ∧ H' r = some (.lst (((ns.take i).map g).map V.int))) ⟨Nat.zero_le _, fun b u hb h => by rw [upd_ne hb]; exact h, upd_same⟩
    (fun i H' _ ⟨_, s1, _⟩ => ex_l (fun b u h => s1 b u (ne_of_none h hr) h) hS) ?_ ?_
  · rintro i v H' hv ⟨hi, s1, hr'⟩
    rw [List.getElem?_map] at hv
    cases hn : ns[i]? with
    | none =>
      rw [hn] at hv
      cases hv
    | some m =>
      rw [hn] at hv
      cases hv
      refine ⟨wipe_one σ j _, ?_⟩
      dsimp only [tYes]
      rw [if_pos rfl]
      intro s0 H0 C cl fp
      refine he s0 H0 C cl fp m H' H' (Ex.refl _) _ fun u H4 e4 r4 => ?_
      cases r4
      have hlt := (List.getElem?_eq_some_iff.mp hn).1
      refine ⟨_, e4 _ _ hr', ?_, hlt, fun b u hb h => by rw [upd_ne hb]; exact e4 _ _ (s1 b u hb h), ?_⟩
      · rw [List.length_map, List.length_map, List.length_take]
        exact small1000 (Nat.le_trans (Nat.min_le_right _ _) hl)
      · rw [upd_same, take_snoc hn, List.map_append, List.map_append] <;> rfl
  · rintro H' ⟨_, s1, hr'⟩
    rw [List.length_map, List.take_length] at hr'
    exact q r H' hr (fun b u h => s1 b u (ne_of_none h hr) h) hr'
/-! ### what draws: all but the source stands -/
def Sv (X : Cx) (d L : Addr) (σ : L2.St) (H : Hp) (e : Expr) (P : Dt → Prop) : Prop := ∀ H1, Rs d L H H1 → Src d L H1 → ∀ Q : VK, (∀ v D H2, Rs d L H1 H2 → Src d L H2 → P D → Rp H2 v D → Q v H2) → Wx X e σ H1 Q
def Sa (X : Cx) (d L : Addr) (σ : L2.St) (H : Hp) (es : List Expr) (P : List Dt → Prop) : Prop := ∀ H1, Rs d L H H1 → Src d L H1 → ∀ Q : List V → Hp → Prop, (∀ vs ds H2, Rs d L H1 H2 → Src d L H2 → P ds → Rps H2 vs ds → Q vs H2) → Wa X es σ H1 Q
variable {P R S : Dt → Prop}
theorem sv_dv (h : ∀ H1, Rs d L H H1 → Src d L H1 → Dv X σ H1 e dd) (hp : P dd) : Sv X d L σ H e P := fun H1 e1 s1 Q q => h H1 e1 s1 H1 (Ex.refl _) Q fun v H2 e2 r => q v dd H2 (Rs.of e2) (s1.up e2) hp r
theorem Sv.to (h : Sv X d L σ H e P) (hp : ∀ D, P D → R D) : Sv X d L σ H e R := fun H1 e1 s1 Q q => h H1 e1 s1 Q fun v D H2 e2 s2 p r => q v D H2 e2 s2 (hp D p) r
theorem Sv.up (h : Sv X d L σ H e P) (e1 : Rs d L H H') : Sv X d L σ H' e P := fun H1 e2 s1 Q q => h H1 (e1.trans e2) s1 Q q
theorem sv_op {op : Operator} {r : R2} (ho : OpR X (binaryOp op) r) (ha : Sv X d L σ H a P) (hb : Sv X d L σ H b R) (hr : ∀ D1 D2 H1, P D1 → R D2 → ∃ D, Ro r H1 D1 D2 D ∧ S D) : Sv X d L σ H (.BinOp a op b pos) S := fun H1 e1 s1 Q q =>
  wx_of (pe_op ho wx wx) (ha H1 e1 s1 _ fun u D1 H2 e2 s2 p1 r1 => hb H2 (e1.trans e2) s2 _ fun w D2 H3 e3 s3 p2 r2 => by
    obtain ⟨D3, ro, p3⟩ := hr D1 D2 H3 p1 p2
    exact ro H3 (Ex.refl _) u w (r1.rs s2 e3) r2 Q fun z H4 e4 r4 => q z D3 H4 ((e2.trans e3).trans (Rs.of e4)) (s3.up e4) p3 r4)
/-- an int with a property -/
def In (P : Int → Prop) (D : Dt) : Prop := ∃ x, D = .i x ∧ P x
theorem sv_add {A B C : Int → Prop} (ha : Sv X d L σ H a (In A)) (hb : Sv X d L σ H b (In B)) (h : ∀ x y, A x → B y → C (x + y)) : Sv X d L σ H (.BinOp a .Add b pos) (In C) :=
  sv_op op_add ha hb fun D1 D2 H1 ⟨x, e1, p1⟩ ⟨y, e2, p2⟩ => ⟨_, by rw [e1, e2]; exact ro_i, _, rfl, h x y p1 p2⟩
theorem sv_sub {A B C : Int → Prop} (ha : Sv X d L σ H a (In A)) (hb : Sv X d L σ H b (In B)) (h : ∀ x y, A x → B y → C (x - y)) : Sv X d L σ H (.BinOp a .Sub b pos) (In C) :=
  sv_op op_sub ha hb fun D1 D2 H1 ⟨x, e1, p1⟩ ⟨y, e2, p2⟩ => ⟨_, by rw [e1, e2]; exact ro_i, _, rfl, h x y p1 p2⟩
theorem sv_mul {A B C : Int → Prop} (ha : Sv X d L σ H a (In A)) (hb : Sv X d L σ H b (In B)) (hc : ∀ x y, A x → B y → CMul x y) (h : ∀ x y, A x → B y → C (x * y)) : Sv X d L σ H (.BinOp a .Mult b pos) (In C) :=
  sv_op op_mul ha hb fun D1 D2 H1 ⟨x, e1, p1⟩ ⟨y, e2, p2⟩ => ⟨_, by rw [e1, e2]; exact ro_c (hc x y p1 p2), _, rfl, h x y p1 p2⟩
theorem sv_int {m : Int} {A : Int → Prop} (h : A m) : Sv X d L σ H (.Constant (.int m) w2 pos) (In A) := sv_dv (fun _ _ _ => dv_int) ⟨m, rfl, h⟩
theorem sa_nil {P : List Dt → Prop} (h : P []) : Sa X d L σ H [] P := fun H1 e1 s1 Q q => wa_of pa_nil (q [] [] H1 (Rs.refl _) s1 h .nil)
theorem sa_cons {R : List Dt → Prop} (h : Sv X d L σ H e P) (hr : Sa X d L σ H es R) (hs : starEach (e :: es) X.env = (false, eval e X.env) :: starEach es X.env := by rfl) : Sa X d L σ H (e :: es) (fun ds => ∃ D ds', ds = D :: ds' ∧ P D ∧ R ds') := fun H1 e1 s1 Q q =>
  wa_of (pa_cons wx wa hs) (h H1 e1 s1 _ fun v D H2 e2 s2 p r => hr H2 (e1.trans e2) s2 _ fun vs ds H3 e3 s3 ps rs => q (v :: vs) (D :: ds) H3 (e2.trans e3) s3 ⟨D, ds, rfl, p, ps⟩ (.cons (r.rs s2 e3) rs))
/-- a def that draws nothing, called with drawn things -/
theorem sv_call {α : Type} {ar : α → List Dt} {pre : α → Prop} {f : α → Dt} {R : List Dt → Prop} (g : C8.Cal X.prog X.w X.K X.mg X.base k n (pSp ar pre f) []) (hr : Room j X.A) (hk : k ≤ j) (hg : Gl X n) (ha : Sa X d L σ H (e :: es) R)
    (hp : ∀ ds, R ds → ∃ w : α, ds = ar w ∧ pre w ∧ P (f w)) (hdb : (n == ("__debug__" : Str)) = false := by decide) (he : starEach (e :: es) X.env = (false, eval e X.env) :: starEach es X.env := by rfl) (hpl : (backTo pos (starEach es X.env)).any (·.1) = false := by rfl) :
    Sv X d L σ H (.Call (.Name n p) (e :: es) [] pos) P := fun H1 e1 s1 Q q =>
  wx_of (C8.pe_c g hr hk hg wa hdb he hpl) (ha H1 e1 s1 _ fun vs ds H2 e2 s2 ps r => by
    obtain ⟨w, rfl, pw, pf⟩ := hp ds ps
    exact ⟨w, by rw [List.append_nil]; exact r, pw, fun v H3 e3 r3 => q v _ H3 (e2.trans (Rs.of e3)) (s2.up e3) pf r3⟩)
/-- _law_pick(_law_source, m) -/
theorem sv_pick {m : Int} (g : C8.Cal X.prog X.w X.K X.mg X.base 1 "_law_pick" spPick []) (hr : Room j X.A) (hk : 1 ≤ j) (hg : Gl X "_law_pick") (i : Nat) (hs : σ[i]? = some (some (.ref d))) (hm : ∀ H1, Dv X σ H1 e (.i m)) (h2 : 2 ≤ m) (h3 : m < 1000000) (hN : X.N[i]? = some n := by rfl)
    (hvs : Vis X.env.scope n := by first | exact Or.inl rfl | exact Or.inr (Or.inl rfl) | exact Or.inr (Or.inr rfl)) (hdb : (n == ("__debug__" : Str)) = false := by decide) (hcd : (n == ("__classdict__" : Str)) = false := by decide)
    (he : starEach [.Name n p1, e] X.env = (false, eval (.Name n p1) X.env) :: starEach [e] X.env := by rfl) (he1 : starEach [e] X.env = (false, eval e X.env) :: starEach [] X.env := by rfl) (hpl : (backTo pos (starEach [e] X.env)).any (·.1) = false := by rfl) :
    Sv X d L σ H (.Call (.Name "_law_pick" p) [.Name n p1, e] [] pos) (In fun r => 0 ≤ r ∧ r < m) := fun H1 e1 s1 Q q =>
  wx_of (C8.pe_c g hr hk hg (pa_cons (pe_var hN hvs hdb hcd) (pa_cons wx pa_nil he1) he) (by decide) he hpl) ⟨_, hs, hm H1 H1 (Ex.refl _) _ fun v H2 e2 r => by
    cases r
    exact ⟨d, L, m, rfl, s1.up e2, h2, h3, fun r H3 hr0 hr1 e3 s3 => q (.int r) (.i r) H3 ((Rs.of e2).trans e3) s3 ⟨r, rfl, hr0, hr1⟩ rfl⟩⟩
/-- a def that draws from the source alone -/
def sSp (ex : List V) (P : Dt → Prop) : Sp := fun vs H Q _ => ∃ (d L : Addr), vs = .ref d :: ex ∧ Src d L H ∧ ∀ v D H', Rs d L H H' → Src d L H' → P D → Rp H' v D → Q v H'
theorem sv_src0 (g : C8.Cal X.prog X.w X.K X.mg X.base k t (sSp [] P) []) (hr : Room j X.A) (hk : k ≤ j) (hg : Gl X t) (i : Nat) (hs : σ[i]? = some (some (.ref d))) (hN : X.N[i]? = some n := by rfl)
    (hvs : Vis X.env.scope n := by first | exact Or.inl rfl | exact Or.inr (Or.inl rfl) | exact Or.inr (Or.inr rfl)) (hdb : (n == ("__debug__" : Str)) = false := by decide) (hcd : (n == ("__classdict__" : Str)) = false := by decide) (hdt : (t == ("__debug__" : Str)) = false := by decide)
    (he : starEach [.Name n p1] X.env = (false, eval (.Name n p1) X.env) :: starEach [] X.env := by rfl) : Sv X d L σ H (.Call (.Name t p) [.Name n p1] [] pos) P := fun H1 e1 s1 Q q =>
  wx_of (C8.pe_c g hr hk hg (pa_cons (pe_var hN hvs hdb hcd) pa_nil he) hdt he (by rfl)) ⟨_, hs, d, L, rfl, s1, fun v D H2 e2 s2 pd r => q v D H2 e2 s2 pd r⟩
theorem sv_src1 {m : Int} (g : C8.Cal X.prog X.w X.K X.mg X.base k t (sSp [.int m] P) []) (hr : Room j X.A) (hk : k ≤ j) (hg : Gl X t) (i : Nat) (hs : σ[i]? = some (some (.ref d))) (hN : X.N[i]? = some n := by rfl)
    (hvs : Vis X.env.scope n := by first | exact Or.inl rfl | exact Or.inr (Or.inl rfl) | exact Or.inr (Or.inr rfl)) (hdb : (n == ("__debug__" : Str)) = false := by decide) (hcd : (n == ("__classdict__" : Str)) = false := by decide) (hdt : (t == ("__debug__" : Str)) = false := by decide)
    (he : starEach [.Name n p1, .Constant (.int m) w2 p2] X.env = (false, eval (.Name n p1) X.env) :: starEach [.Constant (.int m) w2 p2] X.env := by rfl) : Sv X d L σ H (.Call (.Name t p) [.Name n p1, .Constant (.int m) w2 p2] [] pos) P := fun H1 e1 s1 Q q =>
  wx_of (C8.pe_c g hr hk hg (pa_cons (pe_var hN hvs hdb hcd) (pa_cons pe_int pa_nil)) hdt he (by rfl)) ⟨_, hs, d, L, rfl, s1, fun v D H2 e2 s2 pd r => q v D H2 e2 s2 pd r⟩
/-! statements that draw -/
theorem ss_set (i : Nat) (hN : X.N.Nodup) (h : Sv X d L σ H e P) (s : Src d L H) (k : ∀ v D' H1, Rs d L H H1 → Src d L H1 → P D' → Rp H1 v D' → Wb X rest D (σ.set i (some v)) H1) (hi : X.N[i]? = some n := by rfl) (hx : Loc X.env.scope n := by first | exact Or.inl rfl | exact Or.inr rfl)
    (hs : swapsWith e (some (.Name n p)) pos.line X.env = pure false := by rfl) (hf : X.fn n = true ∨ X.env.scope.names.lookup n = some .local := by first | exact .inl rfl | exact .inr rfl) : Wb X (.Assign [.Name n p] e pos :: rest) D σ H :=
  wb_of (pss_cons (ps_set hN hi hx wx hs hf) wb) (h H (Rs.refl _) s _ k)
theorem ss_ret (h : Sv X d L σ H e P) (s : Src d L H) (k : ∀ v D' H1, Rs d L H H1 → Src d L H1 → P D' → Rp H1 v D' → D.rt v H1) : Wb X [.Return (some e) pos] D σ H := wb_of (pss_one (ps_ret wx)) (h H (Rs.refl _) s _ k)
theorem ss_par {x y : Str} {px py pt p2 : Pos} {kt k2 : Nat} (i j : Nat) (hc : X.calm = true) (hN : X.N.Nodup) (h1 : Sv X d L σ H a P) (h2 : Sv X d L σ H b R) (s : Src d L H) (k : ∀ v w D1 D2 H1, Rs d L H H1 → Src d L H1 → P D1 → R D2 → Rp H1 v D1 → Rp H1 w D2 → Wb X rest D ((σ.set i (some v)).set j (some w)) H1)
    (hi : X.N[i]? = some x := by rfl) (hj : X.N[j]? = some y := by rfl) (hij : i ≠ j := by decide) (hx : X.env.scope.names.lookup x = some .local := by rfl) (hy : X.env.scope.names.lookup y = some .local := by rfl)
    (hw : swappedStores [.Tuple [.Name x px, .Name y py] kt pt] (.Tuple [a, b] k2 p2) X.env = pure (some [x, y]) := by rfl)
    (hs : swapsWithSole [.Tuple [.Name x px, .Name y py] kt pt] (.Tuple [a, b] k2 p2) pos.line X.env = pure false := by rfl)
    (he : starEach [a, b] X.env = (false, eval a X.env) :: starEach [b] X.env := by rfl) (he1 : starEach [b] X.env = (false, eval b X.env) :: starEach [] X.env := by rfl) :
    Wb X (.Assign [.Tuple [.Name x px, .Name y py] kt pt] (.Tuple [a, b] k2 p2) pos :: rest) D σ H :=
  wb_of (pss_cons (ps_par hc hN hi hj hij hx hy (pa_cons wx (pa_cons wx pa_nil he1) he) hw hs) wb) (h1 H (Rs.refl _) s _ fun v D1 H1 e1 s1 p1 r1 => h2 H1 e1 s1 _ fun w D2 H2 e2 s2 p2 r2 =>
    ⟨v, w, rfl, k v w D1 D2 H2 (e1.trans e2) s2 p1 p2 (r1.rs s1 e2) r2⟩)
end
theorem CMul.ofB {x y : Int} (h : -(2 ^ 64) < x ∧ x < 2 ^ 64) : CMul x y := .inl h
theorem merge_sv (L : Addr) (l m t : Int) : mergeK [] (sv L l m t) = sv L l m t := by
  unfold mergeK sv
  simp only [List.foldl_cons, List.foldl_nil]
  rw [putK_new (kvs := ([] : List (Key × V))) (V.ref L) valV_nil]
  simp only [List.nil_append]
  rw [putK_new (V.int l) (by rw [valV_neg (key_ne n1)]; exact valV_nil)]
  simp only [List.cons_append, List.nil_append]
  rw [putK_new (V.int m) (by rw [valV_neg (key_ne n2), valV_neg (key_ne n4)]; exact valV_nil)]
  simp only [List.cons_append, List.nil_append]
  rw [putK_new (V.int t) (by rw [valV_neg (key_ne n3), valV_neg (key_ne n5), valV_neg (key_ne n6)]; exact valV_nil)]
  simp only [List.cons_append, List.nil_append]
section
variable {P : Program} {w : World} {K : PySem.W.Frag} {mg : Str → Option Value} {base : Heap}
/-! ### _law_open_cells -/
abbrev sOpen : Stmt := topS 38
theorem scOpen : FnScope ["_law_script", "_law_mixed", "_law_cell", "_law_digits"] ["_law_script"] (defScope sOpen) := ⟨rfl, rfl, rfl, by decide +kernel, rfl, by decide +kernel, by decide +kernel⟩
def spOpen (K : PySem.W.Frag) : Sp := fun vs H Q _ => ∃ (o : Addr) (ns : List Int), vs = [.ref o] ∧ SqL K H o (ns.map V.int) ∧ ns.length ≤ 63 ∧ ∀ d L H', Ex H H' → Src d L H' → H d = none → H L = none → Q (.ref d) H'
theorem cal_open (G : Gb mg) (D : Df K mg "_law_open_cells" sOpen) : C8.Cal P w K mg base 1 "_law_open_cells" (spOpen K) [] := by
  refine cal_g D (fun _ _ _ _ _ _ us hl => match us, hl with | [_], _ => rfl) scOpen (fun vs H Q E h => ?_) ?_
  · obtain ⟨o, ns, rfl, _⟩ := h
    rfl
  intro f cdv A outer s H E vs Q hr h
  obtain ⟨o, ns, rfl, hS, hlen, k⟩ := h
  have hu := hu_of hr
  refine sb_set 1 scOpen.nd dv_int fun v1 H1 e1 r1 => ?_
  cases r1
  refine sb_forL (xs := ns.map V.int) PassesOwn.never rfl scOpen.nd 0 2 rfl (ex_l e1 hS) (fun i σ' H' => ∃ (m : Int) (z : Option V), σ' = [some (.ref o), some (.int m), z, none] ∧ 0 ≤ m ∧ m < 2147483629 ∧ Ex H H') ⟨11, none, rfl, by decide, by decide, e1⟩
    (fun i σ' H' _ ⟨m, z, _, _, _, e⟩ => ex_l e hS) ?_ ?_
  · rintro i x σ' H' hx ⟨m, z, rfl, m0, m1, e⟩
    rw [List.getElem?_map] at hx
    cases hn : ns[i]? with
    | none =>
      rw [hn] at hx
      cases hx
    | some c =>
      rw [hn] at hx
      cases hx
      refine sb_set 1 scOpen.nd (dv_mod (dv_intc rfl G.int (dv_add (dv_add (dv_mulS (dv_var 1 rfl (d := .i m) rfl) dv_int (.inr ⟨by decide, by decide⟩)) (dv_mulS (dv_var 2 rfl (d := .i c) rfl) dv_int (.inr ⟨by decide, by decide⟩))) dv_int)) dv_int (by decide)) fun v H2 e2 r2 => ?_
      cases r2
      exact sb_nil ⟨_, _, rfl, Int.emod_nonneg _ (by decide), Int.emod_lt_of_pos _ (by decide), e.trans e2⟩
  · rintro σ' H2 ⟨m, z, rfl, m0, m1, e2⟩
    refine wb_of (pss_cons (ps_setLc (i := 3) (own := [("_law_cell", 2)]) (te := Wk _ _ _) rfl scOpen.nd rfl rfl (sw_true rfl rfl rfl (by decide +kernel)) (pi_list (pv 0)) (blkOk_by (N := ["_law_script", "_law_mixed", "_law_cell", "_law_digits"]) (sc := defScope sOpen) (by decide +kernel))
      (fun _ _ _ _ _ => pg_name (i := 2) scOpen.nd rfl (Or.inl rfl)) (fun _ _ _ _ _ => pts_nil) (fun s0 H0 C cl fp => ⟨fun pins s σ' H' Q' I h => h s0 H0 C cl fp pins s I⟩)) wb) ?_
    change tLc (iList _ (tVar 0)) (gName 2) tYes (Wk _ _ _) [2] _ _ (fun x H1 => gName 3 x _ H1 _)
    refine rd_ints (X := Bx P w K mg base ["_law_script", "_law_mixed", "_law_cell", "_law_digits"] "_law_open_cells" sOpen f cdv A outer s H E) (g := fun m => if m < 0 then -m else m) rfl (ex_l e2 hS) (by omega) ?_ fun r H3 hr3 e3 h3 => ?_
    · exact fun s0 H0 C cl fp m H1 => dv_abs rfl G.abs (dv_var 2 rfl (d := .i m) rfl)
    -- the dict
    refine wb_of (pss_one (ps_ret (pe_disp (pps_cons pe_str (pe_revL (pv 3)) (pps_cons pe_str pe_int (pps_cons pe_str (pv 1) (pps_cons pe_str pe_int pps_nil)))) (by rfl) (by rfl) (fun z => by cases z) (by decide)))) ?_
    intro d hd
    refine ⟨_, rfl, r, _, rfl, SqL.of (by rw [upd_ne (ne_of_none h3 hd)]; exact h3), fun L hL => ?_⟩
    have ndL : d ≠ L := by
      intro z
      rw [z, upd_same] at hL
      cases hL
    have hL3 : H3 L = none := by rw [upd_ne ndL.symm] at hL; exact hL
    refine ⟨_, rfl, ?_⟩
    refine ⟨by rw [upd_ne ndL, upd_same], sv L 1 m 0, rfl, by show 4 ≤ 15; decide, ?_⟩
    rw [merge_sv]
    have e4 : Ex H H3 := e2.trans e3
    refine k d L _ (fun b u hb => ?_) ⟨(ns.map fun m => if m < 0 then -m else m).reverse, 1, m, 0, upd_same, ?_⟩ (fresh_back e4 hd) (fresh_back e4 hL3)
    · have h4 := e4 _ _ hb
      rw [upd_ne (ne_of_none h4 hd), upd_ne (ne_of_none h4 hL3), upd_ne (ne_of_none h4 hd)]
      exact h4
    · rw [upd_ne ndL.symm, upd_same, List.map_reverse]
end
end K8
/-! Drawn numbers, fractions, directions, places. -/
namespace K8
open PySem PySem.Spec PyProof.Rows L2
open Evl (Ex Ex.refl Ex.trans Ex.new fresh_back ex_l)

section
variable {X : Cx} {σ : L2.St} {H H' : Hp} {a b c e : Expr} {es : List Expr} {pos p p1 p2 p3 : Pos} {dd d1 d2 : Dt} {ds : List Dt} {D : Ends} {st : Stmt} {rest body : List Stmt} {x y m : Int} {d L : Addr} {v : V} {n t : Str} {k j w2 : Nat} {P R S : Dt → Prop}
theorem dv_pow (ha : Dv X σ H a (.i x)) (hb : Dv X σ H b (.i y)) (hc : CPow x y) : Dv X σ H (.BinOp a .Pow b pos) (.i (x ^ y.toNat)) := dv_op op_pow ha hb (ro_c hc)
/-- [x, y, ..][a drawn place] -/
theorem sv_menu {xs : List Int} (hl : ∀ H1, Da X σ H1 es (xs.map Dt.i)) (hb : Sv X d L σ H b (In fun r => 0 ≤ r ∧ r < m)) (hm : m = xs.length) (h100 : xs.length ≤ 100) (hx : ∀ x ∈ xs, P (.i x)) (hs : PlainIx b) : Sv X d L σ H (.Subscript (.List es p1) b pos) P := fun H1 e1 s1 Q q =>
  wx_of (pe_ix ix_list (pe_lst wa) wx hs) (hl H1 H1 (Ex.refl _) _ fun vs H2 e2 r => by
    have ev := rps_ints r
    subst ev
    refine ⟨by rw [List.length_map]; exact Nat.le_trans h100 (by decide), fun o ho => ?_⟩
    obtain ⟨cs, l, mm, tt, g1, g2⟩ := s1.up e2
    have nd : o ≠ d := (ne_of_none g1 ho).symm
    have nL : o ≠ L := (ne_of_none g2 ho).symm
    have e3 : Ex H1 (upd H2 o (.lst (xs.map V.int))) := e2.trans (Ex.new ho)
    refine hb _ (e1.trans (Rs.of e3)) (s1.up e3) _ fun v D H4 e4 s4 pD r4 => ?_
    obtain ⟨i, rfl, h0, h1⟩ := pD
    cases r4
    have hlt : i.toNat < xs.length := by omega
    refine ⟨o, xs.map V.int, i, .int xs[i.toNat], rfl, rfl, SqL.of (e4 _ _ nd nL upd_same), ?_, q _ _ H4 ((Rs.of e3).trans e4) s4 (hx _ (List.getElem_mem hlt)) rfl⟩
    rw [atI_map]
    have e5 : atI xs ((i.toNat : Nat) : Int) = some xs[i.toNat] := atI_nat (List.getElem?_eq_getElem hlt)
    rw [Int.toNat_of_nonneg h0] at e5
    rw [e5] <;> rfl)
/-- x if a drawn number == m else y -/
theorem sv_ifD {A : Int → Prop} (ha : Sv X d L σ H c (In A)) (h1 : Sv X d L σ H a P) (h2 : Sv X d L σ H b P) : Sv X d L σ H (.IfExp (.Compare c [.Eq] [.Constant (.int m) w2 p1] p2) a b pos) P := fun H1 e1 s1 Q q =>
  wx_of (pe_ifExp (pt_cmpR op_eq wx pe_int (nm _ (by decide) (by decide))) wx wx) (ha H1 e1 s1 _ fun v D H2 e2 s2 pD r => by
    obtain ⟨i, rfl, _⟩ := pD
    cases r
    refine ⟨rfl, _, rfl, ?_⟩
    cases decide (V.int i = V.int m) with
    | true => exact iteT (h1 H2 (e1.trans e2) s2 Q fun w D3 H3 e3 s3 p3 r3 => q w D3 H3 (e2.trans e3) s3 p3 r3)
    | false => exact iteF (h2 H2 (e1.trans e2) s2 Q fun w D3 H3 e3 s3 p3 r3 => q w D3 H3 (e2.trans e3) s3 p3 r3))
theorem sv_if {v : Bool} (hq : ∀ H1, Rs d L H H1 → Src d L H1 → Dq X σ H1 c v) (h1 : v = true → Sv X d L σ H a P) (h2 : v = false → Sv X d L σ H b P) : Sv X d L σ H (.IfExp c a b pos) P := fun H1 e1 s1 Q q =>
  wx_of (pe_ifExp wt wx wx) (hq H1 e1 s1 H1 (Ex.refl _) _ fun H2 e2 => by
    have s2 := s1.up e2
    have e2' : Rs d L H1 H2 := Rs.of e2
    cases v with
    | true => exact iteT (h1 rfl H2 (e1.trans e2') s2 Q fun w D3 H3 e3 s3 p3 r3 => q w D3 H3 (e2'.trans e3) s3 p3 r3)
    | false => exact iteF (h2 rfl H2 (e1.trans e2') s2 Q fun w D3 H3 e3 s3 p3 r3 => q w D3 H3 (e2'.trans e3) s3 p3 r3))
theorem sv_abs {A B : Int → Prop} (hg : Gl X "abs") (hm : X.mg "abs" = none) (h : Sv X d L σ H e (In A)) (hB : ∀ x, A x → B (if x < 0 then -x else x)) (hs : starEach [e] X.env = (false, eval e X.env) :: starEach [] X.env := by rfl) :
    Sv X d L σ H (.Call (.Name "abs" p) [e] [] pos) (In B) := fun H1 e1 s1 Q q =>
  wx_of (pe_callB call_abs hg hm (by decide +kernel) (pa_cons wx pa_nil hs) (by decide) (by decide) hs (by rfl)) (h H1 e1 s1 _ fun v D H2 e2 s2 pD r => by
    obtain ⟨i, rfl, pi⟩ := pD
    cases r
    exact ⟨i, rfl, q _ _ H2 e2 s2 ⟨_, rfl, hB i pi⟩ rfl⟩)
theorem sv_max1 {A B : Int → Prop} (hc : X.calm = true) (hg : Gl X "max") (hm : X.mg "max" = none) (h : Sv X d L σ H e (In A)) (hB : ∀ x, A x → B (if x > 1 then x else 1)) (hs : starEach [.Constant (.int 1) w2 p1, e] X.env = (false, eval (.Constant (.int 1) w2 p1) X.env) :: starEach [e] X.env := by rfl)
    (hs1 : starEach [e] X.env = (false, eval e X.env) :: starEach [] X.env := by rfl) (hpl : (backTo pos (starEach [e] X.env)).any (·.1) = false := by rfl) : Sv X d L σ H (.Call (.Name "max" p) [.Constant (.int 1) w2 p1, e] [] pos) (In B) := fun H1 e1 s1 Q q =>
  wx_of (pe_callB (call_max2 hc) hg hm (by decide +kernel) (pa_cons pe_int (pa_cons wx pa_nil hs1) hs) (by decide) (by decide) hs hpl) (h H1 e1 s1 _ fun v D H2 e2 s2 pD r => by
    obtain ⟨i, rfl, pi⟩ := pD
    cases r
    exact ⟨1, i, rfl, q _ _ H2 e2 s2 ⟨_, rfl, hB i pi⟩ rfl⟩)
end
section
variable {P : Program} {w : World} {K : PySem.W.Frag} {mg : Str → Option Value} {base : Heap}
theorem cal_s {x : Str} {st : Stmt} {N ps : List Str} {k : Nat} {ex : List V} {R : Dt → Prop} (D : Df K mg x st)
    (bd : ∀ (kV doc pm : Value) (an : Option Addr) (cdv ct : Value) (us : List Value), us.length = ps.length → bindArgs (PySem.W.fnOf x x (defArgs st) (defBody st) (defScope st) .none kV doc pm an cdv ct) ⟨us, []⟩ = pure (ps.zip us))
    (S : FnScope N ps (defScope st)) (hl : ex.length + 1 = ps.length)
    (hb : ∀ (f : Addr) (cdv : Value) (A : Around) (outer : List Env) (s : Shared) (H : Hp) (E : XK) (d L : Addr) (D : Ends), Room k (Bx P w K mg base N x st f cdv A outer s H E).A → Src d L H → (∀ v D' H1, Rs d L H H1 → Src d L H1 → R D' → Rp H1 v D' → D.rt v H1) →
      Wb (Bx P w K mg base N x st f cdv A outer s H E) (defBody st) D (start N (.ref d :: ex)) H) : C8.Cal P w K mg base (k + 1) x (sSp ex R) [] := by
  refine cal_g D bd S (fun vs H Q E h => ?_) fun f cdv A outer s H E vs Q hr h => ?_
  · obtain ⟨d, L, rfl, _⟩ := h
    exact hl
  · obtain ⟨d, L, rfl, hs, k⟩ := h
    exact hb f cdv A outer s H E d L _ hr hs k
/-! ### _law_number -/
abbrev sNumber : Stmt := topS 44
theorem scNumber : FnScope ["_law_source", "_law_road"] ["_law_source"] (defScope sNumber) := ⟨rfl, rfl, rfl, by decide +kernel, rfl, by decide +kernel, by decide +kernel⟩
abbrev NumP : Dt → Prop := In fun x => -1000000000 < x ∧ x < 1000000000
theorem cal_number (g : C8.Cal P w K mg base 1 "_law_pick" spPick []) (D : Df K mg "_law_number" sNumber) : C8.Cal P w K mg base 2 "_law_number" (sSp [] NumP) [] := by
  refine cal_s (k := 1) D (fun _ _ _ _ _ _ us hl => match us, hl with | [_], _ => rfl) scNumber rfl ?_
  intro f cdv A outer s H E d L D hr hs k
  refine ss_set 1 scNumber.nd (sv_pick g hr (by decide) rfl 0 rfl (fun _ => dv_int) (by decide) (by decide)) hs fun v D' H1 e1 s1 ⟨r, hD, h0, h1⟩ r1 => ?_
  subst hD
  cases r1
  by_cases hr0 : r = 0
  · refine sb_if (Dq.to (dq_eqI (dv_var 1 rfl (d := .i r) rfl) dv_int) (decide_eq_true hr0)) (fun _ H2 e2 => ?_) (fun z => nomatch z)
    refine ss_ret (P := NumP) (sv_menu (xs := [10 ^ (9 : Int).toNat - 1, 1 - 10 ^ (9 : Int).toNat, 360360, 999999]) (fun H3 => da_cons (dv_sub (dv_pow dv_int dv_int ⟨by decide, by decide, by decide⟩) dv_int) (da_cons (dv_sub dv_int (dv_pow dv_int dv_int ⟨by decide, by decide, by decide⟩)) (da_cons dv_int (da_cons dv_int da_nil))))
      (sv_pick g hr (by decide) (by rfl) 0 rfl (fun _ => dv_int) (by decide) (by decide)) rfl (by decide) ?_ (fun _ _ => rfl)) (s1.up e2) fun v D' H3 e3 s3 pD r3 => k v D' H3 ((e1.trans (Rs.of e2)).trans e3) s3 pD r3
    intro x hx
    simp only [List.mem_cons, List.not_mem_nil, or_false] at hx
    rcases hx with h | h | h | h <;> subst h <;> exact ⟨_, rfl, by decide, by decide⟩
  · refine sb_skip (Dq.to (dq_eqI (dv_var 1 rfl (d := .i r) rfl) dv_int) (decide_eq_false hr0)) fun H2 e2 => ?_
    refine ss_ret (P := NumP) (sv_if (fun H3 _ _ => dq_gt (dv_var 1 rfl (d := .i r) rfl) dv_int) (fun _ => sv_sub (sv_pick g hr (by decide) (by rfl) 0 rfl (fun _ => dv_int) (by decide) (by decide)) (sv_int (A := fun z => z = 12) rfl) ?_)
      (fun _ => sv_sub (sv_add (sv_mul (sv_pick g hr (by decide) (by rfl) 0 rfl (fun _ => dv_int) (by decide) (by decide)) (sv_int (A := fun z => z = 44721) rfl) (C := fun z => 0 ≤ z ∧ z ≤ 44720 * 44721) ?_ ?_) (sv_pick g hr (by decide) (by rfl) 0 rfl (fun _ => dv_int) (by decide) (by decide)) (C := fun z => 0 ≤ z ∧ z ≤ 44720 * 44721 + 44720) ?_) (sv_int (A := fun z => z = 999999999) rfl) ?_))
      (s1.up e2) fun v D' H3 e3 s3 pD r3 => k v D' H3 ((e1.trans (Rs.of e2)).trans e3) s3 pD r3
    · rintro x y ⟨a1, a2⟩ rfl
      omega
    · rintro x y ⟨a1, a2⟩ rfl
      exact .inr ⟨by decide, by decide⟩
    · rintro x y ⟨a1, a2⟩ rfl
      omega
    · rintro x y ⟨a1, a2⟩ ⟨a3, a4⟩
      omega
    · rintro x y ⟨a1, a2⟩ rfl
      omega
theorem B.of30 {x : Int} (h1 : -1000000000 < x) (h2 : x < 1000000000) : B 30 x := by
  show x.natAbs < 1073741824
  omega
/-! ### _law_draw_fraction -/
abbrev sDFrac : Stmt := topS 45
theorem scDFrac : FnScope ["_law_source", "_law_below"] ["_law_source"] (defScope sDFrac) := ⟨rfl, rfl, rfl, by decide +kernel, rfl, by decide +kernel, by decide +kernel⟩
abbrev FracP : Dt → Prop := fun D => ∃ f : Int × Int, D = t2 f ∧ F2ok 30 f
theorem cal_dfrac (G : Gb mg) (g : C8.Cal P w K mg base 1 "_law_pick" spPick []) (g2 : C8.Cal P w K mg base 2 "_law_number" (sSp [] NumP) []) (g3 : C8.Cal P w K mg base 2 "_law_fraction" spLFraction []) (D : Df K mg "_law_draw_fraction" sDFrac) :
    C8.Cal P w K mg base 3 "_law_draw_fraction" (sSp [] FracP) [] := by
  refine cal_s (k := 2) D (fun _ _ _ _ _ _ us hl => match us, hl with | [_], _ => rfl) scDFrac rfl ?_
  intro f cdv A outer s H E d L D hr hs k
  refine ss_set 1 scDFrac.nd (sv_add (sv_int (A := fun z => z = 1) rfl) (sv_pick g hr (by decide) (by rfl) 0 rfl (fun _ => dv_int) (by decide) (by decide)) (C := fun z => 1 ≤ z ∧ z ≤ 6) (by rintro x y rfl ⟨a1, a2⟩; omega)) hs fun v D' H1 e1 s1 ⟨r, hD, h0, h1⟩ r1 => ?_
  subst hD
  cases r1
  refine ss_ret (P := FracP) (sv_call g3 hr (by decide) (by rfl) (sa_cons (sv_src0 g2 hr (by decide) (by rfl) 0 rfl) (sa_cons (P := In fun z => 1 ≤ z ∧ z < 1000000000) (sv_ifD (sv_pick g hr (by decide) (by rfl) 0 rfl (fun _ => dv_int) (by decide) (by decide))
      (sv_max1 rfl rfl G.max (sv_abs rfl G.abs (sv_src0 g2 hr (by decide) (by rfl) 0 rfl) (B := fun z => 0 ≤ z ∧ z < 1000000000) ?_) ?_) (sv_dv (fun H3 _ _ => dv_var 1 rfl (d := .i r) rfl) ⟨r, rfl, by omega, by omega⟩)) (sa_nil (P := fun ds => ds = []) rfl))) ?_) s1 fun v D' H3 e3 s3 pD r3 => k v D' H3 (e1.trans e3) s3 pD r3
  · rintro x ⟨a1, a2⟩
    split <;> omega
  · rintro x ⟨a1, a2⟩
    split <;> omega
  · rintro ds ⟨D1, ds1, rfl, ⟨x, rfl, a1, a2⟩, D2, ds2, rfl, ⟨y, rfl, a3, a4⟩, rfl⟩
    have by0 : B 30 y := B.of30 (by omega) (by omega)
    exact ⟨(x, y), rfl, ⟨by show 0 < y; omega, by0.up (by decide)⟩, _, rfl, N2_ok (show 0 < y by omega) (B.of30 (by omega) (by omega)) by0⟩
/-! ### _law_draw_direction -/
abbrev sDDir : Stmt := topS 46
theorem scDDir : FnScope ["_law_source", "_law_a", "_law_b"] ["_law_source"] (defScope sDDir) := ⟨rfl, rfl, rfl, by decide +kernel, rfl, by decide +kernel, by decide +kernel⟩
abbrev DirP : Dt → Prop := fun D => ∃ u : Int × Int, D = t2 u ∧ K8.g2 u.1 u.2 = 1 ∧ U2ok 2 u
theorem cal_ddir (g : C8.Cal P w K mg base 1 "_law_pick" spPick []) (g3 : C8.Cal P w K mg base 2 "_law_direction" spLDirection []) (D : Df K mg "_law_draw_direction" sDDir) : C8.Cal P w K mg base 3 "_law_draw_direction" (sSp [] DirP) [] := by
  refine cal_s (k := 2) D (fun _ _ _ _ _ _ us hl => match us, hl with | [_], _ => rfl) scDDir rfl ?_
  intro f cdv A outer s H E d L D hr hs k
  have cs : ∀ x y : Int, (0 ≤ x ∧ x < 7) → y = 3 → (-3 ≤ x - y ∧ x - y ≤ 3) := fun x y h1 h2 => by omega
  refine ss_par 1 2 rfl scDDir.nd (sv_sub (sv_pick g hr (by decide) (by rfl) 0 rfl (fun _ => dv_int) (by decide) (by decide)) (sv_int (A := fun z => z = 3) rfl) (C := fun z => -3 ≤ z ∧ z ≤ 3) cs) (sv_sub (sv_pick g hr (by decide) (by rfl) 0 rfl (fun _ => dv_int) (by decide) (by decide)) (sv_int (A := fun z => z = 3) rfl) (C := fun z => -3 ≤ z ∧ z ≤ 3) cs) hs
    fun v1 v2 D1 D2 H1 e1 s1 ⟨a, hD1, a1, a2⟩ ⟨b, hD2, b1, b2⟩ r1 r2 => ?_
  subst hD1 hD2
  cases r1
  cases r2
  have ba : B 2 a := by show a.natAbs < 4; omega
  have bb : B 2 b := by show b.natAbs < 4; omega
  have dz : ∀ {H2 pos w}, Dv (Bx P w K mg base ["_law_source", "_law_a", "_law_b"] "_law_draw_direction" sDDir f cdv A outer s H E) [some (.ref d), some (.int a), some (.int b)] H2 (.Tuple [.Constant (.int 0) 0 ⟨0, 0, 0, 0⟩, .Constant (.int 0) 0 ⟨0, 0, 0, 0⟩] 0 pos) (t2 (0, 0)) := fun {_ _ _} => dv_t2 dv_int dv_int
  by_cases h0 : a ≠ 0 ∨ b ≠ 0
  · refine sb_ret (dv_if (v := true) (Dq.to (dq_neT hr.units (dv_t2 (dv_var 1 rfl (d := .i a) rfl) (dv_var 2 rfl (d := .i b) rfl)) (dv_t2 dv_int dv_int)) ?_) (fun _ => dv_call (a, b) g3 hr (by decide) (by rfl) (da_cons (dv_var 1 rfl (d := .i a) rfl) (da_cons (dv_var 2 rfl (d := .i b) rfl) da_nil)) ⟨h0, ba.up (by decide), bb.up (by decide)⟩) (fun z => nomatch z))
      fun v H2 e2 r => k v _ H2 (e1.trans (Rs.of e2)) (s1.up e2) ⟨N2 a b, rfl, ?_, ?_, N2_b h0 ba bb⟩ r
    · rw [decide_eq_false]
      · rfl
      · intro z
        have z1 : a = 0 := (List.cons.inj z).1
        have z2 : b = 0 := (List.cons.inj (List.cons.inj z).2).1
        omega
    · obtain ⟨q, hq, q1, q2, q3⟩ := N2_of h0
      exact q3
    · obtain ⟨q, hq, q1, q2, q3⟩ := N2_of h0
      by_cases z : (N2 a b).1 = 0
      · refine Or.inr fun z2 => ?_
        rw [z] at q1
        rw [z2] at q2
        omega
      · exact Or.inl z
  · have ha0 : a = 0 := by omega
    have hb0 : b = 0 := by omega
    subst ha0 hb0
    refine sb_ret (dv_if (v := false) (Dq.to (dq_neT hr.units (dv_t2 (dv_var 1 rfl (d := .i 0) rfl) (dv_var 2 rfl (d := .i 0) rfl)) (dv_t2 dv_int dv_int)) ?_) (fun z => nomatch z) (fun _ => dv_t2 dv_int dv_int))
      fun v H2 e2 r => k v _ H2 (e1.trans (Rs.of e2)) (s1.up e2) ⟨(1, 0), rfl, by decide, Or.inl (by decide), by show 1 < 4; decide, by show 0 < 4; decide⟩ r
    rw [decide_eq_true (by rfl)] <;> rfl
/-! ### _law_draw_place -/
abbrev sDPlace : Stmt := topS 47
theorem scDPlace : FnScope ["_law_source", "_law_wide", "_law_d"] ["_law_source", "_law_wide"] (defScope sDPlace) := ⟨rfl, rfl, rfl, by decide +kernel, rfl, by decide +kernel, by decide +kernel⟩
abbrev PlaceP (n : Nat) : Dt → Prop := fun D => ∃ p : Int × Int × Int, D = t3 p ∧ F3ok n p ∧ K8.g3 p.1 p.2.1 p.2.2 = 1
theorem cal_dplace (g : C8.Cal P w K mg base 1 "_law_pick" spPick []) (g3 : C8.Cal P w K mg base 2 "_law_place" spLPlace []) (D : Df K mg "_law_draw_place" sDPlace) : C8.Cal P w K mg base 3 "_law_draw_place" (sSp [.int 4] (PlaceP 4)) [] := by
  refine cal_s (k := 2) D (fun _ _ _ _ _ _ us hl => match us, hl with | [_, _], _ => rfl) scDPlace rfl ?_
  intro f cdv A outer s H E d L D hr hs k
  refine ss_set 2 scDPlace.nd (sv_menu (P := In fun z => 1 ≤ z ∧ z ≤ 3) (xs := [1, 1, 2, 1, 3]) (fun H3 => da_cons dv_int (da_cons dv_int (da_cons dv_int (da_cons dv_int (da_cons dv_int da_nil)))))
      (sv_pick g hr (by decide) (by rfl) 0 rfl (fun _ => dv_int) (by decide) (by decide)) rfl (by decide) ?_ (fun _ _ => rfl)) hs fun v D' H1 e1 s1 ⟨r, hD, h0, h1⟩ r1 => ?_
  · intro x hx
    simp only [List.mem_cons, List.not_mem_nil, or_false] at hx
    rcases hx with h | h | h | h | h <;> subst h <;> exact ⟨_, rfl, by decide, by decide⟩
  subst hD
  cases r1
  have pk : ∀ {p1 p2 p3 p4 p5 p6 p7 p8 : Pos}, Sv (Bx P w K mg base ["_law_source", "_law_wide", "_law_d"] "_law_draw_place" sDPlace f cdv A outer s H E) d L [some (.ref d), some (.int 4), some (.int r)] H1
      (.Call (.Name "_law_pick" p1) [.Name "_law_source" p2, .BinOp (.BinOp (.Name "_law_wide" p3) .Mult (.Name "_law_d" p4) p5) .Add (.Constant (.int 1) 0 p6) p7] [] p8) (In fun z => 0 ≤ z ∧ z < 4 * r + 1) := fun {_ _ _ _ _ _ _ _} =>
    sv_pick g hr (by decide) (by rfl) 0 rfl (fun _ => dv_add (dv_mulS (dv_var 1 rfl (d := .i 4) rfl) (dv_var 2 rfl (d := .i r) rfl) (.inl ⟨by decide, by decide⟩)) dv_int) (by omega) (by omega)
  refine ss_ret (P := PlaceP 4) (sv_call g3 hr (by decide) (by rfl) (sa_cons pk (sa_cons pk (sa_cons (P := fun D => D = .i r) (sv_dv (fun H3 _ _ => dv_var 2 rfl (d := .i r) rfl) rfl) (sa_nil (P := fun ds => ds = []) rfl)))) ?_) s1 fun v D' H3 e3 s3 pD r3 => k v D' H3 (e1.trans e3) s3 pD r3
  rintro ds ⟨D1, ds1, rfl, ⟨x, rfl, a1, a2⟩, D2, ds2, rfl, ⟨y, rfl, a3, a4⟩, D3, ds3, rfl, rfl, rfl⟩
  have br : B 4 r := by show r.natAbs < 16; omega
  have bx : B 4 x := by show x.natAbs < 16; omega
  have by0 : B 4 y := by show y.natAbs < 16; omega
  refine ⟨(x, y, r), rfl, ⟨by show 0 < r; omega, br.up (by decide)⟩, _, rfl, N3_ok (by show 0 < r; omega) bx by0 br, ?_⟩
  obtain ⟨q, hq, q1, q2, q3, q4⟩ := N3_of (x := x) (y := y) (z := r) (Or.inr (Or.inr (by omega)))
  exact q4
end
end K8
/-! The plain law: what the functions answer. -/
namespace K8

theorem pos2 {k g : Int} (h : 0 < k) (h' : 0 < g) : 0 < k * g := Int.mul_pos h h'
theorem N2_eq {p q p' q' k k' : Int} (h : p ≠ 0 ∨ q ≠ 0) (h' : p' ≠ 0 ∨ q' ≠ 0) (hk : 0 < k) (hk' : 0 < k') (e1 : k * p = k' * p') (e2 : k * q = k' * q') : N2 p q = N2 p' q' := by
  obtain ⟨g, hg, a1, a2, a3⟩ := N2_of h
  obtain ⟨g', hg', b1, b2, b3⟩ := N2_of h'
  have := uniq2 (pos2 hk hg) (pos2 hk' hg') a3 b3 (by rw [Int.mul_assoc, Int.mul_assoc, ← a1, ← b1]; exact e1) (by rw [Int.mul_assoc, Int.mul_assoc, ← a2, ← b2]; exact e2)
  exact Prod.ext this.1 this.2
theorem N3_eq {x y z x' y' z' k k' : Int} (h : x ≠ 0 ∨ y ≠ 0 ∨ z ≠ 0) (h' : x' ≠ 0 ∨ y' ≠ 0 ∨ z' ≠ 0) (hk : 0 < k) (hk' : 0 < k') (e1 : k * x = k' * x') (e2 : k * y = k' * y') (e3 : k * z = k' * z') : N3 x y z = N3 x' y' z' := by
  obtain ⟨g, hg, a1, a2, a3, a4⟩ := N3_of h
  obtain ⟨g', hg', b1, b2, b3, b4⟩ := N3_of h'
  have := uniq3 (pos2 hk hg) (pos2 hk' hg') a4 b4 (by rw [Int.mul_assoc, Int.mul_assoc, ← a1, ← b1]; exact e1) (by rw [Int.mul_assoc, Int.mul_assoc, ← a2, ← b2]; exact e2) (by rw [Int.mul_assoc, Int.mul_assoc, ← a3, ← b3]; exact e3)
  exact Prod.ext this.1 (Prod.ext this.2.1 this.2.2)
/-- a multiple by a number above 0 of a pair without a common divisor -/
theorem N2_mul {a b g : Int} (hg : 0 < g) (h : g2 a b = 1) : N2 (g * a) (g * b) = (a, b) := by
  have h0 : a ≠ 0 ∨ b ≠ 0 := by
    rcases Classical.em (a = 0) with z | z
    · right
      intro z2
      subst z z2
      exact absurd h (by decide)
    · exact Or.inl z
  have h1 : g * a ≠ 0 ∨ g * b ≠ 0 := by
    rcases h0 with z | z
    · exact Or.inl (Int.mul_ne_zero (by omega) z)
    · exact Or.inr (Int.mul_ne_zero (by omega) z)
  obtain ⟨g', hg', b1, b2, b3⟩ := N2_of h1
  have := uniq2 hg' hg b3 h b1.symm b2.symm
  exact Prod.ext this.1 this.2
theorem N3_mul {a b c g : Int} (hg : 0 < g) (h : g3 a b c = 1) : N3 (g * a) (g * b) (g * c) = (a, b, c) := by
  have h0 : a ≠ 0 ∨ b ≠ 0 ∨ c ≠ 0 := by
    rcases Classical.em (a = 0) with z | z
    · rcases Classical.em (b = 0) with z1 | z1
      · right
        right
        intro z2
        subst z z1 z2
        exact absurd h (by decide)
      · exact Or.inr (Or.inl z1)
    · exact Or.inl z
  have h1 : g * a ≠ 0 ∨ g * b ≠ 0 ∨ g * c ≠ 0 := by
    rcases h0 with z | z | z
    · exact Or.inl (Int.mul_ne_zero (by omega) z)
    · exact Or.inr (Or.inl (Int.mul_ne_zero (by omega) z))
    · exact Or.inr (Or.inr (Int.mul_ne_zero (by omega) z))
  obtain ⟨g', hg', b1, b2, b3, b4⟩ := N3_of h1
  have := uniq3 hg' hg b4 h b1.symm b2.symm b3.symm
  exact Prod.ext this.1 (Prod.ext this.2.1 this.2.2)
theorem height_of {u : Int × Int} {p : Int × Int × Int} (hp : 0 < p.2.2) : ∃ g, 0 < g ∧ u.1 * p.1 + u.2 * p.2.1 = g * (heightF u p).1 ∧ p.2.2 = g * (heightF u p).2 ∧ 0 < (heightF u p).2 := by
  obtain ⟨g, hg, a1, a2, _⟩ := N2_of (p := u.1 * p.1 + u.2 * p.2.1) (q := p.2.2) (Or.inr (by omega))
  refine ⟨g, hg, a1, a2, ?_⟩
  exact div_pos (g2_pos (Or.inr (by omega))) (g2_dr _ _) hp
theorem moved_of {p q : Int × Int × Int} (hp : 0 < p.2.2) (hq : 0 < q.2.2) : ∃ g, 0 < g ∧ p.1 * q.2.2 + q.1 * p.2.2 = g * (movedF p q).1 ∧ p.2.1 * q.2.2 + q.2.1 * p.2.2 = g * (movedF p q).2.1 ∧ p.2.2 * q.2.2 = g * (movedF p q).2.2 ∧ 0 < (movedF p q).2.2 := by
  have h0 := pos2 hp hq
  obtain ⟨g, hg, a1, a2, a3, _⟩ := N3_of (x := p.1 * q.2.2 + q.1 * p.2.2) (y := p.2.1 * q.2.2 + q.2.1 * p.2.2) (z := p.2.2 * q.2.2) (Or.inr (Or.inr (by omega)))
  exact ⟨g, hg, a1, a2, a3, div_pos (g3_pos (Or.inr (Or.inr (by omega)))) (g3_d3 _ _ _) h0⟩
theorem apart_of {p q : Int × Int × Int} (hp : 0 < p.2.2) (hq : 0 < q.2.2) : ∃ g, 0 < g ∧ p.1 * q.2.2 - q.1 * p.2.2 = g * (apartF p q).1 ∧ p.2.1 * q.2.2 - q.2.1 * p.2.2 = g * (apartF p q).2.1 ∧ p.2.2 * q.2.2 = g * (apartF p q).2.2 ∧ 0 < (apartF p q).2.2 := by
  have h0 := pos2 hp hq
  obtain ⟨g, hg, a1, a2, a3, _⟩ := N3_of (x := p.1 * q.2.2 - q.1 * p.2.2) (y := p.2.1 * q.2.2 - q.2.1 * p.2.2) (z := p.2.2 * q.2.2) (Or.inr (Or.inr (by omega)))
  exact ⟨g, hg, a1, a2, a3, div_pos (g3_pos (Or.inr (Or.inr (by omega)))) (g3_d3 _ _ _) h0⟩
theorem scaled_of {p : Int × Int × Int} {m n : Int} (hp : 0 < p.2.2) (hn : 0 < n) : ∃ g, 0 < g ∧ p.1 * m = g * (scaledF p m n).1 ∧ p.2.1 * m = g * (scaledF p m n).2.1 ∧ p.2.2 * n = g * (scaledF p m n).2.2 ∧ 0 < (scaledF p m n).2.2 := by
  have h0 := pos2 hp hn
  obtain ⟨g, hg, a1, a2, a3, _⟩ := N3_of (x := p.1 * m) (y := p.2.1 * m) (z := p.2.2 * n) (Or.inr (Or.inr (by omega)))
  exact ⟨g, hg, a1, a2, a3, div_pos (g3_pos (Or.inr (Or.inr (by omega)))) (g3_d3 _ _ _) h0⟩

/-- heights are added -/
theorem height_moved {u : Int × Int} {p q : Int × Int × Int} (hp : 0 < p.2.2) (hq : 0 < q.2.2) : heightF u (movedF p q) = plusF (heightF u p) (heightF u q) := by
  obtain ⟨gm, hgm, m1, m2, m3, m0⟩ := moved_of hp hq
  obtain ⟨gs, hgs, s1, s2, s0⟩ := height_of (u := u) hp
  obtain ⟨gt, hgt, t1, t2, t0⟩ := height_of (u := u) hq
  unfold plusF
  show N2 _ _ = N2 _ _
  have h0 := pos2 s0 t0
  refine N2_eq (Or.inr (by omega)) (Or.inr (by omega)) hgm (pos2 hgs hgt) ?_ ?_
  · grind
  · grind
theorem height_apart {u : Int × Int} {p q : Int × Int × Int} (hp : 0 < p.2.2) (hq : 0 < q.2.2) : heightF (-u.1, -u.2) (apartF p q) = minusF (heightF u q) (heightF u p) := by
  obtain ⟨gm, hgm, m1, m2, m3, m0⟩ := apart_of hp hq
  obtain ⟨gs, hgs, s1, s2, s0⟩ := height_of (u := u) hp
  obtain ⟨gt, hgt, t1, t2, t0⟩ := height_of (u := u) hq
  unfold minusF
  show N2 _ _ = N2 _ _
  have h0 := pos2 t0 s0
  refine N2_eq (Or.inr (by omega)) (Or.inr (by omega)) hgm (pos2 hgs hgt) ?_ ?_
  · grind
  · grind
/-- across the direction the height stays -/
theorem height_far {u : Int × Int} {p : Int × Int × Int} {m n : Int} (hp : 0 < p.2.2) (hn : 0 < n) : heightF u (movedF p (scaledF (-u.2, u.1, 1) m n)) = heightF u p := by
  obtain ⟨gc, hgc, c1, c2, c3, c0⟩ := scaled_of (p := (-u.2, u.1, 1)) (m := m) (show (0 : Int) < 1 by decide) hn
  obtain ⟨gm, hgm, m1, m2, m3, m0⟩ := moved_of hp c0
  show N2 _ _ = N2 _ _
  have h0 := pos2 hp hn
  refine N2_eq (k := gm * gc) (k' := n) (Or.inr (by omega)) (Or.inr (by omega)) (pos2 hgm hgc) hn ?_ ?_
  · grind
  · grind
/-- along the direction it grows -/
theorem height_along {u : Int × Int} {p : Int × Int × Int} (hu : u.1 ≠ 0 ∨ u.2 ≠ 0) (hp : 0 < p.2.2) : heightF u (movedF p (u.1, u.2, 1)) ≠ heightF u p := by
  intro e
  obtain ⟨gm, hgm, m1, m2, m3, m0⟩ := moved_of (q := (u.1, u.2, 1)) hp (show (0 : Int) < 1 by decide)
  obtain ⟨gs, hgs, s1, s2, s0⟩ := height_of (u := u) hp
  obtain ⟨gt, hgt, t1, t2, t0⟩ := height_of (u := u) m0
  rw [e] at t1 t2
  have m3' : p.2.2 * 1 = gm * (movedF p (u.1, u.2, 1)).2.2 := m3
  have m1' : p.1 * 1 + u.1 * p.2.2 = gm * (movedF p (u.1, u.2, 1)).1 := m1
  have m2' : p.2.1 * 1 + u.2 * p.2.2 = gm * (movedF p (u.1, u.2, 1)).2.1 := m2
  have k1 : gm * gt = gs := by
    apply Int.eq_of_mul_eq_mul_right (show (heightF u p).2 ≠ 0 by omega)
    rw [Int.mul_assoc, ← t2, ← m3', ← s2, Int.mul_one]
  have k0 : gm * (u.1 * (movedF p (u.1, u.2, 1)).1 + u.2 * (movedF p (u.1, u.2, 1)).2.1) = (u.1 * p.1 + u.2 * p.2.1) + (u.1 * u.1 + u.2 * u.2) * p.2.2 := by
    have a1 : gm * (u.1 * (movedF p (u.1, u.2, 1)).1 + u.2 * (movedF p (u.1, u.2, 1)).2.1) = u.1 * (gm * (movedF p (u.1, u.2, 1)).1) + u.2 * (gm * (movedF p (u.1, u.2, 1)).2.1) := by grind
    rw [a1, ← m1', ← m2']
    grind
  rw [t1, ← Int.mul_assoc, k1, ← s1] at k0
  have k2 : (u.1 * u.1 + u.2 * u.2) * p.2.2 = 0 := by omega
  have k3 : 0 < u.1 * u.1 + u.2 * u.2 := by
    have a1 : 0 ≤ u.1 * u.1 := by rcases Int.le_total 0 u.1 with h | h; exact Int.mul_nonneg h h; exact Int.mul_nonneg_of_nonpos_of_nonpos h h
    have a2 : 0 ≤ u.2 * u.2 := by rcases Int.le_total 0 u.2 with h | h; exact Int.mul_nonneg h h; exact Int.mul_nonneg_of_nonpos_of_nonpos h h
    rcases hu with h | h
    · have := Int.mul_ne_zero h h
      omega
    · have := Int.mul_ne_zero h h
      omega
  have := pos2 k3 hp
  omega
end K8
/-! The plain law: half planes and lines. -/
namespace K8

theorem N2_one {a b : Int} (h : g2 a b = 1) : N2 a b = (a, b) := by
  have e := N2_mul (a := a) (b := b) (show (0 : Int) < 1 by decide) h
  rw [Int.one_mul, Int.one_mul] at e
  exact e
theorem N3_one {a b c : Int} (h : g3 a b c = 1) : N3 a b c = (a, b, c) := by
  have e := N3_mul (a := a) (b := b) (c := c) (show (0 : Int) < 1 by decide) h
  rw [Int.one_mul, Int.one_mul, Int.one_mul] at e
  exact e
theorem from_of {u h : Int × Int} (hu : u.1 ≠ 0 ∨ u.2 ≠ 0) (hh : 0 < h.2) : ∃ g, 0 < g ∧ u.1 * h.2 = g * (halfFromF u h).1 ∧ u.2 * h.2 = g * (halfFromF u h).2.1 ∧ h.1 = g * (halfFromF u h).2.2 ∧
    g3 (halfFromF u h).1 (halfFromF u h).2.1 (halfFromF u h).2.2 = 1 ∧ ((halfFromF u h).1 ≠ 0 ∨ (halfFromF u h).2.1 ≠ 0) := by
  have h0 : u.1 * h.2 ≠ 0 ∨ u.2 * h.2 ≠ 0 ∨ h.1 ≠ 0 := by
    rcases hu with q | q
    · exact Or.inl (mul_ne q hh)
    · exact Or.inr (Or.inl (mul_ne q hh))
  obtain ⟨g, hg, a1, a2, a3, a4⟩ := N3_of h0
  refine ⟨g, hg, a1, a2, a3, a4, ?_⟩
  rcases hu with q | q
  · refine Or.inl fun z => mul_ne q hh (a1.trans ?_)
    have z' : (N3 (u.1 * h.2) (u.2 * h.2) h.1).1 = 0 := z
    rw [z', Int.mul_zero]
  · refine Or.inr fun z => mul_ne q hh (a2.trans ?_)
    have z' : (N3 (u.1 * h.2) (u.2 * h.2) h.1).2.1 = 0 := z
    rw [z', Int.mul_zero]
theorem is_half_from {u h : Int × Int} (hu : u.1 ≠ 0 ∨ u.2 ≠ 0) (hh : 0 < h.2) : isHalfF (halfFromF u h) = true := by
  obtain ⟨g, hg, a1, a2, a3, a4, a5⟩ := from_of hu hh
  unfold isHalfF
  rw [a4]
  have e : decide ([(halfFromF u h).1, (halfFromF u h).2.1] = [0, 0]) = false := decide_eq_false fun z => by
    have z1 := (List.cons.inj z).1
    have z2 := (List.cons.inj (List.cons.inj z).2).1
    omega
  rw [e] <;> rfl
theorem normal_from {u h : Int × Int} (hu : g2 u.1 u.2 = 1) (h0 : u.1 ≠ 0 ∨ u.2 ≠ 0) (hh : 0 < h.2) : N2 (halfFromF u h).1 (halfFromF u h).2.1 = u := by
  obtain ⟨g, hg, a1, a2, a3, a4, a5⟩ := from_of h0 hh
  have e := N2_eq (k := g) (k' := h.2) a5 h0 hg hh (by rw [← a1, Int.mul_comm]) (by rw [← a2, Int.mul_comm])
  rw [e, N2_one hu]
/-- how far a place lies within: by heights -/
theorem depth_from {u h : Int × Int} {q : Int × Int × Int} (h0 : u.1 ≠ 0 ∨ u.2 ≠ 0) (hh : 0 < h.2) (hq : 0 < q.2.2) : ∃ g g', 0 < g ∧ 0 < g' ∧ g * depthF (halfFromF u h) q = g' * ((heightF u q).1 * h.2 - h.1 * (heightF u q).2) := by
  obtain ⟨g, hg, a1, a2, a3, a4, a5⟩ := from_of h0 hh
  obtain ⟨gt, hgt, t1, t2, t0⟩ := height_of (u := u) hq
  refine ⟨g, gt, hg, hgt, ?_⟩
  unfold depthF
  grind
theorem sign_of {g g' x y : Int} (hg : 0 < g) (hg' : 0 < g') (e : g * x = g' * y) : (0 ≤ x ↔ 0 ≤ y) ∧ (x = 0 ↔ y = 0) ∧ (0 < x ↔ 0 < y) ∧ (x < 0 ↔ y < 0) := by
  have pos : ∀ {k z : Int}, 0 < k → ((0 < z → 0 < k * z) ∧ (z < 0 → k * z < 0) ∧ (z = 0 → k * z = 0)) := fun {k z} hk => ⟨fun h => Int.mul_pos hk h, fun h => Int.mul_neg_of_pos_of_neg hk h, fun h => by rw [h, Int.mul_zero]⟩
  have p1 := pos (z := x) hg
  have p2 := pos (z := y) hg'
  rcases Int.lt_trichotomy x 0 with h | h | h <;> rcases Int.lt_trichotomy y 0 with h' | h' | h' <;>
    (first | omega | (exfalso; have a := p1.1; have b := p1.2.1; have c := p1.2.2; have a' := p2.1; have b' := p2.2.1; have c' := p2.2.2; simp only [h, h', forall_const, true_implies] at a b c a' b' c'; omega))
theorem has_from {u h : Int × Int} {q : Int × Int × Int} (h0 : u.1 ≠ 0 ∨ u.2 ≠ 0) (hh : 0 < h.2) (hq : 0 < q.2.2) : decide (0 ≤ depthF (halfFromF u h) q) = !decide ((heightF u q).1 * h.2 < h.1 * (heightF u q).2) := by
  obtain ⟨g, g', hg, hg', e⟩ := depth_from h0 hh hq
  have s := (sign_of hg hg' e).1
  by_cases c : (heightF u q).1 * h.2 < h.1 * (heightF u q).2
  · rw [decide_eq_true c, decide_eq_false (fun z => by have := s.mp z; omega)] <;> rfl
  · rw [decide_eq_false c, decide_eq_true (s.mpr (by omega))] <;> rfl
theorem on_at {u : Int × Int} {p : Int × Int × Int} (h0 : u.1 ≠ 0 ∨ u.2 ≠ 0) (hp : 0 < p.2.2) : depthF (halfAtF u p) p = 0 := by
  obtain ⟨gt, hgt, t1, t2, t0⟩ := height_of (u := u) hp
  obtain ⟨g, g', hg, hg', e⟩ := depth_from (h := heightF u p) h0 t0 hp
  exact (sign_of hg hg' e).2.1.mpr (by rw [Int.mul_comm (heightF u p).1]; omega)
theorem at_eq {u : Int × Int} {p q : Int × Int × Int} (h : heightF u q = heightF u p) : halfAtF u q = halfAtF u p := by
  unfold halfAtF
  rw [h]
theorem depth_facing (h p : Int × Int × Int) : depthF (facingF h) p = -depthF h p := by
  unfold depthF facingF
  grind

/-! ### lines -/
/-- twice the area, for whole numbers ahead of the division -/
def dt (a b c : Int × Int × Int) : Int := (a.1 * b.2.1 - a.2.1 * b.1) * c.2.2 + (b.1 * c.2.1 - b.2.1 * c.1) * a.2.2 + (c.1 * a.2.1 - c.2.1 * a.1) * b.2.2
theorem dt_turn (a b c : Int × Int × Int) : dt b c a = dt a b c := by
  unfold dt
  grind
theorem dt_same (a c : Int × Int × Int) : dt a a c = 0 := by
  unfold dt
  grind
/-- the step from c to a, turned by a quarter, through c -/
def lineF (c a : Int × Int × Int) : Int × Int × Int := halfAtF (-(towardsF c a).2, (towardsF c a).1) c
/-- unlike places have a way -/
theorem way_ne {a c : Int × Int × Int} (ha : 0 < a.2.2) (hc : 0 < c.2.2) (ga : g3 a.1 a.2.1 a.2.2 = 1) (gc : g3 c.1 c.2.1 c.2.2 = 1) (h : a ≠ c) : (apartF a c).1 ≠ 0 ∨ (apartF a c).2.1 ≠ 0 := by
  obtain ⟨gm, hgm, m1, m2, m3, m0⟩ := apart_of ha hc
  apply Classical.byContradiction
  intro hn
  have z1 : (apartF a c).1 = 0 := Classical.byContradiction fun z => hn (Or.inl z)
  have z2 : (apartF a c).2.1 = 0 := Classical.byContradiction fun z => hn (Or.inr z)
  rw [z1, Int.mul_zero] at m1
  rw [z2, Int.mul_zero] at m2
  have := uniq3 (g := c.2.2) (g' := a.2.2) hc ha ga gc (by rw [Int.mul_comm, Int.mul_comm a.2.2]; omega) (by rw [Int.mul_comm, Int.mul_comm a.2.2]; omega) (Int.mul_comm _ _)
  exact h (Prod.ext this.1 (Prod.ext this.2.1 this.2.2))
theorem towards_of {a c : Int × Int × Int} (hw : (apartF a c).1 ≠ 0 ∨ (apartF a c).2.1 ≠ 0) : ∃ g, 0 < g ∧ (apartF a c).1 = g * (towardsF c a).1 ∧ (apartF a c).2.1 = g * (towardsF c a).2 ∧ ((towardsF c a).1 ≠ 0 ∨ (towardsF c a).2 ≠ 0) := by
  obtain ⟨g, hg, a1, a2, _⟩ := N2_of hw
  refine ⟨g, hg, a1, a2, ?_⟩
  rcases hw with q | q
  · refine Or.inl fun z => q (a1.trans ?_)
    have z' : (N2 (apartF a c).1 (apartF a c).2.1).1 = 0 := z
    rw [z', Int.mul_zero]
  · refine Or.inr fun z => q (a2.trans ?_)
    have z' : (N2 (apartF a c).1 (apartF a c).2.1).2 = 0 := z
    rw [z', Int.mul_zero]
theorem quarter_ne {t : Int × Int} (h : t.1 ≠ 0 ∨ t.2 ≠ 0) : (-t.2, t.1).1 ≠ 0 ∨ (-t.2, t.1).2 ≠ 0 := by
  show -t.2 ≠ 0 ∨ t.1 ≠ 0
  omega
/-- what a line through c towards a is, up to a number above 0 -/
theorem line_of {a c : Int × Int × Int} (ha : 0 < a.2.2) (hc : 0 < c.2.2) (hw : (apartF a c).1 ≠ 0 ∨ (apartF a c).2.1 ≠ 0) : ∃ m n, 0 < m ∧ 0 < n ∧ m * (lineF c a).1 = n * (c.2.1 * a.2.2 - a.2.1 * c.2.2) ∧ m * (lineF c a).2.1 = n * (a.1 * c.2.2 - c.1 * a.2.2) ∧ depthF (lineF c a) c = 0 ∧ ((lineF c a).1 ≠ 0 ∨ (lineF c a).2.1 ≠ 0) := by
  obtain ⟨gm, hgm, m1, m2, m3, m0⟩ := apart_of ha hc
  obtain ⟨gt, hgt, t1, t2, t0⟩ := towards_of hw
  obtain ⟨gh, hgh, h1, h2, h0⟩ := height_of (u := (-(towardsF c a).2, (towardsF c a).1)) hc
  obtain ⟨g, hg, a1, a2, a3, a4, a5⟩ := from_of (h := heightF (-(towardsF c a).2, (towardsF c a).1) c) (quarter_ne t0) h0
  have b1 : -(towardsF c a).2 * (heightF (-(towardsF c a).2, (towardsF c a).1) c).2 = g * (lineF c a).1 := a1
  have b2 : (towardsF c a).1 * (heightF (-(towardsF c a).2, (towardsF c a).1) c).2 = g * (lineF c a).2.1 := a2
  refine ⟨gm * gt * g, (heightF (-(towardsF c a).2, (towardsF c a).1) c).2, pos2 (pos2 hgm hgt) hg, h0, ?_, ?_, on_at (quarter_ne t0) hc, a5⟩
  · rw [Int.mul_assoc, ← b1]
    have e : c.2.1 * a.2.2 - a.2.1 * c.2.2 = -(gm * (gt * (towardsF c a).2)) := by rw [← t2, ← m2]; omega
    rw [e]
    grind
  · rw [Int.mul_assoc, ← b2]
    have e : a.1 * c.2.2 - c.1 * a.2.2 = gm * (gt * (towardsF c a).1) := by rw [← t1, ← m1]
    rw [e]
    grind
theorem line_depth {a c r : Int × Int × Int} (ha : 0 < a.2.2) (hc : 0 < c.2.2) (hw : (apartF a c).1 ≠ 0 ∨ (apartF a c).2.1 ≠ 0) : ∃ m n, 0 < m ∧ 0 < n ∧ m * depthF (lineF c a) r = n * dt a r c := by
  obtain ⟨m, n, hm, hn, e1, e2, e3, _⟩ := line_of ha hc hw
  refine ⟨m, n, hm, hn, ?_⟩
  apply Int.eq_of_mul_eq_mul_left (show c.2.2 ≠ 0 by omega)
  unfold depthF at e3 ⊢
  unfold dt
  revert e1 e2 e3
  generalize lineF c a = l
  intro e1 e2 e3
  grind
theorem line_cross {a b c : Int × Int × Int} (ha : 0 < a.2.2) (hb : 0 < b.2.2) (hc : 0 < c.2.2) (hwa : (apartF a c).1 ≠ 0 ∨ (apartF a c).2.1 ≠ 0) (hwb : (apartF b c).1 ≠ 0 ∨ (apartF b c).2.1 ≠ 0) :
    ∃ m n, 0 < m ∧ 0 < n ∧ m * crossF (lineF c a) (lineF c b) = n * dt a b c := by
  obtain ⟨m, n, hm, hn, e1, e2, _⟩ := line_of ha hc hwa
  obtain ⟨m', n', hm', hn', e1', e2', _⟩ := line_of hb hc hwb
  refine ⟨m * m', n * n' * c.2.2, pos2 hm hm', pos2 (pos2 hn hn') hc, ?_⟩
  unfold crossF dt
  revert e1 e2 e1' e2'
  generalize lineF c a = l
  generalize lineF c b = l'
  intro e1 e2 e1' e2'
  have f : m * m' * (l.1 * l'.2.1 - l.2.1 * l'.1) = (m * l.1) * (m' * l'.2.1) - (m * l.2.1) * (m' * l'.1) := by grind
  rw [f, e1, e2, e1', e2']
  grind
theorem apart_cross {a b c : Int × Int × Int} (ha : 0 < a.2.2) (hb : 0 < b.2.2) (hc : 0 < c.2.2) : ∃ m n, 0 < m ∧ 0 < n ∧ m * crossF (apartF a c) (apartF b c) = n * dt a b c := by
  obtain ⟨g, hg, m1, m2, m3, m0⟩ := apart_of ha hc
  obtain ⟨g', hg', n1, n2, n3, n0⟩ := apart_of hb hc
  refine ⟨g * g', c.2.2, pos2 hg hg', hc, ?_⟩
  unfold crossF dt
  have f : g * g' * ((apartF a c).1 * (apartF b c).2.1 - (apartF a c).2.1 * (apartF b c).1) = (g * (apartF a c).1) * (g' * (apartF b c).2.1) - (g * (apartF a c).2.1) * (g' * (apartF b c).1) := by grind
  rw [f, ← m1, ← m2, ← n1, ← n2]
  grind
/-- the place on two lines that are not parallel -/
theorem meet_of {l l' p : Int × Int × Int} (hp : 0 < p.2.2) (gp : g3 p.1 p.2.1 p.2.2 = 1) (h1 : depthF l p = 0) (h2 : depthF l' p = 0) (h0 : crossF l l' ≠ 0) : crossingD l l' = t3 p := by
  unfold crossingD
  rw [if_neg h0]
  have e1 : p.2.2 * (l.2.2 * l'.2.1 - l'.2.2 * l.2.1) = crossF l l' * p.1 := by
    unfold depthF at h1 h2
    unfold crossF
    grind
  have e2 : p.2.2 * (l.1 * l'.2.2 - l'.1 * l.2.2) = crossF l l' * p.2.1 := by
    unfold depthF at h1 h2
    unfold crossF
    grind
  have e : meetF l l' = p := by
    unfold meetF placeF
    by_cases c : 0 < crossF l l'
    · rw [if_pos c]
      have q := N3_eq (k := p.2.2) (k' := crossF l l') (Or.inr (Or.inr h0)) (Or.inr (Or.inr (show p.2.2 ≠ 0 by omega))) hp c e1 e2 (Int.mul_comm _ _)
      rw [q, N3_one gp]
    · rw [if_neg c]
      have q := N3_eq (x := -(l.2.2 * l'.2.1 - l'.2.2 * l.2.1)) (y := -(l.1 * l'.2.2 - l'.1 * l.2.2)) (z := -crossF l l') (k := p.2.2) (k' := -crossF l l') (Or.inr (Or.inr (by omega))) (Or.inr (Or.inr (show p.2.2 ≠ 0 by omega))) hp (by omega)
        (by rw [Int.mul_neg, e1, Int.neg_mul]) (by rw [Int.mul_neg, e2, Int.neg_mul]) (Int.mul_comm _ _)
      rw [q, N3_one gp]
  rw [e]
theorem meet_none {l l' : Int × Int × Int} (h : crossF l l' = 0) : crossingD l l' = .n := if_pos h
theorem cross_facing_r (l l' : Int × Int × Int) : crossF l (facingF l') = -crossF l l' := by
  unfold crossF facingF
  grind
theorem cross_facing_l (l l' : Int × Int × Int) : crossF (facingF l) l' = -crossF l l' := by
  unfold crossF facingF
  grind
theorem cross_self (l : Int × Int × Int) : crossF l l = 0 := by
  unfold crossF
  grind
theorem cross_swap (l l' : Int × Int × Int) : crossF l' l = -crossF l l' := by
  unfold crossF
  grind
/-- a parallel line -/
theorem cross_parallel {l r : Int × Int × Int} (hl : l.1 ≠ 0 ∨ l.2.1 ≠ 0) (hr : 0 < r.2.2) : crossF l (halfAtF (N2 l.1 l.2.1) r) = 0 := by
  obtain ⟨g, hg, a1, a2, a3⟩ := N2_of hl
  obtain ⟨gt, hgt, t1, t2, t0⟩ := height_of (u := N2 l.1 l.2.1) hr
  have hu : (N2 l.1 l.2.1).1 ≠ 0 ∨ (N2 l.1 l.2.1).2 ≠ 0 := by
    rcases hl with q | q
    · exact Or.inl fun z => q (a1.trans (by rw [z, Int.mul_zero]))
    · exact Or.inr fun z => q (a2.trans (by rw [z, Int.mul_zero]))
  obtain ⟨m, hm, b1, b2, b3, b4, b5⟩ := from_of (h := heightF (N2 l.1 l.2.1) r) hu t0
  unfold crossF halfAtF
  apply Int.eq_of_mul_eq_mul_left (show m ≠ 0 by omega)
  have f : m * (l.1 * (halfFromF (N2 l.1 l.2.1) (heightF (N2 l.1 l.2.1) r)).2.1 - l.2.1 * (halfFromF (N2 l.1 l.2.1) (heightF (N2 l.1 l.2.1) r)).1) = l.1 * (m * (halfFromF (N2 l.1 l.2.1) (heightF (N2 l.1 l.2.1) r)).2.1) - l.2.1 * (m * (halfFromF (N2 l.1 l.2.1) (heightF (N2 l.1 l.2.1) r)).1) := by grind
  rw [f, ← b1, ← b2, Int.mul_zero]
  have g1 : l.1 * ((N2 l.1 l.2.1).2 * (heightF (N2 l.1 l.2.1) r).2) - l.2.1 * ((N2 l.1 l.2.1).1 * (heightF (N2 l.1 l.2.1) r).2) = (l.1 * (N2 l.1 l.2.1).2 - l.2.1 * (N2 l.1 l.2.1).1) * (heightF (N2 l.1 l.2.1) r).2 := by grind
  rw [g1]
  have g3 : l.1 * (N2 l.1 l.2.1).2 - l.2.1 * (N2 l.1 l.2.1).1 = 0 := by
    revert a1 a2
    generalize N2 l.1 l.2.1 = z
    intro a1 a2
    grind
  rw [g3, Int.zero_mul]
end K8
/-! _law_lines_right. -/
namespace K8
open PySem PySem.Spec PyProof.Rows L2
open Evl (Ex Ex.refl Ex.trans Ex.new fresh_back ex_l)

section
variable {X : Cx} {σ : L2.St} {H H' : Hp} {a b c e : Expr} {es : List Expr} {pos p p1 p2 p3 : Pos} {dd d0 d1 d2 : Dt} {ds : List Dt} {D : Ends} {st : Stmt} {rest body : List Stmt} {n : Str} {w2 : Nat}
theorem Dl.up (e1 : Ex H H') (h : Dl X σ H e ds) : Dl X σ H' e ds := fun H1 e2 Q q => h H1 (e1.trans e2) Q q
theorem Dl.to {es : List Dt} (h : Dl X σ H e ds) (q : ds = es) : Dl X σ H e es := q ▸ h
/-- x, y = a list of two -/
theorem sb_unl2 {x y : Str} {px py pt : Pos} {kt : Nat} (i j : Nat) (h : Dl X σ H e [d1, d2]) (k : ∀ v w H1, Ex H H1 → Rp H1 v d1 → Rp H1 w d2 → Wb X rest D ((σ.set i (some v)).set j (some w)) H1)
    (hg : PG X (.Tuple [.Name x px, .Name y py] kt pt) (gUnl X.K 2 (gCons (gName i) (gCons (gName j) gNil))))
    (hs : swapsWithSole [.Tuple [.Name x px, .Name y py] kt pt] e pos.line X.env = pure false := by rfl) (hw : swappedStores [.Tuple [.Name x px, .Name y py] kt pt] e X.env = pure none := by rfl)
    (h1 : (assignEach [.Tuple [.Name x px, .Name y py] kt pt] X.env).map (·.2) = [assign (.Tuple [.Name x px, .Name y py] kt pt) X.env] := by rfl) :
    Wb X (.Assign [.Tuple [.Name x px, .Name y py] kt pt] e pos :: rest) D σ H :=
  wb_of (pss_cons (ps_asg wx hg hs hw h1) wb) (h H (Ex.refl _) _ fun o vs H1 e1 _ ho r => by
    obtain ⟨v, w, rfl, r1, r2⟩ := Rps.two r
    exact ⟨o, _, rfl, SqL.of ho, rfl, _, _, rfl, _, _, rfl, rfl, k v w H1 e1 r1 r2⟩)
theorem dl_if {v : Bool} (h : Dq X σ H c v) (h1 : v = true → Dl X σ H a ds) (h2 : v = false → Dl X σ H b ds) : Dl X σ H (.IfExp c a b pos) ds := fun H1 e1 Q q =>
  wx_of (pe_ifExp wt wx wx) (h H1 e1 _ fun H2 e2 => by
    cases v with
    | true => exact iteT (h1 rfl H2 (e1.trans e2) _ fun o vs H3 e3 hn ho r => q o vs H3 (e2.trans e3) (fresh_back e2 hn) ho r)
    | false => exact iteF (h2 rfl H2 (e1.trans e2) _ fun o vs H3 e3 hn ho r => q o vs H3 (e2.trans e3) (fresh_back e2 hn) ho r))
theorem dl_nil : Dl X σ H (.List [] pos) [] := fun H1 e1 Q q => wx_of (pe_lst pa_nil) ⟨Nat.zero_le _, fun o ho => q o [] _ (Ex.new ho) ho upd_same .nil⟩
theorem sb_setL (i : Nat) (hN : X.N.Nodup) (h : Dl X σ H e ds) (k : ∀ o vs H1, Ex H H1 → H o = none → H1 o = some (.lst vs) → Rps H1 vs ds → Wb X rest D (σ.set i (some (.ref o))) H1) (hi : X.N[i]? = some n := by rfl) (hx : Loc X.env.scope n := by first | exact Or.inl rfl | exact Or.inr rfl)
    (hs : swapsWith e (some (.Name n p)) pos.line X.env = pure false := by rfl) (hf : X.fn n = true ∨ X.env.scope.names.lookup n = some .local := by first | exact .inl rfl | exact .inr rfl) : Wb X (.Assign [.Name n p] e pos :: rest) D σ H :=
  wb_of (pss_cons (ps_set hN hi hx wx hs hf) wb) (h H (Ex.refl _) _ k)
/-- xs[0], xs[1] of a list of data -/
theorem dv_ixL {o : Addr} {vs : List V} {v : V} (m : Nat) (i : Nat) (hs : σ[i]? = some (some (.ref o))) (ho : H o = some (.lst vs)) (hv : vs[m]? = some v) (r : Rp H v dd) (hN : X.N[i]? = some n := by rfl)
    (hvs : Vis X.env.scope n := by first | exact Or.inl rfl | exact Or.inr (Or.inl rfl) | exact Or.inr (Or.inr rfl)) (hdb : (n == ("__debug__" : Str)) = false := by decide) (hcd : (n == ("__classdict__" : Str)) = false := by decide) :
    Dv X σ H (.Subscript (.Name n p1) (.Constant (.int (m : Int)) w2 p2) pos) dd := fun H1 e1 Q q =>
  wx_of (pe_ix ix_list (pe_var hN hvs hdb hcd) pe_int ixc) ⟨_, hs, o, vs, _, v, rfl, rfl, SqL.of (e1 _ _ ho), atI_nat hv, q v H1 (Ex.refl _) (r.up e1)⟩
/-- xs != [] for a list of tuples of ints -/
theorem dp_tups {K : PySem.W.Frag} : ∀ {vs : List V} {xss : List (List Int)}, Rps H vs (xss.map Dt.t) → DpAll K H vs (xss.map fun xs => PyData.tuple (xs.map PyData.int))
  | _, [], h => by
    cases h
    exact .nil
  | _, xs :: xss, h => by
    cases h with
    | cons r t => exact .cons (dp_tup r) (dp_tups t)
theorem lay_tups : ∀ xss : List (List Int), PyData.canLayAll0 (xss.map fun xs => PyData.tuple (xs.map PyData.int)) = true
  | [] => by simp [PyData.canLayAll0]
  | xs :: xss => by simp [PyData.canLayAll0, PyData.canLay0, lay_ints xs, lay_tups xss]
theorem depth_tups : ∀ xss : List (List Int), PyData.depthAll (xss.map fun xs => PyData.tuple (xs.map PyData.int)) ≤ 1
  | [] => by simp [PyData.depthAll]
  | xs :: xss => by
    have h := depth_tups xss
    simp only [List.map_cons, PyData.depthAll, PyData.depth, depth_ints]
    omega
theorem shaped_tups (xss : List (List Int)) : SeqAt.shaped (.list (xss.map fun xs => PyData.tuple (xs.map PyData.int))) = true := by
  have h := depth_tups xss
  show ((PyData.list _).canLay0 && decide ((PyData.list _).depth ≤ 64)) = true
  rw [Bool.and_eq_true]
  refine ⟨by simp only [PyData.canLay0]; exact lay_tups xss, decide_eq_true ?_⟩
  simp only [PyData.depth]
  omega
theorem eqv_nil : ∀ xss : List (List Int), PyData.eqv (.list (xss.map fun xs => PyData.tuple (xs.map PyData.int))) (.list []) = xss.isEmpty
  | [] => by simp [PyData.eqv, PyData.eqvAll]
  | xs :: xss => by simp [PyData.eqv, PyData.eqvAll]
theorem dq_neNil {o : Addr} {vs : List V} {xss : List (List Int)} (hu : X.A.units + 64 < cLine) (i : Nat) (hs : σ[i]? = some (some (.ref o))) (ho : H o = some (.lst vs)) (r : Rps H vs (xss.map Dt.t)) (hN : X.N[i]? = some n := by rfl)
    (hvs : Vis X.env.scope n := by first | exact Or.inl rfl | exact Or.inr (Or.inl rfl) | exact Or.inr (Or.inr rfl)) (hdb : (n == ("__debug__" : Str)) = false := by decide) (hcd : (n == ("__classdict__" : Str)) = false := by decide) :
    Dq X σ H (.Compare (.Name n p1) [.NotEq] [.List [] p2] pos) (!xss.isEmpty) := fun H1 e1 Q q =>
  wt_of (pt_cmpR (op_neD hu) (pe_var hN hvs hdb hcd) (pe_lst pa_nil) (nm _ (by decide) (by decide))) ⟨_, hs, Nat.zero_le _, fun o2 ho2 => by
    have e2 : Ex H1 (upd H1 o2 (.lst [])) := Ex.new ho2
    refine ⟨_, _, .lst (SqL.of (e2 _ _ (e1 _ _ ho))) (dp_tups (r.up (e1.trans e2))), .lst (SqL.of upd_same) .nil, shaped_tups xss, shaped_tups [], _, rfl, ?_⟩
    rw [eqv_nil]
    exact q _ e2⟩
end

/-! ### what _law_lines_right calls -/
structure LibL (P : Program) (w : World) (K : PySem.W.Frag) (mg : Str → Option Value) (base : Heap) : Prop where
  towards : C8.Cal P w K mg base 4 "towards" spTowards []
  quarter : C8.Cal P w K mg base 1 "quarter" spQuarter []
  half_at : C8.Cal P w K mg base 4 "half_at" spHalfAt []
  on_line : C8.Cal P w K mg base 2 "on_line" spOnLine []
  has : C8.Cal P w K mg base 2 "has" spHas []
  turn : C8.Cal P w K mg base 4 "turn" spTurn []
  normal : C8.Cal P w K mg base 3 "normal" spNormal []
  crossing : C8.Cal P w K mg base 3 "crossing" spCrossing []
  facing : C8.Cal P w K mg base 1 "facing" spFacing []
  is_place : C8.Cal P w K mg base 3 "is_place" spIsPlace []
/-- a place in its form, of so many bits -/
def Pl (n : Nat) (p : Int × Int × Int) : Prop := F3ok n p ∧ g3 p.1 p.2.1 p.2.2 = 1
/-- a line through c towards a, as data of what a is -/
def lineD (c : Int × Int × Int) : Dt → Dt
  | .t [x, y, z] => t3 (lineF c (x, y, z))
  | _ => .n
theorem line_b {n : Nat} {a c : Int × Int × Int} (ha : Pl n a) (hc : Pl n c) (h : a ≠ c) : U2ok (n + n + 1) (-(towardsF c a).2, (towardsF c a).1) ∧ B3 ((n + n + 1) + ((n + n + 1) + n + 1)) (lineF c a) := by
  have hw := way_ne ha.1.1 hc.1.1 ha.2 hc.2 h
  obtain ⟨g, hg, t1, t2, t0⟩ := towards_of hw
  have ok := apart_ok ha.1 hc.1
  have b : B2 (n + n + 1) (towardsF c a) := N2_b hw ok.2.1 ok.2.2.1
  have u : U2ok (n + n + 1) (-(towardsF c a).2, (towardsF c a).1) := ⟨quarter_ne t0, b.2.neg, b.1⟩
  exact ⟨u, halfAt_b u hc.1⟩
section
variable {X : Cx} {σ : L2.St} {H H' : Hp} {e1 e2 e3 : Expr} {pos p1 p2 p3 p4 p5 p6 : Pos} {j : Nat}
/-- half_at(quarter(towards(c, a)), c) -/
theorem dv_line {a c : Int × Int × Int} (T : LibL X.prog X.w X.K X.mg X.base) (hr : Room j X.A) (hj : 4 ≤ j) (h1 : Dv X σ H e1 (t3 c)) (h2 : Dv X σ H e2 (t3 a)) (h3 : Dv X σ H e3 (t3 c)) (ha : Pl 30 a) (hc : Pl 30 c) (hn : a ≠ c)
    (g1 : Gl X "half_at") (g2 : Gl X "quarter") (g3 : Gl X "towards") (s1 : starEach [e1, e2] X.env = (false, eval e1 X.env) :: starEach [e2] X.env) (s2 : starEach [e2] X.env = (false, eval e2 X.env) :: starEach [] X.env)
    (s3 : starEach [e3] X.env = (false, eval e3 X.env) :: starEach [] X.env) (l1 : (backTo p6 (starEach [e2] X.env)).any (·.1) = false) (l2 : (backTo pos (starEach [e3] X.env)).any (·.1) = false) :
    Dv X σ H (.Call (.Name "half_at" p1) [.Call (.Name "quarter" p2) [.Call (.Name "towards" p3) [e1, e2] [] p6] [] p4, e3] [] pos) (t3 (lineF c a)) := by
  have lb := (line_b ha hc hn).1
  exact dv_call ((-(towardsF c a).2, (towardsF c a).1), c) T.half_at hr hj g1 (da_cons (dv_call (towardsF c a) T.quarter hr (by omega) g2 (da_cons (dv_call (c, a) T.towards hr (by omega) g3 (da_cons h1 (da_cons h2 da_nil s2) s1) ⟨hc.1.up (by decide), ha.1.up (by decide), way_ne ha.1.1 hc.1.1 ha.2 hc.2 hn⟩ (by decide) s1 l1) da_nil) trivial) (da_cons h3 da_nil s3))
    ⟨lb.up (by decide), hc.1.up (by decide)⟩ (by decide) rfl l2
end
section
variable {P : Program} {w : World} {K : PySem.W.Frag} {mg : Str → Option Value} {base : Heap}
abbrev sLines : Stmt := topS 49
abbrev nLines : List Str := ["_law_p", "_law_q", "_law_r", "_law_one", "_law_other", "_law_parallel", "_law_far", "_law_told", "_law_spot"]
theorem scLines : FnScope nLines ["_law_p", "_law_q", "_law_r"] (defScope sLines) := ⟨rfl, rfl, rfl, by decide +kernel, rfl, by decide +kernel, by decide +kernel⟩
abbrev spLines : Sp := pSp ar333 (fun a => Pl 30 a.1 ∧ Pl 30 a.2.1 ∧ Pl 30 a.2.2 ∧ a.2.1 ≠ a.1 ∧ a.2.2 ≠ a.1) (fun _ => .b true)
theorem turn_ge (p q r : Int × Int × Int) : decide (0 ≤ turnF p q r) = decide (0 ≤ crossF (apartF q p) (apartF r p)) := by
  unfold turnF b2i
  rcases Int.lt_trichotomy (crossF (apartF q p) (apartF r p)) 0 with h | h | h
  · rw [decide_eq_true h, decide_eq_false (show ¬ 0 < crossF (apartF q p) (apartF r p) by omega), decide_eq_false (show ¬ 0 ≤ crossF (apartF q p) (apartF r p) by omega)] <;> rfl
  · rw [h] <;> rfl
  · rw [decide_eq_false (show ¬ crossF (apartF q p) (apartF r p) < 0 by omega), decide_eq_true h, decide_eq_true (show 0 ≤ crossF (apartF q p) (apartF r p) by omega)] <;> rfl
theorem turn_zero (p q r : Int × Int × Int) : turnF p q r = 0 ↔ crossF (apartF q p) (apartF r p) = 0 := by
  unfold turnF b2i
  rcases Int.lt_trichotomy (crossF (apartF q p) (apartF r p)) 0 with h | h | h
  · rw [decide_eq_true h, decide_eq_false (show ¬ 0 < crossF (apartF q p) (apartF r p) by omega)]
    exact ⟨fun z => absurd z (by decide), fun z => absurd z (by omega)⟩
  · rw [h]
    exact ⟨fun _ => rfl, fun _ => rfl⟩
  · rw [decide_eq_false (show ¬ crossF (apartF q p) (apartF r p) < 0 by omega), decide_eq_true h]
    exact ⟨fun z => absurd z (by decide), fun z => absurd z (by omega)⟩
theorem cal_lines (T : LibL P w K mg base) (D : Df K mg "_law_lines_right" sLines) : C8.Cal P w K mg base 5 "_law_lines_right" spLines [] := by
  refine cal_d (k := 4) D (fun _ _ _ _ _ _ us hl => match us, hl with | [_, _, _], _ => rfl) scLines (fun _ => rfl) ?_
  rintro f cdv A outer s H E vs ⟨p, q, r⟩ D hr rr ⟨hp, hq, hr', hqp, hrp⟩ k
  obtain ⟨v1, v2, v3, rfl, r1, r2, r3⟩ := Rps.three (show Rps H vs [t3 p, t3 q, t3 r] from rr)
  replace hp : Pl 30 p := hp
  replace hq : Pl 30 q := hq
  replace hr' : Pl 30 r := hr'
  replace hqp : q ≠ p := hqp
  replace hrp : r ≠ p := hrp
  have wq := way_ne hq.1.1 hp.1.1 hq.2 hp.2 hqp
  have wr := way_ne hr'.1.1 hp.1.1 hr'.2 hp.2 hrp
  have bq := (line_b hq hp hqp).2
  have br := (line_b hr' hp hrp).2
  -- the mathematics
  obtain ⟨m1, n1, hm1, hn1, x1⟩ := line_depth (r := q) hq.1.1 hp.1.1 wq
  have y1 : depthF (lineF p q) q = 0 := (sign_of hm1 hn1 x1).2.1.mpr (dt_same q p)
  obtain ⟨m2, n2, hm2, hn2, x2⟩ := line_depth (r := r) hr'.1.1 hp.1.1 wr
  have y2 : depthF (lineF p r) r = 0 := (sign_of hm2 hn2 x2).2.1.mpr (dt_same r p)
  obtain ⟨m3, n3, hm3, hn3, x3⟩ := line_depth (r := r) hq.1.1 hp.1.1 wq
  obtain ⟨m4, n4, hm4, hn4, x4⟩ := apart_cross (a := q) (b := r) (c := p) hq.1.1 hr'.1.1 hp.1.1
  have y3 : decide (0 ≤ depthF (lineF p q) r) = decide (0 ≤ turnF p q r) := by
    rw [turn_ge]
    exact decide_eq_decide.mpr ((sign_of hm3 hn3 x3).1.trans (sign_of hm4 hn4 x4).1.symm)
  obtain ⟨_, _, _, _, _, _, p1, o1⟩ := line_of hq.1.1 hp.1.1 wq
  obtain ⟨_, _, _, _, _, _, p2, o2⟩ := line_of hr'.1.1 hp.1.1 wr
  obtain ⟨m5, n5, hm5, hn5, x5⟩ := line_cross hq.1.1 hr'.1.1 hp.1.1 wq wr
  have y5 : crossF (lineF p q) (lineF p r) = 0 ↔ turnF p q r = 0 := (sign_of hm5 hn5 x5).2.1.trans ((sign_of hm4 hn4 x4).2.1.symm.trans (turn_zero p q r).symm)
  have y4 : dt q r p = 0 ↔ turnF p q r = 0 := (sign_of hm4 hn4 x4).2.1.symm.trans (turn_zero p q r).symm
  -- one, other
  refine sb_unl2 3 4 (Dl.to (dl_comp (g := lineD p) 6 rfl scLines.nd (blkOk_by (N := nLines) (sc := defScope sLines) (by decide +kernel)) (du_tup (da_cons (dv_var 1 rfl r2) (da_cons (dv_var 2 rfl r3) da_nil)) (by show 2 ≤ 100; decide)) (by show 2 ≤ 100; decide) (fun _ _ _ _ _ => pg_name scLines.nd rfl (Or.inl rfl)) ?he) rfl) (fun v4 v5 H1 e1 r4 r5 => ?_)
    (pg_unl rfl (pgs_cons (pg_name (i := 3) scLines.nd rfl (.inl rfl)) (pgs_cons (pg_name (i := 4) scLines.nd rfl (.inl rfl)) pgs_nil)))
  case he =>
    intro s0 H0 C cl fp v d H1 e1 hd rv
    have r1' := r1.up e1
    have hcase : ∃ a, d = t3 a ∧ Pl 30 a ∧ a ≠ p := by
      simp only [List.mem_cons, List.not_mem_nil, or_false] at hd
      rcases hd with z | z
      · exact ⟨q, z, hq, hqp⟩
      · exact ⟨r, z, hr', hrp⟩
    obtain ⟨a, rfl, ha, hn⟩ := hcase
    exact dv_line (X := (Bx P w K mg base nLines "_law_lines_right" sLines f cdv A outer s H E).blk s0 H0 _ _ fp) T hr (by decide) (dv_var 0 rfl r1') (dv_var 6 rfl rv) (dv_var 0 rfl r1') ha hp hn rfl rfl rfl rfl rfl rfl rfl rfl
  replace r1 := r1.up e1
  replace r2 := r2.up e1
  replace r3 := r3.up e1
  replace r4 : Rp H1 v4 (t3 (lineF p q)) := r4
  replace r5 : Rp H1 v5 (t3 (lineF p r)) := r5
  have q1000 := hq.1.b.up (show 30 ≤ 1000 by decide)
  have r1000 := hr'.1.b.up (show 30 ≤ 1000 by decide)
  have bq1 := bq.up (show _ ≤ 1000 by decide)
  have br1 := br.up (show _ ≤ 1000 by decide)
  have tn : ∀ {H1 : Hp} {σ : L2.St} {q1 q2 q3 q4 q5}, σ[0]? = some (some v1) → σ[1]? = some (some v2) → σ[2]? = some (some v3) → Rp H1 v1 (t3 p) → Rp H1 v2 (t3 q) → Rp H1 v3 (t3 r) →
      Dv (Bx P w K mg base nLines "_law_lines_right" sLines f cdv A outer s H E) σ H1 (.Call (.Name "turn" q1) [.Name "_law_p" q2, .Name "_law_q" q3, .Name "_law_r" q4] [] q5) (.i (turnF p q r)) := fun {_ _ _ _ _ _ _} s1 s2 s3 r1 r2 r3 =>
    dv_call (p, q, r) T.turn hr (by decide) (by rfl) (da_cons (dv_var 0 s1 r1) (da_cons (dv_var 1 s2 r2) (da_cons (dv_var 2 s3 r3) da_nil))) ⟨hp.1.up (by decide), hq.1.up (by decide), hr'.1.up (by decide)⟩
  refine sb_skip (Dq.to (Dw.q (dw_or (dq_not (dq_val (dv_call (lineF p q, q) T.on_line hr (by decide) (by rfl) (da_cons (dv_var 3 rfl r4) (da_cons (dv_var 1 rfl r2) da_nil)) ⟨bq1, q1000⟩))) fun _ => dw_or (dq_not (dq_val (dv_call (lineF p r, r) T.on_line hr (by decide) (by rfl) (da_cons (dv_var 4 rfl r5) (da_cons (dv_var 2 rfl r3) da_nil)) ⟨br1, r1000⟩))) fun _ =>
      dw_or1 (dq_neB (dv_call (lineF p q, r) T.has hr (by decide) (by rfl) (da_cons (dv_var 3 rfl r4) (da_cons (dv_var 2 rfl r3) da_nil)) ⟨bq1, r1000⟩) (dv_ge (tn rfl rfl rfl r1 r2 r3) dv_int)))) ?_) fun H2 e2 => ?_
  · rw [decide_eq_true y1, decide_eq_true y2, y3]
    show (!true || (!true || (_ != _))) = false
    rw [bne_self_eq_false] <;> rfl
  replace r1 := r1.up e2
  replace r2 := r2.up e2
  replace r3 := r3.up e2
  replace r4 := r4.up e2
  replace r5 := r5.up e2
  -- a parallel line
  have nb : U2ok 153 (N2 (lineF p q).1 (lineF p q).2.1) := by
    obtain ⟨g, hg, a1, a2, a3⟩ := N2_of o1
    refine ⟨?_, N2_b o1 bq.1 bq.2.1⟩
    rcases o1 with z | z
    · exact Or.inl fun h => z (a1.trans (by rw [h, Int.mul_zero]))
    · exact Or.inr fun h => z (a2.trans (by rw [h, Int.mul_zero]))
  refine sb_set 5 scLines.nd (dv_call (N2 (lineF p q).1 (lineF p q).2.1, r) T.half_at hr (by decide) (by rfl) (da_cons (dv_call (lineF p q) T.normal hr (by decide) (by rfl) (da_cons (dv_var 3 rfl r4) da_nil) ⟨o1, bq1⟩) (da_cons (dv_var 2 rfl r3) da_nil)) ⟨nb.up (by decide), hr'.1.up (by decide)⟩) fun v6 H3 e3 r6 => ?_
  replace r1 := r1.up e3
  replace r2 := r2.up e3
  replace r3 := r3.up e3
  replace r4 := r4.up e3
  replace r5 := r5.up e3
  replace r6 : Rp H3 v6 (t3 (halfAtF (N2 (lineF p q).1 (lineF p q).2.1) r)) := r6
  have b6 : B3 1000 (halfAtF (N2 (lineF p q).1 (lineF p q).2.1) r) := (halfAt_b nb hr'.1).up (by decide)
  have bf : ∀ {l : Int × Int × Int}, B3 1000 l → B3 1000 (facingF l) := fun h => ⟨h.1.neg, h.2.1.neg, h.2.2.neg⟩
  refine sb_skip (Dq.to (Dw.q (dw_or (dq_notN (dv_call (lineF p q, halfAtF (N2 (lineF p q).1 (lineF p q).2.1) r) T.crossing hr (by decide) (by rfl) (da_cons (dv_var 3 rfl r4) (da_cons (dv_var 5 rfl r6) da_nil)) ⟨bq1, b6⟩)) fun _ =>
      dw_or1 (dq_notN (dv_call (lineF p q, facingF (lineF p q)) T.crossing hr (by decide) (by rfl) (da_cons (dv_var 3 rfl r4) (da_cons (dv_call (lineF p q) T.facing hr (by decide) (by rfl) (da_cons (dv_var 3 rfl r4) da_nil) trivial) da_nil)) ⟨bq1, bf bq1⟩)))) ?_) fun H4 e4 => ?_
  · show (!isN (crossingD (lineF p q) (halfAtF (N2 (lineF p q).1 (lineF p q).2.1) r)) || !isN (crossingD (lineF p q) (facingF (lineF p q)))) = false
    rw [meet_none (cross_parallel o1 hr'.1.1), meet_none (by rw [cross_facing_r, cross_self, Int.neg_zero])] <;> rfl
  replace r1 := r1.up e4
  replace r2 := r2.up e4
  replace r3 := r3.up e4
  replace r4 := r4.up e4
  replace r5 := r5.up e4
  have e04 := ((e1.trans e2).trans e3).trans e4
  by_cases h0 : turnF p q r = 0
  · -- all in one line
    refine sb_setL 6 scLines.nd (dl_if (v := false) (Dq.to (dq_neI (tn rfl rfl rfl r1 r2 r3) dv_int) (by rw [decide_eq_true h0] <;> rfl)) (fun z => nomatch z) (fun _ => dl_nil)) fun o vs H5 e5 _ ho rs => ?_
    replace r1 := r1.up e5
    replace r2 := r2.up e5
    replace r3 := r3.up e5
    replace r4 := r4.up e5
    replace r5 := r5.up e5
    refine sb_skip (Dq.to (v := (!([] : List (List Int)).isEmpty && false)) (Dw.q (dw_and (dq_neNil (xss := []) hr.units 6 rfl ho rs) fun z => nomatch z)) rfl) fun H6 e6 => ?_
    replace r1 := r1.up e6
    replace r2 := r2.up e6
    replace r3 := r3.up e6
    replace r4 := r4.up e6
    replace r5 := r5.up e6
    refine sb_set 7 scLines.nd (dv_call (lineF p q, lineF p r) T.crossing hr (by decide) (by rfl) (da_cons (dv_var 3 rfl r4) (da_cons (dv_var 4 rfl r5) da_nil)) ⟨bq1, br1⟩) fun v8 H7 e7 r8 => ?_
    replace r8 : Rp H7 v8 .n := by rw [← meet_none (y5.mpr h0)]; exact r8
    refine sb_if (Dq.to (dq_eqI (tn rfl rfl rfl (r1.up e7) (r2.up e7) (r3.up e7)) dv_int) (decide_eq_true h0)) (fun _ H8 e8 => ?_) (fun z => nomatch z)
    replace r8 := r8.up e8
    exact sb_ret (dv_isN (dv_var 7 rfl r8)) fun v H9 e9 rv => k v H9 (((((e04.trans e5).trans e6).trans e7).trans e8).trans e9) rv
  · -- a triangle
    have hqr : q ≠ r := by
      intro z
      apply h0
      rw [turn_zero, z, cross_self]
    have wpr := way_ne hp.1.1 hr'.1.1 hp.2 hr'.2 (Ne.symm hrp)
    have wqr := way_ne hq.1.1 hr'.1.1 hq.2 hr'.2 hqr
    have c1 := ((line_b hp hr' (Ne.symm hrp)).2).up (show _ ≤ 1000 by decide)
    have c2 := ((line_b hq hr' hqr).2).up (show _ ≤ 1000 by decide)
    obtain ⟨_, _, _, _, _, _, p3, _⟩ := line_of hp.1.1 hr'.1.1 wpr
    obtain ⟨_, _, _, _, _, _, p4, _⟩ := line_of hq.1.1 hr'.1.1 wqr
    obtain ⟨m6, n6, hm6, hn6, x6⟩ := line_cross hp.1.1 hq.1.1 hr'.1.1 wpr wqr
    have y6 : crossF (lineF r p) (lineF r q) ≠ 0 := fun z => h0 (y4.mp (by rw [← dt_turn] at x6; exact (sign_of hm6 hn6 x6).2.1.mp z))
    have w1 : crossingD (lineF r p) (lineF r q) = t3 r := meet_of hr'.1.1 hr'.2 p3 p4 y6
    have w2 : crossingD (lineF r q) (facingF (lineF r p)) = t3 r := meet_of hr'.1.1 hr'.2 p4 (by rw [depth_facing, p3, Int.neg_zero]) (by rw [cross_facing_r, cross_swap]; omega)
    have w3 : crossingD (lineF p q) (lineF p r) = t3 p := meet_of hp.1.1 hp.2 p1 p2 (fun z => h0 (y5.mp z))
    have w4 : crossingD (facingF (lineF p r)) (lineF p q) = t3 p := meet_of hp.1.1 hp.2 (by rw [depth_facing, p2, Int.neg_zero]) p1 (by rw [cross_facing_l, cross_swap]; exact fun z => h0 (y5.mp (by omega)))
    refine sb_setL (ds := [t3 (lineF r p), t3 (lineF r q)]) 6 scLines.nd (dl_if (v := true) (Dq.to (dq_neI (tn rfl rfl rfl r1 r2 r3) dv_int) (by rw [decide_eq_false h0] <;> rfl)) (fun _ => Dl.to (dl_comp (g := lineD r) 8 rfl scLines.nd (blkOk_by (N := nLines) (sc := defScope sLines) (by decide +kernel)) (du_tup (da_cons (dv_var 0 rfl r1) (da_cons (dv_var 1 rfl r2) da_nil)) (by show 2 ≤ 100; decide)) (by show 2 ≤ 100; decide) (fun _ _ _ _ _ => pg_name scLines.nd rfl (Or.inl rfl)) ?he2) rfl) (fun z => nomatch z)) fun o vs H5 e5 _ ho rs => ?_
    case he2 =>
      intro s0 H0 C cl fp v d H1 e1 hd rv
      have r3' := r3.up e1
      have hcase : ∃ a, d = t3 a ∧ Pl 30 a ∧ a ≠ r := by
        simp only [List.mem_cons, List.not_mem_nil, or_false] at hd
        rcases hd with z | z
        · exact ⟨p, z, hp, Ne.symm hrp⟩
        · exact ⟨q, z, hq, hqr⟩
      obtain ⟨a, rfl, ha, hn⟩ := hcase
      exact dv_line (X := (Bx P w K mg base nLines "_law_lines_right" sLines f cdv A outer s H E).blk s0 H0 _ _ fp) T hr (by decide) (dv_var 2 rfl r3') (dv_var 8 rfl rv) (dv_var 2 rfl r3') ha hr' hn rfl rfl rfl rfl rfl rfl rfl rfl
    replace r1 := r1.up e5
    replace r2 := r2.up e5
    replace r3 := r3.up e5
    replace r4 := r4.up e5
    replace r5 := r5.up e5
    obtain ⟨f0, f1, rfl, rf0, rf1⟩ := Rps.two rs
    refine sb_skip (Dq.to (Dw.q (dw_and (dq_neNil (xss := [[(lineF r p).1, (lineF r p).2.1, (lineF r p).2.2], [(lineF r q).1, (lineF r q).2.1, (lineF r q).2.2]]) hr.units 6 rfl ho rs) fun _ => dw_and1 (Dw.q (dw_or
        (dq_neT hr.units (Dv.to (dv_call (lineF r p, lineF r q) T.crossing hr (by decide) (by rfl) (da_cons (dv_ixL 0 6 rfl ho rfl rf0) (da_cons (dv_ixL 1 6 rfl ho rfl rf1) da_nil)) ⟨c1, c2⟩) w1) (dv_var 2 rfl r3)) fun _ => dw_or1
        (dq_neT hr.units (Dv.to (dv_call (lineF r q, facingF (lineF r p)) T.crossing hr (by decide) (by rfl) (da_cons (dv_ixL 1 6 rfl ho rfl rf1) (da_cons (dv_call (lineF r p) T.facing hr (by decide) (by rfl) (da_cons (dv_ixL 0 6 rfl ho rfl rf0) da_nil) trivial) da_nil)) ⟨c2, bf c1⟩) w2) (dv_var 2 rfl r3)))))) ?_) fun H6 e6 => ?_
    · rw [decide_eq_true (by rfl)] <;> rfl
    replace r1 := r1.up e6
    replace r2 := r2.up e6
    replace r3 := r3.up e6
    replace r4 := r4.up e6
    replace r5 := r5.up e6
    refine sb_set 7 scLines.nd (Dv.to (dv_call (lineF p q, lineF p r) T.crossing hr (by decide) (by rfl) (da_cons (dv_var 3 rfl r4) (da_cons (dv_var 4 rfl r5) da_nil)) ⟨bq1, br1⟩) w3) fun v8 H7 e7 r8 => ?_
    replace r1 := r1.up e7
    replace r4 := r4.up e7
    replace r5 := r5.up e7
    refine sb_skip (Dq.to (dq_eqI (tn rfl rfl rfl r1 (r2.up e7) (r3.up e7)) dv_int) (decide_eq_false h0)) fun H8 e8 => ?_
    replace r1 := r1.up e8
    replace r4 := r4.up e8
    replace r5 := r5.up e8
    replace r8 := r8.up e8
    refine sb_ret (Dv.to (dv_and (dv_eqT hr.units (dv_var 7 rfl r8) (dv_var 0 rfl r1)) fun _ => dv_and (dv_call p T.is_place hr (by decide) (by rfl) (da_cons (dv_var 7 rfl r8) da_nil) trivial) fun _ => dv_one (dv_eqT hr.units (Dv.to (dv_call (facingF (lineF p r), lineF p q) T.crossing hr (by decide) (by rfl) (da_cons (dv_call (lineF p r) T.facing hr (by decide) (by rfl) (da_cons (dv_var 4 rfl r5) da_nil) trivial) (da_cons (dv_var 3 rfl r4) da_nil)) ⟨bf br1, bq1⟩) w4) (dv_var 0 rfl r1))) ?_)
      fun v H9 e9 rv => k v H9 (((((e04.trans e5).trans e6).trans e7).trans e8).trans e9) rv
    rw [decide_eq_true (show p.1 :: [p.2.1, p.2.2] = [p.1, p.2.1, p.2.2] from rfl)]
    show Dt.b (true && ((true && (decide (0 < p.2.2) && decide (g3 p.1 p.2.1 p.2.2 = 1))) && true)) = Dt.b true
    rw [decide_eq_true hp.1.1, decide_eq_true hp.2] <;> rfl
end
end K8
/-! Defs that are called where no text of an object is being made: repr. -/
namespace K8
open PySem PySem.Spec PyProof.Rows L2
open Evl (Ex Ex.refl Ex.trans Ex.new fresh_back ex_l)

/-- a def's promise, kept wherever no repr is under way -/
structure Gd (P : Program) (w : World) (K : PySem.W.Frag) (mg : Str → Option Value) (base : Heap) (k : Nat) (x : Str) (ps : List Str) (sp : Sp) (f : Addr) (fd : FuncData) : Prop where
  len : ∀ us H Q E, sp us H Q E → us.length = ps.length
  at_ : mg x = some (.ref f)
  keep : PySem.W.keepIn K (.ref f) = true
  binds : Binds K fd ps []
  go : ∀ (A : Around) (outer : List Env) (s : Shared) (H : Hp) (args : Args) (us : List Value) (vs : List V) (Q : VK), A.guards = some [] → Room k A → Env0 P w K mg base A outer s H → BindsTo s fd args (ps.zip us) → Vals vs us →
    sp vs H Q E0 → codeAny (model P w) A (.call (.ref f) args) (CR CX0 outer P w H s Q E0) s
section
variable {P : Program} {w : World} {K : PySem.W.Frag} {mg : Str → Option Value} {base : Heap}
theorem gd_of {x : Str} {st : Stmt} {N ps : List Str} {k : Nat} {sp : Sp} {f : Addr} {fd : FuncData} (F : Fun K x x st f fd) (hm : mg x = some (.ref f))
    (bd : ∀ (kV doc pm : Value) (an : Option Addr) (cdv ct : Value) (us : List Value), us.length = ps.length → bindArgs (PySem.W.fnOf x x (defArgs st) (defBody st) (defScope st) .none kV doc pm an cdv ct) ⟨us, []⟩ = pure (ps.zip us))
    (S : FnScope N ps (defScope st)) (hlen : ∀ vs H Q E, sp vs H Q E → vs.length = ps.length)
    (body : ∀ (cdv : Value) (A : Around) (outer : List Env) (s : Shared) (H : Hp) (vs : List V) (Q : VK), (Bx P w K mg base N x st f cdv A outer s H E0).A.guards = some [] → Room k (Bx P w K mg base N x st f cdv A outer s H E0).A → sp vs H Q E0 →
      Wb (Bx P w K mg base N x st f cdv A outer s H E0) (defBody st) { nx := fun _ H' => Q .non H', rt := Q } (start N vs) H) : Gd P w K mg base (k + 1) x ps sp f fd := by
  have bnd := F.binds bd
  have kp := F.kp
  obtain ⟨oc, od, kV, doc, pm, an, cdv, ct, osl, he, lk, hcd⟩ := F.ex
  subst he
  constructor
  case len => exact hlen
  case at_ => exact hm
  case keep => exact kp
  case binds => exact bnd
  case go =>
    intro A outer s H args us vs Q hgd hr e0 hb r hsp
    have stays : ∀ b o, base.get? b = some o → s.heap.get? b = some o := fun b o e => (e0.bs b o e).1
    have inK : K.In s.heap := e0.mod.kin.keeps stays
    have noLim : s.heap.NoLimit := e0.mod.nolimit.keeps stays
    have cells : ∀ y ∈ ps.zip us, (defScope st).names.lookup y.1 = some .local ∨ ((defScope st).names.lookup y.1 = some .cell ∧ ((cellsFrom (s.heap.objs.size + 1) (defScope st).names []).lookup y.1).isSome = true) := by
      rintro ⟨n, v⟩ hy
      have hn := S.par n (List.of_mem_zip hy).1
      exact hn.elim Or.inl fun q => Or.inr ⟨q, PySem.W.cellsFrom_some _ _ _ (Or.inl q)⟩
    apply codeAny_call_function hr.depth (inK _ _ lk) rfl S.co S.gen rfl (PySem.W.codeRec_of inK hcd)
    refine hb _ _ _ _ ?_
    refine wpAny_newFunctionEnv_cells S.kind cells fun env he s1 entered => ?_
    subst he
    refine ⟨noLim.keeps entered.toInCall.keep, codeAny_func ?_⟩
    have I0 := inv_start (CX := CX0) (E := E0) S hr.hd e0 (hlen _ _ _ _ hsp) r entered
    have run := (wb (X := Bx P w K mg base N x st f cdv A outer s H E0)).nox.run [] s1 (start N vs) H { nx := fun _ H' => Q .non H', rt := Q } I0 (body cdv A outer s H vs Q hgd (hr.deeper _) hsp)
    refine wpAny_mono run (fun fl s' hs => ?_) fun e s' hs => hs
    match fl, hs with
    | .ret u, ⟨v, _, H', J, rv, q⟩ => exact ⟨v, H', J.os, J.bare, J.base, J.hok, rv, q⟩
    | .next, ⟨_, H', J, q⟩ => exact ⟨.non, H', J.os, J.bare, J.base, J.hok, rfl, q⟩
    | .brk, ⟨_, _, _, q⟩ => exact q.elim
    | .cont, ⟨_, _, _, q⟩ => exact q.elim
end
section
variable {X : Cx} {σ : L2.St} {H : Hp} {e : Expr} {es : List Expr} {pos p : Pos} {n : Str} {k j : Nat} {sp : Sp} {ps : List Str} {f : Addr} {fd : FuncData} {Q : VK}
theorem wx_g (g : Gd X.prog X.w X.K X.mg X.base k n ps sp f fd) (hgd : X.A.guards = some []) (hr : Room j X.A) (hk : k ≤ j) (hg : Gl X n) (h : Wa X (e :: es) σ H fun vs H1 => sp vs H1 Q E0)
    (hdb : (n == ("__debug__" : Str)) = false := by decide) (he : starEach (e :: es) X.env = (false, eval e X.env) :: starEach es X.env := by rfl) (hpl : (backTo pos (starEach es X.env)).any (·.1) = false := by rfl) : Wx X (.Call (.Name n p) (e :: es) [] pos) σ H Q := by
  intro pins s I
  apply wpAny_Call_Name_kw
  refine ld_glob I hg g.at_ ?_ hdb
  refine PySem.W.callWith_K (h₀ := X.base) I.ok.mod.kin g.keep ?_ he hpl
  refine thn (h pos pins s I) fun us s1 ⟨vs, H1, I1, r, q⟩ => ⟨I1.kIn, wpAny_call ?_⟩
  have hl : us.length = ps.length := r.length.symm.trans (g.len _ _ _ _ q)
  have bt := g.binds s1 us I1.kIn (by rw [List.append_nil]; exact hl)
  rw [List.append_nil] at bt
  refine codeAny_mono (g.go X.A X.stack s1 H1 ⟨us, []⟩ us vs Q hgd (hr.mono hk) I1.env0 bt r q) fun res s' hq => ?_
  match res, hq with
  | .ok (.ret u), hq => exact I1.after hq
  | .ok .next, hq => exact (show False from hq).elim
  | .ok .brk, hq => exact (show False from hq).elim
  | .ok .cont, hq => exact (show False from hq).elim
  | .error _, hq => exact (show False from hq).elim
end

/-! ### repr of a list of tuples of ints -/
abbrev tupsD (xss : List (List Int)) : PyData := .list (xss.map fun xs => PyData.tuple (xs.map PyData.int))
theorem showable_tups : ∀ {xss : List (List Int)}, (∀ xs ∈ xss, ∀ x ∈ xs, x.natAbs < 10 ^ 12) → PyData.showableAll (xss.map fun xs => PyData.tuple (xs.map PyData.int)) = true
  | [], _ => by simp [PyData.showableAll]
  | xs :: xss, h => by
    have h1 : PyData.showableAll (xs.map PyData.int) = true := PyData.showableAll_ints xs fun n hn => by
      have b : n.natAbs.log2 ≤ 39 := PySem.W.mg_log (Nat.lt_of_lt_of_le (h xs List.mem_cons_self n hn) (by decide))
      omega
    simp only [List.map_cons, PyData.showableAll, PyData.showable, h1, showable_tups fun ys hy => h ys (List.mem_cons_of_mem _ hy), Bool.and_self]
theorem short_tups : ∀ {xss : List (List Int)}, (∀ xs ∈ xss, ∀ x ∈ xs, x.natAbs < 10 ^ 12) → PyData.intsShortAll 13 (xss.map fun xs => PyData.tuple (xs.map PyData.int)) = true
  | [], _ => by simp [PyData.intsShortAll]
  | xs :: xss, h => by
    have h1 := PyData.intsShortAll_ints xs fun n hn => h xs List.mem_cons_self n hn
    simp only [List.map_cons, PyData.intsShortAll, PyData.intsShort, h1, short_tups fun ys hy => h ys (List.mem_cons_of_mem _ hy), Bool.and_self]
theorem log_of {x : Int} (h : x.natAbs < 10 ^ 12) : x.natAbs.log2 ≤ 39 := PySem.W.mg_log (Nat.lt_of_lt_of_le h (by decide))
theorem weight_ints : ∀ {xs : List Int}, (∀ x ∈ xs, x.natAbs < 10 ^ 12) → PyData.weightAll (xs.map PyData.int) ≤ 41 * xs.length
  | [], _ => by simp [PyData.weightAll]
  | x :: xs, h => by
    have h1 := weight_ints fun y hy => h y (List.mem_cons_of_mem x hy)
    have h2 := log_of (h x List.mem_cons_self)
    have h3 : PyData.weight (.int x) ≤ 40 := by
      simp only [PyData.weight]
      split <;> omega
    simp only [List.map_cons, PyData.weightAll, List.length_cons]
    omega
theorem weight_tups : ∀ {xss : List (List Int)}, (∀ xs ∈ xss, ∀ x ∈ xs, x.natAbs < 10 ^ 12) → (∀ xs ∈ xss, xs.length ≤ 10) → PyData.weightAll (xss.map fun xs => PyData.tuple (xs.map PyData.int)) ≤ 411 * xss.length
  | [], _, _ => by simp [PyData.weightAll]
  | xs :: xss, h, hl => by
    have h1 := weight_tups (fun ys hy => h ys (List.mem_cons_of_mem xs hy)) fun ys hy => hl ys (List.mem_cons_of_mem xs hy)
    have h2 := weight_ints (h xs List.mem_cons_self)
    have h3 := hl xs List.mem_cons_self
    simp only [List.map_cons, PyData.weightAll, PyData.weight, List.length_cons]
    omega
/-- the text of it -/
theorem fits_tups {xss : List (List Int)} (h : ∀ xs ∈ xss, ∀ x ∈ xs, x.natAbs < 10 ^ 12) (hw : (tupsD xss).weight ≤ 2 ^ 20) : (tupsD xss).shown.length ≤ sizeLine := by
  refine PyData.shown_fits (B := 13) (by decide) (by decide) (PyData.leavesShort_of_canLay0 13 _ ?_ ?_) hw
  · simp only [PyData.canLay0]
    exact lay_tups xss
  · simp only [PyData.intsShort]
    exact short_tups h
def rRepr (K : PySem.W.Frag) : List V → Hp → VK → Prop := fun vs H Q => ∃ (o : Addr) (us : List V) (xss : List (List Int)), vs = [.ref o] ∧ H o = some (.lst us) ∧ Rps H us (xss.map Dt.t) ∧ (∀ xs ∈ xss, ∀ x ∈ xs, x.natAbs < 10 ^ 12) ∧ (∀ xs ∈ xss, xs.length ≤ 10) ∧ xss.length ≤ 10 ∧ Q (.str (tupsD xss).shown) H
theorem call_reprL {X : Cx} (hgd : X.A.guards = some []) (hu : X.A.units + 64 < cLine) : CallR X (.builtin "repr") (rRepr X.K) := by
  intro pins s σ H vs
  intro us Q I r h
  obtain ⟨o, xs, xss, rfl, ho, rs, hb, hl, hm, q⟩ := h
  have hw : (tupsD xss).weight ≤ 2 ^ 20 := by
    have := weight_tups hb hl
    simp only [tupsD, PyData.weight]
    omega
  have e := r.ref1
  subst e
  obtain ⟨as, rd⟩ := Dp.reads I (tupsD xss) (.ref o) (.ref o) (.lst (SqL.of ho) (dp_tups rs)) rfl
  have dep : (tupsD xss).depth ≤ 2 := by
    have := depth_tups xss
    simp only [tupsD, PyData.depth]
    omega
  refine repr_of_reads' rd ?_ (noDict_ok xss) hgd (by omega) (fun _ _ e => e) (fun h' u tk keep => ?_) (fits_tups hb hw)
  · simp only [tupsD, PyData.showable]
    exact showable_tups hb
  · exact ⟨.str _, H, I.kept (t' := tk) keep, ⟨u, rfl⟩, q⟩
where noDict_ok {as : List Addr} (xss : List (List Int)) : (tupsD xss).hasDict = true → sysModules ∉ as := PyData.noDict_hsm (PyData.hasDict_of_canLay _ (by simp only [tupsD, PyData.canLay0]; exact lay_tups xss))
end K8
/-! _law_heights_right. -/
namespace K8
open PySem PySem.Spec PyProof.Rows L2
open Evl (Ex Ex.refl Ex.trans Ex.new fresh_back ex_l)

section
variable {X : Cx} {σ : L2.St} {H H' : Hp} {e : Expr} {es : List Expr} {pos p1 p2 p3 p4 p5 : Pos} {n : Str}
/-- repr([..]) != repr(a name), both of the same data -/
theorem dq_repr {o : Addr} {vs : List V} {xss : List (List Int)} (hgd : X.A.guards = some []) (hu : X.A.units + 64 < cLine) (hg : Gl X "repr") (hm : X.mg "repr" = none) (h : Da X σ H es (xss.map Dt.t)) (i : Nat) (hs : σ[i]? = some (some (.ref o))) (ho : H o = some (.lst vs)) (r : Rps H vs (xss.map Dt.t))
    (hb : ∀ xs ∈ xss, ∀ x ∈ xs, x.natAbs < 10 ^ 12) (hl : ∀ xs ∈ xss, xs.length ≤ 10) (hl2 : xss.length ≤ 10) (hN : X.N[i]? = some n := by rfl)
    (hvs : Vis X.env.scope n := by first | exact Or.inl rfl | exact Or.inr (Or.inl rfl) | exact Or.inr (Or.inr rfl)) (hdb : (n == ("__debug__" : Str)) = false := by decide) (hcd : (n == ("__classdict__" : Str)) = false := by decide)
    (s1 : starEach [.List es p2] X.env = (false, eval (.List es p2) X.env) :: starEach [] X.env := by rfl) (s2 : starEach [.Name n p3] X.env = (false, eval (.Name n p3) X.env) :: starEach [] X.env := by rfl) :
    Dq X σ H (.Compare (.Call (.Name "repr" p1) [.List es p2] [] p4) [.NotEq] [.Call (.Name "repr" p5) [.Name n p3] [] p4'] pos) false := fun H1 e1 Q q =>
  wt_of (pt_cmpR op_ne (pe_callB (call_reprL hgd hu) hg hm (by decide +kernel) (pa_cons (pe_lst wa) pa_nil s1) (by decide) (by decide) s1 (by rfl)) (pe_callB (call_reprL hgd hu) hg hm (by decide +kernel) (pa_cons (pe_var hN hvs hdb hcd) pa_nil s2) (by decide) (by decide) s2 (by rfl)) (nm _ (by decide) (by decide)))
    (h H1 e1 _ fun us H2 e2 rs => by
      have hlen := rs.len
      rw [List.length_map] at hlen
      refine ⟨by rw [hlen]; exact Nat.le_trans hl2 (by decide), fun o2 ho2 => ?_⟩
      have e3 : Ex H2 (upd H2 o2 (.lst us)) := Ex.new ho2
      refine ⟨o2, us, xss, rfl, upd_same, rs.up e3, hb, hl, hl2, ?_⟩
      have e4 := (e1.trans e2).trans e3
      refine ⟨_, hs, o, vs, xss, rfl, e4 _ _ ho, r.up e4, hb, hl, hl2, rfl, _, rfl, ?_⟩
      rw [decide_eq_true rfl]
      exact q _ (e2.trans e3))
end
/-! ### what _law_heights_right calls -/
structure LibH (P : Program) (w : World) (K : PySem.W.Frag) (mg : Str → Option Value) (base : Heap) : Prop where
  height : C8.Cal P w K mg base 2 "height" spHeight []
  half_from : C8.Cal P w K mg base 3 "half_from" spHalfFrom []
  half_at : C8.Cal P w K mg base 4 "half_at" spHalfAt []
  moved : C8.Cal P w K mg base 3 "moved" spMoved []
  apart : C8.Cal P w K mg base 3 "apart" spApart []
  scaled : C8.Cal P w K mg base 3 "scaled" spScaled []
  plus : C8.Cal P w K mg base 2 "plus" spPlus []
  minus : C8.Cal P w K mg base 2 "minus" spMinus []
  back : C8.Cal P w K mg base 1 "back" spBack []
  quarter : C8.Cal P w K mg base 1 "quarter" spQuarter []
  is_less : C8.Cal P w K mg base 1 "is_less" spIsLess []
  is_half : C8.Cal P w K mg base 3 "is_half" spIsHalf []
  normal : C8.Cal P w K mg base 3 "normal" spNormal []
  on_line : C8.Cal P w K mg base 2 "on_line" spOnLine []
  has : C8.Cal P w K mg base 2 "has" spHas []
  facing : C8.Cal P w K mg base 1 "facing" spFacing []
  lfraction : C8.Cal P w K mg base 2 "_law_fraction" spLFraction []
  pick : C8.Cal P w K mg base 1 "_law_pick" spPick []
  dfrac : C8.Cal P w K mg base 3 "_law_draw_fraction" (sSp [] FracP) []
/-- the due height, as data of what the place is -/
def dueD (u : Int × Int) : Dt → Dt
  | .t [x, y, z] => t2 (heightF u (x, y, z))
  | _ => .n
theorem B.t12 {x : Int} (h : B 33 x) : x.natAbs < 10 ^ 12 := Nat.lt_of_lt_of_le h (by decide)
section
variable {P : Program} {w : World} {K : PySem.W.Frag} {mg : Str → Option Value} {base : Heap}
abbrev sHeights : Stmt := topS 48
abbrev nHeights : List Str := ["_law_source", "_law_u", "_law_p", "_law_q", "_law_due", "_law_far", "_law_made", "_law_level", "_law_some", "_law_one"]
theorem scHeights : FnScope nHeights ["_law_source", "_law_u", "_law_p", "_law_q"] (defScope sHeights) := ⟨rfl, rfl, rfl, by decide +kernel, rfl, by decide +kernel, by decide +kernel⟩
def spHeights : Sp := fun vs H Q _ => ∃ (d L : Addr) (v1 v2 v3 : V) (u : Int × Int) (p q : Int × Int × Int), vs = [.ref d, v1, v2, v3] ∧ Src d L H ∧ Rp H v1 (t2 u) ∧ Rp H v2 (t3 p) ∧ Rp H v3 (t3 q) ∧ K8.g2 u.1 u.2 = 1 ∧ U2ok 2 u ∧ Pl 30 p ∧ Pl 30 q ∧
  ∀ H', Rs d L H H' → Src d L H' → Q (.bl true) H'
theorem heights_body (G : Gb mg) (T : LibH P w K mg base) {f : Addr} (cdv : Value) (A : Around) (outer : List Env) (s : Shared) (H : Hp) (vs : List V) (Q : VK) (hgd : (Bx P w K mg base nHeights "_law_heights_right" sHeights f cdv A outer s H E0).A.guards = some [])
    (hr : Room 4 (Bx P w K mg base nHeights "_law_heights_right" sHeights f cdv A outer s H E0).A) (h : spHeights vs H Q E0) :
    Wb (Bx P w K mg base nHeights "_law_heights_right" sHeights f cdv A outer s H E0) (defBody sHeights) { nx := fun _ H' => Q .non H', rt := Q } (start nHeights vs) H := by
  obtain ⟨d, L, v1, v2, v3, u, p, q, rfl, sr, r1, r2, r3, gu, hu, hp, hq, k⟩ := h
  have hpp := hp.1.1
  have hqp := hq.1.1
  have op := height_ok hu.2 hp.1
  have oq := height_ok hu.2 hq.1
  -- the due heights
  refine sb_setLc (g := dueD u) 4 9 rfl scHeights.nd rfl rfl (sw_true rfl rfl rfl (by decide +kernel)) (blkOk_by (N := nHeights) (sc := defScope sHeights) (by decide +kernel)) (du_tup (da_cons (dv_var 2 rfl r2) (da_cons (dv_var 3 rfl r3) da_nil)) (by show 2 ≤ 100; decide)) (by show 2 ≤ 100; decide) (fun _ _ _ _ _ => pg_name scHeights.nd rfl (Or.inl rfl)) ?he (fun o us H1 e1 hn ho rs => ?_)
  case he =>
    intro s0 H0 C cl fp v d H1 e1 hd rv
    have r1' := r1.up e1
    have hcase : ∃ a, d = t3 a ∧ Pl 30 a := by
      simp only [List.mem_cons, List.not_mem_nil, or_false] at hd
      rcases hd with z | z
      · exact ⟨p, z, hp⟩
      · exact ⟨q, z, hq⟩
    obtain ⟨a, rfl, ha⟩ := hcase
    have b1 := hu.2.1.up (show 2 ≤ 1000 by decide)
    have b2 := hu.2.2.up (show 2 ≤ 1000 by decide)
    have b3 := ha.1.2.1.up (show 30 ≤ 1000 by decide)
    have b4 := ha.1.2.2.1.up (show 30 ≤ 1000 by decide)
    exact dv_call (X := (Bx P w K mg base nHeights "_law_heights_right" sHeights f cdv A outer s H E0).blk s0 H0 _ _ fp) (u.1 * a.1 + u.2 * a.2.1, a.2.2) T.lfraction hr (by decide) (by rfl)
      (da_cons (dv_add (dv_mul (dv_20 (dv_var 1 (by rfl) r1')) (dv_30 (dv_var 9 (by rfl) rv)) (mw b1 b3)) (dv_mul (dv_21 (dv_var 1 (by rfl) r1')) (dv_31 (dv_var 9 (by rfl) rv)) (mw b2 b4))) (da_cons (dv_32 (dv_var 9 (by rfl) rv)) da_nil)) ⟨ha.1.1, ha.1.2.2.2.up (by decide)⟩
  replace rs : Rps H1 us [t2 (heightF u p), t2 (heightF u q)] := rs
  have nd : o ≠ d := by
    obtain ⟨_, _, _, _, g1, _⟩ := sr
    exact (ne_of_none g1 hn).symm
  have nL : o ≠ L := by
    obtain ⟨_, _, _, _, _, g2⟩ := sr
    exact (ne_of_none g2 hn).symm
  have rs0 : Rs d L H H1 := Rs.of e1
  replace sr := sr.up e1
  replace r1 := r1.up e1
  replace r2 := r2.up e1
  replace r3 := r3.up e1
  have u1000 := hu.2.up (show 2 ≤ 1000 by decide)
  have p1000 := hp.1.up (show 30 ≤ 1000 by decide)
  have q1000 := hq.1.up (show 30 ≤ 1000 by decide)
  have pq1000 : F2ok 1000 (heightF u p) := op.up (by decide)
  have oq1000 : F2ok 1000 (heightF u q) := oq.up (by decide)
  obtain ⟨f0, f1, rfl, rf0, rf1⟩ := Rps.two rs
  -- the texts are alike
  refine sb_skip (dq_repr (xss := [[(heightF u p).1, (heightF u p).2], [(heightF u q).1, (heightF u q).2]]) hgd hr.units rfl G.repr
    (da_cons (dv_call (u, p) T.height hr (by decide) (by rfl) (da_cons (dv_var 1 rfl r1) (da_cons (dv_var 2 rfl r2) da_nil)) ⟨u1000, p1000⟩) (da_cons (dv_call (u, q) T.height hr (by decide) (by rfl) (da_cons (dv_var 1 rfl r1) (da_cons (dv_var 3 rfl r3) da_nil)) ⟨u1000, q1000⟩) da_nil)) 4 rfl ho rs ?_ ?_ (by show 2 ≤ 10; decide)) fun H2 e2 => ?_
  · intro xs hxs x hx
    simp only [List.mem_cons, List.not_mem_nil, or_false] at hxs
    rcases hxs with z | z <;> subst z <;> simp only [List.mem_cons, List.not_mem_nil, or_false] at hx <;> rcases hx with z | z <;> subst z
    · exact op.2.1.t12
    · exact op.2.2.t12
    · exact oq.2.1.t12
    · exact oq.2.2.t12
  · intro xs hxs
    simp only [List.mem_cons, List.not_mem_nil, or_false] at hxs
    rcases hxs with z | z <;> subst z <;> show 2 ≤ 10 <;> decide
  replace sr := sr.up e2
  replace r1 := r1.up e2
  replace r2 := r2.up e2
  replace r3 := r3.up e2
  replace ho := e2 _ _ ho
  replace rf0 := rf0.up e2
  replace rf1 := rf1.up e2
  replace rs0 : Rs d L H H2 := rs0.trans (Rs.of e2)
  have mok := moved_ok hp.1 hq.1
  have aok := apart_ok hp.1 hq.1
  refine sb_skip (Dq.to (Dw.q (dw_or (dq_neT hr.units (Dv.to (dv_call (u, movedF p q) T.height hr (by decide) (by rfl) (da_cons (dv_var 1 rfl r1) (da_cons (dv_call (p, q) T.moved hr (by decide) (by rfl) (da_cons (dv_var 2 rfl r2) (da_cons (dv_var 3 rfl r3) da_nil)) ⟨p1000, q1000⟩) da_nil)) ⟨u1000, mok.up (by decide)⟩) (congrArg t2 (height_moved hpp hqp)))
        (dv_call (heightF u p, heightF u q) T.plus hr (by decide) (by rfl) (da_cons (dv_ixL 0 4 rfl ho rfl rf0) (da_cons (dv_ixL 1 4 rfl ho rfl rf1) da_nil)) ⟨pq1000, oq1000⟩)) fun _ => dw_or1
      (dq_neT hr.units (Dv.to (dv_call ((-u.1, -u.2), apartF p q) T.height hr (by decide) (by rfl) (da_cons (dv_call u T.back hr (by decide) (by rfl) (da_cons (dv_var 1 rfl r1) da_nil) trivial) (da_cons (dv_call (p, q) T.apart hr (by decide) (by rfl) (da_cons (dv_var 2 rfl r2) (da_cons (dv_var 3 rfl r3) da_nil)) ⟨p1000, q1000⟩) da_nil)) ⟨⟨u1000.1.neg, u1000.2.neg⟩, aok.up (by decide)⟩) (congrArg t2 (height_apart hpp hqp)))
        (dv_call (heightF u q, heightF u p) T.minus hr (by decide) (by rfl) (da_cons (dv_ixL 1 4 rfl ho rfl rf1) (da_cons (dv_ixL 0 4 rfl ho rfl rf0) da_nil)) ⟨oq1000, pq1000⟩)))) ?_) fun H3 e3 => ?_
  · rw [decide_eq_true (by rfl), decide_eq_true (by rfl)] <;> rfl
  replace sr := sr.up e3
  replace r1 := r1.up e3
  replace r2 := r2.up e3
  replace r3 := r3.up e3
  replace ho := e3 _ _ ho
  replace rf0 := rf0.up e3
  replace rf1 := rf1.up e3
  replace rs0 : Rs d L H H3 := rs0.trans (Rs.of e3)
  -- far
  have one_ok : F3ok 2 (-u.2, u.1, 1) := ⟨by show (0 : Int) < 1; decide, hu.2.2.neg, hu.2.1, B.one (by decide)⟩
  refine ss_set (P := fun D => ∃ m n : Int, D = t3 (movedF p (scaledF (-u.2, u.1, 1) m n)) ∧ B 3 m ∧ B 3 n ∧ 0 < n) 5 scHeights.nd
    (sv_call T.moved hr (by decide) (by rfl) (sa_cons (P := fun D => D = t3 p) (sv_dv (fun H4 e4 s4 => dv_var 2 rfl (r2.rs sr e4)) rfl) (sa_cons (P := fun D => ∃ m n : Int, D = t3 (scaledF (-u.2, u.1, 1) m n) ∧ B 3 m ∧ B 3 n ∧ 0 < n)
      (sv_call T.scaled hr (by decide) (by rfl) (sa_cons (P := fun D => D = t3 (-u.2, u.1, 1)) (sv_dv (fun H4 e4 s4 => dv_t3 (dv_20 (show Dv _ _ _ _ (t2 (-u.2, u.1)) from dv_call u T.quarter hr (by decide) (by rfl) (da_cons (dv_var 1 (by rfl) (r1.rs sr e4)) da_nil) trivial)) (dv_21 (show Dv _ _ _ _ (t2 (-u.2, u.1)) from dv_call u T.quarter hr (by decide) (by rfl) (da_cons (dv_var 1 (by rfl) (r1.rs sr e4)) da_nil) trivial)) dv_int) rfl)
        (sa_cons (sv_sub (sv_pick T.pick hr (by decide) (by rfl) 0 rfl (fun _ => dv_int) (by decide) (by decide)) (sv_int (A := fun z => z = 4) rfl) (C := fun z => B 3 z) ?c1)
        (sa_cons (sv_add (sv_int (A := fun z => z = 1) rfl) (sv_pick T.pick hr (by decide) (by rfl) 0 rfl (fun _ => dv_int) (by decide) (by decide)) (C := fun z => B 3 z ∧ 0 < z) ?c2) (sa_nil (P := fun ds => ds = []) rfl)))) ?c3) (sa_nil (P := fun ds => ds = []) rfl))) ?c4) sr fun v5 D' H4 e4 sr4 pD r5 => ?_
  case c1 =>
    rintro x y ⟨a1, a2⟩ rfl
    show (x - 4).natAbs < 8
    omega
  case c2 =>
    rintro x y rfl ⟨a1, a2⟩
    refine ⟨?_, by omega⟩
    show (1 + y).natAbs < 8
    omega
  case c3 =>
    rintro ds ⟨D1, ds1, rfl, rfl, D2, ds2, rfl, ⟨m, rfl, bm⟩, D3, ds3, rfl, ⟨n, rfl, bn, n0⟩, rfl⟩
    exact ⟨((-u.2, u.1, 1), m, n), rfl, ⟨one_ok.up (by decide), bm.up (by decide), bn.up (by decide), n0⟩, m, n, rfl, bm, bn, n0⟩
  case c4 =>
    rintro ds ⟨D1, ds1, rfl, rfl, D2, ds2, rfl, ⟨m, n, rfl, bm, bn, n0⟩, rfl⟩
    exact ⟨(p, scaledF (-u.2, u.1, 1) m n), rfl, ⟨p1000, (scaled_ok one_ok bm bn n0).up (by decide)⟩, m, n, rfl, bm, bn, n0⟩
  obtain ⟨m, n, rfl, bm, bn, n0⟩ := pD
  have farok : F3ok 36 (movedF p (scaledF (-u.2, u.1, 1) m n)) := moved_ok hp.1 (scaled_ok one_ok bm bn n0)
  have farh : heightF u (movedF p (scaledF (-u.2, u.1, 1) m n)) = heightF u p := height_far hpp n0
  have farp := farok.1
  revert farok farh farp r5
  generalize movedF p (scaledF (-u.2, u.1, 1) m n) = far
  intro r5 farok farh farp
  replace r1 := r1.rs sr e4
  replace r2 := r2.rs sr e4
  replace r3 := r3.rs sr e4
  replace rf0 := rf0.rs sr e4
  replace rf1 := rf1.rs sr e4
  replace ho := e4 _ _ nd nL ho
  replace rs0 : Rs d L H H4 := rs0.trans e4
  replace sr := sr4
  have far1000 := farok.up (show 36 ≤ 1000 by decide)
  have along_ok : F3ok 2 (u.1, u.2, 1) := ⟨by show (0 : Int) < 1; decide, hu.2.1, hu.2.2, B.one (by decide)⟩
  refine sb_skip (Dq.to (Dw.q (dw_or (dq_neT hr.units (Dv.to (dv_call (u, far) T.height hr (by decide) (by rfl) (da_cons (dv_var 1 rfl r1) (da_cons (dv_var 5 rfl r5) da_nil)) ⟨u1000, far1000⟩) (congrArg t2 farh)) (dv_ixL 0 4 rfl ho rfl rf0)) fun _ => dw_or1
      (dq_eqT hr.units (dv_call (u, movedF p (u.1, u.2, 1)) T.height hr (by decide) (by rfl) (da_cons (dv_var 1 rfl r1) (da_cons (dv_call (p, (u.1, u.2, 1)) T.moved hr (by decide) (by rfl) (da_cons (dv_var 2 rfl r2) (da_cons (dv_t3 (dv_20 (dv_var 1 rfl r1)) (dv_21 (dv_var 1 rfl r1)) dv_int) da_nil)) ⟨p1000, along_ok.up (by decide)⟩) da_nil)) ⟨u1000, (moved_ok hp.1 along_ok).up (by decide)⟩) (dv_ixL 0 4 rfl ho rfl rf0)))) ?_) fun H5 e5 => ?_
  · rw [decide_eq_true (by rfl), decide_eq_false]
    · rfl
    · intro z
      have z1 := (List.cons.inj z).1
      have z2 := (List.cons.inj (List.cons.inj z).2).1
      exact height_along hu.1 hpp (Prod.ext z1 z2)
  replace sr := sr.up e5
  replace r1 := r1.up e5
  replace r2 := r2.up e5
  replace r3 := r3.up e5
  replace r5 := r5.up e5
  replace ho := e5 _ _ ho
  replace rf0 := rf0.up e5
  replace rf1 := rf1.up e5
  replace rs0 : Rs d L H H5 := rs0.trans (Rs.of e5)
  -- made, level
  have u400 := hu.up (show 2 ≤ 400 by decide)
  refine sb_par 6 7 rfl scHeights.nd (da_cons (dv_call (u, p) T.half_at hr (by decide) (by rfl) (da_cons (dv_var 1 rfl r1) (da_cons (dv_var 2 rfl r2) da_nil)) ⟨u400, hp.1.up (by decide)⟩) (da_cons (dv_call (u, heightF u q) T.half_from hr (by decide) (by rfl) (da_cons (dv_var 1 rfl r1) (da_cons (dv_call (u, q) T.height hr (by decide) (by rfl) (da_cons (dv_var 1 rfl r1) (da_cons (dv_var 3 rfl r3) da_nil)) ⟨u1000, q1000⟩) da_nil)) ⟨hu.up (by decide), oq1000⟩) da_nil)) fun v6 v7 H6 e6 r6 r7 => ?_
  replace sr := sr.up e6
  replace r1 := r1.up e6
  replace r2 := r2.up e6
  replace r3 := r3.up e6
  replace r5 := r5.up e6
  replace ho := e6 _ _ ho
  replace rf0 := rf0.up e6
  replace rf1 := rf1.up e6
  replace rs0 : Rs d L H H6 := rs0.trans (Rs.of e6)
  replace r6 : Rp H6 v6 (t3 (halfAtF u p)) := r6
  replace r7 : Rp H6 v7 (t3 (halfAtF u q)) := r7
  have bm6 : B3 1000 (halfAtF u p) := (halfAt_b hu hp.1).up (by decide)
  have bm7 : B3 1000 (halfAtF u q) := (halfAt_b hu hq.1).up (by decide)
  have mne : (halfAtF u p).1 ≠ 0 ∨ (halfAtF u p).2.1 ≠ 0 := by
    obtain ⟨_, _, _, _, _, _, z⟩ := from_of (h := heightF u p) hu.1 op.1
    exact z
  have fardep : depthF (halfAtF u p) far = 0 := by
    rw [← at_eq farh]
    exact on_at hu.1 farp
  refine sb_skip (Dq.to (Dw.q (dw_or (dq_not (dq_val (dv_call (halfAtF u p) T.is_half hr (by decide) (by rfl) (da_cons (dv_var 6 rfl r6) da_nil) trivial))) fun _ => dw_or (dq_neT hr.units (Dv.to (dv_call (halfAtF u p) T.normal hr (by decide) (by rfl) (da_cons (dv_var 6 rfl r6) da_nil) ⟨mne, bm6⟩) (congrArg t2 (normal_from gu hu.1 op.1))) (dv_var 1 rfl r1)) fun _ =>
      dw_or (dq_not (dq_val (dv_call (halfAtF u p, p) T.on_line hr (by decide) (by rfl) (da_cons (dv_var 6 rfl r6) (da_cons (dv_var 2 rfl r2) da_nil)) ⟨bm6, p1000.b⟩))) fun _ => dw_or (dq_not (dq_val (dv_call (halfAtF u p, far) T.on_line hr (by decide) (by rfl) (da_cons (dv_var 6 rfl r6) (da_cons (dv_var 5 rfl r5) da_nil)) ⟨bm6, far1000.b⟩))) fun _ =>
      dw_or1 (dq_neT hr.units (dv_var 6 rfl r6) (Dv.to (dv_call (u, far) T.half_at hr (by decide) (by rfl) (da_cons (dv_var 1 rfl r1) (da_cons (dv_var 5 rfl r5) da_nil)) ⟨u400, farok.up (by decide)⟩) (congrArg t3 (at_eq farh)))))) ?_) fun H7 e7 => ?_
  · have z1 : isHalfF (halfAtF u p) = true := is_half_from hu.1 op.1
    have z2 : depthF (halfAtF u p) p = 0 := on_at hu.1 hpp
    show (!isHalfF (halfAtF u p) || (!decide ([u.1, u.2] = [u.1, u.2]) || (!decide (depthF (halfAtF u p) p = 0) || (!decide (depthF (halfAtF u p) far = 0) || !decide (_ = _))))) = false
    rw [z1, decide_eq_true z2, decide_eq_true fardep, decide_eq_true rfl, decide_eq_true rfl] <;> rfl
  replace sr := sr.up e7
  replace r1 := r1.up e7
  replace r2 := r2.up e7
  replace r3 := r3.up e7
  replace r6 := r6.up e7
  replace r7 := r7.up e7
  replace ho := e7 _ _ ho
  replace rf0 := rf0.up e7
  replace rf1 := rf1.up e7
  replace rs0 : Rs d L H H7 := rs0.trans (Rs.of e7)
  refine sb_skip (Dq.to (Dw.q (dw_or (dq_neB (dv_call (halfAtF u p, q) T.has hr (by decide) (by rfl) (da_cons (dv_var 6 rfl r6) (da_cons (dv_var 3 rfl r3) da_nil)) ⟨bm6, q1000.b⟩) (dv_not (dv_call (heightF u q, heightF u p) T.is_less hr (by decide) (by rfl) (da_cons (dv_ixL 1 4 rfl ho rfl rf1) (da_cons (dv_ixL 0 4 rfl ho rfl rf0) da_nil)) ⟨oq1000, pq1000⟩))) fun _ =>
      dw_or (dq_neT hr.units (dv_var 7 rfl r7) (dv_call (u, q) T.half_at hr (by decide) (by rfl) (da_cons (dv_var 1 rfl r1) (da_cons (dv_var 3 rfl r3) da_nil)) ⟨u400, hq.1.up (by decide)⟩)) fun _ =>
      dw_or1 (dq_neB (dv_call (halfAtF u q, p) T.has hr (by decide) (by rfl) (da_cons (dv_var 7 rfl r7) (da_cons (dv_var 2 rfl r2) da_nil)) ⟨bm7, p1000.b⟩) (dv_not (dv_call (heightF u p, heightF u q) T.is_less hr (by decide) (by rfl) (da_cons (dv_ixL 0 4 rfl ho rfl rf0) (da_cons (dv_ixL 1 4 rfl ho rfl rf1) da_nil)) ⟨pq1000, oq1000⟩))))) ?_) fun H8 e8 => ?_
  · have z1 : decide (0 ≤ depthF (halfAtF u p) q) = !decide ((heightF u q).1 * (heightF u p).2 < (heightF u p).1 * (heightF u q).2) := has_from hu.1 op.1 hqp
    have z2 : decide (0 ≤ depthF (halfAtF u q) p) = !decide ((heightF u p).1 * (heightF u q).2 < (heightF u q).1 * (heightF u p).2) := has_from hu.1 oq.1 hpp
    show ((decide (0 ≤ depthF (halfAtF u p) q) != !decide ((heightF u q).1 * (heightF u p).2 < (heightF u p).1 * (heightF u q).2)) || (!decide (_ = _) || (decide (0 ≤ depthF (halfAtF u q) p) != !decide ((heightF u p).1 * (heightF u q).2 < (heightF u q).1 * (heightF u p).2)))) = false
    rw [z1, z2, bne_self_eq_false, bne_self_eq_false, decide_eq_true rfl] <;> rfl
  replace sr := sr.up e8
  replace r1 := r1.up e8
  replace r2 := r2.up e8
  replace rs0 : Rs d L H H8 := rs0.trans (Rs.of e8)
  -- some
  refine ss_set (P := fun D => ∃ g : Int × Int, D = t3 (halfFromF u g) ∧ F2ok 30 g) 8 scHeights.nd (sv_call T.half_from hr (by decide) (by rfl) (sa_cons (P := fun D => D = t2 u) (sv_dv (fun H4 e4 s4 => dv_var 1 rfl (r1.rs sr e4)) rfl) (sa_cons (sv_src0 T.dfrac hr (by decide) (by rfl) 0 rfl) (sa_nil (P := fun ds => ds = []) rfl))) ?c5) sr fun v8 D' H9 e9 sr9 pD r8 => ?_
  case c5 =>
    rintro ds ⟨D1, ds1, rfl, rfl, D2, ds2, rfl, ⟨g, rfl, hg⟩, rfl⟩
    exact ⟨(u, g), rfl, ⟨hu.up (by decide), hg.up (by decide)⟩, g, rfl, hg⟩
  obtain ⟨g, rfl, hg⟩ := pD
  replace r1 := r1.rs sr e9
  replace r2 := r2.rs sr e9
  replace rs0 : Rs d L H H9 := rs0.trans e9
  have bs : B3 1000 (halfFromF u g) := (halfFrom_b hu hg).up (by decide)
  have sne : (halfFromF u g).1 ≠ 0 ∨ (halfFromF u g).2.1 ≠ 0 := by
    obtain ⟨_, _, _, _, _, _, z⟩ := from_of (h := g) hu.1 hg.1
    exact z
  have bfs : B3 1000 (facingF (halfFromF u g)) := ⟨bs.1.neg, bs.2.1.neg, bs.2.2.neg⟩
  refine sb_ret (Dv.to (d1 := .b true) (dv_and (dv_eqT hr.units (Dv.to (dv_call (halfFromF u g) T.normal hr (by decide) (by rfl) (da_cons (dv_var 8 rfl r8) da_nil) ⟨sne, bs⟩) (congrArg t2 (normal_from gu hu.1 hg.1))) (dv_var 1 rfl r1)) fun _ => dv_one (dv_or (dv_call (halfFromF u g, p) T.has hr (by decide) (by rfl) (da_cons (dv_var 8 rfl r8) (da_cons (dv_var 2 rfl r2) da_nil)) ⟨bs, p1000.b⟩) fun _ =>
      dv_one (dv_call (facingF (halfFromF u g), p) T.has hr (by decide) (by rfl) (da_cons (dv_call (halfFromF u g) T.facing hr (by decide) (by rfl) (da_cons (dv_var 8 rfl r8) da_nil) trivial) (da_cons (dv_var 2 rfl r2) da_nil)) ⟨bfs, p1000.b⟩))) ?_) fun v H10 e10 r => ?_
  · show Dt.b (decide ([u.1, u.2] = [u.1, u.2]) && (decide (0 ≤ depthF (halfFromF u g) p) || decide (0 ≤ depthF (facingF (halfFromF u g)) p))) = .b true
    rw [depth_facing, decide_eq_true rfl]
    by_cases c : 0 ≤ depthF (halfFromF u g) p
    · rw [decide_eq_true c] <;> rfl
    · rw [decide_eq_true (show 0 ≤ -depthF (halfFromF u g) p by omega), Bool.or_true] <;> rfl
  · cases r
    exact k H10 (rs0.trans (Rs.of e10)) (sr9.up e10)
end
end K8
/-! The law itself, and its call from outside. -/
namespace K8
open PySem PySem.Spec PyProof.Rows L2
open Evl (Ex Ex.refl Ex.trans Ex.new fresh_back ex_l)

section
variable {X : Cx} {σ : L2.St} {H H' : Hp} {a b c e : Expr} {es : List Expr} {pos p1 p2 p3 p4 p5 : Pos} {n : Str} {D : Ends} {rest : List Stmt} {d L : Addr}
/-- x not in (y, z), tuples of ints -/
theorem op_notInT (hu : X.A.units + 64 + 1 < cLine) : OpR X (compareOp .NotIn) (fun x y H Q => ∃ (xs : List Int) (yss : List (List Int)) (o : Addr) (vs : List V), Rp H x (.t xs) ∧ y = .ref o ∧ H o = some (.tup vs) ∧ Rps H vs (yss.map Dt.t) ∧ Q (.bl (!yss.any fun ys => decide (ys = xs))) H) := by
  intro pins s σ H x y
  intro v u Q I rx ry h
  obtain ⟨xs, yss, o, vs, r, rfl, ho, rs, q⟩ := h
  obtain ⟨as, r1⟩ := Dp.reads I _ x v (dp_tup (K := X.K) r) rx
  obtain ⟨bs, r2⟩ := Dp.reads I (.tuple (yss.map fun ys => PyData.tuple (ys.map PyData.int))) (.ref o) u (.tup (SqT.of ho) (dp_tups rs)) ry
  refine SeqAt.notIn_tuple_reads r2 r1 (lay_tups yss) (SeqAt.canLay_of_shaped (shaped_ints xs)) (room_in_shaped (shaped_ints xs) hu) ⟨.bl (!yss.any fun ys => decide (ys = xs)), H, I, ?_, q⟩
  show Value.bool _ = Value.bool _
  rw [List.any_map]
  congr 2
  exact congrArg (fun f => yss.any f) (funext fun ys => eqv_tups ys xs)
theorem dq_notIn {xs : List Int} {yss : List (List Int)} {kt : Nat} (hu : X.A.units + 64 + 1 < cLine) (ha : Dv X σ H a (.t xs)) (hb : Du X σ H (.Tuple es kt p2) (yss.map Dt.t)) : Dq X σ H (.Compare a [.NotIn] [.Tuple es kt p2] pos) (!yss.any fun ys => decide (ys = xs)) := fun H1 e1 Q q =>
  wt_of (pt_cmpR (op_notInT hu) wx wx rfl) (ha H1 e1 _ fun u H2 e2 r1 => hb H2 (e1.trans e2) _ fun o vs H3 e3 ho rs => ⟨xs, yss, o, vs, r1.up e3, rfl, ho, rs, _, rfl, q H3 (e2.trans e3)⟩)
/-- x, y, z = e1, e2, e3, all drawn -/
theorem ss_par3 {x y z : Str} {px py pz pt p2 : Pos} {kt k2 : Nat} {P R S : Dt → Prop} (i j l : Nat) (hc : X.calm = true) (hN : X.N.Nodup) (h1 : Sv X d L σ H a P) (h2 : Sv X d L σ H b R) (h3 : Sv X d L σ H c S) (s : Src d L H)
    (k : ∀ u v w D1 D2 D3 H1, Rs d L H H1 → Src d L H1 → P D1 → R D2 → S D3 → Rp H1 u D1 → Rp H1 v D2 → Rp H1 w D3 → Wb X rest D (((σ.set i (some u)).set j (some v)).set l (some w)) H1)
    (hi : X.N[i]? = some x := by rfl) (hj : X.N[j]? = some y := by rfl) (hl : X.N[l]? = some z := by rfl) (hij : i ≠ j := by decide) (hil : i ≠ l := by decide) (hjl : j ≠ l := by decide)
    (hx : X.env.scope.names.lookup x = some .local := by rfl) (hy : X.env.scope.names.lookup y = some .local := by rfl) (hz : X.env.scope.names.lookup z = some .local := by rfl)
    (hw : swappedStores [.Tuple [.Name x px, .Name y py, .Name z pz] kt pt] (.Tuple [a, b, c] k2 p2) X.env = pure (some [x, y, z]) := by rfl)
    (hs : swapsWithSole [.Tuple [.Name x px, .Name y py, .Name z pz] kt pt] (.Tuple [a, b, c] k2 p2) pos.line X.env = pure false := by rfl)
    (he : starEach [a, b, c] X.env = (false, eval a X.env) :: starEach [b, c] X.env := by rfl) (he1 : starEach [b, c] X.env = (false, eval b X.env) :: starEach [c] X.env := by rfl) (he2 : starEach [c] X.env = (false, eval c X.env) :: starEach [] X.env := by rfl) :
    Wb X (.Assign [.Tuple [.Name x px, .Name y py, .Name z pz] kt pt] (.Tuple [a, b, c] k2 p2) pos :: rest) D σ H :=
  wb_of (pss_cons (ps_par3 hc hN hi hj hl hij hil hjl hx hy hz (pa_cons wx (pa_cons wx (pa_cons wx pa_nil he2) he1) he) hw hs) wb)
    (h1 H (Rs.refl _) s _ fun u D1 H1 e1 s1 p1 r1 => h2 H1 e1 s1 _ fun v D2 H2 e2 s2 p2 r2 => h3 H2 (e1.trans e2) s2 _ fun w D3 H3 e3 s3 p3 r3 =>
      ⟨u, v, w, rfl, k u v w D1 D2 D3 H3 ((e1.trans e2).trans e3) s3 p1 p2 p3 ((r1.rs s1 e2).rs s2 e3) (r2.rs s2 e3) r3⟩)
end

/-! ### what law calls -/
structure LibT (P : Program) (w : World) (K : PySem.W.Frag) (mg : Str → Option Value) (base : Heap) (fh : Addr) (fdh : FuncData) : Prop where
  op : C8.Cal P w K mg base 1 "_law_open_cells" (spOpen K) []
  pick : C8.Cal P w K mg base 1 "_law_pick" spPick []
  number : C8.Cal P w K mg base 2 "_law_number" (sSp [] NumP) []
  lplace : C8.Cal P w K mg base 2 "_law_place" spLPlace []
  ddir : C8.Cal P w K mg base 3 "_law_draw_direction" (sSp [] DirP) []
  dplace : C8.Cal P w K mg base 3 "_law_draw_place" (sSp [.int 4] (PlaceP 4)) []
  heights : Gd P w K mg base 5 "_law_heights_right" ["_law_source", "_law_u", "_law_p", "_law_q"] spHeights fh fdh
  lines : C8.Cal P w K mg base 5 "_law_lines_right" spLines []
section
variable {P : Program} {w : World} {K : PySem.W.Frag} {mg : Str → Option Value} {base : Heap}
abbrev sLaw : Stmt := topS 50
abbrev nLaw : List Str := ["_law_script", "_law_source", "_law_lap", "_law_u", "_law_p", "_law_q", "_law_r"]
theorem scLaw : FnScope nLaw ["_law_script"] (defScope sLaw) := ⟨rfl, rfl, rfl, by decide +kernel, rfl, by decide +kernel, by decide +kernel⟩
def spLaw (K : PySem.W.Frag) : Sp := fun vs H Q _ => ∃ (o : Addr) (ns : List Int), vs = [.ref o] ∧ SqL K H o (ns.map V.int) ∧ ns.length ≤ 63 ∧ ∀ H', Q (.bl true) H'
theorem law_body (G : Gb mg) {fh : Addr} {fdh : FuncData} (T : LibT P w K mg base fh fdh) {f : Addr} (cdv : Value) (A : Around) (outer : List Env) (s : Shared) (H : Hp) (vs : List V) (Q : VK) (hgd : (Bx P w K mg base nLaw "law" sLaw f cdv A outer s H E0).A.guards = some [])
    (hr : Room 5 (Bx P w K mg base nLaw "law" sLaw f cdv A outer s H E0).A) (h : spLaw K vs H Q E0) : Wb (Bx P w K mg base nLaw "law" sLaw f cdv A outer s H E0) (defBody sLaw) { nx := fun _ H' => Q .non H', rt := Q } (start nLaw vs) H := by
  obtain ⟨o, ns, rfl, hS, hl, k⟩ := h
  refine sb_setW 1 scLaw.nd (wx_of (C8.pe_c T.op hr (by decide) rfl (pa_cons (pv 0) pa_nil)) ⟨_, rfl, o, ns, rfl, hS, hl, fun d L H1 e1 s1 _ _ => ?_⟩)
  refine wb_of (pss_cons (ps_for PassesOwn.never rfl (pi_range1 rfl G.range (pa_cons pe_int pa_nil)) (pg_name (i := 2) scLaw.nd rfl (Or.inl rfl)) wb) wb) ⟨6, rfl, by decide, by decide, for_range (lo := 0) (n := 6) (fun i σ' H' => ∃ x2 x3 x4 x5 x6 : Option V, σ' = [some (.ref o), some (.ref d), x2, x3, x4, x5, x6] ∧ Src d L H')
    ⟨none, none, none, none, none, rfl, s1⟩ ?_ ?_⟩
  · rintro i σ' H2 hi ⟨x2, x3, x4, x5, x6, rfl, s2⟩
    refine ss_par3 3 4 5 rfl scLaw.nd (sv_src0 T.ddir hr (by decide) (by rfl) 1 rfl) (sv_src1 T.dplace hr (by decide) (by rfl) 1 rfl) (sv_src1 T.dplace hr (by decide) (by rfl) 1 rfl) s2 fun vu vp vq D1 D2 D3 H3 e3 s3 ⟨u, h1, gu, hu⟩ ⟨p, h2, hp⟩ ⟨q, h3, hq⟩ ru rp rq => ?_
    subst h1 h2 h3
    have hp30 : Pl 30 p := ⟨hp.1.up (by decide), hp.2⟩
    have hq30 : Pl 30 q := ⟨hq.1.up (by decide), hq.2⟩
    refine ss_set (P := PlaceP 30) 6 scLaw.nd (sv_call T.lplace hr (by decide) (by rfl) (sa_cons (sv_src0 T.number hr (by decide) (by rfl) 1 rfl) (sa_cons (sv_src0 T.number hr (by decide) (by rfl) 1 rfl) (sa_cons
      (sv_add (sv_int (A := fun z => z = 1) rfl) (sv_pick T.pick hr (by decide) (by rfl) 1 rfl (fun _ => dv_int) (by decide) (by decide)) (C := fun z => 1 ≤ z ∧ z ≤ 5) (by rintro x y rfl ⟨a1, a2⟩; omega)) (sa_nil (P := fun ds => ds = []) rfl)))) ?c1) s3 fun vr D4 H4 e4 s4 ⟨r, h4, hr'⟩ rr => ?_
    case c1 =>
      rintro ds ⟨D1, ds1, rfl, ⟨x, rfl, a1, a2⟩, D2, ds2, rfl, ⟨y, rfl, a3, a4⟩, D3, ds3, rfl, ⟨z, rfl, a5, a6⟩, rfl⟩
      have bz : B 30 z := B.of30 (by omega) (by omega)
      refine ⟨(x, y, z), rfl, ⟨by show 0 < z; omega, bz.up (by decide)⟩, _, rfl, N3_ok (show 0 < z by omega) (B.of30 a1 a2) (B.of30 a3 a4) bz, ?_⟩
      obtain ⟨g, hg, q1, q2, q3, q4⟩ := N3_of (x := x) (y := y) (z := z) (Or.inr (Or.inr (by omega)))
      exact q4
    subst h4
    have hr30 : Pl 30 r := hr'
    replace ru := ru.rs s3 e4
    replace rp := rp.rs s3 e4
    replace rq := rq.rs s3 e4
    -- the heights
    refine wb_of (pss_cons (ps_if (PW.pt (pw_or (pt_not (pt_val wx)) (pw_or1 (pt_not (pt_val wx))))) wb wb) wb) ?_
    refine wx_g T.heights hgd hr (by decide) rfl (wa_of (pa_cons (pv 1) (pa_cons (pv 3) (pa_cons (pv 4) (pa_cons (pv 5) pa_nil)))) ⟨_, rfl, _, rfl, _, rfl, _, rfl, d, L, vu, vp, vq, u, p, q, rfl, s4, ru, rp, rq, gu, hu, hp30, hq30, fun H5 e5 s5 => ⟨true, rfl, ?_⟩⟩)
    refine iteF ?_
    refine wx_g T.heights hgd hr (by decide) rfl (wa_of (pa_cons (pv 1) (pa_cons (pv 3) (pa_cons (pv 5) (pa_cons (pv 6) pa_nil)))) ⟨_, rfl, _, rfl, _, rfl, _, rfl, d, L, vu, vq, vr, u, q, r, rfl, s5, ru.rs s4 e5, rq.rs s4 e5, rr.rs s4 e5, gu, hu, hq30, hr30, fun H6 e6 s6 => ⟨true, rfl, ?_⟩⟩)
    refine iteF (sb_nil ?_)
    replace rp := (rp.rs s4 e5).rs s5 e6
    replace rq := (rq.rs s4 e5).rs s5 e6
    replace rr := (rr.rs s4 e5).rs s5 e6
    -- the lines
    refine sb_skip (Dq.to (w := false) (Dw.q (dw_and (dq_notIn (yss := [[q.1, q.2.1, q.2.2], [r.1, r.2.1, r.2.2]]) (by have := hr.un; omega) (dv_var 4 rfl rp) (du_tup (da_cons (dv_var 5 rfl rq) (da_cons (dv_var 6 rfl rr) da_nil)) (by show 2 ≤ 100; decide))) fun hne => dw_and1 (dq_not (dq_val (dv_call (p, q, r) T.lines hr (by decide) (by rfl) (da_cons (dv_var 4 rfl rp) (da_cons (dv_var 5 rfl rq) (da_cons (dv_var 6 rfl rr) da_nil))) ?_))))) ?_) fun H7 e7 => sb_nil ?_
    · simp only [List.any_cons, List.any_nil, Bool.or_false, Bool.not_eq_true', Bool.or_eq_false_iff, decide_eq_false_iff_not] at hne
      refine ⟨hp30, hq30, hr30, fun z => hne.1 ?_, fun z => hne.2 ?_⟩
      · have z' : q = p := z
        rw [z']
      · have z' : r = p := z
        rw [z']
    · exact Bool.and_false _
    · exact ⟨_, _, _, _, _, rfl, s6.up e7⟩
  · rintro σ' H2 ⟨x2, x3, x4, x5, x6, rfl, s2⟩
    exact sb_ret dv_bl fun v H3 e3 r => by
      cases r
      exact k H3
end

/-! ### the call from outside -/
abbrev TrueEnd (s₁ : Shared) : Result → Shared → Prop := fun res t => res = .ok (.ret (.bool true)) ∧ OldK s₁.heap t.heap ∧ t.os = s₁.os ∧ AllBare t.gens
theorem vals_of : ∀ {vs : List Value} {ns : List Int}, IntsAre vs ns → Vals (ns.map V.int) vs := fun h => vals_of_ints h
section
variable {P : Program} {w : World} {K : PySem.W.Frag} {mg mb : Str → Option Value} {fa a : Addr} {fd : FuncData} {s₁ : Shared} {vs : List Value} {ns : List Int}
/-- over an abstract heap that knows the script at the most -/
theorem go_over (KX : K.In s₁.heap) (hns : s₁.heap.Ns mainGlobals mg) (hb : s₁.heap.Ns builtinsNs mb) (hbb : ∀ x : Str, x ≠ "__name__" → mb x = bootBuiltins x) (hlim : s₁.heap.NoLimit) (hg : s₁.gens = #[])
    (ob : Obj) (sq : ∀ es ep, ob.data ≠ .dict es ep) (ha : s₁.heap.get? a = some ob) (H : Hp) (only : ∀ b, H b ≠ none → b = a ∧ K.lookup a = none) (froz : ∀ b u, H b = some u → ∃ xs, u = .frz ob (.lst xs)) (hok : HOk P w H s₁.heap) (hS : SqL K H a (ns.map V.int)) (hl : ns.length ≤ 63)
    (F : ∀ base : Heap, K.In base → base.Ns mainGlobals mg → Gd P w K mg base 6 "law" ["_law_script"] (spLaw K) fa fd) :
    codeAny (model P w) callerA (.call (.ref fa) ⟨[.ref a], []⟩) (TrueEnd s₁) s₁ := by
  have dictFree : ∀ {b : Addr} {o : Obj} {es : Array DictEntry} {ep : Nat}, s₁.heap.get? b = some o → o.data = .dict es ep → H b = none := by
    intro b o es ep e hd
    apply Classical.byContradiction
    intro hne
    obtain ⟨eb, _⟩ := only b hne
    rw [eb, ha] at e
    exact sq es ep ((Option.some.inj e) ▸ hd)
  have under : ∀ {b : Addr} {m : Str → Option Value}, s₁.heap.Ns b m → (hidT s₁.heap H).Ns b m := by
    rintro b m ⟨o, es, ep, e, hd, more⟩
    exact ⟨o, es, ep, hidT_get e (dictFree e hd), hd, more⟩
  have inB : K.In (hidT s₁.heap H) := by
    intro b o e
    refine hidT_get (KX b o e) (Classical.byContradiction fun hne => ?_)
    obtain ⟨eb, hk⟩ := only b hne
    rw [eb, hk] at e
    cases e
  have modB : Mod K mg (hidT s₁.heap H) := by
    obtain ⟨mc, l1, l2⟩ := hlim
    exact ⟨inB, under hns, ⟨mb, under hb, hbb⟩, mc, under l1, l2⟩
  have env0 : Env0 P w K mg (hidT s₁.heap H) callerA [] s₁ H := by
    refine ⟨rfl, modB, fun b o e => of_hidT e, Nat.le_of_eq (hidT_size _ _), trivial, fun b hm => ?_, hok, .of_eq hg⟩
    exact absurd (show b ∈ ([] : List Addr) from hm) List.not_mem_nil
  have gd := F _ inB (under hns)
  have bt := gd.binds s₁ [.ref a] KX rfl
  refine codeAny_mono (gd.go callerA [] s₁ H ⟨[.ref a], []⟩ [.ref a] [.ref a] (fun v _ => v = .bl true) rfl ⟨rfl, by decide, by decide⟩ env0 bt (.cons rfl .nil) ⟨a, ns, rfl, hS, hl, fun _ => rfl⟩) fun res s' hq => ?_
  match res, hq with
  | .error _, hq => exact (show False from hq).elim
  | .ok .next, hq => exact (show False from hq).elim
  | .ok .brk, hq => exact (show False from hq).elim
  | .ok .cont, hq => exact (show False from hq).elim
  | .ok (.ret u), ⟨v, H', os, bare, un, hok', rv, qv⟩ =>
    have qv : v = .bl true := qv
    subst qv
    have eu : u = Value.bool true := rv
    subst eu
    refine ⟨rfl, OldK.of_keep ?_, os, bare⟩
    intro b o e
    cases hb : H b with
    | none => exact un.keep b o e hb (fun z => absurd (show b ∈ ([] : List Addr) from z) List.not_mem_nil) List.not_mem_nil
    | some z =>
      obtain ⟨xs, rfl⟩ := froz b z hb
      have e1 := (hok b _ hb).1
      rw [e] at e1
      rw [Option.some.inj e1]
      exact (hok' b _ (un.frzs b ob _ hb)).1
theorem go_law (KX : K.In s₁.heap) (hns : s₁.heap.Ns mainGlobals mg) (hb : s₁.heap.Ns builtinsNs mb) (hbb : ∀ x : Str, x ≠ "__name__" → mb x = bootBuiltins x) (hlim : s₁.heap.NoLimit) (hg : s₁.gens = #[])
    (ha : s₁.heap.get? a = some { cls := .type "list", data := .seq vs.toArray }) (hi : IntsAre vs ns) (hl : ns.length ≤ 63) (F : ∀ base : Heap, K.In base → base.Ns mainGlobals mg → Gd P w K mg base 6 "law" ["_law_script"] (spLaw K) fa fd) :
    codeAny (model P w) callerA (.call (.ref fa) ⟨[.ref a], []⟩) (TrueEnd s₁) s₁ := by
  have rv := vals_of hi
  have sz : ns.length ≤ sizeLine := Nat.le_trans hl (by decide)
  have nd : ∀ es ep, (Data.seq vs.toArray vs.toArray.size : Data) ≠ .dict es ep := fun es ep z => by cases z
  cases hk : K.lookup a with
  | some o =>
    have e := KX a o hk
    rw [ha] at e
    cases e
    exact go_over KX hns hb hbb hlim hg _ (fun es ep z => by cases z) ha (fun _ => none) (fun b z => absurd rfl z) (fun b u z => by cases z) (fun b u z => by cases z)
      (.inr ⟨_, vs.toArray, _, hk, rfl, rfl, rfl, by rw [List.size_toArray, ← hi.length] at *; first | exact sz | (rw [hi.length]; exact sz), by simpa using rv⟩) hl F
  | none =>
    have h1 : ∀ b u, (if b = a then some (HO.frz { cls := .type "list", data := .seq vs.toArray } (.lst (ns.map V.int))) else none) = some u → b = a ∧ u = .frz { cls := .type "list", data := .seq vs.toArray } (.lst (ns.map V.int)) := fun b u z => by
      by_cases c : b = a
      · rw [if_pos c] at z
        exact ⟨c, (Option.some.inj z).symm⟩
      · rw [if_neg c] at z
        cases z
    refine go_over KX hns hb hbb hlim hg _ (fun es ep z => by cases z) ha (fun b => if b = a then some (HO.frz { cls := .type "list", data := .seq vs.toArray } (.lst (ns.map V.int))) else none) (fun b z => ?_) (fun b u z => ⟨_, (h1 b u z).2⟩) (fun b u z => ?_) (.inl (.inr ⟨_, if_pos rfl⟩)) hl F
    · refine ⟨Classical.byContradiction fun c => z (if_neg c), hk⟩
    · obtain ⟨eb, eu⟩ := h1 b u z
      subst eb eu
      exact ⟨ha, by rw [List.length_map]; exact sz, vs, _, rv, ha⟩
end
end K8
/-! The end: what the top has left, and the law from outside. -/
namespace K8
open PySem PySem.Spec PyProof.Rows L2
theorem df_mk {K : PySem.W.Frag} {h : Heap} {mg : Str → Option Value} {x : Str} {st : Stmt} {f : Addr} {oc : Value} {od an : Option Addr} {osl : Array (Option Value)} {kV dc pm cd ct : Value} (X : K.In h) (G : h.Ns mainGlobals mg) (a : PySem.W.nsIn K mainGlobals x = some (some (.ref f)))
    (l : K.lookup f = some ⟨oc, od, .func (PySem.W.fnOf x x (defArgs st) (defBody st) (defScope st) .none kV dc pm an cd ct), osl⟩) (c : PySem.W.codeIn K cd x = true) (k : PySem.W.keepIn K (.ref f) = true) : Df K mg x st :=
  ⟨⟨f, _, fun_mk l c k, PySem.W.mg_of X G a⟩⟩
structure AllD (K : PySem.W.Frag) (mg : Str → Option Value) : Prop where
  gb : Gb mg
  d0 : Df K mg "is_number" sIsNumber
  d1 : Df K mg "is_row_of_numbers" sIsRow
  d2 : Df K mg "fraction" sFraction
  d3 : Df K mg "plus" sPlus
  d4 : Df K mg "minus" sMinus
  d5 : Df K mg "is_less" sIsLess
  d6 : Df K mg "place" sPlace
  d7 : Df K mg "is_place" sIsPlace
  d8 : Df K mg "moved" sMoved
  d9 : Df K mg "apart" sApart
  d10 : Df K mg "scaled" sScaled
  d11 : Df K mg "turn" sTurn
  d12 : Df K mg "direction" sDirection
  d13 : Df K mg "back" sBack
  d14 : Df K mg "quarter" sQuarter
  d15 : Df K mg "towards" sTowards
  d16 : Df K mg "half" sHalf
  d17 : Df K mg "is_half" sIsHalf
  d18 : Df K mg "depth" sDepth
  d19 : Df K mg "has" sHas
  d20 : Df K mg "on_line" sOnLine
  d21 : Df K mg "facing" sFacing
  d22 : Df K mg "normal" sNormal
  d23 : Df K mg "crossing" sCrossing
  d24 : Df K mg "height" sHeight
  d25 : Df K mg "half_from" sHalfFrom
  d26 : Df K mg "half_at" sHalfAt
  d27 : Df K mg "_law_open_cells" sOpen
  d28 : Df K mg "_law_pick" sPick
  d29 : Df K mg "_law_common" sCommon
  d30 : Df K mg "_law_fraction" sLFraction
  d31 : Df K mg "_law_place" sLPlace
  d32 : Df K mg "_law_direction" sLDirection
  d33 : Df K mg "_law_number" sNumber
  d34 : Df K mg "_law_draw_fraction" sDFrac
  d35 : Df K mg "_law_draw_direction" sDDir
  d36 : Df K mg "_law_draw_place" sDPlace
  d37 : Df K mg "_law_heights_right" sHeights
  d38 : Df K mg "_law_lines_right" sLines
  d39 : Df K mg "law" sLaw
section
variable {P : Program} {w : World} {K : PySem.W.Frag} {mg : Str → Option Value}

theorem end_of (D : AllD K mg) {fa : Addr} (hfa : mg "law" = some (.ref fa)) : ∃ fd : FuncData, ∀ base : Heap, K.In base → base.Ns mainGlobals mg → Gd P w K mg base 6 "law" ["_law_script"] (spLaw K) fa fd := by
  obtain ⟨fl, fdl, Fl, hl⟩ := D.d39.ex
  obtain ⟨fh, fdh, Fh, hh⟩ := D.d37.ex
  have e := hl.symm.trans hfa
  cases e
  refine ⟨fdl, fun base _ _ => ?_⟩
  have G := D.gb
  have num := cal_is_number (P := P) (w := w) (base := base) G D.d0
  have row := cal_is_row G num D.d1
  have frac := cal_fraction (P := P) (w := w) (base := base) G D.d2
  have pls := cal_plus frac D.d3
  have mns := cal_minus frac D.d4
  have less := cal_is_less (P := P) (w := w) (base := base) D.d5
  have plc := cal_place G num D.d6
  have isp := cal_is_place G row D.d7
  have mov := cal_moved plc D.d8
  have apa := cal_apart plc D.d9
  have sca := cal_scaled plc D.d10
  have tur := cal_turn apa D.d11
  have dir := cal_direction G num D.d12
  have bck := cal_back (P := P) (w := w) (base := base) D.d13
  have qua := cal_quarter (P := P) (w := w) (base := base) D.d14
  have tow := cal_towards apa dir D.d15
  have hal := cal_half G num D.d16
  have ish := cal_is_half G row D.d17
  have dep := cal_depth (P := P) (w := w) (base := base) D.d18
  have has := cal_has dep D.d19
  have onl := cal_on_line dep D.d20
  have fac := cal_facing (P := P) (w := w) (base := base) D.d21
  have nor := cal_normal dir D.d22
  have cro := cal_crossing plc D.d23
  have hei := cal_height frac D.d24
  have hfr := cal_half_from hal D.d25
  have hat := cal_half_at hfr hei D.d26
  have ope := cal_open (P := P) (w := w) (base := base) G D.d27
  have pic := cal_pick (P := P) (w := w) (base := base) G D.d28
  have com := cal_common (P := P) (w := w) (base := base) G D.d29
  have lfr := cal_lfraction com D.d30
  have lpl := cal_lplace com D.d31
  have ldi := cal_ldirection com D.d32
  have nmb := cal_number pic D.d33
  have dfr := cal_dfrac G pic nmb lfr D.d34
  have ddi := cal_ddir pic ldi D.d35
  have dpl := cal_dplace pic lpl D.d36
  have TL := (⟨tow, qua, hat, onl, has, tur, nor, cro, fac, isp⟩ : LibL P w K mg base)
  have lin := cal_lines TL D.d38
  have TH := (⟨hei, hfr, hat, mov, apa, sca, pls, mns, bck, qua, less, ish, nor, onl, has, fac, lfr, pic, dfr⟩ : LibH P w K mg base)
  have gh : Gd P w K mg base 5 "_law_heights_right" ["_law_source", "_law_u", "_law_p", "_law_q"] spHeights fh fdh :=
    gd_of Fh hh (fun _ _ _ _ _ _ us hl => match us, hl with | [_, _, _, _], _ => rfl) scHeights (fun vs H Q E h => by obtain ⟨_, _, _, _, _, _, _, _, rfl, _⟩ := h; rfl) (heights_body G TH)
  have TT : LibT P w K mg base fh fdh := ⟨ope, pic, nmb, lpl, ddi, dpl, gh, lin⟩
  exact gd_of Fl hl (fun _ _ _ _ _ _ us hl => match us, hl with | [_], _ => rfl) scLaw (fun vs H Q E h => by obtain ⟨_, _, rfl, _⟩ := h; rfl) (law_body G TT)
end
theorem walk_law {l : PySem.W.OpenLaw} {q : Program} {loose : List Str} {XP : (Str → Option Value) → Heap → Prop} {YP : World → Heap → Prop} {d : DefRec} {K : Params → PySem.W.Frag} (hn : l.most = some 63) (hdf : d.params.defaults = []) (hname : d.name = "law")
    (hY : ∀ (w : World) (h : Heap), YP w h → (K w.params).In h) (F : ∀ (w : World) (mg : Str → Option Value) (h : Heap), (K w.params).In h → h.Ns mainGlobals mg → AllD (K w.params) mg) :
    PySem.W.WalkO q loose XP YP l.row.toRowW d []
      (fun f vs => PySem.call f vs) := by
  apply Att.attach_call hn hdf
  intro w s₀ s₁ mg mb fa o pm cd doc a vs ns G Y ho hd hcd hmg hobj hints hlen hgens
  have KX := hY w _ Y
  rw [hname] at hmg
  obtain ⟨fd, gd⟩ := end_of (P := l.prog) (w := w) (F w mg _ KX G.T.g) hmg
  exact go_law KX G.T.g G.T.b G.T.builtins G.T.nolimit hgens hobj hints hlen gd
end K8
open PySem PySem.W PyProof.Rows
set_option maxRecDepth 100000 in
set_option maxHeartbeats 0 in
theorem PySem.Challenge.cw_plateheaps_k08_whole_heights_and_lines_holds : PySem.Challenge.rw_plateheaps_k08_whole_heights_and_lines.Holds := by
  w_on; o_law; k_head; (case hw => w_witness2)
  k_fill
  refine K8.walk_law (l := PySem.Challenge.rw_plateheaps_k08_whole_heights_and_lines) rfl rfl rfl (fun w h Y => PySem.W.kIn_of Y) ?F
  case F =>
    intro w mg h KX G
    refine' K8.AllD.mk ⟨PySem.W.mg_of KX G ?kg0, PySem.W.mg_none_of KX G ?kg1, PySem.W.mg_none_of KX G ?kg2, PySem.W.mg_none_of KX G ?kg3, PySem.W.mg_none_of KX G ?kg4, PySem.W.mg_none_of KX G ?kg5, PySem.W.mg_none_of KX G ?kg6, PySem.W.mg_none_of KX G ?kg7, PySem.W.mg_none_of KX G ?kg8, PySem.W.mg_none_of KX G ?kg9, PySem.W.mg_none_of KX G ?kg10⟩ (K8.df_mk KX G ?ka0 ?kl0 ?kc0 ?kk0) (K8.df_mk KX G ?ka1 ?kl1 ?kc1 ?kk1) (K8.df_mk KX G ?ka2 ?kl2 ?kc2 ?kk2) (K8.df_mk KX G ?ka3 ?kl3 ?kc3 ?kk3) (K8.df_mk KX G ?ka4 ?kl4 ?kc4 ?kk4) (K8.df_mk KX G ?ka5 ?kl5 ?kc5 ?kk5) (K8.df_mk KX G ?ka6 ?kl6 ?kc6 ?kk6) (K8.df_mk KX G ?ka7 ?kl7 ?kc7 ?kk7) (K8.df_mk KX G ?ka8 ?kl8 ?kc8 ?kk8) (K8.df_mk KX G ?ka9 ?kl9 ?kc9 ?kk9) (K8.df_mk KX G ?ka10 ?kl10 ?kc10 ?kk10) (K8.df_mk KX G ?ka11 ?kl11 ?kc11 ?kk11) (K8.df_mk KX G ?ka12 ?kl12 ?kc12 ?kk12) (K8.df_mk KX G ?ka13 ?kl13 ?kc13 ?kk13) (K8.df_mk KX G ?ka14 ?kl14 ?kc14 ?kk14) (K8.df_mk KX G ?ka15 ?kl15 ?kc15 ?kk15) (K8.df_mk KX G ?ka16 ?kl16 ?kc16 ?kk16) (K8.df_mk KX G ?ka17 ?kl17 ?kc17 ?kk17) (K8.df_mk KX G ?ka18 ?kl18 ?kc18 ?kk18) (K8.df_mk KX G ?ka19 ?kl19 ?kc19 ?kk19) (K8.df_mk KX G ?ka20 ?kl20 ?kc20 ?kk20) (K8.df_mk KX G ?ka21 ?kl21 ?kc21 ?kk21) (K8.df_mk KX G ?ka22 ?kl22 ?kc22 ?kk22) (K8.df_mk KX G ?ka23 ?kl23 ?kc23 ?kk23) (K8.df_mk KX G ?ka24 ?kl24 ?kc24 ?kk24) (K8.df_mk KX G ?ka25 ?kl25 ?kc25 ?kk25) (K8.df_mk KX G ?ka26 ?kl26 ?kc26 ?kk26) (K8.df_mk KX G ?ka27 ?kl27 ?kc27 ?kk27) (K8.df_mk KX G ?ka28 ?kl28 ?kc28 ?kk28) (K8.df_mk KX G ?ka29 ?kl29 ?kc29 ?kk29) (K8.df_mk KX G ?ka30 ?kl30 ?kc30 ?kk30) (K8.df_mk KX G ?ka31 ?kl31 ?kc31 ?kk31) (K8.df_mk KX G ?ka32 ?kl32 ?kc32 ?kk32) (K8.df_mk KX G ?ka33 ?kl33 ?kc33 ?kk33) (K8.df_mk KX G ?ka34 ?kl34 ?kc34 ?kk34) (K8.df_mk KX G ?ka35 ?kl35 ?kc35 ?kk35) (K8.df_mk KX G ?ka36 ?kl36 ?kc36 ?kk36) (K8.df_mk KX G ?ka37 ?kl37 ?kc37 ?kk37) (K8.df_mk KX G ?ka38 ?kl38 ?kc38 ?kk38) (K8.df_mk KX G ?ka39 ?kl39 ?kc39 ?kk39)
    (case kg0 => k_is); (case kg1 => k_is); (case kg2 => k_is); (case kg3 => k_is); (case kg4 => k_is); (case kg5 => k_is); (case kg6 => k_is); (case kg7 => k_is); (case kg8 => k_is); (case kg9 => k_is); (case kg10 => k_is)
    (case ka0 => k_is); (case kl0 => k_is); (case kc0 => k_is); (case kk0 => k_is)
    (case ka1 => k_is); (case kl1 => k_is); (case kc1 => k_is); (case kk1 => k_is)
    (case ka2 => k_is); (case kl2 => k_is); (case kc2 => k_is); (case kk2 => k_is)
    (case ka3 => k_is); (case kl3 => k_is); (case kc3 => k_is); (case kk3 => k_is)
    (case ka4 => k_is); (case kl4 => k_is); (case kc4 => k_is); (case kk4 => k_is)
    (case ka5 => k_is); (case kl5 => k_is); (case kc5 => k_is); (case kk5 => k_is)
    (case ka6 => k_is); (case kl6 => k_is); (case kc6 => k_is); (case kk6 => k_is)
    (case ka7 => k_is); (case kl7 => k_is); (case kc7 => k_is); (case kk7 => k_is)
    (case ka8 => k_is); (case kl8 => k_is); (case kc8 => k_is); (case kk8 => k_is)
    (case ka9 => k_is); (case kl9 => k_is); (case kc9 => k_is); (case kk9 => k_is)
    (case ka10 => k_is); (case kl10 => k_is); (case kc10 => k_is); (case kk10 => k_is)
    (case ka11 => k_is); (case kl11 => k_is); (case kc11 => k_is); (case kk11 => k_is)
    (case ka12 => k_is); (case kl12 => k_is); (case kc12 => k_is); (case kk12 => k_is)
    (case ka13 => k_is); (case kl13 => k_is); (case kc13 => k_is); (case kk13 => k_is)
    (case ka14 => k_is); (case kl14 => k_is); (case kc14 => k_is); (case kk14 => k_is)
    (case ka15 => k_is); (case kl15 => k_is); (case kc15 => k_is); (case kk15 => k_is)
    (case ka16 => k_is); (case kl16 => k_is); (case kc16 => k_is); (case kk16 => k_is)
    (case ka17 => k_is); (case kl17 => k_is); (case kc17 => k_is); (case kk17 => k_is)
    (case ka18 => k_is); (case kl18 => k_is); (case kc18 => k_is); (case kk18 => k_is)
    (case ka19 => k_is); (case kl19 => k_is); (case kc19 => k_is); (case kk19 => k_is)
    (case ka20 => k_is); (case kl20 => k_is); (case kc20 => k_is); (case kk20 => k_is)
    (case ka21 => k_is); (case kl21 => k_is); (case kc21 => k_is); (case kk21 => k_is)
    (case ka22 => k_is); (case kl22 => k_is); (case kc22 => k_is); (case kk22 => k_is)
    (case ka23 => k_is); (case kl23 => k_is); (case kc23 => k_is); (case kk23 => k_is)
    (case ka24 => k_is); (case kl24 => k_is); (case kc24 => k_is); (case kk24 => k_is)
    (case ka25 => k_is); (case kl25 => k_is); (case kc25 => k_is); (case kk25 => k_is)
    (case ka26 => k_is); (case kl26 => k_is); (case kc26 => k_is); (case kk26 => k_is)
    (case ka27 => k_is); (case kl27 => k_is); (case kc27 => k_is); (case kk27 => k_is)
    (case ka28 => k_is); (case kl28 => k_is); (case kc28 => k_is); (case kk28 => k_is)
    (case ka29 => k_is); (case kl29 => k_is); (case kc29 => k_is); (case kk29 => k_is)
    (case ka30 => k_is); (case kl30 => k_is); (case kc30 => k_is); (case kk30 => k_is)
    (case ka31 => k_is); (case kl31 => k_is); (case kc31 => k_is); (case kk31 => k_is)
    (case ka32 => k_is); (case kl32 => k_is); (case kc32 => k_is); (case kk32 => k_is)
    (case ka33 => k_is); (case kl33 => k_is); (case kc33 => k_is); (case kk33 => k_is)
    (case ka34 => k_is); (case kl34 => k_is); (case kc34 => k_is); (case kk34 => k_is)
    (case ka35 => k_is); (case kl35 => k_is); (case kc35 => k_is); (case kk35 => k_is)
    (case ka36 => k_is); (case kl36 => k_is); (case kc36 => k_is); (case kk36 => k_is)
    (case ka37 => k_is); (case kl37 => k_is); (case kc37 => k_is); (case kk37 => k_is)
    (case ka38 => k_is); (case kl38 => k_is); (case kc38 => k_is); (case kk38 => k_is)
    (case ka39 => k_is); (case kl39 => k_is); (case kc39 => k_is); (case kk39 => k_is)
