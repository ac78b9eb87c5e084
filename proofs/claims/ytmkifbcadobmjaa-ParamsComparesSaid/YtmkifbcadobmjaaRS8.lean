/- The summaries of these functions are sound. -/
import Derived.Test.YtmkifbcadobmjaaRE8
import Derived.Test.YtmkifbcadobmjaaRS7
set_option linter.unnecessarySimpa false
set_option linter.unusedVariables false
set_option linter.unusedSimpArgs false
set_option linter.unusedVariables false
set_option linter.unusedSimpArgs false
set_option maxRecDepth 100000
set_option maxHeartbeats 4000000
open Go Go.Rx Go.Proofs
namespace Go.Rx.Ch23
theorem fdiv_b {a k : Int} (h0 : 0 ≤ a) (h1 : a ≤ 4096) (hk : 1 ≤ k) : fdiv a k = a / k ∧ 0 ≤ a / k ∧ a / k ≤ a := by
  have h2 := Int.ediv_nonneg h0 (show 0 ≤ k by omega)
  have h3 := Int.ediv_le_self k h0
  refine ⟨?_, h2, h3⟩
  unfold fdiv w
  rw [if_neg (by omega), Int.tmod_eq_emod_of_nonneg h0, Int.tdiv_eq_ediv_of_nonneg h0, if_neg (by have := Int.emod_nonneg a (show k ≠ 0 by omega); omega), wrap_in (by omega) (by omega)]
theorem cdiv_b {a k : Int} (h0 : 0 ≤ a) (h1 : a ≤ 4096) (hk : 1 ≤ k) : a / k ≤ cdiv a k ∧ cdiv a k ≤ a := by
  have h2 := Int.ediv_nonneg h0 (show 0 ≤ k by omega)
  have h3 := Int.ediv_le_self k h0
  have h4 := Int.emod_add_mul_ediv a k
  have h5 : 1 * (a / k) ≤ k * (a / k) := Int.mul_le_mul_of_nonneg_right hk h2
  unfold cdiv w
  rw [if_neg (by omega), Int.tmod_eq_emod_of_nonneg h0, Int.tdiv_eq_ediv_of_nonneg h0, wrap_in (n := a / k) (by omega) (by omega)]
  split
  · rw [wrap_in (by omega) (by omega)]; omega
  · omega
theorem span_b {a c k : Int} (h0 : 0 ≤ a) (h : a ≤ c) (h1 : c ≤ 4096) (hk : 1 ≤ k) : 0 ≤ fdiv a k ∧ fdiv a k ≤ cdiv c k ∧ cdiv c k ≤ 4096 := by
  have h2 := fdiv_b h0 (by omega) hk
  have h3 := cdiv_b (show 0 ≤ c by omega) h1 hk
  have h4 := Int.ediv_le_ediv (show 0 < k by omega) h
  omega
theorem prod_b {x y m n : Int} (h0 : 0 ≤ x) (h1 : x ≤ m) (h2 : 0 ≤ y) (h3 : y ≤ n) : 0 ≤ x * y ∧ x * y ≤ m * n :=
  ⟨Int.mul_nonneg h0 h2, Int.mul_le_mul h1 h3 h2 (by omega)⟩
theorem rowL_len (a b c d w h j : Int) : ∀ n i, (rowL a b c d w h j n i).length = n
  | 0, i => rfl
  | n + 1, i => by simp [rowL, rowL_len a b c d w h j n]
theorem r_rect_Cells_0 : RoundOk Try.prog t_rect_Cells (annOf []) l_rect_Cells Out 20 0 86 [1, 2, 3, 7, 8, 10, 11, 12] (kxOf [11] [6]) (loopOf Try.f22 0) T_rect_Cells_0 := by
  intro vs bl Kc r h
  unfold T_rect_Cells_0 at h
  obtain ⟨t, y0', h'⟩ := getD_run h
  obtain ⟨c', vs, rfl, y1'⟩ := pO_s y0'
  obtain ⟨w, rfl, y2'⟩ := kI_s y1'
  obtain ⟨c', vs, rfl, y3'⟩ := pO_s y2'
  obtain ⟨h, rfl, y4'⟩ := kI_s y3'
  obtain ⟨c', vs, rfl, y5'⟩ := pO_s y4'
  obtain ⟨rfl, y6'⟩ := kP_s y5'
  obtain ⟨c', vs, rfl, y7'⟩ := pO_s y6'
  obtain ⟨l, rfl, y8'⟩ := kI_s y7'
  obtain ⟨c', vs, rfl, y9'⟩ := pO_s y8'
  obtain ⟨g, rfl, y10'⟩ := kI_s y9'
  obtain ⟨c', vs, rfl, y11'⟩ := pO_s y10'
  obtain ⟨u, rfl, y12'⟩ := kI_s y11'
  obtain ⟨c', vs, rfl, y13'⟩ := pO_s y12'
  obtain ⟨rfl, y14'⟩ := kR_s y13'
  obtain ⟨c', vs, rfl, y15'⟩ := pO_s y14'
  obtain ⟨j, rfl, y16'⟩ := kI_s y15'
  obtain ⟨rfl, y17'⟩ := pE_s y16'
  obtain ⟨q', bl, rfl, y18'⟩ := bB_s y17'
  obtain ⟨c', q', rfl, y19'⟩ := tC_s y18'
  obtain ⟨a, rfl, y20'⟩ := kI_s y19'
  obtain ⟨c', q', rfl, y21'⟩ := tC_s y20'
  obtain ⟨b, rfl, y22'⟩ := kI_s y21'
  obtain ⟨c', q', rfl, y23'⟩ := tC_s y22'
  obtain ⟨c, rfl, y24'⟩ := kI_s y23'
  obtain ⟨c', q', rfl, y25'⟩ := tC_s y24'
  obtain ⟨d, rfl, y26'⟩ := kI_s y25'
  obtain ⟨rfl, y27'⟩ := tE_s y26'
  obtain ⟨t, bl, rfl, y28'⟩ := bAR_s y27'
  obtain ⟨rfl, y29'⟩ := bE_s y28'
  have yy' := y29'
  cases yy'
  exact (b_rect_Cells_0 ..).trans ((congrArg (LT.runc · Kc) (tu_rect_Cells_0 ..)).trans h')
theorem r_rect_Cells_1 : RoundOk Try.prog t_rect_Cells (annOf []) l_rect_Cells Out 20 0 86 [1, 2, 3, 7, 8, 10, 11, 12, 13] (kxOf [1, 2, 3, 7, 8, 10, 11, 12] [6]) (loopOf Try.f22 1) T_rect_Cells_1 := by
  intro vs bl Kc r h
  unfold T_rect_Cells_1 at h
  obtain ⟨t, y0', h'⟩ := getD_run h
  obtain ⟨c', vs, rfl, y1'⟩ := pO_s y0'
  obtain ⟨w, rfl, y2'⟩ := kI_s y1'
  obtain ⟨c', vs, rfl, y3'⟩ := pO_s y2'
  obtain ⟨h, rfl, y4'⟩ := kI_s y3'
  obtain ⟨c', vs, rfl, y5'⟩ := pO_s y4'
  obtain ⟨rfl, y6'⟩ := kP_s y5'
  obtain ⟨c', vs, rfl, y7'⟩ := pO_s y6'
  obtain ⟨l, rfl, y8'⟩ := kI_s y7'
  obtain ⟨c', vs, rfl, y9'⟩ := pO_s y8'
  obtain ⟨g, rfl, y10'⟩ := kI_s y9'
  obtain ⟨c', vs, rfl, y11'⟩ := pO_s y10'
  obtain ⟨u, rfl, y12'⟩ := kI_s y11'
  obtain ⟨c', vs, rfl, y13'⟩ := pO_s y12'
  obtain ⟨rfl, y14'⟩ := kR_s y13'
  obtain ⟨c', vs, rfl, y15'⟩ := pO_s y14'
  obtain ⟨j, rfl, y16'⟩ := kI_s y15'
  obtain ⟨c', vs, rfl, y17'⟩ := pO_s y16'
  obtain ⟨i, rfl, y18'⟩ := kI_s y17'
  obtain ⟨rfl, y19'⟩ := pE_s y18'
  obtain ⟨q', bl, rfl, y20'⟩ := bB_s y19'
  obtain ⟨c', q', rfl, y21'⟩ := tC_s y20'
  obtain ⟨a, rfl, y22'⟩ := kI_s y21'
  obtain ⟨c', q', rfl, y23'⟩ := tC_s y22'
  obtain ⟨b, rfl, y24'⟩ := kI_s y23'
  obtain ⟨c', q', rfl, y25'⟩ := tC_s y24'
  obtain ⟨c, rfl, y26'⟩ := kI_s y25'
  obtain ⟨c', q', rfl, y27'⟩ := tC_s y26'
  obtain ⟨d, rfl, y28'⟩ := kI_s y27'
  obtain ⟨rfl, y29'⟩ := tE_s y28'
  obtain ⟨t, bl, rfl, y30'⟩ := bAR_s y29'
  obtain ⟨rfl, y31'⟩ := bE_s y30'
  have yy' := y31'
  cases yy'
  exact (b_rect_Cells_1 ..).trans ((congrArg (LT.runc · Kc) (tu_rect_Cells_1 ..)).trans h')
theorem o_rect_Cells : loopsOf (bodyOf Try.f22) = [loopOf Try.f22 0, loopOf Try.f22 1] := by kernel_rfl
theorem zo_rect (a b c d w h l g u : Int) (hk : cellsOk a b c d w h = true) (hl : 0 ≤ l ∧ l ≤ g ∧ g ≤ 4096) (hu : u ≤ 4096) : ∀ (n : Nat) (j : Int) (t : List Rc), u - j = n → 0 ≤ j → (t.length : Int) + 4096 * (u - j) ≤ 68719476736 → ∃ k, ∀ (K : Ex → List V → List (Option Blk) → Option Out) (r : Out), (LT.leaf (.exit 0) [.one (.row 0)] [some (.arr 23 (.pair (.int .i64) (.pair (.int .i64) (.pair (.int .i64) (.int .i64)))) (t ++ gridL a b c d w h l (g - l).toNat n j))]).run K = some r → (iter T_rect_Cells_0 k [.one (.int .i64 w), .one (.int .i64 h), .one (.ptr 0 0), .one (.int .i64 l), .one (.int .i64 g), .one (.int .i64 u), .one (.row 1), .one (.int .i64 j)] [some (.box [.int .i64 a, .int .i64 b, .int .i64 c, .int .i64 d]), some (.arr 23 (.pair (.int .i64) (.pair (.int .i64) (.pair (.int .i64) (.int .i64)))) (t))]).run K = some r
  | 0, j, t, h0, h1, h2 => ⟨1, fun K r h' => by
    simp only [iter, tu_rect_Cells_0, U_rect_Cells_0, LT.next, LT.run, ite2_dec]
    rw [if_neg (by omega)]
    simpa [LT.run, gridL] using h'⟩
  | n + 1, j, t, h0, h1, h2 => by
    obtain ⟨k, hk'⟩ := zo_rect a b c d w h l g u hk hl hu n (j + 1) (t ++ rowL a b c d w h j (g - l).toNat l) (by omega) (by omega) (by rw [List.length_append, rowL_len]; push_cast; omega)
    refine ⟨k + 1, fun K r h' => ?_⟩
    simp only [iter, tu_rect_Cells_0, U_rect_Cells_0, LT.next, LT.run, ite2_bool, decide_eq_true_eq]
    rw [if_pos (by omega), if_pos (by simp only [k_rect_Cells_1, hk, Bool.true_and, Bool.and_eq_true, decide_eq_true_eq]; omega), wrap_in (n := j + 1) (by omega) (by omega)]
    refine hk' K r ?_
    rw [List.append_assoc]
    exact h'
theorem zz_rect_Cells_0 (a b c d w h l g u j : Int) (t : List Rc) (hk : k_rect_Cells_0 a b c d w h l g u j t = true) : ∃ k, ∀ (K : Ex → List V → List (Option Blk) → Option Out) r, (c_rect_Cells_0 a b c d w h l g u j t).run K = some r → (iter T_rect_Cells_0 k [.one (.int .i64 w), .one (.int .i64 h), .one (.ptr 0 0), .one (.int .i64 l), .one (.int .i64 g), .one (.int .i64 u), .one (.row 1), .one (.int .i64 j)] [some (.box [.int .i64 a, .int .i64 b, .int .i64 c, .int .i64 d]), some (.arr 23 (.pair (.int .i64) (.pair (.int .i64) (.pair (.int .i64) (.int .i64)))) t)]).run K = some r := by
  simp only [k_rect_Cells_0, Bool.and_eq_true, decide_eq_true_eq] at hk
  exact zo_rect a b c d w h l g u hk.1.1.1 ⟨hk.1.1.2.1.1, hk.1.1.2.1.2, hk.1.1.2.2⟩ hk.1.2.2 (u - j).toNat j t (by omega) hk.1.2.1.1 hk.2
theorem z_rect_Cells_0 : ∀ vs bl t, S_rect_Cells_0 vs bl = some (true, t) → ∃ n, ∀ (K : Ex → List V → List (Option Blk) → Option Out) r, t.run K = some r → (iter T_rect_Cells_0 n vs bl).run K = some r := by
  intro vs bl t y0'
  unfold S_rect_Cells_0 at y0'
  obtain ⟨c', vs, rfl, y1'⟩ := pO_s y0'
  obtain ⟨w, rfl, y2'⟩ := kI_s y1'
  obtain ⟨c', vs, rfl, y3'⟩ := pO_s y2'
  obtain ⟨h, rfl, y4'⟩ := kI_s y3'
  obtain ⟨c', vs, rfl, y5'⟩ := pO_s y4'
  obtain ⟨rfl, y6'⟩ := kP_s y5'
  obtain ⟨c', vs, rfl, y7'⟩ := pO_s y6'
  obtain ⟨l, rfl, y8'⟩ := kI_s y7'
  obtain ⟨c', vs, rfl, y9'⟩ := pO_s y8'
  obtain ⟨g, rfl, y10'⟩ := kI_s y9'
  obtain ⟨c', vs, rfl, y11'⟩ := pO_s y10'
  obtain ⟨u, rfl, y12'⟩ := kI_s y11'
  obtain ⟨c', vs, rfl, y13'⟩ := pO_s y12'
  obtain ⟨rfl, y14'⟩ := kR_s y13'
  obtain ⟨c', vs, rfl, y15'⟩ := pO_s y14'
  obtain ⟨j, rfl, y16'⟩ := kI_s y15'
  obtain ⟨rfl, y17'⟩ := pE_s y16'
  obtain ⟨q', bl, rfl, y18'⟩ := bB_s y17'
  obtain ⟨c', q', rfl, y19'⟩ := tC_s y18'
  obtain ⟨a, rfl, y20'⟩ := kI_s y19'
  obtain ⟨c', q', rfl, y21'⟩ := tC_s y20'
  obtain ⟨b, rfl, y22'⟩ := kI_s y21'
  obtain ⟨c', q', rfl, y23'⟩ := tC_s y22'
  obtain ⟨c, rfl, y24'⟩ := kI_s y23'
  obtain ⟨c', q', rfl, y25'⟩ := tC_s y24'
  obtain ⟨d, rfl, y26'⟩ := kI_s y25'
  obtain ⟨rfl, y27'⟩ := tE_s y26'
  obtain ⟨t, bl, rfl, y28'⟩ := bAR_s y27'
  obtain ⟨rfl, y29'⟩ := bE_s y28'
  have yy' := y29'
  obtain ⟨hk, rfl⟩ := Prod.mk.inj (Option.some.inj yy')
  exact zz_rect_Cells_0 _ _ _ _ _ _ _ _ _ _ _ hk
theorem zi_rect (a b c d w h l g u j : Int) (hk : cellsOk a b c d w h = true) (hj : 0 ≤ j ∧ j ≤ 4096) (hg : g ≤ 4096) : ∀ (n : Nat) (i : Int) (t : List Rc), g - i = n → 0 ≤ i → (t.length : Int) + (g - i) ≤ 68719476736 → ∃ k, ∀ (K : Ex → List V → List (Option Blk) → Option Out) (r : Out), (LT.leaf (.exit 2) [.one (.int .i64 w), .one (.int .i64 h), .one (.ptr 0 0), .one (.int .i64 l), .one (.int .i64 g), .one (.int .i64 u), .one (.row 1), .one (.int .i64 j)] [some (.box [.int .i64 a, .int .i64 b, .int .i64 c, .int .i64 d]), some (.arr 23 (.pair (.int .i64) (.pair (.int .i64) (.pair (.int .i64) (.int .i64)))) (t ++ rowL a b c d w h j n i))]).run K = some r → (iter T_rect_Cells_1 k [.one (.int .i64 w), .one (.int .i64 h), .one (.ptr 0 0), .one (.int .i64 l), .one (.int .i64 g), .one (.int .i64 u), .one (.row 1), .one (.int .i64 j), .one (.int .i64 i)] [some (.box [.int .i64 a, .int .i64 b, .int .i64 c, .int .i64 d]), some (.arr 23 (.pair (.int .i64) (.pair (.int .i64) (.pair (.int .i64) (.int .i64)))) (t))]).run K = some r
  | 0, i, t, h0, h1, h2 => ⟨1, fun K r h' => by
    simp only [iter, tu_rect_Cells_1, U_rect_Cells_1, LT.next, LT.run, ite2_dec]
    rw [if_neg (by omega)]
    simpa [LT.run, rowL] using h'⟩
  | n + 1, i, t, h0, h1, h2 => by
    obtain ⟨k, hk'⟩ := zi_rect a b c d w h l g u j hk hj hg n (i + 1) (t ++ [tileR a b c d w h i j]) (by omega) (by omega) (by simp; omega)
    refine ⟨k + 1, fun K r h' => ?_⟩
    simp only [cellsOk, Bool.and_eq_true, decide_eq_true_eq] at hk
    have m1 := prod_b h1 (show i ≤ 4096 by omega) (show 0 ≤ w by omega) hk.1.2.2
    have m2 := prod_b hj.1 hj.2 (show 0 ≤ h by omega) hk.2.2
    have m3 : (i + 1) * w = i * w + w := by rw [Int.add_mul, Int.one_mul]
    have m4 : (j + 1) * h = j * h + h := by rw [Int.add_mul, Int.one_mul]
    simp only [iter, tu_rect_Cells_1, U_rect_Cells_1, LT.next, LT.run, ite2_dec]
    rw [if_pos (by omega), if_pos (by simp only [List.length_singleton]; omega)]
    simp (disch := omega) only [wrap_in]
    
    refine hk' K r ?_
    rw [List.append_assoc]
    exact h'
theorem zz_rect_Cells_1 (a b c d w h l g u j i : Int) (t : List Rc) (hk : k_rect_Cells_1 a b c d w h l g u j i t = true) : ∃ k, ∀ (K : Ex → List V → List (Option Blk) → Option Out) r, (c_rect_Cells_1 a b c d w h l g u j i t).run K = some r → (iter T_rect_Cells_1 k [.one (.int .i64 w), .one (.int .i64 h), .one (.ptr 0 0), .one (.int .i64 l), .one (.int .i64 g), .one (.int .i64 u), .one (.row 1), .one (.int .i64 j), .one (.int .i64 i)] [some (.box [.int .i64 a, .int .i64 b, .int .i64 c, .int .i64 d]), some (.arr 23 (.pair (.int .i64) (.pair (.int .i64) (.pair (.int .i64) (.int .i64)))) t)]).run K = some r := by
  simp only [k_rect_Cells_1, Bool.and_eq_true, decide_eq_true_eq] at hk
  exact zi_rect a b c d w h l g u j hk.1.1.1 hk.1.2 hk.1.1.2.2 (g - i).toNat i t (by omega) hk.1.1.2.1.1 hk.2
theorem z_rect_Cells_1 : ∀ vs bl t, S_rect_Cells_1 vs bl = some (true, t) → ∃ n, ∀ (K : Ex → List V → List (Option Blk) → Option Out) r, t.run K = some r → (iter T_rect_Cells_1 n vs bl).run K = some r := by
  intro vs bl t y0'
  unfold S_rect_Cells_1 at y0'
  obtain ⟨c', vs, rfl, y1'⟩ := pO_s y0'
  obtain ⟨w, rfl, y2'⟩ := kI_s y1'
  obtain ⟨c', vs, rfl, y3'⟩ := pO_s y2'
  obtain ⟨h, rfl, y4'⟩ := kI_s y3'
  obtain ⟨c', vs, rfl, y5'⟩ := pO_s y4'
  obtain ⟨rfl, y6'⟩ := kP_s y5'
  obtain ⟨c', vs, rfl, y7'⟩ := pO_s y6'
  obtain ⟨l, rfl, y8'⟩ := kI_s y7'
  obtain ⟨c', vs, rfl, y9'⟩ := pO_s y8'
  obtain ⟨g, rfl, y10'⟩ := kI_s y9'
  obtain ⟨c', vs, rfl, y11'⟩ := pO_s y10'
  obtain ⟨u, rfl, y12'⟩ := kI_s y11'
  obtain ⟨c', vs, rfl, y13'⟩ := pO_s y12'
  obtain ⟨rfl, y14'⟩ := kR_s y13'
  obtain ⟨c', vs, rfl, y15'⟩ := pO_s y14'
  obtain ⟨j, rfl, y16'⟩ := kI_s y15'
  obtain ⟨c', vs, rfl, y17'⟩ := pO_s y16'
  obtain ⟨i, rfl, y18'⟩ := kI_s y17'
  obtain ⟨rfl, y19'⟩ := pE_s y18'
  obtain ⟨q', bl, rfl, y20'⟩ := bB_s y19'
  obtain ⟨c', q', rfl, y21'⟩ := tC_s y20'
  obtain ⟨a, rfl, y22'⟩ := kI_s y21'
  obtain ⟨c', q', rfl, y23'⟩ := tC_s y22'
  obtain ⟨b, rfl, y24'⟩ := kI_s y23'
  obtain ⟨c', q', rfl, y25'⟩ := tC_s y24'
  obtain ⟨c, rfl, y26'⟩ := kI_s y25'
  obtain ⟨c', q', rfl, y27'⟩ := tC_s y26'
  obtain ⟨d, rfl, y28'⟩ := kI_s y27'
  obtain ⟨rfl, y29'⟩ := tE_s y28'
  obtain ⟨t, bl, rfl, y30'⟩ := bAR_s y29'
  obtain ⟨rfl, y31'⟩ := bE_s y30'
  have yy' := y31'
  obtain ⟨hk, rfl⟩ := Prod.mk.inj (Option.some.inj yy')
  exact zz_rect_Cells_1 _ _ _ _ _ _ _ _ _ _ _ _ hk
theorem q_rect_Cells (a b c d w h : Int) (hok : (decide (w ≤ 4096) && decide (h ≤ 4096)) = true) : funR Try.prog t_rect_Cells (annOf []) l_rect_Cells 20 Try.f22 [.agg [.int .i64 a, .int .i64 b, .int .i64 c, .int .i64 d], .one (.int .i64 w), .one (.int .i64 h)] [] = some ⟨.one (.row 0), [], [.arr 23 (.pair (.int .i64) (.pair (.int .i64) (.pair (.int .i64) (.int .i64)))) (tilesL a b c d w h)]⟩ := by
    refine (e_rect_Cells ..).trans ?_
    simp only [Bool.and_eq_true, decide_eq_true_eq] at hok
    simp only [ite2_bool, decide_eq_true_eq, tilesL]
    cases hv : valid a b c d
    · simp
    cases he : empty a b c d
    rotate_left
    · simp
    have hb := valid_b hv
    by_cases h1 : w < 1
    · simp [h1]
    by_cases h2 : h < 1
    · simp [h2]
    have s1 := span_b hb.1 hb.2.1 hb.2.2.1 (show 1 ≤ w by omega)
    have s2 := span_b hb.2.2.2.1 hb.2.2.2.2.1 hb.2.2.2.2.2 (show 1 ≤ h by omega)
    have m := prod_b (show 0 ≤ cdiv c w - fdiv a w by omega) (show cdiv c w - fdiv a w ≤ 4096 by omega) (show 0 ≤ cdiv d h - fdiv b h by omega) (show cdiv d h - fdiv b h ≤ 4096 by omega)
    simp (disch := omega) only [wrap_in]
    have hc : cellsOk a b c d w h = true := by simp only [cellsOk, hv, Bool.true_and, Bool.and_eq_true, decide_eq_true_eq]; omega
    have hk0 : k_rect_Cells_0 a b c d w h (fdiv a w) (cdiv c w) (cdiv d h) (fdiv b h) [] = true := by
      simp only [k_rect_Cells_0, hc, Bool.true_and, Bool.and_eq_true, decide_eq_true_eq, List.length_nil]; omega
    by_cases h3 : (cdiv c w - fdiv a w) * (cdiv d h - fdiv b h) > 65536
    · simp [h1, h2, h3]
    · simp [h1, h2, h3, hk0]
      rfl
theorem s_rect_Cells : SoundFun Try.prog 22 G_rect_Cells := by
  refine fun_ok (tab := t_rect_Cells) (ann := annOf []) (lt := l_rect_Cells) (tab_cons s_rect_Empty (tab_cons s_rect_Valid (tab_cons s_rect_CeilDiv (tab_cons s_rect_FloorDiv (tab_cons s_rect_Intersect tab_nil))))) (by kernel_rfl) (fn := Try.f22) (by kernel_rfl) (by decide) (c := bodyOf Try.f22) (by kernel_rfl) (by
    intro m b hb
    have hb' : b ∈ loopsOf (bodyOf Try.f22) := hb
    rw [o_rect_Cells] at hb'
    simp only [List.mem_cons, List.not_mem_nil, or_false] at hb'
    rcases hb' with rfl | rfl
    · exact loop_ok (key := 9) (by kernel_rfl) rfl r_rect_Cells_0 z_rect_Cells_0 m
    · exact loop_ok (key := 12) (by kernel_rfl) rfl r_rect_Cells_1 z_rect_Cells_1 m
    ) ?_
  intro args lent o y0'
  unfold G_rect_Cells at y0'
  obtain ⟨q', args, rfl, y1'⟩ := pA_s y0'
  obtain ⟨c', q', rfl, y2'⟩ := tC_s y1'
  obtain ⟨a, rfl, y3'⟩ := kI_s y2'
  obtain ⟨c', q', rfl, y4'⟩ := tC_s y3'
  obtain ⟨b, rfl, y5'⟩ := kI_s y4'
  obtain ⟨c', q', rfl, y6'⟩ := tC_s y5'
  obtain ⟨c, rfl, y7'⟩ := kI_s y6'
  obtain ⟨c', q', rfl, y8'⟩ := tC_s y7'
  obtain ⟨d, rfl, y9'⟩ := kI_s y8'
  obtain ⟨rfl, y10'⟩ := tE_s y9'
  obtain ⟨c', args, rfl, y11'⟩ := pO_s y10'
  obtain ⟨w, rfl, y12'⟩ := kI_s y11'
  obtain ⟨c', args, rfl, y13'⟩ := pO_s y12'
  obtain ⟨h, rfl, y14'⟩ := kI_s y13'
  obtain ⟨rfl, y15'⟩ := pE_s y14'
  obtain ⟨rfl, y16'⟩ := nE_s y15'
  have yy' := y16'
  unfold H_rect_Cells at yy'
  obtain ⟨hok, rfl⟩ := Prod.mk.inj (Option.some.inj yy')
  exact ⟨20, q_rect_Cells _ _ _ _ _ _ hok⟩
theorem r_ref01_Cells_0 : RoundOk Try.prog t_ref01_Cells (annOf []) l_ref01_Cells Out 20 0 88 [1, 2, 3, 7, 8, 10, 11, 12] (kxOf [11] [6]) (loopOf Try.f46 0) T_ref01_Cells_0 := by
  intro vs bl Kc r h
  unfold T_ref01_Cells_0 at h
  obtain ⟨t, y0', h'⟩ := getD_run h
  obtain ⟨c', vs, rfl, y1'⟩ := pO_s y0'
  obtain ⟨w, rfl, y2'⟩ := kI_s y1'
  obtain ⟨c', vs, rfl, y3'⟩ := pO_s y2'
  obtain ⟨h, rfl, y4'⟩ := kI_s y3'
  obtain ⟨c', vs, rfl, y5'⟩ := pO_s y4'
  obtain ⟨rfl, y6'⟩ := kP_s y5'
  obtain ⟨c', vs, rfl, y7'⟩ := pO_s y6'
  obtain ⟨l, rfl, y8'⟩ := kI_s y7'
  obtain ⟨c', vs, rfl, y9'⟩ := pO_s y8'
  obtain ⟨g, rfl, y10'⟩ := kI_s y9'
  obtain ⟨c', vs, rfl, y11'⟩ := pO_s y10'
  obtain ⟨u, rfl, y12'⟩ := kI_s y11'
  obtain ⟨c', vs, rfl, y13'⟩ := pO_s y12'
  obtain ⟨rfl, y14'⟩ := kR_s y13'
  obtain ⟨c', vs, rfl, y15'⟩ := pO_s y14'
  obtain ⟨j, rfl, y16'⟩ := kI_s y15'
  obtain ⟨rfl, y17'⟩ := pE_s y16'
  obtain ⟨q', bl, rfl, y18'⟩ := bB_s y17'
  obtain ⟨c', q', rfl, y19'⟩ := tC_s y18'
  obtain ⟨a, rfl, y20'⟩ := kI_s y19'
  obtain ⟨c', q', rfl, y21'⟩ := tC_s y20'
  obtain ⟨b, rfl, y22'⟩ := kI_s y21'
  obtain ⟨c', q', rfl, y23'⟩ := tC_s y22'
  obtain ⟨c, rfl, y24'⟩ := kI_s y23'
  obtain ⟨c', q', rfl, y25'⟩ := tC_s y24'
  obtain ⟨d, rfl, y26'⟩ := kI_s y25'
  obtain ⟨rfl, y27'⟩ := tE_s y26'
  obtain ⟨t, bl, rfl, y28'⟩ := bAR_s y27'
  obtain ⟨rfl, y29'⟩ := bE_s y28'
  have yy' := y29'
  cases yy'
  exact (b_ref01_Cells_0 ..).trans ((congrArg (LT.runc · Kc) (tu_ref01_Cells_0 ..)).trans h')
theorem r_ref01_Cells_1 : RoundOk Try.prog t_ref01_Cells (annOf []) l_ref01_Cells Out 20 0 88 [1, 2, 3, 7, 8, 10, 11, 12, 13] (kxOf [1, 2, 3, 7, 8, 10, 11, 12] [6]) (loopOf Try.f46 1) T_ref01_Cells_1 := by
  intro vs bl Kc r h
  unfold T_ref01_Cells_1 at h
  obtain ⟨t, y0', h'⟩ := getD_run h
  obtain ⟨c', vs, rfl, y1'⟩ := pO_s y0'
  obtain ⟨w, rfl, y2'⟩ := kI_s y1'
  obtain ⟨c', vs, rfl, y3'⟩ := pO_s y2'
  obtain ⟨h, rfl, y4'⟩ := kI_s y3'
  obtain ⟨c', vs, rfl, y5'⟩ := pO_s y4'
  obtain ⟨rfl, y6'⟩ := kP_s y5'
  obtain ⟨c', vs, rfl, y7'⟩ := pO_s y6'
  obtain ⟨l, rfl, y8'⟩ := kI_s y7'
  obtain ⟨c', vs, rfl, y9'⟩ := pO_s y8'
  obtain ⟨g, rfl, y10'⟩ := kI_s y9'
  obtain ⟨c', vs, rfl, y11'⟩ := pO_s y10'
  obtain ⟨u, rfl, y12'⟩ := kI_s y11'
  obtain ⟨c', vs, rfl, y13'⟩ := pO_s y12'
  obtain ⟨rfl, y14'⟩ := kR_s y13'
  obtain ⟨c', vs, rfl, y15'⟩ := pO_s y14'
  obtain ⟨j, rfl, y16'⟩ := kI_s y15'
  obtain ⟨c', vs, rfl, y17'⟩ := pO_s y16'
  obtain ⟨i, rfl, y18'⟩ := kI_s y17'
  obtain ⟨rfl, y19'⟩ := pE_s y18'
  obtain ⟨q', bl, rfl, y20'⟩ := bB_s y19'
  obtain ⟨c', q', rfl, y21'⟩ := tC_s y20'
  obtain ⟨a, rfl, y22'⟩ := kI_s y21'
  obtain ⟨c', q', rfl, y23'⟩ := tC_s y22'
  obtain ⟨b, rfl, y24'⟩ := kI_s y23'
  obtain ⟨c', q', rfl, y25'⟩ := tC_s y24'
  obtain ⟨c, rfl, y26'⟩ := kI_s y25'
  obtain ⟨c', q', rfl, y27'⟩ := tC_s y26'
  obtain ⟨d, rfl, y28'⟩ := kI_s y27'
  obtain ⟨rfl, y29'⟩ := tE_s y28'
  obtain ⟨t, bl, rfl, y30'⟩ := bAR_s y29'
  obtain ⟨rfl, y31'⟩ := bE_s y30'
  have yy' := y31'
  cases yy'
  exact (b_ref01_Cells_1 ..).trans ((congrArg (LT.runc · Kc) (tu_ref01_Cells_1 ..)).trans h')
theorem o_ref01_Cells : loopsOf (bodyOf Try.f46) = [loopOf Try.f46 0, loopOf Try.f46 1] := by kernel_rfl
theorem zo_ref01 (a b c d w h l g u : Int) (hk : cellsOk a b c d w h = true) (hl : 0 ≤ l ∧ l ≤ g ∧ g ≤ 4096) (hu : u ≤ 4096) : ∀ (n : Nat) (j : Int) (t : List Rc), u - j = n → 0 ≤ j → (t.length : Int) + 4096 * (u - j) ≤ 68719476736 → ∃ k, ∀ (K : Ex → List V → List (Option Blk) → Option Out) (r : Out), (LT.leaf (.exit 0) [.one (.row 0)] [some (.arr 23 (.pair (.int .i64) (.pair (.int .i64) (.pair (.int .i64) (.int .i64)))) (t ++ gridL a b c d w h l (g - l).toNat n j))]).run K = some r → (iter T_ref01_Cells_0 k [.one (.int .i64 w), .one (.int .i64 h), .one (.ptr 0 0), .one (.int .i64 l), .one (.int .i64 g), .one (.int .i64 u), .one (.row 1), .one (.int .i64 j)] [some (.box [.int .i64 a, .int .i64 b, .int .i64 c, .int .i64 d]), some (.arr 23 (.pair (.int .i64) (.pair (.int .i64) (.pair (.int .i64) (.int .i64)))) (t))]).run K = some r
  | 0, j, t, h0, h1, h2 => ⟨1, fun K r h' => by
    simp only [iter, tu_ref01_Cells_0, U_ref01_Cells_0, LT.next, LT.run, ite2_dec]
    rw [if_neg (by omega)]
    simpa [LT.run, gridL] using h'⟩
  | n + 1, j, t, h0, h1, h2 => by
    obtain ⟨k, hk'⟩ := zo_ref01 a b c d w h l g u hk hl hu n (j + 1) (t ++ rowL a b c d w h j (g - l).toNat l) (by omega) (by omega) (by rw [List.length_append, rowL_len]; push_cast; omega)
    refine ⟨k + 1, fun K r h' => ?_⟩
    simp only [iter, tu_ref01_Cells_0, U_ref01_Cells_0, LT.next, LT.run, ite2_bool, decide_eq_true_eq]
    rw [if_pos (by omega), if_pos (by simp only [k_ref01_Cells_1, hk, Bool.true_and, Bool.and_eq_true, decide_eq_true_eq]; omega), wrap_in (n := j + 1) (by omega) (by omega)]
    refine hk' K r ?_
    rw [List.append_assoc]
    exact h'
theorem zz_ref01_Cells_0 (a b c d w h l g u j : Int) (t : List Rc) (hk : k_ref01_Cells_0 a b c d w h l g u j t = true) : ∃ k, ∀ (K : Ex → List V → List (Option Blk) → Option Out) r, (c_ref01_Cells_0 a b c d w h l g u j t).run K = some r → (iter T_ref01_Cells_0 k [.one (.int .i64 w), .one (.int .i64 h), .one (.ptr 0 0), .one (.int .i64 l), .one (.int .i64 g), .one (.int .i64 u), .one (.row 1), .one (.int .i64 j)] [some (.box [.int .i64 a, .int .i64 b, .int .i64 c, .int .i64 d]), some (.arr 23 (.pair (.int .i64) (.pair (.int .i64) (.pair (.int .i64) (.int .i64)))) t)]).run K = some r := by
  simp only [k_ref01_Cells_0, Bool.and_eq_true, decide_eq_true_eq] at hk
  exact zo_ref01 a b c d w h l g u hk.1.1.1 ⟨hk.1.1.2.1.1, hk.1.1.2.1.2, hk.1.1.2.2⟩ hk.1.2.2 (u - j).toNat j t (by omega) hk.1.2.1.1 hk.2
theorem z_ref01_Cells_0 : ∀ vs bl t, S_ref01_Cells_0 vs bl = some (true, t) → ∃ n, ∀ (K : Ex → List V → List (Option Blk) → Option Out) r, t.run K = some r → (iter T_ref01_Cells_0 n vs bl).run K = some r := by
  intro vs bl t y0'
  unfold S_ref01_Cells_0 at y0'
  obtain ⟨c', vs, rfl, y1'⟩ := pO_s y0'
  obtain ⟨w, rfl, y2'⟩ := kI_s y1'
  obtain ⟨c', vs, rfl, y3'⟩ := pO_s y2'
  obtain ⟨h, rfl, y4'⟩ := kI_s y3'
  obtain ⟨c', vs, rfl, y5'⟩ := pO_s y4'
  obtain ⟨rfl, y6'⟩ := kP_s y5'
  obtain ⟨c', vs, rfl, y7'⟩ := pO_s y6'
  obtain ⟨l, rfl, y8'⟩ := kI_s y7'
  obtain ⟨c', vs, rfl, y9'⟩ := pO_s y8'
  obtain ⟨g, rfl, y10'⟩ := kI_s y9'
  obtain ⟨c', vs, rfl, y11'⟩ := pO_s y10'
  obtain ⟨u, rfl, y12'⟩ := kI_s y11'
  obtain ⟨c', vs, rfl, y13'⟩ := pO_s y12'
  obtain ⟨rfl, y14'⟩ := kR_s y13'
  obtain ⟨c', vs, rfl, y15'⟩ := pO_s y14'
  obtain ⟨j, rfl, y16'⟩ := kI_s y15'
  obtain ⟨rfl, y17'⟩ := pE_s y16'
  obtain ⟨q', bl, rfl, y18'⟩ := bB_s y17'
  obtain ⟨c', q', rfl, y19'⟩ := tC_s y18'
  obtain ⟨a, rfl, y20'⟩ := kI_s y19'
  obtain ⟨c', q', rfl, y21'⟩ := tC_s y20'
  obtain ⟨b, rfl, y22'⟩ := kI_s y21'
  obtain ⟨c', q', rfl, y23'⟩ := tC_s y22'
  obtain ⟨c, rfl, y24'⟩ := kI_s y23'
  obtain ⟨c', q', rfl, y25'⟩ := tC_s y24'
  obtain ⟨d, rfl, y26'⟩ := kI_s y25'
  obtain ⟨rfl, y27'⟩ := tE_s y26'
  obtain ⟨t, bl, rfl, y28'⟩ := bAR_s y27'
  obtain ⟨rfl, y29'⟩ := bE_s y28'
  have yy' := y29'
  obtain ⟨hk, rfl⟩ := Prod.mk.inj (Option.some.inj yy')
  exact zz_ref01_Cells_0 _ _ _ _ _ _ _ _ _ _ _ hk
theorem zi_ref01 (a b c d w h l g u j : Int) (hk : cellsOk a b c d w h = true) (hj : 0 ≤ j ∧ j ≤ 4096) (hg : g ≤ 4096) : ∀ (n : Nat) (i : Int) (t : List Rc), g - i = n → 0 ≤ i → (t.length : Int) + (g - i) ≤ 68719476736 → ∃ k, ∀ (K : Ex → List V → List (Option Blk) → Option Out) (r : Out), (LT.leaf (.exit 2) [.one (.int .i64 w), .one (.int .i64 h), .one (.ptr 0 0), .one (.int .i64 l), .one (.int .i64 g), .one (.int .i64 u), .one (.row 1), .one (.int .i64 j)] [some (.box [.int .i64 a, .int .i64 b, .int .i64 c, .int .i64 d]), some (.arr 23 (.pair (.int .i64) (.pair (.int .i64) (.pair (.int .i64) (.int .i64)))) (t ++ rowL a b c d w h j n i))]).run K = some r → (iter T_ref01_Cells_1 k [.one (.int .i64 w), .one (.int .i64 h), .one (.ptr 0 0), .one (.int .i64 l), .one (.int .i64 g), .one (.int .i64 u), .one (.row 1), .one (.int .i64 j), .one (.int .i64 i)] [some (.box [.int .i64 a, .int .i64 b, .int .i64 c, .int .i64 d]), some (.arr 23 (.pair (.int .i64) (.pair (.int .i64) (.pair (.int .i64) (.int .i64)))) (t))]).run K = some r
  | 0, i, t, h0, h1, h2 => ⟨1, fun K r h' => by
    simp only [iter, tu_ref01_Cells_1, U_ref01_Cells_1, LT.next, LT.run, ite2_dec]
    rw [if_neg (by omega)]
    simpa [LT.run, rowL] using h'⟩
  | n + 1, i, t, h0, h1, h2 => by
    obtain ⟨k, hk'⟩ := zi_ref01 a b c d w h l g u j hk hj hg n (i + 1) (t ++ [tileR a b c d w h i j]) (by omega) (by omega) (by simp; omega)
    refine ⟨k + 1, fun K r h' => ?_⟩
    simp only [cellsOk, Bool.and_eq_true, decide_eq_true_eq] at hk
    have m1 := prod_b h1 (show i ≤ 4096 by omega) (show 0 ≤ w by omega) hk.1.2.2
    have m2 := prod_b hj.1 hj.2 (show 0 ≤ h by omega) hk.2.2
    have m3 : (i + 1) * w = i * w + w := by rw [Int.add_mul, Int.one_mul]
    have m4 : (j + 1) * h = j * h + h := by rw [Int.add_mul, Int.one_mul]
    simp only [iter, tu_ref01_Cells_1, U_ref01_Cells_1, LT.next, LT.run, ite2_dec]
    rw [if_pos (by omega), if_pos (by simp only [List.length_singleton]; omega)]
    simp (disch := omega) only [wrap_in]
    rw [← m3, ← m4]
    refine hk' K r ?_
    rw [List.append_assoc]
    exact h'
theorem zz_ref01_Cells_1 (a b c d w h l g u j i : Int) (t : List Rc) (hk : k_ref01_Cells_1 a b c d w h l g u j i t = true) : ∃ k, ∀ (K : Ex → List V → List (Option Blk) → Option Out) r, (c_ref01_Cells_1 a b c d w h l g u j i t).run K = some r → (iter T_ref01_Cells_1 k [.one (.int .i64 w), .one (.int .i64 h), .one (.ptr 0 0), .one (.int .i64 l), .one (.int .i64 g), .one (.int .i64 u), .one (.row 1), .one (.int .i64 j), .one (.int .i64 i)] [some (.box [.int .i64 a, .int .i64 b, .int .i64 c, .int .i64 d]), some (.arr 23 (.pair (.int .i64) (.pair (.int .i64) (.pair (.int .i64) (.int .i64)))) t)]).run K = some r := by
  simp only [k_ref01_Cells_1, Bool.and_eq_true, decide_eq_true_eq] at hk
  exact zi_ref01 a b c d w h l g u j hk.1.1.1 hk.1.2 hk.1.1.2.2 (g - i).toNat i t (by omega) hk.1.1.2.1.1 hk.2
theorem z_ref01_Cells_1 : ∀ vs bl t, S_ref01_Cells_1 vs bl = some (true, t) → ∃ n, ∀ (K : Ex → List V → List (Option Blk) → Option Out) r, t.run K = some r → (iter T_ref01_Cells_1 n vs bl).run K = some r := by
  intro vs bl t y0'
  unfold S_ref01_Cells_1 at y0'
  obtain ⟨c', vs, rfl, y1'⟩ := pO_s y0'
  obtain ⟨w, rfl, y2'⟩ := kI_s y1'
  obtain ⟨c', vs, rfl, y3'⟩ := pO_s y2'
  obtain ⟨h, rfl, y4'⟩ := kI_s y3'
  obtain ⟨c', vs, rfl, y5'⟩ := pO_s y4'
  obtain ⟨rfl, y6'⟩ := kP_s y5'
  obtain ⟨c', vs, rfl, y7'⟩ := pO_s y6'
  obtain ⟨l, rfl, y8'⟩ := kI_s y7'
  obtain ⟨c', vs, rfl, y9'⟩ := pO_s y8'
  obtain ⟨g, rfl, y10'⟩ := kI_s y9'
  obtain ⟨c', vs, rfl, y11'⟩ := pO_s y10'
  obtain ⟨u, rfl, y12'⟩ := kI_s y11'
  obtain ⟨c', vs, rfl, y13'⟩ := pO_s y12'
  obtain ⟨rfl, y14'⟩ := kR_s y13'
  obtain ⟨c', vs, rfl, y15'⟩ := pO_s y14'
  obtain ⟨j, rfl, y16'⟩ := kI_s y15'
  obtain ⟨c', vs, rfl, y17'⟩ := pO_s y16'
  obtain ⟨i, rfl, y18'⟩ := kI_s y17'
  obtain ⟨rfl, y19'⟩ := pE_s y18'
  obtain ⟨q', bl, rfl, y20'⟩ := bB_s y19'
  obtain ⟨c', q', rfl, y21'⟩ := tC_s y20'
  obtain ⟨a, rfl, y22'⟩ := kI_s y21'
  obtain ⟨c', q', rfl, y23'⟩ := tC_s y22'
  obtain ⟨b, rfl, y24'⟩ := kI_s y23'
  obtain ⟨c', q', rfl, y25'⟩ := tC_s y24'
  obtain ⟨c, rfl, y26'⟩ := kI_s y25'
  obtain ⟨c', q', rfl, y27'⟩ := tC_s y26'
  obtain ⟨d, rfl, y28'⟩ := kI_s y27'
  obtain ⟨rfl, y29'⟩ := tE_s y28'
  obtain ⟨t, bl, rfl, y30'⟩ := bAR_s y29'
  obtain ⟨rfl, y31'⟩ := bE_s y30'
  have yy' := y31'
  obtain ⟨hk, rfl⟩ := Prod.mk.inj (Option.some.inj yy')
  exact zz_ref01_Cells_1 _ _ _ _ _ _ _ _ _ _ _ _ hk
theorem q_ref01_Cells (a b c d w h : Int) (hok : (decide (w ≤ 4096) && decide (h ≤ 4096)) = true) : funR Try.prog t_ref01_Cells (annOf []) l_ref01_Cells 20 Try.f46 [.agg [.int .i64 a, .int .i64 b, .int .i64 c, .int .i64 d], .one (.int .i64 w), .one (.int .i64 h)] [] = some ⟨.one (.row 0), [], [.arr 23 (.pair (.int .i64) (.pair (.int .i64) (.pair (.int .i64) (.int .i64)))) (tilesL a b c d w h)]⟩ := by
    refine (e_ref01_Cells ..).trans ?_
    simp only [Bool.and_eq_true, decide_eq_true_eq] at hok
    simp only [ite2_bool, decide_eq_true_eq, tilesL]
    cases hv : valid a b c d
    · simp
    cases he : empty a b c d
    rotate_left
    · simp
    have hb := valid_b hv
    by_cases h1 : w < 1
    · simp [h1]
    by_cases h2 : h < 1
    · simp [h2]
    have s1 := span_b hb.1 hb.2.1 hb.2.2.1 (show 1 ≤ w by omega)
    have s2 := span_b hb.2.2.2.1 hb.2.2.2.2.1 hb.2.2.2.2.2 (show 1 ≤ h by omega)
    have m := prod_b (show 0 ≤ cdiv c w - fdiv a w by omega) (show cdiv c w - fdiv a w ≤ 4096 by omega) (show 0 ≤ cdiv d h - fdiv b h by omega) (show cdiv d h - fdiv b h ≤ 4096 by omega)
    simp (disch := omega) only [wrap_in]
    have hc : cellsOk a b c d w h = true := by simp only [cellsOk, hv, Bool.true_and, Bool.and_eq_true, decide_eq_true_eq]; omega
    have hk0 : k_ref01_Cells_0 a b c d w h (fdiv a w) (cdiv c w) (cdiv d h) (fdiv b h) [] = true := by
      simp only [k_ref01_Cells_0, hc, Bool.true_and, Bool.and_eq_true, decide_eq_true_eq, List.length_nil]; omega
    by_cases h3 : (cdiv c w - fdiv a w) * (cdiv d h - fdiv b h) > 65536
    · simp [h1, h2, h3]
    · simp [h1, h2, h3, hk0]
      rfl
theorem s_ref01_Cells : SoundFun Try.prog 46 G_ref01_Cells := by
  refine fun_ok (tab := t_ref01_Cells) (ann := annOf []) (lt := l_ref01_Cells) (tab_cons s_ref01_Valid (tab_cons s_ref01_Empty (tab_cons s_ref01_CeilDiv (tab_cons s_ref01_FloorDiv (tab_cons s_ref01_Intersect tab_nil))))) (by kernel_rfl) (fn := Try.f46) (by kernel_rfl) (by decide) (c := bodyOf Try.f46) (by kernel_rfl) (by
    intro m b hb
    have hb' : b ∈ loopsOf (bodyOf Try.f46) := hb
    rw [o_ref01_Cells] at hb'
    simp only [List.mem_cons, List.not_mem_nil, or_false] at hb'
    rcases hb' with rfl | rfl
    · exact loop_ok (key := 11) (by kernel_rfl) rfl r_ref01_Cells_0 z_ref01_Cells_0 m
    · exact loop_ok (key := 14) (by kernel_rfl) rfl r_ref01_Cells_1 z_ref01_Cells_1 m
    ) ?_
  intro args lent o y0'
  unfold G_ref01_Cells at y0'
  obtain ⟨q', args, rfl, y1'⟩ := pA_s y0'
  obtain ⟨c', q', rfl, y2'⟩ := tC_s y1'
  obtain ⟨a, rfl, y3'⟩ := kI_s y2'
  obtain ⟨c', q', rfl, y4'⟩ := tC_s y3'
  obtain ⟨b, rfl, y5'⟩ := kI_s y4'
  obtain ⟨c', q', rfl, y6'⟩ := tC_s y5'
  obtain ⟨c, rfl, y7'⟩ := kI_s y6'
  obtain ⟨c', q', rfl, y8'⟩ := tC_s y7'
  obtain ⟨d, rfl, y9'⟩ := kI_s y8'
  obtain ⟨rfl, y10'⟩ := tE_s y9'
  obtain ⟨c', args, rfl, y11'⟩ := pO_s y10'
  obtain ⟨w, rfl, y12'⟩ := kI_s y11'
  obtain ⟨c', args, rfl, y13'⟩ := pO_s y12'
  obtain ⟨h, rfl, y14'⟩ := kI_s y13'
  obtain ⟨rfl, y15'⟩ := pE_s y14'
  obtain ⟨rfl, y16'⟩ := nE_s y15'
  have yy' := y16'
  unfold H_ref01_Cells at yy'
  obtain ⟨hok, rfl⟩ := Prod.mk.inj (Option.some.inj yy')
  exact ⟨20, q_ref01_Cells _ _ _ _ _ _ hok⟩
end Go.Rx.Ch23
