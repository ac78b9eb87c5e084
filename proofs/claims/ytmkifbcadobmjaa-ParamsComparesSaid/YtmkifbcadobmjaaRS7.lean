/- The summaries of these functions are sound. -/
import Derived.Test.YtmkifbcadobmjaaRE7
import Derived.Test.YtmkifbcadobmjaaRS6
set_option linter.unnecessarySimpa false
set_option linter.unusedVariables false
set_option linter.unusedSimpArgs false
set_option linter.unusedVariables false
set_option linter.unusedSimpArgs false
set_option maxRecDepth 100000
set_option maxHeartbeats 4000000
open Go Go.Rx Go.Proofs
namespace Go.Rx.Ch23
theorem shl_pw {k : Int} (h0 : 0 ≤ k) (h1 : k ≤ 12) : IntKind.wrap .i64 (1 * 2 ^ min k.toNat 64) = pw k := shl_pw0 _ (by omega)
theorem pl_b {i n : Int} (h : plOk i n = true) : 0 ≤ n ∧ n ≤ 5 ∧ 0 ≤ i ∧ i ≤ 3 * n := by
  unfold plOk count inr at h
  simp only [Bool.and_eq_true, decide_eq_true_eq] at h
  split at h <;> omega
theorem pl_d {i n : Int} (h : plOk i n = true) (hi : i ≠ 0) : 1 ≤ plLv i n ∧ plLv i n ≤ n ∧ 1 ≤ plOr i n ∧ plOr i n ≤ 3 := by
  have := pl_b h
  simp only [plLv, plOr, h, hi, if_true, if_false]
  omega
theorem valid_b {a b c d : Int} (h : valid a b c d = true) : 0 ≤ a ∧ a ≤ c ∧ c ≤ 4096 ∧ 0 ≤ b ∧ b ≤ d ∧ d ≤ 4096 := by
  simp only [valid, Bool.and_eq_true, decide_eq_true_eq, and_assoc] at h
  exact h
theorem inr_b {a b x : Int} (h : inr a b x = true) : a ≤ x ∧ x ≤ b := by
  simpa only [inr, Bool.and_eq_true, decide_eq_true_eq] using h
theorem inr_t {a b x : Int} (h : a ≤ x) (h' : x ≤ b) : inr a b x = true := by
  simp only [inr, Bool.and_eq_true, decide_eq_true_eq]; exact ⟨h, h'⟩
theorem q_pyr_validLevels (n : Int) (hok : true = true) : funR Try.prog t_pyr_validLevels (annOf []) l_pyr_validLevels 20 Try.f76 [.one (.int .i64 n)] [] = some ⟨.one (.bool (inr 0 5 n)), [], []⟩ := by
    refine (e_pyr_validLevels ..).trans ?_
    simp only [ite2_dec, ite2_bool, mx_eq, mn_eq, inr]
    (repeat' split) <;> (try simp_all) <;> (try omega) <;> (try (rw [Bool.eq_iff_iff]; simp; omega))
theorem s_pyr_validLevels : SoundFun Try.prog 76 G_pyr_validLevels := by
  refine fun_ok (tab := t_pyr_validLevels) (ann := annOf []) (lt := l_pyr_validLevels) tab_nil (by kernel_rfl) (fn := Try.f76) (by kernel_rfl) (by decide) (c := bodyOf Try.f76) (by kernel_rfl) (fun m b hb => absurd hb (by show b ∉ loopsOf (bodyOf Try.f76); rw [show loopsOf (bodyOf Try.f76) = [] from by kernel_rfl]; exact List.not_mem_nil)) ?_
  intro args lent o y0'
  unfold G_pyr_validLevels at y0'
  obtain ⟨c', args, rfl, y1'⟩ := pO_s y0'
  obtain ⟨n, rfl, y2'⟩ := kI_s y1'
  obtain ⟨rfl, y3'⟩ := pE_s y2'
  obtain ⟨rfl, y4'⟩ := nE_s y3'
  have yy' := y4'
  unfold H_pyr_validLevels at yy'
  obtain ⟨hok, rfl⟩ := Prod.mk.inj (Option.some.inj yy')
  exact ⟨20, q_pyr_validLevels _ hok⟩
theorem q_pyr_Count (n : Int) (hok : true = true) : funR Try.prog t_pyr_Count (annOf []) l_pyr_Count 20 Try.f84 [.one (.int .i64 n)] [] = some ⟨.one (.int .i64 (count n)), [], []⟩ := by
    refine (e_pyr_Count ..).trans ?_
    simp only [ite2_bool, decide_eq_true_eq, count]
    by_cases h : inr 0 5 n = true
    · have := inr_b h
      simp (disch := omega) only [wrap_in, wrapu_in, Int.tdiv_eq_ediv_of_nonneg]
      simp only [h, Bool.not_true, if_true, Bool.false_eq_true, if_false]
    · simp [h]
      
theorem s_pyr_Count : SoundFun Try.prog 84 G_pyr_Count := by
  refine fun_ok (tab := t_pyr_Count) (ann := annOf []) (lt := l_pyr_Count) (tab_cons s_pyr_validLevels tab_nil) (by kernel_rfl) (fn := Try.f84) (by kernel_rfl) (by decide) (c := bodyOf Try.f84) (by kernel_rfl) (fun m b hb => absurd hb (by show b ∉ loopsOf (bodyOf Try.f84); rw [show loopsOf (bodyOf Try.f84) = [] from by kernel_rfl]; exact List.not_mem_nil)) ?_
  intro args lent o y0'
  unfold G_pyr_Count at y0'
  obtain ⟨c', args, rfl, y1'⟩ := pO_s y0'
  obtain ⟨n, rfl, y2'⟩ := kI_s y1'
  obtain ⟨rfl, y3'⟩ := pE_s y2'
  obtain ⟨rfl, y4'⟩ := nE_s y3'
  have yy' := y4'
  unfold H_pyr_Count at yy'
  obtain ⟨hok, rfl⟩ := Prod.mk.inj (Option.some.inj yy')
  exact ⟨20, q_pyr_Count _ hok⟩
theorem q_pyr_Place (i n : Int) (hok : true = true) : funR Try.prog t_pyr_Place (annOf []) l_pyr_Place 20 Try.f77 [.one (.int .i64 i), .one (.int .i64 n)] [] = some ⟨.tup [(false, [.int .i64 (plLv i n)]), (false, [.int .i64 (plOr i n)]), (false, [.bool (plOk i n)])], [], []⟩ := by
    refine (e_pyr_Place ..).trans ?_
    simp only [ite2_bool, decide_eq_true_eq]
    cases h : plOk i n
    · have : i < 0 ∨ i ≥ count n := by simp [plOk] at h; omega
      rcases this with h1 | h1 <;> simp [plLv, plOr, h, h1]
    · have hb := pl_b h
      have hc : i < count n := by simp only [plOk, Bool.and_eq_true, decide_eq_true_eq] at h; exact h.2
      simp (disch := omega) only [wrap_in, wrapu_in, Int.tdiv_eq_ediv_of_nonneg]
      rw [if_neg (by omega), if_neg (by omega)]
      simp only [plLv, plOr, h, beq_iff_eq, if_true]
      split <;> simp [*]
theorem s_pyr_Place : SoundFun Try.prog 77 G_pyr_Place := by
  refine fun_ok (tab := t_pyr_Place) (ann := annOf []) (lt := l_pyr_Place) (tab_cons s_pyr_Count tab_nil) (by kernel_rfl) (fn := Try.f77) (by kernel_rfl) (by decide) (c := bodyOf Try.f77) (by kernel_rfl) (fun m b hb => absurd hb (by show b ∉ loopsOf (bodyOf Try.f77); rw [show loopsOf (bodyOf Try.f77) = [] from by kernel_rfl]; exact List.not_mem_nil)) ?_
  intro args lent o y0'
  unfold G_pyr_Place at y0'
  obtain ⟨c', args, rfl, y1'⟩ := pO_s y0'
  obtain ⟨i, rfl, y2'⟩ := kI_s y1'
  obtain ⟨c', args, rfl, y3'⟩ := pO_s y2'
  obtain ⟨n, rfl, y4'⟩ := kI_s y3'
  obtain ⟨rfl, y5'⟩ := pE_s y4'
  obtain ⟨rfl, y6'⟩ := nE_s y5'
  have yy' := y6'
  unfold H_pyr_Place at yy'
  obtain ⟨hok, rfl⟩ := Prod.mk.inj (Option.some.inj yy')
  exact ⟨20, q_pyr_Place _ _ hok⟩
theorem q_pyr_Indices (n r : Int) (hok : true = true) : funR Try.prog t_pyr_Indices (annOf []) l_pyr_Indices 20 Try.f66 [.one (.int .i64 n), .one (.int .i64 r)] [] = some ⟨.one (.row 0), [], [.arr 3 (.int .i64) (idxs n r)]⟩ := by
    refine (e_pyr_Indices ..).trans ?_
    simp only [ite2_bool, decide_eq_true_eq, idxs]
    cases h : inr 0 5 n
    · simp
    · have hb := inr_b h
      cases h1 : inr 0 n r
      · have : r < 0 ∨ r > n := by simp [inr] at h1; omega
        rcases this with h2 | h2 <;> simp [h2]
      · have hc := inr_b h1
        simp (disch := omega) only [wrap_in, wrapu_in, Int.tdiv_eq_ediv_of_nonneg]
        rw [if_neg (by decide), if_neg (by omega), if_neg (by omega)]
        simp only [beq_iff_eq, Bool.and_self, if_true]
        split <;> simp [*]
theorem s_pyr_Indices : SoundFun Try.prog 66 G_pyr_Indices := by
  refine fun_ok (tab := t_pyr_Indices) (ann := annOf []) (lt := l_pyr_Indices) (tab_cons s_pyr_validLevels tab_nil) (by kernel_rfl) (fn := Try.f66) (by kernel_rfl) (by decide) (c := bodyOf Try.f66) (by kernel_rfl) (fun m b hb => absurd hb (by show b ∉ loopsOf (bodyOf Try.f66); rw [show loopsOf (bodyOf Try.f66) = [] from by kernel_rfl]; exact List.not_mem_nil)) ?_
  intro args lent o y0'
  unfold G_pyr_Indices at y0'
  obtain ⟨c', args, rfl, y1'⟩ := pO_s y0'
  obtain ⟨n, rfl, y2'⟩ := kI_s y1'
  obtain ⟨c', args, rfl, y3'⟩ := pO_s y2'
  obtain ⟨r, rfl, y4'⟩ := kI_s y3'
  obtain ⟨rfl, y5'⟩ := pE_s y4'
  obtain ⟨rfl, y6'⟩ := nE_s y5'
  have yy' := y6'
  unfold H_pyr_Indices at yy'
  obtain ⟨hok, rfl⟩ := Prod.mk.inj (Option.some.inj yy')
  exact ⟨20, q_pyr_Indices _ _ hok⟩
theorem q_pyr_Resolution (a b c d n r : Int) (hok : true = true) : funR Try.prog t_pyr_Resolution (annOf []) l_pyr_Resolution 20 Try.f65 [.agg [.int .i64 a, .int .i64 b, .int .i64 c, .int .i64 d], .one (.int .i64 n), .one (.int .i64 r)] [] = some ⟨.agg [.int .i64 ((resR a b c d n r).1), .int .i64 ((resR a b c d n r).2.1), .int .i64 ((resR a b c d n r).2.2.1), .int .i64 ((resR a b c d n r).2.2.2)], [], []⟩ := by
    refine (e_pyr_Resolution ..).trans ?_
    simp only [ite2_bool, decide_eq_true_eq, resR]
    cases h : inr 0 5 n
    · simp
    · have hb := inr_b h
      cases h1 : inr 0 n r
      · have : r < 0 ∨ r > n := by simp [inr] at h1; omega
        rcases this with h2 | h2 <;> simp [h2]
      · have hc := inr_b h1
        rw [if_neg (by decide), if_neg (by omega), if_neg (by omega), wrap_in (n := n - r) (by omega) (by omega), wrapu_in (n := n - r) (by omega) (by omega), shl_pw (by omega) (by omega), if_pos (by omega)]
        simp
theorem s_pyr_Resolution : SoundFun Try.prog 65 G_pyr_Resolution := by
  refine fun_ok (tab := t_pyr_Resolution) (ann := annOf []) (lt := l_pyr_Resolution) (tab_cons s_rect_Reduce (tab_cons s_pyr_validLevels tab_nil)) (by kernel_rfl) (fn := Try.f65) (by kernel_rfl) (by decide) (c := bodyOf Try.f65) (by kernel_rfl) (fun m b hb => absurd hb (by show b ∉ loopsOf (bodyOf Try.f65); rw [show loopsOf (bodyOf Try.f65) = [] from by kernel_rfl]; exact List.not_mem_nil)) ?_
  intro args lent o y0'
  unfold G_pyr_Resolution at y0'
  obtain ⟨q', args, rfl, y1'⟩ := pA_s y0'
  obtain ⟨c', q', rfl, y2'⟩ := tC_s y1'
  obtain ⟨a, rfl, y3'⟩ := kI_s y2'
  obtain ⟨c', q', rfl, y4'⟩ := tC_s y3'
  obtain ⟨b, rfl, y5'⟩ := kI_s y4'
  obtain ⟨c', q', rfl, y6'⟩ := tC_s y5'
  obtain ⟨c, rfl, y7'⟩ := kI_s y6'
  obtain ⟨c', q', rfl, y8'⟩ := tC_s y7'
  obtain ⟨d, rfl, y9'⟩ := kI_s y8'
  obtain ⟨rfl, y10'⟩ := tE_s y9'
  obtain ⟨c', args, rfl, y11'⟩ := pO_s y10'
  obtain ⟨n, rfl, y12'⟩ := kI_s y11'
  obtain ⟨c', args, rfl, y13'⟩ := pO_s y12'
  obtain ⟨r, rfl, y14'⟩ := kI_s y13'
  obtain ⟨rfl, y15'⟩ := pE_s y14'
  obtain ⟨rfl, y16'⟩ := nE_s y15'
  have yy' := y16'
  unfold H_pyr_Resolution at yy'
  obtain ⟨hok, rfl⟩ := Prod.mk.inj (Option.some.inj yy')
  exact ⟨20, q_pyr_Resolution _ _ _ _ _ _ hok⟩
theorem q_ref06_Count (n : Int) (hok : true = true) : funR Try.prog t_ref06_Count (annOf []) l_ref06_Count 20 Try.f79 [.one (.int .i64 n)] [] = some ⟨.one (.int .i64 (count n)), [], []⟩ := by
    refine (e_ref06_Count ..).trans ?_
    simp only [ite2_bool, decide_eq_true_eq, count]
    by_cases h : inr 0 5 n = true
    · have := inr_b h
      simp (disch := omega) only [wrap_in, wrapu_in, Int.tdiv_eq_ediv_of_nonneg]
      rw [if_neg (by omega), if_neg (by omega), if_pos h]
    · have : n < 0 ∨ n > 5 := by simp [inr] at h; omega
      rcases this with h1 | h1 <;> simp [h, h1]
theorem s_ref06_Count : SoundFun Try.prog 79 G_ref06_Count := by
  refine fun_ok (tab := t_ref06_Count) (ann := annOf []) (lt := l_ref06_Count) tab_nil (by kernel_rfl) (fn := Try.f79) (by kernel_rfl) (by decide) (c := bodyOf Try.f79) (by kernel_rfl) (fun m b hb => absurd hb (by show b ∉ loopsOf (bodyOf Try.f79); rw [show loopsOf (bodyOf Try.f79) = [] from by kernel_rfl]; exact List.not_mem_nil)) ?_
  intro args lent o y0'
  unfold G_ref06_Count at y0'
  obtain ⟨c', args, rfl, y1'⟩ := pO_s y0'
  obtain ⟨n, rfl, y2'⟩ := kI_s y1'
  obtain ⟨rfl, y3'⟩ := pE_s y2'
  obtain ⟨rfl, y4'⟩ := nE_s y3'
  have yy' := y4'
  unfold H_ref06_Count at yy'
  obtain ⟨hok, rfl⟩ := Prod.mk.inj (Option.some.inj yy')
  exact ⟨20, q_ref06_Count _ hok⟩
theorem q_ref06_Place (i n : Int) (hok : true = true) : funR Try.prog t_ref06_Place (annOf []) l_ref06_Place 20 Try.f80 [.one (.int .i64 i), .one (.int .i64 n)] [] = some ⟨.tup [(false, [.int .i64 (plLv i n)]), (false, [.int .i64 (plOr i n)]), (false, [.bool (plOk i n)])], [], []⟩ := by
    refine (e_ref06_Place ..).trans ?_
    simp only [ite2_bool, decide_eq_true_eq]
    cases h : plOk i n
    · have : i < 0 ∨ i ≥ count n := by simp [plOk] at h; omega
      rcases this with h1 | h1 <;> simp [plLv, plOr, h, h1]
    · have hb := pl_b h
      have hc : i < count n := by simp only [plOk, Bool.and_eq_true, decide_eq_true_eq] at h; exact h.2
      simp (disch := omega) only [wrap_in, wrapu_in, Int.tdiv_eq_ediv_of_nonneg]
      rw [if_neg (by omega), if_neg (by omega)]
      simp only [plLv, plOr, h, beq_iff_eq, if_true]
      split <;> simp [*]
theorem s_ref06_Place : SoundFun Try.prog 80 G_ref06_Place := by
  refine fun_ok (tab := t_ref06_Place) (ann := annOf []) (lt := l_ref06_Place) (tab_cons s_ref06_Count tab_nil) (by kernel_rfl) (fn := Try.f80) (by kernel_rfl) (by decide) (c := bodyOf Try.f80) (by kernel_rfl) (fun m b hb => absurd hb (by show b ∉ loopsOf (bodyOf Try.f80); rw [show loopsOf (bodyOf Try.f80) = [] from by kernel_rfl]; exact List.not_mem_nil)) ?_
  intro args lent o y0'
  unfold G_ref06_Place at y0'
  obtain ⟨c', args, rfl, y1'⟩ := pO_s y0'
  obtain ⟨i, rfl, y2'⟩ := kI_s y1'
  obtain ⟨c', args, rfl, y3'⟩ := pO_s y2'
  obtain ⟨n, rfl, y4'⟩ := kI_s y3'
  obtain ⟨rfl, y5'⟩ := pE_s y4'
  obtain ⟨rfl, y6'⟩ := nE_s y5'
  have yy' := y6'
  unfold H_ref06_Place at yy'
  obtain ⟨hok, rfl⟩ := Prod.mk.inj (Option.some.inj yy')
  exact ⟨20, q_ref06_Place _ _ hok⟩
theorem r_ref06_Resolution_0 : RoundOk Try.prog t_ref06_Resolution (annOf []) l_ref06_Resolution Out 20 0 34 [1, 3, 6, 7, 8] (kxOf [3, 6, 7] [6]) (loopOf Try.f70 0) T_ref06_Resolution_0 := by
  intro vs bl Kc r h
  unfold T_ref06_Resolution_0 at h
  obtain ⟨t, y0', h'⟩ := getD_run h
  obtain ⟨c', vs, rfl, y1'⟩ := pO_s y0'
  obtain ⟨n, rfl, y2'⟩ := kI_s y1'
  obtain ⟨c', vs, rfl, y3'⟩ := pO_s y2'
  obtain ⟨rfl, y4'⟩ := kP_s y3'
  obtain ⟨c', vs, rfl, y5'⟩ := pO_s y4'
  obtain ⟨rfl, y6'⟩ := kP_s y5'
  obtain ⟨c', vs, rfl, y7'⟩ := pO_s y6'
  obtain ⟨m, rfl, y8'⟩ := kI_s y7'
  obtain ⟨c', vs, rfl, y9'⟩ := pO_s y8'
  obtain ⟨i, rfl, y10'⟩ := kI_s y9'
  obtain ⟨rfl, y11'⟩ := pE_s y10'
  obtain ⟨q', bl, rfl, y12'⟩ := bB_s y11'
  obtain ⟨c', q', rfl, y13'⟩ := tC_s y12'
  obtain ⟨a, rfl, y14'⟩ := kI_s y13'
  obtain ⟨c', q', rfl, y15'⟩ := tC_s y14'
  obtain ⟨b, rfl, y16'⟩ := kI_s y15'
  obtain ⟨c', q', rfl, y17'⟩ := tC_s y16'
  obtain ⟨c, rfl, y18'⟩ := kI_s y17'
  obtain ⟨c', q', rfl, y19'⟩ := tC_s y18'
  obtain ⟨d, rfl, y20'⟩ := kI_s y19'
  obtain ⟨rfl, y21'⟩ := tE_s y20'
  obtain ⟨q', bl, rfl, y22'⟩ := bB_s y21'
  obtain ⟨c', q', rfl, y23'⟩ := tC_s y22'
  obtain ⟨e, rfl, y24'⟩ := kI_s y23'
  obtain ⟨c', q', rfl, y25'⟩ := tC_s y24'
  obtain ⟨f, rfl, y26'⟩ := kI_s y25'
  obtain ⟨c', q', rfl, y27'⟩ := tC_s y26'
  obtain ⟨g, rfl, y28'⟩ := kI_s y27'
  obtain ⟨c', q', rfl, y29'⟩ := tC_s y28'
  obtain ⟨o, rfl, y30'⟩ := kI_s y29'
  obtain ⟨rfl, y31'⟩ := tE_s y30'
  obtain ⟨rfl, y32'⟩ := bE_s y31'
  have yy' := y32'
  cases yy'
  exact (b_ref06_Resolution_0 ..).trans ((congrArg (LT.runc · Kc) (tu_ref06_Resolution_0 ..)).trans h')
theorem o_ref06_Resolution : loopsOf (bodyOf Try.f70) = [loopOf Try.f70 0] := by kernel_rfl
theorem rl (a b c d n e f g o : Int) : ∀ (j : Nat) (m i : Int), n - i = j → n ≤ 5 → j ≤ 5 → 0 ≤ i → 1 ≤ m → m * 2 ^ j ≤ 32 → ∃ k, ∀ (K : Ex → List V → List (Option Blk) → Option Out) r, (LT.leaf (.exit 0) [.one (.ptr 0 0), .one (.ptr 1 0), .one (.int .i64 (m * 2 ^ j))] [some (.box [.int .i64 a, .int .i64 b, .int .i64 c, .int .i64 d]), some (.box [.int .i64 e, .int .i64 f, .int .i64 g, .int .i64 o])]).run K = some r → (iter T_ref06_Resolution_0 k [.one (.int .i64 n), .one (.ptr 0 0), .one (.ptr 1 0), .one (.int .i64 m), .one (.int .i64 i)] [some (.box [.int .i64 a, .int .i64 b, .int .i64 c, .int .i64 d]), some (.box [.int .i64 e, .int .i64 f, .int .i64 g, .int .i64 o])]).run K = some r
  | 0, m, i, hj, hn, h5, hi, h1, h2 => ⟨1, fun K r h => by
    simp only [iter, tu_ref06_Resolution_0, U_ref06_Resolution_0, LT.next, LT.run, ite2_dec]
    rw [if_neg (by omega)]
    simpa [LT.run] using h⟩
  | j + 1, m, i, hj, hn, h5, hi, h1, h2 => by
    have e' : m * 2 ^ (j + 1) = 2 * m * 2 ^ j := by rw [Int.pow_succ, Int.mul_comm (2 ^ j), ← Int.mul_assoc, Int.mul_comm m]
    have h3 : (1 : Int) ≤ 2 ^ j := Int.pow_pos (by omega)
    have h4 : 2 * m * 1 ≤ 2 * m * 2 ^ j := Int.mul_le_mul_of_nonneg_left h3 (by omega)
    obtain ⟨k, hk⟩ := rl a b c d n e f g o j (2 * m) (i + 1) (by omega) hn (by omega) (by omega) (by omega) (by omega)
    refine ⟨k + 1, fun K r h => ?_⟩
    simp only [iter, tu_ref06_Resolution_0, U_ref06_Resolution_0, LT.next, LT.run, ite2_dec]
    rw [if_pos (by omega), wrap_in (n := i + 1) (by omega) (by omega), wrap_in (n := 2 * m) (by omega) (by omega)]
    refine hk K r ?_
    rw [← e']; exact h
theorem zz_ref06_Resolution_0 (n m i a b c d e f g o : Int) (hk : k_ref06_Resolution_0 n m i a b c d e f g o = true) : ∃ k, ∀ (K : Ex → List V → List (Option Blk) → Option Out) r, (c_ref06_Resolution_0 n m i a b c d e f g o).run K = some r → (iter T_ref06_Resolution_0 k [.one (.int .i64 n), .one (.ptr 0 0), .one (.ptr 1 0), .one (.int .i64 m), .one (.int .i64 i)] [some (.box [.int .i64 a, .int .i64 b, .int .i64 c, .int .i64 d]), some (.box [.int .i64 e, .int .i64 f, .int .i64 g, .int .i64 o])]).run K = some r := by
  simp only [k_ref06_Resolution_0, Bool.and_eq_true, decide_eq_true_eq] at hk
  obtain ⟨rfl, h0, h1⟩ := hk
  have h2 := inr_b h0
  have h3 := inr_b h1
  have h4 : (2 : Int) ^ (n - i).toNat ≤ 32 := by
    have : ∀ m : Nat, m < 6 → (2 : Int) ^ m ≤ 32 := by decide
    exact this _ (by omega)
  have := rl a b c d n e f g o (n - i).toNat 1 i (by omega) (by omega) (by omega) (by omega) (by omega) (by omega)
  simpa only [c_ref06_Resolution_0, pw, Int.one_mul] using this
theorem z_ref06_Resolution_0 : ∀ vs bl t, S_ref06_Resolution_0 vs bl = some (true, t) → ∃ n, ∀ (K : Ex → List V → List (Option Blk) → Option Out) r, t.run K = some r → (iter T_ref06_Resolution_0 n vs bl).run K = some r := by
  intro vs bl t y0'
  unfold S_ref06_Resolution_0 at y0'
  obtain ⟨c', vs, rfl, y1'⟩ := pO_s y0'
  obtain ⟨n, rfl, y2'⟩ := kI_s y1'
  obtain ⟨c', vs, rfl, y3'⟩ := pO_s y2'
  obtain ⟨rfl, y4'⟩ := kP_s y3'
  obtain ⟨c', vs, rfl, y5'⟩ := pO_s y4'
  obtain ⟨rfl, y6'⟩ := kP_s y5'
  obtain ⟨c', vs, rfl, y7'⟩ := pO_s y6'
  obtain ⟨m, rfl, y8'⟩ := kI_s y7'
  obtain ⟨c', vs, rfl, y9'⟩ := pO_s y8'
  obtain ⟨i, rfl, y10'⟩ := kI_s y9'
  obtain ⟨rfl, y11'⟩ := pE_s y10'
  obtain ⟨q', bl, rfl, y12'⟩ := bB_s y11'
  obtain ⟨c', q', rfl, y13'⟩ := tC_s y12'
  obtain ⟨a, rfl, y14'⟩ := kI_s y13'
  obtain ⟨c', q', rfl, y15'⟩ := tC_s y14'
  obtain ⟨b, rfl, y16'⟩ := kI_s y15'
  obtain ⟨c', q', rfl, y17'⟩ := tC_s y16'
  obtain ⟨c, rfl, y18'⟩ := kI_s y17'
  obtain ⟨c', q', rfl, y19'⟩ := tC_s y18'
  obtain ⟨d, rfl, y20'⟩ := kI_s y19'
  obtain ⟨rfl, y21'⟩ := tE_s y20'
  obtain ⟨q', bl, rfl, y22'⟩ := bB_s y21'
  obtain ⟨c', q', rfl, y23'⟩ := tC_s y22'
  obtain ⟨e, rfl, y24'⟩ := kI_s y23'
  obtain ⟨c', q', rfl, y25'⟩ := tC_s y24'
  obtain ⟨f, rfl, y26'⟩ := kI_s y25'
  obtain ⟨c', q', rfl, y27'⟩ := tC_s y26'
  obtain ⟨g, rfl, y28'⟩ := kI_s y27'
  obtain ⟨c', q', rfl, y29'⟩ := tC_s y28'
  obtain ⟨o, rfl, y30'⟩ := kI_s y29'
  obtain ⟨rfl, y31'⟩ := tE_s y30'
  obtain ⟨rfl, y32'⟩ := bE_s y31'
  have yy' := y32'
  obtain ⟨hk, rfl⟩ := Prod.mk.inj (Option.some.inj yy')
  exact zz_ref06_Resolution_0 _ _ _ _ _ _ _ _ _ _ _ hk
theorem q_ref06_Resolution (a b c d n r : Int) (hok : true = true) : funR Try.prog t_ref06_Resolution (annOf []) l_ref06_Resolution 20 Try.f70 [.agg [.int .i64 a, .int .i64 b, .int .i64 c, .int .i64 d], .one (.int .i64 n), .one (.int .i64 r)] [] = some ⟨.agg [.int .i64 ((resR a b c d n r).1), .int .i64 ((resR a b c d n r).2.1), .int .i64 ((resR a b c d n r).2.2.1), .int .i64 ((resR a b c d n r).2.2.2)], [], []⟩ := by
    refine (e_ref06_Resolution ..).trans ?_
    simp only [ite2_bool, decide_eq_true_eq, resR, k_ref06_Resolution_0]
    cases h : inr 0 5 n
    · simp [count, h]
    · have hb := inr_b h
      cases h1 : inr 0 n r
      · have : r < 0 ∨ r > n := by simp [inr] at h1; omega
        rcases this with h2 | h2 <;> simp [h2]
      · have hc := inr_b h1
        simp only [beq_iff_eq]
        rw [if_neg (by simp only [count, h, if_true]; omega), if_neg (by omega), if_neg (by omega)]
        simp
theorem s_ref06_Resolution : SoundFun Try.prog 70 G_ref06_Resolution := by
  refine fun_ok (tab := t_ref06_Resolution) (ann := annOf []) (lt := l_ref06_Resolution) (tab_cons s_ref01_Reduce (tab_cons s_ref06_Count tab_nil)) (by kernel_rfl) (fn := Try.f70) (by kernel_rfl) (by decide) (c := bodyOf Try.f70) (by kernel_rfl) (by
    intro m b hb
    have hb' : b ∈ loopsOf (bodyOf Try.f70) := hb
    rw [o_ref06_Resolution] at hb'
    simp only [List.mem_cons, List.not_mem_nil, or_false] at hb'
    rcases hb' with rfl
    · exact loop_ok (key := 5) (by kernel_rfl) rfl r_ref06_Resolution_0 z_ref06_Resolution_0 m
    ) ?_
  intro args lent o y0'
  unfold G_ref06_Resolution at y0'
  obtain ⟨q', args, rfl, y1'⟩ := pA_s y0'
  obtain ⟨c', q', rfl, y2'⟩ := tC_s y1'
  obtain ⟨a, rfl, y3'⟩ := kI_s y2'
  obtain ⟨c', q', rfl, y4'⟩ := tC_s y3'
  obtain ⟨b, rfl, y5'⟩ := kI_s y4'
  obtain ⟨c', q', rfl, y6'⟩ := tC_s y5'
  obtain ⟨c, rfl, y7'⟩ := kI_s y6'
  obtain ⟨c', q', rfl, y8'⟩ := tC_s y7'
  obtain ⟨d, rfl, y9'⟩ := kI_s y8'
  obtain ⟨rfl, y10'⟩ := tE_s y9'
  obtain ⟨c', args, rfl, y11'⟩ := pO_s y10'
  obtain ⟨n, rfl, y12'⟩ := kI_s y11'
  obtain ⟨c', args, rfl, y13'⟩ := pO_s y12'
  obtain ⟨r, rfl, y14'⟩ := kI_s y13'
  obtain ⟨rfl, y15'⟩ := pE_s y14'
  obtain ⟨rfl, y16'⟩ := nE_s y15'
  have yy' := y16'
  unfold H_ref06_Resolution at yy'
  obtain ⟨hok, rfl⟩ := Prod.mk.inj (Option.some.inj yy')
  exact ⟨20, q_ref06_Resolution _ _ _ _ _ _ hok⟩
theorem o_dwt_Bands : loopsOf (bodyOf Try.f78) = [loopOf Try.f78 0] := by kernel_rfl
theorem q_dwt_Bands (a b c d : Int) (hok : true = true) : funR Try.prog t_dwt_Bands (annOf []) l_dwt_Bands 20 Try.f78 [.agg [.int .i64 a, .int .i64 b, .int .i64 c, .int .i64 d]] [] = some ⟨.agg [.int .i64 ((bnd a b c d 0).1), .int .i64 ((bnd a b c d 0).2.1), .int .i64 ((bnd a b c d 0).2.2.1), .int .i64 ((bnd a b c d 0).2.2.2), .int .i64 ((bnd a b c d 1).1), .int .i64 ((bnd a b c d 1).2.1), .int .i64 ((bnd a b c d 1).2.2.1), .int .i64 ((bnd a b c d 1).2.2.2), .int .i64 ((bnd a b c d 2).1), .int .i64 ((bnd a b c d 2).2.1), .int .i64 ((bnd a b c d 2).2.2.1), .int .i64 ((bnd a b c d 2).2.2.2), .int .i64 ((bnd a b c d 3).1), .int .i64 ((bnd a b c d 3).2.1), .int .i64 ((bnd a b c d 3).2.2.1), .int .i64 ((bnd a b c d 3).2.2.2)], [], []⟩ := by
    refine (e_dwt_Bands ..).trans ?_
    simp only [ite2_bool, bnd]
    cases h : valid a b c d
    · simp
    · have hb := valid_b h
      simp (disch := omega) only [wrap_in, wrapu_in, Int.tdiv_eq_ediv_of_nonneg]
      simp
theorem s_dwt_Bands : SoundFun Try.prog 78 G_dwt_Bands := by
  refine fun_ok (tab := t_dwt_Bands) (ann := annOf []) (lt := l_dwt_Bands) (tab_cons s_rect_Valid tab_nil) (by kernel_rfl) (fn := Try.f78) (by kernel_rfl) (by decide) (c := bodyOf Try.f78) (by kernel_rfl) (by
    intro m b hb
    have hb' : b ∈ loopsOf (bodyOf Try.f78) := hb
    rw [o_dwt_Bands] at hb'
    simp only [List.mem_cons, List.not_mem_nil, or_false] at hb'
    rcases hb' with rfl
    · exact loop_none (by kernel_rfl) m
    ) ?_
  intro args lent o y0'
  unfold G_dwt_Bands at y0'
  obtain ⟨q', args, rfl, y1'⟩ := pA_s y0'
  obtain ⟨c', q', rfl, y2'⟩ := tC_s y1'
  obtain ⟨a, rfl, y3'⟩ := kI_s y2'
  obtain ⟨c', q', rfl, y4'⟩ := tC_s y3'
  obtain ⟨b, rfl, y5'⟩ := kI_s y4'
  obtain ⟨c', q', rfl, y6'⟩ := tC_s y5'
  obtain ⟨c, rfl, y7'⟩ := kI_s y6'
  obtain ⟨c', q', rfl, y8'⟩ := tC_s y7'
  obtain ⟨d, rfl, y9'⟩ := kI_s y8'
  obtain ⟨rfl, y10'⟩ := tE_s y9'
  obtain ⟨rfl, y11'⟩ := pE_s y10'
  obtain ⟨rfl, y12'⟩ := nE_s y11'
  have yy' := y12'
  unfold H_dwt_Bands at yy'
  obtain ⟨hok, rfl⟩ := Prod.mk.inj (Option.some.inj yy')
  exact ⟨20, q_dwt_Bands _ _ _ _ hok⟩
theorem q_ref05_half (n : Int) (b : Bool) (hok : inr 0 4096 n = true) : funR Try.prog t_ref05_half (annOf []) l_ref05_half 20 Try.f85 [.one (.int .i64 n), .one (.bool b)] [] = some ⟨.one (.int .i64 (half n b)), [], []⟩ := by
    refine (e_ref05_half ..).trans ?_
    have hb := inr_b hok
    simp only [ite2_bool, half]
    simp (disch := omega) only [wrap_in, wrapu_in, Int.tdiv_eq_ediv_of_nonneg]
    split <;> rfl
theorem s_ref05_half : SoundFun Try.prog 85 G_ref05_half := by
  refine fun_ok (tab := t_ref05_half) (ann := annOf []) (lt := l_ref05_half) tab_nil (by kernel_rfl) (fn := Try.f85) (by kernel_rfl) (by decide) (c := bodyOf Try.f85) (by kernel_rfl) (fun m b hb => absurd hb (by show b ∉ loopsOf (bodyOf Try.f85); rw [show loopsOf (bodyOf Try.f85) = [] from by kernel_rfl]; exact List.not_mem_nil)) ?_
  intro args lent o y0'
  unfold G_ref05_half at y0'
  obtain ⟨c', args, rfl, y1'⟩ := pO_s y0'
  obtain ⟨n, rfl, y2'⟩ := kI_s y1'
  obtain ⟨c', args, rfl, y3'⟩ := pO_s y2'
  obtain ⟨b, rfl, y4'⟩ := kB_s y3'
  obtain ⟨rfl, y5'⟩ := pE_s y4'
  obtain ⟨rfl, y6'⟩ := nE_s y5'
  have yy' := y6'
  unfold H_ref05_half at yy'
  obtain ⟨hok, rfl⟩ := Prod.mk.inj (Option.some.inj yy')
  exact ⟨20, q_ref05_half _ _ hok⟩
theorem o_ref05_Bands : loopsOf (bodyOf Try.f81) = [loopOf Try.f81 0] := by kernel_rfl
theorem q_ref05_Bands (a b c d : Int) (hok : true = true) : funR Try.prog t_ref05_Bands (annOf []) l_ref05_Bands 20 Try.f81 [.agg [.int .i64 a, .int .i64 b, .int .i64 c, .int .i64 d]] [] = some ⟨.agg [.int .i64 ((bnd a b c d 0).1), .int .i64 ((bnd a b c d 0).2.1), .int .i64 ((bnd a b c d 0).2.2.1), .int .i64 ((bnd a b c d 0).2.2.2), .int .i64 ((bnd a b c d 1).1), .int .i64 ((bnd a b c d 1).2.1), .int .i64 ((bnd a b c d 1).2.2.1), .int .i64 ((bnd a b c d 1).2.2.2), .int .i64 ((bnd a b c d 2).1), .int .i64 ((bnd a b c d 2).2.1), .int .i64 ((bnd a b c d 2).2.2.1), .int .i64 ((bnd a b c d 2).2.2.2), .int .i64 ((bnd a b c d 3).1), .int .i64 ((bnd a b c d 3).2.1), .int .i64 ((bnd a b c d 3).2.2.1), .int .i64 ((bnd a b c d 3).2.2.2)], [], []⟩ := by
    refine (e_ref05_Bands ..).trans ?_
    simp only [ite2_bool, bnd]
    cases h : valid a b c d
    · simp
    · have hb := valid_b h
      have h1 : inr 0 4096 a = true := inr_t (by omega) (by omega)
      have h2 : inr 0 4096 b = true := inr_t (by omega) (by omega)
      have h3 : inr 0 4096 c = true := inr_t (by omega) (by omega)
      have h4 : inr 0 4096 d = true := inr_t (by omega) (by omega)
      simp [h1, h2, h3, h4, half]
theorem s_ref05_Bands : SoundFun Try.prog 81 G_ref05_Bands := by
  refine fun_ok (tab := t_ref05_Bands) (ann := annOf []) (lt := l_ref05_Bands) (tab_cons s_ref01_Valid (tab_cons s_ref05_half tab_nil)) (by kernel_rfl) (fn := Try.f81) (by kernel_rfl) (by decide) (c := bodyOf Try.f81) (by kernel_rfl) (by
    intro m b hb
    have hb' : b ∈ loopsOf (bodyOf Try.f81) := hb
    rw [o_ref05_Bands] at hb'
    simp only [List.mem_cons, List.not_mem_nil, or_false] at hb'
    rcases hb' with rfl
    · exact loop_none (by kernel_rfl) m
    ) ?_
  intro args lent o y0'
  unfold G_ref05_Bands at y0'
  obtain ⟨q', args, rfl, y1'⟩ := pA_s y0'
  obtain ⟨c', q', rfl, y2'⟩ := tC_s y1'
  obtain ⟨a, rfl, y3'⟩ := kI_s y2'
  obtain ⟨c', q', rfl, y4'⟩ := tC_s y3'
  obtain ⟨b, rfl, y5'⟩ := kI_s y4'
  obtain ⟨c', q', rfl, y6'⟩ := tC_s y5'
  obtain ⟨c, rfl, y7'⟩ := kI_s y6'
  obtain ⟨c', q', rfl, y8'⟩ := tC_s y7'
  obtain ⟨d, rfl, y9'⟩ := kI_s y8'
  obtain ⟨rfl, y10'⟩ := tE_s y9'
  obtain ⟨rfl, y11'⟩ := pE_s y10'
  obtain ⟨rfl, y12'⟩ := nE_s y11'
  have yy' := y12'
  unfold H_ref05_Bands at yy'
  obtain ⟨hok, rfl⟩ := Prod.mk.inj (Option.some.inj yy')
  exact ⟨20, q_ref05_Bands _ _ _ _ hok⟩
theorem q_pyr_Band (a b c d n i : Int) (hok : true = true) : funR Try.prog t_pyr_Band (annOf []) l_pyr_Band 20 Try.f67 [.agg [.int .i64 a, .int .i64 b, .int .i64 c, .int .i64 d], .one (.int .i64 n), .one (.int .i64 i)] [] = some ⟨.agg [.int .i64 ((bandR a b c d n i).1), .int .i64 ((bandR a b c d n i).2.1), .int .i64 ((bandR a b c d n i).2.2.1), .int .i64 ((bandR a b c d n i).2.2.2)], [], []⟩ := by
    refine (e_pyr_Band ..).trans ?_
    simp only [ite2_bool, decide_eq_true_eq, bandR]
    cases h : plOk i n
    · simp
    · have hb := pl_b h
      cases hv : valid a b c d
      · simp
      · by_cases hi : i = 0
        · simp [hi]
        · have hd := pl_d h hi
          rw [wrap_in (n := n - plLv i n) (by omega) (by omega), wrap_in (n := n - plLv i n + 1) (by omega) (by omega)]
          generalize resR a b c d n (n - plLv i n + 1) = y
          have ho : plOr i n = 1 ∨ plOr i n = 2 ∨ plOr i n = 3 := by omega
          rcases ho with ho | ho | ho <;> simp [ho, hi, gI, bndR]
theorem s_pyr_Band : SoundFun Try.prog 67 G_pyr_Band := by
  refine fun_ok (tab := t_pyr_Band) (ann := annOf []) (lt := l_pyr_Band) (tab_cons s_rect_Valid (tab_cons s_pyr_Resolution (tab_cons s_pyr_Place (tab_cons s_dwt_Bands tab_nil)))) (by kernel_rfl) (fn := Try.f67) (by kernel_rfl) (by decide) (c := bodyOf Try.f67) (by kernel_rfl) (fun m b hb => absurd hb (by show b ∉ loopsOf (bodyOf Try.f67); rw [show loopsOf (bodyOf Try.f67) = [] from by kernel_rfl]; exact List.not_mem_nil)) ?_
  intro args lent o y0'
  unfold G_pyr_Band at y0'
  obtain ⟨q', args, rfl, y1'⟩ := pA_s y0'
  obtain ⟨c', q', rfl, y2'⟩ := tC_s y1'
  obtain ⟨a, rfl, y3'⟩ := kI_s y2'
  obtain ⟨c', q', rfl, y4'⟩ := tC_s y3'
  obtain ⟨b, rfl, y5'⟩ := kI_s y4'
  obtain ⟨c', q', rfl, y6'⟩ := tC_s y5'
  obtain ⟨c, rfl, y7'⟩ := kI_s y6'
  obtain ⟨c', q', rfl, y8'⟩ := tC_s y7'
  obtain ⟨d, rfl, y9'⟩ := kI_s y8'
  obtain ⟨rfl, y10'⟩ := tE_s y9'
  obtain ⟨c', args, rfl, y11'⟩ := pO_s y10'
  obtain ⟨n, rfl, y12'⟩ := kI_s y11'
  obtain ⟨c', args, rfl, y13'⟩ := pO_s y12'
  obtain ⟨i, rfl, y14'⟩ := kI_s y13'
  obtain ⟨rfl, y15'⟩ := pE_s y14'
  obtain ⟨rfl, y16'⟩ := nE_s y15'
  have yy' := y16'
  unfold H_pyr_Band at yy'
  obtain ⟨hok, rfl⟩ := Prod.mk.inj (Option.some.inj yy')
  exact ⟨20, q_pyr_Band _ _ _ _ _ _ hok⟩
theorem q_ref06_Band (a b c d n i : Int) (hok : true = true) : funR Try.prog t_ref06_Band (annOf []) l_ref06_Band 20 Try.f71 [.agg [.int .i64 a, .int .i64 b, .int .i64 c, .int .i64 d], .one (.int .i64 n), .one (.int .i64 i)] [] = some ⟨.agg [.int .i64 ((bandR a b c d n i).1), .int .i64 ((bandR a b c d n i).2.1), .int .i64 ((bandR a b c d n i).2.2.1), .int .i64 ((bandR a b c d n i).2.2.2)], [], []⟩ := by
    refine (e_ref06_Band ..).trans ?_
    simp only [ite2_bool, decide_eq_true_eq, bandR]
    cases h : plOk i n
    · simp
    · have hb := pl_b h
      cases hv : valid a b c d
      · simp
      · by_cases hi : i = 0
        · simp [hi]
        · have hd := pl_d h hi
          rw [wrap_in (n := n - plLv i n) (by omega) (by omega), wrap_in (n := n - plLv i n + 1) (by omega) (by omega)]
          generalize resR a b c d n (n - plLv i n + 1) = y
          have ho : plOr i n = 1 ∨ plOr i n = 2 ∨ plOr i n = 3 := by omega
          rcases ho with ho | ho | ho <;> simp [ho, hi, gI, bndR]
theorem s_ref06_Band : SoundFun Try.prog 71 G_ref06_Band := by
  refine fun_ok (tab := t_ref06_Band) (ann := annOf []) (lt := l_ref06_Band) (tab_cons s_ref01_Valid (tab_cons s_ref06_Resolution (tab_cons s_ref06_Place (tab_cons s_ref05_Bands tab_nil)))) (by kernel_rfl) (fn := Try.f71) (by kernel_rfl) (by decide) (c := bodyOf Try.f71) (by kernel_rfl) (fun m b hb => absurd hb (by show b ∉ loopsOf (bodyOf Try.f71); rw [show loopsOf (bodyOf Try.f71) = [] from by kernel_rfl]; exact List.not_mem_nil)) ?_
  intro args lent o y0'
  unfold G_ref06_Band at y0'
  obtain ⟨q', args, rfl, y1'⟩ := pA_s y0'
  obtain ⟨c', q', rfl, y2'⟩ := tC_s y1'
  obtain ⟨a, rfl, y3'⟩ := kI_s y2'
  obtain ⟨c', q', rfl, y4'⟩ := tC_s y3'
  obtain ⟨b, rfl, y5'⟩ := kI_s y4'
  obtain ⟨c', q', rfl, y6'⟩ := tC_s y5'
  obtain ⟨c, rfl, y7'⟩ := kI_s y6'
  obtain ⟨c', q', rfl, y8'⟩ := tC_s y7'
  obtain ⟨d, rfl, y9'⟩ := kI_s y8'
  obtain ⟨rfl, y10'⟩ := tE_s y9'
  obtain ⟨c', args, rfl, y11'⟩ := pO_s y10'
  obtain ⟨n, rfl, y12'⟩ := kI_s y11'
  obtain ⟨c', args, rfl, y13'⟩ := pO_s y12'
  obtain ⟨i, rfl, y14'⟩ := kI_s y13'
  obtain ⟨rfl, y15'⟩ := pE_s y14'
  obtain ⟨rfl, y16'⟩ := nE_s y15'
  have yy' := y16'
  unfold H_ref06_Band at yy'
  obtain ⟨hok, rfl⟩ := Prod.mk.inj (Option.some.inj yy')
  exact ⟨20, q_ref06_Band _ _ _ _ _ _ hok⟩
theorem q_params_cells (a b c d x y : Int) (hok : (inr 0 12 x && inr 0 12 y) = true) : funR Try.prog t_params_cells (annOf []) l_params_cells 20 Try.f64 [.agg [.int .i64 a, .int .i64 b, .int .i64 c, .int .i64 d], .one (.int .i64 x), .one (.int .i64 y)] [] = some ⟨.one (.int .i64 (cellsN a b c d x y)), [], []⟩ := by
    refine (e_params_cells ..).trans ?_
    simp only [Bool.and_eq_true] at hok
    have h1 := inr_b hok.1
    have h2 := inr_b hok.2
    simp only [ite2_bool, decide_eq_true_eq, cellsN]
    rw [wrapu_in (n := x) (by omega) (by omega), wrapu_in (n := y) (by omega) (by omega), shl_pw h1.1 h1.2, shl_pw h2.1 h2.2, if_pos h1.1, if_pos h2.1]
    split <;> rfl
theorem s_params_cells : SoundFun Try.prog 64 G_params_cells := by
  refine fun_ok (tab := t_params_cells) (ann := annOf []) (lt := l_params_cells) (tab_cons s_rect_Empty (tab_cons s_rect_CeilDiv (tab_cons s_rect_FloorDiv tab_nil))) (by kernel_rfl) (fn := Try.f64) (by kernel_rfl) (by decide) (c := bodyOf Try.f64) (by kernel_rfl) (fun m b hb => absurd hb (by show b ∉ loopsOf (bodyOf Try.f64); rw [show loopsOf (bodyOf Try.f64) = [] from by kernel_rfl]; exact List.not_mem_nil)) ?_
  intro args lent o y0'
  unfold G_params_cells at y0'
  obtain ⟨q', args, rfl, y1'⟩ := pA_s y0'
  obtain ⟨c', q', rfl, y2'⟩ := tC_s y1'
  obtain ⟨a, rfl, y3'⟩ := kI_s y2'
  obtain ⟨c', q', rfl, y4'⟩ := tC_s y3'
  obtain ⟨b, rfl, y5'⟩ := kI_s y4'
  obtain ⟨c', q', rfl, y6'⟩ := tC_s y5'
  obtain ⟨c, rfl, y7'⟩ := kI_s y6'
  obtain ⟨c', q', rfl, y8'⟩ := tC_s y7'
  obtain ⟨d, rfl, y9'⟩ := kI_s y8'
  obtain ⟨rfl, y10'⟩ := tE_s y9'
  obtain ⟨c', args, rfl, y11'⟩ := pO_s y10'
  obtain ⟨x, rfl, y12'⟩ := kI_s y11'
  obtain ⟨c', args, rfl, y13'⟩ := pO_s y12'
  obtain ⟨y, rfl, y14'⟩ := kI_s y13'
  obtain ⟨rfl, y15'⟩ := pE_s y14'
  obtain ⟨rfl, y16'⟩ := nE_s y15'
  have yy' := y16'
  unfold H_params_cells at yy'
  obtain ⟨hok, rfl⟩ := Prod.mk.inj (Option.some.inj yy')
  exact ⟨20, q_params_cells _ _ _ _ _ _ hok⟩
theorem q_ref23_Grid (a b c d x y : Int) (hok : (inr 0 12 x && inr 0 12 y) = true) : funR Try.prog t_ref23_Grid (annOf []) l_ref23_Grid 20 Try.f69 [.agg [.int .i64 a, .int .i64 b, .int .i64 c, .int .i64 d], .one (.int .i64 x), .one (.int .i64 y)] [] = some ⟨.one (.int .i64 (cellsN a b c d x y)), [], []⟩ := by
    refine (e_ref23_Grid ..).trans ?_
    simp only [Bool.and_eq_true] at hok
    have h1 := inr_b hok.1
    have h2 := inr_b hok.2
    simp only [ite2_bool, decide_eq_true_eq, cellsN]
    rw [shl_pw h1.1 h1.2, shl_pw h2.1 h2.2, if_pos h1.1, if_pos h1.1, if_pos h2.1, if_pos h2.1]
    split <;> rfl
theorem s_ref23_Grid : SoundFun Try.prog 69 G_ref23_Grid := by
  refine fun_ok (tab := t_ref23_Grid) (ann := annOf []) (lt := l_ref23_Grid) (tab_cons s_ref01_Empty (tab_cons s_ref01_CeilDiv (tab_cons s_ref01_FloorDiv tab_nil))) (by kernel_rfl) (fn := Try.f69) (by kernel_rfl) (by decide) (c := bodyOf Try.f69) (by kernel_rfl) (fun m b hb => absurd hb (by show b ∉ loopsOf (bodyOf Try.f69); rw [show loopsOf (bodyOf Try.f69) = [] from by kernel_rfl]; exact List.not_mem_nil)) ?_
  intro args lent o y0'
  unfold G_ref23_Grid at y0'
  obtain ⟨q', args, rfl, y1'⟩ := pA_s y0'
  obtain ⟨c', q', rfl, y2'⟩ := tC_s y1'
  obtain ⟨a, rfl, y3'⟩ := kI_s y2'
  obtain ⟨c', q', rfl, y4'⟩ := tC_s y3'
  obtain ⟨b, rfl, y5'⟩ := kI_s y4'
  obtain ⟨c', q', rfl, y6'⟩ := tC_s y5'
  obtain ⟨c, rfl, y7'⟩ := kI_s y6'
  obtain ⟨c', q', rfl, y8'⟩ := tC_s y7'
  obtain ⟨d, rfl, y9'⟩ := kI_s y8'
  obtain ⟨rfl, y10'⟩ := tE_s y9'
  obtain ⟨c', args, rfl, y11'⟩ := pO_s y10'
  obtain ⟨x, rfl, y12'⟩ := kI_s y11'
  obtain ⟨c', args, rfl, y13'⟩ := pO_s y12'
  obtain ⟨y, rfl, y14'⟩ := kI_s y13'
  obtain ⟨rfl, y15'⟩ := pE_s y14'
  obtain ⟨rfl, y16'⟩ := nE_s y15'
  have yy' := y16'
  unfold H_ref23_Grid at yy'
  obtain ⟨hok, rfl⟩ := Prod.mk.inj (Option.some.inj yy')
  exact ⟨20, q_ref23_Grid _ _ _ _ _ _ hok⟩
end Go.Rx.Ch23
