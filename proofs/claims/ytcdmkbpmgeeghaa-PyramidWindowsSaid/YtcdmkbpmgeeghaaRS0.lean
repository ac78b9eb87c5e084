/- The summaries of these functions are sound. -/
import Derived.Test.YtcdmkbpmgeeghaaRE0
set_option linter.unnecessarySimpa false
set_option linter.unusedVariables false
set_option linter.unusedSimpArgs false
set_option maxRecDepth 100000
set_option maxHeartbeats 40000000
open Go Go.Rx Go.Proofs
namespace Go.Rx.Ch06
theorem q_rect_Empty (a b c d : Int) (hok : true = true) : funR Try.prog t_rect_Empty (annOf []) l_rect_Empty 20 Try.f47 [.agg [.int .i64 a, .int .i64 b, .int .i64 c, .int .i64 d]] [] = some ⟨.one (.bool (empty a b c d)), [], []⟩ := by
    refine (e_rect_Empty ..).trans ?_
    simp only [ite2_dec, ite2_bool, mx_eq, mn_eq, empty]
    (repeat' split) <;> (try simp_all) <;> (try omega) <;> (try (rw [Bool.eq_iff_iff]; simp; omega))
theorem s_rect_Empty : SoundFun Try.prog 47 G_rect_Empty := by
  refine fun_ok (tab := t_rect_Empty) (ann := annOf []) (lt := l_rect_Empty) tab_nil (by kernel_rfl) (fn := Try.f47) (by kernel_rfl) (by decide) (c := bodyOf Try.f47) (by kernel_rfl) (no_loops (by kernel_rfl)) ?_ (keep_nil (by kernel_rfl))
  intro args lent o y0'
  unfold G_rect_Empty at y0'
  obtain ⟨q', args, rfl, y1'⟩ := pA_s y0'
  obtain ⟨a, b, c, d, q', rfl, y2'⟩ := t4_s y1'
  obtain ⟨rfl, y3'⟩ := tE_s y2'
  obtain ⟨rfl, y4'⟩ := pE_s y3'
  obtain ⟨rfl, y5'⟩ := nE_s y4'
  have yy' := y5'
  unfold H_rect_Empty at yy'
  obtain ⟨hok, rfl⟩ := Prod.mk.inj (Option.some.inj yy')
  exact ⟨20, q_rect_Empty _ _ _ _ hok⟩
theorem q_rect_Valid (a b c d : Int) (hok : true = true) : funR Try.prog t_rect_Valid (annOf []) l_rect_Valid 20 Try.f46 [.agg [.int .i64 a, .int .i64 b, .int .i64 c, .int .i64 d]] [] = some ⟨.one (.bool (valid a b c d)), [], []⟩ := by
    refine (e_rect_Valid ..).trans ?_
    simp only [ite2_dec, ite2_bool, mx_eq, mn_eq, valid]
    (repeat' split) <;> (try simp_all) <;> (try omega) <;> (try (rw [Bool.eq_iff_iff]; simp; omega))
theorem s_rect_Valid : SoundFun Try.prog 46 G_rect_Valid := by
  refine fun_ok (tab := t_rect_Valid) (ann := annOf []) (lt := l_rect_Valid) tab_nil (by kernel_rfl) (fn := Try.f46) (by kernel_rfl) (by decide) (c := bodyOf Try.f46) (by kernel_rfl) (no_loops (by kernel_rfl)) ?_ (keep_nil (by kernel_rfl))
  intro args lent o y0'
  unfold G_rect_Valid at y0'
  obtain ⟨q', args, rfl, y1'⟩ := pA_s y0'
  obtain ⟨a, b, c, d, q', rfl, y2'⟩ := t4_s y1'
  obtain ⟨rfl, y3'⟩ := tE_s y2'
  obtain ⟨rfl, y4'⟩ := pE_s y3'
  obtain ⟨rfl, y5'⟩ := nE_s y4'
  have yy' := y5'
  unfold H_rect_Valid at yy'
  obtain ⟨hok, rfl⟩ := Prod.mk.inj (Option.some.inj yy')
  exact ⟨20, q_rect_Valid _ _ _ _ hok⟩
theorem q_rect_CeilDiv (a b : Int) (hok : true = true) : funR Try.prog t_rect_CeilDiv (annOf []) l_rect_CeilDiv 20 Try.f81 [.one (.int .i64 a), .one (.int .i64 b)] [] = some ⟨.one (.int .i64 (cdiv a b)), [], []⟩ := by
    refine (e_rect_CeilDiv ..).trans ?_
    simp only [ite2_dec, ite2_bool, mx_eq, mn_eq, cdiv]
    (repeat' split) <;> (try simp_all) <;> (try omega) <;> (try (rw [Bool.eq_iff_iff]; simp; omega))
theorem s_rect_CeilDiv : SoundFun Try.prog 81 G_rect_CeilDiv := by
  refine fun_ok (tab := t_rect_CeilDiv) (ann := annOf []) (lt := l_rect_CeilDiv) tab_nil (by kernel_rfl) (fn := Try.f81) (by kernel_rfl) (by decide) (c := bodyOf Try.f81) (by kernel_rfl) (no_loops (by kernel_rfl)) ?_ (keep_nil (by kernel_rfl))
  intro args lent o y0'
  unfold G_rect_CeilDiv at y0'
  obtain ⟨a, args, rfl, y1'⟩ := pI_s y0'
  obtain ⟨b, args, rfl, y2'⟩ := pI_s y1'
  obtain ⟨rfl, y3'⟩ := pE_s y2'
  obtain ⟨rfl, y4'⟩ := nE_s y3'
  have yy' := y4'
  unfold H_rect_CeilDiv at yy'
  obtain ⟨hok, rfl⟩ := Prod.mk.inj (Option.some.inj yy')
  exact ⟨20, q_rect_CeilDiv _ _ hok⟩
theorem q_rect_Area (a b c d : Int) (hok : true = true) : funR Try.prog t_rect_Area (annOf []) l_rect_Area 20 Try.f60 [.agg [.int .i64 a, .int .i64 b, .int .i64 c, .int .i64 d]] [] = some ⟨.one (.int .i64 (area a b c d)), [], []⟩ := by
    refine (e_rect_Area ..).trans ?_
    simp only [ite2_dec, ite2_bool, mx_eq, mn_eq, area]
    (repeat' split) <;> (try simp_all) <;> (try omega) <;> (try (rw [Bool.eq_iff_iff]; simp; omega))
theorem s_rect_Area : SoundFun Try.prog 60 G_rect_Area := by
  refine fun_ok (tab := t_rect_Area) (ann := annOf []) (lt := l_rect_Area) (tab_cons s_rect_Valid tab_nil) (by kernel_rfl) (fn := Try.f60) (by kernel_rfl) (by decide) (c := bodyOf Try.f60) (by kernel_rfl) (no_loops (by kernel_rfl)) ?_ (keep_nil (by kernel_rfl))
  intro args lent o y0'
  unfold G_rect_Area at y0'
  obtain ⟨q', args, rfl, y1'⟩ := pA_s y0'
  obtain ⟨a, b, c, d, q', rfl, y2'⟩ := t4_s y1'
  obtain ⟨rfl, y3'⟩ := tE_s y2'
  obtain ⟨rfl, y4'⟩ := pE_s y3'
  obtain ⟨rfl, y5'⟩ := nE_s y4'
  have yy' := y5'
  unfold H_rect_Area at yy'
  obtain ⟨hok, rfl⟩ := Prod.mk.inj (Option.some.inj yy')
  exact ⟨20, q_rect_Area _ _ _ _ hok⟩
theorem q_rect_Reduce (a b c d x y : Int) (hok : true = true) : funR Try.prog t_rect_Reduce (annOf []) l_rect_Reduce 20 Try.f58 [.agg [.int .i64 a, .int .i64 b, .int .i64 c, .int .i64 d], .one (.int .i64 x), .one (.int .i64 y)] [] = some ⟨.agg [.int .i64 ((reduce a b c d x y).1), .int .i64 ((reduce a b c d x y).2.1), .int .i64 ((reduce a b c d x y).2.2.1), .int .i64 ((reduce a b c d x y).2.2.2)], [], []⟩ := by
    refine (e_rect_Reduce ..).trans ?_
    simp only [ite2_dec, ite2_bool, mx_eq, mn_eq, reduce]
    (repeat' split) <;> (try simp_all) <;> (try omega) <;> (try (rw [Bool.eq_iff_iff]; simp; omega))
theorem s_rect_Reduce : SoundFun Try.prog 58 G_rect_Reduce := by
  refine fun_ok (tab := t_rect_Reduce) (ann := annOf []) (lt := l_rect_Reduce) (tab_cons s_rect_Valid (tab_cons s_rect_CeilDiv tab_nil)) (by kernel_rfl) (fn := Try.f58) (by kernel_rfl) (by decide) (c := bodyOf Try.f58) (by kernel_rfl) (no_loops (by kernel_rfl)) ?_ (keep_nil (by kernel_rfl))
  intro args lent o y0'
  unfold G_rect_Reduce at y0'
  obtain ⟨q', args, rfl, y1'⟩ := pA_s y0'
  obtain ⟨a, b, c, d, q', rfl, y2'⟩ := t4_s y1'
  obtain ⟨rfl, y3'⟩ := tE_s y2'
  obtain ⟨x, args, rfl, y4'⟩ := pI_s y3'
  obtain ⟨y, args, rfl, y5'⟩ := pI_s y4'
  obtain ⟨rfl, y6'⟩ := pE_s y5'
  obtain ⟨rfl, y7'⟩ := nE_s y6'
  have yy' := y7'
  unfold H_rect_Reduce at yy'
  obtain ⟨hok, rfl⟩ := Prod.mk.inj (Option.some.inj yy')
  exact ⟨20, q_rect_Reduce _ _ _ _ _ _ hok⟩
theorem q_rect_Intersect (a b c d e f g h : Int) (hok : true = true) : funR Try.prog t_rect_Intersect (annOf []) l_rect_Intersect 20 Try.f36 [.agg [.int .i64 a, .int .i64 b, .int .i64 c, .int .i64 d], .agg [.int .i64 e, .int .i64 f, .int .i64 g, .int .i64 h]] [] = some ⟨.agg [.int .i64 ((inter a b c d e f g h).1), .int .i64 ((inter a b c d e f g h).2.1), .int .i64 ((inter a b c d e f g h).2.2.1), .int .i64 ((inter a b c d e f g h).2.2.2)], [], []⟩ := by
    refine (e_rect_Intersect ..).trans ?_
    simp only [ite2_dec, ite2_bool, mx_eq, mn_eq, inter]
    (repeat' split) <;> (try simp_all) <;> (try omega) <;> (try (rw [Bool.eq_iff_iff]; simp; omega))
theorem s_rect_Intersect : SoundFun Try.prog 36 G_rect_Intersect := by
  refine fun_ok (tab := t_rect_Intersect) (ann := annOf []) (lt := l_rect_Intersect) (tab_cons s_rect_Empty tab_nil) (by kernel_rfl) (fn := Try.f36) (by kernel_rfl) (by decide) (c := bodyOf Try.f36) (by kernel_rfl) (no_loops (by kernel_rfl)) ?_ (keep_nil (by kernel_rfl))
  intro args lent o y0'
  unfold G_rect_Intersect at y0'
  obtain ⟨q', args, rfl, y1'⟩ := pA_s y0'
  obtain ⟨a, b, c, d, q', rfl, y2'⟩ := t4_s y1'
  obtain ⟨rfl, y3'⟩ := tE_s y2'
  obtain ⟨q', args, rfl, y4'⟩ := pA_s y3'
  obtain ⟨e, f, g, h, q', rfl, y5'⟩ := t4_s y4'
  obtain ⟨rfl, y6'⟩ := tE_s y5'
  obtain ⟨rfl, y7'⟩ := pE_s y6'
  obtain ⟨rfl, y8'⟩ := nE_s y7'
  have yy' := y8'
  unfold H_rect_Intersect at yy'
  obtain ⟨hok, rfl⟩ := Prod.mk.inj (Option.some.inj yy')
  exact ⟨20, q_rect_Intersect _ _ _ _ _ _ _ _ hok⟩
theorem q_rect_Contains (a b c d e f g h : Int) (hok : true = true) : funR Try.prog t_rect_Contains (annOf []) l_rect_Contains 20 Try.f74 [.agg [.int .i64 a, .int .i64 b, .int .i64 c, .int .i64 d], .agg [.int .i64 e, .int .i64 f, .int .i64 g, .int .i64 h]] [] = some ⟨.one (.bool (contains a b c d e f g h)), [], []⟩ := by
    refine (e_rect_Contains ..).trans ?_
    simp only [ite2_dec, ite2_bool, mx_eq, mn_eq, contains]
    (repeat' split) <;> (try simp_all) <;> (rw [Bool.eq_iff_iff]; simp [Prod.ext_iff])
theorem s_rect_Contains : SoundFun Try.prog 74 G_rect_Contains := by
  refine fun_ok (tab := t_rect_Contains) (ann := annOf []) (lt := l_rect_Contains) (tab_cons s_rect_Intersect (tab_cons s_rect_Empty tab_nil)) (by kernel_rfl) (fn := Try.f74) (by kernel_rfl) (by decide) (c := bodyOf Try.f74) (by kernel_rfl) (no_loops (by kernel_rfl)) ?_ (keep_nil (by kernel_rfl))
  intro args lent o y0'
  unfold G_rect_Contains at y0'
  obtain ⟨q', args, rfl, y1'⟩ := pA_s y0'
  obtain ⟨a, b, c, d, q', rfl, y2'⟩ := t4_s y1'
  obtain ⟨rfl, y3'⟩ := tE_s y2'
  obtain ⟨q', args, rfl, y4'⟩ := pA_s y3'
  obtain ⟨e, f, g, h, q', rfl, y5'⟩ := t4_s y4'
  obtain ⟨rfl, y6'⟩ := tE_s y5'
  obtain ⟨rfl, y7'⟩ := pE_s y6'
  obtain ⟨rfl, y8'⟩ := nE_s y7'
  have yy' := y8'
  unfold H_rect_Contains at yy'
  obtain ⟨hok, rfl⟩ := Prod.mk.inj (Option.some.inj yy')
  exact ⟨20, q_rect_Contains _ _ _ _ _ _ _ _ hok⟩





theorem wrapu_in {n : Int} (h0 : 0 ≤ n) (h1 : n < 18446744073709551616) : IntKind.wrap .u64 n = n := by
  simp [IntKind.wrap, IntKind.bits, IntKind.signed]; omega
theorem shl_pw0 : ∀ m : Nat, m < 13 → IntKind.wrap .i64 (1 * 2 ^ min m 64) = 2 ^ m := by decide
theorem shl_pw {k : Int} (h0 : 0 ≤ k) (h1 : k ≤ 12) : IntKind.wrap .i64 (1 * 2 ^ min k.toNat 64) = pw k := shl_pw0 _ (by omega)
theorem pl_b {i n : Int} (h : plOk i n = true) : 0 ≤ n ∧ n ≤ 5 ∧ 0 ≤ i ∧ i ≤ 3 * n := by
  unfold plOk count inr at h
  simp only [Bool.and_eq_true, decide_eq_true_eq] at h
  split at h <;> omega
theorem pl_d {i n : Int} (h : plOk i n = true) (hi : i ≠ 0) : 1 ≤ plLv i n ∧ plLv i n ≤ n ∧ 1 ≤ plOr i n ∧ plOr i n ≤ 3 := by
  have := pl_b h
  simp only [plLv, plOr, h, hi, if_true, if_false]
  omega
theorem valid_b {a b c d : Int} (h : valid a b c d = true) : 0 ≤ a ∧ a ≤ c ∧ c ≤ 4096 ∧ 0 ≤ b ∧ b ≤ d ∧ d ≤ 4096 := by
  simp only [valid, Bool.and_eq_true, decide_eq_true_eq, and_assoc] at h
  exact h
theorem inr_b {a b x : Int} (h : inr a b x = true) : a ≤ x ∧ x ≤ b := by
  simpa only [inr, Bool.and_eq_true, decide_eq_true_eq] using h
theorem inr_t {a b x : Int} (h : a ≤ x) (h' : x ≤ b) : inr a b x = true := by
  simp only [inr, Bool.and_eq_true, decide_eq_true_eq]; exact ⟨h, h'⟩
theorem q_pyr_validLevels (n : Int) (hok : true = true) : funR Try.prog t_pyr_validLevels (annOf []) l_pyr_validLevels 20 Try.f38 [.one (.int .i64 n)] [] = some ⟨.one (.bool (inr 0 5 n)), [], []⟩ := by
    refine (e_pyr_validLevels ..).trans ?_
    simp only [ite2_dec, ite2_bool, mx_eq, mn_eq, inr]
    (repeat' split) <;> (try simp_all) <;> (try omega) <;> (try (rw [Bool.eq_iff_iff]; simp; omega))
theorem s_pyr_validLevels : SoundFun Try.prog 38 G_pyr_validLevels := by
  refine fun_ok (tab := t_pyr_validLevels) (ann := annOf []) (lt := l_pyr_validLevels) tab_nil (by kernel_rfl) (fn := Try.f38) (by kernel_rfl) (by decide) (c := bodyOf Try.f38) (by kernel_rfl) (no_loops (by kernel_rfl)) ?_ (keep_nil (by kernel_rfl))
  intro args lent o y0'
  unfold G_pyr_validLevels at y0'
  obtain ⟨n, args, rfl, y1'⟩ := pI_s y0'
  obtain ⟨rfl, y2'⟩ := pE_s y1'
  obtain ⟨rfl, y3'⟩ := nE_s y2'
  have yy' := y3'
  unfold H_pyr_validLevels at yy'
  obtain ⟨hok, rfl⟩ := Prod.mk.inj (Option.some.inj yy')
  exact ⟨20, q_pyr_validLevels _ hok⟩
theorem q_pyr_Count (n : Int) (hok : true = true) : funR Try.prog t_pyr_Count (annOf []) l_pyr_Count 20 Try.f13 [.one (.int .i64 n)] [] = some ⟨.one (.int .i64 (count n)), [], []⟩ := by
    refine (e_pyr_Count ..).trans ?_
    simp only [ite2_bool, decide_eq_true_eq, count]
    by_cases h : inr 0 5 n = true
    · have := inr_b h
      simp (disch := omega) only [wrap_in, wrapu_in, Int.tdiv_eq_ediv_of_nonneg]
      simp only [h, Bool.not_true, if_true, Bool.false_eq_true, if_false]
    · simp [h]
theorem s_pyr_Count : SoundFun Try.prog 13 G_pyr_Count := by
  refine fun_ok (tab := t_pyr_Count) (ann := annOf []) (lt := l_pyr_Count) (tab_cons s_pyr_validLevels tab_nil) (by kernel_rfl) (fn := Try.f13) (by kernel_rfl) (by decide) (c := bodyOf Try.f13) (by kernel_rfl) (no_loops (by kernel_rfl)) ?_ (keep_nil (by kernel_rfl))
  intro args lent o y0'
  unfold G_pyr_Count at y0'
  obtain ⟨n, args, rfl, y1'⟩ := pI_s y0'
  obtain ⟨rfl, y2'⟩ := pE_s y1'
  obtain ⟨rfl, y3'⟩ := nE_s y2'
  have yy' := y3'
  unfold H_pyr_Count at yy'
  obtain ⟨hok, rfl⟩ := Prod.mk.inj (Option.some.inj yy')
  exact ⟨20, q_pyr_Count _ hok⟩
theorem q_pyr_Place (i n : Int) (hok : true = true) : funR Try.prog t_pyr_Place (annOf []) l_pyr_Place 20 Try.f11 [.one (.int .i64 i), .one (.int .i64 n)] [] = some ⟨.tup [(false, [.int .i64 (plLv i n)]), (false, [.int .i64 (plOr i n)]), (false, [.bool (plOk i n)])], [], []⟩ := by
    refine (e_pyr_Place ..).trans ?_
    simp only [ite2_bool, decide_eq_true_eq]
    cases h : plOk i n
    · have : i < 0 ∨ i ≥ count n := by simp [plOk] at h; omega
      rcases this with h1 | h1 <;> simp [plLv, plOr, h, h1]
    · have hb := pl_b h
      have hc : i < count n := by simp only [plOk, Bool.and_eq_true, decide_eq_true_eq] at h; exact h.2
      simp (disch := omega) only [wrap_in, wrapu_in, Int.tdiv_eq_ediv_of_nonneg]
      rw [if_neg (by omega), if_neg (by omega)]
      simp only [plLv, plOr, h, beq_iff_eq, if_true]
      split <;> simp [*]
theorem s_pyr_Place : SoundFun Try.prog 11 G_pyr_Place := by
  refine fun_ok (tab := t_pyr_Place) (ann := annOf []) (lt := l_pyr_Place) (tab_cons s_pyr_Count tab_nil) (by kernel_rfl) (fn := Try.f11) (by kernel_rfl) (by decide) (c := bodyOf Try.f11) (by kernel_rfl) (no_loops (by kernel_rfl)) ?_ (keep_nil (by kernel_rfl))
  intro args lent o y0'
  unfold G_pyr_Place at y0'
  obtain ⟨i, args, rfl, y1'⟩ := pI_s y0'
  obtain ⟨n, args, rfl, y2'⟩ := pI_s y1'
  obtain ⟨rfl, y3'⟩ := pE_s y2'
  obtain ⟨rfl, y4'⟩ := nE_s y3'
  have yy' := y4'
  unfold H_pyr_Place at yy'
  obtain ⟨hok, rfl⟩ := Prod.mk.inj (Option.some.inj yy')
  exact ⟨20, q_pyr_Place _ _ hok⟩
theorem q_pyr_Indices (n r : Int) (hok : true = true) : funR Try.prog t_pyr_Indices (annOf []) l_pyr_Indices 20 Try.f15 [.one (.int .i64 n), .one (.int .i64 r)] [] = some ⟨.one (.row 0), [], [.arr 3 (.int .i64) (idxs n r)]⟩ := by
    refine (e_pyr_Indices ..).trans ?_
    simp only [ite2_bool, decide_eq_true_eq, idxs]
    cases h : inr 0 5 n
    · simp
    · have hb := inr_b h
      cases h1 : inr 0 n r
      · have : r < 0 ∨ r > n := by simp [inr] at h1; omega
        rcases this with h2 | h2 <;> simp [h2]
      · have hc := inr_b h1
        simp (disch := omega) only [wrap_in, wrapu_in, Int.tdiv_eq_ediv_of_nonneg]
        rw [if_neg (by decide), if_neg (by omega), if_neg (by omega)]
        simp only [beq_iff_eq, Bool.and_self, if_true]
        split <;> simp [*]
theorem s_pyr_Indices : SoundFun Try.prog 15 G_pyr_Indices := by
  refine fun_ok (tab := t_pyr_Indices) (ann := annOf []) (lt := l_pyr_Indices) (tab_cons s_pyr_validLevels tab_nil) (by kernel_rfl) (fn := Try.f15) (by kernel_rfl) (by decide) (c := bodyOf Try.f15) (by kernel_rfl) (no_loops (by kernel_rfl)) ?_ (keep_nil (by kernel_rfl))
  intro args lent o y0'
  unfold G_pyr_Indices at y0'
  obtain ⟨n, args, rfl, y1'⟩ := pI_s y0'
  obtain ⟨r, args, rfl, y2'⟩ := pI_s y1'
  obtain ⟨rfl, y3'⟩ := pE_s y2'
  obtain ⟨rfl, y4'⟩ := nE_s y3'
  have yy' := y4'
  unfold H_pyr_Indices at yy'
  obtain ⟨hok, rfl⟩ := Prod.mk.inj (Option.some.inj yy')
  exact ⟨20, q_pyr_Indices _ _ hok⟩
theorem q_pyr_Resolution (a b c d n r : Int) (hok : true = true) : funR Try.prog t_pyr_Resolution (annOf []) l_pyr_Resolution 20 Try.f25 [.agg [.int .i64 a, .int .i64 b, .int .i64 c, .int .i64 d], .one (.int .i64 n), .one (.int .i64 r)] [] = some ⟨.agg [.int .i64 ((resR a b c d n r).1), .int .i64 ((resR a b c d n r).2.1), .int .i64 ((resR a b c d n r).2.2.1), .int .i64 ((resR a b c d n r).2.2.2)], [], []⟩ := by
    refine (e_pyr_Resolution ..).trans ?_
    simp only [ite2_bool, decide_eq_true_eq, resR]
    cases h : inr 0 5 n
    · simp
    · have hb := inr_b h
      cases h1 : inr 0 n r
      · have : r < 0 ∨ r > n := by simp [inr] at h1; omega
        rcases this with h2 | h2 <;> simp [h2]
      · have hc := inr_b h1
        rw [if_neg (by decide), if_neg (by omega), if_neg (by omega), wrap_in (n := n - r) (by omega) (by omega), wrapu_in (n := n - r) (by omega) (by omega), shl_pw (by omega) (by omega), if_pos (by omega)]
        simp
theorem s_pyr_Resolution : SoundFun Try.prog 25 G_pyr_Resolution := by
  refine fun_ok (tab := t_pyr_Resolution) (ann := annOf []) (lt := l_pyr_Resolution) (tab_cons s_pyr_validLevels (tab_cons s_rect_Reduce tab_nil)) (by kernel_rfl) (fn := Try.f25) (by kernel_rfl) (by decide) (c := bodyOf Try.f25) (by kernel_rfl) (no_loops (by kernel_rfl)) ?_ (keep_nil (by kernel_rfl))
  intro args lent o y0'
  unfold G_pyr_Resolution at y0'
  obtain ⟨q', args, rfl, y1'⟩ := pA_s y0'
  obtain ⟨a, b, c, d, q', rfl, y2'⟩ := t4_s y1'
  obtain ⟨rfl, y3'⟩ := tE_s y2'
  obtain ⟨n, args, rfl, y4'⟩ := pI_s y3'
  obtain ⟨r, args, rfl, y5'⟩ := pI_s y4'
  obtain ⟨rfl, y6'⟩ := pE_s y5'
  obtain ⟨rfl, y7'⟩ := nE_s y6'
  have yy' := y7'
  unfold H_pyr_Resolution at yy'
  obtain ⟨hok, rfl⟩ := Prod.mk.inj (Option.some.inj yy')
  exact ⟨20, q_pyr_Resolution _ _ _ _ _ _ hok⟩
theorem o_dwt_Bands : loopsOf (bodyOf Try.f48) = [loopOf Try.f48 0] := by kernel_rfl
theorem q_dwt_Bands (a b c d : Int) (hok : true = true) : funR Try.prog t_dwt_Bands (annOf []) l_dwt_Bands 20 Try.f48 [.agg [.int .i64 a, .int .i64 b, .int .i64 c, .int .i64 d]] [] = some ⟨.agg [.int .i64 ((bnd a b c d 0).1), .int .i64 ((bnd a b c d 0).2.1), .int .i64 ((bnd a b c d 0).2.2.1), .int .i64 ((bnd a b c d 0).2.2.2), .int .i64 ((bnd a b c d 1).1), .int .i64 ((bnd a b c d 1).2.1), .int .i64 ((bnd a b c d 1).2.2.1), .int .i64 ((bnd a b c d 1).2.2.2), .int .i64 ((bnd a b c d 2).1), .int .i64 ((bnd a b c d 2).2.1), .int .i64 ((bnd a b c d 2).2.2.1), .int .i64 ((bnd a b c d 2).2.2.2), .int .i64 ((bnd a b c d 3).1), .int .i64 ((bnd a b c d 3).2.1), .int .i64 ((bnd a b c d 3).2.2.1), .int .i64 ((bnd a b c d 3).2.2.2)], [], []⟩ := by
    refine (e_dwt_Bands ..).trans ?_
    simp only [ite2_bool, bnd]
    cases h : valid a b c d
    · simp
    · have hb := valid_b h
      simp (disch := omega) only [wrap_in, wrapu_in, Int.tdiv_eq_ediv_of_nonneg]
      simp
theorem s_dwt_Bands : SoundFun Try.prog 48 G_dwt_Bands := by
  refine fun_ok (tab := t_dwt_Bands) (ann := annOf []) (lt := l_dwt_Bands) (tab_cons s_rect_Valid tab_nil) (by kernel_rfl) (fn := Try.f48) (by kernel_rfl) (by decide) (c := bodyOf Try.f48) (by kernel_rfl) (by
    intro m b hb
    have hb' : b ∈ loopsOf (bodyOf Try.f48) := hb
    rw [o_dwt_Bands] at hb'
    simp only [List.mem_cons, List.not_mem_nil, or_false] at hb'
    rcases hb' with rfl
    · exact loop_none (by kernel_rfl) m
    ) ?_ (keep_nil (by kernel_rfl))
  intro args lent o y0'
  unfold G_dwt_Bands at y0'
  obtain ⟨q', args, rfl, y1'⟩ := pA_s y0'
  obtain ⟨a, b, c, d, q', rfl, y2'⟩ := t4_s y1'
  obtain ⟨rfl, y3'⟩ := tE_s y2'
  obtain ⟨rfl, y4'⟩ := pE_s y3'
  obtain ⟨rfl, y5'⟩ := nE_s y4'
  have yy' := y5'
  unfold H_dwt_Bands at yy'
  obtain ⟨hok, rfl⟩ := Prod.mk.inj (Option.some.inj yy')
  exact ⟨20, q_dwt_Bands _ _ _ _ hok⟩

theorem q_ext_below (i : Int) (hok : inr 0 10000 i = true) : funR Try.prog t_ext_below (annOf []) l_ext_below 20 Try.f109 [.one (.int .i64 i)] [] = some ⟨.one (.int .i64 ((i + 1) / 2)), [], []⟩ := by
    refine (e_ext_below ..).trans ?_
    have h := inr_b hok
    rw [wrap_in (n := i + 1) (by omega) (by omega), Int.tdiv_eq_ediv_of_nonneg (by omega), wrap_in (by omega) (by omega)]
theorem s_ext_below : SoundFun Try.prog 109 G_ext_below := by
  refine fun_ok (tab := t_ext_below) (ann := annOf []) (lt := l_ext_below) tab_nil (by kernel_rfl) (fn := Try.f109) (by kernel_rfl) (by decide) (c := bodyOf Try.f109) (by kernel_rfl) (no_loops (by kernel_rfl)) ?_ (keep_nil (by kernel_rfl))
  intro args lent o y0'
  unfold G_ext_below at y0'
  obtain ⟨i, args, rfl, y1'⟩ := pI_s y0'
  obtain ⟨rfl, y2'⟩ := pE_s y1'
  obtain ⟨rfl, y3'⟩ := nE_s y2'
  have yy' := y3'
  unfold H_ext_below at yy'
  obtain ⟨hok, rfl⟩ := Prod.mk.inj (Option.some.inj yy')
  exact ⟨20, q_ext_below _ hok⟩
theorem q_ext_Counts (s n : Int) (hok : true = true) : funR Try.prog t_ext_Counts (annOf []) l_ext_Counts 20 Try.f105 [.one (.int .i64 s), .one (.int .i64 n)] [] = some ⟨.tup [(false, [.int .i64 (cnt s n).1]), (false, [.int .i64 (cnt s n).2])], [], []⟩ := by
    refine (e_ext_Counts ..).trans ?_
    simp only [ite2_bool, decide_eq_true_eq, cnt]
    by_cases h : cok s n
    · obtain ⟨h1, h2, h3, h4⟩ := h
      rw [if_pos (show cok s n from ⟨h1, h2, h3, h4⟩), if_neg (by omega), if_neg (by omega), if_neg (by omega), if_neg (by omega)]
      unfold cev
      rw [wrap_in (n := s + n) (by omega) (by omega), inr_t (a := 0) (b := 10000) (x := s + n) (by omega) (by omega), inr_t (a := 0) (b := 10000) (x := s) (by omega) (by omega), if_pos rfl, if_pos rfl, wrap_in (n := (s + n + 1) / 2 - (s + 1) / 2) (by omega) (by omega), wrap_in (by omega) (by omega)]
    · rw [if_neg h]
      unfold cok at h
      by_cases h1 : s < 0
      · simp [h1]
      by_cases h2 : s > 4096
      · simp [h2]
      by_cases h3 : n < 0
      · simp [h3]
      by_cases h4 : n > 4096
      · simp [h4]
      omega
theorem s_ext_Counts : SoundFun Try.prog 105 G_ext_Counts := by
  refine fun_ok (tab := t_ext_Counts) (ann := annOf []) (lt := l_ext_Counts) (tab_cons s_ext_below tab_nil) (by kernel_rfl) (fn := Try.f105) (by kernel_rfl) (by decide) (c := bodyOf Try.f105) (by kernel_rfl) (no_loops (by kernel_rfl)) ?_ (keep_nil (by kernel_rfl))
  intro args lent o y0'
  unfold G_ext_Counts at y0'
  obtain ⟨s, args, rfl, y1'⟩ := pI_s y0'
  obtain ⟨n, args, rfl, y2'⟩ := pI_s y1'
  obtain ⟨rfl, y3'⟩ := pE_s y2'
  obtain ⟨rfl, y4'⟩ := nE_s y3'
  have yy' := y4'
  unfold H_ext_Counts at yy'
  obtain ⟨hok, rfl⟩ := Prod.mk.inj (Option.some.inj yy')
  exact ⟨20, q_ext_Counts _ _ hok⟩
theorem jz_len (acc : List Int) (d : Nat) : (jz acc d).length = acc.length + d := by simp [jz]
theorem jz_set (acc : List Int) (d : Nat) (x : Int) : (jz acc (d + 1)).set acc.length x = jz (acc ++ [x]) d := by
  unfold jz; rw [List.replicate_succ]; exact set_mid ..
theorem gI_rd (l : List Int) (i : Nat) : gI l i = rd l i := by
  simp [gI, rd, List.getD_eq_getElem?_getD]
theorem par_w {s i : Int} (h0 : 0 ≤ s) (h1 : s ≤ 4096) (h2 : 0 ≤ i) (h3 : i ≤ 100000) : Int.tmod (IntKind.wrap .i64 (s + i)) 2 = (s + i) % 2 := by
  rw [wrap_in (by omega) (by omega), Int.tmod_eq_emod_of_nonneg (by omega)]
theorem d_ext_Split_0 {α : Type} {vs : List V} {bl : List (Option Blk)} {K} {r0' : α} {Q : Prop} (y0' : D_ext_Split_0 vs bl K = some r0') (hh' : ∀ (s : Int) (e : List Int) (o : List Int) (l : List Int) (n : Int) (i : Int), vs = [.one (.int .i64 s), .one (.row 0), .one (.row 1), .one (.lst (.int .i64) l), .one (.int .i64 n), .one (.int .i64 i)] → bl = [some (.arr 3 (.int .i64) e), some (.arr 3 (.int .i64) o)] → K s e o l n i = some r0' → Q) : Q := by
  unfold D_ext_Split_0 at y0'
  obtain ⟨s, vs, rfl, y1'⟩ := pI_s y0'
  obtain ⟨c', vs, rfl, y2'⟩ := pO_s y1'
  obtain ⟨rfl, y3'⟩ := kR_s y2'
  obtain ⟨c', vs, rfl, y4'⟩ := pO_s y3'
  obtain ⟨rfl, y5'⟩ := kR_s y4'
  obtain ⟨c', vs, rfl, y6'⟩ := pO_s y5'
  obtain ⟨l, rfl, y7'⟩ := kLI_s y6'
  obtain ⟨n, vs, rfl, y8'⟩ := pI_s y7'
  obtain ⟨i, vs, rfl, y9'⟩ := pI_s y8'
  obtain ⟨rfl, y10'⟩ := pE_s y9'
  obtain ⟨e, bl, rfl, y11'⟩ := bAI_s y10'
  obtain ⟨o, bl, rfl, y12'⟩ := bAI_s y11'
  obtain ⟨rfl, y13'⟩ := bE_s y12'
  have yy' := y13'
  exact hh' _ _ _ _ _ _ rfl rfl yy'
theorem r_ext_Split_0 : RoundOk Try.prog t_ext_Split (annOf []) l_ext_Split Out 20 0 56 [1, 4, 5, 33, 34, 35] (kxOf [4, 5] [4, 5, 6]) (loopOf Try.f91 0) T_ext_Split_0 := by
  intro vs bl Kc r h
  unfold T_ext_Split_0 at h
  obtain ⟨t, y0', h'⟩ := getD_run h
  refine d_ext_Split_0 y0' fun s e o l n i u1' u2' yy' => ?_
  subst u1' u2'
  cases yy'
  exact (b_ext_Split_0 ..).trans h'
theorem o_ext_Split : loopsOf (bodyOf Try.f91) = [loopOf Try.f91 0] := by kernel_rfl
theorem zs_ext (s : Int) (l : List Int) (h0 : 0 ≤ s) (h1 : s ≤ 4096) (hl : l.length ≤ 4096) : ∀ (d i : Nat) (e o : List Int), i + d = l.length → e.length ≤ i → o.length ≤ i → ∃ z, ∀ (K : Ex → List V → List (Option Blk) → Option Out) (r : Out), (LT.leaf (.exit 0) [.one (.row 0), .one (.row 1)] [some (.arr 3 (.int .i64) (e ++ evs (s + i) (l.drop i))), some (.arr 3 (.int .i64) (o ++ ods (s + i) (l.drop i)))]).run K = some r → (iter T_ext_Split_0 z [.one (.int .i64 s), .one (.row 0), .one (.row 1), .one (.lst (.int .i64) l), .one (.int .i64 (l.length : Int)), .one (.int .i64 (i : Int))] [some (.arr 3 (.int .i64) e), some (.arr 3 (.int .i64) o)]).run K = some r
  | 0, i, e, o, h, he, ho => ⟨1, fun K r h' => by
    simp only [iter, tu_ext_Split_0, U_ext_Split_0, LT.next, LT.run, ite2_bool, decide_eq_true_eq]
    rw [if_neg (by omega)]
    rw [List.drop_eq_nil_of_le (by omega)] at h'
    simpa [LT.run, evs, ods] using h'⟩
  | d + 1, i, e, o, h, he, ho => by
    by_cases hp : (s + i) % 2 = 0
    · obtain ⟨z, hz⟩ := zs_ext s l h0 h1 hl d (i + 1) (e ++ [rd l i]) o (by omega) (by simp; omega) (by omega)
      refine ⟨z + 1, fun K r h' => ?_⟩
      simp only [iter, tu_ext_Split_0, U_ext_Split_0, LT.next, LT.run, ite2_bool, decide_eq_true_eq, Int.toNat_natCast, gI_rd]
      rw [par_w h0 h1 (by omega) (by omega), hp, if_pos (by omega), if_pos (by omega), if_pos (by rfl), if_pos (by simp only [List.length_singleton]; omega), wrap_in (n := (i : Int) + 1) (by omega) (by omega)]
      refine hz K r ?_
      rw [drop_at (show i < l.length by omega)] at h'
      simp only [evs, ods, hp, if_true] at h'
      rw [List.append_assoc, show s + ((i + 1 : Nat) : Int) = s + i + 1 by omega]
      exact h'
    · obtain ⟨z, hz⟩ := zs_ext s l h0 h1 hl d (i + 1) e (o ++ [rd l i]) (by omega) (by omega) (by simp; omega)
      refine ⟨z + 1, fun K r h' => ?_⟩
      simp only [iter, tu_ext_Split_0, U_ext_Split_0, LT.next, LT.run, ite2_bool, decide_eq_true_eq, Int.toNat_natCast, gI_rd]
      rw [par_w h0 h1 (by omega) (by omega), if_pos (by omega), if_pos (by omega), if_neg (by simpa using hp), if_pos (by simp only [List.length_singleton]; omega), wrap_in (n := (i : Int) + 1) (by omega) (by omega)]
      refine hz K r ?_
      rw [drop_at (show i < l.length by omega)] at h'
      simp only [evs, ods, hp, if_false] at h'
      rw [List.append_assoc o, show s + ((i + 1 : Nat) : Int) = s + i + 1 by omega]
      exact h'
theorem zz_ext_Split_0 (s : Int) (e o l : List Int) (n i : Int) (hk : k_ext_Split_0 s e o l n i = true) : ZZ (c_ext_Split_0 s e o l n i) T_ext_Split_0 [.one (.int .i64 s), .one (.row 0), .one (.row 1), .one (.lst (.int .i64) l), .one (.int .i64 n), .one (.int .i64 i)] [some (.arr 3 (.int .i64) e), some (.arr 3 (.int .i64) o)] := by
  simp only [k_ext_Split_0, Bool.and_eq_true, decide_eq_true_eq] at hk
  obtain ⟨⟨⟨⟨⟨hs, rfl⟩, rfl⟩, rfl⟩, rfl⟩, hl⟩ := hk
  have hs' := inr_b hs
  have := zs_ext s l hs'.1 hs'.2 hl l.length 0 [] [] (by omega) (by simp) (by simp)
  simpa [c_ext_Split_0] using this
theorem z_ext_Split_0 : ZOk S_ext_Split_0 T_ext_Split_0 := by
  intro vs bl t y0'
  refine d_ext_Split_0 y0' fun s e o l n i u1' u2' yy' => ?_
  subst u1' u2'
  obtain ⟨hk, rfl⟩ := Prod.mk.inj (Option.some.inj yy')
  exact zz_ext_Split_0 _ _ _ _ _ _ hk
theorem q_ext_Split (l : List Int) (s : Int) (hok : small l.length = true) : funR Try.prog t_ext_Split (annOf []) l_ext_Split 20 Try.f91 [.one (.lst (.int .i64) l), .one (.int .i64 s)] [] = some ⟨.tup [(false, [.row 0]), (false, [.row 1]), (false, [.int .i64 (spl l s).2.2])], [], [.arr 3 (.int .i64) (spl l s).1, .arr 3 (.int .i64) (spl l s).2.1]⟩ := by
    refine (e_ext_Split ..).trans ?_
    simp only [ite2_bool, decide_eq_true_eq, spl]
    by_cases h1 : s < 0
    · have : ¬ sok l s := fun h => by have := h.1; omega
      rw [if_pos h1, if_neg this]
    by_cases h2 : s > 4096
    · have : ¬ sok l s := fun h => by have := h.2.1; omega
      rw [if_neg h1, if_pos h2, if_neg this]
    by_cases h3 : (l.length : Int) > 4096
    · have : ¬ sok l s := fun h => by have := h.2.2; omega
      rw [if_neg h1, if_neg h2, if_pos h3, if_neg this]
    have hs : sok l s := ⟨by omega, by omega, by omega⟩
    have hk : k_ext_Split_0 s [] [] l (l.length : Int) 0 = true := by
      simp only [k_ext_Split_0, inr_t (a := 0) (b := 4096) (x := s) (by omega) (by omega), decide_true, Bool.true_and, decide_eq_true_eq]; omega
    have hc := cev_bd (s := s) (n := (l.length : Int)) (by omega)
    have e : cnt s (l.length : Int) = (cev s l.length, l.length - cev s l.length) := by unfold cnt; rw [if_pos ⟨by omega, by omega, by omega, by omega⟩]
    rw [if_neg h1, if_neg h2, if_neg h3, if_pos hs]
    rw [e, if_pos (by simp only; omega), if_pos (by simp only; omega)]
    rw [show k_ext_Split_0 s (List.replicate 0 0) (List.replicate 0 0) l (l.length : Int) 0 = true from hk]
    rfl
theorem s_ext_Split : SoundFun Try.prog 91 G_ext_Split := by
  refine fun_ok (tab := t_ext_Split) (ann := annOf []) (lt := l_ext_Split) (tab_cons s_ext_Counts tab_nil) (by kernel_rfl) (fn := Try.f91) (by kernel_rfl) (by decide) (c := bodyOf Try.f91) (by kernel_rfl) (by
    intro m b hb
    have hb' : b ∈ loopsOf (bodyOf Try.f91) := hb
    rw [o_ext_Split] at hb'
    simp only [List.mem_cons, List.not_mem_nil, or_false] at hb'
    rcases hb' with rfl
    · exact loop_ok (key := 6) (by kernel_rfl) rfl r_ext_Split_0 z_ext_Split_0 m
    ) ?_ (keep_nil (by kernel_rfl))
  intro args lent o y0'
  unfold G_ext_Split at y0'
  obtain ⟨c', args, rfl, y1'⟩ := pO_s y0'
  obtain ⟨l, rfl, y2'⟩ := kLI_s y1'
  obtain ⟨s, args, rfl, y3'⟩ := pI_s y2'
  obtain ⟨rfl, y4'⟩ := pE_s y3'
  obtain ⟨rfl, y5'⟩ := nE_s y4'
  have yy' := y5'
  unfold H_ext_Split at yy'
  obtain ⟨hok, rfl⟩ := Prod.mk.inj (Option.some.inj yy')
  exact ⟨20, q_ext_Split _ _ hok⟩
theorem d_ext_Join_0 {α : Type} {vs : List V} {bl : List (Option Blk)} {K} {r0' : α} {Q : Prop} (y0' : D_ext_Join_0 vs bl K = some r0') (hh' : ∀ (l : List Int) (m : List Int) (c : List Int) (s : Int) (n : Int) (a : Int) (b : Int) (i : Int), vs = [.one (.lst (.int .i64) l), .one (.lst (.int .i64) m), .one (.int .i64 s), .one (.row 0), .one (.int .i64 a), .one (.int .i64 b), .one (.int .i64 n), .one (.int .i64 i)] → bl = [some (.arr 3 (.int .i64) c)] → K l m c s n a b i = some r0' → Q) : Q := by
  unfold D_ext_Join_0 at y0'
  obtain ⟨c', vs, rfl, y1'⟩ := pO_s y0'
  obtain ⟨l, rfl, y2'⟩ := kLI_s y1'
  obtain ⟨c', vs, rfl, y3'⟩ := pO_s y2'
  obtain ⟨m, rfl, y4'⟩ := kLI_s y3'
  obtain ⟨s, vs, rfl, y5'⟩ := pI_s y4'
  obtain ⟨c', vs, rfl, y6'⟩ := pO_s y5'
  obtain ⟨rfl, y7'⟩ := kR_s y6'
  obtain ⟨a, vs, rfl, y8'⟩ := pI_s y7'
  obtain ⟨b, vs, rfl, y9'⟩ := pI_s y8'
  obtain ⟨n, vs, rfl, y10'⟩ := pI_s y9'
  obtain ⟨i, vs, rfl, y11'⟩ := pI_s y10'
  obtain ⟨rfl, y12'⟩ := pE_s y11'
  obtain ⟨c, bl, rfl, y13'⟩ := bAI_s y12'
  obtain ⟨rfl, y14'⟩ := bE_s y13'
  have yy' := y14'
  exact hh' _ _ _ _ _ _ _ _ rfl rfl yy'
theorem r_ext_Join_0 : RoundOk Try.prog t_ext_Join (annOf []) l_ext_Join Out 20 0 86 [0, 1, 2, 11, 12, 13, 57, 58] (kxOf [11] [6, 7]) (loopOf Try.f97 0) T_ext_Join_0 := by
  intro vs bl Kc r h
  unfold T_ext_Join_0 at h
  obtain ⟨t, y0', h'⟩ := getD_run h
  refine d_ext_Join_0 y0' fun l m c s n a b i u1' u2' yy' => ?_
  subst u1' u2'
  cases yy'
  exact (b_ext_Join_0 ..).trans h'
theorem o_ext_Join : loopsOf (bodyOf Try.f97) = [loopOf Try.f97 0] := by kernel_rfl
theorem zj_ext (l m : List Int) (s n : Int) (h0 : 0 ≤ s) (h1 : s ≤ 4096) (hn : n ≤ 4096) : ∀ (d i a b : Nat) (acc : List Int), (i : Int) + d = n → acc.length = i → a ≤ i → b ≤ i → (l.length : Int) - a = cev (s + i) d → (m.length : Int) - b = d - cev (s + i) d → ∃ z, ∀ (K : Ex → List V → List (Option Blk) → Option Out) (r : Out), (LT.leaf (.exit 0) [.one (.row 0)] [some (.arr 3 (.int .i64) (acc ++ ilv (s + i) d (l.drop a) (m.drop b)))]).run K = some r → (iter T_ext_Join_0 z [.one (.lst (.int .i64) l), .one (.lst (.int .i64) m), .one (.int .i64 s), .one (.row 0), .one (.int .i64 (a : Int)), .one (.int .i64 (b : Int)), .one (.int .i64 n), .one (.int .i64 (i : Int))] [some (.arr 3 (.int .i64) (jz acc d))]).run K = some r
  | 0, i, a, b, acc, h, hacc, hai, hbi, ha, hb => ⟨1, fun K r h' => by
    simp only [iter, tu_ext_Join_0, U_ext_Join_0, LT.next, LT.run, ite2_bool, decide_eq_true_eq, Int.toNat_natCast, gI_rd]
    rw [if_neg (by omega)]
    simpa [LT.run, ilv, jz] using h'⟩
  | d + 1, i, a, b, acc, h, hacc, hai, hbi, ha, hb => by
    have hd0 : ((d + 1 : Nat) : Int) = (d : Int) + 1 := by omega
    rw [hd0] at ha hb
    have cb := cev_bd (s := s + i + 1) (n := (d : Int)) (by omega)
    by_cases hp : (s + i) % 2 = 0
    · rw [cev_even hp] at ha hb
      have hal : a < l.length := by omega
      have hd := drop_at (xs := l) (i := a) hal
      obtain ⟨z, hz⟩ := zj_ext l m s n h0 h1 hn d (i + 1) (a + 1) b (acc ++ [rd l a]) (by omega) (by simp; omega) (by omega) (by omega) (by rw [show s + ((i + 1 : Nat) : Int) = s + i + 1 by omega]; omega) (by rw [show s + ((i + 1 : Nat) : Int) = s + i + 1 by omega]; omega)
      refine ⟨z + 1, fun K r h' => ?_⟩
      simp only [iter, tu_ext_Join_0, U_ext_Join_0, LT.next, LT.run, ite2_bool, decide_eq_true_eq, Int.toNat_natCast, gI_rd]
      rw [par_w h0 h1 (by omega) (by omega), if_pos (by omega), hp, if_pos (by rfl), if_pos (by omega), if_pos (by rw [jz_len]; omega), if_pos (by rw [jz_len]; omega), wrap_in (n := (i : Int) + 1) (by omega) (by omega), wrap_in (n := (a : Int) + 1) (by omega) (by omega)]
      have hset : (jz acc (d + 1)).set i (rd l a) = jz (acc ++ [rd l a]) d := by rw [← hacc]; exact jz_set ..
      rw [← hset] at hz
      refine hz K r ?_
      rw [show s + ((i + 1 : Nat) : Int) = s + i + 1 by omega, List.append_assoc]
      rw [hd] at h'
      simp only [ilv, hp, if_true, List.headD_cons, List.tail_cons] at h'
      exact h'
    · rw [cev_odd hp] at ha hb
      have hbl : b < m.length := by omega
      have hd := drop_at (xs := m) (i := b) hbl
      obtain ⟨z, hz⟩ := zj_ext l m s n h0 h1 hn d (i + 1) a (b + 1) (acc ++ [rd m b]) (by omega) (by simp; omega) (by omega) (by omega) (by rw [show s + ((i + 1 : Nat) : Int) = s + i + 1 by omega]; omega) (by rw [show s + ((i + 1 : Nat) : Int) = s + i + 1 by omega]; omega)
      refine ⟨z + 1, fun K r h' => ?_⟩
      simp only [iter, tu_ext_Join_0, U_ext_Join_0, LT.next, LT.run, ite2_bool, decide_eq_true_eq, Int.toNat_natCast, gI_rd]
      rw [par_w h0 h1 (by omega) (by omega), if_pos (by omega), if_neg (by simpa using hp), if_pos (by omega), if_pos (by rw [jz_len]; omega), if_pos (by rw [jz_len]; omega), wrap_in (n := (i : Int) + 1) (by omega) (by omega), wrap_in (n := (b : Int) + 1) (by omega) (by omega)]
      have hset : (jz acc (d + 1)).set i (rd m b) = jz (acc ++ [rd m b]) d := by rw [← hacc]; exact jz_set ..
      rw [← hset] at hz
      refine hz K r ?_
      rw [show s + ((i + 1 : Nat) : Int) = s + i + 1 by omega, List.append_assoc]
      rw [hd] at h'
      simp only [ilv, hp, if_false, List.headD_cons, List.tail_cons] at h'
      exact h'
theorem zz_ext_Join_0 (l m c : List Int) (s n a b i : Int) (hk : k_ext_Join_0 l m c s n a b i = true) : ZZ (c_ext_Join_0 l m c s n a b i) T_ext_Join_0 [.one (.lst (.int .i64) l), .one (.lst (.int .i64) m), .one (.int .i64 s), .one (.row 0), .one (.int .i64 a), .one (.int .i64 b), .one (.int .i64 n), .one (.int .i64 i)] [some (.arr 3 (.int .i64) c)] := by
  simp only [k_ext_Join_0, Bool.and_eq_true, decide_eq_true_eq] at hk
  obtain ⟨⟨⟨⟨⟨⟨⟨hs, hn⟩, rfl⟩, rfl⟩, rfl⟩, rfl⟩, ha⟩, hb⟩ := hk
  have hs' := inr_b hs
  have hn' := inr_b hn
  have := zj_ext l m s n hs'.1 hs'.2 hn'.2 n.toNat 0 0 0 [] (by omega) rfl (by omega) (by omega) (by rw [Int.toNat_of_nonneg hn'.1]; simp [ha]) (by rw [Int.toNat_of_nonneg hn'.1]; simp [hb])
  simpa [c_ext_Join_0, jz] using this
theorem z_ext_Join_0 : ZOk S_ext_Join_0 T_ext_Join_0 := by
  intro vs bl t y0'
  refine d_ext_Join_0 y0' fun l m c s n a b i u1' u2' yy' => ?_
  subst u1' u2'
  obtain ⟨hk, rfl⟩ := Prod.mk.inj (Option.some.inj yy')
  exact zz_ext_Join_0 _ _ _ _ _ _ _ _ hk
theorem q_ext_Join (l m : List Int) (s : Int) (hok : (small l.length && small m.length) = true) : funR Try.prog t_ext_Join (annOf []) l_ext_Join 20 Try.f97 [.one (.lst (.int .i64) l), .one (.lst (.int .i64) m), .one (.int .i64 s)] [] = some ⟨.tup [(false, [.row 0]), (false, [.int .i64 (jn l m s).2])], [], [.arr 3 (.int .i64) (jn l m s).1]⟩ := by
    refine (e_ext_Join ..).trans ?_
    simp only [Bool.and_eq_true, small, decide_eq_true_eq] at hok
    simp only [ite2_bool, decide_eq_true_eq, jn]
    by_cases h1 : s < 0
    · have : ¬ jok l m s := fun h => by have := h.1; omega
      rw [if_pos h1, if_neg this]
    by_cases h2 : s > 4096
    · have : ¬ jok l m s := fun h => by have := h.2.1; omega
      rw [if_neg h1, if_pos h2, if_neg this]
    by_cases h3 : (l.length : Int) > 4096
    · have : ¬ jok l m s := fun h => by have := h.2.2; omega
      rw [if_neg h1, if_neg h2, if_pos h3, if_neg this]
    rw [wrap_in (n := 4096 - (l.length : Int)) (by omega) (by omega)]
    by_cases h4 : (m.length : Int) > 4096 - (l.length : Int)
    · have : ¬ jok l m s := fun h => by have := h.2.2; omega
      rw [if_neg h1, if_neg h2, if_neg h3, if_pos h4, if_neg this]
    rw [wrap_in (n := (l.length : Int) + (m.length : Int)) (by omega) (by omega)]
    skip
    skip
    skip
    have hj : jok l m s := ⟨by omega, by omega, by omega⟩
    rw [if_neg h1, if_neg h2, if_neg h3, if_neg h4, if_pos hj, cnt_sum hj]
    skip
    by_cases h6 : (l.length : Int) = cev s ((l.length : Int) + (m.length : Int))
    rotate_left
    · rw [if_neg h6, show (cev s ((l.length : Int) + (m.length : Int)) != (l.length : Int)) = true by simp; omega]
      rfl
    have h7 : (l.length : Int) + (m.length : Int) - cev s ((l.length : Int) + (m.length : Int)) = (m.length : Int) := by omega
    rw [if_pos h6]
    simp only [← h6]
    simp only [show (l.length : Int) + (m.length : Int) - (l.length : Int) = (m.length : Int) by omega, bne_self_eq_false, Bool.false_eq_true, if_false]
    rw [if_pos (by omega)]
    have hk : k_ext_Join_0 l m (List.replicate ((l.length : Int) + (m.length : Int)).toNat 0) s ((l.length : Int) + (m.length : Int)) 0 0 0 = true := by
      simp only [k_ext_Join_0, inr_t (a := 0) (b := 4096) (x := s) (by omega) (by omega), inr_t (a := 0) (b := 4096) (x := (l.length : Int) + (m.length : Int)) (by omega) (by omega), decide_true, Bool.true_and, Bool.and_true, Bool.and_eq_true, decide_eq_true_eq]
      omega
    rw [hk, show ((l.length : Int) + (m.length : Int)).toNat = l.length + m.length by omega]
    rfl
theorem s_ext_Join : SoundFun Try.prog 97 G_ext_Join := by
  refine fun_ok (tab := t_ext_Join) (ann := annOf []) (lt := l_ext_Join) (tab_cons s_ext_Counts tab_nil) (by kernel_rfl) (fn := Try.f97) (by kernel_rfl) (by decide) (c := bodyOf Try.f97) (by kernel_rfl) (by
    intro m b hb
    have hb' : b ∈ loopsOf (bodyOf Try.f97) := hb
    rw [o_ext_Join] at hb'
    simp only [List.mem_cons, List.not_mem_nil, or_false] at hb'
    rcases hb' with rfl
    · exact loop_ok (key := 10) (by kernel_rfl) rfl r_ext_Join_0 z_ext_Join_0 m
    ) ?_ (keep_nil (by kernel_rfl))
  intro args lent o y0'
  unfold G_ext_Join at y0'
  obtain ⟨c', args, rfl, y1'⟩ := pO_s y0'
  obtain ⟨l, rfl, y2'⟩ := kLI_s y1'
  obtain ⟨c', args, rfl, y3'⟩ := pO_s y2'
  obtain ⟨m, rfl, y4'⟩ := kLI_s y3'
  obtain ⟨s, args, rfl, y5'⟩ := pI_s y4'
  obtain ⟨rfl, y6'⟩ := pE_s y5'
  obtain ⟨rfl, y7'⟩ := nE_s y6'
  have yy' := y7'
  unfold H_ext_Join at yy'
  obtain ⟨hok, rfl⟩ := Prod.mk.inj (Option.some.inj yy')
  exact ⟨20, q_ext_Join _ _ _ hok⟩
end Go.Rx.Ch06
