/- The summaries of these functions are sound. -/
import Derived.Test.YtjbgacjgnhnecaaRE1
import Derived.Test.YtjbgacjgnhnecaaRS1
set_option linter.unnecessarySimpa false
set_option linter.unusedVariables false
set_option linter.unusedSimpArgs false
set_option maxRecDepth 100000
set_option maxHeartbeats 40000000
open Go Go.Rx Go.Proofs
namespace Go.Rx.Ch30
theorem q_RoiValidates (l : List (Int × Int × Int × Int)) (hok : ok_RoiValidates l = true) : funR Try.prog t_RoiValidates (annOf []) l_RoiValidates 20 Try.f3 [.one (.lst (.pair (.int .i64) (.pair (.int .i64) (.pair (.int .i64) (.int .i64)))) l)] [] = some ⟨.one (.bool true), [], []⟩ := by
    refine (e_RoiValidates ..).trans ?_
    simp [ite2_bool]
theorem s_RoiValidates : SoundFun Try.prog 3 G_RoiValidates := by
  refine fun_ok (tab := t_RoiValidates) (ann := annOf []) (lt := l_RoiValidates) (tab_cons s_awake (tab_cons s_roi_Valid (tab_cons s_ref30_Valid tab_nil))) (by kernel_rfl) (fn := Try.f3) (by kernel_rfl) (by decide) (c := bodyOf Try.f3) (by kernel_rfl) (no_loops (by kernel_rfl)) ?_ (keep_nil (by kernel_rfl))
  intro args lent o y0'
  unfold G_RoiValidates at y0'
  obtain ⟨c', args, rfl, y1'⟩ := pO_s y0'
  obtain ⟨l, rfl, y2'⟩ := kLR_s y1'
  obtain ⟨rfl, y3'⟩ := pE_s y2'
  obtain ⟨rfl, y4'⟩ := nE_s y3'
  have yy' := y4'
  unfold H_RoiValidates at yy'
  obtain ⟨hok, rfl⟩ := Prod.mk.inj (Option.some.inj yy')
  exact ⟨20, q_RoiValidates _ hok⟩
theorem large_s {u : List Int} {m : List Rc} (h : largeB u m = false) : u.length ≤ 500 ∧ m.length ≤ 40 := by
  simp only [largeB, Bool.or_eq_false_iff, decide_eq_false_iff_not] at h
  omega
theorem scL_le (u : List Int) (a b c d : Int) (m : List Rc) (s : Int) : (scL u a b c d m s).length ≤ u.length := by
  unfold scL
  split
  · simp [scM]
  · simp
theorem q_RoiScales (u : List Int) (a b c d : Int) (m : List (Int × Int × Int × Int)) (s : Int) (hok : ok_RoiScales u a b c d m s = true) : funR Try.prog t_RoiScales (annOf []) l_RoiScales 20 Try.f5 [.agg [.lst (.int .i64) u, .int .i64 a, .int .i64 b, .int .i64 c, .int .i64 d, .lst (.pair (.int .i64) (.pair (.int .i64) (.pair (.int .i64) (.int .i64)))) m], .one (.int .i64 s)] [] = some ⟨.one (.bool true), [], []⟩ := by
    refine (e_RoiScales ..).trans ?_
    simp only [ite2_bool]
    rcases Bool.eq_false_or_eq_true (largeB u m) with hl | hl
    · simp only [hl, if_true]
    · have hs := large_s hl
      have sc := scL_le u a b c d m s
      simp only [hl, small_d (show u.length ≤ 16777216 by omega), small_d (show m.length ≤ 16777216 by omega), small_d (show (scL u a b c d m s).length ≤ 16777216 by omega), Bool.and_self, decide_true, beq_self_eq_true, Bool.false_eq_true, if_false, if_true]
theorem s_RoiScales : SoundFun Try.prog 5 G_RoiScales := by
  refine fun_ok (tab := t_RoiScales) (ann := annOf []) (lt := l_RoiScales) (tab_cons s_awake (tab_cons s_law_large (tab_cons s_roi_Scale (tab_cons s_ref30_Scale (tab_cons s_law_same (tab_cons s_roi_Fits (tab_cons s_ref30_Fits tab_nil))))))) (by kernel_rfl) (fn := Try.f5) (by kernel_rfl) (by decide) (c := bodyOf Try.f5) (by kernel_rfl) (no_loops (by kernel_rfl)) ?_ (keep_nil (by kernel_rfl))
  intro args lent o y0'
  unfold G_RoiScales at y0'
  obtain ⟨q', args, rfl, y1'⟩ := pA_s y0'
  obtain ⟨c', q', rfl, y2'⟩ := tC_s y1'
  obtain ⟨u, rfl, y3'⟩ := kLI_s y2'
  obtain ⟨a, b, c, d, q', rfl, y4'⟩ := t4_s y3'
  obtain ⟨c', q', rfl, y5'⟩ := tC_s y4'
  obtain ⟨m, rfl, y6'⟩ := kLR_s y5'
  obtain ⟨rfl, y7'⟩ := tE_s y6'
  obtain ⟨s, args, rfl, y8'⟩ := pI_s y7'
  obtain ⟨rfl, y9'⟩ := pE_s y8'
  obtain ⟨rfl, y10'⟩ := nE_s y9'
  have yy' := y10'
  unfold H_RoiScales at yy'
  obtain ⟨hok, rfl⟩ := Prod.mk.inj (Option.some.inj yy')
  exact ⟨20, q_RoiScales _ _ _ _ _ _ _ hok⟩
theorem scErr_s {u : List Int} {a b c d : Int} {m : List Rc} {s : Int} (h : scErr u a b c d m s = 0) : valid a b c d = true ∧ inr 0 30 s = true ∧ (u.length : Int) = area a b c d ∧ fit 268435456 u ∧ ∀ j, j < u.length → fitP u a b c m s j = true := by
  unfold scErr at h
  split at h
  · exact absurd h (by decide)
  rename_i h1
  split at h
  · exact absurd h (by decide)
  rename_i h2
  split at h
  · exact absurd h (by decide)
  rename_i h3
  split at h
  · exact absurd h (by decide)
  rename_i h4
  simp only [Bool.or_eq_true, Bool.not_eq_true', not_or, Bool.not_eq_false, decide_eq_false_iff_not, Classical.not_not] at h1 h2 h3 h4
  rw [List.all_eq_true] at h4
  exact ⟨h1.1, h1.2, h2, fitB_fit h3, fun j hj => h4 j (List.mem_range.2 hj)⟩
theorem rs_ok {u : List Int} {a b c d : Int} {m : List Rc} {s : Int} (h : scErr u a b c d m s = 0) {j : Nat} (hj : j < u.length) : unsV (scP u a b c m s j) s = gI u j ∧ unsM (scP u a b c m s j) 0 s = 0 ∧ (s > 0 → scP u a b c m s j ≠ 0 → (mskB (mxI a c j) (myI a b c j) m = true ↔ (scP u a b c m s j ≥ pw s ∨ scP u a b c m s j ≤ -pw s))) ∧ i64B (scP u a b c m s j) = true := by
  obtain ⟨hv, hs, hl, hf, hp⟩ := scErr_s h
  have hb := inr_b hs
  have pq := (pw_30 hs).2.2.2
  have gb := gI_fit (by omega) hf j
  have fp := hp j hj
  have h1 := Int.mul_le_mul_of_nonneg_right gb.2 (show 0 ≤ pw s by omega)
  have h2 := Int.mul_le_mul_of_nonneg_right gb.1 (show 0 ≤ pw s by omega)
  have mn : min (0 : Int) s = 0 := by omega
  have mx : max (0 : Int) (0 - s) = 0 := by omega
  unfold scP
  rcases Bool.eq_false_or_eq_true (mskB (mxI a c j) (myI a b c j) m) with x | x
  · rw [x, if_pos rfl]
    have hd : Int.tdiv (gI u j * pw s) (pw s) = gI u j := Int.mul_tdiv_cancel _ (by omega)
    refine ⟨?_, ?_, fun s0 y0 => ⟨fun _ => ?_, fun _ => rfl⟩, ?_⟩
    · unfold unsV
      rw [hd]
      split
      · have : s = 0 := by omega
        subst this
        show gI u j * 1 = gI u j
        omega
      · split
        · rename_i hz; rw [hz, Int.zero_mul]
        · rfl
    · unfold unsM
      rw [hd, mn, mx]
      split
      · rfl
      · split <;> rfl
    · have : gI u j ≠ 0 := fun e => y0 (by rw [e, Int.zero_mul])
      by_cases hg : 0 < gI u j
      · left
        have := Int.mul_le_mul_of_nonneg_right (show 1 ≤ gI u j by omega) (show 0 ≤ pw s by omega)
        omega
      · right
        have := Int.mul_le_mul_of_nonneg_right (show gI u j ≤ -1 by omega) (show 0 ≤ pw s by omega)
        omega
    · exact inr_t (by omega) (by omega)
  · rw [x, if_neg (by decide)]
    have nb : s > 0 → ¬ (gI u j ≥ pw s ∨ gI u j ≤ -pw s) := by
      intro s0 hh
      unfold fitP at fp
      simp only [x, Bool.not_false, Bool.and_true, Bool.not_eq_true', Bool.and_eq_false_iff, Bool.or_eq_false_iff, decide_eq_false_iff_not] at fp
      omega
    have hd : s > 0 → Int.tdiv (gI u j) (pw s) = 0 := by
      intro s0
      have n := nb s0
      by_cases hg : 0 ≤ gI u j
      · rw [Int.tdiv_eq_ediv_of_nonneg hg]
        exact Int.ediv_eq_zero_of_lt hg (by omega)
      · have e : Int.tdiv (gI u j) (pw s) = -(Int.tdiv (-gI u j) (pw s)) := by rw [Int.neg_tdiv, Int.neg_neg]
        rw [e, Int.tdiv_eq_ediv_of_nonneg (show 0 ≤ -gI u j by omega), Int.ediv_eq_zero_of_lt (by omega) (by omega)]
        rfl
    refine ⟨?_, ?_, fun s0 y0 => ⟨fun q => (by cases q), fun q => absurd q (nb s0)⟩, ?_⟩
    · unfold unsV
      split
      · rfl
      · rename_i hn
        rw [if_pos (hd (by omega))]
    · unfold unsM
      split
      · rfl
      · rename_i hn
        rw [if_pos (hd (by omega)), mn]
    · exact inr_t (by omega) (by omega)
theorem scL_gI {u : List Int} {a b c d : Int} {m : List Rc} {s : Int} (h : scErr u a b c d m s = 0) : (scL u a b c d m s).length = u.length ∧ ∀ j, j < u.length → gI (scL u a b c d m s) j = scP u a b c m s j := by
  unfold scL
  rw [if_pos h]
  unfold scM
  exact ⟨by simp, fun j hj => by simp [gI, List.getD_eq_getElem?_getD, hj]⟩
theorem mskB_s (x y : Int) (m : List Rc) {j : Nat} (hj : j < m.length) : mskB x y (m.take (j + 1)) = (mskB x y (m.take j) || has (gR m j).1 (gR m j).2.1 (gR m j).2.2.1 (gR m j).2.2.2 x y) := by
  have e : gR m j = m[j] := by simp [gR, List.getD_eq_getElem?_getD, hj]
  rw [e]
  unfold mskB
  rw [List.take_succ_eq_append_getElem hj, List.all_append]
  simp only [List.all_cons, List.all_nil, Bool.and_true, Bool.not_and, Bool.not_not]
theorem mskB_0 (x y : Int) (m : List Rc) : mskB x y (m.take 0) = false := by simp [mskB]
theorem mskB_n (x y : Int) (m : List Rc) : mskB x y (m.take m.length) = mskB x y m := by rw [List.take_length]
theorem d_RoiRestores_0 {α : Type} {vs : List V} {bl : List (Option Blk)} {K} {r : α} {Q : Prop} (y0' : D_RoiRestores_0 vs bl K = some r) (hh' : ∀ (a : Int) (b : Int) (c : Int) (d : Int) (s : Int) (w : Int) (n : Int) (i : Int) (m : List (Int × Int × Int × Int)) (u : List Int) (v : List Int), vs = [.one (.int .i64 s), .one (.ptr 0 0), .one (.row 1), .one (.int .i64 w), .one (.int .i64 n), .one (.int .i64 i)] → bl = [some (.box [.lst (.int .i64) u, .int .i64 a, .int .i64 b, .int .i64 c, .int .i64 d, .lst (.pair (.int .i64) (.pair (.int .i64) (.pair (.int .i64) (.int .i64)))) m]), some (.arr 3 (.int .i64) v)] → K a b c d s w n i m u v = some r → Q) : Q := by
  unfold D_RoiRestores_0 at y0'
  obtain ⟨s, vs, rfl, y1'⟩ := pI_s y0'
  obtain ⟨vs, rfl, y2'⟩ := pP_s y1'
  obtain ⟨c', vs, rfl, y3'⟩ := pO_s y2'
  obtain ⟨rfl, y4'⟩ := kR_s y3'
  obtain ⟨w, vs, rfl, y5'⟩ := pI_s y4'
  obtain ⟨n, vs, rfl, y6'⟩ := pI_s y5'
  obtain ⟨i, vs, rfl, y7'⟩ := pI_s y6'
  obtain ⟨rfl, y8'⟩ := pE_s y7'
  obtain ⟨q', bl, rfl, y9'⟩ := bB_s y8'
  obtain ⟨c', q', rfl, y10'⟩ := tC_s y9'
  obtain ⟨u, rfl, y11'⟩ := kLI_s y10'
  obtain ⟨a, b, c, d, q', rfl, y12'⟩ := t4_s y11'
  obtain ⟨c', q', rfl, y13'⟩ := tC_s y12'
  obtain ⟨m, rfl, y14'⟩ := kLR_s y13'
  obtain ⟨rfl, y15'⟩ := tE_s y14'
  obtain ⟨v, bl, rfl, y16'⟩ := bAI_s y15'
  obtain ⟨rfl, y17'⟩ := bE_s y16'
  have yy' := y17'
  exact hh' _ _ _ _ _ _ _ _ _ _ _ rfl rfl yy'
theorem r_RoiRestores_0 : RoundOk Try.prog t_RoiRestores (annOf []) l_RoiRestores Out 20 0 144 [1, 2, 5, 7, 60, 61] (kxOf [] [4]) (loopOf Try.f6 0) T_RoiRestores_0 := by
  intro vs bl Kc r h
  unfold T_RoiRestores_0 at h
  obtain ⟨t, y0', h'⟩ := getD_run h
  refine d_RoiRestores_0 y0' fun a b c d s w n i m u v u1' u2' yy' => ?_
  subst u1' u2'
  cases yy'
  exact (b_RoiRestores_0 ..).trans h'
theorem d_RoiRestores_1 {α : Type} {vs : List V} {bl : List (Option Blk)} {K} {r : α} {Q : Prop} (y0' : D_RoiRestores_1 vs bl K = some r) (hh' : ∀ (a : Int) (b : Int) (c : Int) (d : Int) (s : Int) (w : Int) (i : Int) (n : Int) (x : Int) (n2 : Int) (j : Int) (e : Bool) (q : List (Int × Int × Int × Int)) (m : List (Int × Int × Int × Int)) (u : List Int) (v : List Int), vs = [.one (.int .i64 s), .one (.ptr 0 0), .one (.row 1), .one (.int .i64 w), .one (.int .i64 i), .one (.bool e), .one (.int .i64 n), .one (.int .i64 x), .one (.lst (.pair (.int .i64) (.pair (.int .i64) (.pair (.int .i64) (.int .i64)))) q), .one (.int .i64 n2), .one (.int .i64 j)] → bl = [some (.box [.lst (.int .i64) u, .int .i64 a, .int .i64 b, .int .i64 c, .int .i64 d, .lst (.pair (.int .i64) (.pair (.int .i64) (.pair (.int .i64) (.int .i64)))) m]), some (.arr 3 (.int .i64) v)] → K a b c d s w i n x n2 j e q m u v = some r → Q) : Q := by
  unfold D_RoiRestores_1 at y0'
  obtain ⟨s, vs, rfl, y1'⟩ := pI_s y0'
  obtain ⟨vs, rfl, y2'⟩ := pP_s y1'
  obtain ⟨c', vs, rfl, y3'⟩ := pO_s y2'
  obtain ⟨rfl, y4'⟩ := kR_s y3'
  obtain ⟨w, vs, rfl, y5'⟩ := pI_s y4'
  obtain ⟨i, vs, rfl, y6'⟩ := pI_s y5'
  obtain ⟨c', vs, rfl, y7'⟩ := pO_s y6'
  obtain ⟨e, rfl, y8'⟩ := kB_s y7'
  obtain ⟨n, vs, rfl, y9'⟩ := pI_s y8'
  obtain ⟨x, vs, rfl, y10'⟩ := pI_s y9'
  obtain ⟨c', vs, rfl, y11'⟩ := pO_s y10'
  obtain ⟨q, rfl, y12'⟩ := kLR_s y11'
  obtain ⟨n2, vs, rfl, y13'⟩ := pI_s y12'
  obtain ⟨j, vs, rfl, y14'⟩ := pI_s y13'
  obtain ⟨rfl, y15'⟩ := pE_s y14'
  obtain ⟨q', bl, rfl, y16'⟩ := bB_s y15'
  obtain ⟨c', q', rfl, y17'⟩ := tC_s y16'
  obtain ⟨u, rfl, y18'⟩ := kLI_s y17'
  obtain ⟨a, b, c, d, q', rfl, y19'⟩ := t4_s y18'
  obtain ⟨c', q', rfl, y20'⟩ := tC_s y19'
  obtain ⟨m, rfl, y21'⟩ := kLR_s y20'
  obtain ⟨rfl, y22'⟩ := tE_s y21'
  obtain ⟨v, bl, rfl, y23'⟩ := bAI_s y22'
  obtain ⟨rfl, y24'⟩ := bE_s y23'
  have yy' := y24'
  exact hh' _ _ _ _ _ _ _ _ _ _ _ _ _ _ _ _ rfl rfl yy'
theorem r_RoiRestores_1 : RoundOk Try.prog t_RoiRestores (annOf []) l_RoiRestores Out 20 0 144 [1, 2, 5, 7, 8, 11, 60, 61, 85, 86, 87] (kxOf [1, 2, 5, 7, 8, 11, 60, 61] [4]) (loopOf Try.f6 1) T_RoiRestores_1 := by
  intro vs bl Kc r h
  unfold T_RoiRestores_1 at h
  obtain ⟨t, y0', h'⟩ := getD_run h
  refine d_RoiRestores_1 y0' fun a b c d s w i n x n2 j e q m u v u1' u2' yy' => ?_
  subst u1' u2'
  cases yy'
  exact (b_RoiRestores_1 ..).trans h'
theorem o_RoiRestores : loopsOf (bodyOf Try.f6) = [loopOf Try.f6 0, loopOf Try.f6 1] := by kernel_rfl
theorem zz_RoiRestores_0 (a b c d s w n i : Int) (m : List (Int × Int × Int × Int)) (u v : List Int) (hk : k_RoiRestores_0 a b c d s w n i m u v = true) : ZZ (c_RoiRestores_0 a b c d s w n i m u v) T_RoiRestores_0 [.one (.int .i64 s), .one (.ptr 0 0), .one (.row 1), .one (.int .i64 w), .one (.int .i64 n), .one (.int .i64 i)] [some (.box [.lst (.int .i64) u, .int .i64 a, .int .i64 b, .int .i64 c, .int .i64 d, .lst (.pair (.int .i64) (.pair (.int .i64) (.pair (.int .i64) (.int .i64)))) m]), some (.arr 3 (.int .i64) v)] := by
  simp only [k_RoiRestores_0, Bool.and_eq_true, decide_eq_true_eq, and_assoc] at hk
  obtain ⟨rfl, rfl, rfl, rfl, he, hm⟩ := hk
  obtain ⟨hv, hs, hl, hf, hp⟩ := scErr_s he
  have vb := valid_b hv
  have av := area_v hv
  have pq := pw_30 hs
  have hb := inr_b hs
  have sg := scL_gI he
  refine Exists.elim (z_fold (T := T_RoiRestores_0) (st := fun j => ([.one (.int .i64 s), .one (.ptr 0 0), .one (.row 1), .one (.int .i64 (c - a)), .one (.int .i64 (u.length : Int)), .one (.int .i64 (j : Int))], [some (.box [.lst (.int .i64) u, .int .i64 a, .int .i64 b, .int .i64 c, .int .i64 d, .lst (.pair (.int .i64) (.pair (.int .i64) (.pair (.int .i64) (.int .i64)))) m]), some (.arr 3 (.int .i64) (scL u a b c d m s))])) u.length (.leaf (.exit 0) [] []) (fun j hj F K => ?_) (fun F K => ?_)) (fun k hk => ⟨k, fun K r h => ?_⟩)
  · have hc : 0 ≤ (j : Int) ∧ (j : Int) < (u.length : Int) := by omega
    have ac := lt_ac hv hl hj
    have d1 : decide (a < c) = true := by rw [decide_eq_true_eq]; exact ac.1
    have d2 : decide (0 ≤ (j : Int)) = true := by rw [decide_eq_true_eq]; omega
    have d3 : decide ((j : Int) < 16777217) = true := by rw [decide_eq_true_eq]; omega
    have r := rs_ok he hj
    have hg := sg.2 j hj
    simp only [tu_RoiRestores_0, U_RoiRestores_0, LT.next, LT.run, ite2_bool, decide_eq_true_eq, Int.toNat_natCast, sg.1, hg, if_pos hc, if_pos hc.2, if_pos hj, r.1, r.2.1, r.2.2.2, k_RoiRestores_1, hm, hv, d1, d2, d3, decide_true, Bool.and_self, bne_self_eq_false, Bool.false_eq_true, pq.2.1, pq.2.2.1, if_pos hb.1, if_false, if_true]
    rw [wrap_in (n := (j : Int) + 1) (by omega) (by omega)]
    by_cases s0 : s > 0
    · by_cases y0 : scP u a b c m s j = 0
      · have q1 : ¬ scP u a b c m s j ≥ pw s := by omega
        simp only [y0, if_pos s0, bne_self_eq_false, Bool.false_eq_true, if_false, ite_self]
        rfl
      · have q := r.2.2.1 s0 y0
        have y1 : (scP u a b c m s j != 0) = true := by simpa using y0
        by_cases g1 : scP u a b c m s j ≥ pw s
        · have x := q.2 (.inl g1)
          simp only [y1, x, if_pos s0, if_pos g1, if_true, Bool.not_true, show (false == true) = false from rfl, Bool.false_eq_true, if_false]
          rfl
        · by_cases g2 : scP u a b c m s j ≤ -pw s
          · have x := q.2 (.inr g2)
            have g3 : decide (scP u a b c m s j ≤ -pw s) = true := by rw [decide_eq_true_eq]; exact g2
            simp only [y1, x, g3, if_pos s0, if_neg g1, if_true, Bool.not_true, show (false == true) = false from rfl, Bool.false_eq_true, if_false]
            rfl
          · have x : mskB (mxI a c j) (myI a b c j) m = false := by
              rw [← Bool.not_eq_true]
              intro xx
              rcases q.1 xx with h | h
              · exact g1 h
              · exact g2 h
            have g3 : decide (scP u a b c m s j ≤ -pw s) = false := by rw [decide_eq_false_iff_not]; exact g2
            simp only [y1, x, g3, if_pos s0, if_neg g1, if_true, Bool.not_false, show (true == false) = false from rfl, Bool.false_eq_true, if_false]
            rfl
    · simp only [if_neg s0, ite_self]
      rfl
  · simp only [tu_RoiRestores_0, U_RoiRestores_0, LT.next, LT.run, ite2_bool, decide_eq_true_eq]
    rw [if_neg (by omega)]
  · exact hk K r h
theorem z_RoiRestores_0 : ZOk S_RoiRestores_0 T_RoiRestores_0 := by
  intro vs bl t y0'
  refine d_RoiRestores_0 y0' fun a b c d s w n i m u v u1' u2' yy' => ?_
  subst u1' u2'
  obtain ⟨hk, rfl⟩ := Prod.mk.inj (Option.some.inj yy')
  exact zz_RoiRestores_0 _ _ _ _ _ _ _ _ _ _ _ hk
theorem zz_RoiRestores_1 (a b c d s w i n x n2 j : Int) (e : Bool) (q m : List (Int × Int × Int × Int)) (u v : List Int) (hk : k_RoiRestores_1 a b c d s w i n x n2 j e q m u v = true) : ZZ (c_RoiRestores_1 a b c d s w i n x n2 j e q m u v) T_RoiRestores_1 [.one (.int .i64 s), .one (.ptr 0 0), .one (.row 1), .one (.int .i64 w), .one (.int .i64 i), .one (.bool e), .one (.int .i64 n), .one (.int .i64 x), .one (.lst (.pair (.int .i64) (.pair (.int .i64) (.pair (.int .i64) (.int .i64)))) q), .one (.int .i64 n2), .one (.int .i64 j)] [some (.box [.lst (.int .i64) u, .int .i64 a, .int .i64 b, .int .i64 c, .int .i64 d, .lst (.pair (.int .i64) (.pair (.int .i64) (.pair (.int .i64) (.int .i64)))) m]), some (.arr 3 (.int .i64) v)] := by
  simp only [k_RoiRestores_1, Bool.and_eq_true, decide_eq_true_eq, and_assoc] at hk
  obtain ⟨rfl, rfl, rfl, rfl, rfl, hm, hv, h1, h2, h3⟩ := hk
  have vb := valid_b hv
  have hmx := mx_b (i := i) vb.1 h1 vb.2.2.1 ⟨vb.2.2.2.1, by omega⟩ h2 h3
  refine Exists.elim (z_fold (T := T_RoiRestores_1) (st := fun j => ([.one (.int .i64 s), .one (.ptr 0 0), .one (.row 1), .one (.int .i64 (c - a)), .one (.int .i64 i), .one (.bool (mskB (mxI a c i) (myI a b c i) (m.take j))), .one (.int .i64 n), .one (.int .i64 x), .one (.lst (.pair (.int .i64) (.pair (.int .i64) (.pair (.int .i64) (.int .i64)))) m), .one (.int .i64 (m.length : Int)), .one (.int .i64 (j : Int))], [some (.box [.lst (.int .i64) u, .int .i64 a, .int .i64 b, .int .i64 c, .int .i64 d, .lst (.pair (.int .i64) (.pair (.int .i64) (.pair (.int .i64) (.int .i64)))) m]), some (.arr 3 (.int .i64) v)])) m.length (.leaf (.exit 2) [.one (.int .i64 s), .one (.ptr 0 0), .one (.row 1), .one (.int .i64 (c - a)), .one (.int .i64 i), .one (.bool (mskB (mxI a c i) (myI a b c i) m)), .one (.int .i64 n), .one (.int .i64 x)] [some (.box [.lst (.int .i64) u, .int .i64 a, .int .i64 b, .int .i64 c, .int .i64 d, .lst (.pair (.int .i64) (.pair (.int .i64) (.pair (.int .i64) (.int .i64)))) m]), some (.arr 3 (.int .i64) v)]) (fun j hj F K => ?_) (fun F K => ?_)) (fun k hk => ⟨k, fun K r h => ?_⟩)
  · have hc : 0 ≤ (j : Int) ∧ (j : Int) < (m.length : Int) := by omega
    have t0 : (!decide (c - a = 0)) = true := by simp; omega
    have hst := mskB_s (mxI a c i) (myI a b c i) m hj
    simp only [tu_RoiRestores_1, U_RoiRestores_1, LT.next, LT.run, ite2_bool, decide_eq_true_eq, Int.toNat_natCast, if_pos hc, if_pos hc.2, t0, hmx.2.1, hmx.2.2, if_true]
    rw [wrap_next hj hm, hst]
    rcases Bool.eq_false_or_eq_true (mskB (mxI a c i) (myI a b c i) (m.take j)) with x | x
    · rw [x, if_pos rfl, Bool.true_or]
    · rw [x, if_neg (by decide), Bool.false_or]
  · simp only [tu_RoiRestores_1, U_RoiRestores_1, LT.next, LT.run, ite2_bool, decide_eq_true_eq]
    rw [if_neg (by omega), mskB_n]
  · have h' := hk K r h
    rw [mskB_0] at h'
    exact h'
theorem z_RoiRestores_1 : ZOk S_RoiRestores_1 T_RoiRestores_1 := by
  intro vs bl t y0'
  refine d_RoiRestores_1 y0' fun a b c d s w i n x n2 j e q m u v u1' u2' yy' => ?_
  subst u1' u2'
  obtain ⟨hk, rfl⟩ := Prod.mk.inj (Option.some.inj yy')
  exact zz_RoiRestores_1 _ _ _ _ _ _ _ _ _ _ _ _ _ _ _ _ hk
theorem q_RoiRestores (u : List Int) (a b c d : Int) (m : List (Int × Int × Int × Int)) (s : Int) (hok : ok_RoiRestores u a b c d m s = true) : funR Try.prog t_RoiRestores (annOf []) l_RoiRestores 20 Try.f6 [.agg [.lst (.int .i64) u, .int .i64 a, .int .i64 b, .int .i64 c, .int .i64 d, .lst (.pair (.int .i64) (.pair (.int .i64) (.pair (.int .i64) (.int .i64)))) m], .one (.int .i64 s)] [] = some ⟨.one (.bool true), [], []⟩ := by
    refine (e_RoiRestores ..).trans ?_
    simp only [ite2_bool, decide_eq_true_eq]
    rcases Bool.eq_false_or_eq_true (largeB u m) with hl | hl
    · simp only [hl, if_true]
    have hs := large_s hl
    have s1 := small_d (show u.length ≤ 16777216 by omega)
    have s2 := small_d (show m.length ≤ 16777216 by omega)
    by_cases he : scErr u a b c d m s = 0
    rotate_left
    · have h0 : scL u a b c d m s = [] := by unfold scL; rw [if_neg he]
      simp [hl, s1, s2, he, h0]
    have sg := scL_gI he
    obtain ⟨hv, hs', hlen, hf, hp⟩ := scErr_s he
    have vb := valid_b hv
    have wc : IntKind.wrap .i64 (c - a) = c - a := wrap_in (by omega) (by omega)
    simp only [hl, s1, s2, he, sg.1, wc, k_RoiRestores_0, Bool.and_self, decide_true, bne_self_eq_false, Bool.false_eq_true, if_false, if_true]
    by_cases h0 : (u.length : Int) > 0
    · have ac := lt_ac hv hlen (show 0 < u.length by omega)
      rw [if_pos h0, if_neg (by omega)]
    · rw [if_neg h0]
theorem s_RoiRestores : SoundFun Try.prog 6 G_RoiRestores := by
  refine fun_ok (tab := t_RoiRestores) (ann := annOf []) (lt := l_RoiRestores) (tab_cons s_awake (tab_cons s_law_large (tab_cons s_roi_Scale (tab_cons s_quant_Unscale (tab_cons s_rect_Has tab_nil))))) (by kernel_rfl) (fn := Try.f6) (by kernel_rfl) (by decide) (c := bodyOf Try.f6) (by kernel_rfl) (by
    intro m b hb
    have hb' : b ∈ loopsOf (bodyOf Try.f6) := hb
    rw [o_RoiRestores] at hb'
    simp only [List.mem_cons, List.not_mem_nil, or_false] at hb'
    rcases hb' with rfl | rfl
    · exact loop_ok (key := 10) (by kernel_rfl) rfl r_RoiRestores_0 z_RoiRestores_0 m
    · exact loop_ok (key := 17) (by kernel_rfl) rfl r_RoiRestores_1 z_RoiRestores_1 m
    ) ?_ (keep_nil (by kernel_rfl))
  intro args lent o y0'
  unfold G_RoiRestores at y0'
  obtain ⟨q', args, rfl, y1'⟩ := pA_s y0'
  obtain ⟨c', q', rfl, y2'⟩ := tC_s y1'
  obtain ⟨u, rfl, y3'⟩ := kLI_s y2'
  obtain ⟨a, b, c, d, q', rfl, y4'⟩ := t4_s y3'
  obtain ⟨c', q', rfl, y5'⟩ := tC_s y4'
  obtain ⟨m, rfl, y6'⟩ := kLR_s y5'
  obtain ⟨rfl, y7'⟩ := tE_s y6'
  obtain ⟨s, args, rfl, y8'⟩ := pI_s y7'
  obtain ⟨rfl, y9'⟩ := pE_s y8'
  obtain ⟨rfl, y10'⟩ := nE_s y9'
  have yy' := y10'
  unfold H_RoiRestores at yy'
  obtain ⟨hok, rfl⟩ := Prod.mk.inj (Option.some.inj yy')
  exact ⟨20, q_RoiRestores _ _ _ _ _ _ _ hok⟩
end Go.Rx.Ch30
