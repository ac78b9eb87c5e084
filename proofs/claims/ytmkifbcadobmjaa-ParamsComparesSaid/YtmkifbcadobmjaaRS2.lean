/- The summaries of these functions are sound. -/
import Derived.Test.YtmkifbcadobmjaaRE2
import Derived.Test.YtmkifbcadobmjaaRS1
set_option linter.unnecessarySimpa false
set_option linter.unusedVariables false
set_option linter.unusedSimpArgs false
set_option linter.unusedVariables false
set_option linter.unusedSimpArgs false
set_option maxRecDepth 100000
set_option maxHeartbeats 4000000
open Go Go.Rx Go.Proofs
namespace Go.Rx.Ch23
theorem r_ref23_SameParams_0 : RoundOk Try.prog t_ref23_SameParams (annOf []) l_ref23_SameParams Out 20 0 150 [2, 3, 5] (kxOf [2, 3] [4]) (loopOf Try.f31 0) T_ref23_SameParams_0 := by
  intro vs bl Kc r h
  unfold T_ref23_SameParams_0 at h
  obtain ⟨t, y0', h'⟩ := getD_run h
  obtain ⟨c', vs, rfl, y1'⟩ := pO_s y0'
  obtain ⟨rfl, y2'⟩ := kP_s y1'
  obtain ⟨c', vs, rfl, y3'⟩ := pO_s y2'
  obtain ⟨rfl, y4'⟩ := kP_s y3'
  obtain ⟨c', vs, rfl, y5'⟩ := pO_s y4'
  obtain ⟨i, rfl, y6'⟩ := kI_s y5'
  obtain ⟨rfl, y7'⟩ := pE_s y6'
  obtain ⟨q', bl, rfl, y8'⟩ := bB_s y7'
  obtain ⟨p1, rfl, y9'⟩ := rdPm_s y8'
  obtain ⟨q', bl, rfl, y10'⟩ := bB_s y9'
  obtain ⟨p2, rfl, y11'⟩ := rdPm_s y10'
  obtain ⟨rfl, y12'⟩ := bE_s y11'
  have yy' := y12'
  cases yy'
  exact (b_ref23_SameParams_0 ..).trans ((congrArg (LT.runc · Kc) (tu_ref23_SameParams_0 ..)).trans h')
theorem r_ref23_SameParams_1 : RoundOk Try.prog t_ref23_SameParams (annOf []) l_ref23_SameParams Out 20 0 150 [2, 3, 6] (kxOf [] [4]) (loopOf Try.f31 1) T_ref23_SameParams_1 := by
  intro vs bl Kc r h
  unfold T_ref23_SameParams_1 at h
  obtain ⟨t, y0', h'⟩ := getD_run h
  obtain ⟨c', vs, rfl, y1'⟩ := pO_s y0'
  obtain ⟨rfl, y2'⟩ := kP_s y1'
  obtain ⟨c', vs, rfl, y3'⟩ := pO_s y2'
  obtain ⟨rfl, y4'⟩ := kP_s y3'
  obtain ⟨c', vs, rfl, y5'⟩ := pO_s y4'
  obtain ⟨i, rfl, y6'⟩ := kI_s y5'
  obtain ⟨rfl, y7'⟩ := pE_s y6'
  obtain ⟨q', bl, rfl, y8'⟩ := bB_s y7'
  obtain ⟨p1, rfl, y9'⟩ := rdPm_s y8'
  obtain ⟨q', bl, rfl, y10'⟩ := bB_s y9'
  obtain ⟨p2, rfl, y11'⟩ := rdPm_s y10'
  obtain ⟨rfl, y12'⟩ := bE_s y11'
  have yy' := y12'
  cases yy'
  exact (b_ref23_SameParams_1 ..).trans ((congrArg (LT.runc · Kc) (tu_ref23_SameParams_1 ..)).trans h')
theorem o_ref23_SameParams : loopsOf (bodyOf Try.f31) = [loopOf Try.f31 0, loopOf Try.f31 1] := by kernel_rfl
theorem zz_ref23_SameParams_0 (p1 p2 : Pm) (hsm : small (p1.pr.length) = true) (hc : decide (p1.pr.length = p2.pr.length) = true) : ∃ k, ∀ (K : Ex → List V → List (Option Blk) → Option Out) r, (c_ref23_SameParams_0 p1 p2).run K = some r → (iter T_ref23_SameParams_0 k [.one (.ptr 0 0), .one (.ptr 1 0), .one (.int .i64 0)] [some (.box (pmC p1)), some (.box (pmC p2))]).run K = some r := by
  refine z_idx (st := fun i => ([.one (.ptr 0 0), .one (.ptr 1 0), .one (.int .i64 ((i : Nat) : Int))], [some (.box (pmC p1)), some (.box (pmC p2))])) (p1.pr.length) (fun j => gP p1.pr j == gP p2.pr j) _ _ (fun i hi F K => ?_) (fun F K => ?_)
  · have hi' : (i : Int) < (p1.pr.length : Int) := by omega
    have hc' := hc
    simp only [Bool.and_eq_true, decide_eq_true_eq] at hc'
    simp only [tu_ref23_SameParams_0, U_ref23_SameParams_0, LT.next, LT.run, ite2_dec, ite2_bool, wrap_next hi hsm, Int.toNat_natCast, hi', Int.natCast_nonneg, and_self, if_true, gI, gP, gC, gR]
    have hj : (i : Int) < (p2.pr.length : Int) := by omega
    simp [hj, Prod.ext_iff, hdC, pmC] <;> (repeat' split) <;> simp_all [hdC, pmC]
  · simp only [tu_ref23_SameParams_0, U_ref23_SameParams_0, LT.next, LT.run, ite2_dec, Int.lt_irrefl, if_false]
    try rfl
theorem z_ref23_SameParams_0 : ∀ vs bl t, S_ref23_SameParams_0 vs bl = some (true, t) → ∃ n, ∀ (K : Ex → List V → List (Option Blk) → Option Out) r, t.run K = some r → (iter T_ref23_SameParams_0 n vs bl).run K = some r := by
  intro vs bl t y0'
  unfold S_ref23_SameParams_0 at y0'
  obtain ⟨c', vs, rfl, y1'⟩ := pO_s y0'
  obtain ⟨rfl, y2'⟩ := kP_s y1'
  obtain ⟨c', vs, rfl, y3'⟩ := pO_s y2'
  obtain ⟨rfl, y4'⟩ := kP_s y3'
  obtain ⟨c', vs, rfl, y5'⟩ := pO_s y4'
  obtain ⟨i, rfl, y6'⟩ := kI_s y5'
  obtain ⟨rfl, y7'⟩ := pE_s y6'
  obtain ⟨q', bl, rfl, y8'⟩ := bB_s y7'
  obtain ⟨p1, rfl, y9'⟩ := rdPm_s y8'
  obtain ⟨q', bl, rfl, y10'⟩ := bB_s y9'
  obtain ⟨p2, rfl, y11'⟩ := rdPm_s y10'
  obtain ⟨rfl, y12'⟩ := bE_s y11'
  have yy' := y12'
  obtain ⟨hk, rfl⟩ := Prod.mk.inj (Option.some.inj yy')
  unfold k_ref23_SameParams_0 at hk
  simp only [Bool.and_eq_true, decide_eq_true_eq, and_assoc] at hk
  obtain ⟨rfl, hsm, hc⟩ := hk
  exact zz_ref23_SameParams_0 _ _ hsm (by first | exact hc | simpa using hc)
theorem zz_ref23_SameParams_1 (p1 p2 : Pm) (hsm : small (p1.st.length) = true) (hc : decide (p1.st.length = p2.st.length) = true) : ∃ k, ∀ (K : Ex → List V → List (Option Blk) → Option Out) r, (c_ref23_SameParams_1 p1 p2).run K = some r → (iter T_ref23_SameParams_1 k [.one (.ptr 0 0), .one (.ptr 1 0), .one (.int .i64 0)] [some (.box (pmC p1)), some (.box (pmC p2))]).run K = some r := by
  refine z_idx (st := fun i => ([.one (.ptr 0 0), .one (.ptr 1 0), .one (.int .i64 ((i : Nat) : Int))], [some (.box (pmC p1)), some (.box (pmC p2))])) (p1.st.length) (fun j => gI p1.st j == gI p2.st j) _ _ (fun i hi F K => ?_) (fun F K => ?_)
  · have hi' : (i : Int) < (p1.st.length : Int) := by omega
    have hc' := hc
    simp only [Bool.and_eq_true, decide_eq_true_eq] at hc'
    simp only [tu_ref23_SameParams_1, U_ref23_SameParams_1, LT.next, LT.run, ite2_dec, ite2_bool, wrap_next hi hsm, Int.toNat_natCast, hi', Int.natCast_nonneg, and_self, if_true, gI, gP, gC, gR]
    have hj : (i : Int) < (p2.st.length : Int) := by omega
    simp [hj, Prod.ext_iff, hdC, pmC] <;> (repeat' split) <;> simp_all [hdC, pmC]
  · simp only [tu_ref23_SameParams_1, U_ref23_SameParams_1, LT.next, LT.run, ite2_dec, Int.lt_irrefl, if_false]
    try rfl
theorem z_ref23_SameParams_1 : ∀ vs bl t, S_ref23_SameParams_1 vs bl = some (true, t) → ∃ n, ∀ (K : Ex → List V → List (Option Blk) → Option Out) r, t.run K = some r → (iter T_ref23_SameParams_1 n vs bl).run K = some r := by
  intro vs bl t y0'
  unfold S_ref23_SameParams_1 at y0'
  obtain ⟨c', vs, rfl, y1'⟩ := pO_s y0'
  obtain ⟨rfl, y2'⟩ := kP_s y1'
  obtain ⟨c', vs, rfl, y3'⟩ := pO_s y2'
  obtain ⟨rfl, y4'⟩ := kP_s y3'
  obtain ⟨c', vs, rfl, y5'⟩ := pO_s y4'
  obtain ⟨i, rfl, y6'⟩ := kI_s y5'
  obtain ⟨rfl, y7'⟩ := pE_s y6'
  obtain ⟨q', bl, rfl, y8'⟩ := bB_s y7'
  obtain ⟨p1, rfl, y9'⟩ := rdPm_s y8'
  obtain ⟨q', bl, rfl, y10'⟩ := bB_s y9'
  obtain ⟨p2, rfl, y11'⟩ := rdPm_s y10'
  obtain ⟨rfl, y12'⟩ := bE_s y11'
  have yy' := y12'
  obtain ⟨hk, rfl⟩ := Prod.mk.inj (Option.some.inj yy')
  unfold k_ref23_SameParams_1 at hk
  simp only [Bool.and_eq_true, decide_eq_true_eq, and_assoc] at hk
  obtain ⟨rfl, hsm, hc⟩ := hk
  exact zz_ref23_SameParams_1 _ _ hsm (by first | exact hc | simpa using hc)
theorem q_ref23_SameParams (p1 p2 : Pm) (hok : (small p1.pr.length && small p1.st.length) = true) : funR Try.prog t_ref23_SameParams (annOf []) l_ref23_SameParams 20 Try.f31 [.agg (pmC p1), .agg (pmC p2)] [] = some ⟨.one (.bool (sameP p1 p2)), [], []⟩ := by
    refine (e_ref23_SameParams ..).trans ?_
    simp only [ite2_bool, k_ref23_SameParams_0, p_ref23_SameParams_0, k_ref23_SameParams_1, p_ref23_SameParams_1, gP, gI, sameP]
    simp only [Bool.and_eq_true] at hok
    by_cases ha : p1.pr.length = p2.pr.length
    · by_cases hl : p1.st.length = p2.st.length
      · rw [all_eq p1.pr p2.pr _ ha, all_eq p1.st p2.st _ hl]
        rw [ha, hl] at hok
        simp [hl, ha, hok]
        grind
      · have g1 : p1.st ≠ p2.st := fun e => hl (by rw [e])
        have g2 : ¬ ((p1.st.length : Int) = p2.st.length) := by omega
        simp [g1, g2]
    · have g1 : p1.pr ≠ p2.pr := fun e => ha (by rw [e])
      have g2 : ¬ ((p1.pr.length : Int) = p2.pr.length) := by omega
      simp [g1, g2]
theorem s_ref23_SameParams : SoundFun Try.prog 31 G_ref23_SameParams := by
  refine fun_ok (tab := t_ref23_SameParams) (ann := annOf []) (lt := l_ref23_SameParams) tab_nil (by kernel_rfl) (fn := Try.f31) (by kernel_rfl) (by decide) (c := bodyOf Try.f31) (by kernel_rfl) (by
    intro m b hb
    have hb' : b ∈ loopsOf (bodyOf Try.f31) := hb
    rw [o_ref23_SameParams] at hb'
    simp only [List.mem_cons, List.not_mem_nil, or_false] at hb'
    rcases hb' with rfl | rfl
    · exact loop_ok (key := 4) (by kernel_rfl) rfl r_ref23_SameParams_0 z_ref23_SameParams_0 m
    · exact loop_ok (key := 9) (by kernel_rfl) rfl r_ref23_SameParams_1 z_ref23_SameParams_1 m
    ) ?_
  intro args lent o y0'
  unfold G_ref23_SameParams at y0'
  obtain ⟨q', args, rfl, y1'⟩ := pA_s y0'
  obtain ⟨p1, rfl, y2'⟩ := rdPm_s y1'
  obtain ⟨q', args, rfl, y3'⟩ := pA_s y2'
  obtain ⟨p2, rfl, y4'⟩ := rdPm_s y3'
  obtain ⟨rfl, y5'⟩ := pE_s y4'
  obtain ⟨rfl, y6'⟩ := nE_s y5'
  have yy' := y6'
  unfold H_ref23_SameParams at yy'
  obtain ⟨hok, rfl⟩ := Prod.mk.inj (Option.some.inj yy')
  exact ⟨20, q_ref23_SameParams _ _ hok⟩
theorem q_ref23_Same (h1 h2 : Hd) (p1 p2 : Pm) (hok : (small h1.cs.length && (small p1.pr.length && small p1.st.length)) = true) : funR Try.prog t_ref23_Same (annOf []) l_ref23_Same 20 Try.f29 [.agg (hdC h1), .agg (hdC h2), .agg (pmC p1), .agg (pmC p2)] [] = some ⟨.tup [(false, [.bool (sameH h1 h2)]), (false, [.bool (sameP p1 p2)])], [], []⟩ := by
    refine (e_ref23_Same ..).trans ?_
    simp only [Bool.and_eq_true] at hok
    simp [ite2_bool, hok]
theorem s_ref23_Same : SoundFun Try.prog 29 G_ref23_Same := by
  refine fun_ok (tab := t_ref23_Same) (ann := annOf []) (lt := l_ref23_Same) (tab_cons s_ref23_SameHeader (tab_cons s_ref23_SameParams tab_nil)) (by kernel_rfl) (fn := Try.f29) (by kernel_rfl) (by decide) (c := bodyOf Try.f29) (by kernel_rfl) (fun m b hb => absurd hb (by show b ∉ loopsOf (bodyOf Try.f29); rw [show loopsOf (bodyOf Try.f29) = [] from by kernel_rfl]; exact List.not_mem_nil)) ?_
  intro args lent o y0'
  unfold G_ref23_Same at y0'
  obtain ⟨q', args, rfl, y1'⟩ := pA_s y0'
  obtain ⟨h1, rfl, y2'⟩ := rdHd_s y1'
  obtain ⟨q', args, rfl, y3'⟩ := pA_s y2'
  obtain ⟨h2, rfl, y4'⟩ := rdHd_s y3'
  obtain ⟨q', args, rfl, y5'⟩ := pA_s y4'
  obtain ⟨p1, rfl, y6'⟩ := rdPm_s y5'
  obtain ⟨q', args, rfl, y7'⟩ := pA_s y6'
  obtain ⟨p2, rfl, y8'⟩ := rdPm_s y7'
  obtain ⟨rfl, y9'⟩ := pE_s y8'
  obtain ⟨rfl, y10'⟩ := nE_s y9'
  have yy' := y10'
  unfold H_ref23_Same at yy'
  obtain ⟨hok, rfl⟩ := Prod.mk.inj (Option.some.inj yy')
  exact ⟨20, q_ref23_Same _ _ _ _ hok⟩
theorem q_params_Same (h1 h2 : Hd) (p1 p2 : Pm) (hok : (small h1.cs.length && (small p1.pr.length && small p1.st.length)) = true) : funR Try.prog t_params_Same (annOf []) l_params_Same 20 Try.f28 [.agg (hdC h1), .agg (hdC h2), .agg (pmC p1), .agg (pmC p2)] [] = some ⟨.tup [(false, [.bool (sameH h1 h2)]), (false, [.bool (sameP p1 p2)])], [], []⟩ := by
    refine (e_params_Same ..).trans ?_
    simp only [Bool.and_eq_true] at hok
    simp only [ite2_bool, sameH, sameP]
    grind
theorem s_params_Same : SoundFun Try.prog 28 G_params_Same := by
  refine fun_ok (tab := t_params_Same) (ann := annOf []) (lt := l_params_Same) (tab_cons s_eqC (tab_cons s_eqP (tab_cons s_eqI tab_nil))) (by kernel_rfl) (fn := Try.f28) (by kernel_rfl) (by decide) (c := bodyOf Try.f28) (by kernel_rfl) (fun m b hb => absurd hb (by show b ∉ loopsOf (bodyOf Try.f28); rw [show loopsOf (bodyOf Try.f28) = [] from by kernel_rfl]; exact List.not_mem_nil)) ?_
  intro args lent o y0'
  unfold G_params_Same at y0'
  obtain ⟨q', args, rfl, y1'⟩ := pA_s y0'
  obtain ⟨h1, rfl, y2'⟩ := rdHd_s y1'
  obtain ⟨q', args, rfl, y3'⟩ := pA_s y2'
  obtain ⟨h2, rfl, y4'⟩ := rdHd_s y3'
  obtain ⟨q', args, rfl, y5'⟩ := pA_s y4'
  obtain ⟨p1, rfl, y6'⟩ := rdPm_s y5'
  obtain ⟨q', args, rfl, y7'⟩ := pA_s y6'
  obtain ⟨p2, rfl, y8'⟩ := rdPm_s y7'
  obtain ⟨rfl, y9'⟩ := pE_s y8'
  obtain ⟨rfl, y10'⟩ := nE_s y9'
  have yy' := y10'
  unfold H_params_Same at yy'
  obtain ⟨hok, rfl⟩ := Prod.mk.inj (Option.some.inj yy')
  exact ⟨20, q_params_Same _ _ _ _ hok⟩
end Go.Rx.Ch23
