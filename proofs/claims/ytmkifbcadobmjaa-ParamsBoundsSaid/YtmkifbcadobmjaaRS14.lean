/- The summaries of these functions are sound. -/
import Derived.Test.YtmkifbcadobmjaaRE14
import Derived.Test.YtmkifbcadobmjaaRS13
set_option linter.unnecessarySimpa false
set_option linter.unusedVariables false
set_option linter.unusedSimpArgs false
set_option linter.unusedVariables false
set_option linter.unusedSimpArgs false
set_option maxRecDepth 100000
set_option maxHeartbeats 4000000
open Go Go.Rx Go.Proofs
namespace Go.Rx.Ch23
theorem r_ParamsClones_0 : RoundOk Try.prog t_ParamsClones (annOf []) l_ParamsClones Out 20 0 114 [2, 3, 5, 6, 9, 10, 59, 60] (kxOf [2, 3, 6, 9, 10] [4]) (loopOf Try.f9 0) T_ParamsClones_0 := by
  intro vs bl Kc r h
  unfold T_ParamsClones_0 at h
  obtain ⟨t, y0', h'⟩ := getD_run h
  obtain ⟨c', vs, rfl, y1'⟩ := pO_s y0'
  obtain ⟨rfl, y2'⟩ := kP_s y1'
  obtain ⟨c', vs, rfl, y3'⟩ := pO_s y2'
  obtain ⟨rfl, y4'⟩ := kP_s y3'
  obtain ⟨c', vs, rfl, y5'⟩ := pO_s y4'
  obtain ⟨rfl, y6'⟩ := kP_s y5'
  obtain ⟨c', vs, rfl, y7'⟩ := pO_s y6'
  obtain ⟨rfl, y8'⟩ := kP_s y7'
  obtain ⟨c', vs, rfl, y9'⟩ := pO_s y8'
  obtain ⟨rfl, y10'⟩ := kP_s y9'
  obtain ⟨c', vs, rfl, y11'⟩ := pO_s y10'
  obtain ⟨rfl, y12'⟩ := kP_s y11'
  obtain ⟨c', vs, rfl, y13'⟩ := pO_s y12'
  obtain ⟨n, rfl, y14'⟩ := kI_s y13'
  obtain ⟨c', vs, rfl, y15'⟩ := pO_s y14'
  obtain ⟨i, rfl, y16'⟩ := kI_s y15'
  obtain ⟨rfl, y17'⟩ := pE_s y16'
  obtain ⟨q', bl, rfl, y18'⟩ := bB_s y17'
  obtain ⟨h, rfl, y19'⟩ := rdHd_s y18'
  obtain ⟨q', bl, rfl, y20'⟩ := bB_s y19'
  obtain ⟨p, rfl, y21'⟩ := rdPm_s y20'
  obtain ⟨q', bl, rfl, y22'⟩ := bB_s y21'
  obtain ⟨a1, a2, a3, a4, a5, a6, rfl, y23'⟩ := rdHR_s y22'
  obtain ⟨q', bl, rfl, y24'⟩ := bB_s y23'
  obtain ⟨b1, b2, b3, b4, b5, b6, b7, c1, c2, c3, c4, c5, c6, c7, c8, b8, b9, rfl, y25'⟩ := rdPR_s y24'
  obtain ⟨q', bl, rfl, y26'⟩ := bB_s y25'
  obtain ⟨d1, d2, d3, d4, d5, d6, rfl, y27'⟩ := rdHR_s y26'
  obtain ⟨q', bl, rfl, y28'⟩ := bB_s y27'
  obtain ⟨e1, e2, e3, e4, e5, e6, e7, f1, f2, f3, f4, f5, f6, f7, f8, e8, e9, rfl, y29'⟩ := rdPR_s y28'
  obtain ⟨l, bl, rfl, y30'⟩ := bAC_s y29'
  obtain ⟨t, bl, rfl, y31'⟩ := bAP_s y30'
  obtain ⟨u, bl, rfl, y32'⟩ := bAI_s y31'
  obtain ⟨l2, bl, rfl, y33'⟩ := bAC_s y32'
  obtain ⟨t2, bl, rfl, y34'⟩ := bAP_s y33'
  obtain ⟨u2, bl, rfl, y35'⟩ := bAI_s y34'
  obtain ⟨rfl, y36'⟩ := bE_s y35'
  have yy' := y36'
  cases yy'
  exact (b_ParamsClones_0 ..).trans ((congrArg (LT.runc · Kc) (tu_ParamsClones_0 ..)).trans h')
theorem r_ParamsClones_1 : RoundOk Try.prog t_ParamsClones (annOf []) l_ParamsClones Out 20 0 114 [2, 3, 6, 9, 10, 75, 76] (kxOf [2, 3, 6, 9, 10] [4]) (loopOf Try.f9 1) T_ParamsClones_1 := by
  intro vs bl Kc r h
  unfold T_ParamsClones_1 at h
  obtain ⟨t, y0', h'⟩ := getD_run h
  obtain ⟨c', vs, rfl, y1'⟩ := pO_s y0'
  obtain ⟨rfl, y2'⟩ := kP_s y1'
  obtain ⟨c', vs, rfl, y3'⟩ := pO_s y2'
  obtain ⟨rfl, y4'⟩ := kP_s y3'
  obtain ⟨c', vs, rfl, y5'⟩ := pO_s y4'
  obtain ⟨rfl, y6'⟩ := kP_s y5'
  obtain ⟨c', vs, rfl, y7'⟩ := pO_s y6'
  obtain ⟨rfl, y8'⟩ := kP_s y7'
  obtain ⟨c', vs, rfl, y9'⟩ := pO_s y8'
  obtain ⟨rfl, y10'⟩ := kP_s y9'
  obtain ⟨c', vs, rfl, y11'⟩ := pO_s y10'
  obtain ⟨n, rfl, y12'⟩ := kI_s y11'
  obtain ⟨c', vs, rfl, y13'⟩ := pO_s y12'
  obtain ⟨i, rfl, y14'⟩ := kI_s y13'
  obtain ⟨rfl, y15'⟩ := pE_s y14'
  obtain ⟨q', bl, rfl, y16'⟩ := bB_s y15'
  obtain ⟨h, rfl, y17'⟩ := rdHd_s y16'
  obtain ⟨q', bl, rfl, y18'⟩ := bB_s y17'
  obtain ⟨p, rfl, y19'⟩ := rdPm_s y18'
  obtain ⟨q', bl, rfl, y20'⟩ := bB_s y19'
  obtain ⟨b1, b2, b3, b4, b5, b6, b7, c1, c2, c3, c4, c5, c6, c7, c8, b8, b9, rfl, y21'⟩ := rdPR_s y20'
  obtain ⟨q', bl, rfl, y22'⟩ := bB_s y21'
  obtain ⟨d1, d2, d3, d4, d5, d6, rfl, y23'⟩ := rdHR_s y22'
  obtain ⟨q', bl, rfl, y24'⟩ := bB_s y23'
  obtain ⟨e1, e2, e3, e4, e5, e6, e7, f1, f2, f3, f4, f5, f6, f7, f8, e8, e9, rfl, y25'⟩ := rdPR_s y24'
  obtain ⟨t, bl, rfl, y26'⟩ := bAP_s y25'
  obtain ⟨u, bl, rfl, y27'⟩ := bAI_s y26'
  obtain ⟨l2, bl, rfl, y28'⟩ := bAC_s y27'
  obtain ⟨t2, bl, rfl, y29'⟩ := bAP_s y28'
  obtain ⟨u2, bl, rfl, y30'⟩ := bAI_s y29'
  obtain ⟨rfl, y31'⟩ := bE_s y30'
  have yy' := y31'
  cases yy'
  exact (b_ParamsClones_1 ..).trans ((congrArg (LT.runc · Kc) (tu_ParamsClones_1 ..)).trans h')
theorem r_ParamsClones_2 : RoundOk Try.prog t_ParamsClones (annOf []) l_ParamsClones Out 20 0 114 [2, 3, 6, 9, 10, 89, 90] (kxOf [2, 3, 9, 10] [4]) (loopOf Try.f9 2) T_ParamsClones_2 := by
  intro vs bl Kc r h
  unfold T_ParamsClones_2 at h
  obtain ⟨t, y0', h'⟩ := getD_run h
  obtain ⟨c', vs, rfl, y1'⟩ := pO_s y0'
  obtain ⟨rfl, y2'⟩ := kP_s y1'
  obtain ⟨c', vs, rfl, y3'⟩ := pO_s y2'
  obtain ⟨rfl, y4'⟩ := kP_s y3'
  obtain ⟨c', vs, rfl, y5'⟩ := pO_s y4'
  obtain ⟨rfl, y6'⟩ := kP_s y5'
  obtain ⟨c', vs, rfl, y7'⟩ := pO_s y6'
  obtain ⟨rfl, y8'⟩ := kP_s y7'
  obtain ⟨c', vs, rfl, y9'⟩ := pO_s y8'
  obtain ⟨rfl, y10'⟩ := kP_s y9'
  obtain ⟨c', vs, rfl, y11'⟩ := pO_s y10'
  obtain ⟨n, rfl, y12'⟩ := kI_s y11'
  obtain ⟨c', vs, rfl, y13'⟩ := pO_s y12'
  obtain ⟨i, rfl, y14'⟩ := kI_s y13'
  obtain ⟨rfl, y15'⟩ := pE_s y14'
  obtain ⟨q', bl, rfl, y16'⟩ := bB_s y15'
  obtain ⟨h, rfl, y17'⟩ := rdHd_s y16'
  obtain ⟨q', bl, rfl, y18'⟩ := bB_s y17'
  obtain ⟨p, rfl, y19'⟩ := rdPm_s y18'
  obtain ⟨q', bl, rfl, y20'⟩ := bB_s y19'
  obtain ⟨b1, b2, b3, b4, b5, b6, b7, c1, c2, c3, c4, c5, c6, c7, c8, b8, b9, rfl, y21'⟩ := rdPR_s y20'
  obtain ⟨q', bl, rfl, y22'⟩ := bB_s y21'
  obtain ⟨d1, d2, d3, d4, d5, d6, rfl, y23'⟩ := rdHR_s y22'
  obtain ⟨q', bl, rfl, y24'⟩ := bB_s y23'
  obtain ⟨e1, e2, e3, e4, e5, e6, e7, f1, f2, f3, f4, f5, f6, f7, f8, e8, e9, rfl, y25'⟩ := rdPR_s y24'
  obtain ⟨t, bl, rfl, y26'⟩ := bAP_s y25'
  obtain ⟨u, bl, rfl, y27'⟩ := bAI_s y26'
  obtain ⟨l2, bl, rfl, y28'⟩ := bAC_s y27'
  obtain ⟨t2, bl, rfl, y29'⟩ := bAP_s y28'
  obtain ⟨u2, bl, rfl, y30'⟩ := bAI_s y29'
  obtain ⟨rfl, y31'⟩ := bE_s y30'
  have yy' := y31'
  cases yy'
  exact (b_ParamsClones_2 ..).trans ((congrArg (LT.runc · Kc) (tu_ParamsClones_2 ..)).trans h')
theorem o_ParamsClones : loopsOf (bodyOf Try.f9) = [loopOf Try.f9 0, loopOf Try.f9 1, loopOf Try.f9 2] := by kernel_rfl
theorem zz_ParamsClones_0 (h : Hd) (p : Pm) (l : List (Int × Bool × Int × Int)) (t : List (Int × Int)) (u : List Int) (l2 : List (Int × Bool × Int × Int)) (t2 : List (Int × Int)) (u2 : List Int) (a1 a2 a3 a4 a5 a6 b1 b2 b3 b4 b5 b6 b7 b8 b9 d1 d2 d3 d4 d5 d6 e1 e2 e3 e4 e5 e6 e7 e8 e9 : Int) (c1 c2 c3 c4 c5 c6 c7 c8 f1 f2 f3 f4 f5 f6 f7 f8 : Bool) (n i : Int) (hk : k_ParamsClones_0 h p l t u l2 t2 u2 a1 a2 a3 a4 a5 a6 b1 b2 b3 b4 b5 b6 b7 b8 b9 d1 d2 d3 d4 d5 d6 e1 e2 e3 e4 e5 e6 e7 e8 e9 c1 c2 c3 c4 c5 c6 c7 c8 f1 f2 f3 f4 f5 f6 f7 f8 n i = true) : ∃ k, ∀ (K : Ex → List V → List (Option Blk) → Option Out) r, (c_ParamsClones_0 h p l t u l2 t2 u2 a1 a2 a3 a4 a5 a6 b1 b2 b3 b4 b5 b6 b7 b8 b9 d1 d2 d3 d4 d5 d6 e1 e2 e3 e4 e5 e6 e7 e8 e9 c1 c2 c3 c4 c5 c6 c7 c8 f1 f2 f3 f4 f5 f6 f7 f8 n i).run K = some r → (iter T_ParamsClones_0 k [.one (.ptr 0 0), .one (.ptr 1 0), .one (.ptr 2 0), .one (.ptr 3 0), .one (.ptr 4 0), .one (.ptr 5 0), .one (.int .i64 n), .one (.int .i64 i)] [some (.box (hdC h)), some (.box (pmC p)), some (.box [.int .i64 a1, .int .i64 a2, .int .i64 a3, .int .i64 a4, .int .i64 a5, .int .i64 a6, .row 6]), some (.box [.int .i64 b1, .int .i64 b2, .int .i64 b3, .int .i64 b4, .int .i64 b5, .row 7, .int .i64 b6, .int .i64 b7, .bool c1, .bool c2, .bool c3, .bool c4, .bool c5, .bool c6, .bool c7, .bool c8, .row 8, .int .i64 b8, .int .i64 b9]), some (.box [.int .i64 d1, .int .i64 d2, .int .i64 d3, .int .i64 d4, .int .i64 d5, .int .i64 d6, .row 9]), some (.box [.int .i64 e1, .int .i64 e2, .int .i64 e3, .int .i64 e4, .int .i64 e5, .row 10, .int .i64 e6, .int .i64 e7, .bool f1, .bool f2, .bool f3, .bool f4, .bool f5, .bool f6, .bool f7, .bool f8, .row 11, .int .i64 e8, .int .i64 e9]), some (.arr 54 (.pair (.int .i64) (.pair .bool (.pair (.int .i64) (.int .i64)))) l), some (.arr 43 (.pair (.int .i64) (.int .i64)) t), some (.arr 3 (.int .i64) u), some (.arr 54 (.pair (.int .i64) (.pair .bool (.pair (.int .i64) (.int .i64)))) l2), some (.arr 43 (.pair (.int .i64) (.int .i64)) t2), some (.arr 3 (.int .i64) u2)]).run K = some r := by
  simp only [k_ParamsClones_0, Bool.and_eq_true, decide_eq_true_eq] at hk
  obtain ⟨⟨rfl, rfl⟩, hl⟩ := hk
  have hsm : small l.length = true := by simp only [small, decide_eq_true_eq]; omega
  refine Exists.elim (z_fold (T := T_ParamsClones_0) (st := fun j => ([.one (.ptr 0 0), .one (.ptr 1 0), .one (.ptr 2 0), .one (.ptr 3 0), .one (.ptr 4 0), .one (.ptr 5 0), .one (.int .i64 (l.length : Int)), .one (.int .i64 (j : Int))], [some (.box (hdC h)), some (.box (pmC p)), some (.box [.int .i64 a1, .int .i64 a2, .int .i64 a3, .int .i64 a4, .int .i64 a5, .int .i64 a6, .row 6]), some (.box [.int .i64 b1, .int .i64 b2, .int .i64 b3, .int .i64 b4, .int .i64 b5, .row 7, .int .i64 b6, .int .i64 b7, .bool c1, .bool c2, .bool c3, .bool c4, .bool c5, .bool c6, .bool c7, .bool c8, .row 8, .int .i64 b8, .int .i64 b9]), some (.box [.int .i64 d1, .int .i64 d2, .int .i64 d3, .int .i64 d4, .int .i64 d5, .int .i64 d6, .row 9]), some (.box [.int .i64 e1, .int .i64 e2, .int .i64 e3, .int .i64 e4, .int .i64 e5, .row 10, .int .i64 e6, .int .i64 e7, .bool f1, .bool f2, .bool f3, .bool f4, .bool f5, .bool f6, .bool f7, .bool f8, .row 11, .int .i64 e8, .int .i64 e9]), some (.arr 54 (.pair (.int .i64) (.pair .bool (.pair (.int .i64) (.int .i64)))) ((l.take j).map incC ++ l.drop j)), some (.arr 43 (.pair (.int .i64) (.int .i64)) t), some (.arr 3 (.int .i64) u), some (.arr 54 (.pair (.int .i64) (.pair .bool (.pair (.int .i64) (.int .i64)))) l2), some (.arr 43 (.pair (.int .i64) (.int .i64)) t2), some (.arr 3 (.int .i64) u2)])) l.length (c_ParamsClones_0 h p l t u l2 t2 u2 a1 a2 a3 a4 a5 a6 b1 b2 b3 b4 b5 b6 b7 b8 b9 d1 d2 d3 d4 d5 d6 e1 e2 e3 e4 e5 e6 e7 e8 e9 c1 c2 c3 c4 c5 c6 c7 c8 f1 f2 f3 f4 f5 f6 f7 f8 (l.length : Int) 0) (fun j hj F K => ?_) (fun F K => ?_)) (fun k hk => ⟨k, fun K r h => ?_⟩)
  · obtain ⟨g1, g2, g3⟩ := upd_step incC l (0, false, 0, 0) j hj
    simp only [tu_ParamsClones_0, U_ParamsClones_0, LT.next, LT.run, ite2_bool, decide_eq_true_eq, Int.toNat_natCast, gC, gI, gP, g1, g3]
    rw [if_pos (by omega), if_pos (by omega), if_pos hj, if_pos (by omega), if_pos hj, wrap_next hj hsm, ← g2]
    rfl
  · simp only [tu_ParamsClones_0, U_ParamsClones_0, LT.next, LT.run, ite2_bool, decide_eq_true_eq]
    rw [if_neg (by omega)]
    
    rfl
  · exact hk K r h
theorem z_ParamsClones_0 : ∀ vs bl t, S_ParamsClones_0 vs bl = some (true, t) → ∃ n, ∀ (K : Ex → List V → List (Option Blk) → Option Out) r, t.run K = some r → (iter T_ParamsClones_0 n vs bl).run K = some r := by
  intro vs bl t y0'
  unfold S_ParamsClones_0 at y0'
  obtain ⟨c', vs, rfl, y1'⟩ := pO_s y0'
  obtain ⟨rfl, y2'⟩ := kP_s y1'
  obtain ⟨c', vs, rfl, y3'⟩ := pO_s y2'
  obtain ⟨rfl, y4'⟩ := kP_s y3'
  obtain ⟨c', vs, rfl, y5'⟩ := pO_s y4'
  obtain ⟨rfl, y6'⟩ := kP_s y5'
  obtain ⟨c', vs, rfl, y7'⟩ := pO_s y6'
  obtain ⟨rfl, y8'⟩ := kP_s y7'
  obtain ⟨c', vs, rfl, y9'⟩ := pO_s y8'
  obtain ⟨rfl, y10'⟩ := kP_s y9'
  obtain ⟨c', vs, rfl, y11'⟩ := pO_s y10'
  obtain ⟨rfl, y12'⟩ := kP_s y11'
  obtain ⟨c', vs, rfl, y13'⟩ := pO_s y12'
  obtain ⟨n, rfl, y14'⟩ := kI_s y13'
  obtain ⟨c', vs, rfl, y15'⟩ := pO_s y14'
  obtain ⟨i, rfl, y16'⟩ := kI_s y15'
  obtain ⟨rfl, y17'⟩ := pE_s y16'
  obtain ⟨q', bl, rfl, y18'⟩ := bB_s y17'
  obtain ⟨h, rfl, y19'⟩ := rdHd_s y18'
  obtain ⟨q', bl, rfl, y20'⟩ := bB_s y19'
  obtain ⟨p, rfl, y21'⟩ := rdPm_s y20'
  obtain ⟨q', bl, rfl, y22'⟩ := bB_s y21'
  obtain ⟨a1, a2, a3, a4, a5, a6, rfl, y23'⟩ := rdHR_s y22'
  obtain ⟨q', bl, rfl, y24'⟩ := bB_s y23'
  obtain ⟨b1, b2, b3, b4, b5, b6, b7, c1, c2, c3, c4, c5, c6, c7, c8, b8, b9, rfl, y25'⟩ := rdPR_s y24'
  obtain ⟨q', bl, rfl, y26'⟩ := bB_s y25'
  obtain ⟨d1, d2, d3, d4, d5, d6, rfl, y27'⟩ := rdHR_s y26'
  obtain ⟨q', bl, rfl, y28'⟩ := bB_s y27'
  obtain ⟨e1, e2, e3, e4, e5, e6, e7, f1, f2, f3, f4, f5, f6, f7, f8, e8, e9, rfl, y29'⟩ := rdPR_s y28'
  obtain ⟨l, bl, rfl, y30'⟩ := bAC_s y29'
  obtain ⟨t, bl, rfl, y31'⟩ := bAP_s y30'
  obtain ⟨u, bl, rfl, y32'⟩ := bAI_s y31'
  obtain ⟨l2, bl, rfl, y33'⟩ := bAC_s y32'
  obtain ⟨t2, bl, rfl, y34'⟩ := bAP_s y33'
  obtain ⟨u2, bl, rfl, y35'⟩ := bAI_s y34'
  obtain ⟨rfl, y36'⟩ := bE_s y35'
  have yy' := y36'
  obtain ⟨hk, rfl⟩ := Prod.mk.inj (Option.some.inj yy')
  exact zz_ParamsClones_0 _ _ _ _ _ _ _ _ _ _ _ _ _ _ _ _ _ _ _ _ _ _ _ _ _ _ _ _ _ _ _ _ _ _ _ _ _ _ _ _ _ _ _ _ _ _ _ _ _ _ _ _ _ _ _ _ hk
theorem zz_ParamsClones_1 (h : Hd) (p : Pm) (t : List (Int × Int)) (u : List Int) (l2 : List (Int × Bool × Int × Int)) (t2 : List (Int × Int)) (u2 : List Int) (b1 b2 b3 b4 b5 b6 b7 b8 b9 d1 d2 d3 d4 d5 d6 e1 e2 e3 e4 e5 e6 e7 e8 e9 : Int) (c1 c2 c3 c4 c5 c6 c7 c8 f1 f2 f3 f4 f5 f6 f7 f8 : Bool) (n i : Int) (hk : k_ParamsClones_1 h p t u l2 t2 u2 b1 b2 b3 b4 b5 b6 b7 b8 b9 d1 d2 d3 d4 d5 d6 e1 e2 e3 e4 e5 e6 e7 e8 e9 c1 c2 c3 c4 c5 c6 c7 c8 f1 f2 f3 f4 f5 f6 f7 f8 n i = true) : ∃ k, ∀ (K : Ex → List V → List (Option Blk) → Option Out) r, (c_ParamsClones_1 h p t u l2 t2 u2 b1 b2 b3 b4 b5 b6 b7 b8 b9 d1 d2 d3 d4 d5 d6 e1 e2 e3 e4 e5 e6 e7 e8 e9 c1 c2 c3 c4 c5 c6 c7 c8 f1 f2 f3 f4 f5 f6 f7 f8 n i).run K = some r → (iter T_ParamsClones_1 k [.one (.ptr 0 0), .one (.ptr 1 0), .one (.ptr 2 0), .one (.ptr 3 0), .one (.ptr 4 0), .one (.int .i64 n), .one (.int .i64 i)] [some (.box (hdC h)), some (.box (pmC p)), some (.box [.int .i64 b1, .int .i64 b2, .int .i64 b3, .int .i64 b4, .int .i64 b5, .row 5, .int .i64 b6, .int .i64 b7, .bool c1, .bool c2, .bool c3, .bool c4, .bool c5, .bool c6, .bool c7, .bool c8, .row 6, .int .i64 b8, .int .i64 b9]), some (.box [.int .i64 d1, .int .i64 d2, .int .i64 d3, .int .i64 d4, .int .i64 d5, .int .i64 d6, .row 7]), some (.box [.int .i64 e1, .int .i64 e2, .int .i64 e3, .int .i64 e4, .int .i64 e5, .row 8, .int .i64 e6, .int .i64 e7, .bool f1, .bool f2, .bool f3, .bool f4, .bool f5, .bool f6, .bool f7, .bool f8, .row 9, .int .i64 e8, .int .i64 e9]), some (.arr 43 (.pair (.int .i64) (.int .i64)) t), some (.arr 3 (.int .i64) u), some (.arr 54 (.pair (.int .i64) (.pair .bool (.pair (.int .i64) (.int .i64)))) l2), some (.arr 43 (.pair (.int .i64) (.int .i64)) t2), some (.arr 3 (.int .i64) u2)]).run K = some r := by
  simp only [k_ParamsClones_1, Bool.and_eq_true, decide_eq_true_eq] at hk
  obtain ⟨⟨rfl, rfl⟩, hl⟩ := hk
  have hsm : small u.length = true := by simp only [small, decide_eq_true_eq]; omega
  refine Exists.elim (z_fold (T := T_ParamsClones_1) (st := fun j => ([.one (.ptr 0 0), .one (.ptr 1 0), .one (.ptr 2 0), .one (.ptr 3 0), .one (.ptr 4 0), .one (.int .i64 (u.length : Int)), .one (.int .i64 (j : Int))], [some (.box (hdC h)), some (.box (pmC p)), some (.box [.int .i64 b1, .int .i64 b2, .int .i64 b3, .int .i64 b4, .int .i64 b5, .row 5, .int .i64 b6, .int .i64 b7, .bool c1, .bool c2, .bool c3, .bool c4, .bool c5, .bool c6, .bool c7, .bool c8, .row 6, .int .i64 b8, .int .i64 b9]), some (.box [.int .i64 d1, .int .i64 d2, .int .i64 d3, .int .i64 d4, .int .i64 d5, .int .i64 d6, .row 7]), some (.box [.int .i64 e1, .int .i64 e2, .int .i64 e3, .int .i64 e4, .int .i64 e5, .row 8, .int .i64 e6, .int .i64 e7, .bool f1, .bool f2, .bool f3, .bool f4, .bool f5, .bool f6, .bool f7, .bool f8, .row 9, .int .i64 e8, .int .i64 e9]), some (.arr 43 (.pair (.int .i64) (.int .i64)) t), some (.arr 3 (.int .i64) ((u.take j).map inc1 ++ u.drop j)), some (.arr 54 (.pair (.int .i64) (.pair .bool (.pair (.int .i64) (.int .i64)))) l2), some (.arr 43 (.pair (.int .i64) (.int .i64)) t2), some (.arr 3 (.int .i64) u2)])) u.length (c_ParamsClones_1 h p t u l2 t2 u2 b1 b2 b3 b4 b5 b6 b7 b8 b9 d1 d2 d3 d4 d5 d6 e1 e2 e3 e4 e5 e6 e7 e8 e9 c1 c2 c3 c4 c5 c6 c7 c8 f1 f2 f3 f4 f5 f6 f7 f8 (u.length : Int) 0) (fun j hj F K => ?_) (fun F K => ?_)) (fun k hk => ⟨k, fun K r h => ?_⟩)
  · obtain ⟨g1, g2, g3⟩ := upd_step inc1 u 0 j hj
    simp only [tu_ParamsClones_1, U_ParamsClones_1, LT.next, LT.run, ite2_bool, decide_eq_true_eq, Int.toNat_natCast, gC, gI, gP, g1, g3]
    rw [if_pos (by omega), if_pos (by omega), if_pos hj, if_pos (by omega), if_pos hj, wrap_next hj hsm, ← g2]
    rfl
  · simp only [tu_ParamsClones_1, U_ParamsClones_1, LT.next, LT.run, ite2_bool, decide_eq_true_eq]
    rw [if_neg (by omega)]
    rw [List.take_of_length_le (Nat.le_refl _), List.drop_of_length_le (Nat.le_refl _), List.append_nil]
    rfl
  · exact hk K r h
theorem z_ParamsClones_1 : ∀ vs bl t, S_ParamsClones_1 vs bl = some (true, t) → ∃ n, ∀ (K : Ex → List V → List (Option Blk) → Option Out) r, t.run K = some r → (iter T_ParamsClones_1 n vs bl).run K = some r := by
  intro vs bl t y0'
  unfold S_ParamsClones_1 at y0'
  obtain ⟨c', vs, rfl, y1'⟩ := pO_s y0'
  obtain ⟨rfl, y2'⟩ := kP_s y1'
  obtain ⟨c', vs, rfl, y3'⟩ := pO_s y2'
  obtain ⟨rfl, y4'⟩ := kP_s y3'
  obtain ⟨c', vs, rfl, y5'⟩ := pO_s y4'
  obtain ⟨rfl, y6'⟩ := kP_s y5'
  obtain ⟨c', vs, rfl, y7'⟩ := pO_s y6'
  obtain ⟨rfl, y8'⟩ := kP_s y7'
  obtain ⟨c', vs, rfl, y9'⟩ := pO_s y8'
  obtain ⟨rfl, y10'⟩ := kP_s y9'
  obtain ⟨c', vs, rfl, y11'⟩ := pO_s y10'
  obtain ⟨n, rfl, y12'⟩ := kI_s y11'
  obtain ⟨c', vs, rfl, y13'⟩ := pO_s y12'
  obtain ⟨i, rfl, y14'⟩ := kI_s y13'
  obtain ⟨rfl, y15'⟩ := pE_s y14'
  obtain ⟨q', bl, rfl, y16'⟩ := bB_s y15'
  obtain ⟨h, rfl, y17'⟩ := rdHd_s y16'
  obtain ⟨q', bl, rfl, y18'⟩ := bB_s y17'
  obtain ⟨p, rfl, y19'⟩ := rdPm_s y18'
  obtain ⟨q', bl, rfl, y20'⟩ := bB_s y19'
  obtain ⟨b1, b2, b3, b4, b5, b6, b7, c1, c2, c3, c4, c5, c6, c7, c8, b8, b9, rfl, y21'⟩ := rdPR_s y20'
  obtain ⟨q', bl, rfl, y22'⟩ := bB_s y21'
  obtain ⟨d1, d2, d3, d4, d5, d6, rfl, y23'⟩ := rdHR_s y22'
  obtain ⟨q', bl, rfl, y24'⟩ := bB_s y23'
  obtain ⟨e1, e2, e3, e4, e5, e6, e7, f1, f2, f3, f4, f5, f6, f7, f8, e8, e9, rfl, y25'⟩ := rdPR_s y24'
  obtain ⟨t, bl, rfl, y26'⟩ := bAP_s y25'
  obtain ⟨u, bl, rfl, y27'⟩ := bAI_s y26'
  obtain ⟨l2, bl, rfl, y28'⟩ := bAC_s y27'
  obtain ⟨t2, bl, rfl, y29'⟩ := bAP_s y28'
  obtain ⟨u2, bl, rfl, y30'⟩ := bAI_s y29'
  obtain ⟨rfl, y31'⟩ := bE_s y30'
  have yy' := y31'
  obtain ⟨hk, rfl⟩ := Prod.mk.inj (Option.some.inj yy')
  exact zz_ParamsClones_1 _ _ _ _ _ _ _ _ _ _ _ _ _ _ _ _ _ _ _ _ _ _ _ _ _ _ _ _ _ _ _ _ _ _ _ _ _ _ _ _ _ _ _ _ _ _ _ _ _ hk
theorem zz_ParamsClones_2 (h : Hd) (p : Pm) (t : List (Int × Int)) (u : List Int) (l2 : List (Int × Bool × Int × Int)) (t2 : List (Int × Int)) (u2 : List Int) (b1 b2 b3 b4 b5 b6 b7 b8 b9 d1 d2 d3 d4 d5 d6 e1 e2 e3 e4 e5 e6 e7 e8 e9 : Int) (c1 c2 c3 c4 c5 c6 c7 c8 f1 f2 f3 f4 f5 f6 f7 f8 : Bool) (n i : Int) (hk : k_ParamsClones_2 h p t u l2 t2 u2 b1 b2 b3 b4 b5 b6 b7 b8 b9 d1 d2 d3 d4 d5 d6 e1 e2 e3 e4 e5 e6 e7 e8 e9 c1 c2 c3 c4 c5 c6 c7 c8 f1 f2 f3 f4 f5 f6 f7 f8 n i = true) : ∃ k, ∀ (K : Ex → List V → List (Option Blk) → Option Out) r, (c_ParamsClones_2 h p t u l2 t2 u2 b1 b2 b3 b4 b5 b6 b7 b8 b9 d1 d2 d3 d4 d5 d6 e1 e2 e3 e4 e5 e6 e7 e8 e9 c1 c2 c3 c4 c5 c6 c7 c8 f1 f2 f3 f4 f5 f6 f7 f8 n i).run K = some r → (iter T_ParamsClones_2 k [.one (.ptr 0 0), .one (.ptr 1 0), .one (.ptr 2 0), .one (.ptr 3 0), .one (.ptr 4 0), .one (.int .i64 n), .one (.int .i64 i)] [some (.box (hdC h)), some (.box (pmC p)), some (.box [.int .i64 b1, .int .i64 b2, .int .i64 b3, .int .i64 b4, .int .i64 b5, .row 5, .int .i64 b6, .int .i64 b7, .bool c1, .bool c2, .bool c3, .bool c4, .bool c5, .bool c6, .bool c7, .bool c8, .row 6, .int .i64 b8, .int .i64 b9]), some (.box [.int .i64 d1, .int .i64 d2, .int .i64 d3, .int .i64 d4, .int .i64 d5, .int .i64 d6, .row 7]), some (.box [.int .i64 e1, .int .i64 e2, .int .i64 e3, .int .i64 e4, .int .i64 e5, .row 8, .int .i64 e6, .int .i64 e7, .bool f1, .bool f2, .bool f3, .bool f4, .bool f5, .bool f6, .bool f7, .bool f8, .row 9, .int .i64 e8, .int .i64 e9]), some (.arr 43 (.pair (.int .i64) (.int .i64)) t), some (.arr 3 (.int .i64) u), some (.arr 54 (.pair (.int .i64) (.pair .bool (.pair (.int .i64) (.int .i64)))) l2), some (.arr 43 (.pair (.int .i64) (.int .i64)) t2), some (.arr 3 (.int .i64) u2)]).run K = some r := by
  simp only [k_ParamsClones_2, Bool.and_eq_true, decide_eq_true_eq] at hk
  obtain ⟨⟨rfl, rfl⟩, hl⟩ := hk
  have hsm : small t.length = true := by simp only [small, decide_eq_true_eq]; omega
  refine Exists.elim (z_fold (T := T_ParamsClones_2) (st := fun j => ([.one (.ptr 0 0), .one (.ptr 1 0), .one (.ptr 2 0), .one (.ptr 3 0), .one (.ptr 4 0), .one (.int .i64 (t.length : Int)), .one (.int .i64 (j : Int))], [some (.box (hdC h)), some (.box (pmC p)), some (.box [.int .i64 b1, .int .i64 b2, .int .i64 b3, .int .i64 b4, .int .i64 b5, .row 5, .int .i64 b6, .int .i64 b7, .bool c1, .bool c2, .bool c3, .bool c4, .bool c5, .bool c6, .bool c7, .bool c8, .row 6, .int .i64 b8, .int .i64 b9]), some (.box [.int .i64 d1, .int .i64 d2, .int .i64 d3, .int .i64 d4, .int .i64 d5, .int .i64 d6, .row 7]), some (.box [.int .i64 e1, .int .i64 e2, .int .i64 e3, .int .i64 e4, .int .i64 e5, .row 8, .int .i64 e6, .int .i64 e7, .bool f1, .bool f2, .bool f3, .bool f4, .bool f5, .bool f6, .bool f7, .bool f8, .row 9, .int .i64 e8, .int .i64 e9]), some (.arr 43 (.pair (.int .i64) (.int .i64)) ((t.take j).map incY ++ t.drop j)), some (.arr 3 (.int .i64) u), some (.arr 54 (.pair (.int .i64) (.pair .bool (.pair (.int .i64) (.int .i64)))) l2), some (.arr 43 (.pair (.int .i64) (.int .i64)) t2), some (.arr 3 (.int .i64) u2)])) t.length (c_ParamsClones_2 h p t u l2 t2 u2 b1 b2 b3 b4 b5 b6 b7 b8 b9 d1 d2 d3 d4 d5 d6 e1 e2 e3 e4 e5 e6 e7 e8 e9 c1 c2 c3 c4 c5 c6 c7 c8 f1 f2 f3 f4 f5 f6 f7 f8 (t.length : Int) 0) (fun j hj F K => ?_) (fun F K => ?_)) (fun k hk => ⟨k, fun K r h => ?_⟩)
  · obtain ⟨g1, g2, g3⟩ := upd_step incY t (0, 0) j hj
    simp only [tu_ParamsClones_2, U_ParamsClones_2, LT.next, LT.run, ite2_bool, decide_eq_true_eq, Int.toNat_natCast, gC, gI, gP, g1, g3]
    rw [if_pos (by omega), if_pos (by omega), if_pos hj, if_pos (by omega), if_pos hj, wrap_next hj hsm, ← g2]
    rfl
  · simp only [tu_ParamsClones_2, U_ParamsClones_2, LT.next, LT.run, ite2_bool, decide_eq_true_eq]
    rw [if_neg (by omega)]
    
    rfl
  · exact hk K r h
theorem z_ParamsClones_2 : ∀ vs bl t, S_ParamsClones_2 vs bl = some (true, t) → ∃ n, ∀ (K : Ex → List V → List (Option Blk) → Option Out) r, t.run K = some r → (iter T_ParamsClones_2 n vs bl).run K = some r := by
  intro vs bl t y0'
  unfold S_ParamsClones_2 at y0'
  obtain ⟨c', vs, rfl, y1'⟩ := pO_s y0'
  obtain ⟨rfl, y2'⟩ := kP_s y1'
  obtain ⟨c', vs, rfl, y3'⟩ := pO_s y2'
  obtain ⟨rfl, y4'⟩ := kP_s y3'
  obtain ⟨c', vs, rfl, y5'⟩ := pO_s y4'
  obtain ⟨rfl, y6'⟩ := kP_s y5'
  obtain ⟨c', vs, rfl, y7'⟩ := pO_s y6'
  obtain ⟨rfl, y8'⟩ := kP_s y7'
  obtain ⟨c', vs, rfl, y9'⟩ := pO_s y8'
  obtain ⟨rfl, y10'⟩ := kP_s y9'
  obtain ⟨c', vs, rfl, y11'⟩ := pO_s y10'
  obtain ⟨n, rfl, y12'⟩ := kI_s y11'
  obtain ⟨c', vs, rfl, y13'⟩ := pO_s y12'
  obtain ⟨i, rfl, y14'⟩ := kI_s y13'
  obtain ⟨rfl, y15'⟩ := pE_s y14'
  obtain ⟨q', bl, rfl, y16'⟩ := bB_s y15'
  obtain ⟨h, rfl, y17'⟩ := rdHd_s y16'
  obtain ⟨q', bl, rfl, y18'⟩ := bB_s y17'
  obtain ⟨p, rfl, y19'⟩ := rdPm_s y18'
  obtain ⟨q', bl, rfl, y20'⟩ := bB_s y19'
  obtain ⟨b1, b2, b3, b4, b5, b6, b7, c1, c2, c3, c4, c5, c6, c7, c8, b8, b9, rfl, y21'⟩ := rdPR_s y20'
  obtain ⟨q', bl, rfl, y22'⟩ := bB_s y21'
  obtain ⟨d1, d2, d3, d4, d5, d6, rfl, y23'⟩ := rdHR_s y22'
  obtain ⟨q', bl, rfl, y24'⟩ := bB_s y23'
  obtain ⟨e1, e2, e3, e4, e5, e6, e7, f1, f2, f3, f4, f5, f6, f7, f8, e8, e9, rfl, y25'⟩ := rdPR_s y24'
  obtain ⟨t, bl, rfl, y26'⟩ := bAP_s y25'
  obtain ⟨u, bl, rfl, y27'⟩ := bAI_s y26'
  obtain ⟨l2, bl, rfl, y28'⟩ := bAC_s y27'
  obtain ⟨t2, bl, rfl, y29'⟩ := bAP_s y28'
  obtain ⟨u2, bl, rfl, y30'⟩ := bAI_s y29'
  obtain ⟨rfl, y31'⟩ := bE_s y30'
  have yy' := y31'
  obtain ⟨hk, rfl⟩ := Prod.mk.inj (Option.some.inj yy')
  exact zz_ParamsClones_2 _ _ _ _ _ _ _ _ _ _ _ _ _ _ _ _ _ _ _ _ _ _ _ _ _ _ _ _ _ _ _ _ _ _ _ _ _ _ _ _ _ _ _ _ _ _ _ _ _ hk
theorem q_ParamsClones (h : Hd) (p : Pm) (hok : ok_ParamsClones h p = true) : funR Try.prog t_ParamsClones (annOf []) l_ParamsClones 20 Try.f9 [.agg (hdC h), .agg (pmC p)] [] = some ⟨.one (.bool true), [], []⟩ := by
    refine (e_ParamsClones ..).trans ?_
    cases hf : few h p
    · rfl
    have hs := few_small hf
    have hl : h.cs.length ≤ 10 ∧ p.st.length ≤ 40 ∧ p.pr.length ≤ 40 := by
      simp only [few, Bool.and_eq_true, decide_eq_true_eq] at hf
      exact ⟨hf.1.1, hf.1.2, hf.2⟩
    have q1 : sameH h h = true := by simp [sameH]
    have q2 : sameP p p = true := by simp [sameP]
    have h1 : (decide (h.cs.length ≤ 1000000) && decide (p.pr.length ≤ 1000000) && decide (p.st.length ≤ 1000000)) = true := by
      simp only [Bool.and_eq_true, decide_eq_true_eq]; omega
    have k0 : k_ParamsClones_0 h p h.cs p.pr p.st h.cs p.pr p.st h.a h.b h.c h.d h.tw h.th p.ke p.le p.co p.bx p.bw p.od p.la p.de p.sf h.a h.b h.c h.d h.tw h.th p.ke p.le p.co p.bx p.bw p.od p.la p.de p.sf p.m1 p.m2 p.m3 p.m4 p.m5 p.dv p.sy p.fe p.m1 p.m2 p.m3 p.m4 p.m5 p.dv p.sy p.fe (h.cs.length : Int) 0 = true := by
      simp only [k_ParamsClones_0, Bool.and_eq_true, decide_eq_true_eq, true_and]; omega
    have k1 : k_ParamsClones_1 h p p.pr p.st h.cs p.pr p.st p.ke p.le p.co p.bx p.bw p.od p.la p.de p.sf h.a h.b h.c h.d h.tw h.th p.ke p.le p.co p.bx p.bw p.od p.la p.de p.sf p.m1 p.m2 p.m3 p.m4 p.m5 p.dv p.sy p.fe p.m1 p.m2 p.m3 p.m4 p.m5 p.dv p.sy p.fe (p.st.length : Int) 0 = true := by
      simp only [k_ParamsClones_1, Bool.and_eq_true, decide_eq_true_eq, true_and]; omega
    have k2 : k_ParamsClones_2 h p p.pr (p.st.map inc1) h.cs p.pr p.st p.ke p.le p.co p.bx p.bw p.od p.la p.de p.sf h.a h.b h.c h.d h.tw h.th p.ke p.le p.co p.bx p.bw p.od p.la p.de p.sf p.m1 p.m2 p.m3 p.m4 p.m5 p.dv p.sy p.fe p.m1 p.m2 p.m3 p.m4 p.m5 p.dv p.sy p.fe (p.pr.length : Int) 0 = true := by
      simp only [k_ParamsClones_2, Bool.and_eq_true, decide_eq_true_eq, true_and]; omega
    simp only [h1, k0, k1, k2, q1, q2, ite2_bool, hs, if_true, Bool.and_self, Bool.not_true, Bool.false_eq_true, if_false]
theorem s_ParamsClones : SoundFun Try.prog 9 G_ParamsClones := by
  refine fun_ok (tab := t_ParamsClones) (ann := annOf []) (lt := l_ParamsClones) (tab_cons s_awake (tab_cons s_few_ (tab_cons s_params_Clone (tab_cons s_params_Same (tab_cons s_ref23_SameHeader (tab_cons s_ref23_SameParams tab_nil)))))) (by kernel_rfl) (fn := Try.f9) (by kernel_rfl) (by decide) (c := bodyOf Try.f9) (by kernel_rfl) (by
    intro m b hb
    have hb' : b ∈ loopsOf (bodyOf Try.f9) := hb
    rw [o_ParamsClones] at hb'
    simp only [List.mem_cons, List.not_mem_nil, or_false] at hb'
    rcases hb' with rfl | rfl | rfl
    · exact loop_ok (key := 9) (by kernel_rfl) rfl r_ParamsClones_0 z_ParamsClones_0 m
    · exact loop_ok (key := 14) (by kernel_rfl) rfl r_ParamsClones_1 z_ParamsClones_1 m
    · exact loop_ok (key := 19) (by kernel_rfl) rfl r_ParamsClones_2 z_ParamsClones_2 m
    ) ?_
  intro args lent o y0'
  unfold G_ParamsClones at y0'
  obtain ⟨q', args, rfl, y1'⟩ := pA_s y0'
  obtain ⟨h, rfl, y2'⟩ := rdHd_s y1'
  obtain ⟨q', args, rfl, y3'⟩ := pA_s y2'
  obtain ⟨p, rfl, y4'⟩ := rdPm_s y3'
  obtain ⟨rfl, y5'⟩ := pE_s y4'
  obtain ⟨rfl, y6'⟩ := nE_s y5'
  have yy' := y6'
  unfold H_ParamsClones at yy'
  obtain ⟨hok, rfl⟩ := Prod.mk.inj (Option.some.inj yy')
  exact ⟨20, q_ParamsClones _ _ hok⟩
end Go.Rx.Ch23
