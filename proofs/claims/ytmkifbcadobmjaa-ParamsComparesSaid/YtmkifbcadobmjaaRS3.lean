/- The summaries of these functions are sound. -/
import Derived.Test.YtmkifbcadobmjaaRE3
import Derived.Test.YtmkifbcadobmjaaRS2
set_option linter.unnecessarySimpa false
set_option linter.unusedVariables false
set_option linter.unusedSimpArgs false
set_option linter.unusedVariables false
set_option linter.unusedSimpArgs false
set_option maxRecDepth 100000
set_option maxHeartbeats 4000000
open Go Go.Rx Go.Proofs
namespace Go.Rx.Ch23
theorem r_params_Lossless_0 : RoundOk Try.prog t_params_Lossless (annOf []) l_params_Lossless Out 20 0 25 [1, 6, 7, 8] (kxOf [1] [2]) (loopOf Try.f20 0) T_params_Lossless_0 := by
  intro vs bl Kc r h
  unfold T_params_Lossless_0 at h
  obtain ⟨t, y0', h'⟩ := getD_run h
  obtain ⟨c', vs, rfl, y1'⟩ := pO_s y0'
  obtain ⟨rfl, y2'⟩ := kP_s y1'
  obtain ⟨c', vs, rfl, y3'⟩ := pO_s y2'
  obtain ⟨l, rfl, y4'⟩ := kLI_s y3'
  obtain ⟨c', vs, rfl, y5'⟩ := pO_s y4'
  obtain ⟨n, rfl, y6'⟩ := kI_s y5'
  obtain ⟨c', vs, rfl, y7'⟩ := pO_s y6'
  obtain ⟨i, rfl, y8'⟩ := kI_s y7'
  obtain ⟨rfl, y9'⟩ := pE_s y8'
  obtain ⟨q', bl, rfl, y10'⟩ := bB_s y9'
  obtain ⟨p, rfl, y11'⟩ := rdPm_s y10'
  obtain ⟨rfl, y12'⟩ := bE_s y11'
  have yy' := y12'
  cases yy'
  exact (b_params_Lossless_0 ..).trans ((congrArg (LT.runc · Kc) (tu_params_Lossless_0 ..)).trans h')
theorem o_params_Lossless : loopsOf (bodyOf Try.f20) = [loopOf Try.f20 0] := by kernel_rfl
theorem zz_params_Lossless_0 (p : Pm) (l : List Int) (hsm : small (l.length) = true) (hc : true = true) : ∃ k, ∀ (K : Ex → List V → List (Option Blk) → Option Out) r, (c_params_Lossless_0 p l).run K = some r → (iter T_params_Lossless_0 k [.one (.ptr 0 0), .one (.lst (.int .i64) l), .one (.int .i64 (l.length : Int)), .one (.int .i64 0)] [some (.box (pmC p))]).run K = some r := by
  refine z_list (st := fun i => ([.one (.ptr 0 0), .one (.lst (.int .i64) l), .one (.int .i64 (l.length : Int)), .one (.int .i64 ((i : Nat) : Int))], [some (.box (pmC p))])) l 0 (fun x => x == 1) _ _ (fun i hi F K => ?_) (fun F K => ?_)
  · have hi' : (i : Int) < (l.length : Int) := by omega
    simp only [tu_params_Lossless_0, U_params_Lossless_0, LT.next, LT.run, ite2_dec, ite2_bool, wrap_next hi hsm, Int.toNat_natCast, hi', Int.natCast_nonneg, and_self, if_true, gI, gP, gC, gR]
    simp [hdC, pmC] <;> (repeat' split) <;> simp_all [hdC, pmC]
  · simp only [tu_params_Lossless_0, U_params_Lossless_0, LT.next, LT.run, ite2_dec, Int.lt_irrefl, if_false]
    try rfl
theorem z_params_Lossless_0 : ∀ vs bl t, S_params_Lossless_0 vs bl = some (true, t) → ∃ n, ∀ (K : Ex → List V → List (Option Blk) → Option Out) r, t.run K = some r → (iter T_params_Lossless_0 n vs bl).run K = some r := by
  intro vs bl t y0'
  unfold S_params_Lossless_0 at y0'
  obtain ⟨c', vs, rfl, y1'⟩ := pO_s y0'
  obtain ⟨rfl, y2'⟩ := kP_s y1'
  obtain ⟨c', vs, rfl, y3'⟩ := pO_s y2'
  obtain ⟨l, rfl, y4'⟩ := kLI_s y3'
  obtain ⟨c', vs, rfl, y5'⟩ := pO_s y4'
  obtain ⟨n, rfl, y6'⟩ := kI_s y5'
  obtain ⟨c', vs, rfl, y7'⟩ := pO_s y6'
  obtain ⟨i, rfl, y8'⟩ := kI_s y7'
  obtain ⟨rfl, y9'⟩ := pE_s y8'
  obtain ⟨q', bl, rfl, y10'⟩ := bB_s y9'
  obtain ⟨p, rfl, y11'⟩ := rdPm_s y10'
  obtain ⟨rfl, y12'⟩ := bE_s y11'
  have yy' := y12'
  obtain ⟨hk, rfl⟩ := Prod.mk.inj (Option.some.inj yy')
  unfold k_params_Lossless_0 at hk
  simp only [Bool.and_eq_true, decide_eq_true_eq, and_assoc] at hk
  obtain ⟨rfl, rfl, hsm, hc⟩ := hk
  exact zz_params_Lossless_0 _ _ hsm (by first | exact hc | simpa using hc)
theorem q_params_Lossless (p : Pm) (hok : small p.st.length = true) : funR Try.prog t_params_Lossless (annOf []) l_params_Lossless 20 Try.f20 [.agg (pmC p)] [] = some ⟨.one (.bool (lossless p)), [], []⟩ := by
    refine (e_params_Lossless ..).trans ?_
    simp only [ite2_bool, k_params_Lossless_0, p_params_Lossless_0, lossless]
    grind
theorem s_params_Lossless : SoundFun Try.prog 20 G_params_Lossless := by
  refine fun_ok (tab := t_params_Lossless) (ann := annOf []) (lt := l_params_Lossless) (tab_cons s_quant_Threshold tab_nil) (by kernel_rfl) (fn := Try.f20) (by kernel_rfl) (by decide) (c := bodyOf Try.f20) (by kernel_rfl) (by
    intro m b hb
    have hb' : b ∈ loopsOf (bodyOf Try.f20) := hb
    rw [o_params_Lossless] at hb'
    simp only [List.mem_cons, List.not_mem_nil, or_false] at hb'
    rcases hb' with rfl
    · exact loop_ok (key := 2) (by kernel_rfl) rfl r_params_Lossless_0 z_params_Lossless_0 m
    ) ?_
  intro args lent o y0'
  unfold G_params_Lossless at y0'
  obtain ⟨q', args, rfl, y1'⟩ := pA_s y0'
  obtain ⟨p, rfl, y2'⟩ := rdPm_s y1'
  obtain ⟨rfl, y3'⟩ := pE_s y2'
  obtain ⟨rfl, y4'⟩ := nE_s y3'
  have yy' := y4'
  unfold H_params_Lossless at yy'
  obtain ⟨hok, rfl⟩ := Prod.mk.inj (Option.some.inj yy')
  exact ⟨20, q_params_Lossless _ hok⟩
theorem r_ref23_Lossless_0 : RoundOk Try.prog t_ref23_Lossless (annOf []) l_ref23_Lossless Out 20 0 27 [1, 3] (kxOf [1] [2]) (loopOf Try.f21 0) T_ref23_Lossless_0 := by
  intro vs bl Kc r h
  unfold T_ref23_Lossless_0 at h
  obtain ⟨t, y0', h'⟩ := getD_run h
  obtain ⟨c', vs, rfl, y1'⟩ := pO_s y0'
  obtain ⟨rfl, y2'⟩ := kP_s y1'
  obtain ⟨c', vs, rfl, y3'⟩ := pO_s y2'
  obtain ⟨i, rfl, y4'⟩ := kI_s y3'
  obtain ⟨rfl, y5'⟩ := pE_s y4'
  obtain ⟨q', bl, rfl, y6'⟩ := bB_s y5'
  obtain ⟨p, rfl, y7'⟩ := rdPm_s y6'
  obtain ⟨rfl, y8'⟩ := bE_s y7'
  have yy' := y8'
  cases yy'
  exact (b_ref23_Lossless_0 ..).trans ((congrArg (LT.runc · Kc) (tu_ref23_Lossless_0 ..)).trans h')
theorem o_ref23_Lossless : loopsOf (bodyOf Try.f21) = [loopOf Try.f21 0] := by kernel_rfl
theorem zz_ref23_Lossless_0 (p : Pm) (hsm : small (p.st.length) = true) (hc : true = true) : ∃ k, ∀ (K : Ex → List V → List (Option Blk) → Option Out) r, (c_ref23_Lossless_0 p).run K = some r → (iter T_ref23_Lossless_0 k [.one (.ptr 0 0), .one (.int .i64 0)] [some (.box (pmC p))]).run K = some r := by
  refine z_idx (st := fun i => ([.one (.ptr 0 0), .one (.int .i64 ((i : Nat) : Int))], [some (.box (pmC p))])) (p.st.length) (fun j => gI p.st j == 1) _ _ (fun i hi F K => ?_) (fun F K => ?_)
  · have hi' : (i : Int) < (p.st.length : Int) := by omega
    simp only [tu_ref23_Lossless_0, U_ref23_Lossless_0, LT.next, LT.run, ite2_dec, ite2_bool, wrap_next hi hsm, Int.toNat_natCast, hi', Int.natCast_nonneg, and_self, if_true, gI, gP, gC, gR]
    simp [hdC, pmC] <;> (repeat' split) <;> simp_all [hdC, pmC]
  · simp only [tu_ref23_Lossless_0, U_ref23_Lossless_0, LT.next, LT.run, ite2_dec, Int.lt_irrefl, if_false]
    try rfl
theorem z_ref23_Lossless_0 : ∀ vs bl t, S_ref23_Lossless_0 vs bl = some (true, t) → ∃ n, ∀ (K : Ex → List V → List (Option Blk) → Option Out) r, t.run K = some r → (iter T_ref23_Lossless_0 n vs bl).run K = some r := by
  intro vs bl t y0'
  unfold S_ref23_Lossless_0 at y0'
  obtain ⟨c', vs, rfl, y1'⟩ := pO_s y0'
  obtain ⟨rfl, y2'⟩ := kP_s y1'
  obtain ⟨c', vs, rfl, y3'⟩ := pO_s y2'
  obtain ⟨i, rfl, y4'⟩ := kI_s y3'
  obtain ⟨rfl, y5'⟩ := pE_s y4'
  obtain ⟨q', bl, rfl, y6'⟩ := bB_s y5'
  obtain ⟨p, rfl, y7'⟩ := rdPm_s y6'
  obtain ⟨rfl, y8'⟩ := bE_s y7'
  have yy' := y8'
  obtain ⟨hk, rfl⟩ := Prod.mk.inj (Option.some.inj yy')
  unfold k_ref23_Lossless_0 at hk
  simp only [Bool.and_eq_true, decide_eq_true_eq, and_assoc] at hk
  obtain ⟨rfl, hsm, hc⟩ := hk
  exact zz_ref23_Lossless_0 _ hsm (by first | exact hc | simpa using hc)
theorem q_ref23_Lossless (p : Pm) (hok : small p.st.length = true) : funR Try.prog t_ref23_Lossless (annOf []) l_ref23_Lossless 20 Try.f21 [.agg (pmC p)] [] = some ⟨.one (.bool (lossless p)), [], []⟩ := by
    refine (e_ref23_Lossless ..).trans ?_
    have e := all_if p.st 0 (fun x => x == 1)
    simp only [ite2_bool, k_ref23_Lossless_0, p_ref23_Lossless_0, lossless, gI]
    grind
theorem s_ref23_Lossless : SoundFun Try.prog 21 G_ref23_Lossless := by
  refine fun_ok (tab := t_ref23_Lossless) (ann := annOf []) (lt := l_ref23_Lossless) (tab_cons s_ref08_Threshold tab_nil) (by kernel_rfl) (fn := Try.f21) (by kernel_rfl) (by decide) (c := bodyOf Try.f21) (by kernel_rfl) (by
    intro m b hb
    have hb' : b ∈ loopsOf (bodyOf Try.f21) := hb
    rw [o_ref23_Lossless] at hb'
    simp only [List.mem_cons, List.not_mem_nil, or_false] at hb'
    rcases hb' with rfl
    · exact loop_ok (key := 2) (by kernel_rfl) rfl r_ref23_Lossless_0 z_ref23_Lossless_0 m
    ) ?_
  intro args lent o y0'
  unfold G_ref23_Lossless at y0'
  obtain ⟨q', args, rfl, y1'⟩ := pA_s y0'
  obtain ⟨p, rfl, y2'⟩ := rdPm_s y1'
  obtain ⟨rfl, y3'⟩ := pE_s y2'
  obtain ⟨rfl, y4'⟩ := nE_s y3'
  have yy' := y4'
  unfold H_ref23_Lossless at yy'
  obtain ⟨hok, rfl⟩ := Prod.mk.inj (Option.some.inj yy')
  exact ⟨20, q_ref23_Lossless _ hok⟩
end Go.Rx.Ch23
