/- The summaries of these functions are sound. -/
import Derived.Test.YtmkifbcadobmjaaRE5
import Derived.Test.YtmkifbcadobmjaaRS4
set_option linter.unnecessarySimpa false
set_option linter.unusedVariables false
set_option linter.unusedSimpArgs false
set_option linter.unusedVariables false
set_option linter.unusedSimpArgs false
set_option maxRecDepth 100000
set_option maxHeartbeats 4000000
open Go Go.Rx Go.Proofs
namespace Go.Rx.Ch23
theorem r_params_numbers_0 : RoundOk Try.prog t_params_numbers (annOf []) l_params_numbers Out 20 0 114 [2, 3, 36, 37, 38] (kxOf [2, 3] [4]) (loopOf Try.f42 0) T_params_numbers_0 := by
  intro vs bl Kc r h
  unfold T_params_numbers_0 at h
  obtain ⟨t, y0', h'⟩ := getD_run h
  obtain ⟨c', vs, rfl, y1'⟩ := pO_s y0'
  obtain ⟨rfl, y2'⟩ := kP_s y1'
  obtain ⟨c', vs, rfl, y3'⟩ := pO_s y2'
  obtain ⟨rfl, y4'⟩ := kP_s y3'
  obtain ⟨c', vs, rfl, y5'⟩ := pO_s y4'
  obtain ⟨l, rfl, y6'⟩ := kLP_s y5'
  obtain ⟨c', vs, rfl, y7'⟩ := pO_s y6'
  obtain ⟨n, rfl, y8'⟩ := kI_s y7'
  obtain ⟨c', vs, rfl, y9'⟩ := pO_s y8'
  obtain ⟨i, rfl, y10'⟩ := kI_s y9'
  obtain ⟨rfl, y11'⟩ := pE_s y10'
  obtain ⟨q', bl, rfl, y12'⟩ := bB_s y11'
  obtain ⟨h, rfl, y13'⟩ := rdHd_s y12'
  obtain ⟨q', bl, rfl, y14'⟩ := bB_s y13'
  obtain ⟨p, rfl, y15'⟩ := rdPm_s y14'
  obtain ⟨rfl, y16'⟩ := bE_s y15'
  have yy' := y16'
  cases yy'
  exact (b_params_numbers_0 ..).trans ((congrArg (LT.runc · Kc) (tu_params_numbers_0 ..)).trans h')
theorem o_params_numbers : loopsOf (bodyOf Try.f42) = [loopOf Try.f42 0] := by kernel_rfl
theorem zz_params_numbers_0 (h : Hd) (p : Pm) (l : List (Int × Int)) (hsm : small (l.length) = true) (hc : decide (l = p.pr) = true) : ∃ k, ∀ (K : Ex → List V → List (Option Blk) → Option Out) r, (c_params_numbers_0 h p l).run K = some r → (iter T_params_numbers_0 k [.one (.ptr 0 0), .one (.ptr 1 0), .one (.lst (.pair (.int .i64) (.int .i64)) l), .one (.int .i64 (l.length : Int)), .one (.int .i64 0)] [some (.box (hdC h)), some (.box (pmC p))]).run K = some r := by
  refine z_idx (st := fun i => ([.one (.ptr 0 0), .one (.ptr 1 0), .one (.lst (.pair (.int .i64) (.int .i64)) l), .one (.int .i64 (l.length : Int)), .one (.int .i64 ((i : Nat) : Int))], [some (.box (hdC h)), some (.box (pmC p))])) (l.length) (prq p) _ _ (fun i hi F K => ?_) (fun F K => ?_)
  · have hi' : (i : Int) < (l.length : Int) := by omega
    have hc' := hc
    simp only [Bool.and_eq_true, decide_eq_true_eq] at hc'
    simp only [tu_params_numbers_0, U_params_numbers_0, LT.next, LT.run, ite2_dec, ite2_bool, wrap_next hi hsm, Int.toNat_natCast, hi', Int.natCast_nonneg, and_self, if_true, gI, gP, gC, gR]
    subst hc'
    simp [hdC, pmC, prq, pmin, within, gP]
    grind
  · simp only [tu_params_numbers_0, U_params_numbers_0, LT.next, LT.run, ite2_dec, Int.lt_irrefl, if_false]
    try rfl
theorem z_params_numbers_0 : ∀ vs bl t, S_params_numbers_0 vs bl = some (true, t) → ∃ n, ∀ (K : Ex → List V → List (Option Blk) → Option Out) r, t.run K = some r → (iter T_params_numbers_0 n vs bl).run K = some r := by
  intro vs bl t y0'
  unfold S_params_numbers_0 at y0'
  obtain ⟨c', vs, rfl, y1'⟩ := pO_s y0'
  obtain ⟨rfl, y2'⟩ := kP_s y1'
  obtain ⟨c', vs, rfl, y3'⟩ := pO_s y2'
  obtain ⟨rfl, y4'⟩ := kP_s y3'
  obtain ⟨c', vs, rfl, y5'⟩ := pO_s y4'
  obtain ⟨l, rfl, y6'⟩ := kLP_s y5'
  obtain ⟨c', vs, rfl, y7'⟩ := pO_s y6'
  obtain ⟨n, rfl, y8'⟩ := kI_s y7'
  obtain ⟨c', vs, rfl, y9'⟩ := pO_s y8'
  obtain ⟨i, rfl, y10'⟩ := kI_s y9'
  obtain ⟨rfl, y11'⟩ := pE_s y10'
  obtain ⟨q', bl, rfl, y12'⟩ := bB_s y11'
  obtain ⟨h, rfl, y13'⟩ := rdHd_s y12'
  obtain ⟨q', bl, rfl, y14'⟩ := bB_s y13'
  obtain ⟨p, rfl, y15'⟩ := rdPm_s y14'
  obtain ⟨rfl, y16'⟩ := bE_s y15'
  have yy' := y16'
  obtain ⟨hk, rfl⟩ := Prod.mk.inj (Option.some.inj yy')
  unfold k_params_numbers_0 at hk
  simp only [Bool.and_eq_true, decide_eq_true_eq, and_assoc] at hk
  obtain ⟨rfl, rfl, hsm, hc⟩ := hk
  exact zz_params_numbers_0 _ _ _ hsm (by first | exact hc | simpa using hc)
theorem q_params_numbers (h : Hd) (p : Pm) (hok : (small p.pr.length && small p.st.length) = true) : funR Try.prog t_params_numbers (annOf []) l_params_numbers 20 Try.f42 [.agg (hdC h), .agg (pmC p)] [] = some ⟨.one (.bool (nums p && colors h p)), [], []⟩ := by
    refine (e_params_numbers ..).trans ?_
    simp only [Bool.and_eq_true] at hok
    simp only [ite2_bool, nums, colors, precs, within, List.all_cons, List.all_nil, Bool.and_true, k_params_numbers_0, p_params_numbers_0]
    by_cases hle : inr 0 5 p.le = true
    · have hle' := hle
      simp only [inr, Bool.and_eq_true, decide_eq_true_eq] at hle'
      rw [wrap_in (n := p.le + 1) (by omega) (by omega), wrap_in (n := 3 * p.le) (by omega) (by omega), wrap_in (n := 3 * p.le + 1) (by omega) (by omega)]
      simp only [Prod.ext_iff]
      generalize p.st.all (inr 1 65536) = x
      generalize (List.range p.pr.length).all (prq p) = y
      simp only [hok, hle]
      cases c1 : inr 2 6 p.bx
      · simp
      cases c2 : inr 2 6 p.bw
      · simp
      cases c3 : inr 1 16 p.la
      · simp
      cases c4 : inr 8 32 p.de
      · simp
      cases c5 : inr 0 30 p.sf
      · simp
      cases x
      · simp
      cases y
      · simp
      by_cases c6 : (p.st.length : Int) = 3 * p.le + 1
      rotate_left
      · simp [c6]
      by_cases c7 : p.pr.length = 0
      · simp [c6, c7]
        by_cases c8 : p.co = 0
        · simp [c8]
        by_cases c9 : 3 ≤ h.cs.length
        · have a1 : (3 : Int) ≤ h.cs.length := by omega
          have a2 : (0 : Int) < h.cs.length := by omega
          have a3 : (1 : Int) < h.cs.length := by omega
          have a4 : (2 : Int) < h.cs.length := by omega
          simp [c8, c9, a1, a2, a3, a4]
          grind
        · have a1 : ¬ (3 : Int) ≤ h.cs.length := by omega
          simp [c8, c9, a1]
      · by_cases c8 : (p.pr.length : Int) = p.le + 1
        rotate_left
        · simp [c6, c7, c8]
        have c7' : p.pr ≠ [] := fun e => c7 (by rw [e]; rfl)
        simp [c6, c7, c7', c8]
        by_cases c9 : p.co = 0
        · simp [c9]
        by_cases c10 : 3 ≤ h.cs.length
        · have a1 : (3 : Int) ≤ h.cs.length := by omega
          have a2 : (0 : Int) < h.cs.length := by omega
          have a3 : (1 : Int) < h.cs.length := by omega
          have a4 : (2 : Int) < h.cs.length := by omega
          simp [c9, c10, a1, a2, a3, a4]
          grind
        · have a1 : ¬ (3 : Int) ≤ h.cs.length := by omega
          simp [c9, c10, a1]
    · simp [hle]
theorem s_params_numbers : SoundFun Try.prog 42 G_params_numbers := by
  refine fun_ok (tab := t_params_numbers) (ann := annOf []) (lt := l_params_numbers) (tab_cons s_params_within tab_nil) (by kernel_rfl) (fn := Try.f42) (by kernel_rfl) (by decide) (c := bodyOf Try.f42) (by kernel_rfl) (by
    intro m b hb
    have hb' : b ∈ loopsOf (bodyOf Try.f42) := hb
    rw [o_params_numbers] at hb'
    simp only [List.mem_cons, List.not_mem_nil, or_false] at hb'
    rcases hb' with rfl
    · exact loop_ok (key := 6) (by kernel_rfl) rfl r_params_numbers_0 z_params_numbers_0 m
    ) ?_
  intro args lent o y0'
  unfold G_params_numbers at y0'
  obtain ⟨q', args, rfl, y1'⟩ := pA_s y0'
  obtain ⟨h, rfl, y2'⟩ := rdHd_s y1'
  obtain ⟨q', args, rfl, y3'⟩ := pA_s y2'
  obtain ⟨p, rfl, y4'⟩ := rdPm_s y3'
  obtain ⟨rfl, y5'⟩ := pE_s y4'
  obtain ⟨rfl, y6'⟩ := nE_s y5'
  have yy' := y6'
  unfold H_params_numbers at yy'
  obtain ⟨hok, rfl⟩ := Prod.mk.inj (Option.some.inj yy')
  exact ⟨20, q_params_numbers _ _ hok⟩
theorem r_ref23_numbers_0 : RoundOk Try.prog t_ref23_numbers (annOf []) l_ref23_numbers Out 20 0 103 [1, 3] (kxOf [1] [2]) (loopOf Try.f45 0) T_ref23_numbers_0 := by
  intro vs bl Kc r h
  unfold T_ref23_numbers_0 at h
  obtain ⟨t, y0', h'⟩ := getD_run h
  obtain ⟨c', vs, rfl, y1'⟩ := pO_s y0'
  obtain ⟨rfl, y2'⟩ := kP_s y1'
  obtain ⟨c', vs, rfl, y3'⟩ := pO_s y2'
  obtain ⟨i, rfl, y4'⟩ := kI_s y3'
  obtain ⟨rfl, y5'⟩ := pE_s y4'
  obtain ⟨q', bl, rfl, y6'⟩ := bB_s y5'
  obtain ⟨p, rfl, y7'⟩ := rdPm_s y6'
  obtain ⟨rfl, y8'⟩ := bE_s y7'
  have yy' := y8'
  cases yy'
  exact (b_ref23_numbers_0 ..).trans ((congrArg (LT.runc · Kc) (tu_ref23_numbers_0 ..)).trans h')
theorem r_ref23_numbers_1 : RoundOk Try.prog t_ref23_numbers (annOf []) l_ref23_numbers Out 20 0 103 [1, 4] (kxOf [] [2]) (loopOf Try.f45 1) T_ref23_numbers_1 := by
  intro vs bl Kc r h
  unfold T_ref23_numbers_1 at h
  obtain ⟨t, y0', h'⟩ := getD_run h
  obtain ⟨c', vs, rfl, y1'⟩ := pO_s y0'
  obtain ⟨rfl, y2'⟩ := kP_s y1'
  obtain ⟨c', vs, rfl, y3'⟩ := pO_s y2'
  obtain ⟨i, rfl, y4'⟩ := kI_s y3'
  obtain ⟨rfl, y5'⟩ := pE_s y4'
  obtain ⟨q', bl, rfl, y6'⟩ := bB_s y5'
  obtain ⟨p, rfl, y7'⟩ := rdPm_s y6'
  obtain ⟨rfl, y8'⟩ := bE_s y7'
  have yy' := y8'
  cases yy'
  exact (b_ref23_numbers_1 ..).trans ((congrArg (LT.runc · Kc) (tu_ref23_numbers_1 ..)).trans h')
theorem o_ref23_numbers : loopsOf (bodyOf Try.f45) = [loopOf Try.f45 0, loopOf Try.f45 1] := by kernel_rfl
theorem zz_ref23_numbers_0 (p : Pm) (hsm : small (p.st.length) = true) (hc : true = true) : ∃ k, ∀ (K : Ex → List V → List (Option Blk) → Option Out) r, (c_ref23_numbers_0 p).run K = some r → (iter T_ref23_numbers_0 k [.one (.ptr 0 0), .one (.int .i64 0)] [some (.box (pmC p))]).run K = some r := by
  refine z_idx (st := fun i => ([.one (.ptr 0 0), .one (.int .i64 ((i : Nat) : Int))], [some (.box (pmC p))])) (p.st.length) (fun j => inr 1 65536 (gI p.st j)) _ _ (fun i hi F K => ?_) (fun F K => ?_)
  · have hi' : (i : Int) < (p.st.length : Int) := by omega
    simp only [tu_ref23_numbers_0, U_ref23_numbers_0, LT.next, LT.run, ite2_dec, ite2_bool, wrap_next hi hsm, Int.toNat_natCast, hi', Int.natCast_nonneg, and_self, if_true, gI, gP, gC, gR]
    simp [hdC, pmC]
    grind
  · simp only [tu_ref23_numbers_0, U_ref23_numbers_0, LT.next, LT.run, ite2_dec, Int.lt_irrefl, if_false]
    try rfl
theorem z_ref23_numbers_0 : ∀ vs bl t, S_ref23_numbers_0 vs bl = some (true, t) → ∃ n, ∀ (K : Ex → List V → List (Option Blk) → Option Out) r, t.run K = some r → (iter T_ref23_numbers_0 n vs bl).run K = some r := by
  intro vs bl t y0'
  unfold S_ref23_numbers_0 at y0'
  obtain ⟨c', vs, rfl, y1'⟩ := pO_s y0'
  obtain ⟨rfl, y2'⟩ := kP_s y1'
  obtain ⟨c', vs, rfl, y3'⟩ := pO_s y2'
  obtain ⟨i, rfl, y4'⟩ := kI_s y3'
  obtain ⟨rfl, y5'⟩ := pE_s y4'
  obtain ⟨q', bl, rfl, y6'⟩ := bB_s y5'
  obtain ⟨p, rfl, y7'⟩ := rdPm_s y6'
  obtain ⟨rfl, y8'⟩ := bE_s y7'
  have yy' := y8'
  obtain ⟨hk, rfl⟩ := Prod.mk.inj (Option.some.inj yy')
  unfold k_ref23_numbers_0 at hk
  simp only [Bool.and_eq_true, decide_eq_true_eq, and_assoc] at hk
  obtain ⟨rfl, hsm, hc⟩ := hk
  exact zz_ref23_numbers_0 _ hsm (by first | exact hc | simpa using hc)
theorem zz_ref23_numbers_1 (p : Pm) (hsm : small (p.pr.length) = true) (hc : true = true) : ∃ k, ∀ (K : Ex → List V → List (Option Blk) → Option Out) r, (c_ref23_numbers_1 p).run K = some r → (iter T_ref23_numbers_1 k [.one (.ptr 0 0), .one (.int .i64 0)] [some (.box (pmC p))]).run K = some r := by
  refine z_idx (st := fun i => ([.one (.ptr 0 0), .one (.int .i64 ((i : Nat) : Int))], [some (.box (pmC p))])) (p.pr.length) (prq p) _ _ (fun i hi F K => ?_) (fun F K => ?_)
  · have hi' : (i : Int) < (p.pr.length : Int) := by omega
    simp only [tu_ref23_numbers_1, U_ref23_numbers_1, LT.next, LT.run, ite2_dec, ite2_bool, wrap_next hi hsm, Int.toNat_natCast, hi', Int.natCast_nonneg, and_self, if_true, gI, gP, gC, gR]
    simp [hdC, pmC, prq, pmin, gP]
    grind
  · simp only [tu_ref23_numbers_1, U_ref23_numbers_1, LT.next, LT.run, ite2_dec, Int.lt_irrefl, if_false]
    try rfl
theorem z_ref23_numbers_1 : ∀ vs bl t, S_ref23_numbers_1 vs bl = some (true, t) → ∃ n, ∀ (K : Ex → List V → List (Option Blk) → Option Out) r, t.run K = some r → (iter T_ref23_numbers_1 n vs bl).run K = some r := by
  intro vs bl t y0'
  unfold S_ref23_numbers_1 at y0'
  obtain ⟨c', vs, rfl, y1'⟩ := pO_s y0'
  obtain ⟨rfl, y2'⟩ := kP_s y1'
  obtain ⟨c', vs, rfl, y3'⟩ := pO_s y2'
  obtain ⟨i, rfl, y4'⟩ := kI_s y3'
  obtain ⟨rfl, y5'⟩ := pE_s y4'
  obtain ⟨q', bl, rfl, y6'⟩ := bB_s y5'
  obtain ⟨p, rfl, y7'⟩ := rdPm_s y6'
  obtain ⟨rfl, y8'⟩ := bE_s y7'
  have yy' := y8'
  obtain ⟨hk, rfl⟩ := Prod.mk.inj (Option.some.inj yy')
  unfold k_ref23_numbers_1 at hk
  simp only [Bool.and_eq_true, decide_eq_true_eq, and_assoc] at hk
  obtain ⟨rfl, hsm, hc⟩ := hk
  exact zz_ref23_numbers_1 _ hsm (by first | exact hc | simpa using hc)
theorem q_ref23_numbers (p : Pm) (hok : (small p.pr.length && small p.st.length) = true) : funR Try.prog t_ref23_numbers (annOf []) l_ref23_numbers 20 Try.f45 [.agg (pmC p)] [] = some ⟨.one (.bool (nums p)), [], []⟩ := by
    refine (e_ref23_numbers ..).trans ?_
    simp only [Bool.and_eq_true] at hok
    simp only [ite2_bool, nums, colors, precs, within, List.all_cons, List.all_nil, Bool.and_true, k_ref23_numbers_0, p_ref23_numbers_0, k_ref23_numbers_1, p_ref23_numbers_1, gI]
    by_cases hle : inr 0 5 p.le = true
    · have hle' := hle
      simp only [inr, Bool.and_eq_true, decide_eq_true_eq] at hle'
      rw [wrap_in (n := p.le + 1) (by omega) (by omega), wrap_in (n := 3 * p.le) (by omega) (by omega), wrap_in (n := 3 * p.le + 1) (by omega) (by omega)]
      rw [all_if p.st 0 (inr 1 65536)]
      generalize p.st.all (inr 1 65536) = x
      
      simp only [hok, hle]
      cases c1 : inr 2 6 p.bx
      · simp
      cases c2 : inr 2 6 p.bw
      · simp
      cases c3 : inr 1 16 p.la
      · simp
      cases c4 : inr 8 32 p.de
      · simp
      cases c5 : inr 0 30 p.sf
      · simp
      cases x
      · simp
      by_cases c6 : (p.st.length : Int) = 3 * p.le + 1
      rotate_left
      · simp [c6]
      by_cases c7 : p.pr = []
      · simp [c6, c7]
      · by_cases c8 : (p.pr.length : Int) = p.le + 1
        · have c9 : ¬ p.le + 1 = 0 := by omega
          generalize (List.range p.pr.length).all (prq p) = y
          cases y <;> simp [c6, c7, c8, c9]
        · simp [c6, c7, c8]
    · simp [hle]
theorem s_ref23_numbers : SoundFun Try.prog 45 G_ref23_numbers := by
  refine fun_ok (tab := t_ref23_numbers) (ann := annOf []) (lt := l_ref23_numbers) (tab_cons s_ref23_in tab_nil) (by kernel_rfl) (fn := Try.f45) (by kernel_rfl) (by decide) (c := bodyOf Try.f45) (by kernel_rfl) (by
    intro m b hb
    have hb' : b ∈ loopsOf (bodyOf Try.f45) := hb
    rw [o_ref23_numbers] at hb'
    simp only [List.mem_cons, List.not_mem_nil, or_false] at hb'
    rcases hb' with rfl | rfl
    · exact loop_ok (key := 4) (by kernel_rfl) rfl r_ref23_numbers_0 z_ref23_numbers_0 m
    · exact loop_ok (key := 13) (by kernel_rfl) rfl r_ref23_numbers_1 z_ref23_numbers_1 m
    ) ?_
  intro args lent o y0'
  unfold G_ref23_numbers at y0'
  obtain ⟨q', args, rfl, y1'⟩ := pA_s y0'
  obtain ⟨p, rfl, y2'⟩ := rdPm_s y1'
  obtain ⟨rfl, y3'⟩ := pE_s y2'
  obtain ⟨rfl, y4'⟩ := nE_s y3'
  have yy' := y4'
  unfold H_ref23_numbers at yy'
  obtain ⟨hok, rfl⟩ := Prod.mk.inj (Option.some.inj yy')
  exact ⟨20, q_ref23_numbers _ hok⟩
end Go.Rx.Ch23
