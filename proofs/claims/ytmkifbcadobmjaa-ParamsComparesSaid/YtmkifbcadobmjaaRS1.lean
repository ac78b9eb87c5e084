/- The summaries of these functions are sound. -/
import Derived.Test.YtmkifbcadobmjaaRE1
import Derived.Test.YtmkifbcadobmjaaRS0
set_option linter.unnecessarySimpa false
set_option linter.unusedVariables false
set_option linter.unusedSimpArgs false
set_option linter.unusedVariables false
set_option linter.unusedSimpArgs false
set_option maxRecDepth 100000
set_option maxHeartbeats 4000000
open Go Go.Rx Go.Proofs
namespace Go.Rx.Ch23
theorem q_few_ (h : Hd) (p : Pm) (hok : true = true) : funR Try.prog t_few_ (annOf []) l_few_ 20 Try.f13 [.agg (hdC h), .agg (pmC p)] [] = some ⟨.one (.bool (few h p)), [], []⟩ := by
    refine (e_few_ ..).trans ?_
    simp only [ite2_dec, ite2_bool, mx_eq, mn_eq, few]
    (repeat' split) <;> (try simp_all) <;> (try omega) <;> (try (rw [Bool.eq_iff_iff]; simp; omega))
theorem s_few_ : SoundFun Try.prog 13 G_few_ := by
  refine fun_ok (tab := t_few_) (ann := annOf []) (lt := l_few_) tab_nil (by kernel_rfl) (fn := Try.f13) (by kernel_rfl) (by decide) (c := bodyOf Try.f13) (by kernel_rfl) (fun m b hb => absurd hb (by show b ∉ loopsOf (bodyOf Try.f13); rw [show loopsOf (bodyOf Try.f13) = [] from by kernel_rfl]; exact List.not_mem_nil)) ?_
  intro args lent o y0'
  unfold G_few_ at y0'
  obtain ⟨q', args, rfl, y1'⟩ := pA_s y0'
  obtain ⟨h, rfl, y2'⟩ := rdHd_s y1'
  obtain ⟨q', args, rfl, y3'⟩ := pA_s y2'
  obtain ⟨p, rfl, y4'⟩ := rdPm_s y3'
  obtain ⟨rfl, y5'⟩ := pE_s y4'
  obtain ⟨rfl, y6'⟩ := nE_s y5'
  have yy' := y6'
  unfold H_few_ at yy'
  obtain ⟨hok, rfl⟩ := Prod.mk.inj (Option.some.inj yy')
  exact ⟨20, q_few_ _ _ hok⟩
theorem q_params_Precinct (p : Pm) (r : Int) (hok : true = true) : funR Try.prog t_params_Precinct (annOf []) l_params_Precinct 20 Try.f16 [.agg (pmC p), .one (.int .i64 r)] [] = some ⟨.agg [.int .i64 ((prec p r).1), .int .i64 ((prec p r).2)], [], []⟩ := by
    refine (e_params_Precinct ..).trans ?_
    simp only [ite2_dec, ite2_bool, mx_eq, mn_eq, prec]
    (repeat' split) <;> (try simp_all) <;> (try omega) <;> (try (rw [Bool.eq_iff_iff]; simp; omega))
theorem s_params_Precinct : SoundFun Try.prog 16 G_params_Precinct := by
  refine fun_ok (tab := t_params_Precinct) (ann := annOf []) (lt := l_params_Precinct) tab_nil (by kernel_rfl) (fn := Try.f16) (by kernel_rfl) (by decide) (c := bodyOf Try.f16) (by kernel_rfl) (fun m b hb => absurd hb (by show b ∉ loopsOf (bodyOf Try.f16); rw [show loopsOf (bodyOf Try.f16) = [] from by kernel_rfl]; exact List.not_mem_nil)) ?_
  intro args lent o y0'
  unfold G_params_Precinct at y0'
  obtain ⟨q', args, rfl, y1'⟩ := pA_s y0'
  obtain ⟨p, rfl, y2'⟩ := rdPm_s y1'
  obtain ⟨c', args, rfl, y3'⟩ := pO_s y2'
  obtain ⟨r, rfl, y4'⟩ := kI_s y3'
  obtain ⟨rfl, y5'⟩ := pE_s y4'
  obtain ⟨rfl, y6'⟩ := nE_s y5'
  have yy' := y6'
  unfold H_params_Precinct at yy'
  obtain ⟨hok, rfl⟩ := Prod.mk.inj (Option.some.inj yy')
  exact ⟨20, q_params_Precinct _ _ hok⟩
theorem q_ref23_Precinct (p : Pm) (r : Int) (hok : true = true) : funR Try.prog t_ref23_Precinct (annOf []) l_ref23_Precinct 20 Try.f17 [.agg (pmC p), .one (.int .i64 r)] [] = some ⟨.agg [.int .i64 ((prec p r).1), .int .i64 ((prec p r).2)], [], []⟩ := by
    refine (e_ref23_Precinct ..).trans ?_
    simp only [ite2_dec, ite2_bool, mx_eq, mn_eq, prec]
    (repeat' split) <;> (try simp_all) <;> (try omega) <;> (try (rw [Bool.eq_iff_iff]; simp; omega))
theorem s_ref23_Precinct : SoundFun Try.prog 17 G_ref23_Precinct := by
  refine fun_ok (tab := t_ref23_Precinct) (ann := annOf []) (lt := l_ref23_Precinct) tab_nil (by kernel_rfl) (fn := Try.f17) (by kernel_rfl) (by decide) (c := bodyOf Try.f17) (by kernel_rfl) (fun m b hb => absurd hb (by show b ∉ loopsOf (bodyOf Try.f17); rw [show loopsOf (bodyOf Try.f17) = [] from by kernel_rfl]; exact List.not_mem_nil)) ?_
  intro args lent o y0'
  unfold G_ref23_Precinct at y0'
  obtain ⟨q', args, rfl, y1'⟩ := pA_s y0'
  obtain ⟨p, rfl, y2'⟩ := rdPm_s y1'
  obtain ⟨c', args, rfl, y3'⟩ := pO_s y2'
  obtain ⟨r, rfl, y4'⟩ := kI_s y3'
  obtain ⟨rfl, y5'⟩ := pE_s y4'
  obtain ⟨rfl, y6'⟩ := nE_s y5'
  have yy' := y6'
  unfold H_ref23_Precinct at yy'
  obtain ⟨hok, rfl⟩ := Prod.mk.inj (Option.some.inj yy')
  exact ⟨20, q_ref23_Precinct _ _ hok⟩
theorem r_ref23_SameHeader_0 : RoundOk Try.prog t_ref23_SameHeader (annOf []) l_ref23_SameHeader Out 20 0 52 [2, 3, 5] (kxOf [] [4]) (loopOf Try.f30 0) T_ref23_SameHeader_0 := by
  intro vs bl Kc r h
  unfold T_ref23_SameHeader_0 at h
  obtain ⟨t, y0', h'⟩ := getD_run h
  obtain ⟨c', vs, rfl, y1'⟩ := pO_s y0'
  obtain ⟨rfl, y2'⟩ := kP_s y1'
  obtain ⟨c', vs, rfl, y3'⟩ := pO_s y2'
  obtain ⟨rfl, y4'⟩ := kP_s y3'
  obtain ⟨c', vs, rfl, y5'⟩ := pO_s y4'
  obtain ⟨i, rfl, y6'⟩ := kI_s y5'
  obtain ⟨rfl, y7'⟩ := pE_s y6'
  obtain ⟨q', bl, rfl, y8'⟩ := bB_s y7'
  obtain ⟨h1, rfl, y9'⟩ := rdHd_s y8'
  obtain ⟨q', bl, rfl, y10'⟩ := bB_s y9'
  obtain ⟨h2, rfl, y11'⟩ := rdHd_s y10'
  obtain ⟨rfl, y12'⟩ := bE_s y11'
  have yy' := y12'
  cases yy'
  exact (b_ref23_SameHeader_0 ..).trans ((congrArg (LT.runc · Kc) (tu_ref23_SameHeader_0 ..)).trans h')
theorem o_ref23_SameHeader : loopsOf (bodyOf Try.f30) = [loopOf Try.f30 0] := by kernel_rfl
theorem zz_ref23_SameHeader_0 (h1 h2 : Hd) (hsm : small (h1.cs.length) = true) (hc : decide (h1.cs.length = h2.cs.length) = true) : ∃ k, ∀ (K : Ex → List V → List (Option Blk) → Option Out) r, (c_ref23_SameHeader_0 h1 h2).run K = some r → (iter T_ref23_SameHeader_0 k [.one (.ptr 0 0), .one (.ptr 1 0), .one (.int .i64 0)] [some (.box (hdC h1)), some (.box (hdC h2))]).run K = some r := by
  refine z_idx (st := fun i => ([.one (.ptr 0 0), .one (.ptr 1 0), .one (.int .i64 ((i : Nat) : Int))], [some (.box (hdC h1)), some (.box (hdC h2))])) (h1.cs.length) (fun j => gC h1.cs j == gC h2.cs j) _ _ (fun i hi F K => ?_) (fun F K => ?_)
  · have hi' : (i : Int) < (h1.cs.length : Int) := by omega
    have hc' := hc
    simp only [Bool.and_eq_true, decide_eq_true_eq] at hc'
    simp only [tu_ref23_SameHeader_0, U_ref23_SameHeader_0, LT.next, LT.run, ite2_dec, ite2_bool, wrap_next hi hsm, Int.toNat_natCast, hi', Int.natCast_nonneg, and_self, if_true, gI, gP, gC, gR]
    have hj : (i : Int) < (h2.cs.length : Int) := by omega
    simp [hj, Prod.ext_iff, hdC, pmC] <;> (repeat' split) <;> simp_all [hdC, pmC]
  · simp only [tu_ref23_SameHeader_0, U_ref23_SameHeader_0, LT.next, LT.run, ite2_dec, Int.lt_irrefl, if_false]
    try rfl
theorem z_ref23_SameHeader_0 : ∀ vs bl t, S_ref23_SameHeader_0 vs bl = some (true, t) → ∃ n, ∀ (K : Ex → List V → List (Option Blk) → Option Out) r, t.run K = some r → (iter T_ref23_SameHeader_0 n vs bl).run K = some r := by
  intro vs bl t y0'
  unfold S_ref23_SameHeader_0 at y0'
  obtain ⟨c', vs, rfl, y1'⟩ := pO_s y0'
  obtain ⟨rfl, y2'⟩ := kP_s y1'
  obtain ⟨c', vs, rfl, y3'⟩ := pO_s y2'
  obtain ⟨rfl, y4'⟩ := kP_s y3'
  obtain ⟨c', vs, rfl, y5'⟩ := pO_s y4'
  obtain ⟨i, rfl, y6'⟩ := kI_s y5'
  obtain ⟨rfl, y7'⟩ := pE_s y6'
  obtain ⟨q', bl, rfl, y8'⟩ := bB_s y7'
  obtain ⟨h1, rfl, y9'⟩ := rdHd_s y8'
  obtain ⟨q', bl, rfl, y10'⟩ := bB_s y9'
  obtain ⟨h2, rfl, y11'⟩ := rdHd_s y10'
  obtain ⟨rfl, y12'⟩ := bE_s y11'
  have yy' := y12'
  obtain ⟨hk, rfl⟩ := Prod.mk.inj (Option.some.inj yy')
  unfold k_ref23_SameHeader_0 at hk
  simp only [Bool.and_eq_true, decide_eq_true_eq, and_assoc] at hk
  obtain ⟨rfl, hsm, hc⟩ := hk
  exact zz_ref23_SameHeader_0 _ _ hsm (by first | exact hc | simpa using hc)
theorem q_ref23_SameHeader (h1 h2 : Hd) (hok : small h1.cs.length = true) : funR Try.prog t_ref23_SameHeader (annOf []) l_ref23_SameHeader 20 Try.f30 [.agg (hdC h1), .agg (hdC h2)] [] = some ⟨.one (.bool (sameH h1 h2)), [], []⟩ := by
    refine (e_ref23_SameHeader ..).trans ?_
    simp only [ite2_bool, k_ref23_SameHeader_0, p_ref23_SameHeader_0, gC, sameH]
    by_cases hl : h1.cs.length = h2.cs.length
    · rw [all_eq h1.cs h2.cs _ hl]
      rw [hl] at hok
      simp [hl, hok]
      (repeat' split) <;> simp_all <;> (intros; simp_all)
    · have g1 : h1.cs ≠ h2.cs := fun e => hl (by rw [e])
      have g2 : ¬ ((h1.cs.length : Int) = h2.cs.length) := by omega
      simp [g1, g2]
theorem s_ref23_SameHeader : SoundFun Try.prog 30 G_ref23_SameHeader := by
  refine fun_ok (tab := t_ref23_SameHeader) (ann := annOf []) (lt := l_ref23_SameHeader) tab_nil (by kernel_rfl) (fn := Try.f30) (by kernel_rfl) (by decide) (c := bodyOf Try.f30) (by kernel_rfl) (by
    intro m b hb
    have hb' : b ∈ loopsOf (bodyOf Try.f30) := hb
    rw [o_ref23_SameHeader] at hb'
    simp only [List.mem_cons, List.not_mem_nil, or_false] at hb'
    rcases hb' with rfl
    · exact loop_ok (key := 4) (by kernel_rfl) rfl r_ref23_SameHeader_0 z_ref23_SameHeader_0 m
    ) ?_
  intro args lent o y0'
  unfold G_ref23_SameHeader at y0'
  obtain ⟨q', args, rfl, y1'⟩ := pA_s y0'
  obtain ⟨h1, rfl, y2'⟩ := rdHd_s y1'
  obtain ⟨q', args, rfl, y3'⟩ := pA_s y2'
  obtain ⟨h2, rfl, y4'⟩ := rdHd_s y3'
  obtain ⟨rfl, y5'⟩ := pE_s y4'
  obtain ⟨rfl, y6'⟩ := nE_s y5'
  have yy' := y6'
  unfold H_ref23_SameHeader at yy'
  obtain ⟨hok, rfl⟩ := Prod.mk.inj (Option.some.inj yy')
  exact ⟨20, q_ref23_SameHeader _ _ hok⟩
end Go.Rx.Ch23
