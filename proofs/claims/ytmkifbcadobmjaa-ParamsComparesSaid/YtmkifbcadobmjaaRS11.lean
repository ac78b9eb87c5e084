/- The summaries of these functions are sound. -/
import Derived.Test.YtmkifbcadobmjaaRE11
import Derived.Test.YtmkifbcadobmjaaRS10
set_option linter.unnecessarySimpa false
set_option linter.unusedVariables false
set_option linter.unusedSimpArgs false
set_option linter.unusedVariables false
set_option linter.unusedSimpArgs false
set_option maxRecDepth 100000
set_option maxHeartbeats 4000000
open Go Go.Rx Go.Proofs
namespace Go.Rx.Ch23
theorem few_small {h : Hd} {p : Pm} (hf : few h p = true) : small h.cs.length = true ∧ small p.pr.length = true ∧ small p.st.length = true := by
  simp only [few, Bool.and_eq_true, decide_eq_true_eq] at hf
  simp only [small, decide_eq_true_eq]
  omega
theorem q_awake  (hok : true = true) : funR Try.prog t_awake (annOf []) l_awake 20 Try.f10 [] [] = some ⟨.one (.bool true), [], []⟩ := by
    refine (e_awake ..).trans ?_
    kernel_rfl
theorem s_awake : SoundFun Try.prog 10 G_awake := by
  refine fun_ok (tab := t_awake) (ann := annOf []) (lt := l_awake) (tab_cons s_params_Header (tab_cons s_params_Check (tab_cons s_params_Precinct (tab_cons s_params_Planes (tab_cons s_params_Lossless tab_nil))))) (by kernel_rfl) (fn := Try.f10) (by kernel_rfl) (by decide) (c := bodyOf Try.f10) (by kernel_rfl) (fun m b hb => absurd hb (by show b ∉ loopsOf (bodyOf Try.f10); rw [show loopsOf (bodyOf Try.f10) = [] from by kernel_rfl]; exact List.not_mem_nil)) ?_
  intro args lent o y0'
  unfold G_awake at y0'
  obtain ⟨rfl, y1'⟩ := pE_s y0'
  obtain ⟨rfl, y2'⟩ := nE_s y1'
  have yy' := y2'
  unfold H_awake at yy'
  obtain ⟨hok, rfl⟩ := Prod.mk.inj (Option.some.inj yy')
  exact ⟨20, q_awake hok⟩
theorem q_ParamsHeaders (h : Hd) (hok : ok_ParamsHeaders h = true) : funR Try.prog t_ParamsHeaders (annOf []) l_ParamsHeaders 20 Try.f3 [.agg (hdC h)] [] = some ⟨.one (.bool true), [], []⟩ := by
    refine (e_ParamsHeaders ..).trans ?_
    by_cases hl : h.cs.length ≤ 10
    · have hs : small h.cs.length = true := by simp only [small, decide_eq_true_eq]; omega
      have h1 : ¬ (h.cs.length : Int) > 10 := by omega
      simp [ite2_bool, hs, h1]
    · have h1 : (h.cs.length : Int) > 10 := by omega
      simp [ite2_bool, h1]
theorem s_ParamsHeaders : SoundFun Try.prog 3 G_ParamsHeaders := by
  refine fun_ok (tab := t_ParamsHeaders) (ann := annOf []) (lt := l_ParamsHeaders) (tab_cons s_awake (tab_cons s_params_Header (tab_cons s_ref23_Header tab_nil))) (by kernel_rfl) (fn := Try.f3) (by kernel_rfl) (by decide) (c := bodyOf Try.f3) (by kernel_rfl) (fun m b hb => absurd hb (by show b ∉ loopsOf (bodyOf Try.f3); rw [show loopsOf (bodyOf Try.f3) = [] from by kernel_rfl]; exact List.not_mem_nil)) ?_
  intro args lent o y0'
  unfold G_ParamsHeaders at y0'
  obtain ⟨q', args, rfl, y1'⟩ := pA_s y0'
  obtain ⟨h, rfl, y2'⟩ := rdHd_s y1'
  obtain ⟨rfl, y3'⟩ := pE_s y2'
  obtain ⟨rfl, y4'⟩ := nE_s y3'
  have yy' := y4'
  unfold H_ParamsHeaders at yy'
  obtain ⟨hok, rfl⟩ := Prod.mk.inj (Option.some.inj yy')
  exact ⟨20, q_ParamsHeaders _ hok⟩
theorem q_ParamsChecks (h : Hd) (p : Pm) (hok : ok_ParamsChecks h p = true) : funR Try.prog t_ParamsChecks (annOf []) l_ParamsChecks 20 Try.f4 [.agg (hdC h), .agg (pmC p)] [] = some ⟨.one (.bool true), [], []⟩ := by
    refine (e_ParamsChecks ..).trans ?_
    cases hf : few h p
    · rfl
    · have hs := few_small hf
      simp [ite2_bool, hs, check_eq]
theorem s_ParamsChecks : SoundFun Try.prog 4 G_ParamsChecks := by
  refine fun_ok (tab := t_ParamsChecks) (ann := annOf []) (lt := l_ParamsChecks) (tab_cons s_awake (tab_cons s_few_ (tab_cons s_params_Check (tab_cons s_ref23_Check tab_nil)))) (by kernel_rfl) (fn := Try.f4) (by kernel_rfl) (by decide) (c := bodyOf Try.f4) (by kernel_rfl) (fun m b hb => absurd hb (by show b ∉ loopsOf (bodyOf Try.f4); rw [show loopsOf (bodyOf Try.f4) = [] from by kernel_rfl]; exact List.not_mem_nil)) ?_
  intro args lent o y0'
  unfold G_ParamsChecks at y0'
  obtain ⟨q', args, rfl, y1'⟩ := pA_s y0'
  obtain ⟨h, rfl, y2'⟩ := rdHd_s y1'
  obtain ⟨q', args, rfl, y3'⟩ := pA_s y2'
  obtain ⟨p, rfl, y4'⟩ := rdPm_s y3'
  obtain ⟨rfl, y5'⟩ := pE_s y4'
  obtain ⟨rfl, y6'⟩ := nE_s y5'
  have yy' := y6'
  unfold H_ParamsChecks at yy'
  obtain ⟨hok, rfl⟩ := Prod.mk.inj (Option.some.inj yy')
  exact ⟨20, q_ParamsChecks _ _ hok⟩
theorem q_ParamsNumbers (p : Pm) (r b : Int) (hok : ok_ParamsNumbers p r b = true) : funR Try.prog t_ParamsNumbers (annOf []) l_ParamsNumbers 20 Try.f5 [.agg (pmC p), .one (.int .i64 r), .one (.int .i64 b)] [] = some ⟨.one (.bool true), [], []⟩ := by
    refine (e_ParamsNumbers ..).trans ?_
    cases hf : few ⟨0, 0, 0, 0, 0, 0, []⟩ p
    · simp [ite2_bool, hf]
    · have hs := few_small hf
      simp [ite2_bool, hs, hf]
theorem s_ParamsNumbers : SoundFun Try.prog 5 G_ParamsNumbers := by
  refine fun_ok (tab := t_ParamsNumbers) (ann := annOf []) (lt := l_ParamsNumbers) (tab_cons s_awake (tab_cons s_few_ (tab_cons s_params_Precinct (tab_cons s_ref23_Precinct (tab_cons s_params_Planes (tab_cons s_ref23_Planes (tab_cons s_params_Lossless (tab_cons s_ref23_Lossless tab_nil)))))))) (by kernel_rfl) (fn := Try.f5) (by kernel_rfl) (by decide) (c := bodyOf Try.f5) (by kernel_rfl) (fun m b hb => absurd hb (by show b ∉ loopsOf (bodyOf Try.f5); rw [show loopsOf (bodyOf Try.f5) = [] from by kernel_rfl]; exact List.not_mem_nil)) ?_
  intro args lent o y0'
  unfold G_ParamsNumbers at y0'
  obtain ⟨q', args, rfl, y1'⟩ := pA_s y0'
  obtain ⟨p, rfl, y2'⟩ := rdPm_s y1'
  obtain ⟨c', args, rfl, y3'⟩ := pO_s y2'
  obtain ⟨r, rfl, y4'⟩ := kI_s y3'
  obtain ⟨c', args, rfl, y5'⟩ := pO_s y4'
  obtain ⟨b, rfl, y6'⟩ := kI_s y5'
  obtain ⟨rfl, y7'⟩ := pE_s y6'
  obtain ⟨rfl, y8'⟩ := nE_s y7'
  have yy' := y8'
  unfold H_ParamsNumbers at yy'
  obtain ⟨hok, rfl⟩ := Prod.mk.inj (Option.some.inj yy')
  exact ⟨20, q_ParamsNumbers _ _ _ hok⟩
theorem q_ParamsCompares (h1 h2 : Hd) (p1 p2 : Pm) (hok : ok_ParamsCompares h1 h2 p1 p2 = true) : funR Try.prog t_ParamsCompares (annOf []) l_ParamsCompares 20 Try.f8 [.agg (hdC h1 ++ (hdC h2 ++ (pmC p1 ++ pmC p2)))] [] = some ⟨.one (.bool true), [], []⟩ := by
    refine (e_ParamsCompares ..).trans ?_
    cases hf : few h1 p1
    · simp [ite2_bool]
    cases hg : few h2 p2
    · simp [ite2_bool]
    have hs := few_small hf
    simp [ite2_bool, hs]
theorem s_ParamsCompares : SoundFun Try.prog 8 G_ParamsCompares := by
  refine fun_ok (tab := t_ParamsCompares) (ann := annOf []) (lt := l_ParamsCompares) (tab_cons s_awake (tab_cons s_few_ (tab_cons s_params_Same (tab_cons s_ref23_Same tab_nil)))) (by kernel_rfl) (fn := Try.f8) (by kernel_rfl) (by decide) (c := bodyOf Try.f8) (by kernel_rfl) (fun m b hb => absurd hb (by show b ∉ loopsOf (bodyOf Try.f8); rw [show loopsOf (bodyOf Try.f8) = [] from by kernel_rfl]; exact List.not_mem_nil)) ?_
  intro args lent o y0'
  unfold G_ParamsCompares at y0'
  obtain ⟨q', args, rfl, y1'⟩ := pA_s y0'
  obtain ⟨h1, q', rfl, y2'⟩ := rdHd'_s y1'
  obtain ⟨h2, q', rfl, y3'⟩ := rdHd'_s y2'
  obtain ⟨p1, q', rfl, y4'⟩ := rdPm'_s y3'
  obtain ⟨p2, rfl, y5'⟩ := rdPm_s y4'
  obtain ⟨rfl, y6'⟩ := pE_s y5'
  obtain ⟨rfl, y7'⟩ := nE_s y6'
  have yy' := y7'
  unfold H_ParamsCompares at yy'
  obtain ⟨hok, rfl⟩ := Prod.mk.inj (Option.some.inj yy')
  exact ⟨20, q_ParamsCompares _ _ _ _ hok⟩
end Go.Rx.Ch23
