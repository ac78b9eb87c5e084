/- The summaries of these functions are sound. -/
import Derived.Test.YtmkifbcadobmjaaRxD
import Derived.Test.YtmkifbcadobmjaaRE12
import Derived.Test.YtmkifbcadobmjaaRS11
set_option linter.unnecessarySimpa false
set_option linter.unusedVariables false
set_option linter.unusedSimpArgs false
set_option linter.unusedVariables false
set_option linter.unusedSimpArgs false
set_option maxRecDepth 100000
set_option maxHeartbeats 4000000
open Go Go.Rx Go.Proofs
namespace Go.Rx.Ch23
theorem r_clI (l : List Int) (hok : decide (l.length ≤ 1000000) = true) : Runs Try.prog Try.f58 0 (bodyOf Try.f58) (initSt Try.f58 [.one (.lst (.int .i64) l)] []) ⟨.one (.row 0), [], [.arr 3 (.int .i64) l]⟩ := by
  have hk : l.length ≤ 1000000 := of_decide_eq_true hok
  refine clone_runs (id := 1) (o1 := regAt (seqL (seqL (seqR (bodyOf Try.f58)))) 0) (o2 := regAt (seqL (seqL (seqR (bodyOf Try.f58)))) 1) (y := seqR (seqL (seqR (bodyOf Try.f58)))) (z := seqR (seqR (bodyOf Try.f58))) (x := seqL (bodyOf Try.f58)) (s := (.int .i64)) (l := l) (t := 37) (e := 3) (d1 := 3) (d2 := 4) (st1 := (after Try.prog (tabOf []) 0 (seqL (bodyOf Try.f58)) (initSt Try.f58 [.one (.lst (.int .i64) l)] [])).getD (initSt Try.f58 [] [])) (by kernel_rfl) (by kernel_rfl) (by kernel_rfl) Try.underlying37 (by kernel_rfl) (by kernel_rfl) (by kernel_rfl) (by kernel_rfl) (by kernel_rfl) (by kernel_rfl) (by kernel_rfl) (by kernel_rfl) (of_decide_eq_true (by kernel_rfl)) ?_
  intro b hb
  refine (show _ = ite2 b (some ⟨.one (.row 0), [], [.arr 3 (.int .i64) ([] : List Int)]⟩) (ite2 (decide ((0 + l.length) * 9 ≤ 140737488355328)) (some ⟨.one (.row 0), [], [.arr 3 (.int .i64) (([] : List Int) ++ l)]⟩) none) from by kernel_rfl).trans ?_
  cases b
  · rw [show decide ((0 + l.length) * 9 ≤ 140737488355328) = true from decide_eq_true (by omega)]
    rfl
  · rw [hb rfl]; rfl
theorem s_clI : SoundFun Try.prog 58 G_clI := by
  refine fun_runs (fn := Try.f58) (c := bodyOf Try.f58) (by kernel_rfl) (by decide) (by kernel_rfl) ?_
  intro args lent o y0'
  unfold G_clI at y0'
  obtain ⟨c', args, rfl, y1'⟩ := pO_s y0'
  obtain ⟨l, rfl, y2'⟩ := kLI_s y1'
  obtain ⟨rfl, y3'⟩ := pE_s y2'
  obtain ⟨rfl, y4'⟩ := nE_s y3'
  have yy' := y4'
  unfold H_clI at yy'
  obtain ⟨hok, rfl⟩ := Prod.mk.inj (Option.some.inj yy')
  exact r_clI _ hok
theorem r_clP (l : List (Int × Int)) (hok : decide (l.length ≤ 1000000) = true) : Runs Try.prog Try.f57 0 (bodyOf Try.f57) (initSt Try.f57 [.one (.lst (.pair (.int .i64) (.int .i64)) l)] []) ⟨.one (.row 0), [], [.arr 43 (.pair (.int .i64) (.int .i64)) l]⟩ := by
  have hk : l.length ≤ 1000000 := of_decide_eq_true hok
  refine clone_runs (id := 1) (o1 := regAt (seqL (seqL (seqR (bodyOf Try.f57)))) 0) (o2 := regAt (seqL (seqL (seqR (bodyOf Try.f57)))) 1) (y := seqR (seqL (seqR (bodyOf Try.f57)))) (z := seqR (seqR (bodyOf Try.f57))) (x := seqL (bodyOf Try.f57)) (s := (.pair (.int .i64) (.int .i64))) (l := l) (t := 33) (e := 43) (d1 := 3) (d2 := 4) (st1 := (after Try.prog (tabOf []) 0 (seqL (bodyOf Try.f57)) (initSt Try.f57 [.one (.lst (.pair (.int .i64) (.int .i64)) l)] [])).getD (initSt Try.f57 [] [])) (by kernel_rfl) (by kernel_rfl) (by kernel_rfl) Try.underlying33 (by kernel_rfl) (by kernel_rfl) (by kernel_rfl) (by kernel_rfl) (by kernel_rfl) (by kernel_rfl) (by kernel_rfl) (by kernel_rfl) (of_decide_eq_true (by kernel_rfl)) ?_
  intro b hb
  refine (show _ = ite2 b (some ⟨.one (.row 0), [], [.arr 43 (.pair (.int .i64) (.int .i64)) ([] : List (Int × Int))]⟩) (ite2 (decide ((0 + l.length) * 17 ≤ 140737488355328)) (some ⟨.one (.row 0), [], [.arr 43 (.pair (.int .i64) (.int .i64)) (([] : List (Int × Int)) ++ l)]⟩) none) from by kernel_rfl).trans ?_
  cases b
  · rw [show decide ((0 + l.length) * 17 ≤ 140737488355328) = true from decide_eq_true (by omega)]
    rfl
  · rw [hb rfl]; rfl
theorem s_clP : SoundFun Try.prog 57 G_clP := by
  refine fun_runs (fn := Try.f57) (c := bodyOf Try.f57) (by kernel_rfl) (by decide) (by kernel_rfl) ?_
  intro args lent o y0'
  unfold G_clP at y0'
  obtain ⟨c', args, rfl, y1'⟩ := pO_s y0'
  obtain ⟨l, rfl, y2'⟩ := kLP_s y1'
  obtain ⟨rfl, y3'⟩ := pE_s y2'
  obtain ⟨rfl, y4'⟩ := nE_s y3'
  have yy' := y4'
  unfold H_clP at yy'
  obtain ⟨hok, rfl⟩ := Prod.mk.inj (Option.some.inj yy')
  exact r_clP _ hok
theorem r_clC (l : List (Int × Bool × Int × Int)) (hok : decide (l.length ≤ 1000000) = true) : Runs Try.prog Try.f56 0 (bodyOf Try.f56) (initSt Try.f56 [.one (.lst (.pair (.int .i64) (.pair .bool (.pair (.int .i64) (.int .i64)))) l)] []) ⟨.one (.row 0), [], [.arr 54 (.pair (.int .i64) (.pair .bool (.pair (.int .i64) (.int .i64)))) l]⟩ := by
  have hk : l.length ≤ 1000000 := of_decide_eq_true hok
  refine clone_runs (id := 1) (o1 := regAt (seqL (seqL (seqR (bodyOf Try.f56)))) 0) (o2 := regAt (seqL (seqL (seqR (bodyOf Try.f56)))) 1) (y := seqR (seqL (seqR (bodyOf Try.f56)))) (z := seqR (seqR (bodyOf Try.f56))) (x := seqL (bodyOf Try.f56)) (s := (.pair (.int .i64) (.pair .bool (.pair (.int .i64) (.int .i64))))) (l := l) (t := 24) (e := 54) (d1 := 3) (d2 := 4) (st1 := (after Try.prog (tabOf []) 0 (seqL (bodyOf Try.f56)) (initSt Try.f56 [.one (.lst (.pair (.int .i64) (.pair .bool (.pair (.int .i64) (.int .i64)))) l)] [])).getD (initSt Try.f56 [] [])) (by kernel_rfl) (by kernel_rfl) (by kernel_rfl) Try.underlying24 (by kernel_rfl) (by kernel_rfl) (by kernel_rfl) (by kernel_rfl) (by kernel_rfl) (by kernel_rfl) (by kernel_rfl) (by kernel_rfl) (of_decide_eq_true (by kernel_rfl)) ?_
  intro b hb
  refine (show _ = ite2 b (some ⟨.one (.row 0), [], [.arr 54 (.pair (.int .i64) (.pair .bool (.pair (.int .i64) (.int .i64)))) ([] : List (Int × Bool × Int × Int))]⟩) (ite2 (decide ((0 + l.length) * 33 ≤ 140737488355328)) (some ⟨.one (.row 0), [], [.arr 54 (.pair (.int .i64) (.pair .bool (.pair (.int .i64) (.int .i64)))) (([] : List (Int × Bool × Int × Int)) ++ l)]⟩) none) from by kernel_rfl).trans ?_
  cases b
  · rw [show decide ((0 + l.length) * 33 ≤ 140737488355328) = true from decide_eq_true (by omega)]
    rfl
  · rw [hb rfl]; rfl
theorem s_clC : SoundFun Try.prog 56 G_clC := by
  refine fun_runs (fn := Try.f56) (c := bodyOf Try.f56) (by kernel_rfl) (by decide) (by kernel_rfl) ?_
  intro args lent o y0'
  unfold G_clC at y0'
  obtain ⟨c', args, rfl, y1'⟩ := pO_s y0'
  obtain ⟨l, rfl, y2'⟩ := kLC_s y1'
  obtain ⟨rfl, y3'⟩ := pE_s y2'
  obtain ⟨rfl, y4'⟩ := nE_s y3'
  have yy' := y4'
  unfold H_clC at yy'
  obtain ⟨hok, rfl⟩ := Prod.mk.inj (Option.some.inj yy')
  exact r_clC _ hok
theorem q_params_Clone (h : Hd) (p : Pm) (hok : (decide (h.cs.length ≤ 1000000) && decide (p.pr.length ≤ 1000000) && decide (p.st.length ≤ 1000000)) = true) : funR Try.prog t_params_Clone (annOf []) l_params_Clone 20 Try.f27 [.agg (hdC h), .agg (pmC p)] [] = some ⟨.tup [(true, [.int .i64 h.a, .int .i64 h.b, .int .i64 h.c, .int .i64 h.d, .int .i64 h.tw, .int .i64 h.th, .row 0]), (true, [.int .i64 p.ke, .int .i64 p.le, .int .i64 p.co, .int .i64 p.bx, .int .i64 p.bw, .row 1, .int .i64 p.od, .int .i64 p.la, .bool p.m1, .bool p.m2, .bool p.m3, .bool p.m4, .bool p.m5, .bool p.dv, .bool p.sy, .bool p.fe, .row 2, .int .i64 p.de, .int .i64 p.sf])], [], [.arr 54 (.pair (.int .i64) (.pair .bool (.pair (.int .i64) (.int .i64)))) h.cs, .arr 43 (.pair (.int .i64) (.int .i64)) p.pr, .arr 3 (.int .i64) p.st]⟩ := by
    refine (e_params_Clone ..).trans ?_
    simp only [Bool.and_eq_true] at hok
    simp only [ite2_bool, hok, if_true]
theorem s_params_Clone : SoundFun Try.prog 27 G_params_Clone := by
  refine fun_ok (tab := t_params_Clone) (ann := annOf []) (lt := l_params_Clone) (tab_cons s_clC (tab_cons s_clP (tab_cons s_clI tab_nil))) (by kernel_rfl) (fn := Try.f27) (by kernel_rfl) (by decide) (c := bodyOf Try.f27) (by kernel_rfl) (fun m b hb => absurd hb (by show b ∉ loopsOf (bodyOf Try.f27); rw [show loopsOf (bodyOf Try.f27) = [] from by kernel_rfl]; exact List.not_mem_nil)) ?_
  intro args lent o y0'
  unfold G_params_Clone at y0'
  obtain ⟨q', args, rfl, y1'⟩ := pA_s y0'
  obtain ⟨h, rfl, y2'⟩ := rdHd_s y1'
  obtain ⟨q', args, rfl, y3'⟩ := pA_s y2'
  obtain ⟨p, rfl, y4'⟩ := rdPm_s y3'
  obtain ⟨rfl, y5'⟩ := pE_s y4'
  obtain ⟨rfl, y6'⟩ := nE_s y5'
  have yy' := y6'
  unfold H_params_Clone at yy'
  obtain ⟨hok, rfl⟩ := Prod.mk.inj (Option.some.inj yy')
  exact ⟨20, q_params_Clone _ _ hok⟩
end Go.Rx.Ch23
