/- The summaries of these functions are sound. -/
import Derived.Test.YtmkifbcadobmjaaRE0
set_option linter.unnecessarySimpa false
set_option linter.unusedVariables false
set_option linter.unusedSimpArgs false
set_option linter.unusedVariables false
set_option linter.unusedSimpArgs false
set_option maxRecDepth 100000
set_option maxHeartbeats 4000000
open Go Go.Rx Go.Proofs
namespace Go.Rx.Ch23
theorem q_rect_Empty (a b c d : Int) (hok : true = true) : funR Try.prog t_rect_Empty (annOf []) l_rect_Empty 20 Try.f23 [.agg [.int .i64 a, .int .i64 b, .int .i64 c, .int .i64 d]] [] = some ⟨.one (.bool (empty a b c d)), [], []⟩ := by
    refine (e_rect_Empty ..).trans ?_
    simp only [ite2_dec, ite2_bool, mx_eq, mn_eq, empty]
    (repeat' split) <;> (try simp_all) <;> (try omega) <;> (try (rw [Bool.eq_iff_iff]; simp; omega))
theorem s_rect_Empty : SoundFun Try.prog 23 G_rect_Empty := by
  refine fun_ok (tab := t_rect_Empty) (ann := annOf []) (lt := l_rect_Empty) tab_nil (by kernel_rfl) (fn := Try.f23) (by kernel_rfl) (by decide) (c := bodyOf Try.f23) (by kernel_rfl) (fun m b hb => absurd hb (by show b ∉ loopsOf (bodyOf Try.f23); rw [show loopsOf (bodyOf Try.f23) = [] from by kernel_rfl]; exact List.not_mem_nil)) ?_
  intro args lent o y0'
  unfold G_rect_Empty at y0'
  obtain ⟨q', args, rfl, y1'⟩ := pA_s y0'
  obtain ⟨c', q', rfl, y2'⟩ := tC_s y1'
  obtain ⟨a, rfl, y3'⟩ := kI_s y2'
  obtain ⟨c', q', rfl, y4'⟩ := tC_s y3'
  obtain ⟨b, rfl, y5'⟩ := kI_s y4'
  obtain ⟨c', q', rfl, y6'⟩ := tC_s y5'
  obtain ⟨c, rfl, y7'⟩ := kI_s y6'
  obtain ⟨c', q', rfl, y8'⟩ := tC_s y7'
  obtain ⟨d, rfl, y9'⟩ := kI_s y8'
  obtain ⟨rfl, y10'⟩ := tE_s y9'
  obtain ⟨rfl, y11'⟩ := pE_s y10'
  obtain ⟨rfl, y12'⟩ := nE_s y11'
  have yy' := y12'
  unfold H_rect_Empty at yy'
  obtain ⟨hok, rfl⟩ := Prod.mk.inj (Option.some.inj yy')
  exact ⟨20, q_rect_Empty _ _ _ _ hok⟩
theorem q_rect_Valid (a b c d : Int) (hok : true = true) : funR Try.prog t_rect_Valid (annOf []) l_rect_Valid 20 Try.f32 [.agg [.int .i64 a, .int .i64 b, .int .i64 c, .int .i64 d]] [] = some ⟨.one (.bool (valid a b c d)), [], []⟩ := by
    refine (e_rect_Valid ..).trans ?_
    simp only [ite2_dec, ite2_bool, mx_eq, mn_eq, valid]
    (repeat' split) <;> (try simp_all) <;> (try omega) <;> (try (rw [Bool.eq_iff_iff]; simp; omega))
theorem s_rect_Valid : SoundFun Try.prog 32 G_rect_Valid := by
  refine fun_ok (tab := t_rect_Valid) (ann := annOf []) (lt := l_rect_Valid) tab_nil (by kernel_rfl) (fn := Try.f32) (by kernel_rfl) (by decide) (c := bodyOf Try.f32) (by kernel_rfl) (fun m b hb => absurd hb (by show b ∉ loopsOf (bodyOf Try.f32); rw [show loopsOf (bodyOf Try.f32) = [] from by kernel_rfl]; exact List.not_mem_nil)) ?_
  intro args lent o y0'
  unfold G_rect_Valid at y0'
  obtain ⟨q', args, rfl, y1'⟩ := pA_s y0'
  obtain ⟨c', q', rfl, y2'⟩ := tC_s y1'
  obtain ⟨a, rfl, y3'⟩ := kI_s y2'
  obtain ⟨c', q', rfl, y4'⟩ := tC_s y3'
  obtain ⟨b, rfl, y5'⟩ := kI_s y4'
  obtain ⟨c', q', rfl, y6'⟩ := tC_s y5'
  obtain ⟨c, rfl, y7'⟩ := kI_s y6'
  obtain ⟨c', q', rfl, y8'⟩ := tC_s y7'
  obtain ⟨d, rfl, y9'⟩ := kI_s y8'
  obtain ⟨rfl, y10'⟩ := tE_s y9'
  obtain ⟨rfl, y11'⟩ := pE_s y10'
  obtain ⟨rfl, y12'⟩ := nE_s y11'
  have yy' := y12'
  unfold H_rect_Valid at yy'
  obtain ⟨hok, rfl⟩ := Prod.mk.inj (Option.some.inj yy')
  exact ⟨20, q_rect_Valid _ _ _ _ hok⟩
theorem q_rect_CeilDiv (a b : Int) (hok : true = true) : funR Try.prog t_rect_CeilDiv (annOf []) l_rect_CeilDiv 20 Try.f34 [.one (.int .i64 a), .one (.int .i64 b)] [] = some ⟨.one (.int .i64 (cdiv a b)), [], []⟩ := by
    refine (e_rect_CeilDiv ..).trans ?_
    simp only [ite2_dec, ite2_bool, mx_eq, mn_eq, cdiv]
    (repeat' split) <;> (try simp_all) <;> (try omega) <;> (try (rw [Bool.eq_iff_iff]; simp; omega))
theorem s_rect_CeilDiv : SoundFun Try.prog 34 G_rect_CeilDiv := by
  refine fun_ok (tab := t_rect_CeilDiv) (ann := annOf []) (lt := l_rect_CeilDiv) tab_nil (by kernel_rfl) (fn := Try.f34) (by kernel_rfl) (by decide) (c := bodyOf Try.f34) (by kernel_rfl) (fun m b hb => absurd hb (by show b ∉ loopsOf (bodyOf Try.f34); rw [show loopsOf (bodyOf Try.f34) = [] from by kernel_rfl]; exact List.not_mem_nil)) ?_
  intro args lent o y0'
  unfold G_rect_CeilDiv at y0'
  obtain ⟨c', args, rfl, y1'⟩ := pO_s y0'
  obtain ⟨a, rfl, y2'⟩ := kI_s y1'
  obtain ⟨c', args, rfl, y3'⟩ := pO_s y2'
  obtain ⟨b, rfl, y4'⟩ := kI_s y3'
  obtain ⟨rfl, y5'⟩ := pE_s y4'
  obtain ⟨rfl, y6'⟩ := nE_s y5'
  have yy' := y6'
  unfold H_rect_CeilDiv at yy'
  obtain ⟨hok, rfl⟩ := Prod.mk.inj (Option.some.inj yy')
  exact ⟨20, q_rect_CeilDiv _ _ hok⟩
theorem q_rect_FloorDiv (a b : Int) (hok : true = true) : funR Try.prog t_rect_FloorDiv (annOf []) l_rect_FloorDiv 20 Try.f35 [.one (.int .i64 a), .one (.int .i64 b)] [] = some ⟨.one (.int .i64 (fdiv a b)), [], []⟩ := by
    refine (e_rect_FloorDiv ..).trans ?_
    simp only [ite2_dec, ite2_bool, mx_eq, mn_eq, fdiv]
    (repeat' split) <;> (try simp_all) <;> (try omega) <;> (try (rw [Bool.eq_iff_iff]; simp; omega))
theorem s_rect_FloorDiv : SoundFun Try.prog 35 G_rect_FloorDiv := by
  refine fun_ok (tab := t_rect_FloorDiv) (ann := annOf []) (lt := l_rect_FloorDiv) tab_nil (by kernel_rfl) (fn := Try.f35) (by kernel_rfl) (by decide) (c := bodyOf Try.f35) (by kernel_rfl) (fun m b hb => absurd hb (by show b ∉ loopsOf (bodyOf Try.f35); rw [show loopsOf (bodyOf Try.f35) = [] from by kernel_rfl]; exact List.not_mem_nil)) ?_
  intro args lent o y0'
  unfold G_rect_FloorDiv at y0'
  obtain ⟨c', args, rfl, y1'⟩ := pO_s y0'
  obtain ⟨a, rfl, y2'⟩ := kI_s y1'
  obtain ⟨c', args, rfl, y3'⟩ := pO_s y2'
  obtain ⟨b, rfl, y4'⟩ := kI_s y3'
  obtain ⟨rfl, y5'⟩ := pE_s y4'
  obtain ⟨rfl, y6'⟩ := nE_s y5'
  have yy' := y6'
  unfold H_rect_FloorDiv at yy'
  obtain ⟨hok, rfl⟩ := Prod.mk.inj (Option.some.inj yy')
  exact ⟨20, q_rect_FloorDiv _ _ hok⟩
theorem q_rect_Area (a b c d : Int) (hok : true = true) : funR Try.prog t_rect_Area (annOf []) l_rect_Area 20 Try.f25 [.agg [.int .i64 a, .int .i64 b, .int .i64 c, .int .i64 d]] [] = some ⟨.one (.int .i64 (area a b c d)), [], []⟩ := by
    refine (e_rect_Area ..).trans ?_
    simp only [ite2_dec, ite2_bool, mx_eq, mn_eq, area]
    (repeat' split) <;> (try simp_all) <;> (try omega) <;> (try (rw [Bool.eq_iff_iff]; simp; omega))
theorem s_rect_Area : SoundFun Try.prog 25 G_rect_Area := by
  refine fun_ok (tab := t_rect_Area) (ann := annOf []) (lt := l_rect_Area) (tab_cons s_rect_Valid tab_nil) (by kernel_rfl) (fn := Try.f25) (by kernel_rfl) (by decide) (c := bodyOf Try.f25) (by kernel_rfl) (fun m b hb => absurd hb (by show b ∉ loopsOf (bodyOf Try.f25); rw [show loopsOf (bodyOf Try.f25) = [] from by kernel_rfl]; exact List.not_mem_nil)) ?_
  intro args lent o y0'
  unfold G_rect_Area at y0'
  obtain ⟨q', args, rfl, y1'⟩ := pA_s y0'
  obtain ⟨c', q', rfl, y2'⟩ := tC_s y1'
  obtain ⟨a, rfl, y3'⟩ := kI_s y2'
  obtain ⟨c', q', rfl, y4'⟩ := tC_s y3'
  obtain ⟨b, rfl, y5'⟩ := kI_s y4'
  obtain ⟨c', q', rfl, y6'⟩ := tC_s y5'
  obtain ⟨c, rfl, y7'⟩ := kI_s y6'
  obtain ⟨c', q', rfl, y8'⟩ := tC_s y7'
  obtain ⟨d, rfl, y9'⟩ := kI_s y8'
  obtain ⟨rfl, y10'⟩ := tE_s y9'
  obtain ⟨rfl, y11'⟩ := pE_s y10'
  obtain ⟨rfl, y12'⟩ := nE_s y11'
  have yy' := y12'
  unfold H_rect_Area at yy'
  obtain ⟨hok, rfl⟩ := Prod.mk.inj (Option.some.inj yy')
  exact ⟨20, q_rect_Area _ _ _ _ hok⟩
theorem q_rect_Reduce (a b c d x y : Int) (hok : true = true) : funR Try.prog t_rect_Reduce (annOf []) l_rect_Reduce 20 Try.f26 [.agg [.int .i64 a, .int .i64 b, .int .i64 c, .int .i64 d], .one (.int .i64 x), .one (.int .i64 y)] [] = some ⟨.agg [.int .i64 ((reduce a b c d x y).1), .int .i64 ((reduce a b c d x y).2.1), .int .i64 ((reduce a b c d x y).2.2.1), .int .i64 ((reduce a b c d x y).2.2.2)], [], []⟩ := by
    refine (e_rect_Reduce ..).trans ?_
    simp only [ite2_dec, ite2_bool, mx_eq, mn_eq, reduce]
    (repeat' split) <;> (try simp_all) <;> (try omega) <;> (try (rw [Bool.eq_iff_iff]; simp; omega))
theorem s_rect_Reduce : SoundFun Try.prog 26 G_rect_Reduce := by
  refine fun_ok (tab := t_rect_Reduce) (ann := annOf []) (lt := l_rect_Reduce) (tab_cons s_rect_Valid (tab_cons s_rect_CeilDiv tab_nil)) (by kernel_rfl) (fn := Try.f26) (by kernel_rfl) (by decide) (c := bodyOf Try.f26) (by kernel_rfl) (fun m b hb => absurd hb (by show b ∉ loopsOf (bodyOf Try.f26); rw [show loopsOf (bodyOf Try.f26) = [] from by kernel_rfl]; exact List.not_mem_nil)) ?_
  intro args lent o y0'
  unfold G_rect_Reduce at y0'
  obtain ⟨q', args, rfl, y1'⟩ := pA_s y0'
  obtain ⟨c', q', rfl, y2'⟩ := tC_s y1'
  obtain ⟨a, rfl, y3'⟩ := kI_s y2'
  obtain ⟨c', q', rfl, y4'⟩ := tC_s y3'
  obtain ⟨b, rfl, y5'⟩ := kI_s y4'
  obtain ⟨c', q', rfl, y6'⟩ := tC_s y5'
  obtain ⟨c, rfl, y7'⟩ := kI_s y6'
  obtain ⟨c', q', rfl, y8'⟩ := tC_s y7'
  obtain ⟨d, rfl, y9'⟩ := kI_s y8'
  obtain ⟨rfl, y10'⟩ := tE_s y9'
  obtain ⟨c', args, rfl, y11'⟩ := pO_s y10'
  obtain ⟨x, rfl, y12'⟩ := kI_s y11'
  obtain ⟨c', args, rfl, y13'⟩ := pO_s y12'
  obtain ⟨y, rfl, y14'⟩ := kI_s y13'
  obtain ⟨rfl, y15'⟩ := pE_s y14'
  obtain ⟨rfl, y16'⟩ := nE_s y15'
  have yy' := y16'
  unfold H_rect_Reduce at yy'
  obtain ⟨hok, rfl⟩ := Prod.mk.inj (Option.some.inj yy')
  exact ⟨20, q_rect_Reduce _ _ _ _ _ _ hok⟩
theorem q_rect_Intersect (a b c d e f g h : Int) (hok : true = true) : funR Try.prog t_rect_Intersect (annOf []) l_rect_Intersect 20 Try.f55 [.agg [.int .i64 a, .int .i64 b, .int .i64 c, .int .i64 d], .agg [.int .i64 e, .int .i64 f, .int .i64 g, .int .i64 h]] [] = some ⟨.agg [.int .i64 ((inter a b c d e f g h).1), .int .i64 ((inter a b c d e f g h).2.1), .int .i64 ((inter a b c d e f g h).2.2.1), .int .i64 ((inter a b c d e f g h).2.2.2)], [], []⟩ := by
    refine (e_rect_Intersect ..).trans ?_
    simp only [ite2_dec, ite2_bool, mx_eq, mn_eq, inter]
    (repeat' split) <;> (try simp_all) <;> (try omega) <;> (try (rw [Bool.eq_iff_iff]; simp; omega))
theorem s_rect_Intersect : SoundFun Try.prog 55 G_rect_Intersect := by
  refine fun_ok (tab := t_rect_Intersect) (ann := annOf []) (lt := l_rect_Intersect) (tab_cons s_rect_Empty tab_nil) (by kernel_rfl) (fn := Try.f55) (by kernel_rfl) (by decide) (c := bodyOf Try.f55) (by kernel_rfl) (fun m b hb => absurd hb (by show b ∉ loopsOf (bodyOf Try.f55); rw [show loopsOf (bodyOf Try.f55) = [] from by kernel_rfl]; exact List.not_mem_nil)) ?_
  intro args lent o y0'
  unfold G_rect_Intersect at y0'
  obtain ⟨q', args, rfl, y1'⟩ := pA_s y0'
  obtain ⟨c', q', rfl, y2'⟩ := tC_s y1'
  obtain ⟨a, rfl, y3'⟩ := kI_s y2'
  obtain ⟨c', q', rfl, y4'⟩ := tC_s y3'
  obtain ⟨b, rfl, y5'⟩ := kI_s y4'
  obtain ⟨c', q', rfl, y6'⟩ := tC_s y5'
  obtain ⟨c, rfl, y7'⟩ := kI_s y6'
  obtain ⟨c', q', rfl, y8'⟩ := tC_s y7'
  obtain ⟨d, rfl, y9'⟩ := kI_s y8'
  obtain ⟨rfl, y10'⟩ := tE_s y9'
  obtain ⟨q', args, rfl, y11'⟩ := pA_s y10'
  obtain ⟨c', q', rfl, y12'⟩ := tC_s y11'
  obtain ⟨e, rfl, y13'⟩ := kI_s y12'
  obtain ⟨c', q', rfl, y14'⟩ := tC_s y13'
  obtain ⟨f, rfl, y15'⟩ := kI_s y14'
  obtain ⟨c', q', rfl, y16'⟩ := tC_s y15'
  obtain ⟨g, rfl, y17'⟩ := kI_s y16'
  obtain ⟨c', q', rfl, y18'⟩ := tC_s y17'
  obtain ⟨h, rfl, y19'⟩ := kI_s y18'
  obtain ⟨rfl, y20'⟩ := tE_s y19'
  obtain ⟨rfl, y21'⟩ := pE_s y20'
  obtain ⟨rfl, y22'⟩ := nE_s y21'
  have yy' := y22'
  unfold H_rect_Intersect at yy'
  obtain ⟨hok, rfl⟩ := Prod.mk.inj (Option.some.inj yy')
  exact ⟨20, q_rect_Intersect _ _ _ _ _ _ _ _ hok⟩
theorem q_ref01_Empty (a b c d : Int) (hok : true = true) : funR Try.prog t_ref01_Empty (annOf []) l_ref01_Empty 20 Try.f37 [.agg [.int .i64 a, .int .i64 b, .int .i64 c, .int .i64 d]] [] = some ⟨.one (.bool (empty a b c d)), [], []⟩ := by
    refine (e_ref01_Empty ..).trans ?_
    simp only [ite2_dec, ite2_bool, mx_eq, mn_eq, empty]
    (repeat' split) <;> (try simp_all) <;> (try omega) <;> (try (rw [Bool.eq_iff_iff]; simp; omega))
theorem s_ref01_Empty : SoundFun Try.prog 37 G_ref01_Empty := by
  refine fun_ok (tab := t_ref01_Empty) (ann := annOf []) (lt := l_ref01_Empty) tab_nil (by kernel_rfl) (fn := Try.f37) (by kernel_rfl) (by decide) (c := bodyOf Try.f37) (by kernel_rfl) (fun m b hb => absurd hb (by show b ∉ loopsOf (bodyOf Try.f37); rw [show loopsOf (bodyOf Try.f37) = [] from by kernel_rfl]; exact List.not_mem_nil)) ?_
  intro args lent o y0'
  unfold G_ref01_Empty at y0'
  obtain ⟨q', args, rfl, y1'⟩ := pA_s y0'
  obtain ⟨c', q', rfl, y2'⟩ := tC_s y1'
  obtain ⟨a, rfl, y3'⟩ := kI_s y2'
  obtain ⟨c', q', rfl, y4'⟩ := tC_s y3'
  obtain ⟨b, rfl, y5'⟩ := kI_s y4'
  obtain ⟨c', q', rfl, y6'⟩ := tC_s y5'
  obtain ⟨c, rfl, y7'⟩ := kI_s y6'
  obtain ⟨c', q', rfl, y8'⟩ := tC_s y7'
  obtain ⟨d, rfl, y9'⟩ := kI_s y8'
  obtain ⟨rfl, y10'⟩ := tE_s y9'
  obtain ⟨rfl, y11'⟩ := pE_s y10'
  obtain ⟨rfl, y12'⟩ := nE_s y11'
  have yy' := y12'
  unfold H_ref01_Empty at yy'
  obtain ⟨hok, rfl⟩ := Prod.mk.inj (Option.some.inj yy')
  exact ⟨20, q_ref01_Empty _ _ _ _ hok⟩
theorem q_ref01_Valid (a b c d : Int) (hok : true = true) : funR Try.prog t_ref01_Valid (annOf []) l_ref01_Valid 20 Try.f36 [.agg [.int .i64 a, .int .i64 b, .int .i64 c, .int .i64 d]] [] = some ⟨.one (.bool (valid a b c d)), [], []⟩ := by
    refine (e_ref01_Valid ..).trans ?_
    simp only [ite2_dec, ite2_bool, mx_eq, mn_eq, valid]
    (repeat' split) <;> (try simp_all) <;> (try omega) <;> (try (rw [Bool.eq_iff_iff]; simp; omega))
theorem s_ref01_Valid : SoundFun Try.prog 36 G_ref01_Valid := by
  refine fun_ok (tab := t_ref01_Valid) (ann := annOf []) (lt := l_ref01_Valid) tab_nil (by kernel_rfl) (fn := Try.f36) (by kernel_rfl) (by decide) (c := bodyOf Try.f36) (by kernel_rfl) (fun m b hb => absurd hb (by show b ∉ loopsOf (bodyOf Try.f36); rw [show loopsOf (bodyOf Try.f36) = [] from by kernel_rfl]; exact List.not_mem_nil)) ?_
  intro args lent o y0'
  unfold G_ref01_Valid at y0'
  obtain ⟨q', args, rfl, y1'⟩ := pA_s y0'
  obtain ⟨c', q', rfl, y2'⟩ := tC_s y1'
  obtain ⟨a, rfl, y3'⟩ := kI_s y2'
  obtain ⟨c', q', rfl, y4'⟩ := tC_s y3'
  obtain ⟨b, rfl, y5'⟩ := kI_s y4'
  obtain ⟨c', q', rfl, y6'⟩ := tC_s y5'
  obtain ⟨c, rfl, y7'⟩ := kI_s y6'
  obtain ⟨c', q', rfl, y8'⟩ := tC_s y7'
  obtain ⟨d, rfl, y9'⟩ := kI_s y8'
  obtain ⟨rfl, y10'⟩ := tE_s y9'
  obtain ⟨rfl, y11'⟩ := pE_s y10'
  obtain ⟨rfl, y12'⟩ := nE_s y11'
  have yy' := y12'
  unfold H_ref01_Valid at yy'
  obtain ⟨hok, rfl⟩ := Prod.mk.inj (Option.some.inj yy')
  exact ⟨20, q_ref01_Valid _ _ _ _ hok⟩
theorem q_ref01_CeilDiv (a b : Int) (hok : true = true) : funR Try.prog t_ref01_CeilDiv (annOf []) l_ref01_CeilDiv 20 Try.f62 [.one (.int .i64 a), .one (.int .i64 b)] [] = some ⟨.one (.int .i64 (cdiv a b)), [], []⟩ := by
    refine (e_ref01_CeilDiv ..).trans ?_
    simp only [ite2_dec, ite2_bool, mx_eq, mn_eq, cdiv]
    (repeat' split) <;> (try simp_all) <;> (try omega) <;> (try (rw [Bool.eq_iff_iff]; simp; omega))
theorem s_ref01_CeilDiv : SoundFun Try.prog 62 G_ref01_CeilDiv := by
  refine fun_ok (tab := t_ref01_CeilDiv) (ann := annOf []) (lt := l_ref01_CeilDiv) tab_nil (by kernel_rfl) (fn := Try.f62) (by kernel_rfl) (by decide) (c := bodyOf Try.f62) (by kernel_rfl) (fun m b hb => absurd hb (by show b ∉ loopsOf (bodyOf Try.f62); rw [show loopsOf (bodyOf Try.f62) = [] from by kernel_rfl]; exact List.not_mem_nil)) ?_
  intro args lent o y0'
  unfold G_ref01_CeilDiv at y0'
  obtain ⟨c', args, rfl, y1'⟩ := pO_s y0'
  obtain ⟨a, rfl, y2'⟩ := kI_s y1'
  obtain ⟨c', args, rfl, y3'⟩ := pO_s y2'
  obtain ⟨b, rfl, y4'⟩ := kI_s y3'
  obtain ⟨rfl, y5'⟩ := pE_s y4'
  obtain ⟨rfl, y6'⟩ := nE_s y5'
  have yy' := y6'
  unfold H_ref01_CeilDiv at yy'
  obtain ⟨hok, rfl⟩ := Prod.mk.inj (Option.some.inj yy')
  exact ⟨20, q_ref01_CeilDiv _ _ hok⟩
theorem q_ref01_FloorDiv (a b : Int) (hok : true = true) : funR Try.prog t_ref01_FloorDiv (annOf []) l_ref01_FloorDiv 20 Try.f63 [.one (.int .i64 a), .one (.int .i64 b)] [] = some ⟨.one (.int .i64 (fdiv a b)), [], []⟩ := by
    refine (e_ref01_FloorDiv ..).trans ?_
    simp only [ite2_dec, ite2_bool, mx_eq, mn_eq, fdiv]
    (repeat' split) <;> (try simp_all) <;> (try omega) <;> (try (rw [Bool.eq_iff_iff]; simp; omega))
theorem s_ref01_FloorDiv : SoundFun Try.prog 63 G_ref01_FloorDiv := by
  refine fun_ok (tab := t_ref01_FloorDiv) (ann := annOf []) (lt := l_ref01_FloorDiv) tab_nil (by kernel_rfl) (fn := Try.f63) (by kernel_rfl) (by decide) (c := bodyOf Try.f63) (by kernel_rfl) (fun m b hb => absurd hb (by show b ∉ loopsOf (bodyOf Try.f63); rw [show loopsOf (bodyOf Try.f63) = [] from by kernel_rfl]; exact List.not_mem_nil)) ?_
  intro args lent o y0'
  unfold G_ref01_FloorDiv at y0'
  obtain ⟨c', args, rfl, y1'⟩ := pO_s y0'
  obtain ⟨a, rfl, y2'⟩ := kI_s y1'
  obtain ⟨c', args, rfl, y3'⟩ := pO_s y2'
  obtain ⟨b, rfl, y4'⟩ := kI_s y3'
  obtain ⟨rfl, y5'⟩ := pE_s y4'
  obtain ⟨rfl, y6'⟩ := nE_s y5'
  have yy' := y6'
  unfold H_ref01_FloorDiv at yy'
  obtain ⟨hok, rfl⟩ := Prod.mk.inj (Option.some.inj yy')
  exact ⟨20, q_ref01_FloorDiv _ _ hok⟩
theorem q_ref01_Area (a b c d : Int) (hok : true = true) : funR Try.prog t_ref01_Area (annOf []) l_ref01_Area 20 Try.f41 [.agg [.int .i64 a, .int .i64 b, .int .i64 c, .int .i64 d]] [] = some ⟨.one (.int .i64 (area a b c d)), [], []⟩ := by
    refine (e_ref01_Area ..).trans ?_
    simp only [ite2_dec, ite2_bool, mx_eq, mn_eq, area]
    (repeat' split) <;> (try simp_all) <;> (try omega) <;> (try (rw [Bool.eq_iff_iff]; simp; omega))
theorem s_ref01_Area : SoundFun Try.prog 41 G_ref01_Area := by
  refine fun_ok (tab := t_ref01_Area) (ann := annOf []) (lt := l_ref01_Area) (tab_cons s_ref01_Valid tab_nil) (by kernel_rfl) (fn := Try.f41) (by kernel_rfl) (by decide) (c := bodyOf Try.f41) (by kernel_rfl) (fun m b hb => absurd hb (by show b ∉ loopsOf (bodyOf Try.f41); rw [show loopsOf (bodyOf Try.f41) = [] from by kernel_rfl]; exact List.not_mem_nil)) ?_
  intro args lent o y0'
  unfold G_ref01_Area at y0'
  obtain ⟨q', args, rfl, y1'⟩ := pA_s y0'
  obtain ⟨c', q', rfl, y2'⟩ := tC_s y1'
  obtain ⟨a, rfl, y3'⟩ := kI_s y2'
  obtain ⟨c', q', rfl, y4'⟩ := tC_s y3'
  obtain ⟨b, rfl, y5'⟩ := kI_s y4'
  obtain ⟨c', q', rfl, y6'⟩ := tC_s y5'
  obtain ⟨c, rfl, y7'⟩ := kI_s y6'
  obtain ⟨c', q', rfl, y8'⟩ := tC_s y7'
  obtain ⟨d, rfl, y9'⟩ := kI_s y8'
  obtain ⟨rfl, y10'⟩ := tE_s y9'
  obtain ⟨rfl, y11'⟩ := pE_s y10'
  obtain ⟨rfl, y12'⟩ := nE_s y11'
  have yy' := y12'
  unfold H_ref01_Area at yy'
  obtain ⟨hok, rfl⟩ := Prod.mk.inj (Option.some.inj yy')
  exact ⟨20, q_ref01_Area _ _ _ _ hok⟩
theorem q_ref01_Reduce (a b c d x y : Int) (hok : true = true) : funR Try.prog t_ref01_Reduce (annOf []) l_ref01_Reduce 20 Try.f39 [.agg [.int .i64 a, .int .i64 b, .int .i64 c, .int .i64 d], .one (.int .i64 x), .one (.int .i64 y)] [] = some ⟨.agg [.int .i64 ((reduce a b c d x y).1), .int .i64 ((reduce a b c d x y).2.1), .int .i64 ((reduce a b c d x y).2.2.1), .int .i64 ((reduce a b c d x y).2.2.2)], [], []⟩ := by
    refine (e_ref01_Reduce ..).trans ?_
    simp only [ite2_dec, ite2_bool, mx_eq, mn_eq, reduce]
    (repeat' split) <;> (try simp_all) <;> (try omega) <;> (try (rw [Bool.eq_iff_iff]; simp; omega))
theorem s_ref01_Reduce : SoundFun Try.prog 39 G_ref01_Reduce := by
  refine fun_ok (tab := t_ref01_Reduce) (ann := annOf []) (lt := l_ref01_Reduce) (tab_cons s_ref01_Valid (tab_cons s_ref01_CeilDiv tab_nil)) (by kernel_rfl) (fn := Try.f39) (by kernel_rfl) (by decide) (c := bodyOf Try.f39) (by kernel_rfl) (fun m b hb => absurd hb (by show b ∉ loopsOf (bodyOf Try.f39); rw [show loopsOf (bodyOf Try.f39) = [] from by kernel_rfl]; exact List.not_mem_nil)) ?_
  intro args lent o y0'
  unfold G_ref01_Reduce at y0'
  obtain ⟨q', args, rfl, y1'⟩ := pA_s y0'
  obtain ⟨c', q', rfl, y2'⟩ := tC_s y1'
  obtain ⟨a, rfl, y3'⟩ := kI_s y2'
  obtain ⟨c', q', rfl, y4'⟩ := tC_s y3'
  obtain ⟨b, rfl, y5'⟩ := kI_s y4'
  obtain ⟨c', q', rfl, y6'⟩ := tC_s y5'
  obtain ⟨c, rfl, y7'⟩ := kI_s y6'
  obtain ⟨c', q', rfl, y8'⟩ := tC_s y7'
  obtain ⟨d, rfl, y9'⟩ := kI_s y8'
  obtain ⟨rfl, y10'⟩ := tE_s y9'
  obtain ⟨c', args, rfl, y11'⟩ := pO_s y10'
  obtain ⟨x, rfl, y12'⟩ := kI_s y11'
  obtain ⟨c', args, rfl, y13'⟩ := pO_s y12'
  obtain ⟨y, rfl, y14'⟩ := kI_s y13'
  obtain ⟨rfl, y15'⟩ := pE_s y14'
  obtain ⟨rfl, y16'⟩ := nE_s y15'
  have yy' := y16'
  unfold H_ref01_Reduce at yy'
  obtain ⟨hok, rfl⟩ := Prod.mk.inj (Option.some.inj yy')
  exact ⟨20, q_ref01_Reduce _ _ _ _ _ _ hok⟩
theorem q_ref01_Intersect (a b c d e f g h : Int) (hok : true = true) : funR Try.prog t_ref01_Intersect (annOf []) l_ref01_Intersect 20 Try.f68 [.agg [.int .i64 a, .int .i64 b, .int .i64 c, .int .i64 d], .agg [.int .i64 e, .int .i64 f, .int .i64 g, .int .i64 h]] [] = some ⟨.agg [.int .i64 ((inter a b c d e f g h).1), .int .i64 ((inter a b c d e f g h).2.1), .int .i64 ((inter a b c d e f g h).2.2.1), .int .i64 ((inter a b c d e f g h).2.2.2)], [], []⟩ := by
    refine (e_ref01_Intersect ..).trans ?_
    simp only [ite2_dec, ite2_bool, mx_eq, mn_eq, inter]
    (repeat' split) <;> (try simp_all) <;> (try omega) <;> (try (rw [Bool.eq_iff_iff]; simp; omega))
theorem s_ref01_Intersect : SoundFun Try.prog 68 G_ref01_Intersect := by
  refine fun_ok (tab := t_ref01_Intersect) (ann := annOf []) (lt := l_ref01_Intersect) (tab_cons s_ref01_Empty tab_nil) (by kernel_rfl) (fn := Try.f68) (by kernel_rfl) (by decide) (c := bodyOf Try.f68) (by kernel_rfl) (fun m b hb => absurd hb (by show b ∉ loopsOf (bodyOf Try.f68); rw [show loopsOf (bodyOf Try.f68) = [] from by kernel_rfl]; exact List.not_mem_nil)) ?_
  intro args lent o y0'
  unfold G_ref01_Intersect at y0'
  obtain ⟨q', args, rfl, y1'⟩ := pA_s y0'
  obtain ⟨c', q', rfl, y2'⟩ := tC_s y1'
  obtain ⟨a, rfl, y3'⟩ := kI_s y2'
  obtain ⟨c', q', rfl, y4'⟩ := tC_s y3'
  obtain ⟨b, rfl, y5'⟩ := kI_s y4'
  obtain ⟨c', q', rfl, y6'⟩ := tC_s y5'
  obtain ⟨c, rfl, y7'⟩ := kI_s y6'
  obtain ⟨c', q', rfl, y8'⟩ := tC_s y7'
  obtain ⟨d, rfl, y9'⟩ := kI_s y8'
  obtain ⟨rfl, y10'⟩ := tE_s y9'
  obtain ⟨q', args, rfl, y11'⟩ := pA_s y10'
  obtain ⟨c', q', rfl, y12'⟩ := tC_s y11'
  obtain ⟨e, rfl, y13'⟩ := kI_s y12'
  obtain ⟨c', q', rfl, y14'⟩ := tC_s y13'
  obtain ⟨f, rfl, y15'⟩ := kI_s y14'
  obtain ⟨c', q', rfl, y16'⟩ := tC_s y15'
  obtain ⟨g, rfl, y17'⟩ := kI_s y16'
  obtain ⟨c', q', rfl, y18'⟩ := tC_s y17'
  obtain ⟨h, rfl, y19'⟩ := kI_s y18'
  obtain ⟨rfl, y20'⟩ := tE_s y19'
  obtain ⟨rfl, y21'⟩ := pE_s y20'
  obtain ⟨rfl, y22'⟩ := nE_s y21'
  have yy' := y22'
  unfold H_ref01_Intersect at yy'
  obtain ⟨hok, rfl⟩ := Prod.mk.inj (Option.some.inj yy')
  exact ⟨20, q_ref01_Intersect _ _ _ _ _ _ _ _ hok⟩
theorem q_rect_Contains (a b c d e f g h : Int) (hok : true = true) : funR Try.prog t_rect_Contains (annOf []) l_rect_Contains 20 Try.f24 [.agg [.int .i64 a, .int .i64 b, .int .i64 c, .int .i64 d], .agg [.int .i64 e, .int .i64 f, .int .i64 g, .int .i64 h]] [] = some ⟨.one (.bool (contains a b c d e f g h)), [], []⟩ := by
    refine (e_rect_Contains ..).trans ?_
    simp only [ite2_dec, ite2_bool, mx_eq, mn_eq, contains]
    (repeat' split) <;> (try simp_all) <;> (rw [Bool.eq_iff_iff]; simp [Prod.ext_iff])
theorem s_rect_Contains : SoundFun Try.prog 24 G_rect_Contains := by
  refine fun_ok (tab := t_rect_Contains) (ann := annOf []) (lt := l_rect_Contains) (tab_cons s_rect_Empty (tab_cons s_rect_Intersect tab_nil)) (by kernel_rfl) (fn := Try.f24) (by kernel_rfl) (by decide) (c := bodyOf Try.f24) (by kernel_rfl) (fun m b hb => absurd hb (by show b ∉ loopsOf (bodyOf Try.f24); rw [show loopsOf (bodyOf Try.f24) = [] from by kernel_rfl]; exact List.not_mem_nil)) ?_
  intro args lent o y0'
  unfold G_rect_Contains at y0'
  obtain ⟨q', args, rfl, y1'⟩ := pA_s y0'
  obtain ⟨c', q', rfl, y2'⟩ := tC_s y1'
  obtain ⟨a, rfl, y3'⟩ := kI_s y2'
  obtain ⟨c', q', rfl, y4'⟩ := tC_s y3'
  obtain ⟨b, rfl, y5'⟩ := kI_s y4'
  obtain ⟨c', q', rfl, y6'⟩ := tC_s y5'
  obtain ⟨c, rfl, y7'⟩ := kI_s y6'
  obtain ⟨c', q', rfl, y8'⟩ := tC_s y7'
  obtain ⟨d, rfl, y9'⟩ := kI_s y8'
  obtain ⟨rfl, y10'⟩ := tE_s y9'
  obtain ⟨q', args, rfl, y11'⟩ := pA_s y10'
  obtain ⟨c', q', rfl, y12'⟩ := tC_s y11'
  obtain ⟨e, rfl, y13'⟩ := kI_s y12'
  obtain ⟨c', q', rfl, y14'⟩ := tC_s y13'
  obtain ⟨f, rfl, y15'⟩ := kI_s y14'
  obtain ⟨c', q', rfl, y16'⟩ := tC_s y15'
  obtain ⟨g, rfl, y17'⟩ := kI_s y16'
  obtain ⟨c', q', rfl, y18'⟩ := tC_s y17'
  obtain ⟨h, rfl, y19'⟩ := kI_s y18'
  obtain ⟨rfl, y20'⟩ := tE_s y19'
  obtain ⟨rfl, y21'⟩ := pE_s y20'
  obtain ⟨rfl, y22'⟩ := nE_s y21'
  have yy' := y22'
  unfold H_rect_Contains at yy'
  obtain ⟨hok, rfl⟩ := Prod.mk.inj (Option.some.inj yy')
  exact ⟨20, q_rect_Contains _ _ _ _ _ _ _ _ hok⟩
theorem r_params_within_0 : RoundOk Try.prog t_params_within (annOf []) l_params_within Out 20 0 24 [0, 1, 9, 10, 11] (kxOf [] [6]) (loopOf Try.f33 0) T_params_within_0 := by
  intro vs bl Kc r h
  unfold T_params_within_0 at h
  obtain ⟨t, y0', h'⟩ := getD_run h
  obtain ⟨c', vs, rfl, y1'⟩ := pO_s y0'
  obtain ⟨a, rfl, y2'⟩ := kI_s y1'
  obtain ⟨c', vs, rfl, y3'⟩ := pO_s y2'
  obtain ⟨b, rfl, y4'⟩ := kI_s y3'
  obtain ⟨c', vs, rfl, y5'⟩ := pO_s y4'
  obtain ⟨l, rfl, y6'⟩ := kLI_s y5'
  obtain ⟨c', vs, rfl, y7'⟩ := pO_s y6'
  obtain ⟨n, rfl, y8'⟩ := kI_s y7'
  obtain ⟨c', vs, rfl, y9'⟩ := pO_s y8'
  obtain ⟨i, rfl, y10'⟩ := kI_s y9'
  obtain ⟨rfl, y11'⟩ := pE_s y10'
  obtain ⟨rfl, y12'⟩ := bE_s y11'
  have yy' := y12'
  cases yy'
  exact (b_params_within_0 ..).trans ((congrArg (LT.runc · Kc) (tu_params_within_0 ..)).trans h')
theorem o_params_within : loopsOf (bodyOf Try.f33) = [loopOf Try.f33 0] := by kernel_rfl
theorem zz_params_within_0 (a b : Int) (l : List Int) (hsm : small (l.length) = true) (hc : true = true) : ∃ k, ∀ (K : Ex → List V → List (Option Blk) → Option Out) r, (c_params_within_0 a b l).run K = some r → (iter T_params_within_0 k [.one (.int .i64 a), .one (.int .i64 b), .one (.lst (.int .i64) l), .one (.int .i64 (l.length : Int)), .one (.int .i64 0)] []).run K = some r := by
  refine z_list (st := fun i => ([.one (.int .i64 a), .one (.int .i64 b), .one (.lst (.int .i64) l), .one (.int .i64 (l.length : Int)), .one (.int .i64 ((i : Nat) : Int))], [])) l 0 (inr a b) _ _ (fun i hi F K => ?_) (fun F K => ?_)
  · have hi' : (i : Int) < (l.length : Int) := by omega
    simp only [tu_params_within_0, U_params_within_0, LT.next, LT.run, ite2_dec, ite2_bool, wrap_next hi hsm, Int.toNat_natCast, hi', Int.natCast_nonneg, and_self, if_true, gI, gP, gC, gR, inr, Bool.and_eq_true, decide_eq_true_eq]
    (repeat' split) <;> simp_all <;> omega
  · simp only [tu_params_within_0, U_params_within_0, LT.next, LT.run, ite2_dec, Int.lt_irrefl, if_false]
    try rfl
theorem z_params_within_0 : ∀ vs bl t, S_params_within_0 vs bl = some (true, t) → ∃ n, ∀ (K : Ex → List V → List (Option Blk) → Option Out) r, t.run K = some r → (iter T_params_within_0 n vs bl).run K = some r := by
  intro vs bl t y0'
  unfold S_params_within_0 at y0'
  obtain ⟨c', vs, rfl, y1'⟩ := pO_s y0'
  obtain ⟨a, rfl, y2'⟩ := kI_s y1'
  obtain ⟨c', vs, rfl, y3'⟩ := pO_s y2'
  obtain ⟨b, rfl, y4'⟩ := kI_s y3'
  obtain ⟨c', vs, rfl, y5'⟩ := pO_s y4'
  obtain ⟨l, rfl, y6'⟩ := kLI_s y5'
  obtain ⟨c', vs, rfl, y7'⟩ := pO_s y6'
  obtain ⟨n, rfl, y8'⟩ := kI_s y7'
  obtain ⟨c', vs, rfl, y9'⟩ := pO_s y8'
  obtain ⟨i, rfl, y10'⟩ := kI_s y9'
  obtain ⟨rfl, y11'⟩ := pE_s y10'
  obtain ⟨rfl, y12'⟩ := bE_s y11'
  have yy' := y12'
  obtain ⟨hk, rfl⟩ := Prod.mk.inj (Option.some.inj yy')
  unfold k_params_within_0 at hk
  simp only [Bool.and_eq_true, decide_eq_true_eq, and_assoc] at hk
  obtain ⟨rfl, rfl, hsm, hc⟩ := hk
  exact zz_params_within_0 _ _ _ hsm (by first | exact hc | simpa using hc)
theorem q_params_within (a b : Int) (l : List Int) (hok : small l.length = true) : funR Try.prog t_params_within (annOf []) l_params_within 20 Try.f33 [.one (.int .i64 a), .one (.int .i64 b), .one (.lst (.int .i64) l)] [] = some ⟨.one (.bool (within a b l)), [], []⟩ := by
    refine (e_params_within ..).trans ?_
    simp [ite2_bool, k_params_within_0, p_params_within_0, within, hok]
    (repeat' split) <;> simp_all
theorem s_params_within : SoundFun Try.prog 33 G_params_within := by
  refine fun_ok (tab := t_params_within) (ann := annOf []) (lt := l_params_within) tab_nil (by kernel_rfl) (fn := Try.f33) (by kernel_rfl) (by decide) (c := bodyOf Try.f33) (by kernel_rfl) (by
    intro m b hb
    have hb' : b ∈ loopsOf (bodyOf Try.f33) := hb
    rw [o_params_within] at hb'
    simp only [List.mem_cons, List.not_mem_nil, or_false] at hb'
    rcases hb' with rfl
    · exact loop_ok (key := 2) (by kernel_rfl) rfl r_params_within_0 z_params_within_0 m
    ) ?_
  intro args lent o y0'
  unfold G_params_within at y0'
  obtain ⟨c', args, rfl, y1'⟩ := pO_s y0'
  obtain ⟨a, rfl, y2'⟩ := kI_s y1'
  obtain ⟨c', args, rfl, y3'⟩ := pO_s y2'
  obtain ⟨b, rfl, y4'⟩ := kI_s y3'
  obtain ⟨c', args, rfl, y5'⟩ := pO_s y4'
  obtain ⟨l, rfl, y6'⟩ := kLI_s y5'
  obtain ⟨rfl, y7'⟩ := pE_s y6'
  obtain ⟨rfl, y8'⟩ := nE_s y7'
  have yy' := y8'
  unfold H_params_within at yy'
  obtain ⟨hok, rfl⟩ := Prod.mk.inj (Option.some.inj yy')
  exact ⟨20, q_params_within _ _ _ hok⟩
theorem q_quant_Valid (a b : Int) (hok : true = true) : funR Try.prog t_quant_Valid (annOf []) l_quant_Valid 20 Try.f49 [.one (.int .i64 a), .one (.int .i64 b)] [] = some ⟨.one (.bool (qvalid a b)), [], []⟩ := by
    refine (e_quant_Valid ..).trans ?_
    simp only [ite2_dec, ite2_bool, mx_eq, mn_eq, qvalid, inr]
    (repeat' split) <;> (try simp_all) <;> (try omega) <;> (try (rw [Bool.eq_iff_iff]; simp; omega))
theorem s_quant_Valid : SoundFun Try.prog 49 G_quant_Valid := by
  refine fun_ok (tab := t_quant_Valid) (ann := annOf []) (lt := l_quant_Valid) tab_nil (by kernel_rfl) (fn := Try.f49) (by kernel_rfl) (by decide) (c := bodyOf Try.f49) (by kernel_rfl) (fun m b hb => absurd hb (by show b ∉ loopsOf (bodyOf Try.f49); rw [show loopsOf (bodyOf Try.f49) = [] from by kernel_rfl]; exact List.not_mem_nil)) ?_
  intro args lent o y0'
  unfold G_quant_Valid at y0'
  obtain ⟨c', args, rfl, y1'⟩ := pO_s y0'
  obtain ⟨a, rfl, y2'⟩ := kI_s y1'
  obtain ⟨c', args, rfl, y3'⟩ := pO_s y2'
  obtain ⟨b, rfl, y4'⟩ := kI_s y3'
  obtain ⟨rfl, y5'⟩ := pE_s y4'
  obtain ⟨rfl, y6'⟩ := nE_s y5'
  have yy' := y6'
  unfold H_quant_Valid at yy'
  obtain ⟨hok, rfl⟩ := Prod.mk.inj (Option.some.inj yy')
  exact ⟨20, q_quant_Valid _ _ hok⟩
theorem q_ref08_Valid (a b : Int) (hok : true = true) : funR Try.prog t_ref08_Valid (annOf []) l_ref08_Valid 20 Try.f51 [.one (.int .i64 a), .one (.int .i64 b)] [] = some ⟨.one (.bool (qvalid a b)), [], []⟩ := by
    refine (e_ref08_Valid ..).trans ?_
    simp only [ite2_dec, ite2_bool, mx_eq, mn_eq, qvalid, inr]
    (repeat' split) <;> (try simp_all) <;> (try omega) <;> (try (rw [Bool.eq_iff_iff]; simp; omega))
theorem s_ref08_Valid : SoundFun Try.prog 51 G_ref08_Valid := by
  refine fun_ok (tab := t_ref08_Valid) (ann := annOf []) (lt := l_ref08_Valid) tab_nil (by kernel_rfl) (fn := Try.f51) (by kernel_rfl) (by decide) (c := bodyOf Try.f51) (by kernel_rfl) (fun m b hb => absurd hb (by show b ∉ loopsOf (bodyOf Try.f51); rw [show loopsOf (bodyOf Try.f51) = [] from by kernel_rfl]; exact List.not_mem_nil)) ?_
  intro args lent o y0'
  unfold G_ref08_Valid at y0'
  obtain ⟨c', args, rfl, y1'⟩ := pO_s y0'
  obtain ⟨a, rfl, y2'⟩ := kI_s y1'
  obtain ⟨c', args, rfl, y3'⟩ := pO_s y2'
  obtain ⟨b, rfl, y4'⟩ := kI_s y3'
  obtain ⟨rfl, y5'⟩ := pE_s y4'
  obtain ⟨rfl, y6'⟩ := nE_s y5'
  have yy' := y6'
  unfold H_ref08_Valid at yy'
  obtain ⟨hok, rfl⟩ := Prod.mk.inj (Option.some.inj yy')
  exact ⟨20, q_ref08_Valid _ _ hok⟩
theorem qmul {a b : Int} (h : qvalid a b = true) : 1 ≤ a ∧ a ≤ 65536 ∧ 8 ≤ b ∧ b ≤ 32 ∧ 0 ≤ a * b ∧ a * b ≤ 2097152 := by
  simp only [qvalid, inr, Bool.and_eq_true, decide_eq_true_eq] at h
  have h1 : 0 ≤ a * b := Int.mul_nonneg (by omega) (by omega)
  have h2 : a * b ≤ 65536 * 32 := Int.mul_le_mul h.1.2 h.2.2 (by omega) (by omega)
  omega
theorem qthr1 {a b : Int} (h : qvalid a b = true) : IntKind.wrap .i64 ((IntKind.wrap .i64 (a * b)).tdiv 16) = a * b / 16 := by
  have := qmul h
  rw [wrap_in (n := a * b) (by omega) (by omega), Int.tdiv_eq_ediv_of_nonneg (by omega), wrap_in (by omega) (by omega)]
theorem qthr2 {a b : Int} (h : qvalid a b = true) : fdiv (IntKind.wrap .i64 (a * b)) 16 = a * b / 16 := by
  have := qmul h
  unfold fdiv w
  rw [wrap_in (n := a * b) (by omega) (by omega), Int.tdiv_eq_ediv_of_nonneg (by omega), Int.tmod_eq_emod_of_nonneg (by omega), if_neg (by omega), if_neg (by omega), wrap_in (by omega) (by omega)]
theorem q_quant_Threshold (a b : Int) (hok : true = true) : funR Try.prog t_quant_Threshold (annOf []) l_quant_Threshold 20 Try.f53 [.one (.int .i64 a), .one (.int .i64 b)] [] = some ⟨.one (.int .i64 (qthr a b)), [], []⟩ := by
    refine (e_quant_Threshold ..).trans ?_
    simp only [ite2_dec, ite2_bool, mx_eq, mn_eq, qthr]
    (repeat' split) <;> (try simp_all) <;> (try omega) <;> (try (rw [Bool.eq_iff_iff]; simp; omega)) <;> rw [qthr1 (by assumption)]
theorem s_quant_Threshold : SoundFun Try.prog 53 G_quant_Threshold := by
  refine fun_ok (tab := t_quant_Threshold) (ann := annOf []) (lt := l_quant_Threshold) (tab_cons s_quant_Valid tab_nil) (by kernel_rfl) (fn := Try.f53) (by kernel_rfl) (by decide) (c := bodyOf Try.f53) (by kernel_rfl) (fun m b hb => absurd hb (by show b ∉ loopsOf (bodyOf Try.f53); rw [show loopsOf (bodyOf Try.f53) = [] from by kernel_rfl]; exact List.not_mem_nil)) ?_
  intro args lent o y0'
  unfold G_quant_Threshold at y0'
  obtain ⟨c', args, rfl, y1'⟩ := pO_s y0'
  obtain ⟨a, rfl, y2'⟩ := kI_s y1'
  obtain ⟨c', args, rfl, y3'⟩ := pO_s y2'
  obtain ⟨b, rfl, y4'⟩ := kI_s y3'
  obtain ⟨rfl, y5'⟩ := pE_s y4'
  obtain ⟨rfl, y6'⟩ := nE_s y5'
  have yy' := y6'
  unfold H_quant_Threshold at yy'
  obtain ⟨hok, rfl⟩ := Prod.mk.inj (Option.some.inj yy')
  exact ⟨20, q_quant_Threshold _ _ hok⟩
theorem q_ref08_Threshold (a b : Int) (hok : true = true) : funR Try.prog t_ref08_Threshold (annOf []) l_ref08_Threshold 20 Try.f54 [.one (.int .i64 a), .one (.int .i64 b)] [] = some ⟨.one (.int .i64 (qthr a b)), [], []⟩ := by
    refine (e_ref08_Threshold ..).trans ?_
    simp only [ite2_dec, ite2_bool, mx_eq, mn_eq, qthr]
    (repeat' split) <;> (try simp_all) <;> (try omega) <;> (try (rw [Bool.eq_iff_iff]; simp; omega)) <;> rw [qthr2 (by assumption)]
theorem s_ref08_Threshold : SoundFun Try.prog 54 G_ref08_Threshold := by
  refine fun_ok (tab := t_ref08_Threshold) (ann := annOf []) (lt := l_ref08_Threshold) (tab_cons s_ref08_Valid (tab_cons s_ref01_FloorDiv tab_nil)) (by kernel_rfl) (fn := Try.f54) (by kernel_rfl) (by decide) (c := bodyOf Try.f54) (by kernel_rfl) (fun m b hb => absurd hb (by show b ∉ loopsOf (bodyOf Try.f54); rw [show loopsOf (bodyOf Try.f54) = [] from by kernel_rfl]; exact List.not_mem_nil)) ?_
  intro args lent o y0'
  unfold G_ref08_Threshold at y0'
  obtain ⟨c', args, rfl, y1'⟩ := pO_s y0'
  obtain ⟨a, rfl, y2'⟩ := kI_s y1'
  obtain ⟨c', args, rfl, y3'⟩ := pO_s y2'
  obtain ⟨b, rfl, y4'⟩ := kI_s y3'
  obtain ⟨rfl, y5'⟩ := pE_s y4'
  obtain ⟨rfl, y6'⟩ := nE_s y5'
  have yy' := y6'
  unfold H_ref08_Threshold at yy'
  obtain ⟨hok, rfl⟩ := Prod.mk.inj (Option.some.inj yy')
  exact ⟨20, q_ref08_Threshold _ _ hok⟩
theorem r_eqI_0 : RoundOk Try.prog t_eqI (annOf []) l_eqI Out 20 0 26 [0, 1, 12, 13] (kxOf [] [4]) (loopOf Try.f61 0) T_eqI_0 := by
  intro vs bl Kc r h
  unfold T_eqI_0 at h
  obtain ⟨t, y0', h'⟩ := getD_run h
  obtain ⟨c', vs, rfl, y1'⟩ := pO_s y0'
  obtain ⟨l, rfl, y2'⟩ := kLI_s y1'
  obtain ⟨c', vs, rfl, y3'⟩ := pO_s y2'
  obtain ⟨m, rfl, y4'⟩ := kLI_s y3'
  obtain ⟨c', vs, rfl, y5'⟩ := pO_s y4'
  obtain ⟨n, rfl, y6'⟩ := kI_s y5'
  obtain ⟨c', vs, rfl, y7'⟩ := pO_s y6'
  obtain ⟨i, rfl, y8'⟩ := kI_s y7'
  obtain ⟨rfl, y9'⟩ := pE_s y8'
  obtain ⟨rfl, y10'⟩ := bE_s y9'
  have yy' := y10'
  cases yy'
  exact (b_eqI_0 ..).trans ((congrArg (LT.runc · Kc) (tu_eqI_0 ..)).trans h')
theorem o_eqI : loopsOf (bodyOf Try.f61) = [loopOf Try.f61 0] := by kernel_rfl
theorem zz_eqI_0 (l m : List Int) (hsm : small (l.length) = true) (hc : decide (l.length = m.length) = true) : ∃ k, ∀ (K : Ex → List V → List (Option Blk) → Option Out) r, (c_eqI_0 l m).run K = some r → (iter T_eqI_0 k [.one (.lst (.int .i64) l), .one (.lst (.int .i64) m), .one (.int .i64 (l.length : Int)), .one (.int .i64 0)] []).run K = some r := by
  refine z_idx (st := fun i => ([.one (.lst (.int .i64) l), .one (.lst (.int .i64) m), .one (.int .i64 (l.length : Int)), .one (.int .i64 ((i : Nat) : Int))], [])) (l.length) (fun j => gI l j == gI m j) _ _ (fun i hi F K => ?_) (fun F K => ?_)
  · have hi' : (i : Int) < (l.length : Int) := by omega
    have hc' := hc
    simp only [Bool.and_eq_true, decide_eq_true_eq] at hc'
    simp only [tu_eqI_0, U_eqI_0, LT.next, LT.run, ite2_dec, ite2_bool, wrap_next hi hsm, Int.toNat_natCast, hi', Int.natCast_nonneg, and_self, if_true, gI, gP, gC, gR]
    have hj : (i : Int) < (m.length : Int) := by omega
    simp [hj, Prod.ext_iff] <;> (repeat' split) <;> simp_all
  · simp only [tu_eqI_0, U_eqI_0, LT.next, LT.run, ite2_dec, Int.lt_irrefl, if_false]
    try rfl
theorem z_eqI_0 : ∀ vs bl t, S_eqI_0 vs bl = some (true, t) → ∃ n, ∀ (K : Ex → List V → List (Option Blk) → Option Out) r, t.run K = some r → (iter T_eqI_0 n vs bl).run K = some r := by
  intro vs bl t y0'
  unfold S_eqI_0 at y0'
  obtain ⟨c', vs, rfl, y1'⟩ := pO_s y0'
  obtain ⟨l, rfl, y2'⟩ := kLI_s y1'
  obtain ⟨c', vs, rfl, y3'⟩ := pO_s y2'
  obtain ⟨m, rfl, y4'⟩ := kLI_s y3'
  obtain ⟨c', vs, rfl, y5'⟩ := pO_s y4'
  obtain ⟨n, rfl, y6'⟩ := kI_s y5'
  obtain ⟨c', vs, rfl, y7'⟩ := pO_s y6'
  obtain ⟨i, rfl, y8'⟩ := kI_s y7'
  obtain ⟨rfl, y9'⟩ := pE_s y8'
  obtain ⟨rfl, y10'⟩ := bE_s y9'
  have yy' := y10'
  obtain ⟨hk, rfl⟩ := Prod.mk.inj (Option.some.inj yy')
  unfold k_eqI_0 at hk
  simp only [Bool.and_eq_true, decide_eq_true_eq, and_assoc] at hk
  obtain ⟨rfl, rfl, hsm, hc⟩ := hk
  exact zz_eqI_0 _ _ hsm (by first | exact hc | simpa using hc)
theorem q_eqI (l m : List Int) (hok : small l.length = true) : funR Try.prog t_eqI (annOf []) l_eqI 20 Try.f61 [.one (.lst (.int .i64) l), .one (.lst (.int .i64) m)] [] = some ⟨.one (.bool (decide (l = m))), [], []⟩ := by
    refine (e_eqI ..).trans ?_
    simp only [ite2_bool, k_eqI_0, p_eqI_0, gI]
    by_cases hl : l.length = m.length
    · rw [all_eq l m _ hl]
      rw [hl] at hok
      simp [hl, hok]
      split <;> simp_all
    · have h1 : l ≠ m := fun e => hl (by rw [e])
      have h2 : ¬ ((l.length : Int) = m.length) := by omega
      simp [h1, h2]
theorem s_eqI : SoundFun Try.prog 61 G_eqI := by
  refine fun_ok (tab := t_eqI) (ann := annOf []) (lt := l_eqI) tab_nil (by kernel_rfl) (fn := Try.f61) (by kernel_rfl) (by decide) (c := bodyOf Try.f61) (by kernel_rfl) (by
    intro m b hb
    have hb' : b ∈ loopsOf (bodyOf Try.f61) := hb
    rw [o_eqI] at hb'
    simp only [List.mem_cons, List.not_mem_nil, or_false] at hb'
    rcases hb' with rfl
    · exact loop_ok (key := 4) (by kernel_rfl) rfl r_eqI_0 z_eqI_0 m
    ) ?_
  intro args lent o y0'
  unfold G_eqI at y0'
  obtain ⟨c', args, rfl, y1'⟩ := pO_s y0'
  obtain ⟨l, rfl, y2'⟩ := kLI_s y1'
  obtain ⟨c', args, rfl, y3'⟩ := pO_s y2'
  obtain ⟨m, rfl, y4'⟩ := kLI_s y3'
  obtain ⟨rfl, y5'⟩ := pE_s y4'
  obtain ⟨rfl, y6'⟩ := nE_s y5'
  have yy' := y6'
  unfold H_eqI at yy'
  obtain ⟨hok, rfl⟩ := Prod.mk.inj (Option.some.inj yy')
  exact ⟨20, q_eqI _ _ hok⟩
theorem r_eqP_0 : RoundOk Try.prog t_eqP (annOf []) l_eqP Out 20 0 26 [0, 1, 12, 13] (kxOf [] [4]) (loopOf Try.f60 0) T_eqP_0 := by
  intro vs bl Kc r h
  unfold T_eqP_0 at h
  obtain ⟨t, y0', h'⟩ := getD_run h
  obtain ⟨c', vs, rfl, y1'⟩ := pO_s y0'
  obtain ⟨l, rfl, y2'⟩ := kLP_s y1'
  obtain ⟨c', vs, rfl, y3'⟩ := pO_s y2'
  obtain ⟨m, rfl, y4'⟩ := kLP_s y3'
  obtain ⟨c', vs, rfl, y5'⟩ := pO_s y4'
  obtain ⟨n, rfl, y6'⟩ := kI_s y5'
  obtain ⟨c', vs, rfl, y7'⟩ := pO_s y6'
  obtain ⟨i, rfl, y8'⟩ := kI_s y7'
  obtain ⟨rfl, y9'⟩ := pE_s y8'
  obtain ⟨rfl, y10'⟩ := bE_s y9'
  have yy' := y10'
  cases yy'
  exact (b_eqP_0 ..).trans ((congrArg (LT.runc · Kc) (tu_eqP_0 ..)).trans h')
theorem o_eqP : loopsOf (bodyOf Try.f60) = [loopOf Try.f60 0] := by kernel_rfl
theorem zz_eqP_0 (l m : List (Int × Int)) (hsm : small (l.length) = true) (hc : decide (l.length = m.length) = true) : ∃ k, ∀ (K : Ex → List V → List (Option Blk) → Option Out) r, (c_eqP_0 l m).run K = some r → (iter T_eqP_0 k [.one (.lst (.pair (.int .i64) (.int .i64)) l), .one (.lst (.pair (.int .i64) (.int .i64)) m), .one (.int .i64 (l.length : Int)), .one (.int .i64 0)] []).run K = some r := by
  refine z_idx (st := fun i => ([.one (.lst (.pair (.int .i64) (.int .i64)) l), .one (.lst (.pair (.int .i64) (.int .i64)) m), .one (.int .i64 (l.length : Int)), .one (.int .i64 ((i : Nat) : Int))], [])) (l.length) (fun j => gP l j == gP m j) _ _ (fun i hi F K => ?_) (fun F K => ?_)
  · have hi' : (i : Int) < (l.length : Int) := by omega
    have hc' := hc
    simp only [Bool.and_eq_true, decide_eq_true_eq] at hc'
    simp only [tu_eqP_0, U_eqP_0, LT.next, LT.run, ite2_dec, ite2_bool, wrap_next hi hsm, Int.toNat_natCast, hi', Int.natCast_nonneg, and_self, if_true, gI, gP, gC, gR]
    have hj : (i : Int) < (m.length : Int) := by omega
    simp [hj, Prod.ext_iff] <;> (repeat' split) <;> simp_all
  · simp only [tu_eqP_0, U_eqP_0, LT.next, LT.run, ite2_dec, Int.lt_irrefl, if_false]
    try rfl
theorem z_eqP_0 : ∀ vs bl t, S_eqP_0 vs bl = some (true, t) → ∃ n, ∀ (K : Ex → List V → List (Option Blk) → Option Out) r, t.run K = some r → (iter T_eqP_0 n vs bl).run K = some r := by
  intro vs bl t y0'
  unfold S_eqP_0 at y0'
  obtain ⟨c', vs, rfl, y1'⟩ := pO_s y0'
  obtain ⟨l, rfl, y2'⟩ := kLP_s y1'
  obtain ⟨c', vs, rfl, y3'⟩ := pO_s y2'
  obtain ⟨m, rfl, y4'⟩ := kLP_s y3'
  obtain ⟨c', vs, rfl, y5'⟩ := pO_s y4'
  obtain ⟨n, rfl, y6'⟩ := kI_s y5'
  obtain ⟨c', vs, rfl, y7'⟩ := pO_s y6'
  obtain ⟨i, rfl, y8'⟩ := kI_s y7'
  obtain ⟨rfl, y9'⟩ := pE_s y8'
  obtain ⟨rfl, y10'⟩ := bE_s y9'
  have yy' := y10'
  obtain ⟨hk, rfl⟩ := Prod.mk.inj (Option.some.inj yy')
  unfold k_eqP_0 at hk
  simp only [Bool.and_eq_true, decide_eq_true_eq, and_assoc] at hk
  obtain ⟨rfl, rfl, hsm, hc⟩ := hk
  exact zz_eqP_0 _ _ hsm (by first | exact hc | simpa using hc)
theorem q_eqP (l m : List (Int × Int)) (hok : small l.length = true) : funR Try.prog t_eqP (annOf []) l_eqP 20 Try.f60 [.one (.lst (.pair (.int .i64) (.int .i64)) l), .one (.lst (.pair (.int .i64) (.int .i64)) m)] [] = some ⟨.one (.bool (decide (l = m))), [], []⟩ := by
    refine (e_eqP ..).trans ?_
    simp only [ite2_bool, k_eqP_0, p_eqP_0, gP]
    by_cases hl : l.length = m.length
    · rw [all_eq l m _ hl]
      rw [hl] at hok
      simp [hl, hok]
      split <;> simp_all
    · have h1 : l ≠ m := fun e => hl (by rw [e])
      have h2 : ¬ ((l.length : Int) = m.length) := by omega
      simp [h1, h2]
theorem s_eqP : SoundFun Try.prog 60 G_eqP := by
  refine fun_ok (tab := t_eqP) (ann := annOf []) (lt := l_eqP) tab_nil (by kernel_rfl) (fn := Try.f60) (by kernel_rfl) (by decide) (c := bodyOf Try.f60) (by kernel_rfl) (by
    intro m b hb
    have hb' : b ∈ loopsOf (bodyOf Try.f60) := hb
    rw [o_eqP] at hb'
    simp only [List.mem_cons, List.not_mem_nil, or_false] at hb'
    rcases hb' with rfl
    · exact loop_ok (key := 4) (by kernel_rfl) rfl r_eqP_0 z_eqP_0 m
    ) ?_
  intro args lent o y0'
  unfold G_eqP at y0'
  obtain ⟨c', args, rfl, y1'⟩ := pO_s y0'
  obtain ⟨l, rfl, y2'⟩ := kLP_s y1'
  obtain ⟨c', args, rfl, y3'⟩ := pO_s y2'
  obtain ⟨m, rfl, y4'⟩ := kLP_s y3'
  obtain ⟨rfl, y5'⟩ := pE_s y4'
  obtain ⟨rfl, y6'⟩ := nE_s y5'
  have yy' := y6'
  unfold H_eqP at yy'
  obtain ⟨hok, rfl⟩ := Prod.mk.inj (Option.some.inj yy')
  exact ⟨20, q_eqP _ _ hok⟩
theorem r_eqC_0 : RoundOk Try.prog t_eqC (annOf []) l_eqC Out 20 0 26 [0, 1, 12, 13] (kxOf [] [4]) (loopOf Try.f59 0) T_eqC_0 := by
  intro vs bl Kc r h
  unfold T_eqC_0 at h
  obtain ⟨t, y0', h'⟩ := getD_run h
  obtain ⟨c', vs, rfl, y1'⟩ := pO_s y0'
  obtain ⟨l, rfl, y2'⟩ := kLC_s y1'
  obtain ⟨c', vs, rfl, y3'⟩ := pO_s y2'
  obtain ⟨m, rfl, y4'⟩ := kLC_s y3'
  obtain ⟨c', vs, rfl, y5'⟩ := pO_s y4'
  obtain ⟨n, rfl, y6'⟩ := kI_s y5'
  obtain ⟨c', vs, rfl, y7'⟩ := pO_s y6'
  obtain ⟨i, rfl, y8'⟩ := kI_s y7'
  obtain ⟨rfl, y9'⟩ := pE_s y8'
  obtain ⟨rfl, y10'⟩ := bE_s y9'
  have yy' := y10'
  cases yy'
  exact (b_eqC_0 ..).trans ((congrArg (LT.runc · Kc) (tu_eqC_0 ..)).trans h')
theorem o_eqC : loopsOf (bodyOf Try.f59) = [loopOf Try.f59 0] := by kernel_rfl
theorem zz_eqC_0 (l m : List (Int × Bool × Int × Int)) (hsm : small (l.length) = true) (hc : decide (l.length = m.length) = true) : ∃ k, ∀ (K : Ex → List V → List (Option Blk) → Option Out) r, (c_eqC_0 l m).run K = some r → (iter T_eqC_0 k [.one (.lst (.pair (.int .i64) (.pair .bool (.pair (.int .i64) (.int .i64)))) l), .one (.lst (.pair (.int .i64) (.pair .bool (.pair (.int .i64) (.int .i64)))) m), .one (.int .i64 (l.length : Int)), .one (.int .i64 0)] []).run K = some r := by
  refine z_idx (st := fun i => ([.one (.lst (.pair (.int .i64) (.pair .bool (.pair (.int .i64) (.int .i64)))) l), .one (.lst (.pair (.int .i64) (.pair .bool (.pair (.int .i64) (.int .i64)))) m), .one (.int .i64 (l.length : Int)), .one (.int .i64 ((i : Nat) : Int))], [])) (l.length) (fun j => gC l j == gC m j) _ _ (fun i hi F K => ?_) (fun F K => ?_)
  · have hi' : (i : Int) < (l.length : Int) := by omega
    have hc' := hc
    simp only [Bool.and_eq_true, decide_eq_true_eq] at hc'
    simp only [tu_eqC_0, U_eqC_0, LT.next, LT.run, ite2_dec, ite2_bool, wrap_next hi hsm, Int.toNat_natCast, hi', Int.natCast_nonneg, and_self, if_true, gI, gP, gC, gR]
    have hj : (i : Int) < (m.length : Int) := by omega
    simp [hj, Prod.ext_iff] <;> (repeat' split) <;> simp_all
  · simp only [tu_eqC_0, U_eqC_0, LT.next, LT.run, ite2_dec, Int.lt_irrefl, if_false]
    try rfl
theorem z_eqC_0 : ∀ vs bl t, S_eqC_0 vs bl = some (true, t) → ∃ n, ∀ (K : Ex → List V → List (Option Blk) → Option Out) r, t.run K = some r → (iter T_eqC_0 n vs bl).run K = some r := by
  intro vs bl t y0'
  unfold S_eqC_0 at y0'
  obtain ⟨c', vs, rfl, y1'⟩ := pO_s y0'
  obtain ⟨l, rfl, y2'⟩ := kLC_s y1'
  obtain ⟨c', vs, rfl, y3'⟩ := pO_s y2'
  obtain ⟨m, rfl, y4'⟩ := kLC_s y3'
  obtain ⟨c', vs, rfl, y5'⟩ := pO_s y4'
  obtain ⟨n, rfl, y6'⟩ := kI_s y5'
  obtain ⟨c', vs, rfl, y7'⟩ := pO_s y6'
  obtain ⟨i, rfl, y8'⟩ := kI_s y7'
  obtain ⟨rfl, y9'⟩ := pE_s y8'
  obtain ⟨rfl, y10'⟩ := bE_s y9'
  have yy' := y10'
  obtain ⟨hk, rfl⟩ := Prod.mk.inj (Option.some.inj yy')
  unfold k_eqC_0 at hk
  simp only [Bool.and_eq_true, decide_eq_true_eq, and_assoc] at hk
  obtain ⟨rfl, rfl, hsm, hc⟩ := hk
  exact zz_eqC_0 _ _ hsm (by first | exact hc | simpa using hc)
theorem q_eqC (l m : List (Int × Bool × Int × Int)) (hok : small l.length = true) : funR Try.prog t_eqC (annOf []) l_eqC 20 Try.f59 [.one (.lst (.pair (.int .i64) (.pair .bool (.pair (.int .i64) (.int .i64)))) l), .one (.lst (.pair (.int .i64) (.pair .bool (.pair (.int .i64) (.int .i64)))) m)] [] = some ⟨.one (.bool (decide (l = m))), [], []⟩ := by
    refine (e_eqC ..).trans ?_
    simp only [ite2_bool, k_eqC_0, p_eqC_0, gC]
    by_cases hl : l.length = m.length
    · rw [all_eq l m _ hl]
      rw [hl] at hok
      simp [hl, hok]
      split <;> simp_all
    · have h1 : l ≠ m := fun e => hl (by rw [e])
      have h2 : ¬ ((l.length : Int) = m.length) := by omega
      simp [h1, h2]
theorem s_eqC : SoundFun Try.prog 59 G_eqC := by
  refine fun_ok (tab := t_eqC) (ann := annOf []) (lt := l_eqC) tab_nil (by kernel_rfl) (fn := Try.f59) (by kernel_rfl) (by decide) (c := bodyOf Try.f59) (by kernel_rfl) (by
    intro m b hb
    have hb' : b ∈ loopsOf (bodyOf Try.f59) := hb
    rw [o_eqC] at hb'
    simp only [List.mem_cons, List.not_mem_nil, or_false] at hb'
    rcases hb' with rfl
    · exact loop_ok (key := 4) (by kernel_rfl) rfl r_eqC_0 z_eqC_0 m
    ) ?_
  intro args lent o y0'
  unfold G_eqC at y0'
  obtain ⟨c', args, rfl, y1'⟩ := pO_s y0'
  obtain ⟨l, rfl, y2'⟩ := kLC_s y1'
  obtain ⟨c', args, rfl, y3'⟩ := pO_s y2'
  obtain ⟨m, rfl, y4'⟩ := kLC_s y3'
  obtain ⟨rfl, y5'⟩ := pE_s y4'
  obtain ⟨rfl, y6'⟩ := nE_s y5'
  have yy' := y6'
  unfold H_eqC at yy'
  obtain ⟨hok, rfl⟩ := Prod.mk.inj (Option.some.inj yy')
  exact ⟨20, q_eqC _ _ hok⟩
end Go.Rx.Ch23
