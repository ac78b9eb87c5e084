/- The summaries of these functions are sound. -/
import Derived.Test.YtnhjhjkhfdlapaaRE0
set_option linter.unnecessarySimpa false
set_option linter.unusedVariables false
set_option linter.unusedSimpArgs false
set_option linter.unusedVariables false
set_option linter.unusedSimpArgs false
set_option maxRecDepth 100000
set_option maxHeartbeats 4000000
open Go Go.Rx Go.Proofs
namespace Go.Rx.Ch24
theorem q_rect_Empty (a b c d : Int) (hok : true = true) : funR Try.prog t_rect_Empty (annOf []) l_rect_Empty 20 Try.f58 [.agg [.int .i64 a, .int .i64 b, .int .i64 c, .int .i64 d]] [] = some ⟨.one (.bool (empty a b c d)), [], []⟩ := by
    refine (e_rect_Empty ..).trans ?_
    simp only [ite2_dec, ite2_bool, mx_eq, mn_eq, empty]
    (repeat' split) <;> (try simp_all) <;> (try omega) <;> (try (rw [Bool.eq_iff_iff]; simp; omega))
theorem s_rect_Empty : SoundFun Try.prog 58 G_rect_Empty := by
  refine fun_ok (tab := t_rect_Empty) (ann := annOf []) (lt := l_rect_Empty) tab_nil (by kernel_rfl) (fn := Try.f58) (by kernel_rfl) (by decide) (c := bodyOf Try.f58) (by kernel_rfl) (fun m b hb => absurd hb (by show b ∉ loopsOf (bodyOf Try.f58); rw [show loopsOf (bodyOf Try.f58) = [] from by kernel_rfl]; exact List.not_mem_nil)) ?_
  intro args lent o y0'
  unfold G_rect_Empty at y0'
  obtain ⟨q', args, rfl, y1'⟩ := pA_s y0'
  obtain ⟨c', q', rfl, y2'⟩ := tC_s y1'
  obtain ⟨a, rfl, y3'⟩ := kI_s y2'
  obtain ⟨c', q', rfl, y4'⟩ := tC_s y3'
  obtain ⟨b, rfl, y5'⟩ := kI_s y4'
  obtain ⟨c', q', rfl, y6'⟩ := tC_s y5'
  obtain ⟨c, rfl, y7'⟩ := kI_s y6'
  obtain ⟨c', q', rfl, y8'⟩ := tC_s y7'
  obtain ⟨d, rfl, y9'⟩ := kI_s y8'
  obtain ⟨rfl, y10'⟩ := tE_s y9'
  obtain ⟨rfl, y11'⟩ := pE_s y10'
  obtain ⟨rfl, y12'⟩ := nE_s y11'
  have yy' := y12'
  unfold H_rect_Empty at yy'
  obtain ⟨hok, rfl⟩ := Prod.mk.inj (Option.some.inj yy')
  exact ⟨20, q_rect_Empty _ _ _ _ hok⟩
theorem q_rect_Valid (a b c d : Int) (hok : true = true) : funR Try.prog t_rect_Valid (annOf []) l_rect_Valid 20 Try.f56 [.agg [.int .i64 a, .int .i64 b, .int .i64 c, .int .i64 d]] [] = some ⟨.one (.bool (valid a b c d)), [], []⟩ := by
    refine (e_rect_Valid ..).trans ?_
    simp only [ite2_dec, ite2_bool, mx_eq, mn_eq, valid]
    (repeat' split) <;> (try simp_all) <;> (try omega) <;> (try (rw [Bool.eq_iff_iff]; simp; omega))
theorem s_rect_Valid : SoundFun Try.prog 56 G_rect_Valid := by
  refine fun_ok (tab := t_rect_Valid) (ann := annOf []) (lt := l_rect_Valid) tab_nil (by kernel_rfl) (fn := Try.f56) (by kernel_rfl) (by decide) (c := bodyOf Try.f56) (by kernel_rfl) (fun m b hb => absurd hb (by show b ∉ loopsOf (bodyOf Try.f56); rw [show loopsOf (bodyOf Try.f56) = [] from by kernel_rfl]; exact List.not_mem_nil)) ?_
  intro args lent o y0'
  unfold G_rect_Valid at y0'
  obtain ⟨q', args, rfl, y1'⟩ := pA_s y0'
  obtain ⟨c', q', rfl, y2'⟩ := tC_s y1'
  obtain ⟨a, rfl, y3'⟩ := kI_s y2'
  obtain ⟨c', q', rfl, y4'⟩ := tC_s y3'
  obtain ⟨b, rfl, y5'⟩ := kI_s y4'
  obtain ⟨c', q', rfl, y6'⟩ := tC_s y5'
  obtain ⟨c, rfl, y7'⟩ := kI_s y6'
  obtain ⟨c', q', rfl, y8'⟩ := tC_s y7'
  obtain ⟨d, rfl, y9'⟩ := kI_s y8'
  obtain ⟨rfl, y10'⟩ := tE_s y9'
  obtain ⟨rfl, y11'⟩ := pE_s y10'
  obtain ⟨rfl, y12'⟩ := nE_s y11'
  have yy' := y12'
  unfold H_rect_Valid at yy'
  obtain ⟨hok, rfl⟩ := Prod.mk.inj (Option.some.inj yy')
  exact ⟨20, q_rect_Valid _ _ _ _ hok⟩
theorem q_rect_CeilDiv (a b : Int) (hok : true = true) : funR Try.prog t_rect_CeilDiv (annOf []) l_rect_CeilDiv 20 Try.f60 [.one (.int .i64 a), .one (.int .i64 b)] [] = some ⟨.one (.int .i64 (cdiv a b)), [], []⟩ := by
    refine (e_rect_CeilDiv ..).trans ?_
    simp only [ite2_dec, ite2_bool, mx_eq, mn_eq, cdiv]
    (repeat' split) <;> (try simp_all) <;> (try omega) <;> (try (rw [Bool.eq_iff_iff]; simp; omega))
theorem s_rect_CeilDiv : SoundFun Try.prog 60 G_rect_CeilDiv := by
  refine fun_ok (tab := t_rect_CeilDiv) (ann := annOf []) (lt := l_rect_CeilDiv) tab_nil (by kernel_rfl) (fn := Try.f60) (by kernel_rfl) (by decide) (c := bodyOf Try.f60) (by kernel_rfl) (fun m b hb => absurd hb (by show b ∉ loopsOf (bodyOf Try.f60); rw [show loopsOf (bodyOf Try.f60) = [] from by kernel_rfl]; exact List.not_mem_nil)) ?_
  intro args lent o y0'
  unfold G_rect_CeilDiv at y0'
  obtain ⟨c', args, rfl, y1'⟩ := pO_s y0'
  obtain ⟨a, rfl, y2'⟩ := kI_s y1'
  obtain ⟨c', args, rfl, y3'⟩ := pO_s y2'
  obtain ⟨b, rfl, y4'⟩ := kI_s y3'
  obtain ⟨rfl, y5'⟩ := pE_s y4'
  obtain ⟨rfl, y6'⟩ := nE_s y5'
  have yy' := y6'
  unfold H_rect_CeilDiv at yy'
  obtain ⟨hok, rfl⟩ := Prod.mk.inj (Option.some.inj yy')
  exact ⟨20, q_rect_CeilDiv _ _ hok⟩
theorem q_rect_FloorDiv (a b : Int) (hok : true = true) : funR Try.prog t_rect_FloorDiv (annOf []) l_rect_FloorDiv 20 Try.f61 [.one (.int .i64 a), .one (.int .i64 b)] [] = some ⟨.one (.int .i64 (fdiv a b)), [], []⟩ := by
    refine (e_rect_FloorDiv ..).trans ?_
    simp only [ite2_dec, ite2_bool, mx_eq, mn_eq, fdiv]
    (repeat' split) <;> (try simp_all) <;> (try omega) <;> (try (rw [Bool.eq_iff_iff]; simp; omega))
theorem s_rect_FloorDiv : SoundFun Try.prog 61 G_rect_FloorDiv := by
  refine fun_ok (tab := t_rect_FloorDiv) (ann := annOf []) (lt := l_rect_FloorDiv) tab_nil (by kernel_rfl) (fn := Try.f61) (by kernel_rfl) (by decide) (c := bodyOf Try.f61) (by kernel_rfl) (fun m b hb => absurd hb (by show b ∉ loopsOf (bodyOf Try.f61); rw [show loopsOf (bodyOf Try.f61) = [] from by kernel_rfl]; exact List.not_mem_nil)) ?_
  intro args lent o y0'
  unfold G_rect_FloorDiv at y0'
  obtain ⟨c', args, rfl, y1'⟩ := pO_s y0'
  obtain ⟨a, rfl, y2'⟩ := kI_s y1'
  obtain ⟨c', args, rfl, y3'⟩ := pO_s y2'
  obtain ⟨b, rfl, y4'⟩ := kI_s y3'
  obtain ⟨rfl, y5'⟩ := pE_s y4'
  obtain ⟨rfl, y6'⟩ := nE_s y5'
  have yy' := y6'
  unfold H_rect_FloorDiv at yy'
  obtain ⟨hok, rfl⟩ := Prod.mk.inj (Option.some.inj yy')
  exact ⟨20, q_rect_FloorDiv _ _ hok⟩
theorem q_rect_Area (a b c d : Int) (hok : true = true) : funR Try.prog t_rect_Area (annOf []) l_rect_Area 20 Try.f30 [.agg [.int .i64 a, .int .i64 b, .int .i64 c, .int .i64 d]] [] = some ⟨.one (.int .i64 (area a b c d)), [], []⟩ := by
    refine (e_rect_Area ..).trans ?_
    simp only [ite2_dec, ite2_bool, mx_eq, mn_eq, area]
    (repeat' split) <;> (try simp_all) <;> (try omega) <;> (try (rw [Bool.eq_iff_iff]; simp; omega))
theorem s_rect_Area : SoundFun Try.prog 30 G_rect_Area := by
  refine fun_ok (tab := t_rect_Area) (ann := annOf []) (lt := l_rect_Area) (tab_cons s_rect_Valid tab_nil) (by kernel_rfl) (fn := Try.f30) (by kernel_rfl) (by decide) (c := bodyOf Try.f30) (by kernel_rfl) (fun m b hb => absurd hb (by show b ∉ loopsOf (bodyOf Try.f30); rw [show loopsOf (bodyOf Try.f30) = [] from by kernel_rfl]; exact List.not_mem_nil)) ?_
  intro args lent o y0'
  unfold G_rect_Area at y0'
  obtain ⟨q', args, rfl, y1'⟩ := pA_s y0'
  obtain ⟨c', q', rfl, y2'⟩ := tC_s y1'
  obtain ⟨a, rfl, y3'⟩ := kI_s y2'
  obtain ⟨c', q', rfl, y4'⟩ := tC_s y3'
  obtain ⟨b, rfl, y5'⟩ := kI_s y4'
  obtain ⟨c', q', rfl, y6'⟩ := tC_s y5'
  obtain ⟨c, rfl, y7'⟩ := kI_s y6'
  obtain ⟨c', q', rfl, y8'⟩ := tC_s y7'
  obtain ⟨d, rfl, y9'⟩ := kI_s y8'
  obtain ⟨rfl, y10'⟩ := tE_s y9'
  obtain ⟨rfl, y11'⟩ := pE_s y10'
  obtain ⟨rfl, y12'⟩ := nE_s y11'
  have yy' := y12'
  unfold H_rect_Area at yy'
  obtain ⟨hok, rfl⟩ := Prod.mk.inj (Option.some.inj yy')
  exact ⟨20, q_rect_Area _ _ _ _ hok⟩
theorem q_rect_Reduce (a b c d x y : Int) (hok : true = true) : funR Try.prog t_rect_Reduce (annOf []) l_rect_Reduce 20 Try.f37 [.agg [.int .i64 a, .int .i64 b, .int .i64 c, .int .i64 d], .one (.int .i64 x), .one (.int .i64 y)] [] = some ⟨.agg [.int .i64 ((reduce a b c d x y).1), .int .i64 ((reduce a b c d x y).2.1), .int .i64 ((reduce a b c d x y).2.2.1), .int .i64 ((reduce a b c d x y).2.2.2)], [], []⟩ := by
    refine (e_rect_Reduce ..).trans ?_
    simp only [ite2_dec, ite2_bool, mx_eq, mn_eq, reduce]
    (repeat' split) <;> (try simp_all) <;> (try omega) <;> (try (rw [Bool.eq_iff_iff]; simp; omega))
theorem s_rect_Reduce : SoundFun Try.prog 37 G_rect_Reduce := by
  refine fun_ok (tab := t_rect_Reduce) (ann := annOf []) (lt := l_rect_Reduce) (tab_cons s_rect_Valid (tab_cons s_rect_CeilDiv tab_nil)) (by kernel_rfl) (fn := Try.f37) (by kernel_rfl) (by decide) (c := bodyOf Try.f37) (by kernel_rfl) (fun m b hb => absurd hb (by show b ∉ loopsOf (bodyOf Try.f37); rw [show loopsOf (bodyOf Try.f37) = [] from by kernel_rfl]; exact List.not_mem_nil)) ?_
  intro args lent o y0'
  unfold G_rect_Reduce at y0'
  obtain ⟨q', args, rfl, y1'⟩ := pA_s y0'
  obtain ⟨c', q', rfl, y2'⟩ := tC_s y1'
  obtain ⟨a, rfl, y3'⟩ := kI_s y2'
  obtain ⟨c', q', rfl, y4'⟩ := tC_s y3'
  obtain ⟨b, rfl, y5'⟩ := kI_s y4'
  obtain ⟨c', q', rfl, y6'⟩ := tC_s y5'
  obtain ⟨c, rfl, y7'⟩ := kI_s y6'
  obtain ⟨c', q', rfl, y8'⟩ := tC_s y7'
  obtain ⟨d, rfl, y9'⟩ := kI_s y8'
  obtain ⟨rfl, y10'⟩ := tE_s y9'
  obtain ⟨c', args, rfl, y11'⟩ := pO_s y10'
  obtain ⟨x, rfl, y12'⟩ := kI_s y11'
  obtain ⟨c', args, rfl, y13'⟩ := pO_s y12'
  obtain ⟨y, rfl, y14'⟩ := kI_s y13'
  obtain ⟨rfl, y15'⟩ := pE_s y14'
  obtain ⟨rfl, y16'⟩ := nE_s y15'
  have yy' := y16'
  unfold H_rect_Reduce at yy'
  obtain ⟨hok, rfl⟩ := Prod.mk.inj (Option.some.inj yy')
  exact ⟨20, q_rect_Reduce _ _ _ _ _ _ hok⟩
theorem q_rect_Intersect (a b c d e f g h : Int) (hok : true = true) : funR Try.prog t_rect_Intersect (annOf []) l_rect_Intersect 20 Try.f59 [.agg [.int .i64 a, .int .i64 b, .int .i64 c, .int .i64 d], .agg [.int .i64 e, .int .i64 f, .int .i64 g, .int .i64 h]] [] = some ⟨.agg [.int .i64 ((inter a b c d e f g h).1), .int .i64 ((inter a b c d e f g h).2.1), .int .i64 ((inter a b c d e f g h).2.2.1), .int .i64 ((inter a b c d e f g h).2.2.2)], [], []⟩ := by
    refine (e_rect_Intersect ..).trans ?_
    simp only [ite2_dec, ite2_bool, mx_eq, mn_eq, inter]
    (repeat' split) <;> (try simp_all) <;> (try omega) <;> (try (rw [Bool.eq_iff_iff]; simp; omega))
theorem s_rect_Intersect : SoundFun Try.prog 59 G_rect_Intersect := by
  refine fun_ok (tab := t_rect_Intersect) (ann := annOf []) (lt := l_rect_Intersect) (tab_cons s_rect_Empty tab_nil) (by kernel_rfl) (fn := Try.f59) (by kernel_rfl) (by decide) (c := bodyOf Try.f59) (by kernel_rfl) (fun m b hb => absurd hb (by show b ∉ loopsOf (bodyOf Try.f59); rw [show loopsOf (bodyOf Try.f59) = [] from by kernel_rfl]; exact List.not_mem_nil)) ?_
  intro args lent o y0'
  unfold G_rect_Intersect at y0'
  obtain ⟨q', args, rfl, y1'⟩ := pA_s y0'
  obtain ⟨c', q', rfl, y2'⟩ := tC_s y1'
  obtain ⟨a, rfl, y3'⟩ := kI_s y2'
  obtain ⟨c', q', rfl, y4'⟩ := tC_s y3'
  obtain ⟨b, rfl, y5'⟩ := kI_s y4'
  obtain ⟨c', q', rfl, y6'⟩ := tC_s y5'
  obtain ⟨c, rfl, y7'⟩ := kI_s y6'
  obtain ⟨c', q', rfl, y8'⟩ := tC_s y7'
  obtain ⟨d, rfl, y9'⟩ := kI_s y8'
  obtain ⟨rfl, y10'⟩ := tE_s y9'
  obtain ⟨q', args, rfl, y11'⟩ := pA_s y10'
  obtain ⟨c', q', rfl, y12'⟩ := tC_s y11'
  obtain ⟨e, rfl, y13'⟩ := kI_s y12'
  obtain ⟨c', q', rfl, y14'⟩ := tC_s y13'
  obtain ⟨f, rfl, y15'⟩ := kI_s y14'
  obtain ⟨c', q', rfl, y16'⟩ := tC_s y15'
  obtain ⟨g, rfl, y17'⟩ := kI_s y16'
  obtain ⟨c', q', rfl, y18'⟩ := tC_s y17'
  obtain ⟨h, rfl, y19'⟩ := kI_s y18'
  obtain ⟨rfl, y20'⟩ := tE_s y19'
  obtain ⟨rfl, y21'⟩ := pE_s y20'
  obtain ⟨rfl, y22'⟩ := nE_s y21'
  have yy' := y22'
  unfold H_rect_Intersect at yy'
  obtain ⟨hok, rfl⟩ := Prod.mk.inj (Option.some.inj yy')
  exact ⟨20, q_rect_Intersect _ _ _ _ _ _ _ _ hok⟩
theorem q_ref01_Empty (a b c d : Int) (hok : true = true) : funR Try.prog t_ref01_Empty (annOf []) l_ref01_Empty 20 Try.f63 [.agg [.int .i64 a, .int .i64 b, .int .i64 c, .int .i64 d]] [] = some ⟨.one (.bool (empty a b c d)), [], []⟩ := by
    refine (e_ref01_Empty ..).trans ?_
    simp only [ite2_dec, ite2_bool, mx_eq, mn_eq, empty]
    (repeat' split) <;> (try simp_all) <;> (try omega) <;> (try (rw [Bool.eq_iff_iff]; simp; omega))
theorem s_ref01_Empty : SoundFun Try.prog 63 G_ref01_Empty := by
  refine fun_ok (tab := t_ref01_Empty) (ann := annOf []) (lt := l_ref01_Empty) tab_nil (by kernel_rfl) (fn := Try.f63) (by kernel_rfl) (by decide) (c := bodyOf Try.f63) (by kernel_rfl) (fun m b hb => absurd hb (by show b ∉ loopsOf (bodyOf Try.f63); rw [show loopsOf (bodyOf Try.f63) = [] from by kernel_rfl]; exact List.not_mem_nil)) ?_
  intro args lent o y0'
  unfold G_ref01_Empty at y0'
  obtain ⟨q', args, rfl, y1'⟩ := pA_s y0'
  obtain ⟨c', q', rfl, y2'⟩ := tC_s y1'
  obtain ⟨a, rfl, y3'⟩ := kI_s y2'
  obtain ⟨c', q', rfl, y4'⟩ := tC_s y3'
  obtain ⟨b, rfl, y5'⟩ := kI_s y4'
  obtain ⟨c', q', rfl, y6'⟩ := tC_s y5'
  obtain ⟨c, rfl, y7'⟩ := kI_s y6'
  obtain ⟨c', q', rfl, y8'⟩ := tC_s y7'
  obtain ⟨d, rfl, y9'⟩ := kI_s y8'
  obtain ⟨rfl, y10'⟩ := tE_s y9'
  obtain ⟨rfl, y11'⟩ := pE_s y10'
  obtain ⟨rfl, y12'⟩ := nE_s y11'
  have yy' := y12'
  unfold H_ref01_Empty at yy'
  obtain ⟨hok, rfl⟩ := Prod.mk.inj (Option.some.inj yy')
  exact ⟨20, q_ref01_Empty _ _ _ _ hok⟩
theorem q_ref01_Valid (a b c d : Int) (hok : true = true) : funR Try.prog t_ref01_Valid (annOf []) l_ref01_Valid 20 Try.f62 [.agg [.int .i64 a, .int .i64 b, .int .i64 c, .int .i64 d]] [] = some ⟨.one (.bool (valid a b c d)), [], []⟩ := by
    refine (e_ref01_Valid ..).trans ?_
    simp only [ite2_dec, ite2_bool, mx_eq, mn_eq, valid]
    (repeat' split) <;> (try simp_all) <;> (try omega) <;> (try (rw [Bool.eq_iff_iff]; simp; omega))
theorem s_ref01_Valid : SoundFun Try.prog 62 G_ref01_Valid := by
  refine fun_ok (tab := t_ref01_Valid) (ann := annOf []) (lt := l_ref01_Valid) tab_nil (by kernel_rfl) (fn := Try.f62) (by kernel_rfl) (by decide) (c := bodyOf Try.f62) (by kernel_rfl) (fun m b hb => absurd hb (by show b ∉ loopsOf (bodyOf Try.f62); rw [show loopsOf (bodyOf Try.f62) = [] from by kernel_rfl]; exact List.not_mem_nil)) ?_
  intro args lent o y0'
  unfold G_ref01_Valid at y0'
  obtain ⟨q', args, rfl, y1'⟩ := pA_s y0'
  obtain ⟨c', q', rfl, y2'⟩ := tC_s y1'
  obtain ⟨a, rfl, y3'⟩ := kI_s y2'
  obtain ⟨c', q', rfl, y4'⟩ := tC_s y3'
  obtain ⟨b, rfl, y5'⟩ := kI_s y4'
  obtain ⟨c', q', rfl, y6'⟩ := tC_s y5'
  obtain ⟨c, rfl, y7'⟩ := kI_s y6'
  obtain ⟨c', q', rfl, y8'⟩ := tC_s y7'
  obtain ⟨d, rfl, y9'⟩ := kI_s y8'
  obtain ⟨rfl, y10'⟩ := tE_s y9'
  obtain ⟨rfl, y11'⟩ := pE_s y10'
  obtain ⟨rfl, y12'⟩ := nE_s y11'
  have yy' := y12'
  unfold H_ref01_Valid at yy'
  obtain ⟨hok, rfl⟩ := Prod.mk.inj (Option.some.inj yy')
  exact ⟨20, q_ref01_Valid _ _ _ _ hok⟩
theorem q_ref01_CeilDiv (a b : Int) (hok : true = true) : funR Try.prog t_ref01_CeilDiv (annOf []) l_ref01_CeilDiv 20 Try.f68 [.one (.int .i64 a), .one (.int .i64 b)] [] = some ⟨.one (.int .i64 (cdiv a b)), [], []⟩ := by
    refine (e_ref01_CeilDiv ..).trans ?_
    simp only [ite2_dec, ite2_bool, mx_eq, mn_eq, cdiv]
    (repeat' split) <;> (try simp_all) <;> (try omega) <;> (try (rw [Bool.eq_iff_iff]; simp; omega))
theorem s_ref01_CeilDiv : SoundFun Try.prog 68 G_ref01_CeilDiv := by
  refine fun_ok (tab := t_ref01_CeilDiv) (ann := annOf []) (lt := l_ref01_CeilDiv) tab_nil (by kernel_rfl) (fn := Try.f68) (by kernel_rfl) (by decide) (c := bodyOf Try.f68) (by kernel_rfl) (fun m b hb => absurd hb (by show b ∉ loopsOf (bodyOf Try.f68); rw [show loopsOf (bodyOf Try.f68) = [] from by kernel_rfl]; exact List.not_mem_nil)) ?_
  intro args lent o y0'
  unfold G_ref01_CeilDiv at y0'
  obtain ⟨c', args, rfl, y1'⟩ := pO_s y0'
  obtain ⟨a, rfl, y2'⟩ := kI_s y1'
  obtain ⟨c', args, rfl, y3'⟩ := pO_s y2'
  obtain ⟨b, rfl, y4'⟩ := kI_s y3'
  obtain ⟨rfl, y5'⟩ := pE_s y4'
  obtain ⟨rfl, y6'⟩ := nE_s y5'
  have yy' := y6'
  unfold H_ref01_CeilDiv at yy'
  obtain ⟨hok, rfl⟩ := Prod.mk.inj (Option.some.inj yy')
  exact ⟨20, q_ref01_CeilDiv _ _ hok⟩
theorem q_ref01_FloorDiv (a b : Int) (hok : true = true) : funR Try.prog t_ref01_FloorDiv (annOf []) l_ref01_FloorDiv 20 Try.f67 [.one (.int .i64 a), .one (.int .i64 b)] [] = some ⟨.one (.int .i64 (fdiv a b)), [], []⟩ := by
    refine (e_ref01_FloorDiv ..).trans ?_
    simp only [ite2_dec, ite2_bool, mx_eq, mn_eq, fdiv]
    (repeat' split) <;> (try simp_all) <;> (try omega) <;> (try (rw [Bool.eq_iff_iff]; simp; omega))
theorem s_ref01_FloorDiv : SoundFun Try.prog 67 G_ref01_FloorDiv := by
  refine fun_ok (tab := t_ref01_FloorDiv) (ann := annOf []) (lt := l_ref01_FloorDiv) tab_nil (by kernel_rfl) (fn := Try.f67) (by kernel_rfl) (by decide) (c := bodyOf Try.f67) (by kernel_rfl) (fun m b hb => absurd hb (by show b ∉ loopsOf (bodyOf Try.f67); rw [show loopsOf (bodyOf Try.f67) = [] from by kernel_rfl]; exact List.not_mem_nil)) ?_
  intro args lent o y0'
  unfold G_ref01_FloorDiv at y0'
  obtain ⟨c', args, rfl, y1'⟩ := pO_s y0'
  obtain ⟨a, rfl, y2'⟩ := kI_s y1'
  obtain ⟨c', args, rfl, y3'⟩ := pO_s y2'
  obtain ⟨b, rfl, y4'⟩ := kI_s y3'
  obtain ⟨rfl, y5'⟩ := pE_s y4'
  obtain ⟨rfl, y6'⟩ := nE_s y5'
  have yy' := y6'
  unfold H_ref01_FloorDiv at yy'
  obtain ⟨hok, rfl⟩ := Prod.mk.inj (Option.some.inj yy')
  exact ⟨20, q_ref01_FloorDiv _ _ hok⟩
theorem q_ref01_Area (a b c d : Int) (hok : true = true) : funR Try.prog t_ref01_Area (annOf []) l_ref01_Area 20 Try.f66 [.agg [.int .i64 a, .int .i64 b, .int .i64 c, .int .i64 d]] [] = some ⟨.one (.int .i64 (area a b c d)), [], []⟩ := by
    refine (e_ref01_Area ..).trans ?_
    simp only [ite2_dec, ite2_bool, mx_eq, mn_eq, area]
    (repeat' split) <;> (try simp_all) <;> (try omega) <;> (try (rw [Bool.eq_iff_iff]; simp; omega))
theorem s_ref01_Area : SoundFun Try.prog 66 G_ref01_Area := by
  refine fun_ok (tab := t_ref01_Area) (ann := annOf []) (lt := l_ref01_Area) (tab_cons s_ref01_Valid tab_nil) (by kernel_rfl) (fn := Try.f66) (by kernel_rfl) (by decide) (c := bodyOf Try.f66) (by kernel_rfl) (fun m b hb => absurd hb (by show b ∉ loopsOf (bodyOf Try.f66); rw [show loopsOf (bodyOf Try.f66) = [] from by kernel_rfl]; exact List.not_mem_nil)) ?_
  intro args lent o y0'
  unfold G_ref01_Area at y0'
  obtain ⟨q', args, rfl, y1'⟩ := pA_s y0'
  obtain ⟨c', q', rfl, y2'⟩ := tC_s y1'
  obtain ⟨a, rfl, y3'⟩ := kI_s y2'
  obtain ⟨c', q', rfl, y4'⟩ := tC_s y3'
  obtain ⟨b, rfl, y5'⟩ := kI_s y4'
  obtain ⟨c', q', rfl, y6'⟩ := tC_s y5'
  obtain ⟨c, rfl, y7'⟩ := kI_s y6'
  obtain ⟨c', q', rfl, y8'⟩ := tC_s y7'
  obtain ⟨d, rfl, y9'⟩ := kI_s y8'
  obtain ⟨rfl, y10'⟩ := tE_s y9'
  obtain ⟨rfl, y11'⟩ := pE_s y10'
  obtain ⟨rfl, y12'⟩ := nE_s y11'
  have yy' := y12'
  unfold H_ref01_Area at yy'
  obtain ⟨hok, rfl⟩ := Prod.mk.inj (Option.some.inj yy')
  exact ⟨20, q_ref01_Area _ _ _ _ hok⟩
theorem q_ref01_Reduce (a b c d x y : Int) (hok : true = true) : funR Try.prog t_ref01_Reduce (annOf []) l_ref01_Reduce 20 Try.f38 [.agg [.int .i64 a, .int .i64 b, .int .i64 c, .int .i64 d], .one (.int .i64 x), .one (.int .i64 y)] [] = some ⟨.agg [.int .i64 ((reduce a b c d x y).1), .int .i64 ((reduce a b c d x y).2.1), .int .i64 ((reduce a b c d x y).2.2.1), .int .i64 ((reduce a b c d x y).2.2.2)], [], []⟩ := by
    refine (e_ref01_Reduce ..).trans ?_
    simp only [ite2_dec, ite2_bool, mx_eq, mn_eq, reduce]
    (repeat' split) <;> (try simp_all) <;> (try omega) <;> (try (rw [Bool.eq_iff_iff]; simp; omega))
theorem s_ref01_Reduce : SoundFun Try.prog 38 G_ref01_Reduce := by
  refine fun_ok (tab := t_ref01_Reduce) (ann := annOf []) (lt := l_ref01_Reduce) (tab_cons s_ref01_Valid (tab_cons s_ref01_CeilDiv tab_nil)) (by kernel_rfl) (fn := Try.f38) (by kernel_rfl) (by decide) (c := bodyOf Try.f38) (by kernel_rfl) (fun m b hb => absurd hb (by show b ∉ loopsOf (bodyOf Try.f38); rw [show loopsOf (bodyOf Try.f38) = [] from by kernel_rfl]; exact List.not_mem_nil)) ?_
  intro args lent o y0'
  unfold G_ref01_Reduce at y0'
  obtain ⟨q', args, rfl, y1'⟩ := pA_s y0'
  obtain ⟨c', q', rfl, y2'⟩ := tC_s y1'
  obtain ⟨a, rfl, y3'⟩ := kI_s y2'
  obtain ⟨c', q', rfl, y4'⟩ := tC_s y3'
  obtain ⟨b, rfl, y5'⟩ := kI_s y4'
  obtain ⟨c', q', rfl, y6'⟩ := tC_s y5'
  obtain ⟨c, rfl, y7'⟩ := kI_s y6'
  obtain ⟨c', q', rfl, y8'⟩ := tC_s y7'
  obtain ⟨d, rfl, y9'⟩ := kI_s y8'
  obtain ⟨rfl, y10'⟩ := tE_s y9'
  obtain ⟨c', args, rfl, y11'⟩ := pO_s y10'
  obtain ⟨x, rfl, y12'⟩ := kI_s y11'
  obtain ⟨c', args, rfl, y13'⟩ := pO_s y12'
  obtain ⟨y, rfl, y14'⟩ := kI_s y13'
  obtain ⟨rfl, y15'⟩ := pE_s y14'
  obtain ⟨rfl, y16'⟩ := nE_s y15'
  have yy' := y16'
  unfold H_ref01_Reduce at yy'
  obtain ⟨hok, rfl⟩ := Prod.mk.inj (Option.some.inj yy')
  exact ⟨20, q_ref01_Reduce _ _ _ _ _ _ hok⟩
theorem q_ref01_Intersect (a b c d e f g h : Int) (hok : true = true) : funR Try.prog t_ref01_Intersect (annOf []) l_ref01_Intersect 20 Try.f69 [.agg [.int .i64 a, .int .i64 b, .int .i64 c, .int .i64 d], .agg [.int .i64 e, .int .i64 f, .int .i64 g, .int .i64 h]] [] = some ⟨.agg [.int .i64 ((inter a b c d e f g h).1), .int .i64 ((inter a b c d e f g h).2.1), .int .i64 ((inter a b c d e f g h).2.2.1), .int .i64 ((inter a b c d e f g h).2.2.2)], [], []⟩ := by
    refine (e_ref01_Intersect ..).trans ?_
    simp only [ite2_dec, ite2_bool, mx_eq, mn_eq, inter]
    (repeat' split) <;> (try simp_all) <;> (try omega) <;> (try (rw [Bool.eq_iff_iff]; simp; omega))
theorem s_ref01_Intersect : SoundFun Try.prog 69 G_ref01_Intersect := by
  refine fun_ok (tab := t_ref01_Intersect) (ann := annOf []) (lt := l_ref01_Intersect) (tab_cons s_ref01_Empty tab_nil) (by kernel_rfl) (fn := Try.f69) (by kernel_rfl) (by decide) (c := bodyOf Try.f69) (by kernel_rfl) (fun m b hb => absurd hb (by show b ∉ loopsOf (bodyOf Try.f69); rw [show loopsOf (bodyOf Try.f69) = [] from by kernel_rfl]; exact List.not_mem_nil)) ?_
  intro args lent o y0'
  unfold G_ref01_Intersect at y0'
  obtain ⟨q', args, rfl, y1'⟩ := pA_s y0'
  obtain ⟨c', q', rfl, y2'⟩ := tC_s y1'
  obtain ⟨a, rfl, y3'⟩ := kI_s y2'
  obtain ⟨c', q', rfl, y4'⟩ := tC_s y3'
  obtain ⟨b, rfl, y5'⟩ := kI_s y4'
  obtain ⟨c', q', rfl, y6'⟩ := tC_s y5'
  obtain ⟨c, rfl, y7'⟩ := kI_s y6'
  obtain ⟨c', q', rfl, y8'⟩ := tC_s y7'
  obtain ⟨d, rfl, y9'⟩ := kI_s y8'
  obtain ⟨rfl, y10'⟩ := tE_s y9'
  obtain ⟨q', args, rfl, y11'⟩ := pA_s y10'
  obtain ⟨c', q', rfl, y12'⟩ := tC_s y11'
  obtain ⟨e, rfl, y13'⟩ := kI_s y12'
  obtain ⟨c', q', rfl, y14'⟩ := tC_s y13'
  obtain ⟨f, rfl, y15'⟩ := kI_s y14'
  obtain ⟨c', q', rfl, y16'⟩ := tC_s y15'
  obtain ⟨g, rfl, y17'⟩ := kI_s y16'
  obtain ⟨c', q', rfl, y18'⟩ := tC_s y17'
  obtain ⟨h, rfl, y19'⟩ := kI_s y18'
  obtain ⟨rfl, y20'⟩ := tE_s y19'
  obtain ⟨rfl, y21'⟩ := pE_s y20'
  obtain ⟨rfl, y22'⟩ := nE_s y21'
  have yy' := y22'
  unfold H_ref01_Intersect at yy'
  obtain ⟨hok, rfl⟩ := Prod.mk.inj (Option.some.inj yy')
  exact ⟨20, q_ref01_Intersect _ _ _ _ _ _ _ _ hok⟩
theorem r_params_within_0 : RoundOk Try.prog t_params_within (annOf []) l_params_within Out 20 0 24 [0, 1, 9, 10, 11] (kxOf [] [6]) (loopOf Try.f51 0) T_params_within_0 := by
  intro vs bl Kc r h
  unfold T_params_within_0 at h
  obtain ⟨t, y0', h'⟩ := getD_run h
  obtain ⟨c', vs, rfl, y1'⟩ := pO_s y0'
  obtain ⟨a, rfl, y2'⟩ := kI_s y1'
  obtain ⟨c', vs, rfl, y3'⟩ := pO_s y2'
  obtain ⟨b, rfl, y4'⟩ := kI_s y3'
  obtain ⟨c', vs, rfl, y5'⟩ := pO_s y4'
  obtain ⟨l, rfl, y6'⟩ := kLI_s y5'
  obtain ⟨c', vs, rfl, y7'⟩ := pO_s y6'
  obtain ⟨n, rfl, y8'⟩ := kI_s y7'
  obtain ⟨c', vs, rfl, y9'⟩ := pO_s y8'
  obtain ⟨i, rfl, y10'⟩ := kI_s y9'
  obtain ⟨rfl, y11'⟩ := pE_s y10'
  obtain ⟨rfl, y12'⟩ := bE_s y11'
  have yy' := y12'
  cases yy'
  exact (b_params_within_0 ..).trans ((congrArg (LT.runc · Kc) (tu_params_within_0 ..)).trans h')
theorem o_params_within : loopsOf (bodyOf Try.f51) = [loopOf Try.f51 0] := by kernel_rfl
theorem zz_params_within_0 (a b : Int) (l : List Int) (hsm : small (l.length) = true) (hc : true = true) : ∃ k, ∀ (K : Ex → List V → List (Option Blk) → Option Out) r, (c_params_within_0 a b l).run K = some r → (iter T_params_within_0 k [.one (.int .i64 a), .one (.int .i64 b), .one (.lst (.int .i64) l), .one (.int .i64 (l.length : Int)), .one (.int .i64 0)] []).run K = some r := by
  refine z_list (st := fun i => ([.one (.int .i64 a), .one (.int .i64 b), .one (.lst (.int .i64) l), .one (.int .i64 (l.length : Int)), .one (.int .i64 ((i : Nat) : Int))], [])) l 0 (inr a b) _ _ (fun i hi F K => ?_) (fun F K => ?_)
  · have hi' : (i : Int) < (l.length : Int) := by omega
    simp only [tu_params_within_0, U_params_within_0, LT.next, LT.run, ite2_dec, ite2_bool, wrap_next hi hsm, Int.toNat_natCast, hi', Int.natCast_nonneg, and_self, if_true, gI, gP, gC, gR, inr, Bool.and_eq_true, decide_eq_true_eq]
    (repeat' split) <;> simp_all <;> omega
  · simp only [tu_params_within_0, U_params_within_0, LT.next, LT.run, ite2_dec, Int.lt_irrefl, if_false]
    try rfl
theorem z_params_within_0 : ∀ vs bl t, S_params_within_0 vs bl = some (true, t) → ∃ n, ∀ (K : Ex → List V → List (Option Blk) → Option Out) r, t.run K = some r → (iter T_params_within_0 n vs bl).run K = some r := by
  intro vs bl t y0'
  unfold S_params_within_0 at y0'
  obtain ⟨c', vs, rfl, y1'⟩ := pO_s y0'
  obtain ⟨a, rfl, y2'⟩ := kI_s y1'
  obtain ⟨c', vs, rfl, y3'⟩ := pO_s y2'
  obtain ⟨b, rfl, y4'⟩ := kI_s y3'
  obtain ⟨c', vs, rfl, y5'⟩ := pO_s y4'
  obtain ⟨l, rfl, y6'⟩ := kLI_s y5'
  obtain ⟨c', vs, rfl, y7'⟩ := pO_s y6'
  obtain ⟨n, rfl, y8'⟩ := kI_s y7'
  obtain ⟨c', vs, rfl, y9'⟩ := pO_s y8'
  obtain ⟨i, rfl, y10'⟩ := kI_s y9'
  obtain ⟨rfl, y11'⟩ := pE_s y10'
  obtain ⟨rfl, y12'⟩ := bE_s y11'
  have yy' := y12'
  obtain ⟨hk, rfl⟩ := Prod.mk.inj (Option.some.inj yy')
  unfold k_params_within_0 at hk
  simp only [Bool.and_eq_true, decide_eq_true_eq, and_assoc] at hk
  obtain ⟨rfl, rfl, hsm, hc⟩ := hk
  exact zz_params_within_0 _ _ _ hsm (by first | exact hc | simpa using hc)
theorem q_params_within (a b : Int) (l : List Int) (hok : small l.length = true) : funR Try.prog t_params_within (annOf []) l_params_within 20 Try.f51 [.one (.int .i64 a), .one (.int .i64 b), .one (.lst (.int .i64) l)] [] = some ⟨.one (.bool (within a b l)), [], []⟩ := by
    refine (e_params_within ..).trans ?_
    simp [ite2_bool, k_params_within_0, p_params_within_0, within, hok]
    (repeat' split) <;> simp_all
theorem s_params_within : SoundFun Try.prog 51 G_params_within := by
  refine fun_ok (tab := t_params_within) (ann := annOf []) (lt := l_params_within) tab_nil (by kernel_rfl) (fn := Try.f51) (by kernel_rfl) (by decide) (c := bodyOf Try.f51) (by kernel_rfl) (by
    intro m b hb
    have hb' : b ∈ loopsOf (bodyOf Try.f51) := hb
    rw [o_params_within] at hb'
    simp only [List.mem_cons, List.not_mem_nil, or_false] at hb'
    rcases hb' with rfl
    · exact loop_ok (key := 2) (by kernel_rfl) rfl r_params_within_0 z_params_within_0 m
    ) ?_
  intro args lent o y0'
  unfold G_params_within at y0'
  obtain ⟨c', args, rfl, y1'⟩ := pO_s y0'
  obtain ⟨a, rfl, y2'⟩ := kI_s y1'
  obtain ⟨c', args, rfl, y3'⟩ := pO_s y2'
  obtain ⟨b, rfl, y4'⟩ := kI_s y3'
  obtain ⟨c', args, rfl, y5'⟩ := pO_s y4'
  obtain ⟨l, rfl, y6'⟩ := kLI_s y5'
  obtain ⟨rfl, y7'⟩ := pE_s y6'
  obtain ⟨rfl, y8'⟩ := nE_s y7'
  have yy' := y8'
  unfold H_params_within at yy'
  obtain ⟨hok, rfl⟩ := Prod.mk.inj (Option.some.inj yy')
  exact ⟨20, q_params_within _ _ _ hok⟩
end Go.Rx.Ch24

set_option linter.unusedVariables false
set_option linter.unusedSimpArgs false
set_option maxRecDepth 100000
set_option maxHeartbeats 4000000
open Go Go.Rx Go.Proofs
namespace Go.Rx.Ch24
theorem q_params_Precinct (p : Pm) (r : Int) (hok : true = true) : funR Try.prog t_params_Precinct (annOf []) l_params_Precinct 20 Try.f41 [.agg (pmC p), .one (.int .i64 r)] [] = some ⟨.agg [.int .i64 ((prec p r).1), .int .i64 ((prec p r).2)], [], []⟩ := by
    refine (e_params_Precinct ..).trans ?_
    simp only [ite2_dec, ite2_bool, mx_eq, mn_eq, prec]
    (repeat' split) <;> (try simp_all) <;> (try omega) <;> (try (rw [Bool.eq_iff_iff]; simp; omega))
theorem s_params_Precinct : SoundFun Try.prog 41 G_params_Precinct := by
  refine fun_ok (tab := t_params_Precinct) (ann := annOf []) (lt := l_params_Precinct) tab_nil (by kernel_rfl) (fn := Try.f41) (by kernel_rfl) (by decide) (c := bodyOf Try.f41) (by kernel_rfl) (fun m b hb => absurd hb (by show b ∉ loopsOf (bodyOf Try.f41); rw [show loopsOf (bodyOf Try.f41) = [] from by kernel_rfl]; exact List.not_mem_nil)) ?_
  intro args lent o y0'
  unfold G_params_Precinct at y0'
  obtain ⟨q', args, rfl, y1'⟩ := pA_s y0'
  obtain ⟨p, rfl, y2'⟩ := rdPm_s y1'
  obtain ⟨c', args, rfl, y3'⟩ := pO_s y2'
  obtain ⟨r, rfl, y4'⟩ := kI_s y3'
  obtain ⟨rfl, y5'⟩ := pE_s y4'
  obtain ⟨rfl, y6'⟩ := nE_s y5'
  have yy' := y6'
  unfold H_params_Precinct at yy'
  obtain ⟨hok, rfl⟩ := Prod.mk.inj (Option.some.inj yy')
  exact ⟨20, q_params_Precinct _ _ hok⟩
theorem q_ref23_Precinct (p : Pm) (r : Int) (hok : true = true) : funR Try.prog t_ref23_Precinct (annOf []) l_ref23_Precinct 20 Try.f73 [.agg (pmC p), .one (.int .i64 r)] [] = some ⟨.agg [.int .i64 ((prec p r).1), .int .i64 ((prec p r).2)], [], []⟩ := by
    refine (e_ref23_Precinct ..).trans ?_
    simp only [ite2_dec, ite2_bool, mx_eq, mn_eq, prec]
    (repeat' split) <;> (try simp_all) <;> (try omega) <;> (try (rw [Bool.eq_iff_iff]; simp; omega))
theorem s_ref23_Precinct : SoundFun Try.prog 73 G_ref23_Precinct := by
  refine fun_ok (tab := t_ref23_Precinct) (ann := annOf []) (lt := l_ref23_Precinct) tab_nil (by kernel_rfl) (fn := Try.f73) (by kernel_rfl) (by decide) (c := bodyOf Try.f73) (by kernel_rfl) (fun m b hb => absurd hb (by show b ∉ loopsOf (bodyOf Try.f73); rw [show loopsOf (bodyOf Try.f73) = [] from by kernel_rfl]; exact List.not_mem_nil)) ?_
  intro args lent o y0'
  unfold G_ref23_Precinct at y0'
  obtain ⟨q', args, rfl, y1'⟩ := pA_s y0'
  obtain ⟨p, rfl, y2'⟩ := rdPm_s y1'
  obtain ⟨c', args, rfl, y3'⟩ := pO_s y2'
  obtain ⟨r, rfl, y4'⟩ := kI_s y3'
  obtain ⟨rfl, y5'⟩ := pE_s y4'
  obtain ⟨rfl, y6'⟩ := nE_s y5'
  have yy' := y6'
  unfold H_ref23_Precinct at yy'
  obtain ⟨hok, rfl⟩ := Prod.mk.inj (Option.some.inj yy')
  exact ⟨20, q_ref23_Precinct _ _ hok⟩
end Go.Rx.Ch24

set_option linter.unusedVariables false
set_option linter.unusedSimpArgs false
set_option maxRecDepth 100000
set_option maxHeartbeats 4000000
open Go Go.Rx Go.Proofs
namespace Go.Rx.Ch24
end Go.Rx.Ch24

set_option linter.unusedVariables false
set_option linter.unusedSimpArgs false
set_option maxRecDepth 100000
set_option maxHeartbeats 4000000
open Go Go.Rx Go.Proofs
namespace Go.Rx.Ch24
end Go.Rx.Ch24

set_option linter.unusedVariables false
set_option linter.unusedSimpArgs false
set_option maxRecDepth 100000
set_option maxHeartbeats 4000000
open Go Go.Rx Go.Proofs
namespace Go.Rx.Ch24
theorem q_ref23_kinds (p : Pm) (hok : true = true) : funR Try.prog t_ref23_kinds (annOf []) l_ref23_kinds 20 Try.f88 [.agg (pmC p)] [] = some ⟨.one (.bool (kinds p)), [], []⟩ := by
    refine (e_ref23_kinds ..).trans ?_
    simp only [ite2_dec, ite2_bool, mx_eq, mn_eq, kinds, inr]
    (repeat' split) <;> (try simp_all) <;> (try omega) <;> (try (rw [Bool.eq_iff_iff]; simp; omega))
theorem s_ref23_kinds : SoundFun Try.prog 88 G_ref23_kinds := by
  refine fun_ok (tab := t_ref23_kinds) (ann := annOf []) (lt := l_ref23_kinds) tab_nil (by kernel_rfl) (fn := Try.f88) (by kernel_rfl) (by decide) (c := bodyOf Try.f88) (by kernel_rfl) (fun m b hb => absurd hb (by show b ∉ loopsOf (bodyOf Try.f88); rw [show loopsOf (bodyOf Try.f88) = [] from by kernel_rfl]; exact List.not_mem_nil)) ?_
  intro args lent o y0'
  unfold G_ref23_kinds at y0'
  obtain ⟨q', args, rfl, y1'⟩ := pA_s y0'
  obtain ⟨p, rfl, y2'⟩ := rdPm_s y1'
  obtain ⟨rfl, y3'⟩ := pE_s y2'
  obtain ⟨rfl, y4'⟩ := nE_s y3'
  have yy' := y4'
  unfold H_ref23_kinds at yy'
  obtain ⟨hok, rfl⟩ := Prod.mk.inj (Option.some.inj yy')
  exact ⟨20, q_ref23_kinds _ hok⟩
theorem q_ref23_in (a b c : Int) (hok : true = true) : funR Try.prog t_ref23_in (annOf []) l_ref23_in 20 Try.f64 [.one (.int .i64 a), .one (.int .i64 b), .one (.int .i64 c)] [] = some ⟨.one (.bool (inr b c a)), [], []⟩ := by
    refine (e_ref23_in ..).trans ?_
    simp only [ite2_dec, ite2_bool, mx_eq, mn_eq, inr]
    (repeat' split) <;> (try simp_all) <;> (try omega) <;> (try (rw [Bool.eq_iff_iff]; simp; omega))
theorem s_ref23_in : SoundFun Try.prog 64 G_ref23_in := by
  refine fun_ok (tab := t_ref23_in) (ann := annOf []) (lt := l_ref23_in) tab_nil (by kernel_rfl) (fn := Try.f64) (by kernel_rfl) (by decide) (c := bodyOf Try.f64) (by kernel_rfl) (fun m b hb => absurd hb (by show b ∉ loopsOf (bodyOf Try.f64); rw [show loopsOf (bodyOf Try.f64) = [] from by kernel_rfl]; exact List.not_mem_nil)) ?_
  intro args lent o y0'
  unfold G_ref23_in at y0'
  obtain ⟨c', args, rfl, y1'⟩ := pO_s y0'
  obtain ⟨a, rfl, y2'⟩ := kI_s y1'
  obtain ⟨c', args, rfl, y3'⟩ := pO_s y2'
  obtain ⟨b, rfl, y4'⟩ := kI_s y3'
  obtain ⟨c', args, rfl, y5'⟩ := pO_s y4'
  obtain ⟨c, rfl, y6'⟩ := kI_s y5'
  obtain ⟨rfl, y7'⟩ := pE_s y6'
  obtain ⟨rfl, y8'⟩ := nE_s y7'
  have yy' := y8'
  unfold H_ref23_in at yy'
  obtain ⟨hok, rfl⟩ := Prod.mk.inj (Option.some.inj yy')
  exact ⟨20, q_ref23_in _ _ _ hok⟩
theorem q_ref23_tiles (h : Hd) (hok : true = true) : funR Try.prog t_ref23_tiles (annOf []) l_ref23_tiles 20 Try.f65 [.agg (hdC h)] [] = some ⟨.one (.int .i64 (tiles h)), [], []⟩ := by
    refine (e_ref23_tiles ..).trans ?_
    simp only [ite2_dec, tiles, w]
theorem s_ref23_tiles : SoundFun Try.prog 65 G_ref23_tiles := by
  refine fun_ok (tab := t_ref23_tiles) (ann := annOf []) (lt := l_ref23_tiles) (tab_cons s_ref01_FloorDiv (tab_cons s_ref01_CeilDiv tab_nil)) (by kernel_rfl) (fn := Try.f65) (by kernel_rfl) (by decide) (c := bodyOf Try.f65) (by kernel_rfl) (fun m b hb => absurd hb (by show b ∉ loopsOf (bodyOf Try.f65); rw [show loopsOf (bodyOf Try.f65) = [] from by kernel_rfl]; exact List.not_mem_nil)) ?_
  intro args lent o y0'
  unfold G_ref23_tiles at y0'
  obtain ⟨q', args, rfl, y1'⟩ := pA_s y0'
  obtain ⟨h, rfl, y2'⟩ := rdHd_s y1'
  obtain ⟨rfl, y3'⟩ := pE_s y2'
  obtain ⟨rfl, y4'⟩ := nE_s y3'
  have yy' := y4'
  unfold H_ref23_tiles at yy'
  obtain ⟨hok, rfl⟩ := Prod.mk.inj (Option.some.inj yy')
  exact ⟨20, q_ref23_tiles _ hok⟩
theorem r_params_Header_0 : RoundOk Try.prog t_params_Header (annOf []) l_params_Header Out 20 0 114 [1, 36, 37, 38] (kxOf [1] [2]) (loopOf Try.f33 0) T_params_Header_0 := by
  intro vs bl Kc r h
  unfold T_params_Header_0 at h
  obtain ⟨t, y0', h'⟩ := getD_run h
  obtain ⟨c', vs, rfl, y1'⟩ := pO_s y0'
  obtain ⟨rfl, y2'⟩ := kP_s y1'
  obtain ⟨c', vs, rfl, y3'⟩ := pO_s y2'
  obtain ⟨l, rfl, y4'⟩ := kLC_s y3'
  obtain ⟨c', vs, rfl, y5'⟩ := pO_s y4'
  obtain ⟨n, rfl, y6'⟩ := kI_s y5'
  obtain ⟨c', vs, rfl, y7'⟩ := pO_s y6'
  obtain ⟨i, rfl, y8'⟩ := kI_s y7'
  obtain ⟨rfl, y9'⟩ := pE_s y8'
  obtain ⟨q', bl, rfl, y10'⟩ := bB_s y9'
  obtain ⟨h, rfl, y11'⟩ := rdHd_s y10'
  obtain ⟨rfl, y12'⟩ := bE_s y11'
  have yy' := y12'
  cases yy'
  exact (b_params_Header_0 ..).trans ((congrArg (LT.runc · Kc) (tu_params_Header_0 ..)).trans h')
theorem r_params_Header_1 : RoundOk Try.prog t_params_Header (annOf []) l_params_Header Out 20 0 114 [1, 98, 99, 100] (kxOf [] [2]) (loopOf Try.f33 1) T_params_Header_1 := by
  intro vs bl Kc r h
  unfold T_params_Header_1 at h
  obtain ⟨t, y0', h'⟩ := getD_run h
  obtain ⟨c', vs, rfl, y1'⟩ := pO_s y0'
  obtain ⟨rfl, y2'⟩ := kP_s y1'
  obtain ⟨c', vs, rfl, y3'⟩ := pO_s y2'
  obtain ⟨l, rfl, y4'⟩ := kLC_s y3'
  obtain ⟨c', vs, rfl, y5'⟩ := pO_s y4'
  obtain ⟨n, rfl, y6'⟩ := kI_s y5'
  obtain ⟨c', vs, rfl, y7'⟩ := pO_s y6'
  obtain ⟨i, rfl, y8'⟩ := kI_s y7'
  obtain ⟨rfl, y9'⟩ := pE_s y8'
  obtain ⟨q', bl, rfl, y10'⟩ := bB_s y9'
  obtain ⟨h, rfl, y11'⟩ := rdHd_s y10'
  obtain ⟨rfl, y12'⟩ := bE_s y11'
  have yy' := y12'
  cases yy'
  exact (b_params_Header_1 ..).trans ((congrArg (LT.runc · Kc) (tu_params_Header_1 ..)).trans h')
theorem o_params_Header : loopsOf (bodyOf Try.f33) = [loopOf Try.f33 0, loopOf Try.f33 1] := by kernel_rfl
theorem zz_params_Header_0 (h : Hd) (l : List (Int × Bool × Int × Int)) (hsm : small (l.length) = true) (hc : true = true) : ∃ k, ∀ (K : Ex → List V → List (Option Blk) → Option Out) r, (c_params_Header_0 h l).run K = some r → (iter T_params_Header_0 k [.one (.ptr 0 0), .one (.lst (.pair (.int .i64) (.pair .bool (.pair (.int .i64) (.int .i64)))) l), .one (.int .i64 (l.length : Int)), .one (.int .i64 0)] [some (.box (hdC h))]).run K = some r := by
  refine z_list (st := fun i => ([.one (.ptr 0 0), .one (.lst (.pair (.int .i64) (.pair .bool (.pair (.int .i64) (.int .i64)))) l), .one (.int .i64 (l.length : Int)), .one (.int .i64 ((i : Nat) : Int))], [some (.box (hdC h))])) l (0, false, 0, 0) (okC h) _ _ (fun i hi F K => ?_) (fun F K => ?_)
  · have hi' : (i : Int) < (l.length : Int) := by omega
    simp only [tu_params_Header_0, U_params_Header_0, LT.next, LT.run, ite2_dec, ite2_bool, wrap_next hi hsm, Int.toNat_natCast, hi', Int.natCast_nonneg, and_self, if_true, gI, gP, gC, gR]
    simp only [okC, redH, emptyR, within, List.all_cons, List.all_nil, Bool.and_true]
    simp [hdC]
    grind
  · simp only [tu_params_Header_0, U_params_Header_0, LT.next, LT.run, ite2_dec, Int.lt_irrefl, if_false]
    try rfl
theorem z_params_Header_0 : ∀ vs bl t, S_params_Header_0 vs bl = some (true, t) → ∃ n, ∀ (K : Ex → List V → List (Option Blk) → Option Out) r, t.run K = some r → (iter T_params_Header_0 n vs bl).run K = some r := by
  intro vs bl t y0'
  unfold S_params_Header_0 at y0'
  obtain ⟨c', vs, rfl, y1'⟩ := pO_s y0'
  obtain ⟨rfl, y2'⟩ := kP_s y1'
  obtain ⟨c', vs, rfl, y3'⟩ := pO_s y2'
  obtain ⟨l, rfl, y4'⟩ := kLC_s y3'
  obtain ⟨c', vs, rfl, y5'⟩ := pO_s y4'
  obtain ⟨n, rfl, y6'⟩ := kI_s y5'
  obtain ⟨c', vs, rfl, y7'⟩ := pO_s y6'
  obtain ⟨i, rfl, y8'⟩ := kI_s y7'
  obtain ⟨rfl, y9'⟩ := pE_s y8'
  obtain ⟨q', bl, rfl, y10'⟩ := bB_s y9'
  obtain ⟨h, rfl, y11'⟩ := rdHd_s y10'
  obtain ⟨rfl, y12'⟩ := bE_s y11'
  have yy' := y12'
  obtain ⟨hk, rfl⟩ := Prod.mk.inj (Option.some.inj yy')
  unfold k_params_Header_0 at hk
  simp only [Bool.and_eq_true, decide_eq_true_eq, and_assoc] at hk
  obtain ⟨rfl, rfl, hsm, hc⟩ := hk
  exact zz_params_Header_0 _ _ hsm (by first | exact hc | simpa using hc)
theorem zz_params_Header_1 (h : Hd) (l : List (Int × Bool × Int × Int)) (hsm : small (l.length) = true) (hc : true = true) : ∃ k, ∀ (K : Ex → List V → List (Option Blk) → Option Out) r, (c_params_Header_1 h l).run K = some r → (iter T_params_Header_1 k [.one (.ptr 0 0), .one (.lst (.pair (.int .i64) (.pair .bool (.pair (.int .i64) (.int .i64)))) l), .one (.int .i64 (l.length : Int)), .one (.int .i64 0)] [some (.box (hdC h))]).run K = some r := by
  refine z_list (st := fun i => ([.one (.ptr 0 0), .one (.lst (.pair (.int .i64) (.pair .bool (.pair (.int .i64) (.int .i64)))) l), .one (.int .i64 (l.length : Int)), .one (.int .i64 ((i : Nat) : Int))], [some (.box (hdC h))])) l (0, false, 0, 0) (smC h) _ _ (fun i hi F K => ?_) (fun F K => ?_)
  · have hi' : (i : Int) < (l.length : Int) := by omega
    simp only [tu_params_Header_1, U_params_Header_1, LT.next, LT.run, ite2_dec, ite2_bool, wrap_next hi hsm, Int.toNat_natCast, hi', Int.natCast_nonneg, and_self, if_true, gI, gP, gC, gR]
    simp only [smC, redH, areaR]
    (repeat' split) <;> simp_all [hdC] <;> omega
  · simp only [tu_params_Header_1, U_params_Header_1, LT.next, LT.run, ite2_dec, Int.lt_irrefl, if_false]
    try rfl
theorem z_params_Header_1 : ∀ vs bl t, S_params_Header_1 vs bl = some (true, t) → ∃ n, ∀ (K : Ex → List V → List (Option Blk) → Option Out) r, t.run K = some r → (iter T_params_Header_1 n vs bl).run K = some r := by
  intro vs bl t y0'
  unfold S_params_Header_1 at y0'
  obtain ⟨c', vs, rfl, y1'⟩ := pO_s y0'
  obtain ⟨rfl, y2'⟩ := kP_s y1'
  obtain ⟨c', vs, rfl, y3'⟩ := pO_s y2'
  obtain ⟨l, rfl, y4'⟩ := kLC_s y3'
  obtain ⟨c', vs, rfl, y5'⟩ := pO_s y4'
  obtain ⟨n, rfl, y6'⟩ := kI_s y5'
  obtain ⟨c', vs, rfl, y7'⟩ := pO_s y6'
  obtain ⟨i, rfl, y8'⟩ := kI_s y7'
  obtain ⟨rfl, y9'⟩ := pE_s y8'
  obtain ⟨q', bl, rfl, y10'⟩ := bB_s y9'
  obtain ⟨h, rfl, y11'⟩ := rdHd_s y10'
  obtain ⟨rfl, y12'⟩ := bE_s y11'
  have yy' := y12'
  obtain ⟨hk, rfl⟩ := Prod.mk.inj (Option.some.inj yy')
  unfold k_params_Header_1 at hk
  simp only [Bool.and_eq_true, decide_eq_true_eq, and_assoc] at hk
  obtain ⟨rfl, rfl, hsm, hc⟩ := hk
  exact zz_params_Header_1 _ _ hsm (by first | exact hc | simpa using hc)
theorem q_params_Header (h : Hd) (hok : small h.cs.length = true) : funR Try.prog t_params_Header (annOf []) l_params_Header 20 Try.f33 [.agg (hdC h)] [] = some ⟨.one (.int .i64 (header h)), [], []⟩ := by
    refine (e_params_Header ..).trans ?_
    simp only [ite2_bool, k_params_Header_0, p_params_Header_0, k_params_Header_1, p_params_Header_1, header, tiles, w, within, List.all_cons, List.all_nil, Bool.and_true]
    grind
theorem s_params_Header : SoundFun Try.prog 33 G_params_Header := by
  refine fun_ok (tab := t_params_Header) (ann := annOf []) (lt := l_params_Header) (tab_cons s_rect_Area (tab_cons s_rect_Reduce (tab_cons s_params_within (tab_cons s_rect_Valid (tab_cons s_rect_Empty (tab_cons s_rect_CeilDiv (tab_cons s_rect_FloorDiv tab_nil))))))) (by kernel_rfl) (fn := Try.f33) (by kernel_rfl) (by decide) (c := bodyOf Try.f33) (by kernel_rfl) (by
    intro m b hb
    have hb' : b ∈ loopsOf (bodyOf Try.f33) := hb
    rw [o_params_Header] at hb'
    simp only [List.mem_cons, List.not_mem_nil, or_false] at hb'
    rcases hb' with rfl | rfl
    · exact loop_ok (key := 4) (by kernel_rfl) rfl r_params_Header_0 z_params_Header_0 m
    · exact loop_ok (key := 14) (by kernel_rfl) rfl r_params_Header_1 z_params_Header_1 m
    ) ?_
  intro args lent o y0'
  unfold G_params_Header at y0'
  obtain ⟨q', args, rfl, y1'⟩ := pA_s y0'
  obtain ⟨h, rfl, y2'⟩ := rdHd_s y1'
  obtain ⟨rfl, y3'⟩ := pE_s y2'
  obtain ⟨rfl, y4'⟩ := nE_s y3'
  have yy' := y4'
  unfold H_params_Header at yy'
  obtain ⟨hok, rfl⟩ := Prod.mk.inj (Option.some.inj yy')
  exact ⟨20, q_params_Header _ hok⟩
theorem r_ref23_Header_0 : RoundOk Try.prog t_ref23_Header (annOf []) l_ref23_Header Out 20 0 97 [1, 3] (kxOf [1] [2]) (loopOf Try.f35 0) T_ref23_Header_0 := by
  intro vs bl Kc r h
  unfold T_ref23_Header_0 at h
  obtain ⟨t, y0', h'⟩ := getD_run h
  obtain ⟨c', vs, rfl, y1'⟩ := pO_s y0'
  obtain ⟨rfl, y2'⟩ := kP_s y1'
  obtain ⟨c', vs, rfl, y3'⟩ := pO_s y2'
  obtain ⟨i, rfl, y4'⟩ := kI_s y3'
  obtain ⟨rfl, y5'⟩ := pE_s y4'
  obtain ⟨q', bl, rfl, y6'⟩ := bB_s y5'
  obtain ⟨h, rfl, y7'⟩ := rdHd_s y6'
  obtain ⟨rfl, y8'⟩ := bE_s y7'
  have yy' := y8'
  cases yy'
  exact (b_ref23_Header_0 ..).trans ((congrArg (LT.runc · Kc) (tu_ref23_Header_0 ..)).trans h')
theorem r_ref23_Header_1 : RoundOk Try.prog t_ref23_Header (annOf []) l_ref23_Header Out 20 0 97 [1, 5] (kxOf [] [2]) (loopOf Try.f35 1) T_ref23_Header_1 := by
  intro vs bl Kc r h
  unfold T_ref23_Header_1 at h
  obtain ⟨t, y0', h'⟩ := getD_run h
  obtain ⟨c', vs, rfl, y1'⟩ := pO_s y0'
  obtain ⟨rfl, y2'⟩ := kP_s y1'
  obtain ⟨c', vs, rfl, y3'⟩ := pO_s y2'
  obtain ⟨i, rfl, y4'⟩ := kI_s y3'
  obtain ⟨rfl, y5'⟩ := pE_s y4'
  obtain ⟨q', bl, rfl, y6'⟩ := bB_s y5'
  obtain ⟨h, rfl, y7'⟩ := rdHd_s y6'
  obtain ⟨rfl, y8'⟩ := bE_s y7'
  have yy' := y8'
  cases yy'
  exact (b_ref23_Header_1 ..).trans ((congrArg (LT.runc · Kc) (tu_ref23_Header_1 ..)).trans h')
theorem o_ref23_Header : loopsOf (bodyOf Try.f35) = [loopOf Try.f35 0, loopOf Try.f35 1] := by kernel_rfl
theorem zz_ref23_Header_0 (h : Hd) (hsm : small (h.cs.length) = true) (hc : true = true) : ∃ k, ∀ (K : Ex → List V → List (Option Blk) → Option Out) r, (c_ref23_Header_0 h).run K = some r → (iter T_ref23_Header_0 k [.one (.ptr 0 0), .one (.int .i64 0)] [some (.box (hdC h))]).run K = some r := by
  refine z_idx (st := fun i => ([.one (.ptr 0 0), .one (.int .i64 ((i : Nat) : Int))], [some (.box (hdC h))])) (h.cs.length) (fun j => okC h (gC h.cs j)) _ _ (fun i hi F K => ?_) (fun F K => ?_)
  · have hi' : (i : Int) < (h.cs.length : Int) := by omega
    simp only [tu_ref23_Header_0, U_ref23_Header_0, LT.next, LT.run, ite2_dec, ite2_bool, wrap_next hi hsm, Int.toNat_natCast, hi', Int.natCast_nonneg, and_self, if_true, gI, gP, gC, gR]
    simp only [okC, redH, emptyR]
    simp [hdC, gC]
    grind
  · simp only [tu_ref23_Header_0, U_ref23_Header_0, LT.next, LT.run, ite2_dec, Int.lt_irrefl, if_false]
    try rfl
theorem z_ref23_Header_0 : ∀ vs bl t, S_ref23_Header_0 vs bl = some (true, t) → ∃ n, ∀ (K : Ex → List V → List (Option Blk) → Option Out) r, t.run K = some r → (iter T_ref23_Header_0 n vs bl).run K = some r := by
  intro vs bl t y0'
  unfold S_ref23_Header_0 at y0'
  obtain ⟨c', vs, rfl, y1'⟩ := pO_s y0'
  obtain ⟨rfl, y2'⟩ := kP_s y1'
  obtain ⟨c', vs, rfl, y3'⟩ := pO_s y2'
  obtain ⟨i, rfl, y4'⟩ := kI_s y3'
  obtain ⟨rfl, y5'⟩ := pE_s y4'
  obtain ⟨q', bl, rfl, y6'⟩ := bB_s y5'
  obtain ⟨h, rfl, y7'⟩ := rdHd_s y6'
  obtain ⟨rfl, y8'⟩ := bE_s y7'
  have yy' := y8'
  obtain ⟨hk, rfl⟩ := Prod.mk.inj (Option.some.inj yy')
  unfold k_ref23_Header_0 at hk
  simp only [Bool.and_eq_true, decide_eq_true_eq, and_assoc] at hk
  obtain ⟨rfl, hsm, hc⟩ := hk
  exact zz_ref23_Header_0 _ hsm (by first | exact hc | simpa using hc)
theorem zz_ref23_Header_1 (h : Hd) (hsm : small (h.cs.length) = true) (hc : true = true) : ∃ k, ∀ (K : Ex → List V → List (Option Blk) → Option Out) r, (c_ref23_Header_1 h).run K = some r → (iter T_ref23_Header_1 k [.one (.ptr 0 0), .one (.int .i64 0)] [some (.box (hdC h))]).run K = some r := by
  refine z_idx (st := fun i => ([.one (.ptr 0 0), .one (.int .i64 ((i : Nat) : Int))], [some (.box (hdC h))])) (h.cs.length) (fun j => smC h (gC h.cs j)) _ _ (fun i hi F K => ?_) (fun F K => ?_)
  · have hi' : (i : Int) < (h.cs.length : Int) := by omega
    simp only [tu_ref23_Header_1, U_ref23_Header_1, LT.next, LT.run, ite2_dec, ite2_bool, wrap_next hi hsm, Int.toNat_natCast, hi', Int.natCast_nonneg, and_self, if_true, gI, gP, gC, gR]
    simp only [smC, redH, areaR]
    simp [hdC, gC]
    grind
  · simp only [tu_ref23_Header_1, U_ref23_Header_1, LT.next, LT.run, ite2_dec, Int.lt_irrefl, if_false]
    try rfl
theorem z_ref23_Header_1 : ∀ vs bl t, S_ref23_Header_1 vs bl = some (true, t) → ∃ n, ∀ (K : Ex → List V → List (Option Blk) → Option Out) r, t.run K = some r → (iter T_ref23_Header_1 n vs bl).run K = some r := by
  intro vs bl t y0'
  unfold S_ref23_Header_1 at y0'
  obtain ⟨c', vs, rfl, y1'⟩ := pO_s y0'
  obtain ⟨rfl, y2'⟩ := kP_s y1'
  obtain ⟨c', vs, rfl, y3'⟩ := pO_s y2'
  obtain ⟨i, rfl, y4'⟩ := kI_s y3'
  obtain ⟨rfl, y5'⟩ := pE_s y4'
  obtain ⟨q', bl, rfl, y6'⟩ := bB_s y5'
  obtain ⟨h, rfl, y7'⟩ := rdHd_s y6'
  obtain ⟨rfl, y8'⟩ := bE_s y7'
  have yy' := y8'
  obtain ⟨hk, rfl⟩ := Prod.mk.inj (Option.some.inj yy')
  unfold k_ref23_Header_1 at hk
  simp only [Bool.and_eq_true, decide_eq_true_eq, and_assoc] at hk
  obtain ⟨rfl, hsm, hc⟩ := hk
  exact zz_ref23_Header_1 _ hsm (by first | exact hc | simpa using hc)
theorem q_ref23_Header (h : Hd) (hok : small h.cs.length = true) : funR Try.prog t_ref23_Header (annOf []) l_ref23_Header 20 Try.f35 [.agg (hdC h)] [] = some ⟨.one (.int .i64 (header h)), [], []⟩ := by
    refine (e_ref23_Header ..).trans ?_
    simp only [ite2_bool, k_ref23_Header_0, p_ref23_Header_0, k_ref23_Header_1, p_ref23_Header_1, header, gC]
    rw [all_if h.cs (0, false, 0, 0) (okC h), all_if h.cs (0, false, 0, 0) (smC h)]
    generalize h.cs.all (okC h) = x
    generalize h.cs.all (smC h) = y
    (repeat' split) <;> (try simp_all) <;> omega
theorem s_ref23_Header : SoundFun Try.prog 35 G_ref23_Header := by
  refine fun_ok (tab := t_ref23_Header) (ann := annOf []) (lt := l_ref23_Header) (tab_cons s_ref01_Reduce (tab_cons s_ref01_Valid (tab_cons s_ref01_Empty (tab_cons s_ref23_in (tab_cons s_ref23_tiles (tab_cons s_ref01_Area tab_nil)))))) (by kernel_rfl) (fn := Try.f35) (by kernel_rfl) (by decide) (c := bodyOf Try.f35) (by kernel_rfl) (by
    intro m b hb
    have hb' : b ∈ loopsOf (bodyOf Try.f35) := hb
    rw [o_ref23_Header] at hb'
    simp only [List.mem_cons, List.not_mem_nil, or_false] at hb'
    rcases hb' with rfl | rfl
    · exact loop_ok (key := 4) (by kernel_rfl) rfl r_ref23_Header_0 z_ref23_Header_0 m
    · exact loop_ok (key := 12) (by kernel_rfl) rfl r_ref23_Header_1 z_ref23_Header_1 m
    ) ?_
  intro args lent o y0'
  unfold G_ref23_Header at y0'
  obtain ⟨q', args, rfl, y1'⟩ := pA_s y0'
  obtain ⟨h, rfl, y2'⟩ := rdHd_s y1'
  obtain ⟨rfl, y3'⟩ := pE_s y2'
  obtain ⟨rfl, y4'⟩ := nE_s y3'
  have yy' := y4'
  unfold H_ref23_Header at yy'
  obtain ⟨hok, rfl⟩ := Prod.mk.inj (Option.some.inj yy')
  exact ⟨20, q_ref23_Header _ hok⟩
end Go.Rx.Ch24

set_option linter.unusedVariables false
set_option linter.unusedSimpArgs false
set_option maxRecDepth 100000
set_option maxHeartbeats 4000000
open Go Go.Rx Go.Proofs
namespace Go.Rx.Ch24
theorem r_params_numbers_0 : RoundOk Try.prog t_params_numbers (annOf []) l_params_numbers Out 20 0 114 [2, 3, 36, 37, 38] (kxOf [2, 3] [4]) (loopOf Try.f52 0) T_params_numbers_0 := by
  intro vs bl Kc r h
  unfold T_params_numbers_0 at h
  obtain ⟨t, y0', h'⟩ := getD_run h
  obtain ⟨c', vs, rfl, y1'⟩ := pO_s y0'
  obtain ⟨rfl, y2'⟩ := kP_s y1'
  obtain ⟨c', vs, rfl, y3'⟩ := pO_s y2'
  obtain ⟨rfl, y4'⟩ := kP_s y3'
  obtain ⟨c', vs, rfl, y5'⟩ := pO_s y4'
  obtain ⟨l, rfl, y6'⟩ := kLP_s y5'
  obtain ⟨c', vs, rfl, y7'⟩ := pO_s y6'
  obtain ⟨n, rfl, y8'⟩ := kI_s y7'
  obtain ⟨c', vs, rfl, y9'⟩ := pO_s y8'
  obtain ⟨i, rfl, y10'⟩ := kI_s y9'
  obtain ⟨rfl, y11'⟩ := pE_s y10'
  obtain ⟨q', bl, rfl, y12'⟩ := bB_s y11'
  obtain ⟨h, rfl, y13'⟩ := rdHd_s y12'
  obtain ⟨q', bl, rfl, y14'⟩ := bB_s y13'
  obtain ⟨p, rfl, y15'⟩ := rdPm_s y14'
  obtain ⟨rfl, y16'⟩ := bE_s y15'
  have yy' := y16'
  cases yy'
  exact (b_params_numbers_0 ..).trans ((congrArg (LT.runc · Kc) (tu_params_numbers_0 ..)).trans h')
theorem o_params_numbers : loopsOf (bodyOf Try.f52) = [loopOf Try.f52 0] := by kernel_rfl
theorem zz_params_numbers_0 (h : Hd) (p : Pm) (l : List (Int × Int)) (hsm : small (l.length) = true) (hc : decide (l = p.pr) = true) : ∃ k, ∀ (K : Ex → List V → List (Option Blk) → Option Out) r, (c_params_numbers_0 h p l).run K = some r → (iter T_params_numbers_0 k [.one (.ptr 0 0), .one (.ptr 1 0), .one (.lst (.pair (.int .i64) (.int .i64)) l), .one (.int .i64 (l.length : Int)), .one (.int .i64 0)] [some (.box (hdC h)), some (.box (pmC p))]).run K = some r := by
  refine z_idx (st := fun i => ([.one (.ptr 0 0), .one (.ptr 1 0), .one (.lst (.pair (.int .i64) (.int .i64)) l), .one (.int .i64 (l.length : Int)), .one (.int .i64 ((i : Nat) : Int))], [some (.box (hdC h)), some (.box (pmC p))])) (l.length) (prq p) _ _ (fun i hi F K => ?_) (fun F K => ?_)
  · have hi' : (i : Int) < (l.length : Int) := by omega
    have hc' := hc
    simp only [Bool.and_eq_true, decide_eq_true_eq] at hc'
    simp only [tu_params_numbers_0, U_params_numbers_0, LT.next, LT.run, ite2_dec, ite2_bool, wrap_next hi hsm, Int.toNat_natCast, hi', Int.natCast_nonneg, and_self, if_true, gI, gP, gC, gR]
    subst hc'
    simp [hdC, pmC, prq, pmin, within, gP]
    grind
  · simp only [tu_params_numbers_0, U_params_numbers_0, LT.next, LT.run, ite2_dec, Int.lt_irrefl, if_false]
    try rfl
theorem z_params_numbers_0 : ∀ vs bl t, S_params_numbers_0 vs bl = some (true, t) → ∃ n, ∀ (K : Ex → List V → List (Option Blk) → Option Out) r, t.run K = some r → (iter T_params_numbers_0 n vs bl).run K = some r := by
  intro vs bl t y0'
  unfold S_params_numbers_0 at y0'
  obtain ⟨c', vs, rfl, y1'⟩ := pO_s y0'
  obtain ⟨rfl, y2'⟩ := kP_s y1'
  obtain ⟨c', vs, rfl, y3'⟩ := pO_s y2'
  obtain ⟨rfl, y4'⟩ := kP_s y3'
  obtain ⟨c', vs, rfl, y5'⟩ := pO_s y4'
  obtain ⟨l, rfl, y6'⟩ := kLP_s y5'
  obtain ⟨c', vs, rfl, y7'⟩ := pO_s y6'
  obtain ⟨n, rfl, y8'⟩ := kI_s y7'
  obtain ⟨c', vs, rfl, y9'⟩ := pO_s y8'
  obtain ⟨i, rfl, y10'⟩ := kI_s y9'
  obtain ⟨rfl, y11'⟩ := pE_s y10'
  obtain ⟨q', bl, rfl, y12'⟩ := bB_s y11'
  obtain ⟨h, rfl, y13'⟩ := rdHd_s y12'
  obtain ⟨q', bl, rfl, y14'⟩ := bB_s y13'
  obtain ⟨p, rfl, y15'⟩ := rdPm_s y14'
  obtain ⟨rfl, y16'⟩ := bE_s y15'
  have yy' := y16'
  obtain ⟨hk, rfl⟩ := Prod.mk.inj (Option.some.inj yy')
  unfold k_params_numbers_0 at hk
  simp only [Bool.and_eq_true, decide_eq_true_eq, and_assoc] at hk
  obtain ⟨rfl, rfl, hsm, hc⟩ := hk
  exact zz_params_numbers_0 _ _ _ hsm (by first | exact hc | simpa using hc)
theorem q_params_numbers (h : Hd) (p : Pm) (hok : (small p.pr.length && small p.st.length) = true) : funR Try.prog t_params_numbers (annOf []) l_params_numbers 20 Try.f52 [.agg (hdC h), .agg (pmC p)] [] = some ⟨.one (.bool (nums p && colors h p)), [], []⟩ := by
    refine (e_params_numbers ..).trans ?_
    simp only [Bool.and_eq_true] at hok
    simp only [ite2_bool, nums, colors, precs, within, List.all_cons, List.all_nil, Bool.and_true, k_params_numbers_0, p_params_numbers_0]
    by_cases hle : inr 0 5 p.le = true
    · have hle' := hle
      simp only [inr, Bool.and_eq_true, decide_eq_true_eq] at hle'
      rw [wrap_in (n := p.le + 1) (by omega) (by omega), wrap_in (n := 3 * p.le) (by omega) (by omega), wrap_in (n := 3 * p.le + 1) (by omega) (by omega)]
      simp only [Prod.ext_iff]
      generalize p.st.all (inr 1 65536) = x
      generalize (List.range p.pr.length).all (prq p) = y
      simp only [hok, hle]
      cases c1 : inr 2 6 p.bx
      · simp
      cases c2 : inr 2 6 p.bw
      · simp
      cases c3 : inr 1 16 p.la
      · simp
      cases c4 : inr 8 32 p.de
      · simp
      cases c5 : inr 0 30 p.sf
      · simp
      cases x
      · simp
      cases y
      · simp
      by_cases c6 : (p.st.length : Int) = 3 * p.le + 1
      rotate_left
      · simp [c6]
      by_cases c7 : p.pr.length = 0
      · simp [c6, c7]
        by_cases c8 : p.co = 0
        · simp [c8]
        by_cases c9 : 3 ≤ h.cs.length
        · have a1 : (3 : Int) ≤ h.cs.length := by omega
          have a2 : (0 : Int) < h.cs.length := by omega
          have a3 : (1 : Int) < h.cs.length := by omega
          have a4 : (2 : Int) < h.cs.length := by omega
          simp [c8, c9, a1, a2, a3, a4]
          grind
        · have a1 : ¬ (3 : Int) ≤ h.cs.length := by omega
          simp [c8, c9, a1]
      · by_cases c8 : (p.pr.length : Int) = p.le + 1
        rotate_left
        · simp [c6, c7, c8]
        have c7' : p.pr ≠ [] := fun e => c7 (by rw [e]; rfl)
        simp [c6, c7, c7', c8]
        by_cases c9 : p.co = 0
        · simp [c9]
        by_cases c10 : 3 ≤ h.cs.length
        · have a1 : (3 : Int) ≤ h.cs.length := by omega
          have a2 : (0 : Int) < h.cs.length := by omega
          have a3 : (1 : Int) < h.cs.length := by omega
          have a4 : (2 : Int) < h.cs.length := by omega
          simp [c9, c10, a1, a2, a3, a4]
          grind
        · have a1 : ¬ (3 : Int) ≤ h.cs.length := by omega
          simp [c9, c10, a1]
    · simp [hle]
theorem s_params_numbers : SoundFun Try.prog 52 G_params_numbers := by
  refine fun_ok (tab := t_params_numbers) (ann := annOf []) (lt := l_params_numbers) (tab_cons s_params_within tab_nil) (by kernel_rfl) (fn := Try.f52) (by kernel_rfl) (by decide) (c := bodyOf Try.f52) (by kernel_rfl) (by
    intro m b hb
    have hb' : b ∈ loopsOf (bodyOf Try.f52) := hb
    rw [o_params_numbers] at hb'
    simp only [List.mem_cons, List.not_mem_nil, or_false] at hb'
    rcases hb' with rfl
    · exact loop_ok (key := 6) (by kernel_rfl) rfl r_params_numbers_0 z_params_numbers_0 m
    ) ?_
  intro args lent o y0'
  unfold G_params_numbers at y0'
  obtain ⟨q', args, rfl, y1'⟩ := pA_s y0'
  obtain ⟨h, rfl, y2'⟩ := rdHd_s y1'
  obtain ⟨q', args, rfl, y3'⟩ := pA_s y2'
  obtain ⟨p, rfl, y4'⟩ := rdPm_s y3'
  obtain ⟨rfl, y5'⟩ := pE_s y4'
  obtain ⟨rfl, y6'⟩ := nE_s y5'
  have yy' := y6'
  unfold H_params_numbers at yy'
  obtain ⟨hok, rfl⟩ := Prod.mk.inj (Option.some.inj yy')
  exact ⟨20, q_params_numbers _ _ hok⟩
theorem r_ref23_numbers_0 : RoundOk Try.prog t_ref23_numbers (annOf []) l_ref23_numbers Out 20 0 103 [1, 3] (kxOf [1] [2]) (loopOf Try.f89 0) T_ref23_numbers_0 := by
  intro vs bl Kc r h
  unfold T_ref23_numbers_0 at h
  obtain ⟨t, y0', h'⟩ := getD_run h
  obtain ⟨c', vs, rfl, y1'⟩ := pO_s y0'
  obtain ⟨rfl, y2'⟩ := kP_s y1'
  obtain ⟨c', vs, rfl, y3'⟩ := pO_s y2'
  obtain ⟨i, rfl, y4'⟩ := kI_s y3'
  obtain ⟨rfl, y5'⟩ := pE_s y4'
  obtain ⟨q', bl, rfl, y6'⟩ := bB_s y5'
  obtain ⟨p, rfl, y7'⟩ := rdPm_s y6'
  obtain ⟨rfl, y8'⟩ := bE_s y7'
  have yy' := y8'
  cases yy'
  exact (b_ref23_numbers_0 ..).trans ((congrArg (LT.runc · Kc) (tu_ref23_numbers_0 ..)).trans h')
theorem r_ref23_numbers_1 : RoundOk Try.prog t_ref23_numbers (annOf []) l_ref23_numbers Out 20 0 103 [1, 4] (kxOf [] [2]) (loopOf Try.f89 1) T_ref23_numbers_1 := by
  intro vs bl Kc r h
  unfold T_ref23_numbers_1 at h
  obtain ⟨t, y0', h'⟩ := getD_run h
  obtain ⟨c', vs, rfl, y1'⟩ := pO_s y0'
  obtain ⟨rfl, y2'⟩ := kP_s y1'
  obtain ⟨c', vs, rfl, y3'⟩ := pO_s y2'
  obtain ⟨i, rfl, y4'⟩ := kI_s y3'
  obtain ⟨rfl, y5'⟩ := pE_s y4'
  obtain ⟨q', bl, rfl, y6'⟩ := bB_s y5'
  obtain ⟨p, rfl, y7'⟩ := rdPm_s y6'
  obtain ⟨rfl, y8'⟩ := bE_s y7'
  have yy' := y8'
  cases yy'
  exact (b_ref23_numbers_1 ..).trans ((congrArg (LT.runc · Kc) (tu_ref23_numbers_1 ..)).trans h')
theorem o_ref23_numbers : loopsOf (bodyOf Try.f89) = [loopOf Try.f89 0, loopOf Try.f89 1] := by kernel_rfl
theorem zz_ref23_numbers_0 (p : Pm) (hsm : small (p.st.length) = true) (hc : true = true) : ∃ k, ∀ (K : Ex → List V → List (Option Blk) → Option Out) r, (c_ref23_numbers_0 p).run K = some r → (iter T_ref23_numbers_0 k [.one (.ptr 0 0), .one (.int .i64 0)] [some (.box (pmC p))]).run K = some r := by
  refine z_idx (st := fun i => ([.one (.ptr 0 0), .one (.int .i64 ((i : Nat) : Int))], [some (.box (pmC p))])) (p.st.length) (fun j => inr 1 65536 (gI p.st j)) _ _ (fun i hi F K => ?_) (fun F K => ?_)
  · have hi' : (i : Int) < (p.st.length : Int) := by omega
    simp only [tu_ref23_numbers_0, U_ref23_numbers_0, LT.next, LT.run, ite2_dec, ite2_bool, wrap_next hi hsm, Int.toNat_natCast, hi', Int.natCast_nonneg, and_self, if_true, gI, gP, gC, gR]
    simp [hdC, pmC]
    grind
  · simp only [tu_ref23_numbers_0, U_ref23_numbers_0, LT.next, LT.run, ite2_dec, Int.lt_irrefl, if_false]
    try rfl
theorem z_ref23_numbers_0 : ∀ vs bl t, S_ref23_numbers_0 vs bl = some (true, t) → ∃ n, ∀ (K : Ex → List V → List (Option Blk) → Option Out) r, t.run K = some r → (iter T_ref23_numbers_0 n vs bl).run K = some r := by
  intro vs bl t y0'
  unfold S_ref23_numbers_0 at y0'
  obtain ⟨c', vs, rfl, y1'⟩ := pO_s y0'
  obtain ⟨rfl, y2'⟩ := kP_s y1'
  obtain ⟨c', vs, rfl, y3'⟩ := pO_s y2'
  obtain ⟨i, rfl, y4'⟩ := kI_s y3'
  obtain ⟨rfl, y5'⟩ := pE_s y4'
  obtain ⟨q', bl, rfl, y6'⟩ := bB_s y5'
  obtain ⟨p, rfl, y7'⟩ := rdPm_s y6'
  obtain ⟨rfl, y8'⟩ := bE_s y7'
  have yy' := y8'
  obtain ⟨hk, rfl⟩ := Prod.mk.inj (Option.some.inj yy')
  unfold k_ref23_numbers_0 at hk
  simp only [Bool.and_eq_true, decide_eq_true_eq, and_assoc] at hk
  obtain ⟨rfl, hsm, hc⟩ := hk
  exact zz_ref23_numbers_0 _ hsm (by first | exact hc | simpa using hc)
theorem zz_ref23_numbers_1 (p : Pm) (hsm : small (p.pr.length) = true) (hc : true = true) : ∃ k, ∀ (K : Ex → List V → List (Option Blk) → Option Out) r, (c_ref23_numbers_1 p).run K = some r → (iter T_ref23_numbers_1 k [.one (.ptr 0 0), .one (.int .i64 0)] [some (.box (pmC p))]).run K = some r := by
  refine z_idx (st := fun i => ([.one (.ptr 0 0), .one (.int .i64 ((i : Nat) : Int))], [some (.box (pmC p))])) (p.pr.length) (prq p) _ _ (fun i hi F K => ?_) (fun F K => ?_)
  · have hi' : (i : Int) < (p.pr.length : Int) := by omega
    simp only [tu_ref23_numbers_1, U_ref23_numbers_1, LT.next, LT.run, ite2_dec, ite2_bool, wrap_next hi hsm, Int.toNat_natCast, hi', Int.natCast_nonneg, and_self, if_true, gI, gP, gC, gR]
    simp [hdC, pmC, prq, pmin, gP]
    grind
  · simp only [tu_ref23_numbers_1, U_ref23_numbers_1, LT.next, LT.run, ite2_dec, Int.lt_irrefl, if_false]
    try rfl
theorem z_ref23_numbers_1 : ∀ vs bl t, S_ref23_numbers_1 vs bl = some (true, t) → ∃ n, ∀ (K : Ex → List V → List (Option Blk) → Option Out) r, t.run K = some r → (iter T_ref23_numbers_1 n vs bl).run K = some r := by
  intro vs bl t y0'
  unfold S_ref23_numbers_1 at y0'
  obtain ⟨c', vs, rfl, y1'⟩ := pO_s y0'
  obtain ⟨rfl, y2'⟩ := kP_s y1'
  obtain ⟨c', vs, rfl, y3'⟩ := pO_s y2'
  obtain ⟨i, rfl, y4'⟩ := kI_s y3'
  obtain ⟨rfl, y5'⟩ := pE_s y4'
  obtain ⟨q', bl, rfl, y6'⟩ := bB_s y5'
  obtain ⟨p, rfl, y7'⟩ := rdPm_s y6'
  obtain ⟨rfl, y8'⟩ := bE_s y7'
  have yy' := y8'
  obtain ⟨hk, rfl⟩ := Prod.mk.inj (Option.some.inj yy')
  unfold k_ref23_numbers_1 at hk
  simp only [Bool.and_eq_true, decide_eq_true_eq, and_assoc] at hk
  obtain ⟨rfl, hsm, hc⟩ := hk
  exact zz_ref23_numbers_1 _ hsm (by first | exact hc | simpa using hc)
theorem q_ref23_numbers (p : Pm) (hok : (small p.pr.length && small p.st.length) = true) : funR Try.prog t_ref23_numbers (annOf []) l_ref23_numbers 20 Try.f89 [.agg (pmC p)] [] = some ⟨.one (.bool (nums p)), [], []⟩ := by
    refine (e_ref23_numbers ..).trans ?_
    simp only [Bool.and_eq_true] at hok
    simp only [ite2_bool, nums, colors, precs, within, List.all_cons, List.all_nil, Bool.and_true, k_ref23_numbers_0, p_ref23_numbers_0, k_ref23_numbers_1, p_ref23_numbers_1, gI]
    by_cases hle : inr 0 5 p.le = true
    · have hle' := hle
      simp only [inr, Bool.and_eq_true, decide_eq_true_eq] at hle'
      rw [wrap_in (n := p.le + 1) (by omega) (by omega), wrap_in (n := 3 * p.le) (by omega) (by omega), wrap_in (n := 3 * p.le + 1) (by omega) (by omega)]
      rw [all_if p.st 0 (inr 1 65536)]
      generalize p.st.all (inr 1 65536) = x
      
      simp only [hok, hle]
      cases c1 : inr 2 6 p.bx
      · simp
      cases c2 : inr 2 6 p.bw
      · simp
      cases c3 : inr 1 16 p.la
      · simp
      cases c4 : inr 8 32 p.de
      · simp
      cases c5 : inr 0 30 p.sf
      · simp
      cases x
      · simp
      by_cases c6 : (p.st.length : Int) = 3 * p.le + 1
      rotate_left
      · simp [c6]
      by_cases c7 : p.pr = []
      · simp [c6, c7]
      · by_cases c8 : (p.pr.length : Int) = p.le + 1
        · have c9 : ¬ p.le + 1 = 0 := by omega
          generalize (List.range p.pr.length).all (prq p) = y
          cases y <;> simp [c6, c7, c8, c9]
        · simp [c6, c7, c8]
    · simp [hle]
theorem s_ref23_numbers : SoundFun Try.prog 89 G_ref23_numbers := by
  refine fun_ok (tab := t_ref23_numbers) (ann := annOf []) (lt := l_ref23_numbers) (tab_cons s_ref23_in tab_nil) (by kernel_rfl) (fn := Try.f89) (by kernel_rfl) (by decide) (c := bodyOf Try.f89) (by kernel_rfl) (by
    intro m b hb
    have hb' : b ∈ loopsOf (bodyOf Try.f89) := hb
    rw [o_ref23_numbers] at hb'
    simp only [List.mem_cons, List.not_mem_nil, or_false] at hb'
    rcases hb' with rfl | rfl
    · exact loop_ok (key := 4) (by kernel_rfl) rfl r_ref23_numbers_0 z_ref23_numbers_0 m
    · exact loop_ok (key := 13) (by kernel_rfl) rfl r_ref23_numbers_1 z_ref23_numbers_1 m
    ) ?_
  intro args lent o y0'
  unfold G_ref23_numbers at y0'
  obtain ⟨q', args, rfl, y1'⟩ := pA_s y0'
  obtain ⟨p, rfl, y2'⟩ := rdPm_s y1'
  obtain ⟨rfl, y3'⟩ := pE_s y2'
  obtain ⟨rfl, y4'⟩ := nE_s y3'
  have yy' := y4'
  unfold H_ref23_numbers at yy'
  obtain ⟨hok, rfl⟩ := Prod.mk.inj (Option.some.inj yy')
  exact ⟨20, q_ref23_numbers _ hok⟩
end Go.Rx.Ch24

set_option linter.unusedVariables false
set_option linter.unusedSimpArgs false
set_option maxRecDepth 100000
set_option maxHeartbeats 4000000
open Go Go.Rx Go.Proofs
namespace Go.Rx.Ch24
theorem wrapu_in {n : Int} (h0 : 0 ≤ n) (h1 : n < 18446744073709551616) : IntKind.wrap .u64 n = n := by
  simp [IntKind.wrap, IntKind.bits, IntKind.signed]; omega
theorem shl_pw0 : ∀ m : Nat, m < 13 → IntKind.wrap .i64 (1 * 2 ^ min m 64) = 2 ^ m := by decide

end Go.Rx.Ch24

set_option linter.unusedVariables false
set_option linter.unusedSimpArgs false
set_option maxRecDepth 100000
set_option maxHeartbeats 4000000
open Go Go.Rx Go.Proofs
namespace Go.Rx.Ch24
theorem shl_pw {k : Int} (h0 : 0 ≤ k) (h1 : k ≤ 12) : IntKind.wrap .i64 (1 * 2 ^ min k.toNat 64) = pw k := shl_pw0 _ (by omega)
theorem pl_b {i n : Int} (h : plOk i n = true) : 0 ≤ n ∧ n ≤ 5 ∧ 0 ≤ i ∧ i ≤ 3 * n := by
  unfold plOk count inr at h
  simp only [Bool.and_eq_true, decide_eq_true_eq] at h
  split at h <;> omega
theorem pl_d {i n : Int} (h : plOk i n = true) (hi : i ≠ 0) : 1 ≤ plLv i n ∧ plLv i n ≤ n ∧ 1 ≤ plOr i n ∧ plOr i n ≤ 3 := by
  have := pl_b h
  simp only [plLv, plOr, h, hi, if_true, if_false]
  omega
theorem valid_b {a b c d : Int} (h : valid a b c d = true) : 0 ≤ a ∧ a ≤ c ∧ c ≤ 4096 ∧ 0 ≤ b ∧ b ≤ d ∧ d ≤ 4096 := by
  simp only [valid, Bool.and_eq_true, decide_eq_true_eq, and_assoc] at h
  exact h
theorem inr_b {a b x : Int} (h : inr a b x = true) : a ≤ x ∧ x ≤ b := by
  simpa only [inr, Bool.and_eq_true, decide_eq_true_eq] using h
theorem inr_t {a b x : Int} (h : a ≤ x) (h' : x ≤ b) : inr a b x = true := by
  simp only [inr, Bool.and_eq_true, decide_eq_true_eq]; exact ⟨h, h'⟩
theorem q_pyr_validLevels (n : Int) (hok : true = true) : funR Try.prog t_pyr_validLevels (annOf []) l_pyr_validLevels 20 Try.f54 [.one (.int .i64 n)] [] = some ⟨.one (.bool (inr 0 5 n)), [], []⟩ := by
    refine (e_pyr_validLevels ..).trans ?_
    simp only [ite2_dec, ite2_bool, mx_eq, mn_eq, inr]
    (repeat' split) <;> (try simp_all) <;> (try omega) <;> (try (rw [Bool.eq_iff_iff]; simp; omega))
theorem s_pyr_validLevels : SoundFun Try.prog 54 G_pyr_validLevels := by
  refine fun_ok (tab := t_pyr_validLevels) (ann := annOf []) (lt := l_pyr_validLevels) tab_nil (by kernel_rfl) (fn := Try.f54) (by kernel_rfl) (by decide) (c := bodyOf Try.f54) (by kernel_rfl) (fun m b hb => absurd hb (by show b ∉ loopsOf (bodyOf Try.f54); rw [show loopsOf (bodyOf Try.f54) = [] from by kernel_rfl]; exact List.not_mem_nil)) ?_
  intro args lent o y0'
  unfold G_pyr_validLevels at y0'
  obtain ⟨c', args, rfl, y1'⟩ := pO_s y0'
  obtain ⟨n, rfl, y2'⟩ := kI_s y1'
  obtain ⟨rfl, y3'⟩ := pE_s y2'
  obtain ⟨rfl, y4'⟩ := nE_s y3'
  have yy' := y4'
  unfold H_pyr_validLevels at yy'
  obtain ⟨hok, rfl⟩ := Prod.mk.inj (Option.some.inj yy')
  exact ⟨20, q_pyr_validLevels _ hok⟩
theorem q_pyr_Count (n : Int) (hok : true = true) : funR Try.prog t_pyr_Count (annOf []) l_pyr_Count 20 Try.f85 [.one (.int .i64 n)] [] = some ⟨.one (.int .i64 (count n)), [], []⟩ := by
    refine (e_pyr_Count ..).trans ?_
    simp only [ite2_bool, decide_eq_true_eq, count]
    by_cases h : inr 0 5 n = true
    · have := inr_b h
      simp (disch := omega) only [wrap_in, wrapu_in, Int.tdiv_eq_ediv_of_nonneg]
      simp only [h, Bool.not_true, if_true, Bool.false_eq_true, if_false]
    · simp [h]
      
theorem s_pyr_Count : SoundFun Try.prog 85 G_pyr_Count := by
  refine fun_ok (tab := t_pyr_Count) (ann := annOf []) (lt := l_pyr_Count) (tab_cons s_pyr_validLevels tab_nil) (by kernel_rfl) (fn := Try.f85) (by kernel_rfl) (by decide) (c := bodyOf Try.f85) (by kernel_rfl) (fun m b hb => absurd hb (by show b ∉ loopsOf (bodyOf Try.f85); rw [show loopsOf (bodyOf Try.f85) = [] from by kernel_rfl]; exact List.not_mem_nil)) ?_
  intro args lent o y0'
  unfold G_pyr_Count at y0'
  obtain ⟨c', args, rfl, y1'⟩ := pO_s y0'
  obtain ⟨n, rfl, y2'⟩ := kI_s y1'
  obtain ⟨rfl, y3'⟩ := pE_s y2'
  obtain ⟨rfl, y4'⟩ := nE_s y3'
  have yy' := y4'
  unfold H_pyr_Count at yy'
  obtain ⟨hok, rfl⟩ := Prod.mk.inj (Option.some.inj yy')
  exact ⟨20, q_pyr_Count _ hok⟩
theorem q_pyr_Place (i n : Int) (hok : true = true) : funR Try.prog t_pyr_Place (annOf []) l_pyr_Place 20 Try.f55 [.one (.int .i64 i), .one (.int .i64 n)] [] = some ⟨.tup [(false, [.int .i64 (plLv i n)]), (false, [.int .i64 (plOr i n)]), (false, [.bool (plOk i n)])], [], []⟩ := by
    refine (e_pyr_Place ..).trans ?_
    simp only [ite2_bool, decide_eq_true_eq]
    cases h : plOk i n
    · have : i < 0 ∨ i ≥ count n := by simp [plOk] at h; omega
      rcases this with h1 | h1 <;> simp [plLv, plOr, h, h1]
    · have hb := pl_b h
      have hc : i < count n := by simp only [plOk, Bool.and_eq_true, decide_eq_true_eq] at h; exact h.2
      simp (disch := omega) only [wrap_in, wrapu_in, Int.tdiv_eq_ediv_of_nonneg]
      rw [if_neg (by omega), if_neg (by omega)]
      simp only [plLv, plOr, h, beq_iff_eq, if_true]
      split <;> simp [*]
theorem s_pyr_Place : SoundFun Try.prog 55 G_pyr_Place := by
  refine fun_ok (tab := t_pyr_Place) (ann := annOf []) (lt := l_pyr_Place) (tab_cons s_pyr_Count tab_nil) (by kernel_rfl) (fn := Try.f55) (by kernel_rfl) (by decide) (c := bodyOf Try.f55) (by kernel_rfl) (fun m b hb => absurd hb (by show b ∉ loopsOf (bodyOf Try.f55); rw [show loopsOf (bodyOf Try.f55) = [] from by kernel_rfl]; exact List.not_mem_nil)) ?_
  intro args lent o y0'
  unfold G_pyr_Place at y0'
  obtain ⟨c', args, rfl, y1'⟩ := pO_s y0'
  obtain ⟨i, rfl, y2'⟩ := kI_s y1'
  obtain ⟨c', args, rfl, y3'⟩ := pO_s y2'
  obtain ⟨n, rfl, y4'⟩ := kI_s y3'
  obtain ⟨rfl, y5'⟩ := pE_s y4'
  obtain ⟨rfl, y6'⟩ := nE_s y5'
  have yy' := y6'
  unfold H_pyr_Place at yy'
  obtain ⟨hok, rfl⟩ := Prod.mk.inj (Option.some.inj yy')
  exact ⟨20, q_pyr_Place _ _ hok⟩
theorem q_pyr_Indices (n r : Int) (hok : true = true) : funR Try.prog t_pyr_Indices (annOf []) l_pyr_Indices 20 Try.f26 [.one (.int .i64 n), .one (.int .i64 r)] [] = some ⟨.one (.row 0), [], [.arr 3 (.int .i64) (idxs n r)]⟩ := by
    refine (e_pyr_Indices ..).trans ?_
    simp only [ite2_bool, decide_eq_true_eq, idxs]
    cases h : inr 0 5 n
    · simp
    · have hb := inr_b h
      cases h1 : inr 0 n r
      · have : r < 0 ∨ r > n := by simp [inr] at h1; omega
        rcases this with h2 | h2 <;> simp [h2]
      · have hc := inr_b h1
        simp (disch := omega) only [wrap_in, wrapu_in, Int.tdiv_eq_ediv_of_nonneg]
        rw [if_neg (by decide), if_neg (by omega), if_neg (by omega)]
        simp only [beq_iff_eq, Bool.and_self, if_true]
        split <;> simp [*]
theorem s_pyr_Indices : SoundFun Try.prog 26 G_pyr_Indices := by
  refine fun_ok (tab := t_pyr_Indices) (ann := annOf []) (lt := l_pyr_Indices) (tab_cons s_pyr_validLevels tab_nil) (by kernel_rfl) (fn := Try.f26) (by kernel_rfl) (by decide) (c := bodyOf Try.f26) (by kernel_rfl) (fun m b hb => absurd hb (by show b ∉ loopsOf (bodyOf Try.f26); rw [show loopsOf (bodyOf Try.f26) = [] from by kernel_rfl]; exact List.not_mem_nil)) ?_
  intro args lent o y0'
  unfold G_pyr_Indices at y0'
  obtain ⟨c', args, rfl, y1'⟩ := pO_s y0'
  obtain ⟨n, rfl, y2'⟩ := kI_s y1'
  obtain ⟨c', args, rfl, y3'⟩ := pO_s y2'
  obtain ⟨r, rfl, y4'⟩ := kI_s y3'
  obtain ⟨rfl, y5'⟩ := pE_s y4'
  obtain ⟨rfl, y6'⟩ := nE_s y5'
  have yy' := y6'
  unfold H_pyr_Indices at yy'
  obtain ⟨hok, rfl⟩ := Prod.mk.inj (Option.some.inj yy')
  exact ⟨20, q_pyr_Indices _ _ hok⟩
theorem q_pyr_Resolution (a b c d n r : Int) (hok : true = true) : funR Try.prog t_pyr_Resolution (annOf []) l_pyr_Resolution 20 Try.f40 [.agg [.int .i64 a, .int .i64 b, .int .i64 c, .int .i64 d], .one (.int .i64 n), .one (.int .i64 r)] [] = some ⟨.agg [.int .i64 ((resR a b c d n r).1), .int .i64 ((resR a b c d n r).2.1), .int .i64 ((resR a b c d n r).2.2.1), .int .i64 ((resR a b c d n r).2.2.2)], [], []⟩ := by
    refine (e_pyr_Resolution ..).trans ?_
    simp only [ite2_bool, decide_eq_true_eq, resR]
    cases h : inr 0 5 n
    · simp
    · have hb := inr_b h
      cases h1 : inr 0 n r
      · have : r < 0 ∨ r > n := by simp [inr] at h1; omega
        rcases this with h2 | h2 <;> simp [h2]
      · have hc := inr_b h1
        rw [if_neg (by decide), if_neg (by omega), if_neg (by omega), wrap_in (n := n - r) (by omega) (by omega), wrapu_in (n := n - r) (by omega) (by omega), shl_pw (by omega) (by omega), if_pos (by omega)]
        simp
theorem s_pyr_Resolution : SoundFun Try.prog 40 G_pyr_Resolution := by
  refine fun_ok (tab := t_pyr_Resolution) (ann := annOf []) (lt := l_pyr_Resolution) (tab_cons s_rect_Reduce (tab_cons s_pyr_validLevels tab_nil)) (by kernel_rfl) (fn := Try.f40) (by kernel_rfl) (by decide) (c := bodyOf Try.f40) (by kernel_rfl) (fun m b hb => absurd hb (by show b ∉ loopsOf (bodyOf Try.f40); rw [show loopsOf (bodyOf Try.f40) = [] from by kernel_rfl]; exact List.not_mem_nil)) ?_
  intro args lent o y0'
  unfold G_pyr_Resolution at y0'
  obtain ⟨q', args, rfl, y1'⟩ := pA_s y0'
  obtain ⟨c', q', rfl, y2'⟩ := tC_s y1'
  obtain ⟨a, rfl, y3'⟩ := kI_s y2'
  obtain ⟨c', q', rfl, y4'⟩ := tC_s y3'
  obtain ⟨b, rfl, y5'⟩ := kI_s y4'
  obtain ⟨c', q', rfl, y6'⟩ := tC_s y5'
  obtain ⟨c, rfl, y7'⟩ := kI_s y6'
  obtain ⟨c', q', rfl, y8'⟩ := tC_s y7'
  obtain ⟨d, rfl, y9'⟩ := kI_s y8'
  obtain ⟨rfl, y10'⟩ := tE_s y9'
  obtain ⟨c', args, rfl, y11'⟩ := pO_s y10'
  obtain ⟨n, rfl, y12'⟩ := kI_s y11'
  obtain ⟨c', args, rfl, y13'⟩ := pO_s y12'
  obtain ⟨r, rfl, y14'⟩ := kI_s y13'
  obtain ⟨rfl, y15'⟩ := pE_s y14'
  obtain ⟨rfl, y16'⟩ := nE_s y15'
  have yy' := y16'
  unfold H_pyr_Resolution at yy'
  obtain ⟨hok, rfl⟩ := Prod.mk.inj (Option.some.inj yy')
  exact ⟨20, q_pyr_Resolution _ _ _ _ _ _ hok⟩
theorem q_ref06_Count (n : Int) (hok : true = true) : funR Try.prog t_ref06_Count (annOf []) l_ref06_Count 20 Try.f91 [.one (.int .i64 n)] [] = some ⟨.one (.int .i64 (count n)), [], []⟩ := by
    refine (e_ref06_Count ..).trans ?_
    simp only [ite2_bool, decide_eq_true_eq, count]
    by_cases h : inr 0 5 n = true
    · have := inr_b h
      simp (disch := omega) only [wrap_in, wrapu_in, Int.tdiv_eq_ediv_of_nonneg]
      rw [if_neg (by omega), if_neg (by omega), if_pos h]
    · have : n < 0 ∨ n > 5 := by simp [inr] at h; omega
      rcases this with h1 | h1 <;> simp [h, h1]
theorem s_ref06_Count : SoundFun Try.prog 91 G_ref06_Count := by
  refine fun_ok (tab := t_ref06_Count) (ann := annOf []) (lt := l_ref06_Count) tab_nil (by kernel_rfl) (fn := Try.f91) (by kernel_rfl) (by decide) (c := bodyOf Try.f91) (by kernel_rfl) (fun m b hb => absurd hb (by show b ∉ loopsOf (bodyOf Try.f91); rw [show loopsOf (bodyOf Try.f91) = [] from by kernel_rfl]; exact List.not_mem_nil)) ?_
  intro args lent o y0'
  unfold G_ref06_Count at y0'
  obtain ⟨c', args, rfl, y1'⟩ := pO_s y0'
  obtain ⟨n, rfl, y2'⟩ := kI_s y1'
  obtain ⟨rfl, y3'⟩ := pE_s y2'
  obtain ⟨rfl, y4'⟩ := nE_s y3'
  have yy' := y4'
  unfold H_ref06_Count at yy'
  obtain ⟨hok, rfl⟩ := Prod.mk.inj (Option.some.inj yy')
  exact ⟨20, q_ref06_Count _ hok⟩
theorem q_ref06_Place (i n : Int) (hok : true = true) : funR Try.prog t_ref06_Place (annOf []) l_ref06_Place 20 Try.f78 [.one (.int .i64 i), .one (.int .i64 n)] [] = some ⟨.tup [(false, [.int .i64 (plLv i n)]), (false, [.int .i64 (plOr i n)]), (false, [.bool (plOk i n)])], [], []⟩ := by
    refine (e_ref06_Place ..).trans ?_
    simp only [ite2_bool, decide_eq_true_eq]
    cases h : plOk i n
    · have : i < 0 ∨ i ≥ count n := by simp [plOk] at h; omega
      rcases this with h1 | h1 <;> simp [plLv, plOr, h, h1]
    · have hb := pl_b h
      have hc : i < count n := by simp only [plOk, Bool.and_eq_true, decide_eq_true_eq] at h; exact h.2
      simp (disch := omega) only [wrap_in, wrapu_in, Int.tdiv_eq_ediv_of_nonneg]
      rw [if_neg (by omega), if_neg (by omega)]
      simp only [plLv, plOr, h, beq_iff_eq, if_true]
      split <;> simp [*]
theorem s_ref06_Place : SoundFun Try.prog 78 G_ref06_Place := by
  refine fun_ok (tab := t_ref06_Place) (ann := annOf []) (lt := l_ref06_Place) (tab_cons s_ref06_Count tab_nil) (by kernel_rfl) (fn := Try.f78) (by kernel_rfl) (by decide) (c := bodyOf Try.f78) (by kernel_rfl) (fun m b hb => absurd hb (by show b ∉ loopsOf (bodyOf Try.f78); rw [show loopsOf (bodyOf Try.f78) = [] from by kernel_rfl]; exact List.not_mem_nil)) ?_
  intro args lent o y0'
  unfold G_ref06_Place at y0'
  obtain ⟨c', args, rfl, y1'⟩ := pO_s y0'
  obtain ⟨i, rfl, y2'⟩ := kI_s y1'
  obtain ⟨c', args, rfl, y3'⟩ := pO_s y2'
  obtain ⟨n, rfl, y4'⟩ := kI_s y3'
  obtain ⟨rfl, y5'⟩ := pE_s y4'
  obtain ⟨rfl, y6'⟩ := nE_s y5'
  have yy' := y6'
  unfold H_ref06_Place at yy'
  obtain ⟨hok, rfl⟩ := Prod.mk.inj (Option.some.inj yy')
  exact ⟨20, q_ref06_Place _ _ hok⟩
theorem r_ref06_Resolution_0 : RoundOk Try.prog t_ref06_Resolution (annOf []) l_ref06_Resolution Out 20 0 34 [1, 3, 6, 7, 8] (kxOf [3, 6, 7] [6]) (loopOf Try.f72 0) T_ref06_Resolution_0 := by
  intro vs bl Kc r h
  unfold T_ref06_Resolution_0 at h
  obtain ⟨t, y0', h'⟩ := getD_run h
  obtain ⟨c', vs, rfl, y1'⟩ := pO_s y0'
  obtain ⟨n, rfl, y2'⟩ := kI_s y1'
  obtain ⟨c', vs, rfl, y3'⟩ := pO_s y2'
  obtain ⟨rfl, y4'⟩ := kP_s y3'
  obtain ⟨c', vs, rfl, y5'⟩ := pO_s y4'
  obtain ⟨rfl, y6'⟩ := kP_s y5'
  obtain ⟨c', vs, rfl, y7'⟩ := pO_s y6'
  obtain ⟨m, rfl, y8'⟩ := kI_s y7'
  obtain ⟨c', vs, rfl, y9'⟩ := pO_s y8'
  obtain ⟨i, rfl, y10'⟩ := kI_s y9'
  obtain ⟨rfl, y11'⟩ := pE_s y10'
  obtain ⟨q', bl, rfl, y12'⟩ := bB_s y11'
  obtain ⟨c', q', rfl, y13'⟩ := tC_s y12'
  obtain ⟨a, rfl, y14'⟩ := kI_s y13'
  obtain ⟨c', q', rfl, y15'⟩ := tC_s y14'
  obtain ⟨b, rfl, y16'⟩ := kI_s y15'
  obtain ⟨c', q', rfl, y17'⟩ := tC_s y16'
  obtain ⟨c, rfl, y18'⟩ := kI_s y17'
  obtain ⟨c', q', rfl, y19'⟩ := tC_s y18'
  obtain ⟨d, rfl, y20'⟩ := kI_s y19'
  obtain ⟨rfl, y21'⟩ := tE_s y20'
  obtain ⟨q', bl, rfl, y22'⟩ := bB_s y21'
  obtain ⟨c', q', rfl, y23'⟩ := tC_s y22'
  obtain ⟨e, rfl, y24'⟩ := kI_s y23'
  obtain ⟨c', q', rfl, y25'⟩ := tC_s y24'
  obtain ⟨f, rfl, y26'⟩ := kI_s y25'
  obtain ⟨c', q', rfl, y27'⟩ := tC_s y26'
  obtain ⟨g, rfl, y28'⟩ := kI_s y27'
  obtain ⟨c', q', rfl, y29'⟩ := tC_s y28'
  obtain ⟨o, rfl, y30'⟩ := kI_s y29'
  obtain ⟨rfl, y31'⟩ := tE_s y30'
  obtain ⟨rfl, y32'⟩ := bE_s y31'
  have yy' := y32'
  cases yy'
  exact (b_ref06_Resolution_0 ..).trans ((congrArg (LT.runc · Kc) (tu_ref06_Resolution_0 ..)).trans h')
theorem o_ref06_Resolution : loopsOf (bodyOf Try.f72) = [loopOf Try.f72 0] := by kernel_rfl
theorem rl (a b c d n e f g o : Int) : ∀ (j : Nat) (m i : Int), n - i = j → n ≤ 5 → j ≤ 5 → 0 ≤ i → 1 ≤ m → m * 2 ^ j ≤ 32 → ∃ k, ∀ (K : Ex → List V → List (Option Blk) → Option Out) r, (LT.leaf (.exit 0) [.one (.ptr 0 0), .one (.ptr 1 0), .one (.int .i64 (m * 2 ^ j))] [some (.box [.int .i64 a, .int .i64 b, .int .i64 c, .int .i64 d]), some (.box [.int .i64 e, .int .i64 f, .int .i64 g, .int .i64 o])]).run K = some r → (iter T_ref06_Resolution_0 k [.one (.int .i64 n), .one (.ptr 0 0), .one (.ptr 1 0), .one (.int .i64 m), .one (.int .i64 i)] [some (.box [.int .i64 a, .int .i64 b, .int .i64 c, .int .i64 d]), some (.box [.int .i64 e, .int .i64 f, .int .i64 g, .int .i64 o])]).run K = some r
  | 0, m, i, hj, hn, h5, hi, h1, h2 => ⟨1, fun K r h => by
    simp only [iter, tu_ref06_Resolution_0, U_ref06_Resolution_0, LT.next, LT.run, ite2_dec]
    rw [if_neg (by omega)]
    simpa [LT.run] using h⟩
  | j + 1, m, i, hj, hn, h5, hi, h1, h2 => by
    have e' : m * 2 ^ (j + 1) = 2 * m * 2 ^ j := by rw [Int.pow_succ, Int.mul_comm (2 ^ j), ← Int.mul_assoc, Int.mul_comm m]
    have h3 : (1 : Int) ≤ 2 ^ j := Int.pow_pos (by omega)
    have h4 : 2 * m * 1 ≤ 2 * m * 2 ^ j := Int.mul_le_mul_of_nonneg_left h3 (by omega)
    obtain ⟨k, hk⟩ := rl a b c d n e f g o j (2 * m) (i + 1) (by omega) hn (by omega) (by omega) (by omega) (by omega)
    refine ⟨k + 1, fun K r h => ?_⟩
    simp only [iter, tu_ref06_Resolution_0, U_ref06_Resolution_0, LT.next, LT.run, ite2_dec]
    rw [if_pos (by omega), wrap_in (n := i + 1) (by omega) (by omega), wrap_in (n := 2 * m) (by omega) (by omega)]
    refine hk K r ?_
    rw [← e']; exact h
theorem zz_ref06_Resolution_0 (n m i a b c d e f g o : Int) (hk : k_ref06_Resolution_0 n m i a b c d e f g o = true) : ∃ k, ∀ (K : Ex → List V → List (Option Blk) → Option Out) r, (c_ref06_Resolution_0 n m i a b c d e f g o).run K = some r → (iter T_ref06_Resolution_0 k [.one (.int .i64 n), .one (.ptr 0 0), .one (.ptr 1 0), .one (.int .i64 m), .one (.int .i64 i)] [some (.box [.int .i64 a, .int .i64 b, .int .i64 c, .int .i64 d]), some (.box [.int .i64 e, .int .i64 f, .int .i64 g, .int .i64 o])]).run K = some r := by
  simp only [k_ref06_Resolution_0, Bool.and_eq_true, decide_eq_true_eq] at hk
  obtain ⟨rfl, h0, h1⟩ := hk
  have h2 := inr_b h0
  have h3 := inr_b h1
  have h4 : (2 : Int) ^ (n - i).toNat ≤ 32 := by
    have : ∀ m : Nat, m < 6 → (2 : Int) ^ m ≤ 32 := by decide
    exact this _ (by omega)
  have := rl a b c d n e f g o (n - i).toNat 1 i (by omega) (by omega) (by omega) (by omega) (by omega) (by omega)
  simpa only [c_ref06_Resolution_0, pw, Int.one_mul] using this
theorem z_ref06_Resolution_0 : ∀ vs bl t, S_ref06_Resolution_0 vs bl = some (true, t) → ∃ n, ∀ (K : Ex → List V → List (Option Blk) → Option Out) r, t.run K = some r → (iter T_ref06_Resolution_0 n vs bl).run K = some r := by
  intro vs bl t y0'
  unfold S_ref06_Resolution_0 at y0'
  obtain ⟨c', vs, rfl, y1'⟩ := pO_s y0'
  obtain ⟨n, rfl, y2'⟩ := kI_s y1'
  obtain ⟨c', vs, rfl, y3'⟩ := pO_s y2'
  obtain ⟨rfl, y4'⟩ := kP_s y3'
  obtain ⟨c', vs, rfl, y5'⟩ := pO_s y4'
  obtain ⟨rfl, y6'⟩ := kP_s y5'
  obtain ⟨c', vs, rfl, y7'⟩ := pO_s y6'
  obtain ⟨m, rfl, y8'⟩ := kI_s y7'
  obtain ⟨c', vs, rfl, y9'⟩ := pO_s y8'
  obtain ⟨i, rfl, y10'⟩ := kI_s y9'
  obtain ⟨rfl, y11'⟩ := pE_s y10'
  obtain ⟨q', bl, rfl, y12'⟩ := bB_s y11'
  obtain ⟨c', q', rfl, y13'⟩ := tC_s y12'
  obtain ⟨a, rfl, y14'⟩ := kI_s y13'
  obtain ⟨c', q', rfl, y15'⟩ := tC_s y14'
  obtain ⟨b, rfl, y16'⟩ := kI_s y15'
  obtain ⟨c', q', rfl, y17'⟩ := tC_s y16'
  obtain ⟨c, rfl, y18'⟩ := kI_s y17'
  obtain ⟨c', q', rfl, y19'⟩ := tC_s y18'
  obtain ⟨d, rfl, y20'⟩ := kI_s y19'
  obtain ⟨rfl, y21'⟩ := tE_s y20'
  obtain ⟨q', bl, rfl, y22'⟩ := bB_s y21'
  obtain ⟨c', q', rfl, y23'⟩ := tC_s y22'
  obtain ⟨e, rfl, y24'⟩ := kI_s y23'
  obtain ⟨c', q', rfl, y25'⟩ := tC_s y24'
  obtain ⟨f, rfl, y26'⟩ := kI_s y25'
  obtain ⟨c', q', rfl, y27'⟩ := tC_s y26'
  obtain ⟨g, rfl, y28'⟩ := kI_s y27'
  obtain ⟨c', q', rfl, y29'⟩ := tC_s y28'
  obtain ⟨o, rfl, y30'⟩ := kI_s y29'
  obtain ⟨rfl, y31'⟩ := tE_s y30'
  obtain ⟨rfl, y32'⟩ := bE_s y31'
  have yy' := y32'
  obtain ⟨hk, rfl⟩ := Prod.mk.inj (Option.some.inj yy')
  exact zz_ref06_Resolution_0 _ _ _ _ _ _ _ _ _ _ _ hk
theorem q_ref06_Resolution (a b c d n r : Int) (hok : true = true) : funR Try.prog t_ref06_Resolution (annOf []) l_ref06_Resolution 20 Try.f72 [.agg [.int .i64 a, .int .i64 b, .int .i64 c, .int .i64 d], .one (.int .i64 n), .one (.int .i64 r)] [] = some ⟨.agg [.int .i64 ((resR a b c d n r).1), .int .i64 ((resR a b c d n r).2.1), .int .i64 ((resR a b c d n r).2.2.1), .int .i64 ((resR a b c d n r).2.2.2)], [], []⟩ := by
    refine (e_ref06_Resolution ..).trans ?_
    simp only [ite2_bool, decide_eq_true_eq, resR, k_ref06_Resolution_0]
    cases h : inr 0 5 n
    · simp [count, h]
    · have hb := inr_b h
      cases h1 : inr 0 n r
      · have : r < 0 ∨ r > n := by simp [inr] at h1; omega
        rcases this with h2 | h2 <;> simp [h2]
      · have hc := inr_b h1
        simp only [beq_iff_eq]
        rw [if_neg (by simp only [count, h, if_true]; omega), if_neg (by omega), if_neg (by omega)]
        simp
theorem s_ref06_Resolution : SoundFun Try.prog 72 G_ref06_Resolution := by
  refine fun_ok (tab := t_ref06_Resolution) (ann := annOf []) (lt := l_ref06_Resolution) (tab_cons s_ref01_Reduce (tab_cons s_ref06_Count tab_nil)) (by kernel_rfl) (fn := Try.f72) (by kernel_rfl) (by decide) (c := bodyOf Try.f72) (by kernel_rfl) (by
    intro m b hb
    have hb' : b ∈ loopsOf (bodyOf Try.f72) := hb
    rw [o_ref06_Resolution] at hb'
    simp only [List.mem_cons, List.not_mem_nil, or_false] at hb'
    rcases hb' with rfl
    · exact loop_ok (key := 5) (by kernel_rfl) rfl r_ref06_Resolution_0 z_ref06_Resolution_0 m
    ) ?_
  intro args lent o y0'
  unfold G_ref06_Resolution at y0'
  obtain ⟨q', args, rfl, y1'⟩ := pA_s y0'
  obtain ⟨c', q', rfl, y2'⟩ := tC_s y1'
  obtain ⟨a, rfl, y3'⟩ := kI_s y2'
  obtain ⟨c', q', rfl, y4'⟩ := tC_s y3'
  obtain ⟨b, rfl, y5'⟩ := kI_s y4'
  obtain ⟨c', q', rfl, y6'⟩ := tC_s y5'
  obtain ⟨c, rfl, y7'⟩ := kI_s y6'
  obtain ⟨c', q', rfl, y8'⟩ := tC_s y7'
  obtain ⟨d, rfl, y9'⟩ := kI_s y8'
  obtain ⟨rfl, y10'⟩ := tE_s y9'
  obtain ⟨c', args, rfl, y11'⟩ := pO_s y10'
  obtain ⟨n, rfl, y12'⟩ := kI_s y11'
  obtain ⟨c', args, rfl, y13'⟩ := pO_s y12'
  obtain ⟨r, rfl, y14'⟩ := kI_s y13'
  obtain ⟨rfl, y15'⟩ := pE_s y14'
  obtain ⟨rfl, y16'⟩ := nE_s y15'
  have yy' := y16'
  unfold H_ref06_Resolution at yy'
  obtain ⟨hok, rfl⟩ := Prod.mk.inj (Option.some.inj yy')
  exact ⟨20, q_ref06_Resolution _ _ _ _ _ _ hok⟩
theorem o_dwt_Bands : loopsOf (bodyOf Try.f57) = [loopOf Try.f57 0] := by kernel_rfl
theorem q_dwt_Bands (a b c d : Int) (hok : true = true) : funR Try.prog t_dwt_Bands (annOf []) l_dwt_Bands 20 Try.f57 [.agg [.int .i64 a, .int .i64 b, .int .i64 c, .int .i64 d]] [] = some ⟨.agg [.int .i64 ((bnd a b c d 0).1), .int .i64 ((bnd a b c d 0).2.1), .int .i64 ((bnd a b c d 0).2.2.1), .int .i64 ((bnd a b c d 0).2.2.2), .int .i64 ((bnd a b c d 1).1), .int .i64 ((bnd a b c d 1).2.1), .int .i64 ((bnd a b c d 1).2.2.1), .int .i64 ((bnd a b c d 1).2.2.2), .int .i64 ((bnd a b c d 2).1), .int .i64 ((bnd a b c d 2).2.1), .int .i64 ((bnd a b c d 2).2.2.1), .int .i64 ((bnd a b c d 2).2.2.2), .int .i64 ((bnd a b c d 3).1), .int .i64 ((bnd a b c d 3).2.1), .int .i64 ((bnd a b c d 3).2.2.1), .int .i64 ((bnd a b c d 3).2.2.2)], [], []⟩ := by
    refine (e_dwt_Bands ..).trans ?_
    simp only [ite2_bool, bnd]
    cases h : valid a b c d
    · simp
    · have hb := valid_b h
      simp (disch := omega) only [wrap_in, wrapu_in, Int.tdiv_eq_ediv_of_nonneg]
      simp
theorem s_dwt_Bands : SoundFun Try.prog 57 G_dwt_Bands := by
  refine fun_ok (tab := t_dwt_Bands) (ann := annOf []) (lt := l_dwt_Bands) (tab_cons s_rect_Valid tab_nil) (by kernel_rfl) (fn := Try.f57) (by kernel_rfl) (by decide) (c := bodyOf Try.f57) (by kernel_rfl) (by
    intro m b hb
    have hb' : b ∈ loopsOf (bodyOf Try.f57) := hb
    rw [o_dwt_Bands] at hb'
    simp only [List.mem_cons, List.not_mem_nil, or_false] at hb'
    rcases hb' with rfl
    · exact loop_none (by kernel_rfl) m
    ) ?_
  intro args lent o y0'
  unfold G_dwt_Bands at y0'
  obtain ⟨q', args, rfl, y1'⟩ := pA_s y0'
  obtain ⟨c', q', rfl, y2'⟩ := tC_s y1'
  obtain ⟨a, rfl, y3'⟩ := kI_s y2'
  obtain ⟨c', q', rfl, y4'⟩ := tC_s y3'
  obtain ⟨b, rfl, y5'⟩ := kI_s y4'
  obtain ⟨c', q', rfl, y6'⟩ := tC_s y5'
  obtain ⟨c, rfl, y7'⟩ := kI_s y6'
  obtain ⟨c', q', rfl, y8'⟩ := tC_s y7'
  obtain ⟨d, rfl, y9'⟩ := kI_s y8'
  obtain ⟨rfl, y10'⟩ := tE_s y9'
  obtain ⟨rfl, y11'⟩ := pE_s y10'
  obtain ⟨rfl, y12'⟩ := nE_s y11'
  have yy' := y12'
  unfold H_dwt_Bands at yy'
  obtain ⟨hok, rfl⟩ := Prod.mk.inj (Option.some.inj yy')
  exact ⟨20, q_dwt_Bands _ _ _ _ hok⟩
theorem q_ref05_half (n : Int) (b : Bool) (hok : inr 0 4096 n = true) : funR Try.prog t_ref05_half (annOf []) l_ref05_half 20 Try.f98 [.one (.int .i64 n), .one (.bool b)] [] = some ⟨.one (.int .i64 (half n b)), [], []⟩ := by
    refine (e_ref05_half ..).trans ?_
    have hb := inr_b hok
    simp only [ite2_bool, half]
    simp (disch := omega) only [wrap_in, wrapu_in, Int.tdiv_eq_ediv_of_nonneg]
    split <;> rfl
theorem s_ref05_half : SoundFun Try.prog 98 G_ref05_half := by
  refine fun_ok (tab := t_ref05_half) (ann := annOf []) (lt := l_ref05_half) tab_nil (by kernel_rfl) (fn := Try.f98) (by kernel_rfl) (by decide) (c := bodyOf Try.f98) (by kernel_rfl) (fun m b hb => absurd hb (by show b ∉ loopsOf (bodyOf Try.f98); rw [show loopsOf (bodyOf Try.f98) = [] from by kernel_rfl]; exact List.not_mem_nil)) ?_
  intro args lent o y0'
  unfold G_ref05_half at y0'
  obtain ⟨c', args, rfl, y1'⟩ := pO_s y0'
  obtain ⟨n, rfl, y2'⟩ := kI_s y1'
  obtain ⟨c', args, rfl, y3'⟩ := pO_s y2'
  obtain ⟨b, rfl, y4'⟩ := kB_s y3'
  obtain ⟨rfl, y5'⟩ := pE_s y4'
  obtain ⟨rfl, y6'⟩ := nE_s y5'
  have yy' := y6'
  unfold H_ref05_half at yy'
  obtain ⟨hok, rfl⟩ := Prod.mk.inj (Option.some.inj yy')
  exact ⟨20, q_ref05_half _ _ hok⟩
theorem o_ref05_Bands : loopsOf (bodyOf Try.f96) = [loopOf Try.f96 0] := by kernel_rfl
theorem q_ref05_Bands (a b c d : Int) (hok : true = true) : funR Try.prog t_ref05_Bands (annOf []) l_ref05_Bands 20 Try.f96 [.agg [.int .i64 a, .int .i64 b, .int .i64 c, .int .i64 d]] [] = some ⟨.agg [.int .i64 ((bnd a b c d 0).1), .int .i64 ((bnd a b c d 0).2.1), .int .i64 ((bnd a b c d 0).2.2.1), .int .i64 ((bnd a b c d 0).2.2.2), .int .i64 ((bnd a b c d 1).1), .int .i64 ((bnd a b c d 1).2.1), .int .i64 ((bnd a b c d 1).2.2.1), .int .i64 ((bnd a b c d 1).2.2.2), .int .i64 ((bnd a b c d 2).1), .int .i64 ((bnd a b c d 2).2.1), .int .i64 ((bnd a b c d 2).2.2.1), .int .i64 ((bnd a b c d 2).2.2.2), .int .i64 ((bnd a b c d 3).1), .int .i64 ((bnd a b c d 3).2.1), .int .i64 ((bnd a b c d 3).2.2.1), .int .i64 ((bnd a b c d 3).2.2.2)], [], []⟩ := by
    refine (e_ref05_Bands ..).trans ?_
    simp only [ite2_bool, bnd]
    cases h : valid a b c d
    · simp
    · have hb := valid_b h
      have h1 : inr 0 4096 a = true := inr_t (by omega) (by omega)
      have h2 : inr 0 4096 b = true := inr_t (by omega) (by omega)
      have h3 : inr 0 4096 c = true := inr_t (by omega) (by omega)
      have h4 : inr 0 4096 d = true := inr_t (by omega) (by omega)
      simp [h1, h2, h3, h4, half]
theorem s_ref05_Bands : SoundFun Try.prog 96 G_ref05_Bands := by
  refine fun_ok (tab := t_ref05_Bands) (ann := annOf []) (lt := l_ref05_Bands) (tab_cons s_ref01_Valid (tab_cons s_ref05_half tab_nil)) (by kernel_rfl) (fn := Try.f96) (by kernel_rfl) (by decide) (c := bodyOf Try.f96) (by kernel_rfl) (by
    intro m b hb
    have hb' : b ∈ loopsOf (bodyOf Try.f96) := hb
    rw [o_ref05_Bands] at hb'
    simp only [List.mem_cons, List.not_mem_nil, or_false] at hb'
    rcases hb' with rfl
    · exact loop_none (by kernel_rfl) m
    ) ?_
  intro args lent o y0'
  unfold G_ref05_Bands at y0'
  obtain ⟨q', args, rfl, y1'⟩ := pA_s y0'
  obtain ⟨c', q', rfl, y2'⟩ := tC_s y1'
  obtain ⟨a, rfl, y3'⟩ := kI_s y2'
  obtain ⟨c', q', rfl, y4'⟩ := tC_s y3'
  obtain ⟨b, rfl, y5'⟩ := kI_s y4'
  obtain ⟨c', q', rfl, y6'⟩ := tC_s y5'
  obtain ⟨c, rfl, y7'⟩ := kI_s y6'
  obtain ⟨c', q', rfl, y8'⟩ := tC_s y7'
  obtain ⟨d, rfl, y9'⟩ := kI_s y8'
  obtain ⟨rfl, y10'⟩ := tE_s y9'
  obtain ⟨rfl, y11'⟩ := pE_s y10'
  obtain ⟨rfl, y12'⟩ := nE_s y11'
  have yy' := y12'
  unfold H_ref05_Bands at yy'
  obtain ⟨hok, rfl⟩ := Prod.mk.inj (Option.some.inj yy')
  exact ⟨20, q_ref05_Bands _ _ _ _ hok⟩
theorem q_pyr_Band (a b c d n i : Int) (hok : true = true) : funR Try.prog t_pyr_Band (annOf []) l_pyr_Band 20 Try.f28 [.agg [.int .i64 a, .int .i64 b, .int .i64 c, .int .i64 d], .one (.int .i64 n), .one (.int .i64 i)] [] = some ⟨.agg [.int .i64 ((bandR a b c d n i).1), .int .i64 ((bandR a b c d n i).2.1), .int .i64 ((bandR a b c d n i).2.2.1), .int .i64 ((bandR a b c d n i).2.2.2)], [], []⟩ := by
    refine (e_pyr_Band ..).trans ?_
    simp only [ite2_bool, decide_eq_true_eq, bandR]
    cases h : plOk i n
    · simp
    · have hb := pl_b h
      cases hv : valid a b c d
      · simp
      · by_cases hi : i = 0
        · simp [hi]
        · have hd := pl_d h hi
          rw [wrap_in (n := n - plLv i n) (by omega) (by omega), wrap_in (n := n - plLv i n + 1) (by omega) (by omega)]
          generalize resR a b c d n (n - plLv i n + 1) = y
          have ho : plOr i n = 1 ∨ plOr i n = 2 ∨ plOr i n = 3 := by omega
          rcases ho with ho | ho | ho <;> simp [ho, hi, gI, bndR]
theorem s_pyr_Band : SoundFun Try.prog 28 G_pyr_Band := by
  refine fun_ok (tab := t_pyr_Band) (ann := annOf []) (lt := l_pyr_Band) (tab_cons s_pyr_Resolution (tab_cons s_pyr_Place (tab_cons s_rect_Valid (tab_cons s_dwt_Bands tab_nil)))) (by kernel_rfl) (fn := Try.f28) (by kernel_rfl) (by decide) (c := bodyOf Try.f28) (by kernel_rfl) (fun m b hb => absurd hb (by show b ∉ loopsOf (bodyOf Try.f28); rw [show loopsOf (bodyOf Try.f28) = [] from by kernel_rfl]; exact List.not_mem_nil)) ?_
  intro args lent o y0'
  unfold G_pyr_Band at y0'
  obtain ⟨q', args, rfl, y1'⟩ := pA_s y0'
  obtain ⟨c', q', rfl, y2'⟩ := tC_s y1'
  obtain ⟨a, rfl, y3'⟩ := kI_s y2'
  obtain ⟨c', q', rfl, y4'⟩ := tC_s y3'
  obtain ⟨b, rfl, y5'⟩ := kI_s y4'
  obtain ⟨c', q', rfl, y6'⟩ := tC_s y5'
  obtain ⟨c, rfl, y7'⟩ := kI_s y6'
  obtain ⟨c', q', rfl, y8'⟩ := tC_s y7'
  obtain ⟨d, rfl, y9'⟩ := kI_s y8'
  obtain ⟨rfl, y10'⟩ := tE_s y9'
  obtain ⟨c', args, rfl, y11'⟩ := pO_s y10'
  obtain ⟨n, rfl, y12'⟩ := kI_s y11'
  obtain ⟨c', args, rfl, y13'⟩ := pO_s y12'
  obtain ⟨i, rfl, y14'⟩ := kI_s y13'
  obtain ⟨rfl, y15'⟩ := pE_s y14'
  obtain ⟨rfl, y16'⟩ := nE_s y15'
  have yy' := y16'
  unfold H_pyr_Band at yy'
  obtain ⟨hok, rfl⟩ := Prod.mk.inj (Option.some.inj yy')
  exact ⟨20, q_pyr_Band _ _ _ _ _ _ hok⟩
theorem q_ref06_Band (a b c d n i : Int) (hok : true = true) : funR Try.prog t_ref06_Band (annOf []) l_ref06_Band 20 Try.f80 [.agg [.int .i64 a, .int .i64 b, .int .i64 c, .int .i64 d], .one (.int .i64 n), .one (.int .i64 i)] [] = some ⟨.agg [.int .i64 ((bandR a b c d n i).1), .int .i64 ((bandR a b c d n i).2.1), .int .i64 ((bandR a b c d n i).2.2.1), .int .i64 ((bandR a b c d n i).2.2.2)], [], []⟩ := by
    refine (e_ref06_Band ..).trans ?_
    simp only [ite2_bool, decide_eq_true_eq, bandR]
    cases h : plOk i n
    · simp
    · have hb := pl_b h
      cases hv : valid a b c d
      · simp
      · by_cases hi : i = 0
        · simp [hi]
        · have hd := pl_d h hi
          rw [wrap_in (n := n - plLv i n) (by omega) (by omega), wrap_in (n := n - plLv i n + 1) (by omega) (by omega)]
          generalize resR a b c d n (n - plLv i n + 1) = y
          have ho : plOr i n = 1 ∨ plOr i n = 2 ∨ plOr i n = 3 := by omega
          rcases ho with ho | ho | ho <;> simp [ho, hi, gI, bndR]
theorem s_ref06_Band : SoundFun Try.prog 80 G_ref06_Band := by
  refine fun_ok (tab := t_ref06_Band) (ann := annOf []) (lt := l_ref06_Band) (tab_cons s_ref01_Valid (tab_cons s_ref06_Resolution (tab_cons s_ref06_Place (tab_cons s_ref05_Bands tab_nil)))) (by kernel_rfl) (fn := Try.f80) (by kernel_rfl) (by decide) (c := bodyOf Try.f80) (by kernel_rfl) (fun m b hb => absurd hb (by show b ∉ loopsOf (bodyOf Try.f80); rw [show loopsOf (bodyOf Try.f80) = [] from by kernel_rfl]; exact List.not_mem_nil)) ?_
  intro args lent o y0'
  unfold G_ref06_Band at y0'
  obtain ⟨q', args, rfl, y1'⟩ := pA_s y0'
  obtain ⟨c', q', rfl, y2'⟩ := tC_s y1'
  obtain ⟨a, rfl, y3'⟩ := kI_s y2'
  obtain ⟨c', q', rfl, y4'⟩ := tC_s y3'
  obtain ⟨b, rfl, y5'⟩ := kI_s y4'
  obtain ⟨c', q', rfl, y6'⟩ := tC_s y5'
  obtain ⟨c, rfl, y7'⟩ := kI_s y6'
  obtain ⟨c', q', rfl, y8'⟩ := tC_s y7'
  obtain ⟨d, rfl, y9'⟩ := kI_s y8'
  obtain ⟨rfl, y10'⟩ := tE_s y9'
  obtain ⟨c', args, rfl, y11'⟩ := pO_s y10'
  obtain ⟨n, rfl, y12'⟩ := kI_s y11'
  obtain ⟨c', args, rfl, y13'⟩ := pO_s y12'
  obtain ⟨i, rfl, y14'⟩ := kI_s y13'
  obtain ⟨rfl, y15'⟩ := pE_s y14'
  obtain ⟨rfl, y16'⟩ := nE_s y15'
  have yy' := y16'
  unfold H_ref06_Band at yy'
  obtain ⟨hok, rfl⟩ := Prod.mk.inj (Option.some.inj yy')
  exact ⟨20, q_ref06_Band _ _ _ _ _ _ hok⟩
theorem q_params_cells (a b c d x y : Int) (hok : (inr 0 12 x && inr 0 12 y) = true) : funR Try.prog t_params_cells (annOf []) l_params_cells 20 Try.f84 [.agg [.int .i64 a, .int .i64 b, .int .i64 c, .int .i64 d], .one (.int .i64 x), .one (.int .i64 y)] [] = some ⟨.one (.int .i64 (cellsN a b c d x y)), [], []⟩ := by
    refine (e_params_cells ..).trans ?_
    simp only [Bool.and_eq_true] at hok
    have h1 := inr_b hok.1
    have h2 := inr_b hok.2
    simp only [ite2_bool, decide_eq_true_eq, cellsN]
    rw [wrapu_in (n := x) (by omega) (by omega), wrapu_in (n := y) (by omega) (by omega), shl_pw h1.1 h1.2, shl_pw h2.1 h2.2, if_pos h1.1, if_pos h2.1]
    split <;> rfl
theorem s_params_cells : SoundFun Try.prog 84 G_params_cells := by
  refine fun_ok (tab := t_params_cells) (ann := annOf []) (lt := l_params_cells) (tab_cons s_rect_Empty (tab_cons s_rect_CeilDiv (tab_cons s_rect_FloorDiv tab_nil))) (by kernel_rfl) (fn := Try.f84) (by kernel_rfl) (by decide) (c := bodyOf Try.f84) (by kernel_rfl) (fun m b hb => absurd hb (by show b ∉ loopsOf (bodyOf Try.f84); rw [show loopsOf (bodyOf Try.f84) = [] from by kernel_rfl]; exact List.not_mem_nil)) ?_
  intro args lent o y0'
  unfold G_params_cells at y0'
  obtain ⟨q', args, rfl, y1'⟩ := pA_s y0'
  obtain ⟨c', q', rfl, y2'⟩ := tC_s y1'
  obtain ⟨a, rfl, y3'⟩ := kI_s y2'
  obtain ⟨c', q', rfl, y4'⟩ := tC_s y3'
  obtain ⟨b, rfl, y5'⟩ := kI_s y4'
  obtain ⟨c', q', rfl, y6'⟩ := tC_s y5'
  obtain ⟨c, rfl, y7'⟩ := kI_s y6'
  obtain ⟨c', q', rfl, y8'⟩ := tC_s y7'
  obtain ⟨d, rfl, y9'⟩ := kI_s y8'
  obtain ⟨rfl, y10'⟩ := tE_s y9'
  obtain ⟨c', args, rfl, y11'⟩ := pO_s y10'
  obtain ⟨x, rfl, y12'⟩ := kI_s y11'
  obtain ⟨c', args, rfl, y13'⟩ := pO_s y12'
  obtain ⟨y, rfl, y14'⟩ := kI_s y13'
  obtain ⟨rfl, y15'⟩ := pE_s y14'
  obtain ⟨rfl, y16'⟩ := nE_s y15'
  have yy' := y16'
  unfold H_params_cells at yy'
  obtain ⟨hok, rfl⟩ := Prod.mk.inj (Option.some.inj yy')
  exact ⟨20, q_params_cells _ _ _ _ _ _ hok⟩
theorem q_ref23_Grid (a b c d x y : Int) (hok : (inr 0 12 x && inr 0 12 y) = true) : funR Try.prog t_ref23_Grid (annOf []) l_ref23_Grid 20 Try.f75 [.agg [.int .i64 a, .int .i64 b, .int .i64 c, .int .i64 d], .one (.int .i64 x), .one (.int .i64 y)] [] = some ⟨.one (.int .i64 (cellsN a b c d x y)), [], []⟩ := by
    refine (e_ref23_Grid ..).trans ?_
    simp only [Bool.and_eq_true] at hok
    have h1 := inr_b hok.1
    have h2 := inr_b hok.2
    simp only [ite2_bool, decide_eq_true_eq, cellsN]
    rw [shl_pw h1.1 h1.2, shl_pw h2.1 h2.2, if_pos h1.1, if_pos h1.1, if_pos h2.1, if_pos h2.1]
    split <;> rfl
theorem s_ref23_Grid : SoundFun Try.prog 75 G_ref23_Grid := by
  refine fun_ok (tab := t_ref23_Grid) (ann := annOf []) (lt := l_ref23_Grid) (tab_cons s_ref01_Empty (tab_cons s_ref01_FloorDiv (tab_cons s_ref01_CeilDiv tab_nil))) (by kernel_rfl) (fn := Try.f75) (by kernel_rfl) (by decide) (c := bodyOf Try.f75) (by kernel_rfl) (fun m b hb => absurd hb (by show b ∉ loopsOf (bodyOf Try.f75); rw [show loopsOf (bodyOf Try.f75) = [] from by kernel_rfl]; exact List.not_mem_nil)) ?_
  intro args lent o y0'
  unfold G_ref23_Grid at y0'
  obtain ⟨q', args, rfl, y1'⟩ := pA_s y0'
  obtain ⟨c', q', rfl, y2'⟩ := tC_s y1'
  obtain ⟨a, rfl, y3'⟩ := kI_s y2'
  obtain ⟨c', q', rfl, y4'⟩ := tC_s y3'
  obtain ⟨b, rfl, y5'⟩ := kI_s y4'
  obtain ⟨c', q', rfl, y6'⟩ := tC_s y5'
  obtain ⟨c, rfl, y7'⟩ := kI_s y6'
  obtain ⟨c', q', rfl, y8'⟩ := tC_s y7'
  obtain ⟨d, rfl, y9'⟩ := kI_s y8'
  obtain ⟨rfl, y10'⟩ := tE_s y9'
  obtain ⟨c', args, rfl, y11'⟩ := pO_s y10'
  obtain ⟨x, rfl, y12'⟩ := kI_s y11'
  obtain ⟨c', args, rfl, y13'⟩ := pO_s y12'
  obtain ⟨y, rfl, y14'⟩ := kI_s y13'
  obtain ⟨rfl, y15'⟩ := pE_s y14'
  obtain ⟨rfl, y16'⟩ := nE_s y15'
  have yy' := y16'
  unfold H_ref23_Grid at yy'
  obtain ⟨hok, rfl⟩ := Prod.mk.inj (Option.some.inj yy')
  exact ⟨20, q_ref23_Grid _ _ _ _ _ _ hok⟩
end Go.Rx.Ch24

