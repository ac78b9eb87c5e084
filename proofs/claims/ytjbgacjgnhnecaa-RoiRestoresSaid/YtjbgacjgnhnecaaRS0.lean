/- The summaries of these functions are sound. -/
import Derived.Test.YtjbgacjgnhnecaaRE0
import Derived.Test.YtjbgacjgnhnecaaRxD
set_option linter.unnecessarySimpa false
set_option linter.unusedVariables false
set_option linter.unusedSimpArgs false
set_option maxRecDepth 100000
set_option maxHeartbeats 40000000
open Go Go.Rx Go.Proofs
namespace Go.Rx.Ch30
theorem q_rect_Empty (a b c d : Int) (hok : true = true) : funR Try.prog t_rect_Empty (annOf []) l_rect_Empty 20 Try.f31 [.agg [.int .i64 a, .int .i64 b, .int .i64 c, .int .i64 d]] [] = some ⟨.one (.bool (empty a b c d)), [], []⟩ := by
    refine (e_rect_Empty ..).trans ?_
    simp only [ite2_dec, ite2_bool, mx_eq, mn_eq, empty]
    (repeat' split) <;> (try simp_all) <;> (try omega) <;> (try (rw [Bool.eq_iff_iff]; simp; omega))
theorem s_rect_Empty : SoundFun Try.prog 31 G_rect_Empty := by
  refine fun_ok (tab := t_rect_Empty) (ann := annOf []) (lt := l_rect_Empty) tab_nil (by kernel_rfl) (fn := Try.f31) (by kernel_rfl) (by decide) (c := bodyOf Try.f31) (by kernel_rfl) (no_loops (by kernel_rfl)) ?_ (keep_nil (by kernel_rfl))
  intro args lent o y0'
  unfold G_rect_Empty at y0'
  obtain ⟨q', args, rfl, y1'⟩ := pA_s y0'
  obtain ⟨a, b, c, d, q', rfl, y2'⟩ := t4_s y1'
  obtain ⟨rfl, y3'⟩ := tE_s y2'
  obtain ⟨rfl, y4'⟩ := pE_s y3'
  obtain ⟨rfl, y5'⟩ := nE_s y4'
  have yy' := y5'
  unfold H_rect_Empty at yy'
  obtain ⟨hok, rfl⟩ := Prod.mk.inj (Option.some.inj yy')
  exact ⟨20, q_rect_Empty _ _ _ _ hok⟩
theorem q_rect_Valid (a b c d : Int) (hok : true = true) : funR Try.prog t_rect_Valid (annOf []) l_rect_Valid 20 Try.f30 [.agg [.int .i64 a, .int .i64 b, .int .i64 c, .int .i64 d]] [] = some ⟨.one (.bool (valid a b c d)), [], []⟩ := by
    refine (e_rect_Valid ..).trans ?_
    simp only [ite2_dec, ite2_bool, mx_eq, mn_eq, valid]
    (repeat' split) <;> (try simp_all) <;> (try omega) <;> (try (rw [Bool.eq_iff_iff]; simp; omega))
theorem s_rect_Valid : SoundFun Try.prog 30 G_rect_Valid := by
  refine fun_ok (tab := t_rect_Valid) (ann := annOf []) (lt := l_rect_Valid) tab_nil (by kernel_rfl) (fn := Try.f30) (by kernel_rfl) (by decide) (c := bodyOf Try.f30) (by kernel_rfl) (no_loops (by kernel_rfl)) ?_ (keep_nil (by kernel_rfl))
  intro args lent o y0'
  unfold G_rect_Valid at y0'
  obtain ⟨q', args, rfl, y1'⟩ := pA_s y0'
  obtain ⟨a, b, c, d, q', rfl, y2'⟩ := t4_s y1'
  obtain ⟨rfl, y3'⟩ := tE_s y2'
  obtain ⟨rfl, y4'⟩ := pE_s y3'
  obtain ⟨rfl, y5'⟩ := nE_s y4'
  have yy' := y5'
  unfold H_rect_Valid at yy'
  obtain ⟨hok, rfl⟩ := Prod.mk.inj (Option.some.inj yy')
  exact ⟨20, q_rect_Valid _ _ _ _ hok⟩
theorem q_rect_CeilDiv (a b : Int) (hok : true = true) : funR Try.prog t_rect_CeilDiv (annOf []) l_rect_CeilDiv 20 Try.f74 [.one (.int .i64 a), .one (.int .i64 b)] [] = some ⟨.one (.int .i64 (cdiv a b)), [], []⟩ := by
    refine (e_rect_CeilDiv ..).trans ?_
    simp only [ite2_dec, ite2_bool, mx_eq, mn_eq, cdiv]
    (repeat' split) <;> (try simp_all) <;> (try omega) <;> (try (rw [Bool.eq_iff_iff]; simp; omega))
theorem s_rect_CeilDiv : SoundFun Try.prog 74 G_rect_CeilDiv := by
  refine fun_ok (tab := t_rect_CeilDiv) (ann := annOf []) (lt := l_rect_CeilDiv) tab_nil (by kernel_rfl) (fn := Try.f74) (by kernel_rfl) (by decide) (c := bodyOf Try.f74) (by kernel_rfl) (no_loops (by kernel_rfl)) ?_ (keep_nil (by kernel_rfl))
  intro args lent o y0'
  unfold G_rect_CeilDiv at y0'
  obtain ⟨a, args, rfl, y1'⟩ := pI_s y0'
  obtain ⟨b, args, rfl, y2'⟩ := pI_s y1'
  obtain ⟨rfl, y3'⟩ := pE_s y2'
  obtain ⟨rfl, y4'⟩ := nE_s y3'
  have yy' := y4'
  unfold H_rect_CeilDiv at yy'
  obtain ⟨hok, rfl⟩ := Prod.mk.inj (Option.some.inj yy')
  exact ⟨20, q_rect_CeilDiv _ _ hok⟩
theorem q_rect_FloorDiv (a b : Int) (hok : true = true) : funR Try.prog t_rect_FloorDiv (annOf []) l_rect_FloorDiv 20 Try.f75 [.one (.int .i64 a), .one (.int .i64 b)] [] = some ⟨.one (.int .i64 (fdiv a b)), [], []⟩ := by
    refine (e_rect_FloorDiv ..).trans ?_
    simp only [ite2_dec, ite2_bool, mx_eq, mn_eq, fdiv]
    (repeat' split) <;> (try simp_all) <;> (try omega) <;> (try (rw [Bool.eq_iff_iff]; simp; omega))
theorem s_rect_FloorDiv : SoundFun Try.prog 75 G_rect_FloorDiv := by
  refine fun_ok (tab := t_rect_FloorDiv) (ann := annOf []) (lt := l_rect_FloorDiv) tab_nil (by kernel_rfl) (fn := Try.f75) (by kernel_rfl) (by decide) (c := bodyOf Try.f75) (by kernel_rfl) (no_loops (by kernel_rfl)) ?_ (keep_nil (by kernel_rfl))
  intro args lent o y0'
  unfold G_rect_FloorDiv at y0'
  obtain ⟨a, args, rfl, y1'⟩ := pI_s y0'
  obtain ⟨b, args, rfl, y2'⟩ := pI_s y1'
  obtain ⟨rfl, y3'⟩ := pE_s y2'
  obtain ⟨rfl, y4'⟩ := nE_s y3'
  have yy' := y4'
  unfold H_rect_FloorDiv at yy'
  obtain ⟨hok, rfl⟩ := Prod.mk.inj (Option.some.inj yy')
  exact ⟨20, q_rect_FloorDiv _ _ hok⟩
theorem q_rect_Area (a b c d : Int) (hok : true = true) : funR Try.prog t_rect_Area (annOf []) l_rect_Area 20 Try.f42 [.agg [.int .i64 a, .int .i64 b, .int .i64 c, .int .i64 d]] [] = some ⟨.one (.int .i64 (area a b c d)), [], []⟩ := by
    refine (e_rect_Area ..).trans ?_
    simp only [ite2_dec, ite2_bool, mx_eq, mn_eq, area]
    (repeat' split) <;> (try simp_all) <;> (try omega) <;> (try (rw [Bool.eq_iff_iff]; simp; omega))
theorem s_rect_Area : SoundFun Try.prog 42 G_rect_Area := by
  refine fun_ok (tab := t_rect_Area) (ann := annOf []) (lt := l_rect_Area) (tab_cons s_rect_Valid tab_nil) (by kernel_rfl) (fn := Try.f42) (by kernel_rfl) (by decide) (c := bodyOf Try.f42) (by kernel_rfl) (no_loops (by kernel_rfl)) ?_ (keep_nil (by kernel_rfl))
  intro args lent o y0'
  unfold G_rect_Area at y0'
  obtain ⟨q', args, rfl, y1'⟩ := pA_s y0'
  obtain ⟨a, b, c, d, q', rfl, y2'⟩ := t4_s y1'
  obtain ⟨rfl, y3'⟩ := tE_s y2'
  obtain ⟨rfl, y4'⟩ := pE_s y3'
  obtain ⟨rfl, y5'⟩ := nE_s y4'
  have yy' := y5'
  unfold H_rect_Area at yy'
  obtain ⟨hok, rfl⟩ := Prod.mk.inj (Option.some.inj yy')
  exact ⟨20, q_rect_Area _ _ _ _ hok⟩
theorem q_rect_Reduce (a b c d x y : Int) (hok : true = true) : funR Try.prog t_rect_Reduce (annOf []) l_rect_Reduce 20 Try.f51 [.agg [.int .i64 a, .int .i64 b, .int .i64 c, .int .i64 d], .one (.int .i64 x), .one (.int .i64 y)] [] = some ⟨.agg [.int .i64 ((reduce a b c d x y).1), .int .i64 ((reduce a b c d x y).2.1), .int .i64 ((reduce a b c d x y).2.2.1), .int .i64 ((reduce a b c d x y).2.2.2)], [], []⟩ := by
    refine (e_rect_Reduce ..).trans ?_
    simp only [ite2_dec, ite2_bool, mx_eq, mn_eq, reduce]
    (repeat' split) <;> (try simp_all) <;> (try omega) <;> (try (rw [Bool.eq_iff_iff]; simp; omega))
theorem s_rect_Reduce : SoundFun Try.prog 51 G_rect_Reduce := by
  refine fun_ok (tab := t_rect_Reduce) (ann := annOf []) (lt := l_rect_Reduce) (tab_cons s_rect_Valid (tab_cons s_rect_CeilDiv tab_nil)) (by kernel_rfl) (fn := Try.f51) (by kernel_rfl) (by decide) (c := bodyOf Try.f51) (by kernel_rfl) (no_loops (by kernel_rfl)) ?_ (keep_nil (by kernel_rfl))
  intro args lent o y0'
  unfold G_rect_Reduce at y0'
  obtain ⟨q', args, rfl, y1'⟩ := pA_s y0'
  obtain ⟨a, b, c, d, q', rfl, y2'⟩ := t4_s y1'
  obtain ⟨rfl, y3'⟩ := tE_s y2'
  obtain ⟨x, args, rfl, y4'⟩ := pI_s y3'
  obtain ⟨y, args, rfl, y5'⟩ := pI_s y4'
  obtain ⟨rfl, y6'⟩ := pE_s y5'
  obtain ⟨rfl, y7'⟩ := nE_s y6'
  have yy' := y7'
  unfold H_rect_Reduce at yy'
  obtain ⟨hok, rfl⟩ := Prod.mk.inj (Option.some.inj yy')
  exact ⟨20, q_rect_Reduce _ _ _ _ _ _ hok⟩
theorem q_rect_Intersect (a b c d e f g h : Int) (hok : true = true) : funR Try.prog t_rect_Intersect (annOf []) l_rect_Intersect 20 Try.f62 [.agg [.int .i64 a, .int .i64 b, .int .i64 c, .int .i64 d], .agg [.int .i64 e, .int .i64 f, .int .i64 g, .int .i64 h]] [] = some ⟨.agg [.int .i64 ((inter a b c d e f g h).1), .int .i64 ((inter a b c d e f g h).2.1), .int .i64 ((inter a b c d e f g h).2.2.1), .int .i64 ((inter a b c d e f g h).2.2.2)], [], []⟩ := by
    refine (e_rect_Intersect ..).trans ?_
    simp only [ite2_dec, ite2_bool, mx_eq, mn_eq, inter]
    (repeat' split) <;> (try simp_all) <;> (try omega) <;> (try (rw [Bool.eq_iff_iff]; simp; omega))
theorem s_rect_Intersect : SoundFun Try.prog 62 G_rect_Intersect := by
  refine fun_ok (tab := t_rect_Intersect) (ann := annOf []) (lt := l_rect_Intersect) (tab_cons s_rect_Empty tab_nil) (by kernel_rfl) (fn := Try.f62) (by kernel_rfl) (by decide) (c := bodyOf Try.f62) (by kernel_rfl) (no_loops (by kernel_rfl)) ?_ (keep_nil (by kernel_rfl))
  intro args lent o y0'
  unfold G_rect_Intersect at y0'
  obtain ⟨q', args, rfl, y1'⟩ := pA_s y0'
  obtain ⟨a, b, c, d, q', rfl, y2'⟩ := t4_s y1'
  obtain ⟨rfl, y3'⟩ := tE_s y2'
  obtain ⟨q', args, rfl, y4'⟩ := pA_s y3'
  obtain ⟨e, f, g, h, q', rfl, y5'⟩ := t4_s y4'
  obtain ⟨rfl, y6'⟩ := tE_s y5'
  obtain ⟨rfl, y7'⟩ := pE_s y6'
  obtain ⟨rfl, y8'⟩ := nE_s y7'
  have yy' := y8'
  unfold H_rect_Intersect at yy'
  obtain ⟨hok, rfl⟩ := Prod.mk.inj (Option.some.inj yy')
  exact ⟨20, q_rect_Intersect _ _ _ _ _ _ _ _ hok⟩
theorem q_ref01_Empty (a b c d : Int) (hok : true = true) : funR Try.prog t_ref01_Empty (annOf []) l_ref01_Empty 20 Try.f33 [.agg [.int .i64 a, .int .i64 b, .int .i64 c, .int .i64 d]] [] = some ⟨.one (.bool (empty a b c d)), [], []⟩ := by
    refine (e_ref01_Empty ..).trans ?_
    simp only [ite2_dec, ite2_bool, mx_eq, mn_eq, empty]
    (repeat' split) <;> (try simp_all) <;> (try omega) <;> (try (rw [Bool.eq_iff_iff]; simp; omega))
theorem s_ref01_Empty : SoundFun Try.prog 33 G_ref01_Empty := by
  refine fun_ok (tab := t_ref01_Empty) (ann := annOf []) (lt := l_ref01_Empty) tab_nil (by kernel_rfl) (fn := Try.f33) (by kernel_rfl) (by decide) (c := bodyOf Try.f33) (by kernel_rfl) (no_loops (by kernel_rfl)) ?_ (keep_nil (by kernel_rfl))
  intro args lent o y0'
  unfold G_ref01_Empty at y0'
  obtain ⟨q', args, rfl, y1'⟩ := pA_s y0'
  obtain ⟨a, b, c, d, q', rfl, y2'⟩ := t4_s y1'
  obtain ⟨rfl, y3'⟩ := tE_s y2'
  obtain ⟨rfl, y4'⟩ := pE_s y3'
  obtain ⟨rfl, y5'⟩ := nE_s y4'
  have yy' := y5'
  unfold H_ref01_Empty at yy'
  obtain ⟨hok, rfl⟩ := Prod.mk.inj (Option.some.inj yy')
  exact ⟨20, q_ref01_Empty _ _ _ _ hok⟩
theorem q_ref01_Valid (a b c d : Int) (hok : true = true) : funR Try.prog t_ref01_Valid (annOf []) l_ref01_Valid 20 Try.f32 [.agg [.int .i64 a, .int .i64 b, .int .i64 c, .int .i64 d]] [] = some ⟨.one (.bool (valid a b c d)), [], []⟩ := by
    refine (e_ref01_Valid ..).trans ?_
    simp only [ite2_dec, ite2_bool, mx_eq, mn_eq, valid]
    (repeat' split) <;> (try simp_all) <;> (try omega) <;> (try (rw [Bool.eq_iff_iff]; simp; omega))
theorem s_ref01_Valid : SoundFun Try.prog 32 G_ref01_Valid := by
  refine fun_ok (tab := t_ref01_Valid) (ann := annOf []) (lt := l_ref01_Valid) tab_nil (by kernel_rfl) (fn := Try.f32) (by kernel_rfl) (by decide) (c := bodyOf Try.f32) (by kernel_rfl) (no_loops (by kernel_rfl)) ?_ (keep_nil (by kernel_rfl))
  intro args lent o y0'
  unfold G_ref01_Valid at y0'
  obtain ⟨q', args, rfl, y1'⟩ := pA_s y0'
  obtain ⟨a, b, c, d, q', rfl, y2'⟩ := t4_s y1'
  obtain ⟨rfl, y3'⟩ := tE_s y2'
  obtain ⟨rfl, y4'⟩ := pE_s y3'
  obtain ⟨rfl, y5'⟩ := nE_s y4'
  have yy' := y5'
  unfold H_ref01_Valid at yy'
  obtain ⟨hok, rfl⟩ := Prod.mk.inj (Option.some.inj yy')
  exact ⟨20, q_ref01_Valid _ _ _ _ hok⟩
theorem q_ref01_Area (a b c d : Int) (hok : true = true) : funR Try.prog t_ref01_Area (annOf []) l_ref01_Area 20 Try.f44 [.agg [.int .i64 a, .int .i64 b, .int .i64 c, .int .i64 d]] [] = some ⟨.one (.int .i64 (area a b c d)), [], []⟩ := by
    refine (e_ref01_Area ..).trans ?_
    simp only [ite2_dec, ite2_bool, mx_eq, mn_eq, area]
    (repeat' split) <;> (try simp_all) <;> (try omega) <;> (try (rw [Bool.eq_iff_iff]; simp; omega))
theorem s_ref01_Area : SoundFun Try.prog 44 G_ref01_Area := by
  refine fun_ok (tab := t_ref01_Area) (ann := annOf []) (lt := l_ref01_Area) (tab_cons s_ref01_Valid tab_nil) (by kernel_rfl) (fn := Try.f44) (by kernel_rfl) (by decide) (c := bodyOf Try.f44) (by kernel_rfl) (no_loops (by kernel_rfl)) ?_ (keep_nil (by kernel_rfl))
  intro args lent o y0'
  unfold G_ref01_Area at y0'
  obtain ⟨q', args, rfl, y1'⟩ := pA_s y0'
  obtain ⟨a, b, c, d, q', rfl, y2'⟩ := t4_s y1'
  obtain ⟨rfl, y3'⟩ := tE_s y2'
  obtain ⟨rfl, y4'⟩ := pE_s y3'
  obtain ⟨rfl, y5'⟩ := nE_s y4'
  have yy' := y5'
  unfold H_ref01_Area at yy'
  obtain ⟨hok, rfl⟩ := Prod.mk.inj (Option.some.inj yy')
  exact ⟨20, q_ref01_Area _ _ _ _ hok⟩
theorem d_params_within_0 {α : Type} {vs : List V} {bl : List (Option Blk)} {K} {r : α} {Q : Prop} (y0' : D_params_within_0 vs bl K = some r) (hh' : ∀ (a : Int) (b : Int) (l : List Int) (n : Int) (i : Int), vs = [.one (.int .i64 a), .one (.int .i64 b), .one (.lst (.int .i64) l), .one (.int .i64 n), .one (.int .i64 i)] → bl = [] → K a b l n i = some r → Q) : Q := by
  unfold D_params_within_0 at y0'
  obtain ⟨a, vs, rfl, y1'⟩ := pI_s y0'
  obtain ⟨b, vs, rfl, y2'⟩ := pI_s y1'
  obtain ⟨c', vs, rfl, y3'⟩ := pO_s y2'
  obtain ⟨l, rfl, y4'⟩ := kLI_s y3'
  obtain ⟨n, vs, rfl, y5'⟩ := pI_s y4'
  obtain ⟨i, vs, rfl, y6'⟩ := pI_s y5'
  obtain ⟨rfl, y7'⟩ := pE_s y6'
  obtain ⟨rfl, y8'⟩ := bE_s y7'
  have yy' := y8'
  exact hh' _ _ _ _ _ rfl rfl yy'
theorem r_params_within_0 : RoundOk Try.prog t_params_within (annOf []) l_params_within Out 20 0 24 [0, 1, 9, 10, 11] (kxOf [] [6]) (loopOf Try.f47 0) T_params_within_0 := by
  intro vs bl Kc r h
  unfold T_params_within_0 at h
  obtain ⟨t, y0', h'⟩ := getD_run h
  refine d_params_within_0 y0' fun a b l n i u1' u2' yy' => ?_
  subst u1' u2'
  cases yy'
  exact (b_params_within_0 ..).trans h'
theorem o_params_within : loopsOf (bodyOf Try.f47) = [loopOf Try.f47 0] := by kernel_rfl
theorem zz_params_within_0 (a b : Int) (l : List Int) (hsm : small (l.length) = true) (hc : true = true) : ZZ (c_params_within_0 a b l) T_params_within_0 [.one (.int .i64 a), .one (.int .i64 b), .one (.lst (.int .i64) l), .one (.int .i64 (l.length : Int)), .one (.int .i64 0)] [] := by
  refine z_list (st := fun i => ([.one (.int .i64 a), .one (.int .i64 b), .one (.lst (.int .i64) l), .one (.int .i64 (l.length : Int)), .one (.int .i64 ((i : Nat) : Int))], [])) l 0 (inr a b) _ _ (fun i hi F K => ?_) (fun F K => ?_)
  · have hi' : (i : Int) < (l.length : Int) := by omega
    simp only [tu_params_within_0, U_params_within_0, LT.next, LT.run, ite2_dec, ite2_bool, wrap_next hi hsm, Int.toNat_natCast, hi', Int.natCast_nonneg, and_self, if_true, gI, gP, gC, gR, inr, Bool.and_eq_true, decide_eq_true_eq]
    (repeat' split) <;> simp_all <;> omega
  · simp only [tu_params_within_0, U_params_within_0, LT.next, LT.run, ite2_dec, Int.lt_irrefl, if_false]
    try rfl
theorem z_params_within_0 : ZOk S_params_within_0 T_params_within_0 := by
  intro vs bl t y0'
  refine d_params_within_0 y0' fun a b l n i u1' u2' yy' => ?_
  subst u1' u2'
  obtain ⟨hk, rfl⟩ := Prod.mk.inj (Option.some.inj yy')
  unfold k_params_within_0 at hk
  simp only [Bool.and_eq_true, decide_eq_true_eq, and_assoc] at hk
  obtain ⟨rfl, rfl, hsm, hc⟩ := hk
  exact zz_params_within_0 _ _ _ hsm (by first | exact hc | simpa using hc)
theorem q_params_within (a b : Int) (l : List Int) (hok : small l.length = true) : funR Try.prog t_params_within (annOf []) l_params_within 20 Try.f47 [.one (.int .i64 a), .one (.int .i64 b), .one (.lst (.int .i64) l)] [] = some ⟨.one (.bool (within a b l)), [], []⟩ := by
    refine (e_params_within ..).trans ?_
    simp [ite2_bool, k_params_within_0, p_params_within_0, within, hok]
    (repeat' split) <;> simp_all
theorem s_params_within : SoundFun Try.prog 47 G_params_within := by
  refine fun_ok (tab := t_params_within) (ann := annOf []) (lt := l_params_within) tab_nil (by kernel_rfl) (fn := Try.f47) (by kernel_rfl) (by decide) (c := bodyOf Try.f47) (by kernel_rfl) (by
    intro m b hb
    have hb' : b ∈ loopsOf (bodyOf Try.f47) := hb
    rw [o_params_within] at hb'
    simp only [List.mem_cons, List.not_mem_nil, or_false] at hb'
    rcases hb' with rfl
    · exact loop_ok (key := 2) (by kernel_rfl) rfl r_params_within_0 z_params_within_0 m
    ) ?_ (keep_nil (by kernel_rfl))
  intro args lent o y0'
  unfold G_params_within at y0'
  obtain ⟨a, args, rfl, y1'⟩ := pI_s y0'
  obtain ⟨b, args, rfl, y2'⟩ := pI_s y1'
  obtain ⟨c', args, rfl, y3'⟩ := pO_s y2'
  obtain ⟨l, rfl, y4'⟩ := kLI_s y3'
  obtain ⟨rfl, y5'⟩ := pE_s y4'
  obtain ⟨rfl, y6'⟩ := nE_s y5'
  have yy' := y6'
  unfold H_params_within at yy'
  obtain ⟨hok, rfl⟩ := Prod.mk.inj (Option.some.inj yy')
  exact ⟨20, q_params_within _ _ _ hok⟩
theorem q_params_Precinct (p : Pm) (r : Int) (hok : true = true) : funR Try.prog t_params_Precinct (annOf []) l_params_Precinct 20 Try.f76 [.agg (pmC p), .one (.int .i64 r)] [] = some ⟨.agg [.int .i64 ((prec p r).1), .int .i64 ((prec p r).2)], [], []⟩ := by
    refine (e_params_Precinct ..).trans ?_
    simp only [ite2_dec, ite2_bool, mx_eq, mn_eq, prec]
    (repeat' split) <;> (try simp_all) <;> (try omega) <;> (try (rw [Bool.eq_iff_iff]; simp; omega))
theorem s_params_Precinct : SoundFun Try.prog 76 G_params_Precinct := by
  refine fun_ok (tab := t_params_Precinct) (ann := annOf []) (lt := l_params_Precinct) tab_nil (by kernel_rfl) (fn := Try.f76) (by kernel_rfl) (by decide) (c := bodyOf Try.f76) (by kernel_rfl) (no_loops (by kernel_rfl)) ?_ (keep_nil (by kernel_rfl))
  intro args lent o y0'
  unfold G_params_Precinct at y0'
  obtain ⟨q', args, rfl, y1'⟩ := pA_s y0'
  obtain ⟨p, rfl, y2'⟩ := rdPm_s y1'
  obtain ⟨r, args, rfl, y3'⟩ := pI_s y2'
  obtain ⟨rfl, y4'⟩ := pE_s y3'
  obtain ⟨rfl, y5'⟩ := nE_s y4'
  have yy' := y5'
  unfold H_params_Precinct at yy'
  obtain ⟨hok, rfl⟩ := Prod.mk.inj (Option.some.inj yy')
  exact ⟨20, q_params_Precinct _ _ hok⟩


theorem d_params_Header_0 {α : Type} {vs : List V} {bl : List (Option Blk)} {K} {r : α} {Q : Prop} (y0' : D_params_Header_0 vs bl K = some r) (hh' : ∀ (h : Hd) (l : List (Int × Bool × Int × Int)) (n : Int) (i : Int), vs = [.one (.ptr 0 0), .one (.lst (.pair (.int .i64) (.pair .bool (.pair (.int .i64) (.int .i64)))) l), .one (.int .i64 n), .one (.int .i64 i)] → bl = [some (.box (hdC h))] → K h l n i = some r → Q) : Q := by
  unfold D_params_Header_0 at y0'
  obtain ⟨vs, rfl, y1'⟩ := pP_s y0'
  obtain ⟨c', vs, rfl, y2'⟩ := pO_s y1'
  obtain ⟨l, rfl, y3'⟩ := kLC_s y2'
  obtain ⟨n, vs, rfl, y4'⟩ := pI_s y3'
  obtain ⟨i, vs, rfl, y5'⟩ := pI_s y4'
  obtain ⟨rfl, y6'⟩ := pE_s y5'
  obtain ⟨q', bl, rfl, y7'⟩ := bB_s y6'
  obtain ⟨h, rfl, y8'⟩ := rdHd_s y7'
  obtain ⟨rfl, y9'⟩ := bE_s y8'
  have yy' := y9'
  exact hh' _ _ _ _ rfl rfl yy'
theorem r_params_Header_0 : RoundOk Try.prog t_params_Header (annOf []) l_params_Header Out 20 0 114 [1, 36, 37, 38] (kxOf [1] [2]) (loopOf Try.f46 0) T_params_Header_0 := by
  intro vs bl Kc r h
  unfold T_params_Header_0 at h
  obtain ⟨t, y0', h'⟩ := getD_run h
  refine d_params_Header_0 y0' fun h l n i u1' u2' yy' => ?_
  subst u1' u2'
  cases yy'
  exact (b_params_Header_0 ..).trans h'
theorem d_params_Header_1 {α : Type} {vs : List V} {bl : List (Option Blk)} {K} {r : α} {Q : Prop} (y0' : D_params_Header_1 vs bl K = some r) (hh' : ∀ (h : Hd) (l : List (Int × Bool × Int × Int)) (n : Int) (i : Int), vs = [.one (.ptr 0 0), .one (.lst (.pair (.int .i64) (.pair .bool (.pair (.int .i64) (.int .i64)))) l), .one (.int .i64 n), .one (.int .i64 i)] → bl = [some (.box (hdC h))] → K h l n i = some r → Q) : Q := by
  unfold D_params_Header_1 at y0'
  obtain ⟨vs, rfl, y1'⟩ := pP_s y0'
  obtain ⟨c', vs, rfl, y2'⟩ := pO_s y1'
  obtain ⟨l, rfl, y3'⟩ := kLC_s y2'
  obtain ⟨n, vs, rfl, y4'⟩ := pI_s y3'
  obtain ⟨i, vs, rfl, y5'⟩ := pI_s y4'
  obtain ⟨rfl, y6'⟩ := pE_s y5'
  obtain ⟨q', bl, rfl, y7'⟩ := bB_s y6'
  obtain ⟨h, rfl, y8'⟩ := rdHd_s y7'
  obtain ⟨rfl, y9'⟩ := bE_s y8'
  have yy' := y9'
  exact hh' _ _ _ _ rfl rfl yy'
theorem r_params_Header_1 : RoundOk Try.prog t_params_Header (annOf []) l_params_Header Out 20 0 114 [1, 98, 99, 100] (kxOf [] [2]) (loopOf Try.f46 1) T_params_Header_1 := by
  intro vs bl Kc r h
  unfold T_params_Header_1 at h
  obtain ⟨t, y0', h'⟩ := getD_run h
  refine d_params_Header_1 y0' fun h l n i u1' u2' yy' => ?_
  subst u1' u2'
  cases yy'
  exact (b_params_Header_1 ..).trans h'
theorem o_params_Header : loopsOf (bodyOf Try.f46) = [loopOf Try.f46 0, loopOf Try.f46 1] := by kernel_rfl
theorem zz_params_Header_0 (h : Hd) (l : List (Int × Bool × Int × Int)) (hsm : small (l.length) = true) (hc : true = true) : ZZ (c_params_Header_0 h l) T_params_Header_0 [.one (.ptr 0 0), .one (.lst (.pair (.int .i64) (.pair .bool (.pair (.int .i64) (.int .i64)))) l), .one (.int .i64 (l.length : Int)), .one (.int .i64 0)] [some (.box (hdC h))] := by
  refine z_list (st := fun i => ([.one (.ptr 0 0), .one (.lst (.pair (.int .i64) (.pair .bool (.pair (.int .i64) (.int .i64)))) l), .one (.int .i64 (l.length : Int)), .one (.int .i64 ((i : Nat) : Int))], [some (.box (hdC h))])) l (0, false, 0, 0) (okC h) _ _ (fun i hi F K => ?_) (fun F K => ?_)
  · have hi' : (i : Int) < (l.length : Int) := by omega
    simp only [tu_params_Header_0, U_params_Header_0, LT.next, LT.run, ite2_dec, ite2_bool, wrap_next hi hsm, Int.toNat_natCast, hi', Int.natCast_nonneg, and_self, if_true, gI, gP, gC, gR]
    simp only [okC, redH, emptyR, within, List.all_cons, List.all_nil, Bool.and_true]
    simp [hdC]
    grind
  · simp only [tu_params_Header_0, U_params_Header_0, LT.next, LT.run, ite2_dec, Int.lt_irrefl, if_false]
    try rfl
theorem z_params_Header_0 : ZOk S_params_Header_0 T_params_Header_0 := by
  intro vs bl t y0'
  refine d_params_Header_0 y0' fun h l n i u1' u2' yy' => ?_
  subst u1' u2'
  obtain ⟨hk, rfl⟩ := Prod.mk.inj (Option.some.inj yy')
  unfold k_params_Header_0 at hk
  simp only [Bool.and_eq_true, decide_eq_true_eq, and_assoc] at hk
  obtain ⟨rfl, rfl, hsm, hc⟩ := hk
  exact zz_params_Header_0 _ _ hsm (by first | exact hc | simpa using hc)
theorem zz_params_Header_1 (h : Hd) (l : List (Int × Bool × Int × Int)) (hsm : small (l.length) = true) (hc : true = true) : ZZ (c_params_Header_1 h l) T_params_Header_1 [.one (.ptr 0 0), .one (.lst (.pair (.int .i64) (.pair .bool (.pair (.int .i64) (.int .i64)))) l), .one (.int .i64 (l.length : Int)), .one (.int .i64 0)] [some (.box (hdC h))] := by
  refine z_list (st := fun i => ([.one (.ptr 0 0), .one (.lst (.pair (.int .i64) (.pair .bool (.pair (.int .i64) (.int .i64)))) l), .one (.int .i64 (l.length : Int)), .one (.int .i64 ((i : Nat) : Int))], [some (.box (hdC h))])) l (0, false, 0, 0) (smC h) _ _ (fun i hi F K => ?_) (fun F K => ?_)
  · have hi' : (i : Int) < (l.length : Int) := by omega
    simp only [tu_params_Header_1, U_params_Header_1, LT.next, LT.run, ite2_dec, ite2_bool, wrap_next hi hsm, Int.toNat_natCast, hi', Int.natCast_nonneg, and_self, if_true, gI, gP, gC, gR]
    simp only [smC, redH, areaR]
    (repeat' split) <;> simp_all [hdC] <;> omega
  · simp only [tu_params_Header_1, U_params_Header_1, LT.next, LT.run, ite2_dec, Int.lt_irrefl, if_false]
    try rfl
theorem z_params_Header_1 : ZOk S_params_Header_1 T_params_Header_1 := by
  intro vs bl t y0'
  refine d_params_Header_1 y0' fun h l n i u1' u2' yy' => ?_
  subst u1' u2'
  obtain ⟨hk, rfl⟩ := Prod.mk.inj (Option.some.inj yy')
  unfold k_params_Header_1 at hk
  simp only [Bool.and_eq_true, decide_eq_true_eq, and_assoc] at hk
  obtain ⟨rfl, rfl, hsm, hc⟩ := hk
  exact zz_params_Header_1 _ _ hsm (by first | exact hc | simpa using hc)
theorem q_params_Header (h : Hd) (hok : small h.cs.length = true) : funR Try.prog t_params_Header (annOf []) l_params_Header 20 Try.f46 [.agg (hdC h)] [] = some ⟨.one (.int .i64 (header h)), [], []⟩ := by
    refine (e_params_Header ..).trans ?_
    simp only [ite2_bool, k_params_Header_0, p_params_Header_0, k_params_Header_1, p_params_Header_1, header, tiles, w, within, List.all_cons, List.all_nil, Bool.and_true]
    grind
theorem s_params_Header : SoundFun Try.prog 46 G_params_Header := by
  refine fun_ok (tab := t_params_Header) (ann := annOf []) (lt := l_params_Header) (tab_cons s_rect_Valid (tab_cons s_rect_Empty (tab_cons s_rect_Area (tab_cons s_params_within (tab_cons s_rect_Reduce (tab_cons s_rect_CeilDiv (tab_cons s_rect_FloorDiv tab_nil))))))) (by kernel_rfl) (fn := Try.f46) (by kernel_rfl) (by decide) (c := bodyOf Try.f46) (by kernel_rfl) (by
    intro m b hb
    have hb' : b ∈ loopsOf (bodyOf Try.f46) := hb
    rw [o_params_Header] at hb'
    simp only [List.mem_cons, List.not_mem_nil, or_false] at hb'
    rcases hb' with rfl | rfl
    · exact loop_ok (key := 4) (by kernel_rfl) rfl r_params_Header_0 z_params_Header_0 m
    · exact loop_ok (key := 14) (by kernel_rfl) rfl r_params_Header_1 z_params_Header_1 m
    ) ?_ (keep_nil (by kernel_rfl))
  intro args lent o y0'
  unfold G_params_Header at y0'
  obtain ⟨q', args, rfl, y1'⟩ := pA_s y0'
  obtain ⟨h, rfl, y2'⟩ := rdHd_s y1'
  obtain ⟨rfl, y3'⟩ := pE_s y2'
  obtain ⟨rfl, y4'⟩ := nE_s y3'
  have yy' := y4'
  unfold H_params_Header at yy'
  obtain ⟨hok, rfl⟩ := Prod.mk.inj (Option.some.inj yy')
  exact ⟨20, q_params_Header _ hok⟩
theorem d_params_numbers_0 {α : Type} {vs : List V} {bl : List (Option Blk)} {K} {r : α} {Q : Prop} (y0' : D_params_numbers_0 vs bl K = some r) (hh' : ∀ (h : Hd) (p : Pm) (l : List (Int × Int)) (n : Int) (i : Int), vs = [.one (.ptr 0 0), .one (.ptr 1 0), .one (.lst (.pair (.int .i64) (.int .i64)) l), .one (.int .i64 n), .one (.int .i64 i)] → bl = [some (.box (hdC h)), some (.box (pmC p))] → K h p l n i = some r → Q) : Q := by
  unfold D_params_numbers_0 at y0'
  obtain ⟨vs, rfl, y1'⟩ := pP_s y0'
  obtain ⟨vs, rfl, y2'⟩ := pP_s y1'
  obtain ⟨c', vs, rfl, y3'⟩ := pO_s y2'
  obtain ⟨l, rfl, y4'⟩ := kLP_s y3'
  obtain ⟨n, vs, rfl, y5'⟩ := pI_s y4'
  obtain ⟨i, vs, rfl, y6'⟩ := pI_s y5'
  obtain ⟨rfl, y7'⟩ := pE_s y6'
  obtain ⟨q', bl, rfl, y8'⟩ := bB_s y7'
  obtain ⟨h, rfl, y9'⟩ := rdHd_s y8'
  obtain ⟨q', bl, rfl, y10'⟩ := bB_s y9'
  obtain ⟨p, rfl, y11'⟩ := rdPm_s y10'
  obtain ⟨rfl, y12'⟩ := bE_s y11'
  have yy' := y12'
  exact hh' _ _ _ _ _ rfl rfl yy'
theorem r_params_numbers_0 : RoundOk Try.prog t_params_numbers (annOf []) l_params_numbers Out 20 0 114 [2, 3, 36, 37, 38] (kxOf [2, 3] [4]) (loopOf Try.f48 0) T_params_numbers_0 := by
  intro vs bl Kc r h
  unfold T_params_numbers_0 at h
  obtain ⟨t, y0', h'⟩ := getD_run h
  refine d_params_numbers_0 y0' fun h p l n i u1' u2' yy' => ?_
  subst u1' u2'
  cases yy'
  exact (b_params_numbers_0 ..).trans h'
theorem o_params_numbers : loopsOf (bodyOf Try.f48) = [loopOf Try.f48 0] := by kernel_rfl
theorem zz_params_numbers_0 (h : Hd) (p : Pm) (l : List (Int × Int)) (hsm : small (l.length) = true) (hc : decide (l = p.pr) = true) : ZZ (c_params_numbers_0 h p l) T_params_numbers_0 [.one (.ptr 0 0), .one (.ptr 1 0), .one (.lst (.pair (.int .i64) (.int .i64)) l), .one (.int .i64 (l.length : Int)), .one (.int .i64 0)] [some (.box (hdC h)), some (.box (pmC p))] := by
  refine z_idx (st := fun i => ([.one (.ptr 0 0), .one (.ptr 1 0), .one (.lst (.pair (.int .i64) (.int .i64)) l), .one (.int .i64 (l.length : Int)), .one (.int .i64 ((i : Nat) : Int))], [some (.box (hdC h)), some (.box (pmC p))])) (l.length) (prq p) _ _ (fun i hi F K => ?_) (fun F K => ?_)
  · have hi' : (i : Int) < (l.length : Int) := by omega
    have hc' := hc
    simp only [Bool.and_eq_true, decide_eq_true_eq] at hc'
    simp only [tu_params_numbers_0, U_params_numbers_0, LT.next, LT.run, ite2_dec, ite2_bool, wrap_next hi hsm, Int.toNat_natCast, hi', Int.natCast_nonneg, and_self, if_true, gI, gP, gC, gR]
    subst hc'
    simp [hdC, pmC, prq, pmin, within, gP]
    grind
  · simp only [tu_params_numbers_0, U_params_numbers_0, LT.next, LT.run, ite2_dec, Int.lt_irrefl, if_false]
    try rfl
theorem z_params_numbers_0 : ZOk S_params_numbers_0 T_params_numbers_0 := by
  intro vs bl t y0'
  refine d_params_numbers_0 y0' fun h p l n i u1' u2' yy' => ?_
  subst u1' u2'
  obtain ⟨hk, rfl⟩ := Prod.mk.inj (Option.some.inj yy')
  unfold k_params_numbers_0 at hk
  simp only [Bool.and_eq_true, decide_eq_true_eq, and_assoc] at hk
  obtain ⟨rfl, rfl, hsm, hc⟩ := hk
  exact zz_params_numbers_0 _ _ _ hsm (by first | exact hc | simpa using hc)
theorem q_params_numbers (h : Hd) (p : Pm) (hok : (small p.pr.length && small p.st.length) = true) : funR Try.prog t_params_numbers (annOf []) l_params_numbers 20 Try.f48 [.agg (hdC h), .agg (pmC p)] [] = some ⟨.one (.bool (nums p && colors h p)), [], []⟩ := by
    refine (e_params_numbers ..).trans ?_
    simp only [Bool.and_eq_true] at hok
    simp only [ite2_bool, nums, colors, precs, within, List.all_cons, List.all_nil, Bool.and_true, k_params_numbers_0, p_params_numbers_0]
    by_cases hle : inr 0 5 p.le = true
    · have hle' := hle
      simp only [inr, Bool.and_eq_true, decide_eq_true_eq] at hle'
      rw [wrap_in (n := p.le + 1) (by omega) (by omega), wrap_in (n := 3 * p.le) (by omega) (by omega), wrap_in (n := 3 * p.le + 1) (by omega) (by omega)]
      simp only [Prod.ext_iff]
      generalize p.st.all (inr 1 65536) = x
      generalize (List.range p.pr.length).all (prq p) = y
      simp only [hok, hle]
      cases c1 : inr 2 6 p.bx
      · simp
      cases c2 : inr 2 6 p.bw
      · simp
      cases c3 : inr 1 16 p.la
      · simp
      cases c4 : inr 8 32 p.de
      · simp
      cases c5 : inr 0 30 p.sf
      · simp
      cases x
      · simp
      cases y
      · simp
      by_cases c6 : (p.st.length : Int) = 3 * p.le + 1
      rotate_left
      · simp [c6]
      by_cases c7 : p.pr.length = 0
      · simp [c6, c7]
        by_cases c8 : p.co = 0
        · simp [c8]
        by_cases c9 : 3 ≤ h.cs.length
        · have a1 : (3 : Int) ≤ h.cs.length := by omega
          have a2 : (0 : Int) < h.cs.length := by omega
          have a3 : (1 : Int) < h.cs.length := by omega
          have a4 : (2 : Int) < h.cs.length := by omega
          simp [c8, c9, a1, a2, a3, a4]
          grind
        · have a1 : ¬ (3 : Int) ≤ h.cs.length := by omega
          simp [c8, c9, a1]
      · by_cases c8 : (p.pr.length : Int) = p.le + 1
        rotate_left
        · simp [c6, c7, c8]
        have c7' : p.pr ≠ [] := fun e => c7 (by rw [e]; rfl)
        simp [c6, c7, c7', c8]
        by_cases c9 : p.co = 0
        · simp [c9]
        by_cases c10 : 3 ≤ h.cs.length
        · have a1 : (3 : Int) ≤ h.cs.length := by omega
          have a2 : (0 : Int) < h.cs.length := by omega
          have a3 : (1 : Int) < h.cs.length := by omega
          have a4 : (2 : Int) < h.cs.length := by omega
          simp [c9, c10, a1, a2, a3, a4]
          grind
        · have a1 : ¬ (3 : Int) ≤ h.cs.length := by omega
          simp [c9, c10, a1]
    · simp [hle]
theorem s_params_numbers : SoundFun Try.prog 48 G_params_numbers := by
  refine fun_ok (tab := t_params_numbers) (ann := annOf []) (lt := l_params_numbers) (tab_cons s_params_within tab_nil) (by kernel_rfl) (fn := Try.f48) (by kernel_rfl) (by decide) (c := bodyOf Try.f48) (by kernel_rfl) (by
    intro m b hb
    have hb' : b ∈ loopsOf (bodyOf Try.f48) := hb
    rw [o_params_numbers] at hb'
    simp only [List.mem_cons, List.not_mem_nil, or_false] at hb'
    rcases hb' with rfl
    · exact loop_ok (key := 6) (by kernel_rfl) rfl r_params_numbers_0 z_params_numbers_0 m
    ) ?_ (keep_nil (by kernel_rfl))
  intro args lent o y0'
  unfold G_params_numbers at y0'
  obtain ⟨q', args, rfl, y1'⟩ := pA_s y0'
  obtain ⟨h, rfl, y2'⟩ := rdHd_s y1'
  obtain ⟨q', args, rfl, y3'⟩ := pA_s y2'
  obtain ⟨p, rfl, y4'⟩ := rdPm_s y3'
  obtain ⟨rfl, y5'⟩ := pE_s y4'
  obtain ⟨rfl, y6'⟩ := nE_s y5'
  have yy' := y6'
  unfold H_params_numbers at yy'
  obtain ⟨hok, rfl⟩ := Prod.mk.inj (Option.some.inj yy')
  exact ⟨20, q_params_numbers _ _ hok⟩
theorem wrapu_in {n : Int} (h0 : 0 ≤ n) (h1 : n < 18446744073709551616) : IntKind.wrap .u64 n = n := by
  simp [IntKind.wrap, IntKind.bits, IntKind.signed]; omega
theorem shl_pw0 : ∀ m : Nat, m < 13 → IntKind.wrap .i64 (1 * 2 ^ min m 64) = 2 ^ m := by decide
theorem shl_pw {k : Int} (h0 : 0 ≤ k) (h1 : k ≤ 12) : IntKind.wrap .i64 (1 * 2 ^ min k.toNat 64) = pw k := shl_pw0 _ (by omega)
theorem pl_b {i n : Int} (h : plOk i n = true) : 0 ≤ n ∧ n ≤ 5 ∧ 0 ≤ i ∧ i ≤ 3 * n := by
  unfold plOk count inr at h
  simp only [Bool.and_eq_true, decide_eq_true_eq] at h
  split at h <;> omega
theorem pl_d {i n : Int} (h : plOk i n = true) (hi : i ≠ 0) : 1 ≤ plLv i n ∧ plLv i n ≤ n ∧ 1 ≤ plOr i n ∧ plOr i n ≤ 3 := by
  have := pl_b h
  simp only [plLv, plOr, h, hi, if_true, if_false]
  omega
theorem valid_b {a b c d : Int} (h : valid a b c d = true) : 0 ≤ a ∧ a ≤ c ∧ c ≤ 4096 ∧ 0 ≤ b ∧ b ≤ d ∧ d ≤ 4096 := by
  simp only [valid, Bool.and_eq_true, decide_eq_true_eq, and_assoc] at h
  exact h
theorem inr_b {a b x : Int} (h : inr a b x = true) : a ≤ x ∧ x ≤ b := by
  simpa only [inr, Bool.and_eq_true, decide_eq_true_eq] using h
theorem inr_t {a b x : Int} (h : a ≤ x) (h' : x ≤ b) : inr a b x = true := by
  simp only [inr, Bool.and_eq_true, decide_eq_true_eq]; exact ⟨h, h'⟩
theorem q_pyr_validLevels (n : Int) (hok : true = true) : funR Try.prog t_pyr_validLevels (annOf []) l_pyr_validLevels 20 Try.f52 [.one (.int .i64 n)] [] = some ⟨.one (.bool (inr 0 5 n)), [], []⟩ := by
    refine (e_pyr_validLevels ..).trans ?_
    simp only [ite2_dec, ite2_bool, mx_eq, mn_eq, inr]
    (repeat' split) <;> (try simp_all) <;> (try omega) <;> (try (rw [Bool.eq_iff_iff]; simp; omega))
theorem s_pyr_validLevels : SoundFun Try.prog 52 G_pyr_validLevels := by
  refine fun_ok (tab := t_pyr_validLevels) (ann := annOf []) (lt := l_pyr_validLevels) tab_nil (by kernel_rfl) (fn := Try.f52) (by kernel_rfl) (by decide) (c := bodyOf Try.f52) (by kernel_rfl) (no_loops (by kernel_rfl)) ?_ (keep_nil (by kernel_rfl))
  intro args lent o y0'
  unfold G_pyr_validLevels at y0'
  obtain ⟨n, args, rfl, y1'⟩ := pI_s y0'
  obtain ⟨rfl, y2'⟩ := pE_s y1'
  obtain ⟨rfl, y3'⟩ := nE_s y2'
  have yy' := y3'
  unfold H_pyr_validLevels at yy'
  obtain ⟨hok, rfl⟩ := Prod.mk.inj (Option.some.inj yy')
  exact ⟨20, q_pyr_validLevels _ hok⟩
theorem q_pyr_Count (n : Int) (hok : true = true) : funR Try.prog t_pyr_Count (annOf []) l_pyr_Count 20 Try.f25 [.one (.int .i64 n)] [] = some ⟨.one (.int .i64 (count n)), [], []⟩ := by
    refine (e_pyr_Count ..).trans ?_
    simp only [ite2_bool, decide_eq_true_eq, count]
    by_cases h : inr 0 5 n = true
    · have := inr_b h
      simp (disch := omega) only [wrap_in, wrapu_in, Int.tdiv_eq_ediv_of_nonneg]
      simp only [h, Bool.not_true, if_true, Bool.false_eq_true, if_false]
    · simp [h]
theorem s_pyr_Count : SoundFun Try.prog 25 G_pyr_Count := by
  refine fun_ok (tab := t_pyr_Count) (ann := annOf []) (lt := l_pyr_Count) (tab_cons s_pyr_validLevels tab_nil) (by kernel_rfl) (fn := Try.f25) (by kernel_rfl) (by decide) (c := bodyOf Try.f25) (by kernel_rfl) (no_loops (by kernel_rfl)) ?_ (keep_nil (by kernel_rfl))
  intro args lent o y0'
  unfold G_pyr_Count at y0'
  obtain ⟨n, args, rfl, y1'⟩ := pI_s y0'
  obtain ⟨rfl, y2'⟩ := pE_s y1'
  obtain ⟨rfl, y3'⟩ := nE_s y2'
  have yy' := y3'
  unfold H_pyr_Count at yy'
  obtain ⟨hok, rfl⟩ := Prod.mk.inj (Option.some.inj yy')
  exact ⟨20, q_pyr_Count _ hok⟩
theorem q_pyr_Place (i n : Int) (hok : true = true) : funR Try.prog t_pyr_Place (annOf []) l_pyr_Place 20 Try.f53 [.one (.int .i64 i), .one (.int .i64 n)] [] = some ⟨.tup [(false, [.int .i64 (plLv i n)]), (false, [.int .i64 (plOr i n)]), (false, [.bool (plOk i n)])], [], []⟩ := by
    refine (e_pyr_Place ..).trans ?_
    simp only [ite2_bool, decide_eq_true_eq]
    cases h : plOk i n
    · have : i < 0 ∨ i ≥ count n := by simp [plOk] at h; omega
      rcases this with h1 | h1 <;> simp [plLv, plOr, h, h1]
    · have hb := pl_b h
      have hc : i < count n := by simp only [plOk, Bool.and_eq_true, decide_eq_true_eq] at h; exact h.2
      simp (disch := omega) only [wrap_in, wrapu_in, Int.tdiv_eq_ediv_of_nonneg]
      rw [if_neg (by omega), if_neg (by omega)]
      simp only [plLv, plOr, h, beq_iff_eq, if_true]
      split <;> simp [*]
theorem s_pyr_Place : SoundFun Try.prog 53 G_pyr_Place := by
  refine fun_ok (tab := t_pyr_Place) (ann := annOf []) (lt := l_pyr_Place) (tab_cons s_pyr_Count tab_nil) (by kernel_rfl) (fn := Try.f53) (by kernel_rfl) (by decide) (c := bodyOf Try.f53) (by kernel_rfl) (no_loops (by kernel_rfl)) ?_ (keep_nil (by kernel_rfl))
  intro args lent o y0'
  unfold G_pyr_Place at y0'
  obtain ⟨i, args, rfl, y1'⟩ := pI_s y0'
  obtain ⟨n, args, rfl, y2'⟩ := pI_s y1'
  obtain ⟨rfl, y3'⟩ := pE_s y2'
  obtain ⟨rfl, y4'⟩ := nE_s y3'
  have yy' := y4'
  unfold H_pyr_Place at yy'
  obtain ⟨hok, rfl⟩ := Prod.mk.inj (Option.some.inj yy')
  exact ⟨20, q_pyr_Place _ _ hok⟩
theorem q_pyr_Indices (n r : Int) (hok : true = true) : funR Try.prog t_pyr_Indices (annOf []) l_pyr_Indices 20 Try.f78 [.one (.int .i64 n), .one (.int .i64 r)] [] = some ⟨.one (.row 0), [], [.arr 3 (.int .i64) (idxs n r)]⟩ := by
    refine (e_pyr_Indices ..).trans ?_
    simp only [ite2_bool, decide_eq_true_eq, idxs]
    cases h : inr 0 5 n
    · simp
    · have hb := inr_b h
      cases h1 : inr 0 n r
      · have : r < 0 ∨ r > n := by simp [inr] at h1; omega
        rcases this with h2 | h2 <;> simp [h2]
      · have hc := inr_b h1
        simp (disch := omega) only [wrap_in, wrapu_in, Int.tdiv_eq_ediv_of_nonneg]
        rw [if_neg (by decide), if_neg (by omega), if_neg (by omega)]
        simp only [beq_iff_eq, Bool.and_self, if_true]
        split <;> simp [*]
theorem s_pyr_Indices : SoundFun Try.prog 78 G_pyr_Indices := by
  refine fun_ok (tab := t_pyr_Indices) (ann := annOf []) (lt := l_pyr_Indices) (tab_cons s_pyr_validLevels tab_nil) (by kernel_rfl) (fn := Try.f78) (by kernel_rfl) (by decide) (c := bodyOf Try.f78) (by kernel_rfl) (no_loops (by kernel_rfl)) ?_ (keep_nil (by kernel_rfl))
  intro args lent o y0'
  unfold G_pyr_Indices at y0'
  obtain ⟨n, args, rfl, y1'⟩ := pI_s y0'
  obtain ⟨r, args, rfl, y2'⟩ := pI_s y1'
  obtain ⟨rfl, y3'⟩ := pE_s y2'
  obtain ⟨rfl, y4'⟩ := nE_s y3'
  have yy' := y4'
  unfold H_pyr_Indices at yy'
  obtain ⟨hok, rfl⟩ := Prod.mk.inj (Option.some.inj yy')
  exact ⟨20, q_pyr_Indices _ _ hok⟩
theorem q_pyr_Resolution (a b c d n r : Int) (hok : true = true) : funR Try.prog t_pyr_Resolution (annOf []) l_pyr_Resolution 20 Try.f54 [.agg [.int .i64 a, .int .i64 b, .int .i64 c, .int .i64 d], .one (.int .i64 n), .one (.int .i64 r)] [] = some ⟨.agg [.int .i64 ((resR a b c d n r).1), .int .i64 ((resR a b c d n r).2.1), .int .i64 ((resR a b c d n r).2.2.1), .int .i64 ((resR a b c d n r).2.2.2)], [], []⟩ := by
    refine (e_pyr_Resolution ..).trans ?_
    simp only [ite2_bool, decide_eq_true_eq, resR]
    cases h : inr 0 5 n
    · simp
    · have hb := inr_b h
      cases h1 : inr 0 n r
      · have : r < 0 ∨ r > n := by simp [inr] at h1; omega
        rcases this with h2 | h2 <;> simp [h2]
      · have hc := inr_b h1
        rw [if_neg (by decide), if_neg (by omega), if_neg (by omega), wrap_in (n := n - r) (by omega) (by omega), wrapu_in (n := n - r) (by omega) (by omega), shl_pw (by omega) (by omega), if_pos (by omega)]
        simp
theorem s_pyr_Resolution : SoundFun Try.prog 54 G_pyr_Resolution := by
  refine fun_ok (tab := t_pyr_Resolution) (ann := annOf []) (lt := l_pyr_Resolution) (tab_cons s_rect_Reduce (tab_cons s_pyr_validLevels tab_nil)) (by kernel_rfl) (fn := Try.f54) (by kernel_rfl) (by decide) (c := bodyOf Try.f54) (by kernel_rfl) (no_loops (by kernel_rfl)) ?_ (keep_nil (by kernel_rfl))
  intro args lent o y0'
  unfold G_pyr_Resolution at y0'
  obtain ⟨q', args, rfl, y1'⟩ := pA_s y0'
  obtain ⟨a, b, c, d, q', rfl, y2'⟩ := t4_s y1'
  obtain ⟨rfl, y3'⟩ := tE_s y2'
  obtain ⟨n, args, rfl, y4'⟩ := pI_s y3'
  obtain ⟨r, args, rfl, y5'⟩ := pI_s y4'
  obtain ⟨rfl, y6'⟩ := pE_s y5'
  obtain ⟨rfl, y7'⟩ := nE_s y6'
  have yy' := y7'
  unfold H_pyr_Resolution at yy'
  obtain ⟨hok, rfl⟩ := Prod.mk.inj (Option.some.inj yy')
  exact ⟨20, q_pyr_Resolution _ _ _ _ _ _ hok⟩
theorem o_dwt_Bands : loopsOf (bodyOf Try.f55) = [loopOf Try.f55 0] := by kernel_rfl
theorem q_dwt_Bands (a b c d : Int) (hok : true = true) : funR Try.prog t_dwt_Bands (annOf []) l_dwt_Bands 20 Try.f55 [.agg [.int .i64 a, .int .i64 b, .int .i64 c, .int .i64 d]] [] = some ⟨.agg [.int .i64 ((bnd a b c d 0).1), .int .i64 ((bnd a b c d 0).2.1), .int .i64 ((bnd a b c d 0).2.2.1), .int .i64 ((bnd a b c d 0).2.2.2), .int .i64 ((bnd a b c d 1).1), .int .i64 ((bnd a b c d 1).2.1), .int .i64 ((bnd a b c d 1).2.2.1), .int .i64 ((bnd a b c d 1).2.2.2), .int .i64 ((bnd a b c d 2).1), .int .i64 ((bnd a b c d 2).2.1), .int .i64 ((bnd a b c d 2).2.2.1), .int .i64 ((bnd a b c d 2).2.2.2), .int .i64 ((bnd a b c d 3).1), .int .i64 ((bnd a b c d 3).2.1), .int .i64 ((bnd a b c d 3).2.2.1), .int .i64 ((bnd a b c d 3).2.2.2)], [], []⟩ := by
    refine (e_dwt_Bands ..).trans ?_
    simp only [ite2_bool, bnd]
    cases h : valid a b c d
    · simp
    · have hb := valid_b h
      simp (disch := omega) only [wrap_in, wrapu_in, Int.tdiv_eq_ediv_of_nonneg]
      simp
theorem s_dwt_Bands : SoundFun Try.prog 55 G_dwt_Bands := by
  refine fun_ok (tab := t_dwt_Bands) (ann := annOf []) (lt := l_dwt_Bands) (tab_cons s_rect_Valid tab_nil) (by kernel_rfl) (fn := Try.f55) (by kernel_rfl) (by decide) (c := bodyOf Try.f55) (by kernel_rfl) (by
    intro m b hb
    have hb' : b ∈ loopsOf (bodyOf Try.f55) := hb
    rw [o_dwt_Bands] at hb'
    simp only [List.mem_cons, List.not_mem_nil, or_false] at hb'
    rcases hb' with rfl
    · exact loop_none (by kernel_rfl) m
    ) ?_ (keep_nil (by kernel_rfl))
  intro args lent o y0'
  unfold G_dwt_Bands at y0'
  obtain ⟨q', args, rfl, y1'⟩ := pA_s y0'
  obtain ⟨a, b, c, d, q', rfl, y2'⟩ := t4_s y1'
  obtain ⟨rfl, y3'⟩ := tE_s y2'
  obtain ⟨rfl, y4'⟩ := pE_s y3'
  obtain ⟨rfl, y5'⟩ := nE_s y4'
  have yy' := y5'
  unfold H_dwt_Bands at yy'
  obtain ⟨hok, rfl⟩ := Prod.mk.inj (Option.some.inj yy')
  exact ⟨20, q_dwt_Bands _ _ _ _ hok⟩
theorem q_pyr_Band (a b c d n i : Int) (hok : true = true) : funR Try.prog t_pyr_Band (annOf []) l_pyr_Band 20 Try.f27 [.agg [.int .i64 a, .int .i64 b, .int .i64 c, .int .i64 d], .one (.int .i64 n), .one (.int .i64 i)] [] = some ⟨.agg [.int .i64 ((bandR a b c d n i).1), .int .i64 ((bandR a b c d n i).2.1), .int .i64 ((bandR a b c d n i).2.2.1), .int .i64 ((bandR a b c d n i).2.2.2)], [], []⟩ := by
    refine (e_pyr_Band ..).trans ?_
    simp only [ite2_bool, decide_eq_true_eq, bandR]
    cases h : plOk i n
    · simp
    · have hb := pl_b h
      cases hv : valid a b c d
      · simp
      · by_cases hi : i = 0
        · simp [hi]
        · have hd := pl_d h hi
          rw [wrap_in (n := n - plLv i n) (by omega) (by omega), wrap_in (n := n - plLv i n + 1) (by omega) (by omega)]
          generalize resR a b c d n (n - plLv i n + 1) = y
          have ho : plOr i n = 1 ∨ plOr i n = 2 ∨ plOr i n = 3 := by omega
          rcases ho with ho | ho | ho <;> simp [ho, hi, gI, bndR]
theorem s_pyr_Band : SoundFun Try.prog 27 G_pyr_Band := by
  refine fun_ok (tab := t_pyr_Band) (ann := annOf []) (lt := l_pyr_Band) (tab_cons s_rect_Valid (tab_cons s_pyr_Place (tab_cons s_pyr_Resolution (tab_cons s_dwt_Bands tab_nil)))) (by kernel_rfl) (fn := Try.f27) (by kernel_rfl) (by decide) (c := bodyOf Try.f27) (by kernel_rfl) (no_loops (by kernel_rfl)) ?_ (keep_nil (by kernel_rfl))
  intro args lent o y0'
  unfold G_pyr_Band at y0'
  obtain ⟨q', args, rfl, y1'⟩ := pA_s y0'
  obtain ⟨a, b, c, d, q', rfl, y2'⟩ := t4_s y1'
  obtain ⟨rfl, y3'⟩ := tE_s y2'
  obtain ⟨n, args, rfl, y4'⟩ := pI_s y3'
  obtain ⟨i, args, rfl, y5'⟩ := pI_s y4'
  obtain ⟨rfl, y6'⟩ := pE_s y5'
  obtain ⟨rfl, y7'⟩ := nE_s y6'
  have yy' := y7'
  unfold H_pyr_Band at yy'
  obtain ⟨hok, rfl⟩ := Prod.mk.inj (Option.some.inj yy')
  exact ⟨20, q_pyr_Band _ _ _ _ _ _ hok⟩
theorem q_params_cells (a b c d x y : Int) (hok : (inr 0 12 x && inr 0 12 y) = true) : funR Try.prog t_params_cells (annOf []) l_params_cells 20 Try.f77 [.agg [.int .i64 a, .int .i64 b, .int .i64 c, .int .i64 d], .one (.int .i64 x), .one (.int .i64 y)] [] = some ⟨.one (.int .i64 (cellsN a b c d x y)), [], []⟩ := by
    refine (e_params_cells ..).trans ?_
    simp only [Bool.and_eq_true] at hok
    have h1 := inr_b hok.1
    have h2 := inr_b hok.2
    simp only [ite2_bool, decide_eq_true_eq, cellsN]
    rw [wrapu_in (n := x) (by omega) (by omega), wrapu_in (n := y) (by omega) (by omega), shl_pw h1.1 h1.2, shl_pw h2.1 h2.2, if_pos h1.1, if_pos h2.1]
    split <;> rfl
theorem s_params_cells : SoundFun Try.prog 77 G_params_cells := by
  refine fun_ok (tab := t_params_cells) (ann := annOf []) (lt := l_params_cells) (tab_cons s_rect_Empty (tab_cons s_rect_CeilDiv (tab_cons s_rect_FloorDiv tab_nil))) (by kernel_rfl) (fn := Try.f77) (by kernel_rfl) (by decide) (c := bodyOf Try.f77) (by kernel_rfl) (no_loops (by kernel_rfl)) ?_ (keep_nil (by kernel_rfl))
  intro args lent o y0'
  unfold G_params_cells at y0'
  obtain ⟨q', args, rfl, y1'⟩ := pA_s y0'
  obtain ⟨a, b, c, d, q', rfl, y2'⟩ := t4_s y1'
  obtain ⟨rfl, y3'⟩ := tE_s y2'
  obtain ⟨x, args, rfl, y4'⟩ := pI_s y3'
  obtain ⟨y, args, rfl, y5'⟩ := pI_s y4'
  obtain ⟨rfl, y6'⟩ := pE_s y5'
  obtain ⟨rfl, y7'⟩ := nE_s y6'
  have yy' := y7'
  unfold H_params_cells at yy'
  obtain ⟨hok, rfl⟩ := Prod.mk.inj (Option.some.inj yy')
  exact ⟨20, q_params_cells _ _ _ _ _ _ hok⟩
theorem fdiv_b {a k : Int} (h0 : 0 ≤ a) (h1 : a ≤ 4096) (hk : 1 ≤ k) : fdiv a k = a / k ∧ 0 ≤ a / k ∧ a / k ≤ a := by
  have h2 := Int.ediv_nonneg h0 (show 0 ≤ k by omega)
  have h3 := Int.ediv_le_self k h0
  refine ⟨?_, h2, h3⟩
  unfold fdiv w
  rw [if_neg (by omega), Int.tmod_eq_emod_of_nonneg h0, Int.tdiv_eq_ediv_of_nonneg h0, if_neg (by have := Int.emod_nonneg a (show k ≠ 0 by omega); omega), wrap_in (by omega) (by omega)]
theorem cdiv_b {a k : Int} (h0 : 0 ≤ a) (h1 : a ≤ 4096) (hk : 1 ≤ k) : a / k ≤ cdiv a k ∧ cdiv a k ≤ a := by
  have h2 := Int.ediv_nonneg h0 (show 0 ≤ k by omega)
  have h3 := Int.ediv_le_self k h0
  have h4 := Int.emod_add_mul_ediv a k
  have h5 : 1 * (a / k) ≤ k * (a / k) := Int.mul_le_mul_of_nonneg_right hk h2
  unfold cdiv w
  rw [if_neg (by omega), Int.tmod_eq_emod_of_nonneg h0, Int.tdiv_eq_ediv_of_nonneg h0, wrap_in (n := a / k) (by omega) (by omega)]
  split
  · rw [wrap_in (by omega) (by omega)]; omega
  · omega
theorem span_b {a c k : Int} (h0 : 0 ≤ a) (h : a ≤ c) (h1 : c ≤ 4096) (hk : 1 ≤ k) : 0 ≤ fdiv a k ∧ fdiv a k ≤ cdiv c k ∧ cdiv c k ≤ 4096 := by
  have h2 := fdiv_b h0 (by omega) hk
  have h3 := cdiv_b (show 0 ≤ c by omega) h1 hk
  have h4 := Int.ediv_le_ediv (show 0 < k by omega) h
  omega
theorem prod_b {x y m n : Int} (h0 : 0 ≤ x) (h1 : x ≤ m) (h2 : 0 ≤ y) (h3 : y ≤ n) : 0 ≤ x * y ∧ x * y ≤ m * n :=
  ⟨Int.mul_nonneg h0 h2, Int.mul_le_mul h1 h3 h2 (by omega)⟩
theorem rowL_len (a b c d w h j : Int) : ∀ n i, (rowL a b c d w h j n i).length = n
  | 0, i => rfl
  | n + 1, i => by simp [rowL, rowL_len a b c d w h j n]
theorem d_rect_Cells_0 {α : Type} {vs : List V} {bl : List (Option Blk)} {K} {r : α} {Q : Prop} (y0' : D_rect_Cells_0 vs bl K = some r) (hh' : ∀ (a : Int) (b : Int) (c : Int) (d : Int) (w : Int) (h : Int) (l : Int) (g : Int) (u : Int) (j : Int) (t : List Rc), vs = [.one (.int .i64 w), .one (.int .i64 h), .one (.ptr 0 0), .one (.int .i64 l), .one (.int .i64 g), .one (.int .i64 u), .one (.row 1), .one (.int .i64 j)] → bl = [some (.box [.int .i64 a, .int .i64 b, .int .i64 c, .int .i64 d]), some (.arr 28 (.pair (.int .i64) (.pair (.int .i64) (.pair (.int .i64) (.int .i64)))) t)] → K a b c d w h l g u j t = some r → Q) : Q := by
  unfold D_rect_Cells_0 at y0'
  obtain ⟨w, vs, rfl, y1'⟩ := pI_s y0'
  obtain ⟨h, vs, rfl, y2'⟩ := pI_s y1'
  obtain ⟨vs, rfl, y3'⟩ := pP_s y2'
  obtain ⟨l, vs, rfl, y4'⟩ := pI_s y3'
  obtain ⟨g, vs, rfl, y5'⟩ := pI_s y4'
  obtain ⟨u, vs, rfl, y6'⟩ := pI_s y5'
  obtain ⟨c', vs, rfl, y7'⟩ := pO_s y6'
  obtain ⟨rfl, y8'⟩ := kR_s y7'
  obtain ⟨j, vs, rfl, y9'⟩ := pI_s y8'
  obtain ⟨rfl, y10'⟩ := pE_s y9'
  obtain ⟨q', bl, rfl, y11'⟩ := bB_s y10'
  obtain ⟨a, b, c, d, q', rfl, y12'⟩ := t4_s y11'
  obtain ⟨rfl, y13'⟩ := tE_s y12'
  obtain ⟨t, bl, rfl, y14'⟩ := bAR_s y13'
  obtain ⟨rfl, y15'⟩ := bE_s y14'
  have yy' := y15'
  exact hh' _ _ _ _ _ _ _ _ _ _ _ rfl rfl yy'
theorem r_rect_Cells_0 : RoundOk Try.prog t_rect_Cells (annOf []) l_rect_Cells Out 20 0 86 [1, 2, 3, 7, 8, 10, 11, 12] (kxOf [11] [6]) (loopOf Try.f49 0) T_rect_Cells_0 := by
  intro vs bl Kc r h
  unfold T_rect_Cells_0 at h
  obtain ⟨t, y0', h'⟩ := getD_run h
  refine d_rect_Cells_0 y0' fun a b c d w h l g u j t u1' u2' yy' => ?_
  subst u1' u2'
  cases yy'
  exact (b_rect_Cells_0 ..).trans h'
theorem d_rect_Cells_1 {α : Type} {vs : List V} {bl : List (Option Blk)} {K} {r : α} {Q : Prop} (y0' : D_rect_Cells_1 vs bl K = some r) (hh' : ∀ (a : Int) (b : Int) (c : Int) (d : Int) (w : Int) (h : Int) (l : Int) (g : Int) (u : Int) (j : Int) (i : Int) (t : List Rc), vs = [.one (.int .i64 w), .one (.int .i64 h), .one (.ptr 0 0), .one (.int .i64 l), .one (.int .i64 g), .one (.int .i64 u), .one (.row 1), .one (.int .i64 j), .one (.int .i64 i)] → bl = [some (.box [.int .i64 a, .int .i64 b, .int .i64 c, .int .i64 d]), some (.arr 28 (.pair (.int .i64) (.pair (.int .i64) (.pair (.int .i64) (.int .i64)))) t)] → K a b c d w h l g u j i t = some r → Q) : Q := by
  unfold D_rect_Cells_1 at y0'
  obtain ⟨w, vs, rfl, y1'⟩ := pI_s y0'
  obtain ⟨h, vs, rfl, y2'⟩ := pI_s y1'
  obtain ⟨vs, rfl, y3'⟩ := pP_s y2'
  obtain ⟨l, vs, rfl, y4'⟩ := pI_s y3'
  obtain ⟨g, vs, rfl, y5'⟩ := pI_s y4'
  obtain ⟨u, vs, rfl, y6'⟩ := pI_s y5'
  obtain ⟨c', vs, rfl, y7'⟩ := pO_s y6'
  obtain ⟨rfl, y8'⟩ := kR_s y7'
  obtain ⟨j, vs, rfl, y9'⟩ := pI_s y8'
  obtain ⟨i, vs, rfl, y10'⟩ := pI_s y9'
  obtain ⟨rfl, y11'⟩ := pE_s y10'
  obtain ⟨q', bl, rfl, y12'⟩ := bB_s y11'
  obtain ⟨a, b, c, d, q', rfl, y13'⟩ := t4_s y12'
  obtain ⟨rfl, y14'⟩ := tE_s y13'
  obtain ⟨t, bl, rfl, y15'⟩ := bAR_s y14'
  obtain ⟨rfl, y16'⟩ := bE_s y15'
  have yy' := y16'
  exact hh' _ _ _ _ _ _ _ _ _ _ _ _ rfl rfl yy'
theorem r_rect_Cells_1 : RoundOk Try.prog t_rect_Cells (annOf []) l_rect_Cells Out 20 0 86 [1, 2, 3, 7, 8, 10, 11, 12, 13] (kxOf [1, 2, 3, 7, 8, 10, 11, 12] [6]) (loopOf Try.f49 1) T_rect_Cells_1 := by
  intro vs bl Kc r h
  unfold T_rect_Cells_1 at h
  obtain ⟨t, y0', h'⟩ := getD_run h
  refine d_rect_Cells_1 y0' fun a b c d w h l g u j i t u1' u2' yy' => ?_
  subst u1' u2'
  cases yy'
  exact (b_rect_Cells_1 ..).trans h'
theorem o_rect_Cells : loopsOf (bodyOf Try.f49) = [loopOf Try.f49 0, loopOf Try.f49 1] := by kernel_rfl
theorem zo_rect (a b c d w h l g u : Int) (hk : cellsOk a b c d w h = true) (hl : 0 ≤ l ∧ l ≤ g ∧ g ≤ 4096) (hu : u ≤ 4096) : ∀ (n : Nat) (j : Int) (t : List Rc), u - j = n → 0 ≤ j → (t.length : Int) + 4096 * (u - j) ≤ 68719476736 → ∃ k, ∀ (K : Ex → List V → List (Option Blk) → Option Out) (r : Out), (LT.leaf (.exit 0) [.one (.row 0)] [some (.arr 28 (.pair (.int .i64) (.pair (.int .i64) (.pair (.int .i64) (.int .i64)))) (t ++ gridL a b c d w h l (g - l).toNat n j))]).run K = some r → (iter T_rect_Cells_0 k [.one (.int .i64 w), .one (.int .i64 h), .one (.ptr 0 0), .one (.int .i64 l), .one (.int .i64 g), .one (.int .i64 u), .one (.row 1), .one (.int .i64 j)] [some (.box [.int .i64 a, .int .i64 b, .int .i64 c, .int .i64 d]), some (.arr 28 (.pair (.int .i64) (.pair (.int .i64) (.pair (.int .i64) (.int .i64)))) (t))]).run K = some r
  | 0, j, t, h0, h1, h2 => ⟨1, fun K r h' => by
    simp only [iter, tu_rect_Cells_0, U_rect_Cells_0, LT.next, LT.run, ite2_dec]
    rw [if_neg (by omega)]
    simpa [LT.run, gridL] using h'⟩
  | n + 1, j, t, h0, h1, h2 => by
    obtain ⟨k, hk'⟩ := zo_rect a b c d w h l g u hk hl hu n (j + 1) (t ++ rowL a b c d w h j (g - l).toNat l) (by omega) (by omega) (by rw [List.length_append, rowL_len]; push_cast; omega)
    refine ⟨k + 1, fun K r h' => ?_⟩
    simp only [iter, tu_rect_Cells_0, U_rect_Cells_0, LT.next, LT.run, ite2_bool, decide_eq_true_eq]
    rw [if_pos (by omega), if_pos (by simp only [k_rect_Cells_1, hk, Bool.true_and, Bool.and_eq_true, decide_eq_true_eq]; omega), wrap_in (n := j + 1) (by omega) (by omega)]
    refine hk' K r ?_
    rw [List.append_assoc]
    exact h'
theorem zz_rect_Cells_0 (a b c d w h l g u j : Int) (t : List Rc) (hk : k_rect_Cells_0 a b c d w h l g u j t = true) : ZZ (c_rect_Cells_0 a b c d w h l g u j t) T_rect_Cells_0 [.one (.int .i64 w), .one (.int .i64 h), .one (.ptr 0 0), .one (.int .i64 l), .one (.int .i64 g), .one (.int .i64 u), .one (.row 1), .one (.int .i64 j)] [some (.box [.int .i64 a, .int .i64 b, .int .i64 c, .int .i64 d]), some (.arr 28 (.pair (.int .i64) (.pair (.int .i64) (.pair (.int .i64) (.int .i64)))) t)] := by
  simp only [k_rect_Cells_0, Bool.and_eq_true, decide_eq_true_eq] at hk
  exact zo_rect a b c d w h l g u hk.1.1.1 ⟨hk.1.1.2.1.1, hk.1.1.2.1.2, hk.1.1.2.2⟩ hk.1.2.2 (u - j).toNat j t (by omega) hk.1.2.1.1 hk.2
theorem z_rect_Cells_0 : ZOk S_rect_Cells_0 T_rect_Cells_0 := by
  intro vs bl t y0'
  refine d_rect_Cells_0 y0' fun a b c d w h l g u j t u1' u2' yy' => ?_
  subst u1' u2'
  obtain ⟨hk, rfl⟩ := Prod.mk.inj (Option.some.inj yy')
  exact zz_rect_Cells_0 _ _ _ _ _ _ _ _ _ _ _ hk
theorem zi_rect (a b c d w h l g u j : Int) (hk : cellsOk a b c d w h = true) (hj : 0 ≤ j ∧ j ≤ 4096) (hg : g ≤ 4096) : ∀ (n : Nat) (i : Int) (t : List Rc), g - i = n → 0 ≤ i → (t.length : Int) + (g - i) ≤ 68719476736 → ∃ k, ∀ (K : Ex → List V → List (Option Blk) → Option Out) (r : Out), (LT.leaf (.exit 2) [.one (.int .i64 w), .one (.int .i64 h), .one (.ptr 0 0), .one (.int .i64 l), .one (.int .i64 g), .one (.int .i64 u), .one (.row 1), .one (.int .i64 j)] [some (.box [.int .i64 a, .int .i64 b, .int .i64 c, .int .i64 d]), some (.arr 28 (.pair (.int .i64) (.pair (.int .i64) (.pair (.int .i64) (.int .i64)))) (t ++ rowL a b c d w h j n i))]).run K = some r → (iter T_rect_Cells_1 k [.one (.int .i64 w), .one (.int .i64 h), .one (.ptr 0 0), .one (.int .i64 l), .one (.int .i64 g), .one (.int .i64 u), .one (.row 1), .one (.int .i64 j), .one (.int .i64 i)] [some (.box [.int .i64 a, .int .i64 b, .int .i64 c, .int .i64 d]), some (.arr 28 (.pair (.int .i64) (.pair (.int .i64) (.pair (.int .i64) (.int .i64)))) (t))]).run K = some r
  | 0, i, t, h0, h1, h2 => ⟨1, fun K r h' => by
    simp only [iter, tu_rect_Cells_1, U_rect_Cells_1, LT.next, LT.run, ite2_dec]
    rw [if_neg (by omega)]
    simpa [LT.run, rowL] using h'⟩
  | n + 1, i, t, h0, h1, h2 => by
    obtain ⟨k, hk'⟩ := zi_rect a b c d w h l g u j hk hj hg n (i + 1) (t ++ [tileR a b c d w h i j]) (by omega) (by omega) (by simp; omega)
    refine ⟨k + 1, fun K r h' => ?_⟩
    simp only [cellsOk, Bool.and_eq_true, decide_eq_true_eq] at hk
    have m1 := prod_b h1 (show i ≤ 4096 by omega) (show 0 ≤ w by omega) hk.1.2.2
    have m2 := prod_b hj.1 hj.2 (show 0 ≤ h by omega) hk.2.2
    have m3 : (i + 1) * w = i * w + w := by rw [Int.add_mul, Int.one_mul]
    have m4 : (j + 1) * h = j * h + h := by rw [Int.add_mul, Int.one_mul]
    simp only [iter, tu_rect_Cells_1, U_rect_Cells_1, LT.next, LT.run, ite2_dec]
    rw [if_pos (by omega), if_pos (by simp only [List.length_singleton]; omega)]
    simp (disch := omega) only [wrap_in]
    refine hk' K r ?_
    rw [List.append_assoc]
    exact h'
theorem zz_rect_Cells_1 (a b c d w h l g u j i : Int) (t : List Rc) (hk : k_rect_Cells_1 a b c d w h l g u j i t = true) : ZZ (c_rect_Cells_1 a b c d w h l g u j i t) T_rect_Cells_1 [.one (.int .i64 w), .one (.int .i64 h), .one (.ptr 0 0), .one (.int .i64 l), .one (.int .i64 g), .one (.int .i64 u), .one (.row 1), .one (.int .i64 j), .one (.int .i64 i)] [some (.box [.int .i64 a, .int .i64 b, .int .i64 c, .int .i64 d]), some (.arr 28 (.pair (.int .i64) (.pair (.int .i64) (.pair (.int .i64) (.int .i64)))) t)] := by
  simp only [k_rect_Cells_1, Bool.and_eq_true, decide_eq_true_eq] at hk
  exact zi_rect a b c d w h l g u j hk.1.1.1 hk.1.2 hk.1.1.2.2 (g - i).toNat i t (by omega) hk.1.1.2.1.1 hk.2
theorem z_rect_Cells_1 : ZOk S_rect_Cells_1 T_rect_Cells_1 := by
  intro vs bl t y0'
  refine d_rect_Cells_1 y0' fun a b c d w h l g u j i t u1' u2' yy' => ?_
  subst u1' u2'
  obtain ⟨hk, rfl⟩ := Prod.mk.inj (Option.some.inj yy')
  exact zz_rect_Cells_1 _ _ _ _ _ _ _ _ _ _ _ _ hk
theorem q_rect_Cells (a b c d w h : Int) (hok : (decide (w ≤ 4096) && decide (h ≤ 4096)) = true) : funR Try.prog t_rect_Cells (annOf []) l_rect_Cells 20 Try.f49 [.agg [.int .i64 a, .int .i64 b, .int .i64 c, .int .i64 d], .one (.int .i64 w), .one (.int .i64 h)] [] = some ⟨.one (.row 0), [], [.arr 28 (.pair (.int .i64) (.pair (.int .i64) (.pair (.int .i64) (.int .i64)))) (tilesL a b c d w h)]⟩ := by
    refine (e_rect_Cells ..).trans ?_
    simp only [Bool.and_eq_true, decide_eq_true_eq] at hok
    simp only [ite2_bool, decide_eq_true_eq, tilesL]
    cases hv : valid a b c d
    · simp
    cases he : empty a b c d
    rotate_left
    · simp
    have hb := valid_b hv
    by_cases h1 : w < 1
    · simp [h1]
    by_cases h2 : h < 1
    · simp [h2]
    have s1 := span_b hb.1 hb.2.1 hb.2.2.1 (show 1 ≤ w by omega)
    have s2 := span_b hb.2.2.2.1 hb.2.2.2.2.1 hb.2.2.2.2.2 (show 1 ≤ h by omega)
    have m := prod_b (show 0 ≤ cdiv c w - fdiv a w by omega) (show cdiv c w - fdiv a w ≤ 4096 by omega) (show 0 ≤ cdiv d h - fdiv b h by omega) (show cdiv d h - fdiv b h ≤ 4096 by omega)
    simp (disch := omega) only [wrap_in]
    have hc : cellsOk a b c d w h = true := by simp only [cellsOk, hv, Bool.true_and, Bool.and_eq_true, decide_eq_true_eq]; omega
    have hk0 : k_rect_Cells_0 a b c d w h (fdiv a w) (cdiv c w) (cdiv d h) (fdiv b h) [] = true := by
      simp only [k_rect_Cells_0, hc, Bool.true_and, Bool.and_eq_true, decide_eq_true_eq, List.length_nil]; omega
    by_cases h3 : (cdiv c w - fdiv a w) * (cdiv d h - fdiv b h) > 65536
    · simp [h1, h2, h3]
    · simp [h1, h2, h3, hk0]
      rfl
theorem s_rect_Cells : SoundFun Try.prog 49 G_rect_Cells := by
  refine fun_ok (tab := t_rect_Cells) (ann := annOf []) (lt := l_rect_Cells) (tab_cons s_rect_Valid (tab_cons s_rect_Empty (tab_cons s_rect_Intersect (tab_cons s_rect_CeilDiv (tab_cons s_rect_FloorDiv tab_nil))))) (by kernel_rfl) (fn := Try.f49) (by kernel_rfl) (by decide) (c := bodyOf Try.f49) (by kernel_rfl) (by
    intro m b hb
    have hb' : b ∈ loopsOf (bodyOf Try.f49) := hb
    rw [o_rect_Cells] at hb'
    simp only [List.mem_cons, List.not_mem_nil, or_false] at hb'
    rcases hb' with rfl | rfl
    · exact loop_ok (key := 9) (by kernel_rfl) rfl r_rect_Cells_0 z_rect_Cells_0 m
    · exact loop_ok (key := 12) (by kernel_rfl) rfl r_rect_Cells_1 z_rect_Cells_1 m
    ) ?_ (keep_nil (by kernel_rfl))
  intro args lent o y0'
  unfold G_rect_Cells at y0'
  obtain ⟨q', args, rfl, y1'⟩ := pA_s y0'
  obtain ⟨a, b, c, d, q', rfl, y2'⟩ := t4_s y1'
  obtain ⟨rfl, y3'⟩ := tE_s y2'
  obtain ⟨w, args, rfl, y4'⟩ := pI_s y3'
  obtain ⟨h, args, rfl, y5'⟩ := pI_s y4'
  obtain ⟨rfl, y6'⟩ := pE_s y5'
  obtain ⟨rfl, y7'⟩ := nE_s y6'
  have yy' := y7'
  unfold H_rect_Cells at yy'
  obtain ⟨hok, rfl⟩ := Prod.mk.inj (Option.some.inj yy')
  exact ⟨20, q_rect_Cells _ _ _ _ _ _ hok⟩
theorem cdiv_e {a k : Int} (h0 : 0 ≤ a) (h1 : a ≤ 4096) (hk : 1 ≤ k) : cdiv a k = a / k + (if a % k > 0 then 1 else 0) := by
  have h2 := Int.ediv_nonneg h0 (show 0 ≤ k by omega)
  have h3 := Int.ediv_le_self k h0
  unfold cdiv w
  rw [if_neg (by omega), Int.tmod_eq_emod_of_nonneg h0, Int.tdiv_eq_ediv_of_nonneg h0, wrap_in (n := a / k) (by omega) (by omega)]
  split
  · rw [wrap_in (by omega) (by omega)]
  · omega
theorem cdiv_mono {a c k : Int} (h0 : 0 ≤ a) (h : a ≤ c) (h1 : c ≤ 4096) (hk : 1 ≤ k) : 0 ≤ cdiv a k ∧ cdiv a k ≤ cdiv c k ∧ cdiv c k ≤ 4096 := by
  have h2 := Int.ediv_nonneg h0 (show 0 ≤ k by omega)
  have h3 := Int.ediv_le_ediv (show 0 < k by omega) h
  have h4 := cdiv_b (show 0 ≤ c by omega) h1 hk
  rw [cdiv_e h0 (by omega) hk] 
  rw [cdiv_e (show 0 ≤ c by omega) h1 hk] at h4 ⊢
  have e1 := Int.emod_add_mul_ediv a k
  have e2 := Int.emod_add_mul_ediv c k
  by_cases hq : a / k = c / k
  · rw [hq] at e1 ⊢
    split <;> split <;> omega
  · split <;> split <;> omega
theorem valid_i {a b c d : Int} (h : 0 ≤ a ∧ a ≤ c ∧ c ≤ 4096 ∧ 0 ≤ b ∧ b ≤ d ∧ d ≤ 4096) : valid a b c d = true := by
  simp only [valid, Bool.and_eq_true, decide_eq_true_eq, and_assoc]
  exact h
theorem valid_reduce (a b c d x y : Int) : validR (reduce a b c d x y) = true := by
  unfold reduce
  split
  · rfl
  · rename_i h
    simp only [Bool.or_eq_true, Bool.not_eq_true', decide_eq_true_eq, not_or, Bool.not_eq_false] at h
    have hb := valid_b h.1.1.1.1
    have h1 := cdiv_mono hb.1 hb.2.1 hb.2.2.1 (show 1 ≤ x by omega)
    have h2 := cdiv_mono hb.2.2.2.1 hb.2.2.2.2.1 hb.2.2.2.2.2 (show 1 ≤ y by omega)
    show valid (cdiv a x) (cdiv b y) (cdiv c x) (cdiv d y) = true
    exact valid_i (by omega)
theorem valid_resR (a b c d n r : Int) : validR (resR a b c d n r) = true := by
  unfold resR
  split
  · exact valid_reduce ..
  · rfl
theorem pw_b {k : Int} (h1 : k ≤ 12) : 1 ≤ pw k ∧ pw k ≤ 4096 := by
  have : ∀ m : Nat, m < 13 → (1 : Int) ≤ 2 ^ m ∧ (2 : Int) ^ m ≤ 4096 := by decide
  exact this _ (by omega)
theorem cellsR_b {r : Rc} {x y : Int} (h : validR r = true) (hx : x ≤ 12) (hy : y ≤ 12) : 0 ≤ cellsR r x y ∧ cellsR r x y ≤ 16777216 := by
  unfold cellsR cellsN
  have hb := valid_b h
  have s1 := span_b hb.1 hb.2.1 hb.2.2.1 (pw_b hx).1
  have s2 := span_b hb.2.2.2.1 hb.2.2.2.2.1 hb.2.2.2.2.2 (pw_b hy).1
  have m := prod_b (show 0 ≤ cdiv r.2.2.1 (pw x) - fdiv r.1 (pw x) by omega) (show cdiv r.2.2.1 (pw x) - fdiv r.1 (pw x) ≤ 4096 by omega) (show 0 ≤ cdiv r.2.2.2 (pw y) - fdiv r.2.1 (pw y) by omega) (show cdiv r.2.2.2 (pw y) - fdiv r.2.1 (pw y) ≤ 4096 by omega)
  unfold w
  split
  · omega
  · simp (disch := omega) only [wrap_in]
    omega
theorem nums_b {p : Pm} (h : nums p = true) : (0 ≤ p.le ∧ p.le ≤ 5) ∧ (2 ≤ p.bx ∧ p.bx ≤ 6) ∧ (2 ≤ p.bw ∧ p.bw ≤ 6) ∧ (1 ≤ p.la ∧ p.la ≤ 16) ∧ ((p.st.length : Int) = 3 * p.le + 1) ∧ (8 ≤ p.de ∧ p.de ≤ 32) ∧ (0 ≤ p.sf ∧ p.sf ≤ 30) ∧ (p.pr.length = 0 ∨ (p.pr.length : Int) = p.le + 1) := by
  simp only [nums, inr, Bool.and_eq_true, Bool.or_eq_true, decide_eq_true_eq] at h
  omega
theorem prec_b {p : Pm} (h : nums p = true) {r : Int} (h0 : 0 ≤ r) (h1 : r ≤ p.le) : (if r > 0 then 1 else 0) ≤ (prec p r).1 ∧ (prec p r).1 ≤ 12 ∧ (if r > 0 then 1 else 0) ≤ (prec p r).2 ∧ (prec p r).2 ≤ 12 := by
  have hb := nums_b h
  have e : prec p r = if p.pr.length = 0 then (12, 12) else gP p.pr r.toNat := by
    unfold prec
    rw [if_neg (by omega)]
    split
    · rfl
    · rw [if_neg (by omega)]
  rw [e]
  by_cases hz : p.pr.length = 0
  · rw [if_pos hz]
    simp only
    split <;> omega
  · rw [if_neg hz]
    have hp : precs p = true := by
      simp only [nums, Bool.and_eq_true] at h
      exact h.1.1.1.1.1.2
    have := List.all_eq_true.1 hp r.toNat (by rw [List.mem_range]; omega)
    simp only [prq, pmin, Bool.and_eq_true] at this
    have b1 := inr_b this.1
    have b2 := inr_b this.2
    refine ⟨?_, b1.2, ?_, b2.2⟩
    · refine Int.le_trans ?_ b1.1
      split <;> split <;> omega
    · refine Int.le_trans ?_ b2.1
      split <;> split <;> omega
theorem bX_b {p : Pm} (h : nums p = true) {r : Int} (h0 : 0 ≤ r) (h1 : r ≤ p.le) : 0 ≤ bX p r ∧ bX p r ≤ 12 ∧ 0 ≤ bY p r ∧ bY p r ≤ 12 := by
  have hb := nums_b h
  have hp := prec_b h h0 h1
  unfold bX bY
  omega
theorem resN_b {p : Pm} (h : nums p = true) (r : Rc) {s : Int} (h0 : 0 ≤ s) (h1 : s ≤ p.le) : 0 ≤ resN r p s ∧ resN r p s ≤ 16777216 := by
  have hp := prec_b h h0 h1
  exact cellsR_b (valid_resR ..) hp.2.1 hp.2.2.2
theorem sumN_b {p : Pm} (h : nums p = true) (r : Rc) : ∀ (k : Nat), (k : Int) ≤ p.le + 1 → 0 ≤ sumN r p k ∧ sumN r p k ≤ 16777216 * k
  | 0, _ => by simp [sumN]
  | k + 1, hk => by
    have h1 := sumN_b h r k (by omega)
    have h2 := resN_b h r (s := k) (by omega) (by omega)
    simp only [sumN]
    omega
theorem compN_b {p : Pm} (h : nums p = true) (r : Rc) : 0 ≤ compN r p ∧ compN r p ≤ 100663296 := by
  have hb := nums_b h
  have := sumN_b h r (p.le + 1).toNat (by omega)
  unfold compN
  omega
theorem totN_b {p : Pm} (h : nums p = true) (t : Rc) (l : List (Int × Bool × Int × Int)) : ∀ k : Nat, 0 ≤ totN t p l k ∧ totN t p l k ≤ 100663296 * k
  | 0 => by simp [totN]
  | k + 1 => by
    have h1 := totN_b h t l k
    have h2 := compN_b h (redT t (gC l k))
    simp only [totN]
    omega
theorem la_b {p : Pm} (h : nums p = true) {x m : Int} (h0 : 0 ≤ x) (h1 : x ≤ m) : 0 ≤ p.la * x ∧ p.la * x ≤ 16 * m := by
  have hb := nums_b h
  exact prod_b (by omega) hb.2.2.2.1.2 h0 h1
theorem idxs_len (n r : Int) : (idxs n r).length ≤ 3 := by
  unfold idxs
  split
  · split <;> simp
  · simp
theorem d_tileFits_0 {α : Type} {vs : List V} {bl : List (Option Blk)} {K} {r : α} {Q : Prop} (y0' : D_tileFits_0 vs bl K = some r) (hh' : ∀ (p : Pm) (l : List (Int × Bool × Int × Int)) (a : Int) (b : Int) (c : Int) (d : Int) (s : Int) (n : Int) (i : Int), vs = [.one (.ptr 0 0), .one (.ptr 1 0), .one (.int .i64 s), .one (.lst (.pair (.int .i64) (.pair .bool (.pair (.int .i64) (.int .i64)))) l), .one (.int .i64 n), .one (.int .i64 i)] → bl = [some (.box (pmC p)), some (.box [.int .i64 a, .int .i64 b, .int .i64 c, .int .i64 d])] → K p l a b c d s n i = some r → Q) : Q := by
  unfold D_tileFits_0 at y0'
  obtain ⟨vs, rfl, y1'⟩ := pP_s y0'
  obtain ⟨vs, rfl, y2'⟩ := pP_s y1'
  obtain ⟨s, vs, rfl, y3'⟩ := pI_s y2'
  obtain ⟨c', vs, rfl, y4'⟩ := pO_s y3'
  obtain ⟨l, rfl, y5'⟩ := kLC_s y4'
  obtain ⟨n, vs, rfl, y6'⟩ := pI_s y5'
  obtain ⟨i, vs, rfl, y7'⟩ := pI_s y6'
  obtain ⟨rfl, y8'⟩ := pE_s y7'
  obtain ⟨q', bl, rfl, y9'⟩ := bB_s y8'
  obtain ⟨p, rfl, y10'⟩ := rdPm_s y9'
  obtain ⟨q', bl, rfl, y11'⟩ := bB_s y10'
  obtain ⟨a, b, c, d, q', rfl, y12'⟩ := t4_s y11'
  obtain ⟨rfl, y13'⟩ := tE_s y12'
  obtain ⟨rfl, y14'⟩ := bE_s y13'
  have yy' := y14'
  exact hh' _ _ _ _ _ _ _ _ _ rfl rfl yy'
theorem r_tileFits_0 : RoundOk Try.prog t_tileFits (annOf []) l_tileFits Out 20 0 92 [4, 5, 7, 16, 17, 18] (kxOf [7] [6]) (loopOf Try.f50 0) T_tileFits_0 := by
  intro vs bl Kc r h
  unfold T_tileFits_0 at h
  obtain ⟨t, y0', h'⟩ := getD_run h
  refine d_tileFits_0 y0' fun p l a b c d s n i u1' u2' yy' => ?_
  subst u1' u2'
  cases yy'
  exact (b_tileFits_0 ..).trans h'
theorem d_tileFits_1 {α : Type} {vs : List V} {bl : List (Option Blk)} {K} {r : α} {Q : Prop} (y0' : D_tileFits_1 vs bl K = some r) (hh' : ∀ (p : Pm) (l : List (Int × Bool × Int × Int)) (a : Int) (b : Int) (c : Int) (d : Int) (e : Int) (f : Int) (g : Int) (o : Int) (s : Int) (n : Int) (i : Int) (res : Int), vs = [.one (.ptr 0 0), .one (.ptr 1 0), .one (.int .i64 s), .one (.ptr 2 0), .one (.int .i64 res), .one (.lst (.pair (.int .i64) (.pair .bool (.pair (.int .i64) (.int .i64)))) l), .one (.int .i64 n), .one (.int .i64 i)] → bl = [some (.box (pmC p)), some (.box [.int .i64 a, .int .i64 b, .int .i64 c, .int .i64 d]), some (.box [.int .i64 e, .int .i64 f, .int .i64 g, .int .i64 o])] → K p l a b c d e f g o s n i res = some r → Q) : Q := by
  unfold D_tileFits_1 at y0'
  obtain ⟨vs, rfl, y1'⟩ := pP_s y0'
  obtain ⟨vs, rfl, y2'⟩ := pP_s y1'
  obtain ⟨s, vs, rfl, y3'⟩ := pI_s y2'
  obtain ⟨vs, rfl, y4'⟩ := pP_s y3'
  obtain ⟨res, vs, rfl, y5'⟩ := pI_s y4'
  obtain ⟨c', vs, rfl, y6'⟩ := pO_s y5'
  obtain ⟨l, rfl, y7'⟩ := kLC_s y6'
  obtain ⟨n, vs, rfl, y8'⟩ := pI_s y7'
  obtain ⟨i, vs, rfl, y9'⟩ := pI_s y8'
  obtain ⟨rfl, y10'⟩ := pE_s y9'
  obtain ⟨q', bl, rfl, y11'⟩ := bB_s y10'
  obtain ⟨p, rfl, y12'⟩ := rdPm_s y11'
  obtain ⟨q', bl, rfl, y13'⟩ := bB_s y12'
  obtain ⟨a, b, c, d, q', rfl, y14'⟩ := t4_s y13'
  obtain ⟨rfl, y15'⟩ := tE_s y14'
  obtain ⟨q', bl, rfl, y16'⟩ := bB_s y15'
  obtain ⟨e, f, g, o, q', rfl, y17'⟩ := t4_s y16'
  obtain ⟨rfl, y18'⟩ := tE_s y17'
  obtain ⟨rfl, y19'⟩ := bE_s y18'
  have yy' := y19'
  exact hh' _ _ _ _ _ _ _ _ _ _ _ _ _ _ rfl rfl yy'
theorem r_tileFits_1 : RoundOk Try.prog t_tileFits (annOf []) l_tileFits Out 20 0 92 [4, 5, 7, 10, 11, 16, 17, 18] (kxOf [4, 5, 7, 16, 17, 18] [6]) (loopOf Try.f50 1) T_tileFits_1 := by
  intro vs bl Kc r h
  unfold T_tileFits_1 at h
  obtain ⟨t, y0', h'⟩ := getD_run h
  refine d_tileFits_1 y0' fun p l a b c d e f g o s n i res u1' u2' yy' => ?_
  subst u1' u2'
  cases yy'
  exact (b_tileFits_1 ..).trans h'
theorem d_tileFits_2 {α : Type} {vs : List V} {bl : List (Option Blk)} {K} {r : α} {Q : Prop} (y0' : D_tileFits_2 vs bl K = some r) (hh' : ∀ (p : Pm) (l : List (Int × Bool × Int × Int)) (t : List Int) (a : Int) (b : Int) (c : Int) (d : Int) (e : Int) (f : Int) (g : Int) (o : Int) (x : Int) (y : Int) (s : Int) (m : Int) (u : Int) (res : Int) (n : Int) (i : Int), vs = [.one (.ptr 0 0), .one (.ptr 1 0), .one (.int .i64 s), .one (.ptr 2 0), .one (.int .i64 res), .one (.ptr 3 0), .one (.lst (.pair (.int .i64) (.pair .bool (.pair (.int .i64) (.int .i64)))) l), .one (.int .i64 m), .one (.int .i64 u), .one (.row 4), .one (.int .i64 n), .one (.int .i64 i)] → bl = [some (.box (pmC p)), some (.box [.int .i64 a, .int .i64 b, .int .i64 c, .int .i64 d]), some (.box [.int .i64 e, .int .i64 f, .int .i64 g, .int .i64 o]), some (.box [.int .i64 x, .int .i64 y]), some (.arr 3 (.int .i64) t)] → K p l t a b c d e f g o x y s m u res n i = some r → Q) : Q := by
  unfold D_tileFits_2 at y0'
  obtain ⟨vs, rfl, y1'⟩ := pP_s y0'
  obtain ⟨vs, rfl, y2'⟩ := pP_s y1'
  obtain ⟨s, vs, rfl, y3'⟩ := pI_s y2'
  obtain ⟨vs, rfl, y4'⟩ := pP_s y3'
  obtain ⟨res, vs, rfl, y5'⟩ := pI_s y4'
  obtain ⟨vs, rfl, y6'⟩ := pP_s y5'
  obtain ⟨c', vs, rfl, y7'⟩ := pO_s y6'
  obtain ⟨l, rfl, y8'⟩ := kLC_s y7'
  obtain ⟨m, vs, rfl, y9'⟩ := pI_s y8'
  obtain ⟨u, vs, rfl, y10'⟩ := pI_s y9'
  obtain ⟨c', vs, rfl, y11'⟩ := pO_s y10'
  obtain ⟨rfl, y12'⟩ := kR_s y11'
  obtain ⟨n, vs, rfl, y13'⟩ := pI_s y12'
  obtain ⟨i, vs, rfl, y14'⟩ := pI_s y13'
  obtain ⟨rfl, y15'⟩ := pE_s y14'
  obtain ⟨q', bl, rfl, y16'⟩ := bB_s y15'
  obtain ⟨p, rfl, y17'⟩ := rdPm_s y16'
  obtain ⟨q', bl, rfl, y18'⟩ := bB_s y17'
  obtain ⟨a, b, c, d, q', rfl, y19'⟩ := t4_s y18'
  obtain ⟨rfl, y20'⟩ := tE_s y19'
  obtain ⟨q', bl, rfl, y21'⟩ := bB_s y20'
  obtain ⟨e, f, g, o, q', rfl, y22'⟩ := t4_s y21'
  obtain ⟨rfl, y23'⟩ := tE_s y22'
  obtain ⟨q', bl, rfl, y24'⟩ := bB_s y23'
  obtain ⟨x, q', rfl, y25'⟩ := tI_s y24'
  obtain ⟨y, q', rfl, y26'⟩ := tI_s y25'
  obtain ⟨rfl, y27'⟩ := tE_s y26'
  obtain ⟨t, bl, rfl, y28'⟩ := bAI_s y27'
  obtain ⟨rfl, y29'⟩ := bE_s y28'
  have yy' := y29'
  exact hh' _ _ _ _ _ _ _ _ _ _ _ _ _ _ _ _ _ _ _ rfl rfl yy'
theorem r_tileFits_2 : RoundOk Try.prog t_tileFits (annOf []) l_tileFits Out 20 0 92 [4, 5, 7, 10, 11, 12, 16, 17, 18, 65, 66, 67] (kxOf [4, 5, 7, 10, 11, 16, 17, 18] [6]) (loopOf Try.f50 2) T_tileFits_2 := by
  intro vs bl Kc r h
  unfold T_tileFits_2 at h
  obtain ⟨t, y0', h'⟩ := getD_run h
  refine d_tileFits_2 y0' fun p l t a b c d e f g o x y s m u res n i u1' u2' yy' => ?_
  subst u1' u2'
  cases yy'
  exact (b_tileFits_2 ..).trans h'
theorem o_tileFits : loopsOf (bodyOf Try.f50) = [loopOf Try.f50 0, loopOf Try.f50 1, loopOf Try.f50 2] := by kernel_rfl
theorem zz_tileFits_0 (p : Pm) (l : List (Int × Bool × Int × Int)) (a b c d s n i : Int) (hk : k_tileFits_0 p l a b c d s n i = true) : ZZ (c_tileFits_0 p l a b c d s n i) T_tileFits_0 [.one (.ptr 0 0), .one (.ptr 1 0), .one (.int .i64 s), .one (.lst (.pair (.int .i64) (.pair .bool (.pair (.int .i64) (.int .i64)))) l), .one (.int .i64 n), .one (.int .i64 i)] [some (.box (pmC p)), some (.box [.int .i64 a, .int .i64 b, .int .i64 c, .int .i64 d])] := by
  simp only [k_tileFits_0, Bool.and_eq_true, decide_eq_true_eq] at hk
  obtain ⟨⟨⟨⟨⟨hn, hv⟩, rfl⟩, rfl⟩, rfl⟩, hl⟩ := hk
  have hsm : small l.length = true := by simp only [small, decide_eq_true_eq]; omega
  refine Exists.elim (z_idx (T := T_tileFits_0) (st := fun j => ([.one (.ptr 0 0), .one (.ptr 1 0), .one (.int .i64 (p.la * totN (a, b, c, d) p l j)), .one (.lst (.pair (.int .i64) (.pair .bool (.pair (.int .i64) (.int .i64)))) l), .one (.int .i64 (l.length : Int)), .one (.int .i64 (j : Int))], [some (.box (pmC p)), some (.box [.int .i64 a, .int .i64 b, .int .i64 c, .int .i64 d])])) l.length (fun j => compOK (redT (a, b, c, d) (gC l j)) p) (.leaf (.exit 0) [.one (.int .i64 (packs (a, b, c, d) p l))] []) (.leaf .ret [.one (.bool false)] []) (fun j hj F K => ?_) (fun F K => ?_)) (fun k hk => ⟨k, fun K r h => ?_⟩)
  · have ht := totN_b hn (a, b, c, d) l j
    have ht2 := la_b hn ht.1 ht.2
    have hkk : k_tileFits_1 p l a b c d (redT (a, b, c, d) (gC l j)).1 (redT (a, b, c, d) (gC l j)).2.1 (redT (a, b, c, d) (gC l j)).2.2.1 (redT (a, b, c, d) (gC l j)).2.2.2 (p.la * totN (a, b, c, d) p l j) (l.length : Int) j 0 = true := by
      have hvr : valid (redT (a, b, c, d) (gC l j)).1 (redT (a, b, c, d) (gC l j)).2.1 (redT (a, b, c, d) (gC l j)).2.2.1 (redT (a, b, c, d) (gC l j)).2.2.2 = true := valid_reduce ..
      simp only [k_tileFits_1, hn, hvr, Bool.true_and, Bool.and_eq_true, decide_eq_true_eq, and_true]
      omega
    have e2 : p.la * totN (a, b, c, d) p l j + p.la * compN (redT (a, b, c, d) (gC l j)) p = p.la * totN (a, b, c, d) p l (j + 1) := by simp only [totN, Int.mul_add]
    have eR : reduce a b c d (gC l j).2.2.1 (gC l j).2.2.2 = redT (a, b, c, d) (gC l j) := rfl
    have eT : ∀ x : Rc, (x.1, x.2.1, x.2.2.1, x.2.2.2) = x := fun _ => rfl
    simp only [tu_tileFits_0, U_tileFits_0, LT.next, LT.run, ite2_bool, decide_eq_true_eq, Int.toNat_natCast, eR, eT]
    rw [if_pos (by omega), if_pos (by omega), if_pos hkk, e2, wrap_next hj hsm]
    rfl
  · simp only [tu_tileFits_0, U_tileFits_0, LT.next, LT.run, ite2_bool, decide_eq_true_eq]
    rw [if_neg (by omega)]
    rfl
  · have := hk K r h
    have e0 : p.la * totN (a, b, c, d) p l 0 = 0 := by simp [totN]
    rw [e0] at this
    exact this
theorem z_tileFits_0 : ZOk S_tileFits_0 T_tileFits_0 := by
  intro vs bl t y0'
  refine d_tileFits_0 y0' fun p l a b c d s n i u1' u2' yy' => ?_
  subst u1' u2'
  obtain ⟨hk, rfl⟩ := Prod.mk.inj (Option.some.inj yy')
  exact zz_tileFits_0 _ _ _ _ _ _ _ _ _ hk
theorem zz_tileFits_1 (p : Pm) (l : List (Int × Bool × Int × Int)) (a b c d e f g o s n i res : Int) (hk : k_tileFits_1 p l a b c d e f g o s n i res = true) : ZZ (c_tileFits_1 p l a b c d e f g o s n i res) T_tileFits_1 [.one (.ptr 0 0), .one (.ptr 1 0), .one (.int .i64 s), .one (.ptr 2 0), .one (.int .i64 res), .one (.lst (.pair (.int .i64) (.pair .bool (.pair (.int .i64) (.int .i64)))) l), .one (.int .i64 n), .one (.int .i64 i)] [some (.box (pmC p)), some (.box [.int .i64 a, .int .i64 b, .int .i64 c, .int .i64 d]), some (.box [.int .i64 e, .int .i64 f, .int .i64 g, .int .i64 o])] := by
  simp only [k_tileFits_1, Bool.and_eq_true, decide_eq_true_eq] at hk
  obtain ⟨⟨⟨hn, hv⟩, hs⟩, rfl⟩ := hk
  have nb := nums_b hn
  refine Exists.elim (z_idx (T := T_tileFits_1) (st := fun j => ([.one (.ptr 0 0), .one (.ptr 1 0), .one (.int .i64 (s + p.la * sumN (e, f, g, o) p j)), .one (.ptr 2 0), .one (.int .i64 (j : Int)), .one (.lst (.pair (.int .i64) (.pair .bool (.pair (.int .i64) (.int .i64)))) l), .one (.int .i64 n), .one (.int .i64 i)], [some (.box (pmC p)), some (.box [.int .i64 a, .int .i64 b, .int .i64 c, .int .i64 d]), some (.box [.int .i64 e, .int .i64 f, .int .i64 g, .int .i64 o])])) (p.le + 1).toNat (fun j => resOK (e, f, g, o) p j) (.leaf (.exit 2) [.one (.ptr 0 0), .one (.ptr 1 0), .one (.int .i64 (s + p.la * compN (e, f, g, o) p)), .one (.lst (.pair (.int .i64) (.pair .bool (.pair (.int .i64) (.int .i64)))) l), .one (.int .i64 n), .one (.int .i64 i)] [some (.box (pmC p)), some (.box [.int .i64 a, .int .i64 b, .int .i64 c, .int .i64 d])]) (.leaf .ret [.one (.bool false)] []) (fun j hj F K => ?_) (fun F K => ?_)) (fun k hk => ⟨k, fun K r h => ?_⟩)
  · have hj' : (j : Int) ≤ p.le := by omega
    have hp := prec_b hn (show 0 ≤ (j : Int) by omega) hj'
    have hx := bX_b hn (show 0 ≤ (j : Int) by omega) hj'
    have hb := resN_b hn (e, f, g, o) (show 0 ≤ (j : Int) by omega) hj'
    have hb2 := la_b hn hb.1 hb.2
    have hs2 := sumN_b hn (e, f, g, o) j (by omega)
    have hs3 := la_b hn hs2.1 hs2.2
    have e1 : cellsN (resR e f g o p.le j).1 (resR e f g o p.le j).2.1 (resR e f g o p.le j).2.2.1 (resR e f g o p.le j).2.2.2 (prec p j).1 (prec p j).2 = resN (e, f, g, o) p j := rfl
    have e2 : s + p.la * sumN (e, f, g, o) p j + p.la * resN (e, f, g, o) p j = s + p.la * sumN (e, f, g, o) p (j + 1) := by simp only [sumN, Int.mul_add]; omega
    have i12 : (inr 0 12 (prec p j).1 && inr 0 12 (prec p j).2) = true := by
      rw [inr_t, inr_t]
      · rfl
      · split at hp <;> omega
      · omega
      · split at hp <;> omega
      · omega
    have il := idxs_len p.le j
    have hsm : small (idxs p.le j).length = true := by simp only [small, decide_eq_true_eq]; omega
    have key : ∀ x y z : Int, min p.bx x = bX p j → min p.bw y = bY p j → k_tileFits_2 p l (idxs p.le j) a b c d e f g o x y z n i j ((idxs p.le j).length : Int) 0 = true ∧ p_tileFits_2 p l (idxs p.le j) a b c d e f g o x y z n i j = resOK (e, f, g, o) p j := by
      intro x y z h1 h2
      refine ⟨?_, ?_⟩
      · simp only [k_tileFits_2, h1, h2, hsm, inr_t hx.1 hx.2.1, inr_t hx.2.2.1 hx.2.2.2, decide_true, Bool.and_self]
      · simp only [p_tileFits_2, h1, h2]; rfl
    simp only [tu_tileFits_1, U_tileFits_1, LT.next, LT.run, ite2_bool, decide_eq_true_eq]
    rw [if_pos hj', if_pos i12, e1, Int.mul_comm (resN (e, f, g, o) p j), wrap_in (n := p.la * resN (e, f, g, o) p j) (by omega) (by omega), wrap_in (n := s + p.la * sumN (e, f, g, o) p j + p.la * resN (e, f, g, o) p j) (by omega) (by omega), e2, wrap_in (n := (j : Int) + 1) (by omega) (by omega)]
    by_cases h0 : (j : Int) > 0
    · rw [if_pos h0] at hp
      rw [if_pos h0, wrap_in (n := (prec p j).1 - 1) (by omega) (by omega), wrap_in (n := (prec p j).2 - 1) (by omega) (by omega)]
      obtain ⟨q1, q2⟩ := key ((prec p j).1 - 1) ((prec p j).2 - 1) (s + p.la * sumN (e, f, g, o) p (j + 1)) (by unfold bX; rw [if_pos h0]) (by unfold bY; rw [if_pos h0])
      rw [q2, q1]
      rfl
    · rw [if_neg h0]
      obtain ⟨q1, q2⟩ := key (prec p j).1 (prec p j).2 (s + p.la * sumN (e, f, g, o) p (j + 1)) (by unfold bX; rw [if_neg h0, Int.sub_zero]) (by unfold bY; rw [if_neg h0, Int.sub_zero])
      rw [q2, q1]
      rfl
  · simp only [tu_tileFits_1, U_tileFits_1, LT.next, LT.run, ite2_bool, decide_eq_true_eq]
    rw [if_neg (by omega)]
    rfl
  · have := hk K r h
    have e0 : s + p.la * sumN (e, f, g, o) p 0 = s := by simp [sumN]
    rw [e0] at this
    exact this
theorem z_tileFits_1 : ZOk S_tileFits_1 T_tileFits_1 := by
  intro vs bl t y0'
  refine d_tileFits_1 y0' fun p l a b c d e f g o s n i res u1' u2' yy' => ?_
  subst u1' u2'
  obtain ⟨hk, rfl⟩ := Prod.mk.inj (Option.some.inj yy')
  exact zz_tileFits_1 _ _ _ _ _ _ _ _ _ _ _ _ _ _ hk
theorem zz_tileFits_2 (p : Pm) (l : List (Int × Bool × Int × Int)) (t : List Int) (a b c d e f g o x y s m u res : Int) (hsm : small (t.length) = true) (hc : (inr 0 12 (min p.bx x) && inr 0 12 (min p.bw y)) = true) : ZZ (c_tileFits_2 p l t a b c d e f g o x y s m u res) T_tileFits_2 [.one (.ptr 0 0), .one (.ptr 1 0), .one (.int .i64 s), .one (.ptr 2 0), .one (.int .i64 res), .one (.ptr 3 0), .one (.lst (.pair (.int .i64) (.pair .bool (.pair (.int .i64) (.int .i64)))) l), .one (.int .i64 m), .one (.int .i64 u), .one (.row 4), .one (.int .i64 (t.length : Int)), .one (.int .i64 0)] [some (.box (pmC p)), some (.box [.int .i64 a, .int .i64 b, .int .i64 c, .int .i64 d]), some (.box [.int .i64 e, .int .i64 f, .int .i64 g, .int .i64 o]), some (.box [.int .i64 x, .int .i64 y]), some (.arr 3 (.int .i64) t)] := by
  refine z_list (st := fun i => ([.one (.ptr 0 0), .one (.ptr 1 0), .one (.int .i64 s), .one (.ptr 2 0), .one (.int .i64 res), .one (.ptr 3 0), .one (.lst (.pair (.int .i64) (.pair .bool (.pair (.int .i64) (.int .i64)))) l), .one (.int .i64 m), .one (.int .i64 u), .one (.row 4), .one (.int .i64 (t.length : Int)), .one (.int .i64 ((i : Nat) : Int))], [some (.box (pmC p)), some (.box [.int .i64 a, .int .i64 b, .int .i64 c, .int .i64 d]), some (.box [.int .i64 e, .int .i64 f, .int .i64 g, .int .i64 o]), some (.box [.int .i64 x, .int .i64 y]), some (.arr 3 (.int .i64) t)])) t 0 (fun k => decide (cellsR (bandR e f g o p.le k) (min p.bx x) (min p.bw y) ≤ 65536)) _ _ (fun i hi F K => ?_) (fun F K => ?_)
  · have hi' : (i : Int) < (t.length : Int) := by omega
    have hc' := hc
    simp only [Bool.and_eq_true, decide_eq_true_eq] at hc'
    simp only [tu_tileFits_2, U_tileFits_2, LT.next, LT.run, ite2_dec, ite2_bool, wrap_next hi hsm, Int.toNat_natCast, hi', Int.natCast_nonneg, and_self, if_true, gI, gP, gC, gR]
    simp [mn_eq, hc', hi, cellsR, pmC]
    grind
  · simp only [tu_tileFits_2, U_tileFits_2, LT.next, LT.run, ite2_dec, Int.lt_irrefl, if_false]
    try rfl
theorem z_tileFits_2 : ZOk S_tileFits_2 T_tileFits_2 := by
  intro vs bl t y0'
  refine d_tileFits_2 y0' fun p l t a b c d e f g o x y s m u res n i u1' u2' yy' => ?_
  subst u1' u2'
  obtain ⟨hk, rfl⟩ := Prod.mk.inj (Option.some.inj yy')
  unfold k_tileFits_2 at hk
  simp only [Bool.and_eq_true, decide_eq_true_eq, and_assoc] at hk
  obtain ⟨rfl, rfl, hsm, hc⟩ := hk
  exact zz_tileFits_2 _ _ _ _ _ _ _ _ _ _ _ _ _ _ _ _ _ hsm (by first | exact hc | simpa using hc | simpa only [Bool.and_eq_true, decide_eq_true_eq, and_assoc] using hc)
theorem q_tileFits (h : Hd) (p : Pm) (a b c d : Int) (hok : (nums p && valid a b c d && small h.cs.length && decide (h.cs.length ≤ 4)) = true) : funR Try.prog t_tileFits (annOf []) l_tileFits 20 Try.f50 [.agg (hdC h), .agg (pmC p), .agg [.int .i64 a, .int .i64 b, .int .i64 c, .int .i64 d]] [] = some ⟨.one (.bool (fits (a, b, c, d) p h.cs)), [], []⟩ := by
    refine (e_tileFits ..).trans ?_
    simp only [Bool.and_eq_true, decide_eq_true_eq] at hok
    have hk : k_tileFits_0 p h.cs a b c d 0 (h.cs.length : Int) 0 = true := by simp [k_tileFits_0, hok]
    rw [hk]
    simp only [fits, ite2_bool, if_true]
    cases compsOK (a, b, c, d) p h.cs <;> rfl
theorem s_tileFits : SoundFun Try.prog 50 G_tileFits := by
  refine fun_ok (tab := t_tileFits) (ann := annOf []) (lt := l_tileFits) (tab_cons s_pyr_Band (tab_cons s_rect_Reduce (tab_cons s_pyr_Resolution (tab_cons s_params_Precinct (tab_cons s_params_cells (tab_cons s_pyr_Indices tab_nil)))))) (by kernel_rfl) (fn := Try.f50) (by kernel_rfl) (by decide) (c := bodyOf Try.f50) (by kernel_rfl) (by
    intro m b hb
    have hb' : b ∈ loopsOf (bodyOf Try.f50) := hb
    rw [o_tileFits] at hb'
    simp only [List.mem_cons, List.not_mem_nil, or_false] at hb'
    rcases hb' with rfl | rfl | rfl
    · exact loop_ok (key := 3) (by kernel_rfl) rfl r_tileFits_0 z_tileFits_0 m
    · exact loop_ok (key := 7) (by kernel_rfl) rfl r_tileFits_1 z_tileFits_1 m
    · exact loop_ok (key := 14) (by kernel_rfl) rfl r_tileFits_2 z_tileFits_2 m
    ) ?_ (keep_nil (by kernel_rfl))
  intro args lent o y0'
  unfold G_tileFits at y0'
  obtain ⟨q', args, rfl, y1'⟩ := pA_s y0'
  obtain ⟨h, rfl, y2'⟩ := rdHd_s y1'
  obtain ⟨q', args, rfl, y3'⟩ := pA_s y2'
  obtain ⟨p, rfl, y4'⟩ := rdPm_s y3'
  obtain ⟨q', args, rfl, y5'⟩ := pA_s y4'
  obtain ⟨a, b, c, d, q', rfl, y6'⟩ := t4_s y5'
  obtain ⟨rfl, y7'⟩ := tE_s y6'
  obtain ⟨rfl, y8'⟩ := pE_s y7'
  obtain ⟨rfl, y9'⟩ := nE_s y8'
  have yy' := y9'
  unfold H_tileFits at yy'
  obtain ⟨hok, rfl⟩ := Prod.mk.inj (Option.some.inj yy')
  exact ⟨20, q_tileFits _ _ _ _ _ _ hok⟩
theorem header_ok {h : Hd} (e : header h = 0) : valid h.a h.b h.c h.d = true ∧ empty h.a h.b h.c h.d = false ∧ inr 1 4096 h.tw = true ∧ inr 1 4096 h.th = true ∧ inr 1 4 h.cs.length = true ∧ h.cs.all (okC h) = true ∧ tiles h ≤ 1024 ∧ h.cs.all (smC h) = true := by
  unfold header at e
  split at e
  · cases e
  · rename_i h1
    split at e
    · cases e
    · rename_i h2
      simp only [Bool.or_eq_true, Bool.not_eq_true', decide_eq_true_eq, not_or, Bool.not_eq_false, Bool.not_eq_true] at h1 h2
      exact ⟨h1.1.1.1.1.1, h1.1.1.1.1.2, h1.1.1.1.2, h1.1.1.2, h1.1.2, h1.2, by omega, h2.2⟩
theorem valid_inter {a b c d : Int} (h : valid a b c d = true) (e f g o : Int) : validR (inter a b c d e f g o) = true := by
  have hb := valid_b h
  unfold inter
  split
  · rfl
  · rename_i he
    simp only [empty, Bool.or_eq_true, decide_eq_true_eq, not_or] at he
    show valid (max a e) (max b f) (min c g) (min d o) = true
    exact valid_i (by omega)
theorem valid_rowL {a b c d : Int} (hv : valid a b c d = true) (w h j : Int) : ∀ n i, (rowL a b c d w h j n i).all validR = true
  | 0, i => rfl
  | n + 1, i => by
    simp only [rowL, List.all_cons, valid_rowL hv w h j n, Bool.and_true]
    exact valid_inter hv ..
theorem valid_gridL {a b c d : Int} (hv : valid a b c d = true) (w h l : Int) (m : Nat) : ∀ n j, (gridL a b c d w h l m n j).all validR = true
  | 0, j => rfl
  | n + 1, j => by
    simp only [gridL, List.all_append, valid_rowL hv, valid_gridL hv w h l m n, Bool.and_true]
theorem valid_tilesL (a b c d w h : Int) : (tilesL a b c d w h).all validR = true := by
  unfold tilesL
  split
  · rfl
  · rename_i h1
    split
    · rfl
    · simp only [Bool.or_eq_true, Bool.not_eq_true', decide_eq_true_eq, not_or, Bool.not_eq_false] at h1
      exact valid_gridL h1.1.1.1 ..
theorem gridL_len (a b c d w h l : Int) (m : Nat) : ∀ n j, (gridL a b c d w h l m n j).length = n * m
  | 0, j => by simp [gridL]
  | n + 1, j => by simp only [gridL, List.length_append, rowL_len, gridL_len a b c d w h l m n, Nat.add_mul]; omega
theorem tilesL_len (a b c d w h : Int) : (tilesL a b c d w h).length ≤ 65536 := by
  unfold tilesL
  split
  · simp
  · rename_i h1
    split
    · simp
    · rename_i h2
      simp only [Bool.or_eq_true, Bool.not_eq_true', decide_eq_true_eq, not_or, Bool.not_eq_false] at h1
      have hb := valid_b h1.1.1.1
      have s1 := span_b hb.1 hb.2.1 hb.2.2.1 (show 1 ≤ w by omega)
      have s2 := span_b hb.2.2.2.1 hb.2.2.2.2.1 hb.2.2.2.2.2 (show 1 ≤ h by omega)
      rw [gridL_len]
      have e : (((cdiv d h - fdiv b h).toNat * (cdiv c w - fdiv a w).toNat : Nat) : Int) = (cdiv c w - fdiv a w) * (cdiv d h - fdiv b h) := by
        rw [Int.natCast_mul, Int.toNat_of_nonneg (by omega), Int.toNat_of_nonneg (by omega), Int.mul_comm]
      omega
theorem tilesL_sm (a b c d w h : Int) : small (tilesL a b c d w h).length = true := by
  have := tilesL_len a b c d w h
  simp only [small, decide_eq_true_eq]; omega
theorem d_params_Check_0 {α : Type} {vs : List V} {bl : List (Option Blk)} {K} {r : α} {Q : Prop} (y0' : D_params_Check_0 vs bl K = some r) (hh' : ∀ (h : Hd) (p : Pm) (t : List Rc) (n : Int) (i : Int), vs = [.one (.ptr 0 0), .one (.ptr 1 0), .one (.row 2), .one (.int .i64 n), .one (.int .i64 i)] → bl = [some (.box (hdC h)), some (.box (pmC p)), some (.arr 28 (.pair (.int .i64) (.pair (.int .i64) (.pair (.int .i64) (.int .i64)))) t)] → K h p t n i = some r → Q) : Q := by
  unfold D_params_Check_0 at y0'
  obtain ⟨vs, rfl, y1'⟩ := pP_s y0'
  obtain ⟨vs, rfl, y2'⟩ := pP_s y1'
  obtain ⟨c', vs, rfl, y3'⟩ := pO_s y2'
  obtain ⟨rfl, y4'⟩ := kR_s y3'
  obtain ⟨n, vs, rfl, y5'⟩ := pI_s y4'
  obtain ⟨i, vs, rfl, y6'⟩ := pI_s y5'
  obtain ⟨rfl, y7'⟩ := pE_s y6'
  obtain ⟨q', bl, rfl, y8'⟩ := bB_s y7'
  obtain ⟨h, rfl, y9'⟩ := rdHd_s y8'
  obtain ⟨q', bl, rfl, y10'⟩ := bB_s y9'
  obtain ⟨p, rfl, y11'⟩ := rdPm_s y10'
  obtain ⟨t, bl, rfl, y12'⟩ := bAR_s y11'
  obtain ⟨rfl, y13'⟩ := bE_s y12'
  have yy' := y13'
  exact hh' _ _ _ _ _ rfl rfl yy'
theorem r_params_Check_0 : RoundOk Try.prog t_params_Check (annOf []) l_params_Check Out 20 0 54 [2, 3, 42, 43, 44] (kxOf [] [4]) (loopOf Try.f22 0) T_params_Check_0 := by
  intro vs bl Kc r h
  unfold T_params_Check_0 at h
  obtain ⟨t, y0', h'⟩ := getD_run h
  refine d_params_Check_0 y0' fun h p t n i u1' u2' yy' => ?_
  subst u1' u2'
  cases yy'
  exact (b_params_Check_0 ..).trans h'
theorem o_params_Check : loopsOf (bodyOf Try.f22) = [loopOf Try.f22 0] := by kernel_rfl
theorem zz_params_Check_0 (h : Hd) (p : Pm) (t : List Rc) (hsm : small (t.length) = true) (hc : (nums p && t.all validR && decide (h.cs.length ≤ 4)) = true) : ZZ (c_params_Check_0 h p t) T_params_Check_0 [.one (.ptr 0 0), .one (.ptr 1 0), .one (.row 2), .one (.int .i64 (t.length : Int)), .one (.int .i64 0)] [some (.box (hdC h)), some (.box (pmC p)), some (.arr 28 (.pair (.int .i64) (.pair (.int .i64) (.pair (.int .i64) (.int .i64)))) t)] := by
  refine z_list (st := fun i => ([.one (.ptr 0 0), .one (.ptr 1 0), .one (.row 2), .one (.int .i64 (t.length : Int)), .one (.int .i64 ((i : Nat) : Int))], [some (.box (hdC h)), some (.box (pmC p)), some (.arr 28 (.pair (.int .i64) (.pair (.int .i64) (.pair (.int .i64) (.int .i64)))) t)])) t (0, 0, 0, 0) (fun r => fits r p h.cs) _ _ (fun i hi F K => ?_) (fun F K => ?_)
  · have hi' : (i : Int) < (t.length : Int) := by omega
    have hc' := hc
    simp only [Bool.and_eq_true, decide_eq_true_eq] at hc'
    have hv : validR (t.getD i (0, 0, 0, 0)) = true := by
      rw [List.getD_eq_getElem?_getD, List.getElem?_eq_getElem hi]
      exact List.all_eq_true.1 hc'.1.2 _ (List.getElem_mem hi)
    unfold validR at hv
    have hsc : small h.cs.length = true := by simp only [small, decide_eq_true_eq]; omega
    simp only [tu_params_Check_0, U_params_Check_0, LT.next, LT.run, ite2_dec, ite2_bool, wrap_next hi hsm, Int.toNat_natCast, hi', Int.natCast_nonneg, and_self, if_true, gI, gP, gC, gR]
    have eT : ∀ x : Rc, (x.1, x.2.1, x.2.2.1, x.2.2.2) = x := fun _ => rfl
    simp only [eT, hv, hc', hi, hsc, hdC, pmC, decide_true, Bool.and_self, if_true]
    by_cases q : fits (t.getD i (0, 0, 0, 0)) p h.cs = true
    · simp only [q, Bool.not_true, Bool.false_eq_true, if_false, if_true]
    · simp only [Bool.not_eq_true] at q
      simp only [q, Bool.not_false, Bool.false_eq_true, if_false, if_true]
  · simp only [tu_params_Check_0, U_params_Check_0, LT.next, LT.run, ite2_dec, Int.lt_irrefl, if_false]
    try rfl
theorem z_params_Check_0 : ZOk S_params_Check_0 T_params_Check_0 := by
  intro vs bl t y0'
  refine d_params_Check_0 y0' fun h p t n i u1' u2' yy' => ?_
  subst u1' u2'
  obtain ⟨hk, rfl⟩ := Prod.mk.inj (Option.some.inj yy')
  unfold k_params_Check_0 at hk
  simp only [Bool.and_eq_true, decide_eq_true_eq, and_assoc] at hk
  obtain ⟨rfl, rfl, hsm, hc⟩ := hk
  exact zz_params_Check_0 _ _ _ hsm (by first | exact hc | simpa using hc | simpa only [Bool.and_eq_true, decide_eq_true_eq, and_assoc] using hc)
theorem q_params_Check (h : Hd) (p : Pm) (hok : (small h.cs.length && (small p.pr.length && small p.st.length)) = true) : funR Try.prog t_params_Check (annOf []) l_params_Check 20 Try.f22 [.agg (hdC h), .agg (pmC p)] [] = some ⟨.one (.int .i64 (checkA h p)), [], []⟩ := by
    refine (e_params_Check ..).trans ?_
    simp only [Bool.and_eq_true] at hok
    simp only [ite2_bool, within, List.all_cons, List.all_nil, Bool.and_true, hok, Bool.and_self, if_true]
    by_cases hh : header h = 0
    rotate_left
    · simp [checkA, hh]
    have hb := header_ok hh
    have h1 := inr_b hb.2.2.1
    have h2 := inr_b hb.2.2.2.1
    have h3 := inr_b hb.2.2.2.2.1
    have h4 := tilesL_sm h.a h.b h.c h.d h.tw h.th
    have h5 := valid_tilesL h.a h.b h.c h.d h.tw h.th
    have h6 : h.cs.length ≤ 4 := by omega
    by_cases c1 : inr 1 3 p.ke = true
    rotate_left
    · simp [checkA, hh, kinds, c1]
    by_cases c2 : inr 0 2 p.co = true
    rotate_left
    · simp [checkA, hh, kinds, c1, c2]
    by_cases c3 : inr 1 5 p.od = true
    rotate_left
    · simp [checkA, hh, kinds, c1, c2, c3]
    by_cases c4 : nums p = true
    rotate_left
    · simp [checkA, hh, kinds, c1, c2, c3, c4]
    by_cases c5 : colors h p = true
    rotate_left
    · simp [checkA, hh, kinds, c1, c2, c3, c4, c5]
    have hk : k_params_Check_0 h p (tilesL h.a h.b h.c h.d h.tw h.th) ((tilesL h.a h.b h.c h.d h.tw h.th).length : Int) 0 = true := by simp only [k_params_Check_0, c4, h4, h5, h6, decide_true, Bool.and_self]
    simp only [checkA, hh, kinds, c1, c2, c3, c4, c5, hk, p_params_Check_0]
    by_cases c6 : (tilesL h.a h.b h.c h.d h.tw h.th).all (fun r => fits r p h.cs) = true <;> simp [h1, h2, c6]
theorem s_params_Check : SoundFun Try.prog 22 G_params_Check := by
  refine fun_ok (tab := t_params_Check) (ann := annOf []) (lt := l_params_Check) (tab_cons s_params_Header (tab_cons s_params_within (tab_cons s_params_numbers (tab_cons s_rect_Cells (tab_cons s_tileFits tab_nil))))) (by kernel_rfl) (fn := Try.f22) (by kernel_rfl) (by decide) (c := bodyOf Try.f22) (by kernel_rfl) (by
    intro m b hb
    have hb' : b ∈ loopsOf (bodyOf Try.f22) := hb
    rw [o_params_Check] at hb'
    simp only [List.mem_cons, List.not_mem_nil, or_false] at hb'
    rcases hb' with rfl
    · exact loop_ok (key := 9) (by kernel_rfl) rfl r_params_Check_0 z_params_Check_0 m
    ) ?_ (keep_nil (by kernel_rfl))
  intro args lent o y0'
  unfold G_params_Check at y0'
  obtain ⟨q', args, rfl, y1'⟩ := pA_s y0'
  obtain ⟨h, rfl, y2'⟩ := rdHd_s y1'
  obtain ⟨q', args, rfl, y3'⟩ := pA_s y2'
  obtain ⟨p, rfl, y4'⟩ := rdPm_s y3'
  obtain ⟨rfl, y5'⟩ := pE_s y4'
  obtain ⟨rfl, y6'⟩ := nE_s y5'
  have yy' := y6'
  unfold H_params_Check at yy'
  obtain ⟨hok, rfl⟩ := Prod.mk.inj (Option.some.inj yy')
  exact ⟨20, q_params_Check _ _ hok⟩
theorem q_rect_Has (a b c d x y : Int) (hok : true = true) : funR Try.prog t_rect_Has (annOf []) l_rect_Has 20 Try.f21 [.agg [.int .i64 a, .int .i64 b, .int .i64 c, .int .i64 d], .agg [.int .i64 x, .int .i64 y]] [] = some ⟨.one (.bool (has a b c d x y)), [], []⟩ := by
    refine (e_rect_Has ..).trans ?_
    simp only [ite2_dec, ite2_bool, mx_eq, mn_eq, has]
    (repeat' split) <;> (try simp_all) <;> (try omega) <;> (try (rw [Bool.eq_iff_iff]; simp; omega))
theorem s_rect_Has : SoundFun Try.prog 21 G_rect_Has := by
  refine fun_ok (tab := t_rect_Has) (ann := annOf []) (lt := l_rect_Has) tab_nil (by kernel_rfl) (fn := Try.f21) (by kernel_rfl) (by decide) (c := bodyOf Try.f21) (by kernel_rfl) (no_loops (by kernel_rfl)) ?_ (keep_nil (by kernel_rfl))
  intro args lent o y0'
  unfold G_rect_Has at y0'
  obtain ⟨q', args, rfl, y1'⟩ := pA_s y0'
  obtain ⟨a, b, c, d, q', rfl, y2'⟩ := t4_s y1'
  obtain ⟨rfl, y3'⟩ := tE_s y2'
  obtain ⟨q', args, rfl, y4'⟩ := pA_s y3'
  obtain ⟨x, q', rfl, y5'⟩ := tI_s y4'
  obtain ⟨y, q', rfl, y6'⟩ := tI_s y5'
  obtain ⟨rfl, y7'⟩ := tE_s y6'
  obtain ⟨rfl, y8'⟩ := pE_s y7'
  obtain ⟨rfl, y9'⟩ := nE_s y8'
  have yy' := y9'
  unfold H_rect_Has at yy'
  obtain ⟨hok, rfl⟩ := Prod.mk.inj (Option.some.inj yy')
  exact ⟨20, q_rect_Has _ _ _ _ _ _ hok⟩

theorem q_lay_Tiles (h : Hd) (hok : small h.cs.length = true) : funR Try.prog t_lay_Tiles (annOf []) l_lay_Tiles 20 Try.f23 [.agg (hdC h)] [] = some ⟨.one (.row 0), [], [.arr 28 (.pair (.int .i64) (.pair (.int .i64) (.pair (.int .i64) (.int .i64)))) (tilesH h)]⟩ := by
    refine (e_lay_Tiles ..).trans ?_
    simp only [ite2_bool, hok, if_true, tilesH]
    by_cases hh : header h = 0
    · have hb := header_ok hh
      have h1 := inr_b hb.2.2.1
      have h2 := inr_b hb.2.2.2.1
      simp [hh, h1.2, h2.2]
    · simp [hh]
theorem s_lay_Tiles : SoundFun Try.prog 23 G_lay_Tiles := by
  refine fun_ok (tab := t_lay_Tiles) (ann := annOf []) (lt := l_lay_Tiles) (tab_cons s_params_Header (tab_cons s_rect_Cells tab_nil)) (by kernel_rfl) (fn := Try.f23) (by kernel_rfl) (by decide) (c := bodyOf Try.f23) (by kernel_rfl) (no_loops (by kernel_rfl)) ?_ (keep_nil (by kernel_rfl))
  intro args lent o y0'
  unfold G_lay_Tiles at y0'
  obtain ⟨q', args, rfl, y1'⟩ := pA_s y0'
  obtain ⟨h, rfl, y2'⟩ := rdHd_s y1'
  obtain ⟨rfl, y3'⟩ := pE_s y2'
  obtain ⟨rfl, y4'⟩ := nE_s y3'
  have yy' := y4'
  unfold H_lay_Tiles at yy'
  obtain ⟨hok, rfl⟩ := Prod.mk.inj (Option.some.inj yy')
  exact ⟨20, q_lay_Tiles _ hok⟩

theorem q_lay_Component (h : Hd) (t k : Int) (hok : small h.cs.length = true) : funR Try.prog t_lay_Component (annOf []) l_lay_Component 20 Try.f24 [.agg (hdC h), .one (.int .i64 t), .one (.int .i64 k)] [] = some ⟨.agg [.int .i64 ((compT h t k).1), .int .i64 ((compT h t k).2.1), .int .i64 ((compT h t k).2.2.1), .int .i64 ((compT h t k).2.2.2)], [], []⟩ := by
    refine (e_lay_Component ..).trans ?_
    simp only [ite2_bool, decide_eq_true_eq, compT, hok, if_true]
    by_cases h1 : t < 0
    · simp [h1]
    by_cases h2 : t ≥ ((tilesH h).length : Int)
    · simp [h1, h2]
    by_cases h3 : k < 0
    · simp [h1, h2, h3]
    by_cases h4 : k ≥ (h.cs.length : Int)
    · simp [h1, h2, h3, h4]
    have h5 : ¬ (t < 0 ∨ t ≥ ((tilesH h).length : Int) ∨ k < 0 ∨ k ≥ (h.cs.length : Int)) := by omega
    have h6 : 0 ≤ k ∧ k < (h.cs.length : Int) := by omega
    have h7 : 0 ≤ t ∧ t < ((tilesH h).length : Int) := by omega
    have h8 : t.toNat < (tilesH h).length := by omega
    simp only [h1, h2, h3, h4, h5, h6, h7, h8, and_self, if_true, if_false]
    rfl
theorem s_lay_Component : SoundFun Try.prog 24 G_lay_Component := by
  refine fun_ok (tab := t_lay_Component) (ann := annOf []) (lt := l_lay_Component) (tab_cons s_lay_Tiles (tab_cons s_rect_Reduce tab_nil)) (by kernel_rfl) (fn := Try.f24) (by kernel_rfl) (by decide) (c := bodyOf Try.f24) (by kernel_rfl) (no_loops (by kernel_rfl)) ?_ (keep_nil (by kernel_rfl))
  intro args lent o y0'
  unfold G_lay_Component at y0'
  obtain ⟨q', args, rfl, y1'⟩ := pA_s y0'
  obtain ⟨h, rfl, y2'⟩ := rdHd_s y1'
  obtain ⟨t, args, rfl, y3'⟩ := pI_s y2'
  obtain ⟨k, args, rfl, y4'⟩ := pI_s y3'
  obtain ⟨rfl, y5'⟩ := pE_s y4'
  obtain ⟨rfl, y6'⟩ := nE_s y5'
  have yy' := y6'
  unfold H_lay_Component at yy'
  obtain ⟨hok, rfl⟩ := Prod.mk.inj (Option.some.inj yy')
  exact ⟨20, q_lay_Component _ _ _ hok⟩

theorem gI_rd (l : List Int) (i : Nat) : gI l i = rd l i := by
  simp [gI, rd, List.getD_eq_getElem?_getD]
theorem fitB_d (b : Int) (l : List Int) : fitB b l = decide (fit b l) := by
  rw [Bool.eq_iff_iff, decide_eq_true_eq]
  unfold fitB fit
  rw [List.all_eq_true]
  constructor
  · intro h x hx; exact inr_b (h x hx)
  · intro h x hx; have := h x hx; exact inr_t this.1 this.2
theorem q_lift_Margin (k : Int) (hok : true = true) : funR Try.prog t_lift_Margin (annOf []) l_lift_Margin 20 Try.f56 [.one (.int .i64 k)] [] = some ⟨.one (.int .i64 (marg k)), [], []⟩ := by
    refine (e_lift_Margin ..).trans ?_
    simp only [ite2_bool, beq_iff_eq, marg]
    by_cases h1 : k = 1
    · subst h1; rfl
    by_cases h2 : k = 2
    · subst h2; rfl
    have h3 : inr 1 2 k = false := by simp [inr]; omega
    rw [if_neg h1, if_neg h2, h3]
    by_cases h4 : k = 3 <;> simp [h4]
theorem s_lift_Margin : SoundFun Try.prog 56 G_lift_Margin := by
  refine fun_ok (tab := t_lift_Margin) (ann := annOf []) (lt := l_lift_Margin) tab_nil (by kernel_rfl) (fn := Try.f56) (by kernel_rfl) (by decide) (c := bodyOf Try.f56) (by kernel_rfl) (no_loops (by kernel_rfl)) ?_ (keep_nil (by kernel_rfl))
  intro args lent o y0'
  unfold G_lift_Margin at y0'
  obtain ⟨k, args, rfl, y1'⟩ := pI_s y0'
  obtain ⟨rfl, y2'⟩ := pE_s y1'
  obtain ⟨rfl, y3'⟩ := nE_s y2'
  have yy' := y3'
  unfold H_lift_Margin at yy'
  obtain ⟨hok, rfl⟩ := Prod.mk.inj (Option.some.inj yy')
  exact ⟨20, q_lift_Margin _ hok⟩



theorem prod_b5 {x y m n : Int} (h0 : 0 ≤ x) (h1 : x ≤ m) (h2 : 0 ≤ y) (h3 : y ≤ n) : 0 ≤ x * y ∧ x * y ≤ m * n :=
  ⟨Int.mul_nonneg h0 h2, Int.mul_le_mul h1 h3 h2 (by omega)⟩
theorem marg_k (k : Int) : decide (marg k > 0) = inr 1 3 k := by
  unfold marg
  by_cases h1 : k = 1
  · subst h1; rfl
  by_cases h2 : k = 2
  · subst h2; rfl
  by_cases h3 : k = 3
  · subst h3; rfl
  have h4 : inr 1 3 k = false := by simp [inr]; omega
  have h5 : inr 1 2 k = false := by simp [inr]; omega
  simp [h3, h4, h5]
theorem area_v {a b c d : Int} (h : valid a b c d = true) : area a b c d = (c - a) * (d - b) ∧ 0 ≤ area a b c d ∧ area a b c d ≤ 16777216 := by
  have hb := valid_b h
  have m := prod_b5 (show 0 ≤ c - a by omega) (show c - a ≤ 4096 by omega) (show 0 ≤ d - b by omega) (show d - b ≤ 4096 by omega)
  have e : area a b c d = (c - a) * (d - b) := by
    unfold area w
    rw [if_pos h, wrap_in (n := c - a) (by omega) (by omega), wrap_in (n := d - b) (by omega) (by omega), wrap_in (by omega) (by omega)]
  omega

theorem fitB_fit {b : Int} {l : List Int} (h : fitB b l = true) : fit b l := by rw [fitB_d] at h; simpa using h
theorem gI_fit {b : Int} {l : List Int} (h0 : 0 ≤ b) (h : fit b l) (i : Nat) : -b ≤ gI l i ∧ gI l i ≤ b := by
  rw [gI_rd]; exact Bd.of_mem h0 h i
theorem valid_i5 {a b c d : Int} (h : 0 ≤ a ∧ a ≤ c ∧ c ≤ 4096 ∧ 0 ≤ b ∧ b ≤ d ∧ d ≤ 4096) : valid a b c d = true := by
  simp only [valid, Bool.and_eq_true, decide_eq_true_eq, and_assoc]
  exact h
theorem valid_bnd5 {a b c d o : Int} (h0 : 0 ≤ o) (h1 : o ≤ 3) : valid (bnd a b c d o).1 (bnd a b c d o).2.1 (bnd a b c d o).2.2.1 (bnd a b c d o).2.2.2 = true := by
  unfold bnd
  split
  · rename_i h
    have hb := valid_b h
    exact valid_i5 (by simp only; omega)
  · rfl




end Go.Rx.Ch30
