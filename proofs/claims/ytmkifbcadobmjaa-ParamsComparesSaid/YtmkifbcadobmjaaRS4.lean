/- The summaries of these functions are sound. -/
import Derived.Test.YtmkifbcadobmjaaRE4
import Derived.Test.YtmkifbcadobmjaaRS3
set_option linter.unnecessarySimpa false
set_option linter.unusedVariables false
set_option linter.unusedSimpArgs false
set_option linter.unusedVariables false
set_option linter.unusedSimpArgs false
set_option maxRecDepth 100000
set_option maxHeartbeats 4000000
open Go Go.Rx Go.Proofs
namespace Go.Rx.Ch23
theorem q_ref23_kinds (p : Pm) (hok : true = true) : funR Try.prog t_ref23_kinds (annOf []) l_ref23_kinds 20 Try.f44 [.agg (pmC p)] [] = some ⟨.one (.bool (kinds p)), [], []⟩ := by
    refine (e_ref23_kinds ..).trans ?_
    simp only [ite2_dec, ite2_bool, mx_eq, mn_eq, kinds, inr]
    (repeat' split) <;> (try simp_all) <;> (try omega) <;> (try (rw [Bool.eq_iff_iff]; simp; omega))
theorem s_ref23_kinds : SoundFun Try.prog 44 G_ref23_kinds := by
  refine fun_ok (tab := t_ref23_kinds) (ann := annOf []) (lt := l_ref23_kinds) tab_nil (by kernel_rfl) (fn := Try.f44) (by kernel_rfl) (by decide) (c := bodyOf Try.f44) (by kernel_rfl) (fun m b hb => absurd hb (by show b ∉ loopsOf (bodyOf Try.f44); rw [show loopsOf (bodyOf Try.f44) = [] from by kernel_rfl]; exact List.not_mem_nil)) ?_
  intro args lent o y0'
  unfold G_ref23_kinds at y0'
  obtain ⟨q', args, rfl, y1'⟩ := pA_s y0'
  obtain ⟨p, rfl, y2'⟩ := rdPm_s y1'
  obtain ⟨rfl, y3'⟩ := pE_s y2'
  obtain ⟨rfl, y4'⟩ := nE_s y3'
  have yy' := y4'
  unfold H_ref23_kinds at yy'
  obtain ⟨hok, rfl⟩ := Prod.mk.inj (Option.some.inj yy')
  exact ⟨20, q_ref23_kinds _ hok⟩
theorem q_ref23_in (a b c : Int) (hok : true = true) : funR Try.prog t_ref23_in (annOf []) l_ref23_in 20 Try.f38 [.one (.int .i64 a), .one (.int .i64 b), .one (.int .i64 c)] [] = some ⟨.one (.bool (inr b c a)), [], []⟩ := by
    refine (e_ref23_in ..).trans ?_
    simp only [ite2_dec, ite2_bool, mx_eq, mn_eq, inr]
    (repeat' split) <;> (try simp_all) <;> (try omega) <;> (try (rw [Bool.eq_iff_iff]; simp; omega))
theorem s_ref23_in : SoundFun Try.prog 38 G_ref23_in := by
  refine fun_ok (tab := t_ref23_in) (ann := annOf []) (lt := l_ref23_in) tab_nil (by kernel_rfl) (fn := Try.f38) (by kernel_rfl) (by decide) (c := bodyOf Try.f38) (by kernel_rfl) (fun m b hb => absurd hb (by show b ∉ loopsOf (bodyOf Try.f38); rw [show loopsOf (bodyOf Try.f38) = [] from by kernel_rfl]; exact List.not_mem_nil)) ?_
  intro args lent o y0'
  unfold G_ref23_in at y0'
  obtain ⟨c', args, rfl, y1'⟩ := pO_s y0'
  obtain ⟨a, rfl, y2'⟩ := kI_s y1'
  obtain ⟨c', args, rfl, y3'⟩ := pO_s y2'
  obtain ⟨b, rfl, y4'⟩ := kI_s y3'
  obtain ⟨c', args, rfl, y5'⟩ := pO_s y4'
  obtain ⟨c, rfl, y6'⟩ := kI_s y5'
  obtain ⟨rfl, y7'⟩ := pE_s y6'
  obtain ⟨rfl, y8'⟩ := nE_s y7'
  have yy' := y8'
  unfold H_ref23_in at yy'
  obtain ⟨hok, rfl⟩ := Prod.mk.inj (Option.some.inj yy')
  exact ⟨20, q_ref23_in _ _ _ hok⟩
theorem q_ref23_tiles (h : Hd) (hok : true = true) : funR Try.prog t_ref23_tiles (annOf []) l_ref23_tiles 20 Try.f40 [.agg (hdC h)] [] = some ⟨.one (.int .i64 (tiles h)), [], []⟩ := by
    refine (e_ref23_tiles ..).trans ?_
    simp only [ite2_dec, tiles, w]
theorem s_ref23_tiles : SoundFun Try.prog 40 G_ref23_tiles := by
  refine fun_ok (tab := t_ref23_tiles) (ann := annOf []) (lt := l_ref23_tiles) (tab_cons s_ref01_CeilDiv (tab_cons s_ref01_FloorDiv tab_nil)) (by kernel_rfl) (fn := Try.f40) (by kernel_rfl) (by decide) (c := bodyOf Try.f40) (by kernel_rfl) (fun m b hb => absurd hb (by show b ∉ loopsOf (bodyOf Try.f40); rw [show loopsOf (bodyOf Try.f40) = [] from by kernel_rfl]; exact List.not_mem_nil)) ?_
  intro args lent o y0'
  unfold G_ref23_tiles at y0'
  obtain ⟨q', args, rfl, y1'⟩ := pA_s y0'
  obtain ⟨h, rfl, y2'⟩ := rdHd_s y1'
  obtain ⟨rfl, y3'⟩ := pE_s y2'
  obtain ⟨rfl, y4'⟩ := nE_s y3'
  have yy' := y4'
  unfold H_ref23_tiles at yy'
  obtain ⟨hok, rfl⟩ := Prod.mk.inj (Option.some.inj yy')
  exact ⟨20, q_ref23_tiles _ hok⟩
theorem r_params_Header_0 : RoundOk Try.prog t_params_Header (annOf []) l_params_Header Out 20 0 114 [1, 36, 37, 38] (kxOf [1] [2]) (loopOf Try.f11 0) T_params_Header_0 := by
  intro vs bl Kc r h
  unfold T_params_Header_0 at h
  obtain ⟨t, y0', h'⟩ := getD_run h
  obtain ⟨c', vs, rfl, y1'⟩ := pO_s y0'
  obtain ⟨rfl, y2'⟩ := kP_s y1'
  obtain ⟨c', vs, rfl, y3'⟩ := pO_s y2'
  obtain ⟨l, rfl, y4'⟩ := kLC_s y3'
  obtain ⟨c', vs, rfl, y5'⟩ := pO_s y4'
  obtain ⟨n, rfl, y6'⟩ := kI_s y5'
  obtain ⟨c', vs, rfl, y7'⟩ := pO_s y6'
  obtain ⟨i, rfl, y8'⟩ := kI_s y7'
  obtain ⟨rfl, y9'⟩ := pE_s y8'
  obtain ⟨q', bl, rfl, y10'⟩ := bB_s y9'
  obtain ⟨h, rfl, y11'⟩ := rdHd_s y10'
  obtain ⟨rfl, y12'⟩ := bE_s y11'
  have yy' := y12'
  cases yy'
  exact (b_params_Header_0 ..).trans ((congrArg (LT.runc · Kc) (tu_params_Header_0 ..)).trans h')
theorem r_params_Header_1 : RoundOk Try.prog t_params_Header (annOf []) l_params_Header Out 20 0 114 [1, 98, 99, 100] (kxOf [] [2]) (loopOf Try.f11 1) T_params_Header_1 := by
  intro vs bl Kc r h
  unfold T_params_Header_1 at h
  obtain ⟨t, y0', h'⟩ := getD_run h
  obtain ⟨c', vs, rfl, y1'⟩ := pO_s y0'
  obtain ⟨rfl, y2'⟩ := kP_s y1'
  obtain ⟨c', vs, rfl, y3'⟩ := pO_s y2'
  obtain ⟨l, rfl, y4'⟩ := kLC_s y3'
  obtain ⟨c', vs, rfl, y5'⟩ := pO_s y4'
  obtain ⟨n, rfl, y6'⟩ := kI_s y5'
  obtain ⟨c', vs, rfl, y7'⟩ := pO_s y6'
  obtain ⟨i, rfl, y8'⟩ := kI_s y7'
  obtain ⟨rfl, y9'⟩ := pE_s y8'
  obtain ⟨q', bl, rfl, y10'⟩ := bB_s y9'
  obtain ⟨h, rfl, y11'⟩ := rdHd_s y10'
  obtain ⟨rfl, y12'⟩ := bE_s y11'
  have yy' := y12'
  cases yy'
  exact (b_params_Header_1 ..).trans ((congrArg (LT.runc · Kc) (tu_params_Header_1 ..)).trans h')
theorem o_params_Header : loopsOf (bodyOf Try.f11) = [loopOf Try.f11 0, loopOf Try.f11 1] := by kernel_rfl
theorem zz_params_Header_0 (h : Hd) (l : List (Int × Bool × Int × Int)) (hsm : small (l.length) = true) (hc : true = true) : ∃ k, ∀ (K : Ex → List V → List (Option Blk) → Option Out) r, (c_params_Header_0 h l).run K = some r → (iter T_params_Header_0 k [.one (.ptr 0 0), .one (.lst (.pair (.int .i64) (.pair .bool (.pair (.int .i64) (.int .i64)))) l), .one (.int .i64 (l.length : Int)), .one (.int .i64 0)] [some (.box (hdC h))]).run K = some r := by
  refine z_list (st := fun i => ([.one (.ptr 0 0), .one (.lst (.pair (.int .i64) (.pair .bool (.pair (.int .i64) (.int .i64)))) l), .one (.int .i64 (l.length : Int)), .one (.int .i64 ((i : Nat) : Int))], [some (.box (hdC h))])) l (0, false, 0, 0) (okC h) _ _ (fun i hi F K => ?_) (fun F K => ?_)
  · have hi' : (i : Int) < (l.length : Int) := by omega
    simp only [tu_params_Header_0, U_params_Header_0, LT.next, LT.run, ite2_dec, ite2_bool, wrap_next hi hsm, Int.toNat_natCast, hi', Int.natCast_nonneg, and_self, if_true, gI, gP, gC, gR]
    simp only [okC, redH, emptyR, within, List.all_cons, List.all_nil, Bool.and_true]
    simp [hdC]
    grind
  · simp only [tu_params_Header_0, U_params_Header_0, LT.next, LT.run, ite2_dec, Int.lt_irrefl, if_false]
    try rfl
theorem z_params_Header_0 : ∀ vs bl t, S_params_Header_0 vs bl = some (true, t) → ∃ n, ∀ (K : Ex → List V → List (Option Blk) → Option Out) r, t.run K = some r → (iter T_params_Header_0 n vs bl).run K = some r := by
  intro vs bl t y0'
  unfold S_params_Header_0 at y0'
  obtain ⟨c', vs, rfl, y1'⟩ := pO_s y0'
  obtain ⟨rfl, y2'⟩ := kP_s y1'
  obtain ⟨c', vs, rfl, y3'⟩ := pO_s y2'
  obtain ⟨l, rfl, y4'⟩ := kLC_s y3'
  obtain ⟨c', vs, rfl, y5'⟩ := pO_s y4'
  obtain ⟨n, rfl, y6'⟩ := kI_s y5'
  obtain ⟨c', vs, rfl, y7'⟩ := pO_s y6'
  obtain ⟨i, rfl, y8'⟩ := kI_s y7'
  obtain ⟨rfl, y9'⟩ := pE_s y8'
  obtain ⟨q', bl, rfl, y10'⟩ := bB_s y9'
  obtain ⟨h, rfl, y11'⟩ := rdHd_s y10'
  obtain ⟨rfl, y12'⟩ := bE_s y11'
  have yy' := y12'
  obtain ⟨hk, rfl⟩ := Prod.mk.inj (Option.some.inj yy')
  unfold k_params_Header_0 at hk
  simp only [Bool.and_eq_true, decide_eq_true_eq, and_assoc] at hk
  obtain ⟨rfl, rfl, hsm, hc⟩ := hk
  exact zz_params_Header_0 _ _ hsm (by first | exact hc | simpa using hc)
theorem zz_params_Header_1 (h : Hd) (l : List (Int × Bool × Int × Int)) (hsm : small (l.length) = true) (hc : true = true) : ∃ k, ∀ (K : Ex → List V → List (Option Blk) → Option Out) r, (c_params_Header_1 h l).run K = some r → (iter T_params_Header_1 k [.one (.ptr 0 0), .one (.lst (.pair (.int .i64) (.pair .bool (.pair (.int .i64) (.int .i64)))) l), .one (.int .i64 (l.length : Int)), .one (.int .i64 0)] [some (.box (hdC h))]).run K = some r := by
  refine z_list (st := fun i => ([.one (.ptr 0 0), .one (.lst (.pair (.int .i64) (.pair .bool (.pair (.int .i64) (.int .i64)))) l), .one (.int .i64 (l.length : Int)), .one (.int .i64 ((i : Nat) : Int))], [some (.box (hdC h))])) l (0, false, 0, 0) (smC h) _ _ (fun i hi F K => ?_) (fun F K => ?_)
  · have hi' : (i : Int) < (l.length : Int) := by omega
    simp only [tu_params_Header_1, U_params_Header_1, LT.next, LT.run, ite2_dec, ite2_bool, wrap_next hi hsm, Int.toNat_natCast, hi', Int.natCast_nonneg, and_self, if_true, gI, gP, gC, gR]
    simp only [smC, redH, areaR]
    (repeat' split) <;> simp_all [hdC] <;> omega
  · simp only [tu_params_Header_1, U_params_Header_1, LT.next, LT.run, ite2_dec, Int.lt_irrefl, if_false]
    try rfl
theorem z_params_Header_1 : ∀ vs bl t, S_params_Header_1 vs bl = some (true, t) → ∃ n, ∀ (K : Ex → List V → List (Option Blk) → Option Out) r, t.run K = some r → (iter T_params_Header_1 n vs bl).run K = some r := by
  intro vs bl t y0'
  unfold S_params_Header_1 at y0'
  obtain ⟨c', vs, rfl, y1'⟩ := pO_s y0'
  obtain ⟨rfl, y2'⟩ := kP_s y1'
  obtain ⟨c', vs, rfl, y3'⟩ := pO_s y2'
  obtain ⟨l, rfl, y4'⟩ := kLC_s y3'
  obtain ⟨c', vs, rfl, y5'⟩ := pO_s y4'
  obtain ⟨n, rfl, y6'⟩ := kI_s y5'
  obtain ⟨c', vs, rfl, y7'⟩ := pO_s y6'
  obtain ⟨i, rfl, y8'⟩ := kI_s y7'
  obtain ⟨rfl, y9'⟩ := pE_s y8'
  obtain ⟨q', bl, rfl, y10'⟩ := bB_s y9'
  obtain ⟨h, rfl, y11'⟩ := rdHd_s y10'
  obtain ⟨rfl, y12'⟩ := bE_s y11'
  have yy' := y12'
  obtain ⟨hk, rfl⟩ := Prod.mk.inj (Option.some.inj yy')
  unfold k_params_Header_1 at hk
  simp only [Bool.and_eq_true, decide_eq_true_eq, and_assoc] at hk
  obtain ⟨rfl, rfl, hsm, hc⟩ := hk
  exact zz_params_Header_1 _ _ hsm (by first | exact hc | simpa using hc)
theorem q_params_Header (h : Hd) (hok : small h.cs.length = true) : funR Try.prog t_params_Header (annOf []) l_params_Header 20 Try.f11 [.agg (hdC h)] [] = some ⟨.one (.int .i64 (header h)), [], []⟩ := by
    refine (e_params_Header ..).trans ?_
    simp only [ite2_bool, k_params_Header_0, p_params_Header_0, k_params_Header_1, p_params_Header_1, header, tiles, w, within, List.all_cons, List.all_nil, Bool.and_true]
    grind
theorem s_params_Header : SoundFun Try.prog 11 G_params_Header := by
  refine fun_ok (tab := t_params_Header) (ann := annOf []) (lt := l_params_Header) (tab_cons s_rect_Empty (tab_cons s_rect_Area (tab_cons s_rect_Reduce (tab_cons s_rect_Valid (tab_cons s_params_within (tab_cons s_rect_CeilDiv (tab_cons s_rect_FloorDiv tab_nil))))))) (by kernel_rfl) (fn := Try.f11) (by kernel_rfl) (by decide) (c := bodyOf Try.f11) (by kernel_rfl) (by
    intro m b hb
    have hb' : b ∈ loopsOf (bodyOf Try.f11) := hb
    rw [o_params_Header] at hb'
    simp only [List.mem_cons, List.not_mem_nil, or_false] at hb'
    rcases hb' with rfl | rfl
    · exact loop_ok (key := 4) (by kernel_rfl) rfl r_params_Header_0 z_params_Header_0 m
    · exact loop_ok (key := 14) (by kernel_rfl) rfl r_params_Header_1 z_params_Header_1 m
    ) ?_
  intro args lent o y0'
  unfold G_params_Header at y0'
  obtain ⟨q', args, rfl, y1'⟩ := pA_s y0'
  obtain ⟨h, rfl, y2'⟩ := rdHd_s y1'
  obtain ⟨rfl, y3'⟩ := pE_s y2'
  obtain ⟨rfl, y4'⟩ := nE_s y3'
  have yy' := y4'
  unfold H_params_Header at yy'
  obtain ⟨hok, rfl⟩ := Prod.mk.inj (Option.some.inj yy')
  exact ⟨20, q_params_Header _ hok⟩
theorem r_ref23_Header_0 : RoundOk Try.prog t_ref23_Header (annOf []) l_ref23_Header Out 20 0 97 [1, 3] (kxOf [1] [2]) (loopOf Try.f12 0) T_ref23_Header_0 := by
  intro vs bl Kc r h
  unfold T_ref23_Header_0 at h
  obtain ⟨t, y0', h'⟩ := getD_run h
  obtain ⟨c', vs, rfl, y1'⟩ := pO_s y0'
  obtain ⟨rfl, y2'⟩ := kP_s y1'
  obtain ⟨c', vs, rfl, y3'⟩ := pO_s y2'
  obtain ⟨i, rfl, y4'⟩ := kI_s y3'
  obtain ⟨rfl, y5'⟩ := pE_s y4'
  obtain ⟨q', bl, rfl, y6'⟩ := bB_s y5'
  obtain ⟨h, rfl, y7'⟩ := rdHd_s y6'
  obtain ⟨rfl, y8'⟩ := bE_s y7'
  have yy' := y8'
  cases yy'
  exact (b_ref23_Header_0 ..).trans ((congrArg (LT.runc · Kc) (tu_ref23_Header_0 ..)).trans h')
theorem r_ref23_Header_1 : RoundOk Try.prog t_ref23_Header (annOf []) l_ref23_Header Out 20 0 97 [1, 5] (kxOf [] [2]) (loopOf Try.f12 1) T_ref23_Header_1 := by
  intro vs bl Kc r h
  unfold T_ref23_Header_1 at h
  obtain ⟨t, y0', h'⟩ := getD_run h
  obtain ⟨c', vs, rfl, y1'⟩ := pO_s y0'
  obtain ⟨rfl, y2'⟩ := kP_s y1'
  obtain ⟨c', vs, rfl, y3'⟩ := pO_s y2'
  obtain ⟨i, rfl, y4'⟩ := kI_s y3'
  obtain ⟨rfl, y5'⟩ := pE_s y4'
  obtain ⟨q', bl, rfl, y6'⟩ := bB_s y5'
  obtain ⟨h, rfl, y7'⟩ := rdHd_s y6'
  obtain ⟨rfl, y8'⟩ := bE_s y7'
  have yy' := y8'
  cases yy'
  exact (b_ref23_Header_1 ..).trans ((congrArg (LT.runc · Kc) (tu_ref23_Header_1 ..)).trans h')
theorem o_ref23_Header : loopsOf (bodyOf Try.f12) = [loopOf Try.f12 0, loopOf Try.f12 1] := by kernel_rfl
theorem zz_ref23_Header_0 (h : Hd) (hsm : small (h.cs.length) = true) (hc : true = true) : ∃ k, ∀ (K : Ex → List V → List (Option Blk) → Option Out) r, (c_ref23_Header_0 h).run K = some r → (iter T_ref23_Header_0 k [.one (.ptr 0 0), .one (.int .i64 0)] [some (.box (hdC h))]).run K = some r := by
  refine z_idx (st := fun i => ([.one (.ptr 0 0), .one (.int .i64 ((i : Nat) : Int))], [some (.box (hdC h))])) (h.cs.length) (fun j => okC h (gC h.cs j)) _ _ (fun i hi F K => ?_) (fun F K => ?_)
  · have hi' : (i : Int) < (h.cs.length : Int) := by omega
    simp only [tu_ref23_Header_0, U_ref23_Header_0, LT.next, LT.run, ite2_dec, ite2_bool, wrap_next hi hsm, Int.toNat_natCast, hi', Int.natCast_nonneg, and_self, if_true, gI, gP, gC, gR]
    simp only [okC, redH, emptyR]
    simp [hdC, gC]
    grind
  · simp only [tu_ref23_Header_0, U_ref23_Header_0, LT.next, LT.run, ite2_dec, Int.lt_irrefl, if_false]
    try rfl
theorem z_ref23_Header_0 : ∀ vs bl t, S_ref23_Header_0 vs bl = some (true, t) → ∃ n, ∀ (K : Ex → List V → List (Option Blk) → Option Out) r, t.run K = some r → (iter T_ref23_Header_0 n vs bl).run K = some r := by
  intro vs bl t y0'
  unfold S_ref23_Header_0 at y0'
  obtain ⟨c', vs, rfl, y1'⟩ := pO_s y0'
  obtain ⟨rfl, y2'⟩ := kP_s y1'
  obtain ⟨c', vs, rfl, y3'⟩ := pO_s y2'
  obtain ⟨i, rfl, y4'⟩ := kI_s y3'
  obtain ⟨rfl, y5'⟩ := pE_s y4'
  obtain ⟨q', bl, rfl, y6'⟩ := bB_s y5'
  obtain ⟨h, rfl, y7'⟩ := rdHd_s y6'
  obtain ⟨rfl, y8'⟩ := bE_s y7'
  have yy' := y8'
  obtain ⟨hk, rfl⟩ := Prod.mk.inj (Option.some.inj yy')
  unfold k_ref23_Header_0 at hk
  simp only [Bool.and_eq_true, decide_eq_true_eq, and_assoc] at hk
  obtain ⟨rfl, hsm, hc⟩ := hk
  exact zz_ref23_Header_0 _ hsm (by first | exact hc | simpa using hc)
theorem zz_ref23_Header_1 (h : Hd) (hsm : small (h.cs.length) = true) (hc : true = true) : ∃ k, ∀ (K : Ex → List V → List (Option Blk) → Option Out) r, (c_ref23_Header_1 h).run K = some r → (iter T_ref23_Header_1 k [.one (.ptr 0 0), .one (.int .i64 0)] [some (.box (hdC h))]).run K = some r := by
  refine z_idx (st := fun i => ([.one (.ptr 0 0), .one (.int .i64 ((i : Nat) : Int))], [some (.box (hdC h))])) (h.cs.length) (fun j => smC h (gC h.cs j)) _ _ (fun i hi F K => ?_) (fun F K => ?_)
  · have hi' : (i : Int) < (h.cs.length : Int) := by omega
    simp only [tu_ref23_Header_1, U_ref23_Header_1, LT.next, LT.run, ite2_dec, ite2_bool, wrap_next hi hsm, Int.toNat_natCast, hi', Int.natCast_nonneg, and_self, if_true, gI, gP, gC, gR]
    simp only [smC, redH, areaR]
    simp [hdC, gC]
    grind
  · simp only [tu_ref23_Header_1, U_ref23_Header_1, LT.next, LT.run, ite2_dec, Int.lt_irrefl, if_false]
    try rfl
theorem z_ref23_Header_1 : ∀ vs bl t, S_ref23_Header_1 vs bl = some (true, t) → ∃ n, ∀ (K : Ex → List V → List (Option Blk) → Option Out) r, t.run K = some r → (iter T_ref23_Header_1 n vs bl).run K = some r := by
  intro vs bl t y0'
  unfold S_ref23_Header_1 at y0'
  obtain ⟨c', vs, rfl, y1'⟩ := pO_s y0'
  obtain ⟨rfl, y2'⟩ := kP_s y1'
  obtain ⟨c', vs, rfl, y3'⟩ := pO_s y2'
  obtain ⟨i, rfl, y4'⟩ := kI_s y3'
  obtain ⟨rfl, y5'⟩ := pE_s y4'
  obtain ⟨q', bl, rfl, y6'⟩ := bB_s y5'
  obtain ⟨h, rfl, y7'⟩ := rdHd_s y6'
  obtain ⟨rfl, y8'⟩ := bE_s y7'
  have yy' := y8'
  obtain ⟨hk, rfl⟩ := Prod.mk.inj (Option.some.inj yy')
  unfold k_ref23_Header_1 at hk
  simp only [Bool.and_eq_true, decide_eq_true_eq, and_assoc] at hk
  obtain ⟨rfl, hsm, hc⟩ := hk
  exact zz_ref23_Header_1 _ hsm (by first | exact hc | simpa using hc)
theorem q_ref23_Header (h : Hd) (hok : small h.cs.length = true) : funR Try.prog t_ref23_Header (annOf []) l_ref23_Header 20 Try.f12 [.agg (hdC h)] [] = some ⟨.one (.int .i64 (header h)), [], []⟩ := by
    refine (e_ref23_Header ..).trans ?_
    simp only [ite2_bool, k_ref23_Header_0, p_ref23_Header_0, k_ref23_Header_1, p_ref23_Header_1, header, gC]
    rw [all_if h.cs (0, false, 0, 0) (okC h), all_if h.cs (0, false, 0, 0) (smC h)]
    generalize h.cs.all (okC h) = x
    generalize h.cs.all (smC h) = y
    (repeat' split) <;> (try simp_all) <;> omega
theorem s_ref23_Header : SoundFun Try.prog 12 G_ref23_Header := by
  refine fun_ok (tab := t_ref23_Header) (ann := annOf []) (lt := l_ref23_Header) (tab_cons s_ref01_Valid (tab_cons s_ref01_Empty (tab_cons s_ref23_in (tab_cons s_ref01_Reduce (tab_cons s_ref23_tiles (tab_cons s_ref01_Area tab_nil)))))) (by kernel_rfl) (fn := Try.f12) (by kernel_rfl) (by decide) (c := bodyOf Try.f12) (by kernel_rfl) (by
    intro m b hb
    have hb' : b ∈ loopsOf (bodyOf Try.f12) := hb
    rw [o_ref23_Header] at hb'
    simp only [List.mem_cons, List.not_mem_nil, or_false] at hb'
    rcases hb' with rfl | rfl
    · exact loop_ok (key := 4) (by kernel_rfl) rfl r_ref23_Header_0 z_ref23_Header_0 m
    · exact loop_ok (key := 12) (by kernel_rfl) rfl r_ref23_Header_1 z_ref23_Header_1 m
    ) ?_
  intro args lent o y0'
  unfold G_ref23_Header at y0'
  obtain ⟨q', args, rfl, y1'⟩ := pA_s y0'
  obtain ⟨h, rfl, y2'⟩ := rdHd_s y1'
  obtain ⟨rfl, y3'⟩ := pE_s y2'
  obtain ⟨rfl, y4'⟩ := nE_s y3'
  have yy' := y4'
  unfold H_ref23_Header at yy'
  obtain ⟨hok, rfl⟩ := Prod.mk.inj (Option.some.inj yy')
  exact ⟨20, q_ref23_Header _ hok⟩
end Go.Rx.Ch23
