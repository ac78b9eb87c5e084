/- The summaries of these functions are sound. -/
import Derived.Test.YtnhjhjkhfdlapaaRE3
import Derived.Test.YtnhjhjkhfdlapaaRS3
set_option linter.unnecessarySimpa false
set_option linter.unusedVariables false
set_option linter.unusedSimpArgs false
set_option linter.unusedVariables false
set_option linter.unusedSimpArgs false
set_option maxRecDepth 100000
set_option maxHeartbeats 4000000
open Go Go.Rx Go.Proofs
namespace Go.Rx.Ch24
theorem r_lay_All_0 : RoundOk Try.prog t_lay_All (annOf []) l_lay_All Out 20 0 62 [2, 3, 4, 7, 21, 22] (kxOf [7] [6]) (loopOf Try.f23 0) T_lay_All_0 := by
  intro vs bl Kc r h
  unfold T_lay_All_0 at h
  obtain ⟨t, y0', h'⟩ := getD_run h
  obtain ⟨c', vs, rfl, y1'⟩ := pO_s y0'
  obtain ⟨t, rfl, y2'⟩ := kI_s y1'
  obtain ⟨c', vs, rfl, y3'⟩ := pO_s y2'
  obtain ⟨rfl, y4'⟩ := kP_s y3'
  obtain ⟨c', vs, rfl, y5'⟩ := pO_s y4'
  obtain ⟨rfl, y6'⟩ := kP_s y5'
  obtain ⟨c', vs, rfl, y7'⟩ := pO_s y6'
  obtain ⟨rfl, y8'⟩ := kR_s y7'
  obtain ⟨c', vs, rfl, y9'⟩ := pO_s y8'
  obtain ⟨n, rfl, y10'⟩ := kI_s y9'
  obtain ⟨c', vs, rfl, y11'⟩ := pO_s y10'
  obtain ⟨j, rfl, y12'⟩ := kI_s y11'
  obtain ⟨rfl, y13'⟩ := pE_s y12'
  obtain ⟨q', bl, rfl, y14'⟩ := bB_s y13'
  obtain ⟨h, rfl, y15'⟩ := rdHd_s y14'
  obtain ⟨q', bl, rfl, y16'⟩ := bB_s y15'
  obtain ⟨p, rfl, y17'⟩ := rdPm_s y16'
  obtain ⟨u, bl, rfl, y18'⟩ := bAM_s y17'
  obtain ⟨rfl, y19'⟩ := bE_s y18'
  have yy' := y19'
  cases yy'
  exact (b_lay_All_0 ..).trans ((congrArg (LT.runc · Kc) (tu_lay_All_0 ..)).trans h')
theorem r_lay_All_1 : RoundOk Try.prog t_lay_All (annOf []) l_lay_All Out 20 0 62 [2, 3, 4, 7, 8, 9, 21, 22] (kxOf [2, 3, 4, 7, 21, 22] [6]) (loopOf Try.f23 1) T_lay_All_1 := by
  intro vs bl Kc r h
  unfold T_lay_All_1 at h
  obtain ⟨t, y0', h'⟩ := getD_run h
  obtain ⟨c', vs, rfl, y1'⟩ := pO_s y0'
  obtain ⟨t, rfl, y2'⟩ := kI_s y1'
  obtain ⟨c', vs, rfl, y3'⟩ := pO_s y2'
  obtain ⟨rfl, y4'⟩ := kP_s y3'
  obtain ⟨c', vs, rfl, y5'⟩ := pO_s y4'
  obtain ⟨rfl, y6'⟩ := kP_s y5'
  obtain ⟨c', vs, rfl, y7'⟩ := pO_s y6'
  obtain ⟨rfl, y8'⟩ := kR_s y7'
  obtain ⟨c', vs, rfl, y9'⟩ := pO_s y8'
  obtain ⟨m, rfl, y10'⟩ := kI_s y9'
  obtain ⟨c', vs, rfl, y11'⟩ := pO_s y10'
  obtain ⟨s, rfl, y12'⟩ := kI_s y11'
  obtain ⟨c', vs, rfl, y13'⟩ := pO_s y12'
  obtain ⟨n, rfl, y14'⟩ := kI_s y13'
  obtain ⟨c', vs, rfl, y15'⟩ := pO_s y14'
  obtain ⟨j, rfl, y16'⟩ := kI_s y15'
  obtain ⟨rfl, y17'⟩ := pE_s y16'
  obtain ⟨q', bl, rfl, y18'⟩ := bB_s y17'
  obtain ⟨h, rfl, y19'⟩ := rdHd_s y18'
  obtain ⟨q', bl, rfl, y20'⟩ := bB_s y19'
  obtain ⟨p, rfl, y21'⟩ := rdPm_s y20'
  obtain ⟨u, bl, rfl, y22'⟩ := bAM_s y21'
  obtain ⟨rfl, y23'⟩ := bE_s y22'
  have yy' := y23'
  cases yy'
  exact (b_lay_All_1 ..).trans ((congrArg (LT.runc · Kc) (tu_lay_All_1 ..)).trans h')
theorem r_lay_All_2 : RoundOk Try.prog t_lay_All (annOf []) l_lay_All Out 20 0 62 [2, 3, 4, 7, 8, 9, 21, 22, 43, 44] (kxOf [2, 3, 4, 7, 8, 9, 21, 22] [6]) (loopOf Try.f23 2) T_lay_All_2 := by
  intro vs bl Kc r h
  unfold T_lay_All_2 at h
  obtain ⟨t, y0', h'⟩ := getD_run h
  obtain ⟨c', vs, rfl, y1'⟩ := pO_s y0'
  obtain ⟨t, rfl, y2'⟩ := kI_s y1'
  obtain ⟨c', vs, rfl, y3'⟩ := pO_s y2'
  obtain ⟨rfl, y4'⟩ := kP_s y3'
  obtain ⟨c', vs, rfl, y5'⟩ := pO_s y4'
  obtain ⟨rfl, y6'⟩ := kP_s y5'
  obtain ⟨c', vs, rfl, y7'⟩ := pO_s y6'
  obtain ⟨rfl, y8'⟩ := kR_s y7'
  obtain ⟨c', vs, rfl, y9'⟩ := pO_s y8'
  obtain ⟨m, rfl, y10'⟩ := kI_s y9'
  obtain ⟨c', vs, rfl, y11'⟩ := pO_s y10'
  obtain ⟨s, rfl, y12'⟩ := kI_s y11'
  obtain ⟨c', vs, rfl, y13'⟩ := pO_s y12'
  obtain ⟨n, rfl, y14'⟩ := kI_s y13'
  obtain ⟨c', vs, rfl, y15'⟩ := pO_s y14'
  obtain ⟨j, rfl, y16'⟩ := kI_s y15'
  obtain ⟨c', vs, rfl, y17'⟩ := pO_s y16'
  obtain ⟨w, rfl, y18'⟩ := kI_s y17'
  obtain ⟨c', vs, rfl, y19'⟩ := pO_s y18'
  obtain ⟨i, rfl, y20'⟩ := kI_s y19'
  obtain ⟨rfl, y21'⟩ := pE_s y20'
  obtain ⟨q', bl, rfl, y22'⟩ := bB_s y21'
  obtain ⟨h, rfl, y23'⟩ := rdHd_s y22'
  obtain ⟨q', bl, rfl, y24'⟩ := bB_s y23'
  obtain ⟨p, rfl, y25'⟩ := rdPm_s y24'
  obtain ⟨u, bl, rfl, y26'⟩ := bAM_s y25'
  obtain ⟨rfl, y27'⟩ := bE_s y26'
  have yy' := y27'
  cases yy'
  exact (b_lay_All_2 ..).trans ((congrArg (LT.runc · Kc) (tu_lay_All_2 ..)).trans h')
theorem o_lay_All : loopsOf (bodyOf Try.f23) = [loopOf Try.f23 0, loopOf Try.f23 1, loopOf Try.f23 2] := by kernel_rfl
theorem zz_lay_All_0 (h : Hd) (p : Pm) (t n j : Int) (u : List (List Bk)) (hk : k_lay_All_0 h p t n j u = true) : ∃ k, ∀ (K : Ex → List V → List (Option Blk) → Option Out) r, (c_lay_All_0 h p t n j u).run K = some r → (iter T_lay_All_0 k [.one (.int .i64 t), .one (.ptr 0 0), .one (.ptr 1 0), .one (.row 2), .one (.int .i64 n), .one (.int .i64 j)] [some (.box (hdC h)), some (.box (pmC p)), some (.arr 53 (.sl (.pair (.int .i64) (.pair (.int .i64) (.pair (.int .i64) (.pair (.int .i64) (.pair (.int .i64) (.pair (.int .i64) (.pair (.int .i64) (.pair (.int .i64) (.int .i64)))))))))) u)]).run K = some r := by
  simp only [k_lay_All_0] at hk
  rw [Bool.and_eq_true] at hk
  obtain ⟨hk, hok⟩ := hk
  simp only [Bool.and_eq_true, decide_eq_true_eq] at hk
  obtain ⟨⟨rfl, rfl⟩, rfl⟩ := hk
  have he : existsB h p t 0 = true := by rw [Bool.and_eq_true] at hok; exact hok.2
  have eb := exists_b he
  have nb := nums_b eb.2.2.1
  have hsm : small h.cs.length = true := by simp only [small, decide_eq_true_eq]; omega
  refine Exists.elim (z_fold (T := T_lay_All_0) (st := fun j => ([.one (.int .i64 t), .one (.ptr 0 0), .one (.ptr 1 0), .one (.row 2), .one (.int .i64 (h.cs.length : Int)), .one (.int .i64 (j : Int))], [some (.box (hdC h)), some (.box (pmC p)), some (.arr 53 (.sl (.pair (.int .i64) (.pair (.int .i64) (.pair (.int .i64) (.pair (.int .i64) (.pair (.int .i64) (.pair (.int .i64) (.pair (.int .i64) (.pair (.int .i64) (.int .i64)))))))))) (cmps h p t j))])) h.cs.length (c_lay_All_0 h p t (h.cs.length : Int) 0 []) (fun j hj F K => ?_) (fun F K => ?_)) (fun k hk => ⟨k, hk⟩)
  · have hl := cmps_l nb.1.2 h t j
    have hm := exists_m he (show 0 ≤ (j : Int) by omega) (by omega)
    have hk1 : k_lay_All_1 h p t j 0 (h.cs.length : Int) j (cmps h p t j) = true := by
      rw [Bool.and_eq_true] at hok
      simp only [k_lay_All_1, hm, hok.1, decide_true, Bool.and_true, Bool.true_and, decide_eq_true_eq]
      omega
    simp only [tu_lay_All_0, U_lay_All_0, LT.next, LT.run, ite2_bool, decide_eq_true_eq]
    rw [if_pos (by omega), hk1, wrap_next hj hsm, cmps_s]
    rfl
  · simp only [tu_lay_All_0, U_lay_All_0, LT.next, LT.run, ite2_bool, decide_eq_true_eq]
    rw [if_neg (by omega)]
    rfl
theorem z_lay_All_0 : ∀ vs bl t, S_lay_All_0 vs bl = some (true, t) → ∃ n, ∀ (K : Ex → List V → List (Option Blk) → Option Out) r, t.run K = some r → (iter T_lay_All_0 n vs bl).run K = some r := by
  intro vs bl t y0'
  unfold S_lay_All_0 at y0'
  obtain ⟨c', vs, rfl, y1'⟩ := pO_s y0'
  obtain ⟨t, rfl, y2'⟩ := kI_s y1'
  obtain ⟨c', vs, rfl, y3'⟩ := pO_s y2'
  obtain ⟨rfl, y4'⟩ := kP_s y3'
  obtain ⟨c', vs, rfl, y5'⟩ := pO_s y4'
  obtain ⟨rfl, y6'⟩ := kP_s y5'
  obtain ⟨c', vs, rfl, y7'⟩ := pO_s y6'
  obtain ⟨rfl, y8'⟩ := kR_s y7'
  obtain ⟨c', vs, rfl, y9'⟩ := pO_s y8'
  obtain ⟨n, rfl, y10'⟩ := kI_s y9'
  obtain ⟨c', vs, rfl, y11'⟩ := pO_s y10'
  obtain ⟨j, rfl, y12'⟩ := kI_s y11'
  obtain ⟨rfl, y13'⟩ := pE_s y12'
  obtain ⟨q', bl, rfl, y14'⟩ := bB_s y13'
  obtain ⟨h, rfl, y15'⟩ := rdHd_s y14'
  obtain ⟨q', bl, rfl, y16'⟩ := bB_s y15'
  obtain ⟨p, rfl, y17'⟩ := rdPm_s y16'
  obtain ⟨u, bl, rfl, y18'⟩ := bAM_s y17'
  obtain ⟨rfl, y19'⟩ := bE_s y18'
  have yy' := y19'
  obtain ⟨hk, rfl⟩ := Prod.mk.inj (Option.some.inj yy')
  exact zz_lay_All_0 _ _ _ _ _ _ hk
theorem zz_lay_All_1 (h : Hd) (p : Pm) (t m s n j : Int) (u : List (List Bk)) (hk : k_lay_All_1 h p t m s n j u = true) : ∃ k, ∀ (K : Ex → List V → List (Option Blk) → Option Out) r, (c_lay_All_1 h p t m s n j u).run K = some r → (iter T_lay_All_1 k [.one (.int .i64 t), .one (.ptr 0 0), .one (.ptr 1 0), .one (.row 2), .one (.int .i64 m), .one (.int .i64 s), .one (.int .i64 n), .one (.int .i64 j)] [some (.box (hdC h)), some (.box (pmC p)), some (.arr 53 (.sl (.pair (.int .i64) (.pair (.int .i64) (.pair (.int .i64) (.pair (.int .i64) (.pair (.int .i64) (.pair (.int .i64) (.pair (.int .i64) (.pair (.int .i64) (.int .i64)))))))))) u)]).run K = some r := by
  simp only [k_lay_All_1] at hk
  rw [Bool.and_eq_true] at hk
  obtain ⟨hk, hok⟩ := hk
  simp only [Bool.and_eq_true, decide_eq_true_eq] at hk
  obtain ⟨rfl, hu⟩ := hk
  have hok' := hok
  rw [Bool.and_eq_true] at hok
  have he := hok.2
  have eb := exists_b he
  have nb := nums_b eb.2.2.1
  refine Exists.elim (z_fold (T := T_lay_All_1) (st := fun s => ([.one (.int .i64 t), .one (.ptr 0 0), .one (.ptr 1 0), .one (.row 2), .one (.int .i64 m), .one (.int .i64 (s : Int)), .one (.int .i64 n), .one (.int .i64 j)], [some (.box (hdC h)), some (.box (pmC p)), some (.arr 53 (.sl (.pair (.int .i64) (.pair (.int .i64) (.pair (.int .i64) (.pair (.int .i64) (.pair (.int .i64) (.pair (.int .i64) (.pair (.int .i64) (.pair (.int .i64) (.int .i64)))))))))) (u ++ rss (compT h t m) p m s))])) (p.le + 1).toNat (c_lay_All_1 h p t m 0 n j u) (fun s hs F K => ?_) (fun F K => ?_)) (fun k hk => ⟨k, fun K r hh => ?_⟩)
  · have hl := rss_l (compT h t m) p m s
    have hw := rsN_w (compT h t m) p s
    have hi : inr 0 p.le (s : Int) = true := inr_t (by omega) (by omega)
    have hk1 : k_lay_All_2 h p t m s n j ((rsN (compT h t m) p s).1 * (rsN (compT h t m) p s).2) 0 (u ++ rss (compT h t m) p m s) = true := by
      simp only [k_lay_All_2, hok', decide_true, Bool.and_true, Bool.true_and, Bool.and_eq_true, decide_eq_true_eq, List.length_append]
      omega
    simp only [tu_lay_All_1, U_lay_All_1, LT.next, LT.run, ite2_bool, decide_eq_true_eq, hok.1, if_true, resM, he, hi, Bool.and_self]
    rw [if_pos (by omega), wrap_in (n := (rsN (compT h t m) p s).1 * (rsN (compT h t m) p s).2) (by omega) (by omega), hk1, wrap_in (n := (s : Int) + 1) (by omega) (by omega), rss_s, ← List.append_assoc]
    rfl
  · simp only [tu_lay_All_1, U_lay_All_1, LT.next, LT.run, ite2_bool, decide_eq_true_eq]
    rw [if_neg (by omega)]
    rfl
  · have := hk K r hh
    rw [show rss (compT h t m) p m 0 = [] from rfl, List.append_nil] at this
    exact this
theorem z_lay_All_1 : ∀ vs bl t, S_lay_All_1 vs bl = some (true, t) → ∃ n, ∀ (K : Ex → List V → List (Option Blk) → Option Out) r, t.run K = some r → (iter T_lay_All_1 n vs bl).run K = some r := by
  intro vs bl t y0'
  unfold S_lay_All_1 at y0'
  obtain ⟨c', vs, rfl, y1'⟩ := pO_s y0'
  obtain ⟨t, rfl, y2'⟩ := kI_s y1'
  obtain ⟨c', vs, rfl, y3'⟩ := pO_s y2'
  obtain ⟨rfl, y4'⟩ := kP_s y3'
  obtain ⟨c', vs, rfl, y5'⟩ := pO_s y4'
  obtain ⟨rfl, y6'⟩ := kP_s y5'
  obtain ⟨c', vs, rfl, y7'⟩ := pO_s y6'
  obtain ⟨rfl, y8'⟩ := kR_s y7'
  obtain ⟨c', vs, rfl, y9'⟩ := pO_s y8'
  obtain ⟨m, rfl, y10'⟩ := kI_s y9'
  obtain ⟨c', vs, rfl, y11'⟩ := pO_s y10'
  obtain ⟨s, rfl, y12'⟩ := kI_s y11'
  obtain ⟨c', vs, rfl, y13'⟩ := pO_s y12'
  obtain ⟨n, rfl, y14'⟩ := kI_s y13'
  obtain ⟨c', vs, rfl, y15'⟩ := pO_s y14'
  obtain ⟨j, rfl, y16'⟩ := kI_s y15'
  obtain ⟨rfl, y17'⟩ := pE_s y16'
  obtain ⟨q', bl, rfl, y18'⟩ := bB_s y17'
  obtain ⟨h, rfl, y19'⟩ := rdHd_s y18'
  obtain ⟨q', bl, rfl, y20'⟩ := bB_s y19'
  obtain ⟨p, rfl, y21'⟩ := rdPm_s y20'
  obtain ⟨u, bl, rfl, y22'⟩ := bAM_s y21'
  obtain ⟨rfl, y23'⟩ := bE_s y22'
  have yy' := y23'
  obtain ⟨hk, rfl⟩ := Prod.mk.inj (Option.some.inj yy')
  exact zz_lay_All_1 _ _ _ _ _ _ _ _ hk
theorem zz_lay_All_2 (h : Hd) (p : Pm) (t m s n j w i : Int) (u : List (List Bk)) (hk : k_lay_All_2 h p t m s n j w i u = true) : ∃ k, ∀ (K : Ex → List V → List (Option Blk) → Option Out) r, (c_lay_All_2 h p t m s n j w i u).run K = some r → (iter T_lay_All_2 k [.one (.int .i64 t), .one (.ptr 0 0), .one (.ptr 1 0), .one (.row 2), .one (.int .i64 m), .one (.int .i64 s), .one (.int .i64 n), .one (.int .i64 j), .one (.int .i64 w), .one (.int .i64 i)] [some (.box (hdC h)), some (.box (pmC p)), some (.arr 53 (.sl (.pair (.int .i64) (.pair (.int .i64) (.pair (.int .i64) (.pair (.int .i64) (.pair (.int .i64) (.pair (.int .i64) (.pair (.int .i64) (.pair (.int .i64) (.int .i64)))))))))) u)]).run K = some r := by
  simp only [k_lay_All_2] at hk
  rw [Bool.and_eq_true] at hk
  obtain ⟨hk, hok⟩ := hk
  simp only [Bool.and_eq_true, decide_eq_true_eq] at hk
  obtain ⟨⟨rfl, hw⟩, hu⟩ := hk
  refine Exists.elim (z_fold (T := T_lay_All_2) (st := fun i => ([.one (.int .i64 t), .one (.ptr 0 0), .one (.ptr 1 0), .one (.row 2), .one (.int .i64 m), .one (.int .i64 s), .one (.int .i64 n), .one (.int .i64 j), .one (.int .i64 w), .one (.int .i64 (i : Int))], [some (.box (hdC h)), some (.box (pmC p)), some (.arr 53 (.sl (.pair (.int .i64) (.pair (.int .i64) (.pair (.int .i64) (.pair (.int .i64) (.pair (.int .i64) (.pair (.int .i64) (.pair (.int .i64) (.pair (.int .i64) (.int .i64)))))))))) (u ++ pcs (compT h t m) p m s i))])) w.toNat (c_lay_All_2 h p t m s n j w 0 u) (fun i hi F K => ?_) (fun F K => ?_)) (fun k hk => ⟨k, fun K r hh => ?_⟩)
  · have hl := pcs_l (compT h t m) p m s i
    simp only [tu_lay_All_2, U_lay_All_2, LT.next, LT.run, ite2_bool, decide_eq_true_eq, hok, if_true]
    rw [pcs_s, ← List.append_assoc]
    repeat rw [if_pos (by first | omega | (simp only [List.length_singleton, List.length_append]; omega))]
    rw [wrap_in (n := (i : Int) + 1) (by omega) (by omega)]
    rfl
  · simp only [tu_lay_All_2, U_lay_All_2, LT.next, LT.run, ite2_bool, decide_eq_true_eq]
    rw [if_neg (by omega)]
    rfl
  · have := hk K r hh
    rw [show pcs (compT h t m) p m s 0 = [] from rfl, List.append_nil] at this
    exact this
theorem z_lay_All_2 : ∀ vs bl t, S_lay_All_2 vs bl = some (true, t) → ∃ n, ∀ (K : Ex → List V → List (Option Blk) → Option Out) r, t.run K = some r → (iter T_lay_All_2 n vs bl).run K = some r := by
  intro vs bl t y0'
  unfold S_lay_All_2 at y0'
  obtain ⟨c', vs, rfl, y1'⟩ := pO_s y0'
  obtain ⟨t, rfl, y2'⟩ := kI_s y1'
  obtain ⟨c', vs, rfl, y3'⟩ := pO_s y2'
  obtain ⟨rfl, y4'⟩ := kP_s y3'
  obtain ⟨c', vs, rfl, y5'⟩ := pO_s y4'
  obtain ⟨rfl, y6'⟩ := kP_s y5'
  obtain ⟨c', vs, rfl, y7'⟩ := pO_s y6'
  obtain ⟨rfl, y8'⟩ := kR_s y7'
  obtain ⟨c', vs, rfl, y9'⟩ := pO_s y8'
  obtain ⟨m, rfl, y10'⟩ := kI_s y9'
  obtain ⟨c', vs, rfl, y11'⟩ := pO_s y10'
  obtain ⟨s, rfl, y12'⟩ := kI_s y11'
  obtain ⟨c', vs, rfl, y13'⟩ := pO_s y12'
  obtain ⟨n, rfl, y14'⟩ := kI_s y13'
  obtain ⟨c', vs, rfl, y15'⟩ := pO_s y14'
  obtain ⟨j, rfl, y16'⟩ := kI_s y15'
  obtain ⟨c', vs, rfl, y17'⟩ := pO_s y16'
  obtain ⟨w, rfl, y18'⟩ := kI_s y17'
  obtain ⟨c', vs, rfl, y19'⟩ := pO_s y18'
  obtain ⟨i, rfl, y20'⟩ := kI_s y19'
  obtain ⟨rfl, y21'⟩ := pE_s y20'
  obtain ⟨q', bl, rfl, y22'⟩ := bB_s y21'
  obtain ⟨h, rfl, y23'⟩ := rdHd_s y22'
  obtain ⟨q', bl, rfl, y24'⟩ := bB_s y23'
  obtain ⟨p, rfl, y25'⟩ := rdPm_s y24'
  obtain ⟨u, bl, rfl, y26'⟩ := bAM_s y25'
  obtain ⟨rfl, y27'⟩ := bE_s y26'
  have yy' := y27'
  obtain ⟨hk, rfl⟩ := Prod.mk.inj (Option.some.inj yy')
  exact zz_lay_All_2 _ _ _ _ _ _ _ _ _ _ hk
theorem q_lay_All (h : Hd) (p : Pm) (t : Int) (hok : (small h.cs.length && (small p.pr.length && small p.st.length)) = true) : funR Try.prog t_lay_All (annOf []) l_lay_All 20 Try.f23 [.agg (hdC h), .agg (pmC p), .one (.int .i64 t)] [] = some ⟨.one (.row 0), [], [.arr 65 (.pair (.int .i64) (.pair (.int .i64) (.pair (.int .i64) (.pair (.int .i64) (.pair (.int .i64) (.pair (.int .i64) (.pair (.int .i64) (.pair (.int .i64) (.int .i64))))))))) (allL h p t)]⟩ := by
    refine (e_lay_All ..).trans ?_
    simp only [ite2_bool, allL, allU]
    cases e : existsB h p t 0
    · rw [hok]
      rfl
    have eb := exists_b e
    have nb := nums_b eb.2.2.1
    have hk : k_lay_All_0 h p t (h.cs.length : Int) 0 [] = true := by
      simp only [k_lay_All_0, hok, e, decide_true, Bool.and_self]
    have h1 := cmps_l nb.1.2 h t h.cs.length
    have h2 := cmps_f nb.1.2 h t h.cs.length
    have hs : (small (cmps h p t h.cs.length).length && decide ((cmps h p t h.cs.length).flatten.length ≤ 1900000000000)) = true := by
      have h4 := eb.2.2.2.1
      simp only [small, Bool.and_eq_true, decide_eq_true_eq]; omega
    rw [hok, hk, hs]
    rfl
theorem s_lay_All : SoundFun Try.prog 23 G_lay_All := by
  refine fun_ok (tab := t_lay_All) (ann := annOf []) (lt := l_lay_All) (tab_cons s_lay_Resolution (tab_cons s_lay_exists (tab_cons s_lay_precinct (tab_cons s_lay_join tab_nil)))) (by kernel_rfl) (fn := Try.f23) (by kernel_rfl) (by decide) (c := bodyOf Try.f23) (by kernel_rfl) (by
    intro m b hb
    have hb' : b ∈ loopsOf (bodyOf Try.f23) := hb
    rw [o_lay_All] at hb'
    simp only [List.mem_cons, List.not_mem_nil, or_false] at hb'
    rcases hb' with rfl | rfl | rfl
    · exact loop_ok (key := 5) (by kernel_rfl) rfl r_lay_All_0 z_lay_All_0 m
    · exact loop_ok (key := 8) (by kernel_rfl) rfl r_lay_All_1 z_lay_All_1 m
    · exact loop_ok (key := 12) (by kernel_rfl) rfl r_lay_All_2 z_lay_All_2 m
    ) ?_
  intro args lent o y0'
  unfold G_lay_All at y0'
  obtain ⟨q', args, rfl, y1'⟩ := pA_s y0'
  obtain ⟨h, rfl, y2'⟩ := rdHd_s y1'
  obtain ⟨q', args, rfl, y3'⟩ := pA_s y2'
  obtain ⟨p, rfl, y4'⟩ := rdPm_s y3'
  obtain ⟨c', args, rfl, y5'⟩ := pO_s y4'
  obtain ⟨t, rfl, y6'⟩ := kI_s y5'
  obtain ⟨rfl, y7'⟩ := pE_s y6'
  obtain ⟨rfl, y8'⟩ := nE_s y7'
  have yy' := y8'
  unfold H_lay_All at yy'
  obtain ⟨hok, rfl⟩ := Prod.mk.inj (Option.some.inj yy')
  exact ⟨20, q_lay_All _ _ _ hok⟩
end Go.Rx.Ch24

set_option linter.unusedVariables false
set_option linter.unusedSimpArgs false
set_option maxRecDepth 100000
set_option maxHeartbeats 4000000
open Go Go.Rx Go.Proofs
namespace Go.Rx.Ch24
theorem pcs_fs (r : Rc) (p : Pm) (m s : Int) (n : Nat) : (pcs r p m s (n + 1)).flatten = (pcs r p m s n).flatten ++ pcL r p m s n := by rw [pcs_s, List.flatten_append]; simp
theorem rss_fs (r : Rc) (p : Pm) (m : Int) (n : Nat) : (rss r p m (n + 1)).flatten = (rss r p m n).flatten ++ (pcs r p m n (rsK r p n)).flatten := by rw [rss_s, List.flatten_append]
theorem cmps_fs (h : Hd) (p : Pm) (t : Int) (n : Nat) : (cmps h p t (n + 1)).flatten = (cmps h p t n).flatten ++ (rss (compT h t n) p n (p.le + 1).toNat).flatten := by rw [cmps_s, List.flatten_append]
theorem r_ref24_All_0 : RoundOk Try.prog t_ref24_All (annOf []) l_ref24_All Out 20 0 63 [2, 3, 4, 7, 8] (kxOf [7] [6]) (loopOf Try.f24 0) T_ref24_All_0 := by
  intro vs bl Kc r h
  unfold T_ref24_All_0 at h
  obtain ⟨t, y0', h'⟩ := getD_run h
  obtain ⟨c', vs, rfl, y1'⟩ := pO_s y0'
  obtain ⟨t, rfl, y2'⟩ := kI_s y1'
  obtain ⟨c', vs, rfl, y3'⟩ := pO_s y2'
  obtain ⟨rfl, y4'⟩ := kP_s y3'
  obtain ⟨c', vs, rfl, y5'⟩ := pO_s y4'
  obtain ⟨rfl, y6'⟩ := kP_s y5'
  obtain ⟨c', vs, rfl, y7'⟩ := pO_s y6'
  obtain ⟨rfl, y8'⟩ := kR_s y7'
  obtain ⟨c', vs, rfl, y9'⟩ := pO_s y8'
  obtain ⟨j, rfl, y10'⟩ := kI_s y9'
  obtain ⟨rfl, y11'⟩ := pE_s y10'
  obtain ⟨q', bl, rfl, y12'⟩ := bB_s y11'
  obtain ⟨h, rfl, y13'⟩ := rdHd_s y12'
  obtain ⟨q', bl, rfl, y14'⟩ := bB_s y13'
  obtain ⟨p, rfl, y15'⟩ := rdPm_s y14'
  obtain ⟨v, bl, rfl, y16'⟩ := bAK_s y15'
  obtain ⟨rfl, y17'⟩ := bE_s y16'
  have yy' := y17'
  cases yy'
  exact (b_ref24_All_0 ..).trans ((congrArg (LT.runc · Kc) (tu_ref24_All_0 ..)).trans h')
theorem r_ref24_All_1 : RoundOk Try.prog t_ref24_All (annOf []) l_ref24_All Out 20 0 63 [2, 3, 4, 7, 8, 9, 10] (kxOf [2, 3, 4, 7, 8] [6]) (loopOf Try.f24 1) T_ref24_All_1 := by
  intro vs bl Kc r h
  unfold T_ref24_All_1 at h
  obtain ⟨t, y0', h'⟩ := getD_run h
  obtain ⟨c', vs, rfl, y1'⟩ := pO_s y0'
  obtain ⟨t, rfl, y2'⟩ := kI_s y1'
  obtain ⟨c', vs, rfl, y3'⟩ := pO_s y2'
  obtain ⟨rfl, y4'⟩ := kP_s y3'
  obtain ⟨c', vs, rfl, y5'⟩ := pO_s y4'
  obtain ⟨rfl, y6'⟩ := kP_s y5'
  obtain ⟨c', vs, rfl, y7'⟩ := pO_s y6'
  obtain ⟨rfl, y8'⟩ := kR_s y7'
  obtain ⟨c', vs, rfl, y9'⟩ := pO_s y8'
  obtain ⟨j, rfl, y10'⟩ := kI_s y9'
  obtain ⟨c', vs, rfl, y11'⟩ := pO_s y10'
  obtain ⟨rfl, y12'⟩ := kP_s y11'
  obtain ⟨c', vs, rfl, y13'⟩ := pO_s y12'
  obtain ⟨s, rfl, y14'⟩ := kI_s y13'
  obtain ⟨rfl, y15'⟩ := pE_s y14'
  obtain ⟨q', bl, rfl, y16'⟩ := bB_s y15'
  obtain ⟨h, rfl, y17'⟩ := rdHd_s y16'
  obtain ⟨q', bl, rfl, y18'⟩ := bB_s y17'
  obtain ⟨p, rfl, y19'⟩ := rdPm_s y18'
  obtain ⟨v, bl, rfl, y20'⟩ := bAK_s y19'
  obtain ⟨q', bl, rfl, y21'⟩ := bB_s y20'
  obtain ⟨c', q', rfl, y22'⟩ := tC_s y21'
  obtain ⟨a, rfl, y23'⟩ := kI_s y22'
  obtain ⟨c', q', rfl, y24'⟩ := tC_s y23'
  obtain ⟨c, rfl, y25'⟩ := kI_s y24'
  obtain ⟨c', q', rfl, y26'⟩ := tC_s y25'
  obtain ⟨d, rfl, y27'⟩ := kI_s y26'
  obtain ⟨c', q', rfl, y28'⟩ := tC_s y27'
  obtain ⟨e, rfl, y29'⟩ := kI_s y28'
  obtain ⟨rfl, y30'⟩ := tE_s y29'
  obtain ⟨rfl, y31'⟩ := bE_s y30'
  have yy' := y31'
  cases yy'
  exact (b_ref24_All_1 ..).trans ((congrArg (LT.runc · Kc) (tu_ref24_All_1 ..)).trans h')
theorem r_ref24_All_2 : RoundOk Try.prog t_ref24_All (annOf []) l_ref24_All Out 20 0 63 [2, 3, 4, 7, 8, 9, 10, 12, 13, 14] (kxOf [2, 3, 4, 7, 8, 9, 10] [6]) (loopOf Try.f24 2) T_ref24_All_2 := by
  intro vs bl Kc r h
  unfold T_ref24_All_2 at h
  obtain ⟨t, y0', h'⟩ := getD_run h
  obtain ⟨c', vs, rfl, y1'⟩ := pO_s y0'
  obtain ⟨t, rfl, y2'⟩ := kI_s y1'
  obtain ⟨c', vs, rfl, y3'⟩ := pO_s y2'
  obtain ⟨rfl, y4'⟩ := kP_s y3'
  obtain ⟨c', vs, rfl, y5'⟩ := pO_s y4'
  obtain ⟨rfl, y6'⟩ := kP_s y5'
  obtain ⟨c', vs, rfl, y7'⟩ := pO_s y6'
  obtain ⟨rfl, y8'⟩ := kR_s y7'
  obtain ⟨c', vs, rfl, y9'⟩ := pO_s y8'
  obtain ⟨j, rfl, y10'⟩ := kI_s y9'
  obtain ⟨c', vs, rfl, y11'⟩ := pO_s y10'
  obtain ⟨rfl, y12'⟩ := kP_s y11'
  obtain ⟨c', vs, rfl, y13'⟩ := pO_s y12'
  obtain ⟨s, rfl, y14'⟩ := kI_s y13'
  obtain ⟨c', vs, rfl, y15'⟩ := pO_s y14'
  obtain ⟨x, rfl, y16'⟩ := kI_s y15'
  obtain ⟨c', vs, rfl, y17'⟩ := pO_s y16'
  obtain ⟨z, rfl, y18'⟩ := kI_s y17'
  obtain ⟨c', vs, rfl, y19'⟩ := pO_s y18'
  obtain ⟨i, rfl, y20'⟩ := kI_s y19'
  obtain ⟨rfl, y21'⟩ := pE_s y20'
  obtain ⟨q', bl, rfl, y22'⟩ := bB_s y21'
  obtain ⟨h, rfl, y23'⟩ := rdHd_s y22'
  obtain ⟨q', bl, rfl, y24'⟩ := bB_s y23'
  obtain ⟨p, rfl, y25'⟩ := rdPm_s y24'
  obtain ⟨v, bl, rfl, y26'⟩ := bAK_s y25'
  obtain ⟨q', bl, rfl, y27'⟩ := bB_s y26'
  obtain ⟨c', q', rfl, y28'⟩ := tC_s y27'
  obtain ⟨a, rfl, y29'⟩ := kI_s y28'
  obtain ⟨c', q', rfl, y30'⟩ := tC_s y29'
  obtain ⟨c, rfl, y31'⟩ := kI_s y30'
  obtain ⟨c', q', rfl, y32'⟩ := tC_s y31'
  obtain ⟨d, rfl, y33'⟩ := kI_s y32'
  obtain ⟨c', q', rfl, y34'⟩ := tC_s y33'
  obtain ⟨e, rfl, y35'⟩ := kI_s y34'
  obtain ⟨rfl, y36'⟩ := tE_s y35'
  obtain ⟨rfl, y37'⟩ := bE_s y36'
  have yy' := y37'
  cases yy'
  exact (b_ref24_All_2 ..).trans ((congrArg (LT.runc · Kc) (tu_ref24_All_2 ..)).trans h')
theorem o_ref24_All : loopsOf (bodyOf Try.f24) = [loopOf Try.f24 0, loopOf Try.f24 1, loopOf Try.f24 2] := by kernel_rfl
theorem zz_ref24_All_0 (h : Hd) (p : Pm) (t j : Int) (v : List Bk) (hk : k_ref24_All_0 h p t j v = true) : ∃ k, ∀ (K : Ex → List V → List (Option Blk) → Option Out) r, (c_ref24_All_0 h p t j v).run K = some r → (iter T_ref24_All_0 k [.one (.int .i64 t), .one (.ptr 0 0), .one (.ptr 1 0), .one (.row 2), .one (.int .i64 j)] [some (.box (hdC h)), some (.box (pmC p)), some (.arr 65 (.pair (.int .i64) (.pair (.int .i64) (.pair (.int .i64) (.pair (.int .i64) (.pair (.int .i64) (.pair (.int .i64) (.pair (.int .i64) (.pair (.int .i64) (.int .i64))))))))) v)]).run K = some r := by
  simp only [k_ref24_All_0] at hk
  rw [Bool.and_eq_true] at hk
  obtain ⟨hk, hok⟩ := hk
  simp only [Bool.and_eq_true, decide_eq_true_eq] at hk
  obtain ⟨rfl, rfl⟩ := hk
  have he : existsB h p t 0 = true := by rw [Bool.and_eq_true] at hok; exact hok.2
  have eb := exists_b he
  have nb := nums_b eb.2.2.1
  have hsm : small h.cs.length = true := by simp only [small, decide_eq_true_eq]; omega
  refine Exists.elim (z_fold (T := T_ref24_All_0) (st := fun j => ([.one (.int .i64 t), .one (.ptr 0 0), .one (.ptr 1 0), .one (.row 2), .one (.int .i64 (j : Int))], [some (.box (hdC h)), some (.box (pmC p)), some (.arr 65 (.pair (.int .i64) (.pair (.int .i64) (.pair (.int .i64) (.pair (.int .i64) (.pair (.int .i64) (.pair (.int .i64) (.pair (.int .i64) (.pair (.int .i64) (.int .i64))))))))) (cmps h p t j).flatten)])) h.cs.length (c_ref24_All_0 h p t 0 []) (fun j hj F K => ?_) (fun F K => ?_)) (fun k hk => ⟨k, hk⟩)
  · have hl := cmps_f nb.1.2 h t j
    have hk1 : k_ref24_All_1 h p t j (compT h t j).1 (compT h t j).2.1 (compT h t j).2.2.1 (compT h t j).2.2.2 0 (cmps h p t j).flatten = true := by
      simp only [k_ref24_All_1, eb.2.2.1, decide_true, Bool.and_true, Bool.true_and, decide_eq_true_eq]
      omega
    simp only [tu_ref24_All_0, U_ref24_All_0, LT.next, LT.run, ite2_bool, decide_eq_true_eq, hsm, if_true]
    rw [if_pos (by omega), hk1, wrap_next hj hsm, cmps_fs]
    rfl
  · simp only [tu_ref24_All_0, U_ref24_All_0, LT.next, LT.run, ite2_bool, decide_eq_true_eq]
    rw [if_neg (by omega)]
    rfl
theorem z_ref24_All_0 : ∀ vs bl t, S_ref24_All_0 vs bl = some (true, t) → ∃ n, ∀ (K : Ex → List V → List (Option Blk) → Option Out) r, t.run K = some r → (iter T_ref24_All_0 n vs bl).run K = some r := by
  intro vs bl t y0'
  unfold S_ref24_All_0 at y0'
  obtain ⟨c', vs, rfl, y1'⟩ := pO_s y0'
  obtain ⟨t, rfl, y2'⟩ := kI_s y1'
  obtain ⟨c', vs, rfl, y3'⟩ := pO_s y2'
  obtain ⟨rfl, y4'⟩ := kP_s y3'
  obtain ⟨c', vs, rfl, y5'⟩ := pO_s y4'
  obtain ⟨rfl, y6'⟩ := kP_s y5'
  obtain ⟨c', vs, rfl, y7'⟩ := pO_s y6'
  obtain ⟨rfl, y8'⟩ := kR_s y7'
  obtain ⟨c', vs, rfl, y9'⟩ := pO_s y8'
  obtain ⟨j, rfl, y10'⟩ := kI_s y9'
  obtain ⟨rfl, y11'⟩ := pE_s y10'
  obtain ⟨q', bl, rfl, y12'⟩ := bB_s y11'
  obtain ⟨h, rfl, y13'⟩ := rdHd_s y12'
  obtain ⟨q', bl, rfl, y14'⟩ := bB_s y13'
  obtain ⟨p, rfl, y15'⟩ := rdPm_s y14'
  obtain ⟨v, bl, rfl, y16'⟩ := bAK_s y15'
  obtain ⟨rfl, y17'⟩ := bE_s y16'
  have yy' := y17'
  obtain ⟨hk, rfl⟩ := Prod.mk.inj (Option.some.inj yy')
  exact zz_ref24_All_0 _ _ _ _ _ hk
theorem zz_ref24_All_1 (h : Hd) (p : Pm) (t j a c d e s : Int) (v : List Bk) (hk : k_ref24_All_1 h p t j a c d e s v = true) : ∃ k, ∀ (K : Ex → List V → List (Option Blk) → Option Out) r, (c_ref24_All_1 h p t j a c d e s v).run K = some r → (iter T_ref24_All_1 k [.one (.int .i64 t), .one (.ptr 0 0), .one (.ptr 1 0), .one (.row 2), .one (.int .i64 j), .one (.ptr 3 0), .one (.int .i64 s)] [some (.box (hdC h)), some (.box (pmC p)), some (.arr 65 (.pair (.int .i64) (.pair (.int .i64) (.pair (.int .i64) (.pair (.int .i64) (.pair (.int .i64) (.pair (.int .i64) (.pair (.int .i64) (.pair (.int .i64) (.int .i64))))))))) v), some (.box [.int .i64 a, .int .i64 c, .int .i64 d, .int .i64 e])]).run K = some r := by
  simp only [k_ref24_All_1, Bool.and_eq_true, decide_eq_true_eq] at hk
  obtain ⟨⟨rfl, hn⟩, hv⟩ := hk
  have nb := nums_b hn
  refine Exists.elim (z_fold (T := T_ref24_All_1) (st := fun s => ([.one (.int .i64 t), .one (.ptr 0 0), .one (.ptr 1 0), .one (.row 2), .one (.int .i64 j), .one (.ptr 3 0), .one (.int .i64 (s : Int))], [some (.box (hdC h)), some (.box (pmC p)), some (.arr 65 (.pair (.int .i64) (.pair (.int .i64) (.pair (.int .i64) (.pair (.int .i64) (.pair (.int .i64) (.pair (.int .i64) (.pair (.int .i64) (.pair (.int .i64) (.int .i64))))))))) (v ++ (rss (a, c, d, e) p j s).flatten)), some (.box [.int .i64 a, .int .i64 c, .int .i64 d, .int .i64 e])])) (p.le + 1).toNat (c_ref24_All_1 h p t j a c d e 0 v) (fun s hs F K => ?_) (fun F K => ?_)) (fun k hk => ⟨k, fun K r hh => ?_⟩)
  · have hl := rss_f (a, c, d, e) p j s
    have hw := rsN_w (a, c, d, e) p s
    have hi : inr 0 p.le (s : Int) = true := inr_t (by omega) (by omega)
    have hk1 : k_ref24_All_2 h p t j a c d e s (rsN (a, c, d, e) p s).1 (rsN (a, c, d, e) p s).2 0 (v ++ (rss (a, c, d, e) p j s).flatten) = true := by
      simp only [k_ref24_All_2, hn, hi, decide_true, Bool.and_true, Bool.true_and, Bool.and_eq_true, decide_eq_true_eq, List.length_append]
      omega
    simp only [tu_ref24_All_1, U_ref24_All_1, LT.next, LT.run, ite2_bool, decide_eq_true_eq]
    rw [if_pos (by omega), hk1, wrap_in (n := (s : Int) + 1) (by omega) (by omega), rss_fs, ← List.append_assoc]
    rfl
  · simp only [tu_ref24_All_1, U_ref24_All_1, LT.next, LT.run, ite2_bool, decide_eq_true_eq]
    rw [if_neg (by omega)]
    rfl
  · have := hk K r hh
    rw [show (rss (a, c, d, e) p j 0).flatten = [] from rfl, List.append_nil] at this
    exact this
theorem z_ref24_All_1 : ∀ vs bl t, S_ref24_All_1 vs bl = some (true, t) → ∃ n, ∀ (K : Ex → List V → List (Option Blk) → Option Out) r, t.run K = some r → (iter T_ref24_All_1 n vs bl).run K = some r := by
  intro vs bl t y0'
  unfold S_ref24_All_1 at y0'
  obtain ⟨c', vs, rfl, y1'⟩ := pO_s y0'
  obtain ⟨t, rfl, y2'⟩ := kI_s y1'
  obtain ⟨c', vs, rfl, y3'⟩ := pO_s y2'
  obtain ⟨rfl, y4'⟩ := kP_s y3'
  obtain ⟨c', vs, rfl, y5'⟩ := pO_s y4'
  obtain ⟨rfl, y6'⟩ := kP_s y5'
  obtain ⟨c', vs, rfl, y7'⟩ := pO_s y6'
  obtain ⟨rfl, y8'⟩ := kR_s y7'
  obtain ⟨c', vs, rfl, y9'⟩ := pO_s y8'
  obtain ⟨j, rfl, y10'⟩ := kI_s y9'
  obtain ⟨c', vs, rfl, y11'⟩ := pO_s y10'
  obtain ⟨rfl, y12'⟩ := kP_s y11'
  obtain ⟨c', vs, rfl, y13'⟩ := pO_s y12'
  obtain ⟨s, rfl, y14'⟩ := kI_s y13'
  obtain ⟨rfl, y15'⟩ := pE_s y14'
  obtain ⟨q', bl, rfl, y16'⟩ := bB_s y15'
  obtain ⟨h, rfl, y17'⟩ := rdHd_s y16'
  obtain ⟨q', bl, rfl, y18'⟩ := bB_s y17'
  obtain ⟨p, rfl, y19'⟩ := rdPm_s y18'
  obtain ⟨v, bl, rfl, y20'⟩ := bAK_s y19'
  obtain ⟨q', bl, rfl, y21'⟩ := bB_s y20'
  obtain ⟨c', q', rfl, y22'⟩ := tC_s y21'
  obtain ⟨a, rfl, y23'⟩ := kI_s y22'
  obtain ⟨c', q', rfl, y24'⟩ := tC_s y23'
  obtain ⟨c, rfl, y25'⟩ := kI_s y24'
  obtain ⟨c', q', rfl, y26'⟩ := tC_s y25'
  obtain ⟨d, rfl, y27'⟩ := kI_s y26'
  obtain ⟨c', q', rfl, y28'⟩ := tC_s y27'
  obtain ⟨e, rfl, y29'⟩ := kI_s y28'
  obtain ⟨rfl, y30'⟩ := tE_s y29'
  obtain ⟨rfl, y31'⟩ := bE_s y30'
  have yy' := y31'
  obtain ⟨hk, rfl⟩ := Prod.mk.inj (Option.some.inj yy')
  exact zz_ref24_All_1 _ _ _ _ _ _ _ _ _ _ hk
theorem zz_ref24_All_2 (h : Hd) (p : Pm) (t j a c d e s x z i : Int) (v : List Bk) (hk : k_ref24_All_2 h p t j a c d e s x z i v = true) : ∃ k, ∀ (K : Ex → List V → List (Option Blk) → Option Out) r, (c_ref24_All_2 h p t j a c d e s x z i v).run K = some r → (iter T_ref24_All_2 k [.one (.int .i64 t), .one (.ptr 0 0), .one (.ptr 1 0), .one (.row 2), .one (.int .i64 j), .one (.ptr 3 0), .one (.int .i64 s), .one (.int .i64 x), .one (.int .i64 z), .one (.int .i64 i)] [some (.box (hdC h)), some (.box (pmC p)), some (.arr 65 (.pair (.int .i64) (.pair (.int .i64) (.pair (.int .i64) (.pair (.int .i64) (.pair (.int .i64) (.pair (.int .i64) (.pair (.int .i64) (.pair (.int .i64) (.int .i64))))))))) v), some (.box [.int .i64 a, .int .i64 c, .int .i64 d, .int .i64 e])]).run K = some r := by
  simp only [k_ref24_All_2, Bool.and_eq_true, decide_eq_true_eq] at hk
  obtain ⟨⟨⟨⟨rfl, hn⟩, hs⟩, hx⟩, hv⟩ := hk
  have hns : (nums p && inr 0 p.le s) = true := by rw [hn, hs]; rfl
  refine Exists.elim (z_fold (T := T_ref24_All_2) (st := fun i => ([.one (.int .i64 t), .one (.ptr 0 0), .one (.ptr 1 0), .one (.row 2), .one (.int .i64 j), .one (.ptr 3 0), .one (.int .i64 s), .one (.int .i64 x), .one (.int .i64 z), .one (.int .i64 (i : Int))], [some (.box (hdC h)), some (.box (pmC p)), some (.arr 65 (.pair (.int .i64) (.pair (.int .i64) (.pair (.int .i64) (.pair (.int .i64) (.pair (.int .i64) (.pair (.int .i64) (.pair (.int .i64) (.pair (.int .i64) (.int .i64))))))))) (v ++ (pcs (a, c, d, e) p j s i).flatten)), some (.box [.int .i64 a, .int .i64 c, .int .i64 d, .int .i64 e])])) (x * z).toNat (c_ref24_All_2 h p t j a c d e s x z 0 v) (fun i hi F K => ?_) (fun F K => ?_)) (fun k hk => ⟨k, fun K r hh => ?_⟩)
  · have hl := pcs_f (a, c, d, e) p j s i
    have hl2 := pcL_len (a, c, d, e) p j s i
    simp only [tu_ref24_All_2, U_ref24_All_2, LT.next, LT.run, ite2_bool, decide_eq_true_eq, hns, if_true]
    rw [wrap_in (n := x * z) (by omega) (by omega), pcs_fs, ← List.append_assoc]
    repeat rw [if_pos (by first | omega | (simp only [List.length_append]; omega))]
    rw [wrap_in (n := (i : Int) + 1) (by omega) (by omega)]
    rfl
  · simp only [tu_ref24_All_2, U_ref24_All_2, LT.next, LT.run, ite2_bool, decide_eq_true_eq]
    rw [wrap_in (n := x * z) (by omega) (by omega), if_neg (by omega)]
    rfl
  · have := hk K r hh
    rw [show (pcs (a, c, d, e) p j s 0).flatten = [] from rfl, List.append_nil] at this
    exact this
theorem z_ref24_All_2 : ∀ vs bl t, S_ref24_All_2 vs bl = some (true, t) → ∃ n, ∀ (K : Ex → List V → List (Option Blk) → Option Out) r, t.run K = some r → (iter T_ref24_All_2 n vs bl).run K = some r := by
  intro vs bl t y0'
  unfold S_ref24_All_2 at y0'
  obtain ⟨c', vs, rfl, y1'⟩ := pO_s y0'
  obtain ⟨t, rfl, y2'⟩ := kI_s y1'
  obtain ⟨c', vs, rfl, y3'⟩ := pO_s y2'
  obtain ⟨rfl, y4'⟩ := kP_s y3'
  obtain ⟨c', vs, rfl, y5'⟩ := pO_s y4'
  obtain ⟨rfl, y6'⟩ := kP_s y5'
  obtain ⟨c', vs, rfl, y7'⟩ := pO_s y6'
  obtain ⟨rfl, y8'⟩ := kR_s y7'
  obtain ⟨c', vs, rfl, y9'⟩ := pO_s y8'
  obtain ⟨j, rfl, y10'⟩ := kI_s y9'
  obtain ⟨c', vs, rfl, y11'⟩ := pO_s y10'
  obtain ⟨rfl, y12'⟩ := kP_s y11'
  obtain ⟨c', vs, rfl, y13'⟩ := pO_s y12'
  obtain ⟨s, rfl, y14'⟩ := kI_s y13'
  obtain ⟨c', vs, rfl, y15'⟩ := pO_s y14'
  obtain ⟨x, rfl, y16'⟩ := kI_s y15'
  obtain ⟨c', vs, rfl, y17'⟩ := pO_s y16'
  obtain ⟨z, rfl, y18'⟩ := kI_s y17'
  obtain ⟨c', vs, rfl, y19'⟩ := pO_s y18'
  obtain ⟨i, rfl, y20'⟩ := kI_s y19'
  obtain ⟨rfl, y21'⟩ := pE_s y20'
  obtain ⟨q', bl, rfl, y22'⟩ := bB_s y21'
  obtain ⟨h, rfl, y23'⟩ := rdHd_s y22'
  obtain ⟨q', bl, rfl, y24'⟩ := bB_s y23'
  obtain ⟨p, rfl, y25'⟩ := rdPm_s y24'
  obtain ⟨v, bl, rfl, y26'⟩ := bAK_s y25'
  obtain ⟨q', bl, rfl, y27'⟩ := bB_s y26'
  obtain ⟨c', q', rfl, y28'⟩ := tC_s y27'
  obtain ⟨a, rfl, y29'⟩ := kI_s y28'
  obtain ⟨c', q', rfl, y30'⟩ := tC_s y29'
  obtain ⟨c, rfl, y31'⟩ := kI_s y30'
  obtain ⟨c', q', rfl, y32'⟩ := tC_s y31'
  obtain ⟨d, rfl, y33'⟩ := kI_s y32'
  obtain ⟨c', q', rfl, y34'⟩ := tC_s y33'
  obtain ⟨e, rfl, y35'⟩ := kI_s y34'
  obtain ⟨rfl, y36'⟩ := tE_s y35'
  obtain ⟨rfl, y37'⟩ := bE_s y36'
  have yy' := y37'
  obtain ⟨hk, rfl⟩ := Prod.mk.inj (Option.some.inj yy')
  exact zz_ref24_All_2 _ _ _ _ _ _ _ _ _ _ _ _ _ hk
theorem q_ref24_All (h : Hd) (p : Pm) (t : Int) (hok : (small h.cs.length && (small p.pr.length && small p.st.length)) = true) : funR Try.prog t_ref24_All (annOf []) l_ref24_All 20 Try.f24 [.agg (hdC h), .agg (pmC p), .one (.int .i64 t)] [] = some ⟨.one (.row 0), [], [.arr 65 (.pair (.int .i64) (.pair (.int .i64) (.pair (.int .i64) (.pair (.int .i64) (.pair (.int .i64) (.pair (.int .i64) (.pair (.int .i64) (.pair (.int .i64) (.int .i64))))))))) (allL h p t)]⟩ := by
    refine (e_ref24_All ..).trans ?_
    simp only [ite2_bool, allL, allU]
    cases e : existsB h p t 0
    · rw [hok]
      rfl
    have hk : k_ref24_All_0 h p t 0 [] = true := by
      simp only [k_ref24_All_0, hok, e, decide_true, Bool.and_self]
    rw [hok, hk]
    rfl
theorem s_ref24_All : SoundFun Try.prog 24 G_ref24_All := by
  refine fun_ok (tab := t_ref24_All) (ann := annOf []) (lt := l_ref24_All) (tab_cons s_ref24_Component (tab_cons s_ref24_exists (tab_cons s_ref24_resolution (tab_cons s_ref24_inPrecinct tab_nil)))) (by kernel_rfl) (fn := Try.f24) (by kernel_rfl) (by decide) (c := bodyOf Try.f24) (by kernel_rfl) (by
    intro m b hb
    have hb' : b ∈ loopsOf (bodyOf Try.f24) := hb
    rw [o_ref24_All] at hb'
    simp only [List.mem_cons, List.not_mem_nil, or_false] at hb'
    rcases hb' with rfl | rfl | rfl
    · exact loop_ok (key := 5) (by kernel_rfl) rfl r_ref24_All_0 z_ref24_All_0 m
    · exact loop_ok (key := 9) (by kernel_rfl) rfl r_ref24_All_1 z_ref24_All_1 m
    · exact loop_ok (key := 13) (by kernel_rfl) rfl r_ref24_All_2 z_ref24_All_2 m
    ) ?_
  intro args lent o y0'
  unfold G_ref24_All at y0'
  obtain ⟨q', args, rfl, y1'⟩ := pA_s y0'
  obtain ⟨h, rfl, y2'⟩ := rdHd_s y1'
  obtain ⟨q', args, rfl, y3'⟩ := pA_s y2'
  obtain ⟨p, rfl, y4'⟩ := rdPm_s y3'
  obtain ⟨c', args, rfl, y5'⟩ := pO_s y4'
  obtain ⟨t, rfl, y6'⟩ := kI_s y5'
  obtain ⟨rfl, y7'⟩ := pE_s y6'
  obtain ⟨rfl, y8'⟩ := nE_s y7'
  have yy' := y8'
  unfold H_ref24_All at yy'
  obtain ⟨hok, rfl⟩ := Prod.mk.inj (Option.some.inj yy')
  exact ⟨20, q_ref24_All _ _ _ hok⟩
end Go.Rx.Ch24

set_option linter.unusedVariables false
set_option linter.unusedSimpArgs false
set_option maxRecDepth 100000
set_option maxHeartbeats 4000000
open Go Go.Rx Go.Proofs
namespace Go.Rx.Ch24
theorem o_law_area : loopsOf (bodyOf Try.f31) = [loopOf Try.f31 0] := by kernel_rfl
theorem q_law_area (a b c d : Int) (hok : true = true) : funR Try.prog t_law_area (annOf []) l_law_area 20 Try.f31 [.agg [.int .i64 a, .int .i64 b, .int .i64 c, .int .i64 d]] [] = some ⟨.one (.int .i64 (area4 a b c d)), [], []⟩ := by
    refine (e_law_area ..).trans ?_
    simp only [ite2_bool, decide_eq_true_eq, area4, mx_eq]
    by_cases la : a < 0
    · have : inr 0 4096 a = false := by simp [inr]; omega
      simp [la, this]
    by_cases ga : a > 4096
    · have : inr 0 4096 a = false := by simp [inr]; omega
      simp [la, ga, this]
    by_cases lb : b < 0
    · have : inr 0 4096 b = false := by simp [inr]; omega
      simp [la, ga, lb, this]
    by_cases gb : b > 4096
    · have : inr 0 4096 b = false := by simp [inr]; omega
      simp [la, ga, lb, gb, this]
    by_cases lc : c < 0
    · have : inr 0 4096 c = false := by simp [inr]; omega
      simp [la, ga, lb, gb, lc, this]
    by_cases gc : c > 4096
    · have : inr 0 4096 c = false := by simp [inr]; omega
      simp [la, ga, lb, gb, lc, gc, this]
    by_cases ld : d < 0
    · have : inr 0 4096 d = false := by simp [inr]; omega
      simp [la, ga, lb, gb, lc, gc, ld, this]
    by_cases gd : d > 4096
    · have : inr 0 4096 d = false := by simp [inr]; omega
      simp [la, ga, lb, gb, lc, gc, ld, gd, this]
    rw [if_neg la, if_neg ga, if_neg lb, if_neg gb, if_neg lc, if_neg gc, if_neg ld, if_neg gd, inr_t (a := 0) (b := 4096) (x := a) (by omega) (by omega), inr_t (a := 0) (b := 4096) (x := b) (by omega) (by omega), inr_t (a := 0) (b := 4096) (x := c) (by omega) (by omega), inr_t (a := 0) (b := 4096) (x := d) (by omega) (by omega), wrap_in (n := c - a) (by omega) (by omega), wrap_in (n := d - b) (by omega) (by omega)]
    have m1 := prod_b (show 0 ≤ max 0 (c - a) by omega) (show max 0 (c - a) ≤ 4096 by omega) (show 0 ≤ max 0 (d - b) by omega) (show max 0 (d - b) ≤ 4096 by omega)
    rw [wrap_in (by omega) (by omega)]
    rfl
theorem s_law_area : SoundFun Try.prog 31 G_law_area := by
  refine fun_ok (tab := t_law_area) (ann := annOf []) (lt := l_law_area) tab_nil (by kernel_rfl) (fn := Try.f31) (by kernel_rfl) (by decide) (c := bodyOf Try.f31) (by kernel_rfl) (by
    intro m b hb
    have hb' : b ∈ loopsOf (bodyOf Try.f31) := hb
    rw [o_law_area] at hb'
    simp only [List.mem_cons, List.not_mem_nil, or_false] at hb'
    rcases hb' with rfl
    · exact loop_none (by kernel_rfl) m
    ) ?_
  intro args lent o y0'
  unfold G_law_area at y0'
  obtain ⟨q', args, rfl, y1'⟩ := pA_s y0'
  obtain ⟨c', q', rfl, y2'⟩ := tC_s y1'
  obtain ⟨a, rfl, y3'⟩ := kI_s y2'
  obtain ⟨c', q', rfl, y4'⟩ := tC_s y3'
  obtain ⟨b, rfl, y5'⟩ := kI_s y4'
  obtain ⟨c', q', rfl, y6'⟩ := tC_s y5'
  obtain ⟨c, rfl, y7'⟩ := kI_s y6'
  obtain ⟨c', q', rfl, y8'⟩ := tC_s y7'
  obtain ⟨d, rfl, y9'⟩ := kI_s y8'
  obtain ⟨rfl, y10'⟩ := tE_s y9'
  obtain ⟨rfl, y11'⟩ := pE_s y10'
  obtain ⟨rfl, y12'⟩ := nE_s y11'
  have yy' := y12'
  unfold H_law_area at yy'
  obtain ⟨hok, rfl⟩ := Prod.mk.inj (Option.some.inj yy')
  exact ⟨20, q_law_area _ _ _ _ hok⟩
theorem q_law_small (h : Hd) (p : Pm) (hok : true = true) : funR Try.prog t_law_small (annOf []) l_law_small 20 Try.f8 [.agg (hdC h), .agg (pmC p)] [] = some ⟨.one (.bool (smallB h p)), [], []⟩ := by
    refine (e_law_small ..).trans ?_
    simp only [ite2_dec, ite2_bool, mx_eq, mn_eq, smallB]
    (repeat' split) <;> (try simp_all) <;> (try omega) <;> (try (rw [Bool.eq_iff_iff]; simp; omega))
theorem s_law_small : SoundFun Try.prog 8 G_law_small := by
  refine fun_ok (tab := t_law_small) (ann := annOf []) (lt := l_law_small) (tab_cons s_law_area tab_nil) (by kernel_rfl) (fn := Try.f8) (by kernel_rfl) (by decide) (c := bodyOf Try.f8) (by kernel_rfl) (fun m b hb => absurd hb (by show b ∉ loopsOf (bodyOf Try.f8); rw [show loopsOf (bodyOf Try.f8) = [] from by kernel_rfl]; exact List.not_mem_nil)) ?_
  intro args lent o y0'
  unfold G_law_small at y0'
  obtain ⟨q', args, rfl, y1'⟩ := pA_s y0'
  obtain ⟨h, rfl, y2'⟩ := rdHd_s y1'
  obtain ⟨q', args, rfl, y3'⟩ := pA_s y2'
  obtain ⟨p, rfl, y4'⟩ := rdPm_s y3'
  obtain ⟨rfl, y5'⟩ := pE_s y4'
  obtain ⟨rfl, y6'⟩ := nE_s y5'
  have yy' := y6'
  unfold H_law_small at yy'
  obtain ⟨hok, rfl⟩ := Prod.mk.inj (Option.some.inj yy')
  exact ⟨20, q_law_small _ _ hok⟩
theorem q_law_example  (hok : true = true) : funR Try.prog t_law_example (annOf []) l_law_example 20 Try.f32 [] [] = some ⟨.tup [(true, [.int .i64 0, .int .i64 0, .int .i64 16, .int .i64 16, .int .i64 16, .int .i64 16, .row 0]), (true, [.int .i64 2, .int .i64 1, .int .i64 0, .int .i64 2, .int .i64 2, .row 1, .int .i64 1, .int .i64 3, .bool false, .bool false, .bool false, .bool false, .bool false, .bool false, .bool false, .bool false, .row 2, .int .i64 16, .int .i64 0])], [], [.arr 73 (.pair (.int .i64) (.pair .bool (.pair (.int .i64) (.int .i64)))) exCs, .arr 61 (.pair (.int .i64) (.int .i64)) exPr, .arr 3 (.int .i64) exSt]⟩ := by
    refine (e_law_example ..).trans ?_
    kernel_rfl
theorem s_law_example : SoundFun Try.prog 32 G_law_example := by
  refine fun_ok (tab := t_law_example) (ann := annOf []) (lt := l_law_example) tab_nil (by kernel_rfl) (fn := Try.f32) (by kernel_rfl) (by decide) (c := bodyOf Try.f32) (by kernel_rfl) (fun m b hb => absurd hb (by show b ∉ loopsOf (bodyOf Try.f32); rw [show loopsOf (bodyOf Try.f32) = [] from by kernel_rfl]; exact List.not_mem_nil)) ?_
  intro args lent o y0'
  unfold G_law_example at y0'
  obtain ⟨rfl, y1'⟩ := pE_s y0'
  obtain ⟨rfl, y2'⟩ := nE_s y1'
  have yy' := y2'
  unfold H_law_example at yy'
  obtain ⟨hok, rfl⟩ := Prod.mk.inj (Option.some.inj yy')
  exact ⟨20, q_law_example hok⟩
theorem q_awake  (hok : true = true) : funR Try.prog t_awake (annOf []) l_awake 20 Try.f9 [] [] = some ⟨.one (.bool true), [], []⟩ := by
    refine (e_awake ..).trans ?_
    kernel_rfl
theorem s_awake : SoundFun Try.prog 9 G_awake := by
  refine fun_ok (tab := t_awake) (ann := annOf []) (lt := l_awake) (tab_cons s_lay_Tiles (tab_cons s_lay_Component (tab_cons s_lay_Resolution (tab_cons s_lay_Packets (tab_cons s_lay_Grid (tab_cons s_lay_Blocks (tab_cons s_lay_All (tab_cons s_law_example tab_nil)))))))) (by kernel_rfl) (fn := Try.f9) (by kernel_rfl) (by decide) (c := bodyOf Try.f9) (by kernel_rfl) (fun m b hb => absurd hb (by show b ∉ loopsOf (bodyOf Try.f9); rw [show loopsOf (bodyOf Try.f9) = [] from by kernel_rfl]; exact List.not_mem_nil)) ?_
  intro args lent o y0'
  unfold G_awake at y0'
  obtain ⟨rfl, y1'⟩ := pE_s y0'
  obtain ⟨rfl, y2'⟩ := nE_s y1'
  have yy' := y2'
  unfold H_awake at yy'
  obtain ⟨hok, rfl⟩ := Prod.mk.inj (Option.some.inj yy')
  exact ⟨20, q_awake hok⟩
end Go.Rx.Ch24

set_option linter.unusedVariables false
set_option linter.unusedSimpArgs false
set_option maxRecDepth 100000
set_option maxHeartbeats 4000000
open Go Go.Rx Go.Proofs
namespace Go.Rx.Ch24
theorem smallB_s {h : Hd} {p : Pm} (hf : smallB h p = true) : small h.cs.length = true ∧ small p.pr.length = true ∧ small p.st.length = true := by
  simp only [smallB, Bool.and_eq_true, decide_eq_true_eq] at hf
  simp only [small, decide_eq_true_eq]
  omega
theorem allL_len (h : Hd) (p : Pm) (t : Int) : (allL h p t).length ≤ 400000000000 := by
  unfold allL allU
  split
  · rename_i e
    have eb := exists_b e
    have nb := nums_b eb.2.2.1
    have h2 := cmps_f nb.1.2 h t h.cs.length
    have h4 := eb.2.2.2.1
    omega
  · simp
theorem tilesH_len (h : Hd) : (tilesH h).length ≤ 65536 := by
  unfold tilesH
  split
  · simp
  · exact tilesL_len ..
theorem q_LayoutGrids (h : Hd) (p : Pm) (t k s b i : Int) (hok : ok_LayoutGrids h p t k s b i = true) : funR Try.prog t_LayoutGrids (annOf []) l_LayoutGrids 20 Try.f4 [.agg (hdC h), .agg (pmC p), .agg [.int .i64 t, .int .i64 k, .int .i64 s, .int .i64 b, .int .i64 i]] [] = some ⟨.one (.bool true), [], []⟩ := by
    refine (e_LayoutGrids ..).trans ?_
    cases hf : smallB h p
    · rfl
    · have hs := smallB_s hf
      simp [ite2_bool, hs]
theorem s_LayoutGrids : SoundFun Try.prog 4 G_LayoutGrids := by
  refine fun_ok (tab := t_LayoutGrids) (ann := annOf []) (lt := l_LayoutGrids) (tab_cons s_law_small (tab_cons s_awake (tab_cons s_lay_Resolution (tab_cons s_ref24_Resolution (tab_cons s_lay_Packets (tab_cons s_ref24_Packets (tab_cons s_lay_Grid (tab_cons s_ref24_Grid tab_nil)))))))) (by kernel_rfl) (fn := Try.f4) (by kernel_rfl) (by decide) (c := bodyOf Try.f4) (by kernel_rfl) (fun m b hb => absurd hb (by show b ∉ loopsOf (bodyOf Try.f4); rw [show loopsOf (bodyOf Try.f4) = [] from by kernel_rfl]; exact List.not_mem_nil)) ?_
  intro args lent o y0'
  unfold G_LayoutGrids at y0'
  obtain ⟨q', args, rfl, y1'⟩ := pA_s y0'
  obtain ⟨h, rfl, y2'⟩ := rdHd_s y1'
  obtain ⟨q', args, rfl, y3'⟩ := pA_s y2'
  obtain ⟨p, rfl, y4'⟩ := rdPm_s y3'
  obtain ⟨q', args, rfl, y5'⟩ := pA_s y4'
  obtain ⟨c', q', rfl, y6'⟩ := tC_s y5'
  obtain ⟨t, rfl, y7'⟩ := kI_s y6'
  obtain ⟨c', q', rfl, y8'⟩ := tC_s y7'
  obtain ⟨k, rfl, y9'⟩ := kI_s y8'
  obtain ⟨c', q', rfl, y10'⟩ := tC_s y9'
  obtain ⟨s, rfl, y11'⟩ := kI_s y10'
  obtain ⟨c', q', rfl, y12'⟩ := tC_s y11'
  obtain ⟨b, rfl, y13'⟩ := kI_s y12'
  obtain ⟨c', q', rfl, y14'⟩ := tC_s y13'
  obtain ⟨i, rfl, y15'⟩ := kI_s y14'
  obtain ⟨rfl, y16'⟩ := tE_s y15'
  obtain ⟨rfl, y17'⟩ := pE_s y16'
  obtain ⟨rfl, y18'⟩ := nE_s y17'
  have yy' := y18'
  unfold H_LayoutGrids at yy'
  obtain ⟨hok, rfl⟩ := Prod.mk.inj (Option.some.inj yy')
  exact ⟨20, q_LayoutGrids _ _ _ _ _ _ _ hok⟩
theorem q_LayoutBlocks (h : Hd) (p : Pm) (t k s b i : Int) (hok : ok_LayoutBlocks h p t k s b i = true) : funR Try.prog t_LayoutBlocks (annOf []) l_LayoutBlocks 20 Try.f5 [.agg (hdC h), .agg (pmC p), .agg [.int .i64 t, .int .i64 k, .int .i64 s, .int .i64 b, .int .i64 i]] [] = some ⟨.one (.bool true), [], []⟩ := by
    refine (e_LayoutBlocks ..).trans ?_
    cases hf : smallB h p
    · rfl
    · have hs := smallB_s hf
      have h1 : small (blocksL h p t k s i).length = true := by
        have := pcL_len (compT h t k) p k s i
        have h2 : (blocksL h p t k s i).length ≤ 196608 := by
          unfold blocksL
          split
          · exact this
          · simp
        simp only [small, decide_eq_true_eq]
        omega
      have h2 : small (allL h p t).length = true := by
        have := allL_len h p t
        simp only [small, decide_eq_true_eq]
        omega
      simp [ite2_bool, hs, h1, h2]
theorem s_LayoutBlocks : SoundFun Try.prog 5 G_LayoutBlocks := by
  refine fun_ok (tab := t_LayoutBlocks) (ann := annOf []) (lt := l_LayoutBlocks) (tab_cons s_law_small (tab_cons s_awake (tab_cons s_ref24_SameBlocks (tab_cons s_lay_Blocks (tab_cons s_ref24_Blocks (tab_cons s_lay_All (tab_cons s_ref24_All tab_nil))))))) (by kernel_rfl) (fn := Try.f5) (by kernel_rfl) (by decide) (c := bodyOf Try.f5) (by kernel_rfl) (fun m b hb => absurd hb (by show b ∉ loopsOf (bodyOf Try.f5); rw [show loopsOf (bodyOf Try.f5) = [] from by kernel_rfl]; exact List.not_mem_nil)) ?_
  intro args lent o y0'
  unfold G_LayoutBlocks at y0'
  obtain ⟨q', args, rfl, y1'⟩ := pA_s y0'
  obtain ⟨h, rfl, y2'⟩ := rdHd_s y1'
  obtain ⟨q', args, rfl, y3'⟩ := pA_s y2'
  obtain ⟨p, rfl, y4'⟩ := rdPm_s y3'
  obtain ⟨q', args, rfl, y5'⟩ := pA_s y4'
  obtain ⟨c', q', rfl, y6'⟩ := tC_s y5'
  obtain ⟨t, rfl, y7'⟩ := kI_s y6'
  obtain ⟨c', q', rfl, y8'⟩ := tC_s y7'
  obtain ⟨k, rfl, y9'⟩ := kI_s y8'
  obtain ⟨c', q', rfl, y10'⟩ := tC_s y9'
  obtain ⟨s, rfl, y11'⟩ := kI_s y10'
  obtain ⟨c', q', rfl, y12'⟩ := tC_s y11'
  obtain ⟨b, rfl, y13'⟩ := kI_s y12'
  obtain ⟨c', q', rfl, y14'⟩ := tC_s y13'
  obtain ⟨i, rfl, y15'⟩ := kI_s y14'
  obtain ⟨rfl, y16'⟩ := tE_s y15'
  obtain ⟨rfl, y17'⟩ := pE_s y16'
  obtain ⟨rfl, y18'⟩ := nE_s y17'
  have yy' := y18'
  unfold H_LayoutBlocks at yy'
  obtain ⟨hok, rfl⟩ := Prod.mk.inj (Option.some.inj yy')
  exact ⟨20, q_LayoutBlocks _ _ _ _ _ _ _ hok⟩
theorem r_LayoutTiles_0 : RoundOk Try.prog t_LayoutTiles (annOf []) l_LayoutTiles Out 20 0 51 [1, 2, 3, 7, 8, 25, 26] (kxOf [1, 2, 3] [6]) (loopOf Try.f3 0) T_LayoutTiles_0 := by
  intro vs bl Kc r h
  unfold T_LayoutTiles_0 at h
  obtain ⟨t, y0', h'⟩ := getD_run h
  obtain ⟨c', vs, rfl, y1'⟩ := pO_s y0'
  obtain ⟨t, rfl, y2'⟩ := kI_s y1'
  obtain ⟨c', vs, rfl, y3'⟩ := pO_s y2'
  obtain ⟨c, rfl, y4'⟩ := kI_s y3'
  obtain ⟨c', vs, rfl, y5'⟩ := pO_s y4'
  obtain ⟨rfl, y6'⟩ := kP_s y5'
  obtain ⟨c', vs, rfl, y7'⟩ := pO_s y6'
  obtain ⟨rfl, y8'⟩ := kR_s y7'
  obtain ⟨c', vs, rfl, y9'⟩ := pO_s y8'
  obtain ⟨rfl, y10'⟩ := kR_s y9'
  obtain ⟨c', vs, rfl, y11'⟩ := pO_s y10'
  obtain ⟨n, rfl, y12'⟩ := kI_s y11'
  obtain ⟨c', vs, rfl, y13'⟩ := pO_s y12'
  obtain ⟨i, rfl, y14'⟩ := kI_s y13'
  obtain ⟨rfl, y15'⟩ := pE_s y14'
  obtain ⟨q', bl, rfl, y16'⟩ := bB_s y15'
  obtain ⟨h, rfl, y17'⟩ := rdHd_s y16'
  obtain ⟨v, bl, rfl, y18'⟩ := bAR_s y17'
  obtain ⟨u, bl, rfl, y19'⟩ := bAR_s y18'
  obtain ⟨rfl, y20'⟩ := bE_s y19'
  have yy' := y20'
  cases yy'
  exact (b_LayoutTiles_0 ..).trans ((congrArg (LT.runc · Kc) (tu_LayoutTiles_0 ..)).trans h')
theorem o_LayoutTiles : loopsOf (bodyOf Try.f3) = [loopOf Try.f3 0] := by kernel_rfl
theorem zz_LayoutTiles_0 (h : Hd) (t c : Int) (v u : List Rc) (hsm : small (v.length) = true) (hc : decide (v = u) = true) : ∃ k, ∀ (K : Ex → List V → List (Option Blk) → Option Out) r, (c_LayoutTiles_0 h t c v u).run K = some r → (iter T_LayoutTiles_0 k [.one (.int .i64 t), .one (.int .i64 c), .one (.ptr 0 0), .one (.row 1), .one (.row 2), .one (.int .i64 (v.length : Int)), .one (.int .i64 0)] [some (.box (hdC h)), some (.arr 23 (.pair (.int .i64) (.pair (.int .i64) (.pair (.int .i64) (.int .i64)))) v), some (.arr 23 (.pair (.int .i64) (.pair (.int .i64) (.pair (.int .i64) (.int .i64)))) u)]).run K = some r := by
  refine z_idx (st := fun i => ([.one (.int .i64 t), .one (.int .i64 c), .one (.ptr 0 0), .one (.row 1), .one (.row 2), .one (.int .i64 (v.length : Int)), .one (.int .i64 ((i : Nat) : Int))], [some (.box (hdC h)), some (.arr 23 (.pair (.int .i64) (.pair (.int .i64) (.pair (.int .i64) (.int .i64)))) v), some (.arr 23 (.pair (.int .i64) (.pair (.int .i64) (.pair (.int .i64) (.int .i64)))) u)])) (v.length) (fun _ => true) _ _ (fun i hi F K => ?_) (fun F K => ?_)
  · have hi' : (i : Int) < (v.length : Int) := by omega
    have hc' := hc
    simp only [Bool.and_eq_true, decide_eq_true_eq] at hc'
    simp only [tu_LayoutTiles_0, U_LayoutTiles_0, LT.next, LT.run, ite2_dec, ite2_bool, wrap_next hi hsm, Int.toNat_natCast, hi', Int.natCast_nonneg, and_self, if_true, gI, gP, gC, gR]
    subst hc'
    simp [hi]
    rfl
  · simp only [tu_LayoutTiles_0, U_LayoutTiles_0, LT.next, LT.run, ite2_dec, Int.lt_irrefl, if_false]
    try rfl
theorem z_LayoutTiles_0 : ∀ vs bl t, S_LayoutTiles_0 vs bl = some (true, t) → ∃ n, ∀ (K : Ex → List V → List (Option Blk) → Option Out) r, t.run K = some r → (iter T_LayoutTiles_0 n vs bl).run K = some r := by
  intro vs bl t y0'
  unfold S_LayoutTiles_0 at y0'
  obtain ⟨c', vs, rfl, y1'⟩ := pO_s y0'
  obtain ⟨t, rfl, y2'⟩ := kI_s y1'
  obtain ⟨c', vs, rfl, y3'⟩ := pO_s y2'
  obtain ⟨c, rfl, y4'⟩ := kI_s y3'
  obtain ⟨c', vs, rfl, y5'⟩ := pO_s y4'
  obtain ⟨rfl, y6'⟩ := kP_s y5'
  obtain ⟨c', vs, rfl, y7'⟩ := pO_s y6'
  obtain ⟨rfl, y8'⟩ := kR_s y7'
  obtain ⟨c', vs, rfl, y9'⟩ := pO_s y8'
  obtain ⟨rfl, y10'⟩ := kR_s y9'
  obtain ⟨c', vs, rfl, y11'⟩ := pO_s y10'
  obtain ⟨n, rfl, y12'⟩ := kI_s y11'
  obtain ⟨c', vs, rfl, y13'⟩ := pO_s y12'
  obtain ⟨i, rfl, y14'⟩ := kI_s y13'
  obtain ⟨rfl, y15'⟩ := pE_s y14'
  obtain ⟨q', bl, rfl, y16'⟩ := bB_s y15'
  obtain ⟨h, rfl, y17'⟩ := rdHd_s y16'
  obtain ⟨v, bl, rfl, y18'⟩ := bAR_s y17'
  obtain ⟨u, bl, rfl, y19'⟩ := bAR_s y18'
  obtain ⟨rfl, y20'⟩ := bE_s y19'
  have yy' := y20'
  obtain ⟨hk, rfl⟩ := Prod.mk.inj (Option.some.inj yy')
  unfold k_LayoutTiles_0 at hk
  simp only [Bool.and_eq_true, decide_eq_true_eq, and_assoc] at hk
  obtain ⟨rfl, rfl, hsm, hc⟩ := hk
  exact zz_LayoutTiles_0 _ _ _ _ _ hsm (by first | exact hc | simpa using hc)
theorem q_LayoutTiles (h : Hd) (t c : Int) (hok : ok_LayoutTiles h t c = true) : funR Try.prog t_LayoutTiles (annOf []) l_LayoutTiles 20 Try.f3 [.agg (hdC h), .one (.int .i64 t), .one (.int .i64 c)] [] = some ⟨.one (.bool true), [], []⟩ := by
    refine (e_LayoutTiles ..).trans ?_
    cases hf : smallB h { ke := 0, le := 0, co := 0, bx := 0, bw := 0, pr := [], od := 0, la := 0, m1 := false, m2 := false, m3 := false, m4 := false, m5 := false, dv := false, sy := false, fe := false, st := [], de := 0, sf := 0 }
    · rfl
    have hs := smallB_s hf
    have h1 := tilesH_len h
    have hk : k_LayoutTiles_0 h t c (tilesH h) (tilesH h) ((tilesH h).length : Int) 0 = true := by
      simp only [k_LayoutTiles_0, decide_true, Bool.and_true, Bool.true_and, small, decide_eq_true_eq]
      omega
    simp [ite2_bool, hs, hk, p_LayoutTiles_0]
theorem s_LayoutTiles : SoundFun Try.prog 3 G_LayoutTiles := by
  refine fun_ok (tab := t_LayoutTiles) (ann := annOf []) (lt := l_LayoutTiles) (tab_cons s_law_small (tab_cons s_awake (tab_cons s_lay_Tiles (tab_cons s_ref24_Tiles (tab_cons s_lay_Component (tab_cons s_ref24_Component tab_nil)))))) (by kernel_rfl) (fn := Try.f3) (by kernel_rfl) (by decide) (c := bodyOf Try.f3) (by kernel_rfl) (by
    intro m b hb
    have hb' : b ∈ loopsOf (bodyOf Try.f3) := hb
    rw [o_LayoutTiles] at hb'
    simp only [List.mem_cons, List.not_mem_nil, or_false] at hb'
    rcases hb' with rfl
    · exact loop_ok (key := 7) (by kernel_rfl) rfl r_LayoutTiles_0 z_LayoutTiles_0 m
    ) ?_
  intro args lent o y0'
  unfold G_LayoutTiles at y0'
  obtain ⟨q', args, rfl, y1'⟩ := pA_s y0'
  obtain ⟨h, rfl, y2'⟩ := rdHd_s y1'
  obtain ⟨c', args, rfl, y3'⟩ := pO_s y2'
  obtain ⟨t, rfl, y4'⟩ := kI_s y3'
  obtain ⟨c', args, rfl, y5'⟩ := pO_s y4'
  obtain ⟨c, rfl, y6'⟩ := kI_s y5'
  obtain ⟨rfl, y7'⟩ := pE_s y6'
  obtain ⟨rfl, y8'⟩ := nE_s y7'
  have yy' := y8'
  unfold H_LayoutTiles at yy'
  obtain ⟨hok, rfl⟩ := Prod.mk.inj (Option.some.inj yy')
  exact ⟨20, q_LayoutTiles _ _ _ hok⟩
end Go.Rx.Ch24

