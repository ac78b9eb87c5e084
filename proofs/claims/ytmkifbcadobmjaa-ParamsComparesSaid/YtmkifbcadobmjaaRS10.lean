/- The summaries of these functions are sound. -/
import Derived.Test.YtmkifbcadobmjaaRE10
import Derived.Test.YtmkifbcadobmjaaRS9
set_option linter.unnecessarySimpa false
set_option linter.unusedVariables false
set_option linter.unusedSimpArgs false
set_option linter.unusedVariables false
set_option linter.unusedSimpArgs false
set_option maxRecDepth 100000
set_option maxHeartbeats 4000000
open Go Go.Rx Go.Proofs
namespace Go.Rx.Ch23
theorem header_ok {h : Hd} (e : header h = 0) : valid h.a h.b h.c h.d = true ∧ empty h.a h.b h.c h.d = false ∧ inr 1 4096 h.tw = true ∧ inr 1 4096 h.th = true ∧ inr 1 4 h.cs.length = true ∧ h.cs.all (okC h) = true ∧ tiles h ≤ 1024 ∧ h.cs.all (smC h) = true := by
  unfold header at e
  split at e
  · cases e
  · rename_i h1
    split at e
    · cases e
    · rename_i h2
      simp only [Bool.or_eq_true, Bool.not_eq_true', decide_eq_true_eq, not_or, Bool.not_eq_false, Bool.not_eq_true] at h1 h2
      exact ⟨h1.1.1.1.1.1, h1.1.1.1.1.2, h1.1.1.1.2, h1.1.1.2, h1.1.2, h1.2, by omega, h2.2⟩
theorem valid_inter {a b c d : Int} (h : valid a b c d = true) (e f g o : Int) : validR (inter a b c d e f g o) = true := by
  have hb := valid_b h
  unfold inter
  split
  · rfl
  · rename_i he
    simp only [empty, Bool.or_eq_true, decide_eq_true_eq, not_or] at he
    show valid (max a e) (max b f) (min c g) (min d o) = true
    exact valid_i (by omega)
theorem valid_rowL {a b c d : Int} (hv : valid a b c d = true) (w h j : Int) : ∀ n i, (rowL a b c d w h j n i).all validR = true
  | 0, i => rfl
  | n + 1, i => by
    simp only [rowL, List.all_cons, valid_rowL hv w h j n, Bool.and_true]
    exact valid_inter hv ..
theorem valid_gridL {a b c d : Int} (hv : valid a b c d = true) (w h l : Int) (m : Nat) : ∀ n j, (gridL a b c d w h l m n j).all validR = true
  | 0, j => rfl
  | n + 1, j => by
    simp only [gridL, List.all_append, valid_rowL hv, valid_gridL hv w h l m n, Bool.and_true]
theorem valid_tilesL (a b c d w h : Int) : (tilesL a b c d w h).all validR = true := by
  unfold tilesL
  split
  · rfl
  · rename_i h1
    split
    · rfl
    · simp only [Bool.or_eq_true, Bool.not_eq_true', decide_eq_true_eq, not_or, Bool.not_eq_false] at h1
      exact valid_gridL h1.1.1.1 ..
theorem gridL_len (a b c d w h l : Int) (m : Nat) : ∀ n j, (gridL a b c d w h l m n j).length = n * m
  | 0, j => by simp [gridL]
  | n + 1, j => by simp only [gridL, List.length_append, rowL_len, gridL_len a b c d w h l m n, Nat.add_mul]; omega
theorem tilesL_len (a b c d w h : Int) : (tilesL a b c d w h).length ≤ 65536 := by
  unfold tilesL
  split
  · simp
  · rename_i h1
    split
    · simp
    · rename_i h2
      simp only [Bool.or_eq_true, Bool.not_eq_true', decide_eq_true_eq, not_or, Bool.not_eq_false] at h1
      have hb := valid_b h1.1.1.1
      have s1 := span_b hb.1 hb.2.1 hb.2.2.1 (show 1 ≤ w by omega)
      have s2 := span_b hb.2.2.2.1 hb.2.2.2.2.1 hb.2.2.2.2.2 (show 1 ≤ h by omega)
      rw [gridL_len]
      have e : (((cdiv d h - fdiv b h).toNat * (cdiv c w - fdiv a w).toNat : Nat) : Int) = (cdiv c w - fdiv a w) * (cdiv d h - fdiv b h) := by
        rw [Int.natCast_mul, Int.toNat_of_nonneg (by omega), Int.toNat_of_nonneg (by omega), Int.mul_comm]
      omega
theorem tilesL_sm (a b c d w h : Int) : small (tilesL a b c d w h).length = true := by
  have := tilesL_len a b c d w h
  simp only [small, decide_eq_true_eq]; omega
theorem maxF_le (f : Nat → Int) (M : Int) : ∀ k s, maxF f k s ≤ M ↔ s ≤ M ∧ ∀ j, j < k → f j ≤ M
  | 0, s => by simp [maxF]
  | k + 1, s => by
    have := maxF_le f M k s
    simp only [maxF]
    constructor
    · intro h
      have h1 := this.1 (by omega)
      refine ⟨h1.1, fun j hj => ?_⟩
      rcases Nat.lt_or_ge j k with h2 | h2
      · exact h1.2 j h2
      · rw [show j = k by omega]; omega
    · intro h
      have h1 := this.2 ⟨h.1, fun j hj => h.2 j (by omega)⟩
      have h2 := h.2 k (by omega)
      omega
theorem blksN_le (t : Rc) (p : Pm) (l : List (Int × Bool × Int × Int)) : ∀ k, blksN t p l k ≤ 65536 ↔ ∀ i, i < k → ∀ q, q < (3 * p.le + 1).toNat → bandB (redT t (gC l i)) p q ≤ 65536
  | 0 => by simp [blksN]
  | k + 1 => by
    simp only [blksN, compB]
    rw [maxF_le, blksN_le t p l k]
    constructor
    · intro h i hi q hq
      rcases Nat.lt_or_ge i k with h2 | h2
      · exact h.1 i h2 q hq
      · rw [show i = k by omega]; exact h.2 q hq
    · intro h
      exact ⟨fun i hi => h i (by omega), h k (by omega)⟩
theorem compOK_iff {p : Pm} (hn : nums p = true) (r : Rc) : compOK r p = true ↔ ∀ q : Nat, q < (3 * p.le + 1).toNat → bandB r p q ≤ 65536 := by
  have nb := nums_b hn
  simp only [compOK, List.all_eq_true, List.mem_range, resOK, decide_eq_true_eq]
  constructor
  · intro h q hq
    have h1 := h ((q + 2) / 3) (by omega) q (by
      have e1 : inr 0 5 p.le = true := inr_t nb.1.1 nb.1.2
      have e2 : inr 0 p.le (((q + 2) / 3 : Nat) : Int) = true := inr_t (by omega) (by omega)
      simp only [idxs, e1, e2, Bool.and_self, if_true]
      split
      · simp; omega
      · simp; omega)
    have e3 : (((q + 2) / 3 : Nat) : Int) = ((q : Int) + 2) / 3 := by omega
    rw [e3] at h1
    exact h1
  · intro h k hk b hb
    have e1 : inr 0 5 p.le = true := inr_t nb.1.1 nb.1.2
    have e2 : inr 0 p.le (k : Int) = true := inr_t (by omega) (by omega)
    simp only [idxs, e1, e2, Bool.and_self, if_true] at hb
    have hb' : 0 ≤ b ∧ b ≤ 3 * p.le ∧ (b + 2) / 3 = k := by
      split at hb
      · simp at hb; omega
      · simp at hb; omega
    have h1 := h b.toNat (by omega)
    simp only [bandB, Int.toNat_of_nonneg hb'.1, hb'.2.2] at h1
    exact h1
theorem fits_eq {p : Pm} (hn : nums p = true) (r : Rc) (l : List (Int × Bool × Int × Int)) : fits r p l = fitsB r p l := by
  have : compsOK r p l = decide (blks r p l ≤ 65536) := by
    rw [Bool.eq_iff_iff, decide_eq_true_eq]
    unfold blks
    rw [blksN_le]
    simp only [compsOK, List.all_eq_true, List.mem_range]
    constructor
    · intro h i hi
      exact (compOK_iff hn _).1 (h i hi)
    · intro h i hi
      exact (compOK_iff hn _).2 (h i hi)
  simp only [fits, fitsB, this, Bool.and_comm]
theorem check_eq (h : Hd) (p : Pm) : checkA h p = checkB h p := by
  unfold checkA checkB
  split
  · rfl
  · split
    · rfl
    · cases hn : nums p
      · rfl
      · cases colors h p
        · rfl
        · have e : (fun r => fits r p h.cs) = fun r => fitsB r p h.cs := funext fun r => fits_eq hn r _
          have e2 : (tilesL h.a h.b h.c h.d h.tw h.th).all (fun r => fits r p h.cs) = (tilesL h.a h.b h.c h.d h.tw h.th).all (fun r => fitsB r p h.cs) := congrArg _ e
          simp only [Bool.and_self, Bool.not_true, Bool.false_eq_true, if_false]
          rw [e2]
theorem r_params_Check_0 : RoundOk Try.prog t_params_Check (annOf []) l_params_Check Out 20 0 54 [2, 3, 42, 43, 44] (kxOf [] [4]) (loopOf Try.f14 0) T_params_Check_0 := by
  intro vs bl Kc r h
  unfold T_params_Check_0 at h
  obtain ⟨t, y0', h'⟩ := getD_run h
  obtain ⟨c', vs, rfl, y1'⟩ := pO_s y0'
  obtain ⟨rfl, y2'⟩ := kP_s y1'
  obtain ⟨c', vs, rfl, y3'⟩ := pO_s y2'
  obtain ⟨rfl, y4'⟩ := kP_s y3'
  obtain ⟨c', vs, rfl, y5'⟩ := pO_s y4'
  obtain ⟨rfl, y6'⟩ := kR_s y5'
  obtain ⟨c', vs, rfl, y7'⟩ := pO_s y6'
  obtain ⟨n, rfl, y8'⟩ := kI_s y7'
  obtain ⟨c', vs, rfl, y9'⟩ := pO_s y8'
  obtain ⟨i, rfl, y10'⟩ := kI_s y9'
  obtain ⟨rfl, y11'⟩ := pE_s y10'
  obtain ⟨q', bl, rfl, y12'⟩ := bB_s y11'
  obtain ⟨h, rfl, y13'⟩ := rdHd_s y12'
  obtain ⟨q', bl, rfl, y14'⟩ := bB_s y13'
  obtain ⟨p, rfl, y15'⟩ := rdPm_s y14'
  obtain ⟨t, bl, rfl, y16'⟩ := bAR_s y15'
  obtain ⟨rfl, y17'⟩ := bE_s y16'
  have yy' := y17'
  cases yy'
  exact (b_params_Check_0 ..).trans ((congrArg (LT.runc · Kc) (tu_params_Check_0 ..)).trans h')
theorem o_params_Check : loopsOf (bodyOf Try.f14) = [loopOf Try.f14 0] := by kernel_rfl
theorem zz_params_Check_0 (h : Hd) (p : Pm) (t : List Rc) (hsm : small (t.length) = true) (hc : (nums p && t.all validR && decide (h.cs.length ≤ 4)) = true) : ∃ k, ∀ (K : Ex → List V → List (Option Blk) → Option Out) r, (c_params_Check_0 h p t).run K = some r → (iter T_params_Check_0 k [.one (.ptr 0 0), .one (.ptr 1 0), .one (.row 2), .one (.int .i64 (t.length : Int)), .one (.int .i64 0)] [some (.box (hdC h)), some (.box (pmC p)), some (.arr 23 (.pair (.int .i64) (.pair (.int .i64) (.pair (.int .i64) (.int .i64)))) t)]).run K = some r := by
  refine z_list (st := fun i => ([.one (.ptr 0 0), .one (.ptr 1 0), .one (.row 2), .one (.int .i64 (t.length : Int)), .one (.int .i64 ((i : Nat) : Int))], [some (.box (hdC h)), some (.box (pmC p)), some (.arr 23 (.pair (.int .i64) (.pair (.int .i64) (.pair (.int .i64) (.int .i64)))) t)])) t (0, 0, 0, 0) (fun r => fits r p h.cs) _ _ (fun i hi F K => ?_) (fun F K => ?_)
  · have hi' : (i : Int) < (t.length : Int) := by omega
    have hc' := hc
    simp only [Bool.and_eq_true, decide_eq_true_eq] at hc'
    have hv : validR (t.getD i (0, 0, 0, 0)) = true := by
      rw [List.getD_eq_getElem?_getD, List.getElem?_eq_getElem hi]
      exact List.all_eq_true.1 hc'.1.2 _ (List.getElem_mem hi)
    unfold validR at hv
    have hsc : small h.cs.length = true := by simp only [small, decide_eq_true_eq]; omega
    simp only [tu_params_Check_0, U_params_Check_0, LT.next, LT.run, ite2_dec, ite2_bool, wrap_next hi hsm, Int.toNat_natCast, hi', Int.natCast_nonneg, and_self, if_true, gI, gP, gC, gR]
    have eT : ∀ x : Rc, (x.1, x.2.1, x.2.2.1, x.2.2.2) = x := fun _ => rfl
    simp only [eT, hv, hc', hi, hsc, hdC, pmC, decide_true, Bool.and_self, if_true]
    by_cases q : fits (t.getD i (0, 0, 0, 0)) p h.cs = true
    · simp only [q, Bool.not_true, Bool.false_eq_true, if_false, if_true]
    · simp only [Bool.not_eq_true] at q
      simp only [q, Bool.not_false, Bool.false_eq_true, if_false, if_true]
  · simp only [tu_params_Check_0, U_params_Check_0, LT.next, LT.run, ite2_dec, Int.lt_irrefl, if_false]
    try rfl
theorem z_params_Check_0 : ∀ vs bl t, S_params_Check_0 vs bl = some (true, t) → ∃ n, ∀ (K : Ex → List V → List (Option Blk) → Option Out) r, t.run K = some r → (iter T_params_Check_0 n vs bl).run K = some r := by
  intro vs bl t y0'
  unfold S_params_Check_0 at y0'
  obtain ⟨c', vs, rfl, y1'⟩ := pO_s y0'
  obtain ⟨rfl, y2'⟩ := kP_s y1'
  obtain ⟨c', vs, rfl, y3'⟩ := pO_s y2'
  obtain ⟨rfl, y4'⟩ := kP_s y3'
  obtain ⟨c', vs, rfl, y5'⟩ := pO_s y4'
  obtain ⟨rfl, y6'⟩ := kR_s y5'
  obtain ⟨c', vs, rfl, y7'⟩ := pO_s y6'
  obtain ⟨n, rfl, y8'⟩ := kI_s y7'
  obtain ⟨c', vs, rfl, y9'⟩ := pO_s y8'
  obtain ⟨i, rfl, y10'⟩ := kI_s y9'
  obtain ⟨rfl, y11'⟩ := pE_s y10'
  obtain ⟨q', bl, rfl, y12'⟩ := bB_s y11'
  obtain ⟨h, rfl, y13'⟩ := rdHd_s y12'
  obtain ⟨q', bl, rfl, y14'⟩ := bB_s y13'
  obtain ⟨p, rfl, y15'⟩ := rdPm_s y14'
  obtain ⟨t, bl, rfl, y16'⟩ := bAR_s y15'
  obtain ⟨rfl, y17'⟩ := bE_s y16'
  have yy' := y17'
  obtain ⟨hk, rfl⟩ := Prod.mk.inj (Option.some.inj yy')
  unfold k_params_Check_0 at hk
  simp only [Bool.and_eq_true, decide_eq_true_eq, and_assoc] at hk
  obtain ⟨rfl, rfl, hsm, hc⟩ := hk
  exact zz_params_Check_0 _ _ _ hsm (by first | exact hc | simpa using hc | simpa only [Bool.and_eq_true, decide_eq_true_eq, and_assoc] using hc)
theorem q_params_Check (h : Hd) (p : Pm) (hok : (small h.cs.length && (small p.pr.length && small p.st.length)) = true) : funR Try.prog t_params_Check (annOf []) l_params_Check 20 Try.f14 [.agg (hdC h), .agg (pmC p)] [] = some ⟨.one (.int .i64 (checkA h p)), [], []⟩ := by
    refine (e_params_Check ..).trans ?_
    simp only [Bool.and_eq_true] at hok
    simp only [ite2_bool, within, List.all_cons, List.all_nil, Bool.and_true, hok, Bool.and_self, if_true]
    by_cases hh : header h = 0
    rotate_left
    · simp [checkA, hh]
    have hb := header_ok hh
    have h1 := inr_b hb.2.2.1
    have h2 := inr_b hb.2.2.2.1
    have h3 := inr_b hb.2.2.2.2.1
    have h4 := tilesL_sm h.a h.b h.c h.d h.tw h.th
    have h5 := valid_tilesL h.a h.b h.c h.d h.tw h.th
    have h6 : h.cs.length ≤ 4 := by omega
    by_cases c1 : inr 1 3 p.ke = true
    rotate_left
    · simp [checkA, hh, kinds, c1]
    by_cases c2 : inr 0 2 p.co = true
    rotate_left
    · simp [checkA, hh, kinds, c1, c2]
    by_cases c3 : inr 1 5 p.od = true
    rotate_left
    · simp [checkA, hh, kinds, c1, c2, c3]
    by_cases c4 : nums p = true
    rotate_left
    · simp [checkA, hh, kinds, c1, c2, c3, c4]
    by_cases c5 : colors h p = true
    rotate_left
    · simp [checkA, hh, kinds, c1, c2, c3, c4, c5]
    have hk : k_params_Check_0 h p (tilesL h.a h.b h.c h.d h.tw h.th) ((tilesL h.a h.b h.c h.d h.tw h.th).length : Int) 0 = true := by simp only [k_params_Check_0, c4, h4, h5, h6, decide_true, Bool.and_self]
    simp only [checkA, hh, kinds, c1, c2, c3, c4, c5, hk, p_params_Check_0]
    by_cases c6 : (tilesL h.a h.b h.c h.d h.tw h.th).all (fun r => fits r p h.cs) = true <;> simp [h1, h2, c6]
theorem s_params_Check : SoundFun Try.prog 14 G_params_Check := by
  refine fun_ok (tab := t_params_Check) (ann := annOf []) (lt := l_params_Check) (tab_cons s_params_Header (tab_cons s_rect_Cells (tab_cons s_params_within (tab_cons s_params_numbers (tab_cons s_tileFits tab_nil))))) (by kernel_rfl) (fn := Try.f14) (by kernel_rfl) (by decide) (c := bodyOf Try.f14) (by kernel_rfl) (by
    intro m b hb
    have hb' : b ∈ loopsOf (bodyOf Try.f14) := hb
    rw [o_params_Check] at hb'
    simp only [List.mem_cons, List.not_mem_nil, or_false] at hb'
    rcases hb' with rfl
    · exact loop_ok (key := 9) (by kernel_rfl) rfl r_params_Check_0 z_params_Check_0 m
    ) ?_
  intro args lent o y0'
  unfold G_params_Check at y0'
  obtain ⟨q', args, rfl, y1'⟩ := pA_s y0'
  obtain ⟨h, rfl, y2'⟩ := rdHd_s y1'
  obtain ⟨q', args, rfl, y3'⟩ := pA_s y2'
  obtain ⟨p, rfl, y4'⟩ := rdPm_s y3'
  obtain ⟨rfl, y5'⟩ := pE_s y4'
  obtain ⟨rfl, y6'⟩ := nE_s y5'
  have yy' := y6'
  unfold H_params_Check at yy'
  obtain ⟨hok, rfl⟩ := Prod.mk.inj (Option.some.inj yy')
  exact ⟨20, q_params_Check _ _ hok⟩
theorem r_ref23_Check_0 : RoundOk Try.prog t_ref23_Check (annOf []) l_ref23_Check Out 20 0 79 [2, 3, 6, 7] (kxOf [] [4]) (loopOf Try.f15 0) T_ref23_Check_0 := by
  intro vs bl Kc r h
  unfold T_ref23_Check_0 at h
  obtain ⟨t, y0', h'⟩ := getD_run h
  obtain ⟨c', vs, rfl, y1'⟩ := pO_s y0'
  obtain ⟨rfl, y2'⟩ := kP_s y1'
  obtain ⟨c', vs, rfl, y3'⟩ := pO_s y2'
  obtain ⟨rfl, y4'⟩ := kP_s y3'
  obtain ⟨c', vs, rfl, y5'⟩ := pO_s y4'
  obtain ⟨rfl, y6'⟩ := kR_s y5'
  obtain ⟨c', vs, rfl, y7'⟩ := pO_s y6'
  obtain ⟨i, rfl, y8'⟩ := kI_s y7'
  obtain ⟨rfl, y9'⟩ := pE_s y8'
  obtain ⟨q', bl, rfl, y10'⟩ := bB_s y9'
  obtain ⟨h, rfl, y11'⟩ := rdHd_s y10'
  obtain ⟨q', bl, rfl, y12'⟩ := bB_s y11'
  obtain ⟨p, rfl, y13'⟩ := rdPm_s y12'
  obtain ⟨t, bl, rfl, y14'⟩ := bAR_s y13'
  obtain ⟨rfl, y15'⟩ := bE_s y14'
  have yy' := y15'
  cases yy'
  exact (b_ref23_Check_0 ..).trans ((congrArg (LT.runc · Kc) (tu_ref23_Check_0 ..)).trans h')
theorem o_ref23_Check : loopsOf (bodyOf Try.f15) = [loopOf Try.f15 0] := by kernel_rfl
theorem zz_ref23_Check_0 (h : Hd) (p : Pm) (t : List Rc) (hsm : small (t.length) = true) (hc : (nums p && t.all validR && decide (h.cs.length ≤ 4)) = true) : ∃ k, ∀ (K : Ex → List V → List (Option Blk) → Option Out) r, (c_ref23_Check_0 h p t).run K = some r → (iter T_ref23_Check_0 k [.one (.ptr 0 0), .one (.ptr 1 0), .one (.row 2), .one (.int .i64 0)] [some (.box (hdC h)), some (.box (pmC p)), some (.arr 23 (.pair (.int .i64) (.pair (.int .i64) (.pair (.int .i64) (.int .i64)))) t)]).run K = some r := by
  refine z_idx (st := fun i => ([.one (.ptr 0 0), .one (.ptr 1 0), .one (.row 2), .one (.int .i64 ((i : Nat) : Int))], [some (.box (hdC h)), some (.box (pmC p)), some (.arr 23 (.pair (.int .i64) (.pair (.int .i64) (.pair (.int .i64) (.int .i64)))) t)])) (t.length) (fun j => fitsB (gR t j) p h.cs) _ _ (fun i hi F K => ?_) (fun F K => ?_)
  · have hi' : (i : Int) < (t.length : Int) := by omega
    have hc' := hc
    simp only [Bool.and_eq_true, decide_eq_true_eq] at hc'
    have hv : validR (t.getD i (0, 0, 0, 0)) = true := by
      rw [List.getD_eq_getElem?_getD, List.getElem?_eq_getElem hi]
      exact List.all_eq_true.1 hc'.1.2 _ (List.getElem_mem hi)
    unfold validR at hv
    have hsc : small h.cs.length = true := by simp only [small, decide_eq_true_eq]; omega
    simp only [tu_ref23_Check_0, U_ref23_Check_0, LT.next, LT.run, ite2_dec, ite2_bool, wrap_next hi hsm, Int.toNat_natCast, hi', Int.natCast_nonneg, and_self, if_true, gI, gP, gC, gR]
    have eT : ∀ x : Rc, (x.1, x.2.1, x.2.2.1, x.2.2.2) = x := fun _ => rfl
    simp only [eT, hv, hc', hi, hsc, hdC, pmC, fitsB, decide_true, Bool.and_self, if_true]
    by_cases q1 : packs (t.getD i (0, 0, 0, 0)) p h.cs > 65536
    · have q3 : ¬ packs (t.getD i (0, 0, 0, 0)) p h.cs ≤ 65536 := by omega
      simp only [q1, q3, decide_true, decide_false, Bool.false_and, Bool.false_eq_true, if_true, if_false]
    · have q3 : packs (t.getD i (0, 0, 0, 0)) p h.cs ≤ 65536 := by omega
      by_cases q2 : blks (t.getD i (0, 0, 0, 0)) p h.cs > 65536
      · have q4 : ¬ blks (t.getD i (0, 0, 0, 0)) p h.cs ≤ 65536 := by omega
        simp only [q1, q2, q3, q4, decide_true, decide_false, Bool.and_false, Bool.false_eq_true, if_true, if_false]
      · have q4 : blks (t.getD i (0, 0, 0, 0)) p h.cs ≤ 65536 := by omega
        simp only [q1, q2, q3, q4, decide_true, decide_false, Bool.and_self, Bool.false_eq_true, if_true, if_false]
  · simp only [tu_ref23_Check_0, U_ref23_Check_0, LT.next, LT.run, ite2_dec, Int.lt_irrefl, if_false]
    try rfl
theorem z_ref23_Check_0 : ∀ vs bl t, S_ref23_Check_0 vs bl = some (true, t) → ∃ n, ∀ (K : Ex → List V → List (Option Blk) → Option Out) r, t.run K = some r → (iter T_ref23_Check_0 n vs bl).run K = some r := by
  intro vs bl t y0'
  unfold S_ref23_Check_0 at y0'
  obtain ⟨c', vs, rfl, y1'⟩ := pO_s y0'
  obtain ⟨rfl, y2'⟩ := kP_s y1'
  obtain ⟨c', vs, rfl, y3'⟩ := pO_s y2'
  obtain ⟨rfl, y4'⟩ := kP_s y3'
  obtain ⟨c', vs, rfl, y5'⟩ := pO_s y4'
  obtain ⟨rfl, y6'⟩ := kR_s y5'
  obtain ⟨c', vs, rfl, y7'⟩ := pO_s y6'
  obtain ⟨i, rfl, y8'⟩ := kI_s y7'
  obtain ⟨rfl, y9'⟩ := pE_s y8'
  obtain ⟨q', bl, rfl, y10'⟩ := bB_s y9'
  obtain ⟨h, rfl, y11'⟩ := rdHd_s y10'
  obtain ⟨q', bl, rfl, y12'⟩ := bB_s y11'
  obtain ⟨p, rfl, y13'⟩ := rdPm_s y12'
  obtain ⟨t, bl, rfl, y14'⟩ := bAR_s y13'
  obtain ⟨rfl, y15'⟩ := bE_s y14'
  have yy' := y15'
  obtain ⟨hk, rfl⟩ := Prod.mk.inj (Option.some.inj yy')
  unfold k_ref23_Check_0 at hk
  simp only [Bool.and_eq_true, decide_eq_true_eq, and_assoc] at hk
  obtain ⟨rfl, hsm, hc⟩ := hk
  exact zz_ref23_Check_0 _ _ _ hsm (by first | exact hc | simpa using hc | simpa only [Bool.and_eq_true, decide_eq_true_eq, and_assoc] using hc)
theorem q_ref23_Check (h : Hd) (p : Pm) (hok : (small h.cs.length && (small p.pr.length && small p.st.length)) = true) : funR Try.prog t_ref23_Check (annOf []) l_ref23_Check 20 Try.f15 [.agg (hdC h), .agg (pmC p)] [] = some ⟨.one (.int .i64 (checkB h p)), [], []⟩ := by
    refine (e_ref23_Check ..).trans ?_
    simp only [Bool.and_eq_true] at hok
    simp only [ite2_bool, within, List.all_cons, List.all_nil, Bool.and_true, hok, Bool.and_self, if_true]
    by_cases hh : header h = 0
    rotate_left
    · simp [checkB, hh]
    have hb := header_ok hh
    have h1 := inr_b hb.2.2.1
    have h2 := inr_b hb.2.2.2.1
    have h3 := inr_b hb.2.2.2.2.1
    have h4 := tilesL_sm h.a h.b h.c h.d h.tw h.th
    have h5 := valid_tilesL h.a h.b h.c h.d h.tw h.th
    have h6 : h.cs.length ≤ 4 := by omega
    by_cases c1 : kinds p = true
    rotate_left
    · simp [checkB, hh, c1]
    by_cases c4 : nums p = true
    rotate_left
    · simp [checkB, hh, c1, c4]
    have hk : k_ref23_Check_0 h p (tilesL h.a h.b h.c h.d h.tw h.th) 0 = true := by simp only [k_ref23_Check_0, c4, h4, h5, h6, decide_true, Bool.and_self]
    have hp : p_ref23_Check_0 h p (tilesL h.a h.b h.c h.d h.tw h.th) = (tilesL h.a h.b h.c h.d h.tw h.th).all (fun r => fitsB r p h.cs) := all_if _ (0, 0, 0, 0) (fun r => fitsB r p h.cs)
    simp only [checkB, hh, c1, c4, hk, hp]
    generalize (tilesL h.a h.b h.c h.d h.tw h.th).all (fun r => fitsB r p h.cs) = y
    by_cases c8 : p.co = 0
    · cases y <;> simp [c8, colors, h1, h2]
    by_cases c9 : 3 ≤ h.cs.length
    · have a1 : ¬ ((h.cs.length : Int) < 3) := by omega
      have a2 : (0 : Int) < h.cs.length := by omega
      have a3 : (1 : Int) < h.cs.length := by omega
      have a4 : (2 : Int) < h.cs.length := by omega
      have hcol : colors h p = (decide (gC h.cs 0 = gC h.cs 1) && decide (gC h.cs 0 = gC h.cs 2)) := by simp [colors, c8, c9]
      have q1 : ((gC h.cs 0).1 == (gC h.cs 1).1 && ((gC h.cs 0).2.1 == (gC h.cs 1).2.1 && ((gC h.cs 0).2.2.1 == (gC h.cs 1).2.2.1 && (gC h.cs 0).2.2.2 == (gC h.cs 1).2.2.2))) = decide (gC h.cs 0 = gC h.cs 1) := by
        simp [Prod.ext_iff]
        rfl
      have q2 : ((gC h.cs 0).1 == (gC h.cs 2).1 && ((gC h.cs 0).2.1 == (gC h.cs 2).2.1 && ((gC h.cs 0).2.2.1 == (gC h.cs 2).2.2.1 && (gC h.cs 0).2.2.2 == (gC h.cs 2).2.2.2))) = decide (gC h.cs 0 = gC h.cs 2) := by
        simp [Prod.ext_iff]
        rfl
      rw [q1, q2, hcol]
      generalize decide (gC h.cs 0 = gC h.cs 1) = y1
      generalize decide (gC h.cs 0 = gC h.cs 2) = y2
      have a5 : h.cs ≠ [] := fun e => by rw [e] at c9; simp at c9
      have a6 : 0 < h.cs.length := by omega
      cases y <;> cases y1 <;> cases y2 <;> simp [c8, a1, a2, a3, a4, a5, a6, h1, h2]
    · have a1 : (h.cs.length : Int) < 3 := by omega
      simp [colors, c8, c9, a1]
theorem s_ref23_Check : SoundFun Try.prog 15 G_ref23_Check := by
  refine fun_ok (tab := t_ref23_Check) (ann := annOf []) (lt := l_ref23_Check) (tab_cons s_ref23_Header (tab_cons s_ref23_kinds (tab_cons s_ref23_numbers (tab_cons s_ref01_Cells (tab_cons s_ref23_Packets (tab_cons s_ref23_Blocks tab_nil)))))) (by kernel_rfl) (fn := Try.f15) (by kernel_rfl) (by decide) (c := bodyOf Try.f15) (by kernel_rfl) (by
    intro m b hb
    have hb' : b ∈ loopsOf (bodyOf Try.f15) := hb
    rw [o_ref23_Check] at hb'
    simp only [List.mem_cons, List.not_mem_nil, or_false] at hb'
    rcases hb' with rfl
    · exact loop_ok (key := 13) (by kernel_rfl) rfl r_ref23_Check_0 z_ref23_Check_0 m
    ) ?_
  intro args lent o y0'
  unfold G_ref23_Check at y0'
  obtain ⟨q', args, rfl, y1'⟩ := pA_s y0'
  obtain ⟨h, rfl, y2'⟩ := rdHd_s y1'
  obtain ⟨q', args, rfl, y3'⟩ := pA_s y2'
  obtain ⟨p, rfl, y4'⟩ := rdPm_s y3'
  obtain ⟨rfl, y5'⟩ := pE_s y4'
  obtain ⟨rfl, y6'⟩ := nE_s y5'
  have yy' := y6'
  unfold H_ref23_Check at yy'
  obtain ⟨hok, rfl⟩ := Prod.mk.inj (Option.some.inj yy')
  exact ⟨20, q_ref23_Check _ _ hok⟩
end Go.Rx.Ch23
