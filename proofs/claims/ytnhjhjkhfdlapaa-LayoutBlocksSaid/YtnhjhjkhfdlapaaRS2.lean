/- The summaries of these functions are sound. -/
import Derived.Test.YtnhjhjkhfdlapaaRE1
import Derived.Test.YtnhjhjkhfdlapaaRS1
set_option linter.unnecessarySimpa false
set_option linter.unusedVariables false
set_option linter.unusedSimpArgs false
set_option linter.unusedVariables false
set_option linter.unusedSimpArgs false
set_option maxRecDepth 100000
set_option maxHeartbeats 4000000
open Go Go.Rx Go.Proofs
namespace Go.Rx.Ch24
theorem header_ok {h : Hd} (e : header h = 0) : valid h.a h.b h.c h.d = true ∧ empty h.a h.b h.c h.d = false ∧ inr 1 4096 h.tw = true ∧ inr 1 4096 h.th = true ∧ inr 1 4 h.cs.length = true ∧ h.cs.all (okC h) = true ∧ tiles h ≤ 1024 ∧ h.cs.all (smC h) = true := by
  unfold header at e
  split at e
  · cases e
  · rename_i h1
    split at e
    · cases e
    · rename_i h2
      simp only [Bool.or_eq_true, Bool.not_eq_true', decide_eq_true_eq, not_or, Bool.not_eq_false, Bool.not_eq_true] at h1 h2
      exact ⟨h1.1.1.1.1.1, h1.1.1.1.1.2, h1.1.1.1.2, h1.1.1.2, h1.1.2, h1.2, by omega, h2.2⟩
theorem valid_inter {a b c d : Int} (h : valid a b c d = true) (e f g o : Int) : validR (inter a b c d e f g o) = true := by
  have hb := valid_b h
  unfold inter
  split
  · rfl
  · rename_i he
    simp only [empty, Bool.or_eq_true, decide_eq_true_eq, not_or] at he
    show valid (max a e) (max b f) (min c g) (min d o) = true
    exact valid_i (by omega)
theorem valid_rowL {a b c d : Int} (hv : valid a b c d = true) (w h j : Int) : ∀ n i, (rowL a b c d w h j n i).all validR = true
  | 0, i => rfl
  | n + 1, i => by
    simp only [rowL, List.all_cons, valid_rowL hv w h j n, Bool.and_true]
    exact valid_inter hv ..
theorem valid_gridL {a b c d : Int} (hv : valid a b c d = true) (w h l : Int) (m : Nat) : ∀ n j, (gridL a b c d w h l m n j).all validR = true
  | 0, j => rfl
  | n + 1, j => by
    simp only [gridL, List.all_append, valid_rowL hv, valid_gridL hv w h l m n, Bool.and_true]
theorem valid_tilesL (a b c d w h : Int) : (tilesL a b c d w h).all validR = true := by
  unfold tilesL
  split
  · rfl
  · rename_i h1
    split
    · rfl
    · simp only [Bool.or_eq_true, Bool.not_eq_true', decide_eq_true_eq, not_or, Bool.not_eq_false] at h1
      exact valid_gridL h1.1.1.1 ..
theorem gridL_len (a b c d w h l : Int) (m : Nat) : ∀ n j, (gridL a b c d w h l m n j).length = n * m
  | 0, j => by simp [gridL]
  | n + 1, j => by simp only [gridL, List.length_append, rowL_len, gridL_len a b c d w h l m n, Nat.add_mul]; omega
theorem tilesL_len (a b c d w h : Int) : (tilesL a b c d w h).length ≤ 65536 := by
  unfold tilesL
  split
  · simp
  · rename_i h1
    split
    · simp
    · rename_i h2
      simp only [Bool.or_eq_true, Bool.not_eq_true', decide_eq_true_eq, not_or, Bool.not_eq_false] at h1
      have hb := valid_b h1.1.1.1
      have s1 := span_b hb.1 hb.2.1 hb.2.2.1 (show 1 ≤ w by omega)
      have s2 := span_b hb.2.2.2.1 hb.2.2.2.2.1 hb.2.2.2.2.2 (show 1 ≤ h by omega)
      rw [gridL_len]
      have e : (((cdiv d h - fdiv b h).toNat * (cdiv c w - fdiv a w).toNat : Nat) : Int) = (cdiv c w - fdiv a w) * (cdiv d h - fdiv b h) := by
        rw [Int.natCast_mul, Int.toNat_of_nonneg (by omega), Int.toNat_of_nonneg (by omega), Int.mul_comm]
      omega
theorem tilesL_sm (a b c d w h : Int) : small (tilesL a b c d w h).length = true := by
  have := tilesL_len a b c d w h
  simp only [small, decide_eq_true_eq]; omega
theorem maxF_le (f : Nat → Int) (M : Int) : ∀ k s, maxF f k s ≤ M ↔ s ≤ M ∧ ∀ j, j < k → f j ≤ M
  | 0, s => by simp [maxF]
  | k + 1, s => by
    have := maxF_le f M k s
    simp only [maxF]
    constructor
    · intro h
      have h1 := this.1 (by omega)
      refine ⟨h1.1, fun j hj => ?_⟩
      rcases Nat.lt_or_ge j k with h2 | h2
      · exact h1.2 j h2
      · rw [show j = k by omega]; omega
    · intro h
      have h1 := this.2 ⟨h.1, fun j hj => h.2 j (by omega)⟩
      have h2 := h.2 k (by omega)
      omega
theorem blksN_le (t : Rc) (p : Pm) (l : List (Int × Bool × Int × Int)) : ∀ k, blksN t p l k ≤ 65536 ↔ ∀ i, i < k → ∀ q, q < (3 * p.le + 1).toNat → bandB (redT t (gC l i)) p q ≤ 65536
  | 0 => by simp [blksN]
  | k + 1 => by
    simp only [blksN, compB]
    rw [maxF_le, blksN_le t p l k]
    constructor
    · intro h i hi q hq
      rcases Nat.lt_or_ge i k with h2 | h2
      · exact h.1 i h2 q hq
      · rw [show i = k by omega]; exact h.2 q hq
    · intro h
      exact ⟨fun i hi => h i (by omega), h k (by omega)⟩
theorem compOK_iff {p : Pm} (hn : nums p = true) (r : Rc) : compOK r p = true ↔ ∀ q : Nat, q < (3 * p.le + 1).toNat → bandB r p q ≤ 65536 := by
  have nb := nums_b hn
  simp only [compOK, List.all_eq_true, List.mem_range, resOK, decide_eq_true_eq]
  constructor
  · intro h q hq
    have h1 := h ((q + 2) / 3) (by omega) q (by
      have e1 : inr 0 5 p.le = true := inr_t nb.1.1 nb.1.2
      have e2 : inr 0 p.le (((q + 2) / 3 : Nat) : Int) = true := inr_t (by omega) (by omega)
      simp only [idxs, e1, e2, Bool.and_self, if_true]
      split
      · simp; omega
      · simp; omega)
    have e3 : (((q + 2) / 3 : Nat) : Int) = ((q : Int) + 2) / 3 := by omega
    rw [e3] at h1
    exact h1
  · intro h k hk b hb
    have e1 : inr 0 5 p.le = true := inr_t nb.1.1 nb.1.2
    have e2 : inr 0 p.le (k : Int) = true := inr_t (by omega) (by omega)
    simp only [idxs, e1, e2, Bool.and_self, if_true] at hb
    have hb' : 0 ≤ b ∧ b ≤ 3 * p.le ∧ (b + 2) / 3 = k := by
      split at hb
      · simp at hb; omega
      · simp at hb; omega
    have h1 := h b.toNat (by omega)
    simp only [bandB, Int.toNat_of_nonneg hb'.1, hb'.2.2] at h1
    exact h1
theorem fits_eq {p : Pm} (hn : nums p = true) (r : Rc) (l : List (Int × Bool × Int × Int)) : fits r p l = fitsB r p l := by
  have : compsOK r p l = decide (blks r p l ≤ 65536) := by
    rw [Bool.eq_iff_iff, decide_eq_true_eq]
    unfold blks
    rw [blksN_le]
    simp only [compsOK, List.all_eq_true, List.mem_range]
    constructor
    · intro h i hi
      exact (compOK_iff hn _).1 (h i hi)
    · intro h i hi
      exact (compOK_iff hn _).2 (h i hi)
  simp only [fits, fitsB, this, Bool.and_comm]
theorem check_eq (h : Hd) (p : Pm) : checkA h p = checkB h p := by
  unfold checkA checkB
  split
  · rfl
  · split
    · rfl
    · cases hn : nums p
      · rfl
      · cases colors h p
        · rfl
        · have e : (fun r => fits r p h.cs) = fun r => fitsB r p h.cs := funext fun r => fits_eq hn r _
          have e2 : (tilesL h.a h.b h.c h.d h.tw h.th).all (fun r => fits r p h.cs) = (tilesL h.a h.b h.c h.d h.tw h.th).all (fun r => fitsB r p h.cs) := congrArg _ e
          simp only [Bool.and_self, Bool.not_true, Bool.false_eq_true, if_false]
          rw [e2]
theorem r_params_Check_0 : RoundOk Try.prog t_params_Check (annOf []) l_params_Check Out 20 0 54 [2, 3, 42, 43, 44] (kxOf [] [4]) (loopOf Try.f25 0) T_params_Check_0 := by
  intro vs bl Kc r h
  unfold T_params_Check_0 at h
  obtain ⟨t, y0', h'⟩ := getD_run h
  obtain ⟨c', vs, rfl, y1'⟩ := pO_s y0'
  obtain ⟨rfl, y2'⟩ := kP_s y1'
  obtain ⟨c', vs, rfl, y3'⟩ := pO_s y2'
  obtain ⟨rfl, y4'⟩ := kP_s y3'
  obtain ⟨c', vs, rfl, y5'⟩ := pO_s y4'
  obtain ⟨rfl, y6'⟩ := kR_s y5'
  obtain ⟨c', vs, rfl, y7'⟩ := pO_s y6'
  obtain ⟨n, rfl, y8'⟩ := kI_s y7'
  obtain ⟨c', vs, rfl, y9'⟩ := pO_s y8'
  obtain ⟨i, rfl, y10'⟩ := kI_s y9'
  obtain ⟨rfl, y11'⟩ := pE_s y10'
  obtain ⟨q', bl, rfl, y12'⟩ := bB_s y11'
  obtain ⟨h, rfl, y13'⟩ := rdHd_s y12'
  obtain ⟨q', bl, rfl, y14'⟩ := bB_s y13'
  obtain ⟨p, rfl, y15'⟩ := rdPm_s y14'
  obtain ⟨t, bl, rfl, y16'⟩ := bAR_s y15'
  obtain ⟨rfl, y17'⟩ := bE_s y16'
  have yy' := y17'
  cases yy'
  exact (b_params_Check_0 ..).trans ((congrArg (LT.runc · Kc) (tu_params_Check_0 ..)).trans h')
theorem o_params_Check : loopsOf (bodyOf Try.f25) = [loopOf Try.f25 0] := by kernel_rfl
theorem zz_params_Check_0 (h : Hd) (p : Pm) (t : List Rc) (hsm : small (t.length) = true) (hc : (nums p && t.all validR && decide (h.cs.length ≤ 4)) = true) : ∃ k, ∀ (K : Ex → List V → List (Option Blk) → Option Out) r, (c_params_Check_0 h p t).run K = some r → (iter T_params_Check_0 k [.one (.ptr 0 0), .one (.ptr 1 0), .one (.row 2), .one (.int .i64 (t.length : Int)), .one (.int .i64 0)] [some (.box (hdC h)), some (.box (pmC p)), some (.arr 23 (.pair (.int .i64) (.pair (.int .i64) (.pair (.int .i64) (.int .i64)))) t)]).run K = some r := by
  refine z_list (st := fun i => ([.one (.ptr 0 0), .one (.ptr 1 0), .one (.row 2), .one (.int .i64 (t.length : Int)), .one (.int .i64 ((i : Nat) : Int))], [some (.box (hdC h)), some (.box (pmC p)), some (.arr 23 (.pair (.int .i64) (.pair (.int .i64) (.pair (.int .i64) (.int .i64)))) t)])) t (0, 0, 0, 0) (fun r => fits r p h.cs) _ _ (fun i hi F K => ?_) (fun F K => ?_)
  · have hi' : (i : Int) < (t.length : Int) := by omega
    have hc' := hc
    simp only [Bool.and_eq_true, decide_eq_true_eq] at hc'
    have hv : validR (t.getD i (0, 0, 0, 0)) = true := by
      rw [List.getD_eq_getElem?_getD, List.getElem?_eq_getElem hi]
      exact List.all_eq_true.1 hc'.1.2 _ (List.getElem_mem hi)
    unfold validR at hv
    have hsc : small h.cs.length = true := by simp only [small, decide_eq_true_eq]; omega
    simp only [tu_params_Check_0, U_params_Check_0, LT.next, LT.run, ite2_dec, ite2_bool, wrap_next hi hsm, Int.toNat_natCast, hi', Int.natCast_nonneg, and_self, if_true, gI, gP, gC, gR]
    have eT : ∀ x : Rc, (x.1, x.2.1, x.2.2.1, x.2.2.2) = x := fun _ => rfl
    simp only [eT, hv, hc', hi, hsc, hdC, pmC, decide_true, Bool.and_self, if_true]
    by_cases q : fits (t.getD i (0, 0, 0, 0)) p h.cs = true
    · simp only [q, Bool.not_true, Bool.false_eq_true, if_false, if_true]
    · simp only [Bool.not_eq_true] at q
      simp only [q, Bool.not_false, Bool.false_eq_true, if_false, if_true]
  · simp only [tu_params_Check_0, U_params_Check_0, LT.next, LT.run, ite2_dec, Int.lt_irrefl, if_false]
    try rfl
theorem z_params_Check_0 : ∀ vs bl t, S_params_Check_0 vs bl = some (true, t) → ∃ n, ∀ (K : Ex → List V → List (Option Blk) → Option Out) r, t.run K = some r → (iter T_params_Check_0 n vs bl).run K = some r := by
  intro vs bl t y0'
  unfold S_params_Check_0 at y0'
  obtain ⟨c', vs, rfl, y1'⟩ := pO_s y0'
  obtain ⟨rfl, y2'⟩ := kP_s y1'
  obtain ⟨c', vs, rfl, y3'⟩ := pO_s y2'
  obtain ⟨rfl, y4'⟩ := kP_s y3'
  obtain ⟨c', vs, rfl, y5'⟩ := pO_s y4'
  obtain ⟨rfl, y6'⟩ := kR_s y5'
  obtain ⟨c', vs, rfl, y7'⟩ := pO_s y6'
  obtain ⟨n, rfl, y8'⟩ := kI_s y7'
  obtain ⟨c', vs, rfl, y9'⟩ := pO_s y8'
  obtain ⟨i, rfl, y10'⟩ := kI_s y9'
  obtain ⟨rfl, y11'⟩ := pE_s y10'
  obtain ⟨q', bl, rfl, y12'⟩ := bB_s y11'
  obtain ⟨h, rfl, y13'⟩ := rdHd_s y12'
  obtain ⟨q', bl, rfl, y14'⟩ := bB_s y13'
  obtain ⟨p, rfl, y15'⟩ := rdPm_s y14'
  obtain ⟨t, bl, rfl, y16'⟩ := bAR_s y15'
  obtain ⟨rfl, y17'⟩ := bE_s y16'
  have yy' := y17'
  obtain ⟨hk, rfl⟩ := Prod.mk.inj (Option.some.inj yy')
  unfold k_params_Check_0 at hk
  simp only [Bool.and_eq_true, decide_eq_true_eq, and_assoc] at hk
  obtain ⟨rfl, rfl, hsm, hc⟩ := hk
  exact zz_params_Check_0 _ _ _ hsm (by first | exact hc | simpa using hc | simpa only [Bool.and_eq_true, decide_eq_true_eq, and_assoc] using hc)
theorem q_params_Check (h : Hd) (p : Pm) (hok : (small h.cs.length && (small p.pr.length && small p.st.length)) = true) : funR Try.prog t_params_Check (annOf []) l_params_Check 20 Try.f25 [.agg (hdC h), .agg (pmC p)] [] = some ⟨.one (.int .i64 (checkA h p)), [], []⟩ := by
    refine (e_params_Check ..).trans ?_
    simp only [Bool.and_eq_true] at hok
    simp only [ite2_bool, within, List.all_cons, List.all_nil, Bool.and_true, hok, Bool.and_self, if_true]
    by_cases hh : header h = 0
    rotate_left
    · simp [checkA, hh]
    have hb := header_ok hh
    have h1 := inr_b hb.2.2.1
    have h2 := inr_b hb.2.2.2.1
    have h3 := inr_b hb.2.2.2.2.1
    have h4 := tilesL_sm h.a h.b h.c h.d h.tw h.th
    have h5 := valid_tilesL h.a h.b h.c h.d h.tw h.th
    have h6 : h.cs.length ≤ 4 := by omega
    by_cases c1 : inr 1 3 p.ke = true
    rotate_left
    · simp [checkA, hh, kinds, c1]
    by_cases c2 : inr 0 2 p.co = true
    rotate_left
    · simp [checkA, hh, kinds, c1, c2]
    by_cases c3 : inr 1 5 p.od = true
    rotate_left
    · simp [checkA, hh, kinds, c1, c2, c3]
    by_cases c4 : nums p = true
    rotate_left
    · simp [checkA, hh, kinds, c1, c2, c3, c4]
    by_cases c5 : colors h p = true
    rotate_left
    · simp [checkA, hh, kinds, c1, c2, c3, c4, c5]
    have hk : k_params_Check_0 h p (tilesL h.a h.b h.c h.d h.tw h.th) ((tilesL h.a h.b h.c h.d h.tw h.th).length : Int) 0 = true := by simp only [k_params_Check_0, c4, h4, h5, h6, decide_true, Bool.and_self]
    simp only [checkA, hh, kinds, c1, c2, c3, c4, c5, hk, p_params_Check_0]
    by_cases c6 : (tilesL h.a h.b h.c h.d h.tw h.th).all (fun r => fits r p h.cs) = true <;> simp [h1, h2, c6]
theorem s_params_Check : SoundFun Try.prog 25 G_params_Check := by
  refine fun_ok (tab := t_params_Check) (ann := annOf []) (lt := l_params_Check) (tab_cons s_params_Header (tab_cons s_rect_Cells (tab_cons s_params_within (tab_cons s_params_numbers (tab_cons s_tileFits tab_nil))))) (by kernel_rfl) (fn := Try.f25) (by kernel_rfl) (by decide) (c := bodyOf Try.f25) (by kernel_rfl) (by
    intro m b hb
    have hb' : b ∈ loopsOf (bodyOf Try.f25) := hb
    rw [o_params_Check] at hb'
    simp only [List.mem_cons, List.not_mem_nil, or_false] at hb'
    rcases hb' with rfl
    · exact loop_ok (key := 9) (by kernel_rfl) rfl r_params_Check_0 z_params_Check_0 m
    ) ?_
  intro args lent o y0'
  unfold G_params_Check at y0'
  obtain ⟨q', args, rfl, y1'⟩ := pA_s y0'
  obtain ⟨h, rfl, y2'⟩ := rdHd_s y1'
  obtain ⟨q', args, rfl, y3'⟩ := pA_s y2'
  obtain ⟨p, rfl, y4'⟩ := rdPm_s y3'
  obtain ⟨rfl, y5'⟩ := pE_s y4'
  obtain ⟨rfl, y6'⟩ := nE_s y5'
  have yy' := y6'
  unfold H_params_Check at yy'
  obtain ⟨hok, rfl⟩ := Prod.mk.inj (Option.some.inj yy')
  exact ⟨20, q_params_Check _ _ hok⟩
theorem r_ref23_Check_0 : RoundOk Try.prog t_ref23_Check (annOf []) l_ref23_Check Out 20 0 79 [2, 3, 6, 7] (kxOf [] [4]) (loopOf Try.f71 0) T_ref23_Check_0 := by
  intro vs bl Kc r h
  unfold T_ref23_Check_0 at h
  obtain ⟨t, y0', h'⟩ := getD_run h
  obtain ⟨c', vs, rfl, y1'⟩ := pO_s y0'
  obtain ⟨rfl, y2'⟩ := kP_s y1'
  obtain ⟨c', vs, rfl, y3'⟩ := pO_s y2'
  obtain ⟨rfl, y4'⟩ := kP_s y3'
  obtain ⟨c', vs, rfl, y5'⟩ := pO_s y4'
  obtain ⟨rfl, y6'⟩ := kR_s y5'
  obtain ⟨c', vs, rfl, y7'⟩ := pO_s y6'
  obtain ⟨i, rfl, y8'⟩ := kI_s y7'
  obtain ⟨rfl, y9'⟩ := pE_s y8'
  obtain ⟨q', bl, rfl, y10'⟩ := bB_s y9'
  obtain ⟨h, rfl, y11'⟩ := rdHd_s y10'
  obtain ⟨q', bl, rfl, y12'⟩ := bB_s y11'
  obtain ⟨p, rfl, y13'⟩ := rdPm_s y12'
  obtain ⟨t, bl, rfl, y14'⟩ := bAR_s y13'
  obtain ⟨rfl, y15'⟩ := bE_s y14'
  have yy' := y15'
  cases yy'
  exact (b_ref23_Check_0 ..).trans ((congrArg (LT.runc · Kc) (tu_ref23_Check_0 ..)).trans h')
theorem o_ref23_Check : loopsOf (bodyOf Try.f71) = [loopOf Try.f71 0] := by kernel_rfl
theorem zz_ref23_Check_0 (h : Hd) (p : Pm) (t : List Rc) (hsm : small (t.length) = true) (hc : (nums p && t.all validR && decide (h.cs.length ≤ 4)) = true) : ∃ k, ∀ (K : Ex → List V → List (Option Blk) → Option Out) r, (c_ref23_Check_0 h p t).run K = some r → (iter T_ref23_Check_0 k [.one (.ptr 0 0), .one (.ptr 1 0), .one (.row 2), .one (.int .i64 0)] [some (.box (hdC h)), some (.box (pmC p)), some (.arr 23 (.pair (.int .i64) (.pair (.int .i64) (.pair (.int .i64) (.int .i64)))) t)]).run K = some r := by
  refine z_idx (st := fun i => ([.one (.ptr 0 0), .one (.ptr 1 0), .one (.row 2), .one (.int .i64 ((i : Nat) : Int))], [some (.box (hdC h)), some (.box (pmC p)), some (.arr 23 (.pair (.int .i64) (.pair (.int .i64) (.pair (.int .i64) (.int .i64)))) t)])) (t.length) (fun j => fitsB (gR t j) p h.cs) _ _ (fun i hi F K => ?_) (fun F K => ?_)
  · have hi' : (i : Int) < (t.length : Int) := by omega
    have hc' := hc
    simp only [Bool.and_eq_true, decide_eq_true_eq] at hc'
    have hv : validR (t.getD i (0, 0, 0, 0)) = true := by
      rw [List.getD_eq_getElem?_getD, List.getElem?_eq_getElem hi]
      exact List.all_eq_true.1 hc'.1.2 _ (List.getElem_mem hi)
    unfold validR at hv
    have hsc : small h.cs.length = true := by simp only [small, decide_eq_true_eq]; omega
    simp only [tu_ref23_Check_0, U_ref23_Check_0, LT.next, LT.run, ite2_dec, ite2_bool, wrap_next hi hsm, Int.toNat_natCast, hi', Int.natCast_nonneg, and_self, if_true, gI, gP, gC, gR]
    have eT : ∀ x : Rc, (x.1, x.2.1, x.2.2.1, x.2.2.2) = x := fun _ => rfl
    simp only [eT, hv, hc', hi, hsc, hdC, pmC, fitsB, decide_true, Bool.and_self, if_true]
    by_cases q1 : packs (t.getD i (0, 0, 0, 0)) p h.cs > 65536
    · have q3 : ¬ packs (t.getD i (0, 0, 0, 0)) p h.cs ≤ 65536 := by omega
      simp only [q1, q3, decide_true, decide_false, Bool.false_and, Bool.false_eq_true, if_true, if_false]
    · have q3 : packs (t.getD i (0, 0, 0, 0)) p h.cs ≤ 65536 := by omega
      by_cases q2 : blks (t.getD i (0, 0, 0, 0)) p h.cs > 65536
      · have q4 : ¬ blks (t.getD i (0, 0, 0, 0)) p h.cs ≤ 65536 := by omega
        simp only [q1, q2, q3, q4, decide_true, decide_false, Bool.and_false, Bool.false_eq_true, if_true, if_false]
      · have q4 : blks (t.getD i (0, 0, 0, 0)) p h.cs ≤ 65536 := by omega
        simp only [q1, q2, q3, q4, decide_true, decide_false, Bool.and_self, Bool.false_eq_true, if_true, if_false]
  · simp only [tu_ref23_Check_0, U_ref23_Check_0, LT.next, LT.run, ite2_dec, Int.lt_irrefl, if_false]
    try rfl
theorem z_ref23_Check_0 : ∀ vs bl t, S_ref23_Check_0 vs bl = some (true, t) → ∃ n, ∀ (K : Ex → List V → List (Option Blk) → Option Out) r, t.run K = some r → (iter T_ref23_Check_0 n vs bl).run K = some r := by
  intro vs bl t y0'
  unfold S_ref23_Check_0 at y0'
  obtain ⟨c', vs, rfl, y1'⟩ := pO_s y0'
  obtain ⟨rfl, y2'⟩ := kP_s y1'
  obtain ⟨c', vs, rfl, y3'⟩ := pO_s y2'
  obtain ⟨rfl, y4'⟩ := kP_s y3'
  obtain ⟨c', vs, rfl, y5'⟩ := pO_s y4'
  obtain ⟨rfl, y6'⟩ := kR_s y5'
  obtain ⟨c', vs, rfl, y7'⟩ := pO_s y6'
  obtain ⟨i, rfl, y8'⟩ := kI_s y7'
  obtain ⟨rfl, y9'⟩ := pE_s y8'
  obtain ⟨q', bl, rfl, y10'⟩ := bB_s y9'
  obtain ⟨h, rfl, y11'⟩ := rdHd_s y10'
  obtain ⟨q', bl, rfl, y12'⟩ := bB_s y11'
  obtain ⟨p, rfl, y13'⟩ := rdPm_s y12'
  obtain ⟨t, bl, rfl, y14'⟩ := bAR_s y13'
  obtain ⟨rfl, y15'⟩ := bE_s y14'
  have yy' := y15'
  obtain ⟨hk, rfl⟩ := Prod.mk.inj (Option.some.inj yy')
  unfold k_ref23_Check_0 at hk
  simp only [Bool.and_eq_true, decide_eq_true_eq, and_assoc] at hk
  obtain ⟨rfl, hsm, hc⟩ := hk
  exact zz_ref23_Check_0 _ _ _ hsm (by first | exact hc | simpa using hc | simpa only [Bool.and_eq_true, decide_eq_true_eq, and_assoc] using hc)
theorem q_ref23_Check (h : Hd) (p : Pm) (hok : (small h.cs.length && (small p.pr.length && small p.st.length)) = true) : funR Try.prog t_ref23_Check (annOf []) l_ref23_Check 20 Try.f71 [.agg (hdC h), .agg (pmC p)] [] = some ⟨.one (.int .i64 (checkB h p)), [], []⟩ := by
    refine (e_ref23_Check ..).trans ?_
    simp only [Bool.and_eq_true] at hok
    simp only [ite2_bool, within, List.all_cons, List.all_nil, Bool.and_true, hok, Bool.and_self, if_true]
    by_cases hh : header h = 0
    rotate_left
    · simp [checkB, hh]
    have hb := header_ok hh
    have h1 := inr_b hb.2.2.1
    have h2 := inr_b hb.2.2.2.1
    have h3 := inr_b hb.2.2.2.2.1
    have h4 := tilesL_sm h.a h.b h.c h.d h.tw h.th
    have h5 := valid_tilesL h.a h.b h.c h.d h.tw h.th
    have h6 : h.cs.length ≤ 4 := by omega
    by_cases c1 : kinds p = true
    rotate_left
    · simp [checkB, hh, c1]
    by_cases c4 : nums p = true
    rotate_left
    · simp [checkB, hh, c1, c4]
    have hk : k_ref23_Check_0 h p (tilesL h.a h.b h.c h.d h.tw h.th) 0 = true := by simp only [k_ref23_Check_0, c4, h4, h5, h6, decide_true, Bool.and_self]
    have hp : p_ref23_Check_0 h p (tilesL h.a h.b h.c h.d h.tw h.th) = (tilesL h.a h.b h.c h.d h.tw h.th).all (fun r => fitsB r p h.cs) := all_if _ (0, 0, 0, 0) (fun r => fitsB r p h.cs)
    simp only [checkB, hh, c1, c4, hk, hp]
    generalize (tilesL h.a h.b h.c h.d h.tw h.th).all (fun r => fitsB r p h.cs) = y
    by_cases c8 : p.co = 0
    · cases y <;> simp [c8, colors, h1, h2]
    by_cases c9 : 3 ≤ h.cs.length
    · have a1 : ¬ ((h.cs.length : Int) < 3) := by omega
      have a2 : (0 : Int) < h.cs.length := by omega
      have a3 : (1 : Int) < h.cs.length := by omega
      have a4 : (2 : Int) < h.cs.length := by omega
      have hcol : colors h p = (decide (gC h.cs 0 = gC h.cs 1) && decide (gC h.cs 0 = gC h.cs 2)) := by simp [colors, c8, c9]
      have q1 : ((gC h.cs 0).1 == (gC h.cs 1).1 && ((gC h.cs 0).2.1 == (gC h.cs 1).2.1 && ((gC h.cs 0).2.2.1 == (gC h.cs 1).2.2.1 && (gC h.cs 0).2.2.2 == (gC h.cs 1).2.2.2))) = decide (gC h.cs 0 = gC h.cs 1) := by
        simp [Prod.ext_iff]
        rfl
      have q2 : ((gC h.cs 0).1 == (gC h.cs 2).1 && ((gC h.cs 0).2.1 == (gC h.cs 2).2.1 && ((gC h.cs 0).2.2.1 == (gC h.cs 2).2.2.1 && (gC h.cs 0).2.2.2 == (gC h.cs 2).2.2.2))) = decide (gC h.cs 0 = gC h.cs 2) := by
        simp [Prod.ext_iff]
        rfl
      rw [q1, q2, hcol]
      generalize decide (gC h.cs 0 = gC h.cs 1) = y1
      generalize decide (gC h.cs 0 = gC h.cs 2) = y2
      have a5 : h.cs ≠ [] := fun e => by rw [e] at c9; simp at c9
      have a6 : 0 < h.cs.length := by omega
      cases y <;> cases y1 <;> cases y2 <;> simp [c8, a1, a2, a3, a4, a5, a6, h1, h2]
    · have a1 : (h.cs.length : Int) < 3 := by omega
      simp [colors, c8, c9, a1]
theorem s_ref23_Check : SoundFun Try.prog 71 G_ref23_Check := by
  refine fun_ok (tab := t_ref23_Check) (ann := annOf []) (lt := l_ref23_Check) (tab_cons s_ref23_Header (tab_cons s_ref01_Cells (tab_cons s_ref23_Packets (tab_cons s_ref23_kinds (tab_cons s_ref23_numbers (tab_cons s_ref23_Blocks tab_nil)))))) (by kernel_rfl) (fn := Try.f71) (by kernel_rfl) (by decide) (c := bodyOf Try.f71) (by kernel_rfl) (by
    intro m b hb
    have hb' : b ∈ loopsOf (bodyOf Try.f71) := hb
    rw [o_ref23_Check] at hb'
    simp only [List.mem_cons, List.not_mem_nil, or_false] at hb'
    rcases hb' with rfl
    · exact loop_ok (key := 13) (by kernel_rfl) rfl r_ref23_Check_0 z_ref23_Check_0 m
    ) ?_
  intro args lent o y0'
  unfold G_ref23_Check at y0'
  obtain ⟨q', args, rfl, y1'⟩ := pA_s y0'
  obtain ⟨h, rfl, y2'⟩ := rdHd_s y1'
  obtain ⟨q', args, rfl, y3'⟩ := pA_s y2'
  obtain ⟨p, rfl, y4'⟩ := rdPm_s y3'
  obtain ⟨rfl, y5'⟩ := pE_s y4'
  obtain ⟨rfl, y6'⟩ := nE_s y5'
  have yy' := y6'
  unfold H_ref23_Check at yy'
  obtain ⟨hok, rfl⟩ := Prod.mk.inj (Option.some.inj yy')
  exact ⟨20, q_ref23_Check _ _ hok⟩
end Go.Rx.Ch24

set_option linter.unusedVariables false
set_option linter.unusedSimpArgs false
set_option maxRecDepth 100000
set_option maxHeartbeats 4000000
open Go Go.Rx Go.Proofs
namespace Go.Rx.Ch24
theorem sh_pw {k : Int} (h0 : 0 ≤ k) (h1 : k ≤ 12) : (2 : Int) ^ min (Int.toNat (IntKind.wrap .u64 k)) 64 = pw k := by
  rw [wrapu_in h0 (by omega)]
  unfold pw
  congr 1
  omega
theorem sp_b {t k : Int} (h0 : 0 ≤ t) (h1 : t ≤ 4096) (hk : 1 ≤ k) : -1 ≤ (t - 1) / k ∧ (t - 1) / k < 4096 := by
  refine ⟨Int.le_ediv_of_mul_le (by omega) (by omega), Int.ediv_lt_of_lt_mul (by omega) ?_⟩
  have : 4096 * 1 ≤ 4096 * k := Int.mul_le_mul_of_nonneg_left hk (by omega)
  omega
theorem spN_e {a c x : Int} (h0 : 0 ≤ a) (hac : a < c) (h1 : c ≤ 4096) (hx : x ≤ 12) : spN a c x = prN a c x := by
  have hp := pw_b hx
  have f := fdiv_b h0 (show a ≤ 4096 by omega) hp.1
  have g := cdiv_e (show 0 ≤ c by omega) h1 hp.1
  unfold spN prN
  rw [f.1, g]
  have e1 := Int.emod_add_mul_ediv c (pw x)
  have e2 := Int.emod_add_mul_ediv (c - 1) (pw x)
  have e3 := Int.emod_nonneg c (show pw x ≠ 0 by omega)
  have e4 := Int.emod_lt_of_pos c (show 0 < pw x by omega)
  have e5 := Int.emod_nonneg (c - 1) (show pw x ≠ 0 by omega)
  have e6 := Int.emod_lt_of_pos (c - 1) (show 0 < pw x by omega)
  have key : ∀ q r q' r' k : Int, 1 ≤ k → 0 ≤ r → r < k → 0 ≤ r' → r' < k → r + k * q = r' + k * q' + 1 → q = q' ∧ r > 0 ∨ q = q' + 1 ∧ r = 0 := by
    intro q r q' r' k hk h2 h3 h4 h5 h6
    have h7 : k * (q - q') = r' + 1 - r := by rw [Int.mul_sub]; omega
    have h8 : q - q' < 2 := by
      rcases Int.lt_or_le (q - q') 2 with h | h
      · exact h
      · have : k * 2 ≤ k * (q - q') := Int.mul_le_mul_of_nonneg_left h (by omega)
        omega
    have h9 : 0 ≤ q - q' := by
      rcases Int.lt_or_le (q - q') 0 with h | h
      · have : k * (q - q') ≤ k * (-1) := Int.mul_le_mul_of_nonneg_left (by omega) (by omega)
        omega
      · exact h
    have h10 : q - q' = 0 ∨ q - q' = 1 := by omega
    rcases h10 with h | h
    · rw [h] at h7; omega
    · rw [h] at h7; omega
  rcases key _ _ _ _ (pw x) hp.1 e3 e4 e5 e6 (show c % pw x + pw x * (c / pw x) = (c - 1) % pw x + pw x * ((c - 1) / pw x) + 1 by omega) with ⟨h2, h3⟩ | ⟨h2, h3⟩
  · rw [if_pos h3]; omega
  · rw [if_neg (by omega)]; omega
theorem prN_b {a c x : Int} (h0 : 0 ≤ a) (h : a ≤ c) (h1 : c ≤ 4096) (hx : x ≤ 12) : 0 ≤ prN a c x ∧ prN a c x ≤ 4096 := by
  have s := span_b h0 h h1 (pw_b hx).1
  unfold prN
  omega
theorem q_pa_exponents (a b m : Int) (hok : true = true) : funR Try.prog t_pa_exponents (annOf []) l_pa_exponents 20 Try.f86 [.one (.int .i64 a), .one (.int .i64 b), .one (.int .i64 m)] [] = some ⟨.one (.bool (inr 0 m a && inr 0 m b)), [], []⟩ := by
    refine (e_pa_exponents ..).trans ?_
    simp only [ite2_dec, ite2_bool, mx_eq, mn_eq, inr]
    (repeat' split) <;> (try simp_all) <;> (try omega) <;> (try (rw [Bool.eq_iff_iff]; simp; omega))
theorem s_pa_exponents : SoundFun Try.prog 86 G_pa_exponents := by
  refine fun_ok (tab := t_pa_exponents) (ann := annOf []) (lt := l_pa_exponents) tab_nil (by kernel_rfl) (fn := Try.f86) (by kernel_rfl) (by decide) (c := bodyOf Try.f86) (by kernel_rfl) (fun m b hb => absurd hb (by show b ∉ loopsOf (bodyOf Try.f86); rw [show loopsOf (bodyOf Try.f86) = [] from by kernel_rfl]; exact List.not_mem_nil)) ?_
  intro args lent o y0'
  unfold G_pa_exponents at y0'
  obtain ⟨c', args, rfl, y1'⟩ := pO_s y0'
  obtain ⟨a, rfl, y2'⟩ := kI_s y1'
  obtain ⟨c', args, rfl, y3'⟩ := pO_s y2'
  obtain ⟨b, rfl, y4'⟩ := kI_s y3'
  obtain ⟨c', args, rfl, y5'⟩ := pO_s y4'
  obtain ⟨m, rfl, y6'⟩ := kI_s y5'
  obtain ⟨rfl, y7'⟩ := pE_s y6'
  obtain ⟨rfl, y8'⟩ := nE_s y7'
  have yy' := y8'
  unfold H_pa_exponents at yy'
  obtain ⟨hok, rfl⟩ := Prod.mk.inj (Option.some.inj yy')
  exact ⟨20, q_pa_exponents _ _ _ hok⟩
theorem q_pa_span (f t e : Int) (hok : (inr 0 4096 f && inr 0 4096 t && inr 0 12 e) = true) : funR Try.prog t_pa_span (annOf []) l_pa_span 20 Try.f87 [.one (.int .i64 f), .one (.int .i64 t), .one (.int .i64 e)] [] = some ⟨.tup [(false, [.int .i64 (f / pw e)]), (false, [.int .i64 (spN f t e)])], [], []⟩ := by
    refine (e_pa_span ..).trans ?_
    simp only [Bool.and_eq_true] at hok
    have h1 := inr_b hok.1.1
    have h2 := inr_b hok.1.2
    have h3 := inr_b hok.2
    have hp := pw_b h3.2
    have b1 := sp_b h2.1 h2.2 hp.1
    have b2 := fdiv_b h1.1 h1.2 hp.1
    rw [sh_pw h3.1 h3.2, Int.fdiv_eq_ediv_of_nonneg _ (by omega), Int.fdiv_eq_ediv_of_nonneg _ (by omega), wrapu_in h3.1 (by omega), wrap_in (n := t - 1) (by omega) (by omega), wrap_in (n := (t - 1) / pw e - f / pw e) (by omega) (by omega), wrap_in (n := (t - 1) / pw e - f / pw e + 1) (by omega) (by omega)]
    simp [ite2_bool, h3.1, spN]
theorem s_pa_span : SoundFun Try.prog 87 G_pa_span := by
  refine fun_ok (tab := t_pa_span) (ann := annOf []) (lt := l_pa_span) tab_nil (by kernel_rfl) (fn := Try.f87) (by kernel_rfl) (by decide) (c := bodyOf Try.f87) (by kernel_rfl) (fun m b hb => absurd hb (by show b ∉ loopsOf (bodyOf Try.f87); rw [show loopsOf (bodyOf Try.f87) = [] from by kernel_rfl]; exact List.not_mem_nil)) ?_
  intro args lent o y0'
  unfold G_pa_span at y0'
  obtain ⟨c', args, rfl, y1'⟩ := pO_s y0'
  obtain ⟨f, rfl, y2'⟩ := kI_s y1'
  obtain ⟨c', args, rfl, y3'⟩ := pO_s y2'
  obtain ⟨t, rfl, y4'⟩ := kI_s y3'
  obtain ⟨c', args, rfl, y5'⟩ := pO_s y4'
  obtain ⟨e, rfl, y6'⟩ := kI_s y5'
  obtain ⟨rfl, y7'⟩ := pE_s y6'
  obtain ⟨rfl, y8'⟩ := nE_s y7'
  have yy' := y8'
  unfold H_pa_span at yy'
  obtain ⟨hok, rfl⟩ := Prod.mk.inj (Option.some.inj yy')
  exact ⟨20, q_pa_span _ _ _ hok⟩
theorem q_pa_cell (c r a b : Int) (hok : (inr 0 4096 c && inr 0 4096 r && inr 0 12 a && inr 0 12 b) = true) : funR Try.prog t_pa_cell (annOf []) l_pa_cell 20 Try.f93 [.one (.int .i64 c), .one (.int .i64 r), .one (.int .i64 a), .one (.int .i64 b)] [] = some ⟨.agg [.int .i64 (((c * pw a, r * pw b, (c + 1) * pw a, (r + 1) * pw b)).1), .int .i64 (((c * pw a, r * pw b, (c + 1) * pw a, (r + 1) * pw b)).2.1), .int .i64 (((c * pw a, r * pw b, (c + 1) * pw a, (r + 1) * pw b)).2.2.1), .int .i64 (((c * pw a, r * pw b, (c + 1) * pw a, (r + 1) * pw b)).2.2.2)], [], []⟩ := by
    refine (e_pa_cell ..).trans ?_
    simp only [Bool.and_eq_true] at hok
    have h1 := inr_b hok.1.1.1
    have h2 := inr_b hok.1.1.2
    have h3 := inr_b hok.1.2
    have h4 := inr_b hok.2
    have pa := pw_b h3.2
    have pb := pw_b h4.2
    have m1 := prod_b h1.1 h1.2 (show 0 ≤ pw a by omega) pa.2
    have m2 := prod_b h2.1 h2.2 (show 0 ≤ pw b by omega) pb.2
    have m3 := prod_b (show 0 ≤ c + 1 by omega) (show c + 1 ≤ 4097 by omega) (show 0 ≤ pw a by omega) pa.2
    have m4 := prod_b (show 0 ≤ r + 1 by omega) (show r + 1 ≤ 4097 by omega) (show 0 ≤ pw b by omega) pb.2
    rw [sh_pw h3.1 h3.2, sh_pw h4.1 h4.2]
    simp (disch := omega) only [wrap_in, wrapu_in]
    simp [ite2_bool, h3.1, h4.1]
theorem s_pa_cell : SoundFun Try.prog 93 G_pa_cell := by
  refine fun_ok (tab := t_pa_cell) (ann := annOf []) (lt := l_pa_cell) tab_nil (by kernel_rfl) (fn := Try.f93) (by kernel_rfl) (by decide) (c := bodyOf Try.f93) (by kernel_rfl) (fun m b hb => absurd hb (by show b ∉ loopsOf (bodyOf Try.f93); rw [show loopsOf (bodyOf Try.f93) = [] from by kernel_rfl]; exact List.not_mem_nil)) ?_
  intro args lent o y0'
  unfold G_pa_cell at y0'
  obtain ⟨c', args, rfl, y1'⟩ := pO_s y0'
  obtain ⟨c, rfl, y2'⟩ := kI_s y1'
  obtain ⟨c', args, rfl, y3'⟩ := pO_s y2'
  obtain ⟨r, rfl, y4'⟩ := kI_s y3'
  obtain ⟨c', args, rfl, y5'⟩ := pO_s y4'
  obtain ⟨a, rfl, y6'⟩ := kI_s y5'
  obtain ⟨c', args, rfl, y7'⟩ := pO_s y6'
  obtain ⟨b, rfl, y8'⟩ := kI_s y7'
  obtain ⟨rfl, y9'⟩ := pE_s y8'
  obtain ⟨rfl, y10'⟩ := nE_s y9'
  have yy' := y10'
  unfold H_pa_cell at yy'
  obtain ⟨hok, rfl⟩ := Prod.mk.inj (Option.some.inj yy')
  exact ⟨20, q_pa_cell _ _ _ _ hok⟩
theorem q_ref22_cell (c r a b : Int) (hok : (inr 0 4096 c && inr 0 4096 r && inr 0 12 a && inr 0 12 b) = true) : funR Try.prog t_ref22_cell (annOf []) l_ref22_cell 20 Try.f95 [.one (.int .i64 c), .one (.int .i64 r), .one (.int .i64 a), .one (.int .i64 b)] [] = some ⟨.agg [.int .i64 (((c * pw a, r * pw b, (c + 1) * pw a, (r + 1) * pw b)).1), .int .i64 (((c * pw a, r * pw b, (c + 1) * pw a, (r + 1) * pw b)).2.1), .int .i64 (((c * pw a, r * pw b, (c + 1) * pw a, (r + 1) * pw b)).2.2.1), .int .i64 (((c * pw a, r * pw b, (c + 1) * pw a, (r + 1) * pw b)).2.2.2)], [], []⟩ := by
    refine (e_ref22_cell ..).trans ?_
    simp only [Bool.and_eq_true] at hok
    have h1 := inr_b hok.1.1.1
    have h2 := inr_b hok.1.1.2
    have h3 := inr_b hok.1.2
    have h4 := inr_b hok.2
    have pa := pw_b h3.2
    have pb := pw_b h4.2
    have m1 := prod_b h1.1 h1.2 (show 0 ≤ pw a by omega) pa.2
    have m2 := prod_b h2.1 h2.2 (show 0 ≤ pw b by omega) pb.2
    have m3 := prod_b (show 0 ≤ c + 1 by omega) (show c + 1 ≤ 4097 by omega) (show 0 ≤ pw a by omega) pa.2
    have m4 := prod_b (show 0 ≤ r + 1 by omega) (show r + 1 ≤ 4097 by omega) (show 0 ≤ pw b by omega) pb.2
    rw [wrapu_in (n := a) h3.1 (by omega), wrapu_in (n := b) h4.1 (by omega), shl_pw h3.1 h3.2, shl_pw h4.1 h4.2]
    simp (disch := omega) only [wrap_in, wrapu_in]
    simp [ite2_bool, h3.1, h4.1]
theorem s_ref22_cell : SoundFun Try.prog 95 G_ref22_cell := by
  refine fun_ok (tab := t_ref22_cell) (ann := annOf []) (lt := l_ref22_cell) tab_nil (by kernel_rfl) (fn := Try.f95) (by kernel_rfl) (by decide) (c := bodyOf Try.f95) (by kernel_rfl) (fun m b hb => absurd hb (by show b ∉ loopsOf (bodyOf Try.f95); rw [show loopsOf (bodyOf Try.f95) = [] from by kernel_rfl]; exact List.not_mem_nil)) ?_
  intro args lent o y0'
  unfold G_ref22_cell at y0'
  obtain ⟨c', args, rfl, y1'⟩ := pO_s y0'
  obtain ⟨c, rfl, y2'⟩ := kI_s y1'
  obtain ⟨c', args, rfl, y3'⟩ := pO_s y2'
  obtain ⟨r, rfl, y4'⟩ := kI_s y3'
  obtain ⟨c', args, rfl, y5'⟩ := pO_s y4'
  obtain ⟨a, rfl, y6'⟩ := kI_s y5'
  obtain ⟨c', args, rfl, y7'⟩ := pO_s y6'
  obtain ⟨b, rfl, y8'⟩ := kI_s y7'
  obtain ⟨rfl, y9'⟩ := pE_s y8'
  obtain ⟨rfl, y10'⟩ := nE_s y9'
  have yy' := y10'
  unfold H_ref22_cell at yy'
  obtain ⟨hok, rfl⟩ := Prod.mk.inj (Option.some.inj yy')
  exact ⟨20, q_ref22_cell _ _ _ _ hok⟩
theorem q_pa_grid (a b c d x y m : Int) (hok : decide (m ≤ 12) = true) : funR Try.prog t_pa_grid (annOf []) l_pa_grid 20 Try.f70 [.agg [.int .i64 a, .int .i64 b, .int .i64 c, .int .i64 d], .one (.int .i64 x), .one (.int .i64 y), .one (.int .i64 m)] [] = some ⟨.tup [(false, [.int .i64 ((gridS a b c d x y m).1)]), (false, [.int .i64 ((gridS a b c d x y m).2.1)]), (false, [.int .i64 ((gridS a b c d x y m).2.2.1)]), (false, [.int .i64 ((gridS a b c d x y m).2.2.2)])], [], []⟩ := by
    refine (e_pa_grid ..).trans ?_
    simp only [decide_eq_true_eq] at hok
    simp only [ite2_bool, decide_eq_true_eq, gridS]
    cases hv : valid a b c d
    · simp
    cases he : empty a b c d
    rotate_left
    · simp
    cases hm : (inr 0 m x && inr 0 m y)
    · simp
    have hb := valid_b hv
    simp only [Bool.and_eq_true] at hm
    have hx := inr_b hm.1
    have hy := inr_b hm.2
    simp only [empty, Bool.or_eq_false_iff, decide_eq_false_iff_not] at he
    have p1 := prN_b hb.1 hb.2.1 hb.2.2.1 (show x ≤ 12 by omega)
    have p2 := prN_b hb.2.2.2.1 hb.2.2.2.2.1 hb.2.2.2.2.2 (show y ≤ 12 by omega)
    have m1 := prod_b p1.1 p1.2 p2.1 p2.2
    rw [spN_e hb.1 (by omega) hb.2.2.1 (by omega), spN_e hb.2.2.2.1 (by omega) hb.2.2.2.2.2 (by omega), wrap_in (by omega) (by omega), inr_t (a := 0) (b := 4096) (x := a) (by omega) (by omega), inr_t (a := 0) (b := 4096) (x := c) (by omega) (by omega), inr_t (a := 0) (b := 12) (x := x) (by omega) (by omega), inr_t (a := 0) (b := 4096) (x := b) (by omega) (by omega), inr_t (a := 0) (b := 4096) (x := d) (by omega) (by omega), inr_t (a := 0) (b := 12) (x := y) (by omega) (by omega), (fdiv_b hb.1 (show a ≤ 4096 by omega) (pw_b (show x ≤ 12 by omega)).1).1, (fdiv_b hb.2.2.2.1 (show b ≤ 4096 by omega) (pw_b (show y ≤ 12 by omega)).1).1]
    by_cases hq : prN a c x * prN b d y > 65536 <;> simp [hq]
theorem s_pa_grid : SoundFun Try.prog 70 G_pa_grid := by
  refine fun_ok (tab := t_pa_grid) (ann := annOf []) (lt := l_pa_grid) (tab_cons s_rect_Valid (tab_cons s_rect_Empty (tab_cons s_pa_exponents (tab_cons s_pa_span tab_nil)))) (by kernel_rfl) (fn := Try.f70) (by kernel_rfl) (by decide) (c := bodyOf Try.f70) (by kernel_rfl) (fun m b hb => absurd hb (by show b ∉ loopsOf (bodyOf Try.f70); rw [show loopsOf (bodyOf Try.f70) = [] from by kernel_rfl]; exact List.not_mem_nil)) ?_
  intro args lent o y0'
  unfold G_pa_grid at y0'
  obtain ⟨q', args, rfl, y1'⟩ := pA_s y0'
  obtain ⟨c', q', rfl, y2'⟩ := tC_s y1'
  obtain ⟨a, rfl, y3'⟩ := kI_s y2'
  obtain ⟨c', q', rfl, y4'⟩ := tC_s y3'
  obtain ⟨b, rfl, y5'⟩ := kI_s y4'
  obtain ⟨c', q', rfl, y6'⟩ := tC_s y5'
  obtain ⟨c, rfl, y7'⟩ := kI_s y6'
  obtain ⟨c', q', rfl, y8'⟩ := tC_s y7'
  obtain ⟨d, rfl, y9'⟩ := kI_s y8'
  obtain ⟨rfl, y10'⟩ := tE_s y9'
  obtain ⟨c', args, rfl, y11'⟩ := pO_s y10'
  obtain ⟨x, rfl, y12'⟩ := kI_s y11'
  obtain ⟨c', args, rfl, y13'⟩ := pO_s y12'
  obtain ⟨y, rfl, y14'⟩ := kI_s y13'
  obtain ⟨c', args, rfl, y15'⟩ := pO_s y14'
  obtain ⟨m, rfl, y16'⟩ := kI_s y15'
  obtain ⟨rfl, y17'⟩ := pE_s y16'
  obtain ⟨rfl, y18'⟩ := nE_s y17'
  have yy' := y18'
  unfold H_pa_grid at yy'
  obtain ⟨hok, rfl⟩ := Prod.mk.inj (Option.some.inj yy')
  exact ⟨20, q_pa_grid _ _ _ _ _ _ _ hok⟩
theorem q_ref22_Precincts (a b c d x y : Int) (hok : true = true) : funR Try.prog t_ref22_Precincts (annOf []) l_ref22_Precincts 20 Try.f74 [.agg [.int .i64 a, .int .i64 b, .int .i64 c, .int .i64 d], .one (.int .i64 x), .one (.int .i64 y)] [] = some ⟨.tup [(false, [.int .i64 ((precN a b c d x y).1)]), (false, [.int .i64 ((precN a b c d x y).2)])], [], []⟩ := by
    refine (e_ref22_Precincts ..).trans ?_
    simp only [ite2_bool, decide_eq_true_eq, precN, gridS]
    cases hv : valid a b c d
    · simp
    cases he : empty a b c d
    rotate_left
    · simp
    cases hm : (inr 0 12 x && inr 0 12 y)
    · have : x < 0 ∨ x > 12 ∨ y < 0 ∨ y > 12 := by simp [inr] at hm; omega
      rcases this with h | h | h | h <;> simp [h]
    have hb := valid_b hv
    simp only [Bool.and_eq_true] at hm
    have hx := inr_b hm.1
    have hy := inr_b hm.2
    simp only [empty, Bool.or_eq_false_iff, decide_eq_false_iff_not] at he
    have p1 := prN_b hb.1 hb.2.1 hb.2.2.1 (show x ≤ 12 by omega)
    have p2 := prN_b hb.2.2.2.1 hb.2.2.2.2.1 hb.2.2.2.2.2 (show y ≤ 12 by omega)
    have m1 := prod_b p1.1 p1.2 p2.1 p2.2
    unfold prN at p1 p2 m1 ⊢
    rw [wrapu_in (n := x) (by omega) (by omega), wrapu_in (n := y) (by omega) (by omega), shl_pw hx.1 hx.2, shl_pw hy.1 hy.2, wrap_in (n := cdiv c (pw x) - fdiv a (pw x)) (by omega) (by omega), wrap_in (n := cdiv d (pw y) - fdiv b (pw y)) (by omega) (by omega), wrap_in (by omega) (by omega), if_neg (by decide), if_neg (by decide), if_neg (by omega), if_neg (by omega), if_neg (by omega), if_neg (by omega), if_pos hx.1, if_pos hy.1]
    by_cases hq : (cdiv c (pw x) - fdiv a (pw x)) * (cdiv d (pw y) - fdiv b (pw y)) > 65536 <;> simp [hq]
theorem s_ref22_Precincts : SoundFun Try.prog 74 G_ref22_Precincts := by
  refine fun_ok (tab := t_ref22_Precincts) (ann := annOf []) (lt := l_ref22_Precincts) (tab_cons s_ref01_Valid (tab_cons s_ref01_Empty (tab_cons s_ref01_FloorDiv (tab_cons s_ref01_CeilDiv tab_nil)))) (by kernel_rfl) (fn := Try.f74) (by kernel_rfl) (by decide) (c := bodyOf Try.f74) (by kernel_rfl) (fun m b hb => absurd hb (by show b ∉ loopsOf (bodyOf Try.f74); rw [show loopsOf (bodyOf Try.f74) = [] from by kernel_rfl]; exact List.not_mem_nil)) ?_
  intro args lent o y0'
  unfold G_ref22_Precincts at y0'
  obtain ⟨q', args, rfl, y1'⟩ := pA_s y0'
  obtain ⟨c', q', rfl, y2'⟩ := tC_s y1'
  obtain ⟨a, rfl, y3'⟩ := kI_s y2'
  obtain ⟨c', q', rfl, y4'⟩ := tC_s y3'
  obtain ⟨b, rfl, y5'⟩ := kI_s y4'
  obtain ⟨c', q', rfl, y6'⟩ := tC_s y5'
  obtain ⟨c, rfl, y7'⟩ := kI_s y6'
  obtain ⟨c', q', rfl, y8'⟩ := tC_s y7'
  obtain ⟨d, rfl, y9'⟩ := kI_s y8'
  obtain ⟨rfl, y10'⟩ := tE_s y9'
  obtain ⟨c', args, rfl, y11'⟩ := pO_s y10'
  obtain ⟨x, rfl, y12'⟩ := kI_s y11'
  obtain ⟨c', args, rfl, y13'⟩ := pO_s y12'
  obtain ⟨y, rfl, y14'⟩ := kI_s y13'
  obtain ⟨rfl, y15'⟩ := pE_s y14'
  obtain ⟨rfl, y16'⟩ := nE_s y15'
  have yy' := y16'
  unfold H_ref22_Precincts at yy'
  obtain ⟨hok, rfl⟩ := Prod.mk.inj (Option.some.inj yy')
  exact ⟨20, q_ref22_Precincts _ _ _ _ _ _ hok⟩
theorem q_pa_Precincts (a b c d x y : Int) (hok : true = true) : funR Try.prog t_pa_Precincts (annOf []) l_pa_Precincts 20 Try.f42 [.agg [.int .i64 a, .int .i64 b, .int .i64 c, .int .i64 d], .one (.int .i64 x), .one (.int .i64 y)] [] = some ⟨.tup [(false, [.int .i64 ((precN a b c d x y).1)]), (false, [.int .i64 ((precN a b c d x y).2)])], [], []⟩ := by
    refine (e_pa_Precincts ..).trans ?_
    simp [ite2_bool, precN]
theorem s_pa_Precincts : SoundFun Try.prog 42 G_pa_Precincts := by
  refine fun_ok (tab := t_pa_Precincts) (ann := annOf []) (lt := l_pa_Precincts) (tab_cons s_pa_grid tab_nil) (by kernel_rfl) (fn := Try.f42) (by kernel_rfl) (by decide) (c := bodyOf Try.f42) (by kernel_rfl) (fun m b hb => absurd hb (by show b ∉ loopsOf (bodyOf Try.f42); rw [show loopsOf (bodyOf Try.f42) = [] from by kernel_rfl]; exact List.not_mem_nil)) ?_
  intro args lent o y0'
  unfold G_pa_Precincts at y0'
  obtain ⟨q', args, rfl, y1'⟩ := pA_s y0'
  obtain ⟨c', q', rfl, y2'⟩ := tC_s y1'
  obtain ⟨a, rfl, y3'⟩ := kI_s y2'
  obtain ⟨c', q', rfl, y4'⟩ := tC_s y3'
  obtain ⟨b, rfl, y5'⟩ := kI_s y4'
  obtain ⟨c', q', rfl, y6'⟩ := tC_s y5'
  obtain ⟨c, rfl, y7'⟩ := kI_s y6'
  obtain ⟨c', q', rfl, y8'⟩ := tC_s y7'
  obtain ⟨d, rfl, y9'⟩ := kI_s y8'
  obtain ⟨rfl, y10'⟩ := tE_s y9'
  obtain ⟨c', args, rfl, y11'⟩ := pO_s y10'
  obtain ⟨x, rfl, y12'⟩ := kI_s y11'
  obtain ⟨c', args, rfl, y13'⟩ := pO_s y12'
  obtain ⟨y, rfl, y14'⟩ := kI_s y13'
  obtain ⟨rfl, y15'⟩ := pE_s y14'
  obtain ⟨rfl, y16'⟩ := nE_s y15'
  have yy' := y16'
  unfold H_pa_Precincts at yy'
  obtain ⟨hok, rfl⟩ := Prod.mk.inj (Option.some.inj yy')
  exact ⟨20, q_pa_Precincts _ _ _ _ _ _ hok⟩
theorem grid_k (a b c d x y : Int) : gridS a b c d x y 12 = (0, 0, 0, 0) ∨ (valid a b c d = true ∧ x ≤ 12 ∧ y ≤ 12 ∧ 0 ≤ x ∧ 0 ≤ y ∧ gridS a b c d x y 12 = (fdiv a (pw x), fdiv b (pw y), prN a c x, prN b d y) ∧ prN a c x * prN b d y ≤ 65536) := by
  unfold gridS
  split
  · exact .inl rfl
  · rename_i h
    split
    · exact .inl rfl
    · simp only [Bool.or_eq_true, Bool.not_eq_true', not_or, Bool.not_eq_false, Bool.and_eq_true] at h
      have hx := inr_b h.2.1
      have hy := inr_b h.2.2
      exact .inr ⟨h.1.1, hx.2, hy.2, hx.1, hy.1, rfl, by omega⟩
theorem plc_k {a b c d x y i : Int} (h : plcOk a b c d x y i = true) : valid a b c d = true ∧ x ≤ 12 ∧ y ≤ 12 ∧ 0 ≤ x ∧ 0 ≤ y ∧ gridS a b c d x y 12 = (fdiv a (pw x), fdiv b (pw y), prN a c x, prN b d y) ∧ prN a c x * prN b d y ≤ 65536 ∧ 0 ≤ i ∧ i < prN a c x * prN b d y := by
  simp only [plcOk, Bool.and_eq_true, decide_eq_true_eq] at h
  unfold precN at h
  rcases grid_k a b c d x y with h1 | h1
  · rw [h1] at h; simp at h; omega
  · rw [h1.2.2.2.2.2.1] at h
    exact ⟨h1.1, h1.2.1, h1.2.2.1, h1.2.2.2.1, h1.2.2.2.2.1, h1.2.2.2.2.2.1, h1.2.2.2.2.2.2, h⟩
theorem prec_w (a b c d x y : Int) : 0 ≤ (precN a b c d x y).1 * (precN a b c d x y).2 ∧ (precN a b c d x y).1 * (precN a b c d x y).2 ≤ 65536 := by
  unfold precN
  rcases grid_k a b c d x y with h1 | h1
  · rw [h1]; simp
  · rw [h1.2.2.2.2.2.1]
    have hb := valid_b h1.1
    have p1 := prN_b hb.1 hb.2.1 hb.2.2.1 h1.2.1
    have p2 := prN_b hb.2.2.2.1 hb.2.2.2.2.1 hb.2.2.2.2.2 h1.2.2.1
    exact ⟨Int.mul_nonneg p1.1 p2.1, h1.2.2.2.2.2.2⟩
theorem plc_b {a b c d x y i : Int} (h : plcOk a b c d x y i = true) : 1 ≤ prN a c x ∧ prN a c x ≤ 4096 ∧ 0 ≤ i % prN a c x ∧ i % prN a c x < prN a c x ∧ 0 ≤ i / prN a c x ∧ i / prN a c x ≤ i ∧ i < 65536 ∧ 0 ≤ fdiv a (pw x) ∧ fdiv a (pw x) ≤ 4096 ∧ 0 ≤ fdiv b (pw y) ∧ fdiv b (pw y) ≤ 4096 := by
  have k := plc_k h
  have hb := valid_b k.1
  have p1 := prN_b hb.1 hb.2.1 hb.2.2.1 k.2.1
  have p2 := prN_b hb.2.2.2.1 hb.2.2.2.2.1 hb.2.2.2.2.2 k.2.2.1
  have f1 := fdiv_b hb.1 (show a ≤ 4096 by omega) (pw_b k.2.1).1
  have f2 := fdiv_b hb.2.2.2.1 (show b ≤ 4096 by omega) (pw_b k.2.2.1).1
  have h1 : 1 ≤ prN a c x := by
    rcases Int.lt_or_le (prN a c x) 1 with h' | h'
    · have : prN a c x = 0 := by omega
      have k9 := k.2.2.2.2.2.2.2
      rw [this] at k9; simp at k9; omega
    · exact h'
  exact ⟨h1, p1.2, Int.emod_nonneg _ (by omega), Int.emod_lt_of_pos _ (by omega), Int.ediv_nonneg k.2.2.2.2.2.2.2.1 (by omega), Int.ediv_le_self _ k.2.2.2.2.2.2.2.1, by omega, by omega, by omega, by omega, by omega⟩
theorem q_pa_place (a b c d x y i : Int) (hok : true = true) : funR Try.prog t_pa_place (annOf []) l_pa_place 20 Try.f92 [.agg [.int .i64 a, .int .i64 b, .int .i64 c, .int .i64 d], .one (.int .i64 x), .one (.int .i64 y), .one (.int .i64 i)] [] = some ⟨.tup [(false, [.int .i64 (plcC a b c d x y i)]), (false, [.int .i64 (plcR a b c d x y i)]), (false, [.bool (plcOk a b c d x y i)])], [], []⟩ := by
    refine (e_pa_place ..).trans ?_
    have pw0 := prec_w a b c d x y
    simp only [ite2_bool, decide_eq_true_eq]
    change (if i < 0 then _ else if i ≥ IntKind.wrap .i64 ((precN a b c d x y).1 * (precN a b c d x y).2) then _ else _) = _
    rw [wrap_in (n := (precN a b c d x y).1 * (precN a b c d x y).2) (by omega) (by omega)]
    cases h : plcOk a b c d x y i
    · have h0 : i < 0 ∨ i ≥ (precN a b c d x y).1 * (precN a b c d x y).2 := by simp [plcOk] at h; omega
      simp only [plcC, plcR, h, Bool.false_eq_true, if_false]
      rcases h0 with h0 | h0 <;> simp [h0]
    · have k := plc_k h
      have g := plc_b h
      have e1 : (precN a b c d x y).1 = prN a c x := by unfold precN; rw [k.2.2.2.2.2.1]
      have e2 : (precN a b c d x y).2 = prN b d y := by unfold precN; rw [k.2.2.2.2.2.1]
      simp only [plcC, plcR, h, if_true, e1, e2]
      rw [k.2.2.2.2.2.1]
      rw [Int.tmod_eq_emod_of_nonneg (by omega), Int.tdiv_eq_ediv_of_nonneg (by omega), wrap_in (n := i / prN a c x) (by omega) (by omega), wrap_in (n := fdiv a (pw x) + i % prN a c x) (by omega) (by omega), wrap_in (n := fdiv b (pw y) + i / prN a c x) (by omega) (by omega), if_neg (by omega), if_neg (by omega)]
      have e3 : ¬ prN a c x = 0 := by omega
      simp [e3, k.2.2.2.1, k.2.2.2.2.1]
theorem s_pa_place : SoundFun Try.prog 92 G_pa_place := by
  refine fun_ok (tab := t_pa_place) (ann := annOf []) (lt := l_pa_place) (tab_cons s_pa_grid tab_nil) (by kernel_rfl) (fn := Try.f92) (by kernel_rfl) (by decide) (c := bodyOf Try.f92) (by kernel_rfl) (fun m b hb => absurd hb (by show b ∉ loopsOf (bodyOf Try.f92); rw [show loopsOf (bodyOf Try.f92) = [] from by kernel_rfl]; exact List.not_mem_nil)) ?_
  intro args lent o y0'
  unfold G_pa_place at y0'
  obtain ⟨q', args, rfl, y1'⟩ := pA_s y0'
  obtain ⟨c', q', rfl, y2'⟩ := tC_s y1'
  obtain ⟨a, rfl, y3'⟩ := kI_s y2'
  obtain ⟨c', q', rfl, y4'⟩ := tC_s y3'
  obtain ⟨b, rfl, y5'⟩ := kI_s y4'
  obtain ⟨c', q', rfl, y6'⟩ := tC_s y5'
  obtain ⟨c, rfl, y7'⟩ := kI_s y6'
  obtain ⟨c', q', rfl, y8'⟩ := tC_s y7'
  obtain ⟨d, rfl, y9'⟩ := kI_s y8'
  obtain ⟨rfl, y10'⟩ := tE_s y9'
  obtain ⟨c', args, rfl, y11'⟩ := pO_s y10'
  obtain ⟨x, rfl, y12'⟩ := kI_s y11'
  obtain ⟨c', args, rfl, y13'⟩ := pO_s y12'
  obtain ⟨y, rfl, y14'⟩ := kI_s y13'
  obtain ⟨c', args, rfl, y15'⟩ := pO_s y14'
  obtain ⟨i, rfl, y16'⟩ := kI_s y15'
  obtain ⟨rfl, y17'⟩ := pE_s y16'
  obtain ⟨rfl, y18'⟩ := nE_s y17'
  have yy' := y18'
  unfold H_pa_place at yy'
  obtain ⟨hok, rfl⟩ := Prod.mk.inj (Option.some.inj yy')
  exact ⟨20, q_pa_place _ _ _ _ _ _ _ hok⟩
theorem q_ref22_place (a b c d x y i : Int) (hok : true = true) : funR Try.prog t_ref22_place (annOf []) l_ref22_place 20 Try.f94 [.agg [.int .i64 a, .int .i64 b, .int .i64 c, .int .i64 d], .one (.int .i64 x), .one (.int .i64 y), .one (.int .i64 i)] [] = some ⟨.tup [(false, [.int .i64 (plcC a b c d x y i)]), (false, [.int .i64 (plcR a b c d x y i)]), (false, [.bool (plcOk a b c d x y i)])], [], []⟩ := by
    refine (e_ref22_place ..).trans ?_
    have pw0 := prec_w a b c d x y
    simp only [ite2_bool, decide_eq_true_eq]
    
    rw [wrap_in (n := (precN a b c d x y).1 * (precN a b c d x y).2) (by omega) (by omega)]
    cases h : plcOk a b c d x y i
    · have h0 : i < 0 ∨ i ≥ (precN a b c d x y).1 * (precN a b c d x y).2 := by simp [plcOk] at h; omega
      simp only [plcC, plcR, h, Bool.false_eq_true, if_false]
      rcases h0 with h0 | h0 <;> simp [h0]
    · have k := plc_k h
      have g := plc_b h
      have e1 : (precN a b c d x y).1 = prN a c x := by unfold precN; rw [k.2.2.2.2.2.1]
      have e2 : (precN a b c d x y).2 = prN b d y := by unfold precN; rw [k.2.2.2.2.2.1]
      simp only [plcC, plcR, h, if_true, e1, e2]
      rw [wrapu_in (n := x) (by omega) (by omega), wrapu_in (n := y) (by omega) (by omega), shl_pw (k := x) (by omega) (by omega), shl_pw (k := y) (by omega) (by omega)]
      rw [Int.tmod_eq_emod_of_nonneg (by omega), Int.tdiv_eq_ediv_of_nonneg (by omega), wrap_in (n := i / prN a c x) (by omega) (by omega), wrap_in (n := fdiv a (pw x) + i % prN a c x) (by omega) (by omega), wrap_in (n := fdiv b (pw y) + i / prN a c x) (by omega) (by omega), if_neg (by omega), if_neg (by omega)]
      have e3 : ¬ prN a c x = 0 := by omega
      simp [e3, k.2.2.2.1, k.2.2.2.2.1]
theorem s_ref22_place : SoundFun Try.prog 94 G_ref22_place := by
  refine fun_ok (tab := t_ref22_place) (ann := annOf []) (lt := l_ref22_place) (tab_cons s_ref01_FloorDiv (tab_cons s_ref22_Precincts tab_nil)) (by kernel_rfl) (fn := Try.f94) (by kernel_rfl) (by decide) (c := bodyOf Try.f94) (by kernel_rfl) (fun m b hb => absurd hb (by show b ∉ loopsOf (bodyOf Try.f94); rw [show loopsOf (bodyOf Try.f94) = [] from by kernel_rfl]; exact List.not_mem_nil)) ?_
  intro args lent o y0'
  unfold G_ref22_place at y0'
  obtain ⟨q', args, rfl, y1'⟩ := pA_s y0'
  obtain ⟨c', q', rfl, y2'⟩ := tC_s y1'
  obtain ⟨a, rfl, y3'⟩ := kI_s y2'
  obtain ⟨c', q', rfl, y4'⟩ := tC_s y3'
  obtain ⟨b, rfl, y5'⟩ := kI_s y4'
  obtain ⟨c', q', rfl, y6'⟩ := tC_s y5'
  obtain ⟨c, rfl, y7'⟩ := kI_s y6'
  obtain ⟨c', q', rfl, y8'⟩ := tC_s y7'
  obtain ⟨d, rfl, y9'⟩ := kI_s y8'
  obtain ⟨rfl, y10'⟩ := tE_s y9'
  obtain ⟨c', args, rfl, y11'⟩ := pO_s y10'
  obtain ⟨x, rfl, y12'⟩ := kI_s y11'
  obtain ⟨c', args, rfl, y13'⟩ := pO_s y12'
  obtain ⟨y, rfl, y14'⟩ := kI_s y13'
  obtain ⟨c', args, rfl, y15'⟩ := pO_s y14'
  obtain ⟨i, rfl, y16'⟩ := kI_s y15'
  obtain ⟨rfl, y17'⟩ := pE_s y16'
  obtain ⟨rfl, y18'⟩ := nE_s y17'
  have yy' := y18'
  unfold H_ref22_place at yy'
  obtain ⟨hok, rfl⟩ := Prod.mk.inj (Option.some.inj yy')
  exact ⟨20, q_ref22_place _ _ _ _ _ _ _ hok⟩
theorem plc_c {a b c d x y i : Int} (h : plcOk a b c d x y i = true) : 0 ≤ plcC a b c d x y i ∧ plcC a b c d x y i ≤ 4096 ∧ 0 ≤ plcR a b c d x y i ∧ plcR a b c d x y i ≤ 4096 := by
  have k := plc_k h
  have g := plc_b h
  have hb := valid_b k.1
  have s1 := span_b hb.1 hb.2.1 hb.2.2.1 (pw_b k.2.1).1
  have s2 := span_b hb.2.2.2.1 hb.2.2.2.2.1 hb.2.2.2.2.2 (pw_b k.2.2.1).1
  have e1 : (precN a b c d x y).1 = prN a c x := by unfold precN; rw [k.2.2.2.2.2.1]
  have h2 : i / prN a c x < prN b d y := Int.ediv_lt_of_lt_mul (by omega) (by rw [Int.mul_comm]; exact k.2.2.2.2.2.2.2.2)
  simp only [plcC, plcR, h, if_true, e1]
  unfold prN at *
  omega
theorem q_pa_InBand (a b c d e f g q o x y i : Int) (hok : true = true) : funR Try.prog t_pa_InBand (annOf []) l_pa_InBand 20 Try.f76 [.agg [.int .i64 a, .int .i64 b, .int .i64 c, .int .i64 d], .agg [.int .i64 e, .int .i64 f, .int .i64 g, .int .i64 q], .one (.int .i64 o), .one (.int .i64 x), .one (.int .i64 y), .one (.int .i64 i)] [] = some ⟨.tup [(true, [.int .i64 ((inbR a b c d e f g q o x y i).1), .int .i64 ((inbR a b c d e f g q o x y i).2.1), .int .i64 ((inbR a b c d e f g q o x y i).2.2.1), .int .i64 ((inbR a b c d e f g q o x y i).2.2.2)]), (false, [.bool (inbOk a b c d e f g q o x y i)])], [], []⟩ := by
    refine (e_pa_InBand ..).trans ?_
    simp only [ite2_bool, decide_eq_true_eq, inbR, inbOk]
    by_cases h : plcOk a b c d x y i = true
    rotate_left
    · simp [h]
    by_cases hv : valid e f g q = true
    rotate_left
    · simp [h, hv]
    by_cases ho : inr 0 3 o = true
    rotate_left
    · have : o < 0 ∨ o > 3 := by simp [inr] at ho; omega
      rcases this with h0 | h0 <;> simp [h, hv, ho, h0]
    have hob := inr_b ho
    have k := plc_k h
    have gg := plc_c h
    have n1 : ¬ o < 0 := by omega
    have n2 : ¬ o > 3 := by omega
    rw [inr_t gg.1 gg.2.1, inr_t gg.2.2.1 gg.2.2.2, inr_t (a := 0) (b := 12) (x := x) k.2.2.2.1 k.2.1, inr_t (a := 0) (b := 12) (x := y) k.2.2.2.2.1 k.2.2.1]
    by_cases h0 : o = 0
    · have ho3 : inr 0 3 0 = true := by decide
      simp [h, hv, ho3, h0, interR, cellT]
      generalize inter e f g q _ _ _ _ = z
      obtain ⟨z1, z2, z3, z4⟩ := z
      intros
      simp_all
    by_cases hx : x = 0
    · simp [h, hv, ho, h0, hx, n1, n2]
    by_cases hy : y = 0
    · simp [h, hv, ho, h0, hx, hy, n1, n2]
    rw [wrap_in (n := x - 1) (by omega) (by omega), wrap_in (n := y - 1) (by omega) (by omega), inr_t (a := 0) (b := 12) (x := x - 1) (by omega) (by omega), inr_t (a := 0) (b := 12) (x := y - 1) (by omega) (by omega)]
    simp [h, hv, ho, h0, hx, hy, n1, n2, interR, cellT]
    generalize inter e f g q _ _ _ _ = z
    obtain ⟨z1, z2, z3, z4⟩ := z
    intros
    simp_all
theorem s_pa_InBand : SoundFun Try.prog 76 G_pa_InBand := by
  refine fun_ok (tab := t_pa_InBand) (ann := annOf []) (lt := l_pa_InBand) (tab_cons s_rect_Valid (tab_cons s_rect_Intersect (tab_cons s_pa_place (tab_cons s_pa_cell tab_nil)))) (by kernel_rfl) (fn := Try.f76) (by kernel_rfl) (by decide) (c := bodyOf Try.f76) (by kernel_rfl) (fun m b hb => absurd hb (by show b ∉ loopsOf (bodyOf Try.f76); rw [show loopsOf (bodyOf Try.f76) = [] from by kernel_rfl]; exact List.not_mem_nil)) ?_
  intro args lent o y0'
  unfold G_pa_InBand at y0'
  obtain ⟨q', args, rfl, y1'⟩ := pA_s y0'
  obtain ⟨c', q', rfl, y2'⟩ := tC_s y1'
  obtain ⟨a, rfl, y3'⟩ := kI_s y2'
  obtain ⟨c', q', rfl, y4'⟩ := tC_s y3'
  obtain ⟨b, rfl, y5'⟩ := kI_s y4'
  obtain ⟨c', q', rfl, y6'⟩ := tC_s y5'
  obtain ⟨c, rfl, y7'⟩ := kI_s y6'
  obtain ⟨c', q', rfl, y8'⟩ := tC_s y7'
  obtain ⟨d, rfl, y9'⟩ := kI_s y8'
  obtain ⟨rfl, y10'⟩ := tE_s y9'
  obtain ⟨q', args, rfl, y11'⟩ := pA_s y10'
  obtain ⟨c', q', rfl, y12'⟩ := tC_s y11'
  obtain ⟨e, rfl, y13'⟩ := kI_s y12'
  obtain ⟨c', q', rfl, y14'⟩ := tC_s y13'
  obtain ⟨f, rfl, y15'⟩ := kI_s y14'
  obtain ⟨c', q', rfl, y16'⟩ := tC_s y15'
  obtain ⟨g, rfl, y17'⟩ := kI_s y16'
  obtain ⟨c', q', rfl, y18'⟩ := tC_s y17'
  obtain ⟨q, rfl, y19'⟩ := kI_s y18'
  obtain ⟨rfl, y20'⟩ := tE_s y19'
  obtain ⟨c', args, rfl, y21'⟩ := pO_s y20'
  obtain ⟨o, rfl, y22'⟩ := kI_s y21'
  obtain ⟨c', args, rfl, y23'⟩ := pO_s y22'
  obtain ⟨x, rfl, y24'⟩ := kI_s y23'
  obtain ⟨c', args, rfl, y25'⟩ := pO_s y24'
  obtain ⟨y, rfl, y26'⟩ := kI_s y25'
  obtain ⟨c', args, rfl, y27'⟩ := pO_s y26'
  obtain ⟨i, rfl, y28'⟩ := kI_s y27'
  obtain ⟨rfl, y29'⟩ := pE_s y28'
  obtain ⟨rfl, y30'⟩ := nE_s y29'
  have yy' := y30'
  unfold H_pa_InBand at yy'
  obtain ⟨hok, rfl⟩ := Prod.mk.inj (Option.some.inj yy')
  exact ⟨20, q_pa_InBand _ _ _ _ _ _ _ _ _ _ _ _ hok⟩
theorem q_ref22_InBand (a b c d e f g q o x y i : Int) (hok : true = true) : funR Try.prog t_ref22_InBand (annOf []) l_ref22_InBand 20 Try.f79 [.agg [.int .i64 a, .int .i64 b, .int .i64 c, .int .i64 d], .agg [.int .i64 e, .int .i64 f, .int .i64 g, .int .i64 q], .one (.int .i64 o), .one (.int .i64 x), .one (.int .i64 y), .one (.int .i64 i)] [] = some ⟨.tup [(true, [.int .i64 ((inbR a b c d e f g q o x y i).1), .int .i64 ((inbR a b c d e f g q o x y i).2.1), .int .i64 ((inbR a b c d e f g q o x y i).2.2.1), .int .i64 ((inbR a b c d e f g q o x y i).2.2.2)]), (false, [.bool (inbOk a b c d e f g q o x y i)])], [], []⟩ := by
    refine (e_ref22_InBand ..).trans ?_
    simp only [ite2_bool, decide_eq_true_eq, inbR, inbOk]
    by_cases h : plcOk a b c d x y i = true
    rotate_left
    · simp [h]
    by_cases hv : valid e f g q = true
    rotate_left
    · simp [h, hv]
    by_cases ho : inr 0 3 o = true
    rotate_left
    · have : o < 0 ∨ o > 3 := by simp [inr] at ho; omega
      rcases this with h0 | h0 <;> simp [h, hv, ho, h0]
    have hob := inr_b ho
    have k := plc_k h
    have gg := plc_c h
    have n1 : ¬ o < 0 := by omega
    have n2 : ¬ o > 3 := by omega
    rw [inr_t gg.1 gg.2.1, inr_t gg.2.2.1 gg.2.2.2, inr_t (a := 0) (b := 12) (x := x) k.2.2.2.1 k.2.1, inr_t (a := 0) (b := 12) (x := y) k.2.2.2.2.1 k.2.2.1]
    by_cases h0 : o = 0
    · have ho3 : inr 0 3 0 = true := by decide
      simp [h, hv, ho3, h0, interR, cellT]
    by_cases hx : x = 0
    · simp [h, hv, ho, h0, hx, n1, n2]
    by_cases hy : y = 0
    · simp [h, hv, ho, h0, hx, hy, n1, n2]
    rw [wrap_in (n := x - 1) (by omega) (by omega), wrap_in (n := y - 1) (by omega) (by omega), inr_t (a := 0) (b := 12) (x := x - 1) (by omega) (by omega), inr_t (a := 0) (b := 12) (x := y - 1) (by omega) (by omega)]
    simp [h, hv, ho, h0, hx, hy, n1, n2, interR, cellT]
theorem s_ref22_InBand : SoundFun Try.prog 79 G_ref22_InBand := by
  refine fun_ok (tab := t_ref22_InBand) (ann := annOf []) (lt := l_ref22_InBand) (tab_cons s_ref01_Valid (tab_cons s_ref01_Intersect (tab_cons s_ref22_place (tab_cons s_ref22_cell tab_nil)))) (by kernel_rfl) (fn := Try.f79) (by kernel_rfl) (by decide) (c := bodyOf Try.f79) (by kernel_rfl) (fun m b hb => absurd hb (by show b ∉ loopsOf (bodyOf Try.f79); rw [show loopsOf (bodyOf Try.f79) = [] from by kernel_rfl]; exact List.not_mem_nil)) ?_
  intro args lent o y0'
  unfold G_ref22_InBand at y0'
  obtain ⟨q', args, rfl, y1'⟩ := pA_s y0'
  obtain ⟨c', q', rfl, y2'⟩ := tC_s y1'
  obtain ⟨a, rfl, y3'⟩ := kI_s y2'
  obtain ⟨c', q', rfl, y4'⟩ := tC_s y3'
  obtain ⟨b, rfl, y5'⟩ := kI_s y4'
  obtain ⟨c', q', rfl, y6'⟩ := tC_s y5'
  obtain ⟨c, rfl, y7'⟩ := kI_s y6'
  obtain ⟨c', q', rfl, y8'⟩ := tC_s y7'
  obtain ⟨d, rfl, y9'⟩ := kI_s y8'
  obtain ⟨rfl, y10'⟩ := tE_s y9'
  obtain ⟨q', args, rfl, y11'⟩ := pA_s y10'
  obtain ⟨c', q', rfl, y12'⟩ := tC_s y11'
  obtain ⟨e, rfl, y13'⟩ := kI_s y12'
  obtain ⟨c', q', rfl, y14'⟩ := tC_s y13'
  obtain ⟨f, rfl, y15'⟩ := kI_s y14'
  obtain ⟨c', q', rfl, y16'⟩ := tC_s y15'
  obtain ⟨g, rfl, y17'⟩ := kI_s y16'
  obtain ⟨c', q', rfl, y18'⟩ := tC_s y17'
  obtain ⟨q, rfl, y19'⟩ := kI_s y18'
  obtain ⟨rfl, y20'⟩ := tE_s y19'
  obtain ⟨c', args, rfl, y21'⟩ := pO_s y20'
  obtain ⟨o, rfl, y22'⟩ := kI_s y21'
  obtain ⟨c', args, rfl, y23'⟩ := pO_s y22'
  obtain ⟨x, rfl, y24'⟩ := kI_s y23'
  obtain ⟨c', args, rfl, y25'⟩ := pO_s y24'
  obtain ⟨y, rfl, y26'⟩ := kI_s y25'
  obtain ⟨c', args, rfl, y27'⟩ := pO_s y26'
  obtain ⟨i, rfl, y28'⟩ := kI_s y27'
  obtain ⟨rfl, y29'⟩ := pE_s y28'
  obtain ⟨rfl, y30'⟩ := nE_s y29'
  have yy' := y30'
  unfold H_ref22_InBand at yy'
  obtain ⟨hok, rfl⟩ := Prod.mk.inj (Option.some.inj yy')
  exact ⟨20, q_ref22_InBand _ _ _ _ _ _ _ _ _ _ _ _ hok⟩
theorem q_ref22_Precinct (a b c d x y i : Int) (hok : true = true) : funR Try.prog t_ref22_Precinct (annOf []) l_ref22_Precinct 20 Try.f97 [.agg [.int .i64 a, .int .i64 b, .int .i64 c, .int .i64 d], .one (.int .i64 x), .one (.int .i64 y), .one (.int .i64 i)] [] = some ⟨.tup [(true, [.int .i64 ((if plcOk a b c d x y i then interR (a, b, c, d) (cellT (plcC a b c d x y i) (plcR a b c d x y i) x y) else (0, 0, 0, 0)).1), .int .i64 ((if plcOk a b c d x y i then interR (a, b, c, d) (cellT (plcC a b c d x y i) (plcR a b c d x y i) x y) else (0, 0, 0, 0)).2.1), .int .i64 ((if plcOk a b c d x y i then interR (a, b, c, d) (cellT (plcC a b c d x y i) (plcR a b c d x y i) x y) else (0, 0, 0, 0)).2.2.1), .int .i64 ((if plcOk a b c d x y i then interR (a, b, c, d) (cellT (plcC a b c d x y i) (plcR a b c d x y i) x y) else (0, 0, 0, 0)).2.2.2)]), (false, [.bool (plcOk a b c d x y i)])], [], []⟩ := by
    refine (e_ref22_Precinct ..).trans ?_
    cases h : plcOk a b c d x y i
    · simp [ite2_bool]
    · have k := plc_k h
      have gg := plc_c h
      rw [inr_t gg.1 gg.2.1, inr_t gg.2.2.1 gg.2.2.2, inr_t (a := 0) (b := 12) (x := x) k.2.2.2.1 k.2.1, inr_t (a := 0) (b := 12) (x := y) k.2.2.2.2.1 k.2.2.1]
      simp [ite2_bool, interR, cellT]
theorem s_ref22_Precinct : SoundFun Try.prog 97 G_ref22_Precinct := by
  refine fun_ok (tab := t_ref22_Precinct) (ann := annOf []) (lt := l_ref22_Precinct) (tab_cons s_ref01_Intersect (tab_cons s_ref22_place (tab_cons s_ref22_cell tab_nil))) (by kernel_rfl) (fn := Try.f97) (by kernel_rfl) (by decide) (c := bodyOf Try.f97) (by kernel_rfl) (fun m b hb => absurd hb (by show b ∉ loopsOf (bodyOf Try.f97); rw [show loopsOf (bodyOf Try.f97) = [] from by kernel_rfl]; exact List.not_mem_nil)) ?_
  intro args lent o y0'
  unfold G_ref22_Precinct at y0'
  obtain ⟨q', args, rfl, y1'⟩ := pA_s y0'
  obtain ⟨c', q', rfl, y2'⟩ := tC_s y1'
  obtain ⟨a, rfl, y3'⟩ := kI_s y2'
  obtain ⟨c', q', rfl, y4'⟩ := tC_s y3'
  obtain ⟨b, rfl, y5'⟩ := kI_s y4'
  obtain ⟨c', q', rfl, y6'⟩ := tC_s y5'
  obtain ⟨c, rfl, y7'⟩ := kI_s y6'
  obtain ⟨c', q', rfl, y8'⟩ := tC_s y7'
  obtain ⟨d, rfl, y9'⟩ := kI_s y8'
  obtain ⟨rfl, y10'⟩ := tE_s y9'
  obtain ⟨c', args, rfl, y11'⟩ := pO_s y10'
  obtain ⟨x, rfl, y12'⟩ := kI_s y11'
  obtain ⟨c', args, rfl, y13'⟩ := pO_s y12'
  obtain ⟨y, rfl, y14'⟩ := kI_s y13'
  obtain ⟨c', args, rfl, y15'⟩ := pO_s y14'
  obtain ⟨i, rfl, y16'⟩ := kI_s y15'
  obtain ⟨rfl, y17'⟩ := pE_s y16'
  obtain ⟨rfl, y18'⟩ := nE_s y17'
  have yy' := y18'
  unfold H_ref22_Precinct at yy'
  obtain ⟨hok, rfl⟩ := Prod.mk.inj (Option.some.inj yy')
  exact ⟨20, q_ref22_Precinct _ _ _ _ _ _ _ hok⟩
end Go.Rx.Ch24

set_option linter.unusedVariables false
set_option linter.unusedSimpArgs false
set_option maxRecDepth 100000
set_option maxHeartbeats 4000000
open Go Go.Rx Go.Proofs
namespace Go.Rx.Ch24
theorem blkRow_len (a b c d x y r : Int) : ∀ n k, (blkRow a b c d x y r n k).length = n
  | 0, k => rfl
  | n + 1, k => by simp [blkRow, blkRow_len a b c d x y r n]
theorem grid_m (a b c d x y m : Int) (hm : m ≤ 12) : gridS a b c d x y m = (0, 0, 0, 0) ∨ (valid a b c d = true ∧ x ≤ 12 ∧ y ≤ 12 ∧ gridS a b c d x y m = (fdiv a (pw x), fdiv b (pw y), prN a c x, prN b d y)) := by
  unfold gridS
  split
  · exact .inl rfl
  · rename_i h
    split
    · exact .inl rfl
    · simp only [Bool.or_eq_true, Bool.not_eq_true', not_or, Bool.not_eq_false, Bool.and_eq_true] at h
      have hx := inr_b h.2.1
      have hy := inr_b h.2.2
      exact .inr ⟨h.1.1, by omega, by omega, rfl⟩
theorem r_pa_Blocks_0 : RoundOk Try.prog t_pa_Blocks (annOf []) l_pa_Blocks Out 20 0 49 [1, 2, 3, 6, 7, 8, 9, 10, 22, 23] (kxOf [6, 7, 8] [6, 7, 8]) (loopOf Try.f77 0) T_pa_Blocks_0 := by
  intro vs bl Kc r h
  unfold T_pa_Blocks_0 at h
  obtain ⟨t, y0', h'⟩ := getD_run h
  obtain ⟨c', vs, rfl, y1'⟩ := pO_s y0'
  obtain ⟨x, rfl, y2'⟩ := kI_s y1'
  obtain ⟨c', vs, rfl, y3'⟩ := pO_s y2'
  obtain ⟨y, rfl, y4'⟩ := kI_s y3'
  obtain ⟨c', vs, rfl, y5'⟩ := pO_s y4'
  obtain ⟨rfl, y6'⟩ := kP_s y5'
  obtain ⟨c', vs, rfl, y7'⟩ := pO_s y6'
  obtain ⟨m, rfl, y8'⟩ := kI_s y7'
  obtain ⟨c', vs, rfl, y9'⟩ := pO_s y8'
  obtain ⟨n, rfl, y10'⟩ := kI_s y9'
  obtain ⟨c', vs, rfl, y11'⟩ := pO_s y10'
  obtain ⟨rfl, y12'⟩ := kR_s y11'
  obtain ⟨c', vs, rfl, y13'⟩ := pO_s y12'
  obtain ⟨h, rfl, y14'⟩ := kI_s y13'
  obtain ⟨c', vs, rfl, y15'⟩ := pO_s y14'
  obtain ⟨l, rfl, y16'⟩ := kI_s y15'
  obtain ⟨c', vs, rfl, y17'⟩ := pO_s y16'
  obtain ⟨u, rfl, y18'⟩ := kI_s y17'
  obtain ⟨c', vs, rfl, y19'⟩ := pO_s y18'
  obtain ⟨i, rfl, y20'⟩ := kI_s y19'
  obtain ⟨rfl, y21'⟩ := pE_s y20'
  obtain ⟨q', bl, rfl, y22'⟩ := bB_s y21'
  obtain ⟨c', q', rfl, y23'⟩ := tC_s y22'
  obtain ⟨a, rfl, y24'⟩ := kI_s y23'
  obtain ⟨c', q', rfl, y25'⟩ := tC_s y24'
  obtain ⟨b, rfl, y26'⟩ := kI_s y25'
  obtain ⟨c', q', rfl, y27'⟩ := tC_s y26'
  obtain ⟨c, rfl, y28'⟩ := kI_s y27'
  obtain ⟨c', q', rfl, y29'⟩ := tC_s y28'
  obtain ⟨d, rfl, y30'⟩ := kI_s y29'
  obtain ⟨rfl, y31'⟩ := tE_s y30'
  obtain ⟨t, bl, rfl, y32'⟩ := bAR_s y31'
  obtain ⟨rfl, y33'⟩ := bE_s y32'
  have yy' := y33'
  cases yy'
  exact (b_pa_Blocks_0 ..).trans ((congrArg (LT.runc · Kc) (tu_pa_Blocks_0 ..)).trans h')
theorem r_pa_Blocks_1 : RoundOk Try.prog t_pa_Blocks (annOf []) l_pa_Blocks Out 20 0 49 [1, 2, 3, 6, 7, 8, 9, 10, 11, 22, 23, 26, 27] (kxOf [1, 2, 3, 6, 7, 8, 9, 10, 22, 23] [6, 7, 8]) (loopOf Try.f77 1) T_pa_Blocks_1 := by
  intro vs bl Kc r h
  unfold T_pa_Blocks_1 at h
  obtain ⟨t, y0', h'⟩ := getD_run h
  obtain ⟨c', vs, rfl, y1'⟩ := pO_s y0'
  obtain ⟨x, rfl, y2'⟩ := kI_s y1'
  obtain ⟨c', vs, rfl, y3'⟩ := pO_s y2'
  obtain ⟨y, rfl, y4'⟩ := kI_s y3'
  obtain ⟨c', vs, rfl, y5'⟩ := pO_s y4'
  obtain ⟨rfl, y6'⟩ := kP_s y5'
  obtain ⟨c', vs, rfl, y7'⟩ := pO_s y6'
  obtain ⟨m, rfl, y8'⟩ := kI_s y7'
  obtain ⟨c', vs, rfl, y9'⟩ := pO_s y8'
  obtain ⟨n, rfl, y10'⟩ := kI_s y9'
  obtain ⟨c', vs, rfl, y11'⟩ := pO_s y10'
  obtain ⟨rfl, y12'⟩ := kR_s y11'
  obtain ⟨c', vs, rfl, y13'⟩ := pO_s y12'
  obtain ⟨h, rfl, y14'⟩ := kI_s y13'
  obtain ⟨c', vs, rfl, y15'⟩ := pO_s y14'
  obtain ⟨l, rfl, y16'⟩ := kI_s y15'
  obtain ⟨c', vs, rfl, y17'⟩ := pO_s y16'
  obtain ⟨s, rfl, y18'⟩ := kI_s y17'
  obtain ⟨c', vs, rfl, y19'⟩ := pO_s y18'
  obtain ⟨u, rfl, y20'⟩ := kI_s y19'
  obtain ⟨c', vs, rfl, y21'⟩ := pO_s y20'
  obtain ⟨v, rfl, y22'⟩ := kI_s y21'
  obtain ⟨c', vs, rfl, y23'⟩ := pO_s y22'
  obtain ⟨g, rfl, y24'⟩ := kI_s y23'
  obtain ⟨c', vs, rfl, y25'⟩ := pO_s y24'
  obtain ⟨q, rfl, y26'⟩ := kI_s y25'
  obtain ⟨rfl, y27'⟩ := pE_s y26'
  obtain ⟨q', bl, rfl, y28'⟩ := bB_s y27'
  obtain ⟨c', q', rfl, y29'⟩ := tC_s y28'
  obtain ⟨a, rfl, y30'⟩ := kI_s y29'
  obtain ⟨c', q', rfl, y31'⟩ := tC_s y30'
  obtain ⟨b, rfl, y32'⟩ := kI_s y31'
  obtain ⟨c', q', rfl, y33'⟩ := tC_s y32'
  obtain ⟨c, rfl, y34'⟩ := kI_s y33'
  obtain ⟨c', q', rfl, y35'⟩ := tC_s y34'
  obtain ⟨d, rfl, y36'⟩ := kI_s y35'
  obtain ⟨rfl, y37'⟩ := tE_s y36'
  obtain ⟨t, bl, rfl, y38'⟩ := bAR_s y37'
  obtain ⟨rfl, y39'⟩ := bE_s y38'
  have yy' := y39'
  cases yy'
  exact (b_pa_Blocks_1 ..).trans ((congrArg (LT.runc · Kc) (tu_pa_Blocks_1 ..)).trans h')
theorem o_pa_Blocks : loopsOf (bodyOf Try.f77) = [loopOf Try.f77 0, loopOf Try.f77 1] := by kernel_rfl
theorem zbo (a b c d x y m n h l u : Int) (hxy : (inr 0 12 x && inr 0 12 y) = true) (hk : 0 ≤ h ∧ h + m ≤ 4096 ∧ 0 ≤ m) (hr : 0 ≤ l ∧ l + u ≤ 4096) : ∀ (j : Nat) (i : Int) (t : List Rc), u - i = j → 0 ≤ i → (t.length : Int) + 4096 * (u - i) ≤ 68719476736 → ∃ z, ∀ (K : Ex → List V → List (Option Blk) → Option Out) (o : Out), (LT.leaf (.exit 0) [.one (.int .i64 m), .one (.int .i64 n), .one (.row 0)] [some (.arr 23 (.pair (.int .i64) (.pair (.int .i64) (.pair (.int .i64) (.int .i64)))) (t ++ blkGrid a b c d x y h m.toNat j (l + i)))]).run K = some o → (iter T_pa_Blocks_0 z [.one (.int .i64 x), .one (.int .i64 y), .one (.ptr 0 0), .one (.int .i64 m), .one (.int .i64 n), .one (.row 1), .one (.int .i64 h), .one (.int .i64 l), .one (.int .i64 u), .one (.int .i64 i)] [some (.box [.int .i64 a, .int .i64 b, .int .i64 c, .int .i64 d]), some (.arr 23 (.pair (.int .i64) (.pair (.int .i64) (.pair (.int .i64) (.int .i64)))) (t))]).run K = some o
  | 0, i, t, h0, h1, h2 => ⟨1, fun K o h' => by
    simp only [iter, tu_pa_Blocks_0, U_pa_Blocks_0, LT.next, LT.run, ite2_bool, decide_eq_true_eq]
    rw [if_neg (by omega)]
    simpa [LT.run, blkGrid] using h'⟩
  | j + 1, i, t, h0, h1, h2 => by
    obtain ⟨z, hz⟩ := zbo a b c d x y m n h l u hxy hk hr j (i + 1) (t ++ blkRow a b c d x y (l + i) (m - 0).toNat (h + 0)) (by omega) (by omega) (by rw [List.length_append, blkRow_len]; push_cast; omega)
    refine ⟨z + 1, fun K o h' => ?_⟩
    simp only [iter, tu_pa_Blocks_0, U_pa_Blocks_0, LT.next, LT.run, ite2_bool, decide_eq_true_eq]
    rw [if_pos (by omega), if_pos (by simp only [k_pa_Blocks_1, hxy, Bool.true_and, Bool.and_eq_true, decide_eq_true_eq]; omega), wrap_in (n := i + 1) (by omega) (by omega)]
    refine hz K o ?_
    rw [List.append_assoc, show l + (i + 1) = l + i + 1 by omega, Int.sub_zero, Int.add_zero]
    exact h'
theorem zz_pa_Blocks_0 (a b c d x y m n h l u i : Int) (t : List Rc) (hk : k_pa_Blocks_0 a b c d x y m n h l u i t = true) : ∃ k, ∀ (K : Ex → List V → List (Option Blk) → Option Out) r, (c_pa_Blocks_0 a b c d x y m n h l u i t).run K = some r → (iter T_pa_Blocks_0 k [.one (.int .i64 x), .one (.int .i64 y), .one (.ptr 0 0), .one (.int .i64 m), .one (.int .i64 n), .one (.row 1), .one (.int .i64 h), .one (.int .i64 l), .one (.int .i64 u), .one (.int .i64 i)] [some (.box [.int .i64 a, .int .i64 b, .int .i64 c, .int .i64 d]), some (.arr 23 (.pair (.int .i64) (.pair (.int .i64) (.pair (.int .i64) (.int .i64)))) t)]).run K = some r := by
  simp only [k_pa_Blocks_0, Bool.and_eq_true, decide_eq_true_eq] at hk
  exact zbo a b c d x y m n h l u (by rw [hk.1.1.1.1.1, hk.1.1.1.1.2]; rfl) ⟨hk.1.1.1.2.1.1, hk.1.1.1.2.1.2, hk.1.1.1.2.2⟩ hk.1.1.2 (u - i).toNat i t (by omega) hk.1.2.1 hk.2
theorem z_pa_Blocks_0 : ∀ vs bl t, S_pa_Blocks_0 vs bl = some (true, t) → ∃ n, ∀ (K : Ex → List V → List (Option Blk) → Option Out) r, t.run K = some r → (iter T_pa_Blocks_0 n vs bl).run K = some r := by
  intro vs bl t y0'
  unfold S_pa_Blocks_0 at y0'
  obtain ⟨c', vs, rfl, y1'⟩ := pO_s y0'
  obtain ⟨x, rfl, y2'⟩ := kI_s y1'
  obtain ⟨c', vs, rfl, y3'⟩ := pO_s y2'
  obtain ⟨y, rfl, y4'⟩ := kI_s y3'
  obtain ⟨c', vs, rfl, y5'⟩ := pO_s y4'
  obtain ⟨rfl, y6'⟩ := kP_s y5'
  obtain ⟨c', vs, rfl, y7'⟩ := pO_s y6'
  obtain ⟨m, rfl, y8'⟩ := kI_s y7'
  obtain ⟨c', vs, rfl, y9'⟩ := pO_s y8'
  obtain ⟨n, rfl, y10'⟩ := kI_s y9'
  obtain ⟨c', vs, rfl, y11'⟩ := pO_s y10'
  obtain ⟨rfl, y12'⟩ := kR_s y11'
  obtain ⟨c', vs, rfl, y13'⟩ := pO_s y12'
  obtain ⟨h, rfl, y14'⟩ := kI_s y13'
  obtain ⟨c', vs, rfl, y15'⟩ := pO_s y14'
  obtain ⟨l, rfl, y16'⟩ := kI_s y15'
  obtain ⟨c', vs, rfl, y17'⟩ := pO_s y16'
  obtain ⟨u, rfl, y18'⟩ := kI_s y17'
  obtain ⟨c', vs, rfl, y19'⟩ := pO_s y18'
  obtain ⟨i, rfl, y20'⟩ := kI_s y19'
  obtain ⟨rfl, y21'⟩ := pE_s y20'
  obtain ⟨q', bl, rfl, y22'⟩ := bB_s y21'
  obtain ⟨c', q', rfl, y23'⟩ := tC_s y22'
  obtain ⟨a, rfl, y24'⟩ := kI_s y23'
  obtain ⟨c', q', rfl, y25'⟩ := tC_s y24'
  obtain ⟨b, rfl, y26'⟩ := kI_s y25'
  obtain ⟨c', q', rfl, y27'⟩ := tC_s y26'
  obtain ⟨c, rfl, y28'⟩ := kI_s y27'
  obtain ⟨c', q', rfl, y29'⟩ := tC_s y28'
  obtain ⟨d, rfl, y30'⟩ := kI_s y29'
  obtain ⟨rfl, y31'⟩ := tE_s y30'
  obtain ⟨t, bl, rfl, y32'⟩ := bAR_s y31'
  obtain ⟨rfl, y33'⟩ := bE_s y32'
  have yy' := y33'
  obtain ⟨hk, rfl⟩ := Prod.mk.inj (Option.some.inj yy')
  exact zz_pa_Blocks_0 _ _ _ _ _ _ _ _ _ _ _ _ _ hk
theorem zbi (a b c d x y m n h l s u v g : Int) (hx : 0 ≤ x ∧ x ≤ 12) (hy : 0 ≤ y ∧ y ≤ 12) (hk : 0 ≤ h ∧ h + g ≤ 4096) (hr : 0 ≤ l + s ∧ l + s ≤ 4096) : ∀ (j : Nat) (q : Int) (t : List Rc), g - q = j → 0 ≤ q → (t.length : Int) + (g - q) ≤ 68719476736 → ∃ z, ∀ (K : Ex → List V → List (Option Blk) → Option Out) (o : Out), (LT.leaf (.exit 2) [.one (.int .i64 x), .one (.int .i64 y), .one (.ptr 0 0), .one (.int .i64 m), .one (.int .i64 n), .one (.row 1), .one (.int .i64 h), .one (.int .i64 l), .one (.int .i64 u), .one (.int .i64 v)] [some (.box [.int .i64 a, .int .i64 b, .int .i64 c, .int .i64 d]), some (.arr 23 (.pair (.int .i64) (.pair (.int .i64) (.pair (.int .i64) (.int .i64)))) (t ++ blkRow a b c d x y (l + s) j (h + q)))]).run K = some o → (iter T_pa_Blocks_1 z [.one (.int .i64 x), .one (.int .i64 y), .one (.ptr 0 0), .one (.int .i64 m), .one (.int .i64 n), .one (.row 1), .one (.int .i64 h), .one (.int .i64 l), .one (.int .i64 s), .one (.int .i64 u), .one (.int .i64 v), .one (.int .i64 g), .one (.int .i64 q)] [some (.box [.int .i64 a, .int .i64 b, .int .i64 c, .int .i64 d]), some (.arr 23 (.pair (.int .i64) (.pair (.int .i64) (.pair (.int .i64) (.int .i64)))) (t))]).run K = some o
  | 0, q, t, h0, h1, h2 => ⟨1, fun K o h' => by
    simp only [iter, tu_pa_Blocks_1, U_pa_Blocks_1, LT.next, LT.run, ite2_bool, decide_eq_true_eq]
    rw [if_neg (by omega)]
    simpa [LT.run, blkRow] using h'⟩
  | j + 1, q, t, h0, h1, h2 => by
    obtain ⟨z, hz⟩ := zbi a b c d x y m n h l s u v g hx hy hk hr j (q + 1) (t ++ [interR (a, b, c, d) (cellT (h + q) (l + s) x y)]) (by omega) (by omega) (by simp; omega)
    refine ⟨z + 1, fun K o h' => ?_⟩
    simp only [iter, tu_pa_Blocks_1, U_pa_Blocks_1, LT.next, LT.run, ite2_bool, decide_eq_true_eq]
    rw [if_pos (by omega), wrap_in (n := h + q) (by omega) (by omega), wrap_in (n := l + s) (by omega) (by omega), wrap_in (n := q + 1) (by omega) (by omega), inr_t (a := 0) (b := 4096) (x := h + q) (by omega) (by omega), inr_t (a := 0) (b := 4096) (x := l + s) (by omega) (by omega), inr_t (a := 0) (b := 12) (x := x) (by omega) (by omega), inr_t (a := 0) (b := 12) (x := y) (by omega) (by omega), if_pos (by decide), if_pos (by simp only [List.length_singleton]; omega)]
    refine hz K o ?_
    rw [List.append_assoc, show h + (q + 1) = h + q + 1 by omega]
    exact h'
theorem zz_pa_Blocks_1 (a b c d x y m n h l s u v g q : Int) (t : List Rc) (hk : k_pa_Blocks_1 a b c d x y m n h l s u v g q t = true) : ∃ k, ∀ (K : Ex → List V → List (Option Blk) → Option Out) r, (c_pa_Blocks_1 a b c d x y m n h l s u v g q t).run K = some r → (iter T_pa_Blocks_1 k [.one (.int .i64 x), .one (.int .i64 y), .one (.ptr 0 0), .one (.int .i64 m), .one (.int .i64 n), .one (.row 1), .one (.int .i64 h), .one (.int .i64 l), .one (.int .i64 s), .one (.int .i64 u), .one (.int .i64 v), .one (.int .i64 g), .one (.int .i64 q)] [some (.box [.int .i64 a, .int .i64 b, .int .i64 c, .int .i64 d]), some (.arr 23 (.pair (.int .i64) (.pair (.int .i64) (.pair (.int .i64) (.int .i64)))) t)]).run K = some r := by
  simp only [k_pa_Blocks_1, Bool.and_eq_true, decide_eq_true_eq] at hk
  exact zbi a b c d x y m n h l s u v g (inr_b hk.1.1.1.1.1) (inr_b hk.1.1.1.1.2) hk.1.1.1.2 hk.1.1.2 (g - q).toNat q t (by omega) hk.1.2.1 hk.2
theorem z_pa_Blocks_1 : ∀ vs bl t, S_pa_Blocks_1 vs bl = some (true, t) → ∃ n, ∀ (K : Ex → List V → List (Option Blk) → Option Out) r, t.run K = some r → (iter T_pa_Blocks_1 n vs bl).run K = some r := by
  intro vs bl t y0'
  unfold S_pa_Blocks_1 at y0'
  obtain ⟨c', vs, rfl, y1'⟩ := pO_s y0'
  obtain ⟨x, rfl, y2'⟩ := kI_s y1'
  obtain ⟨c', vs, rfl, y3'⟩ := pO_s y2'
  obtain ⟨y, rfl, y4'⟩ := kI_s y3'
  obtain ⟨c', vs, rfl, y5'⟩ := pO_s y4'
  obtain ⟨rfl, y6'⟩ := kP_s y5'
  obtain ⟨c', vs, rfl, y7'⟩ := pO_s y6'
  obtain ⟨m, rfl, y8'⟩ := kI_s y7'
  obtain ⟨c', vs, rfl, y9'⟩ := pO_s y8'
  obtain ⟨n, rfl, y10'⟩ := kI_s y9'
  obtain ⟨c', vs, rfl, y11'⟩ := pO_s y10'
  obtain ⟨rfl, y12'⟩ := kR_s y11'
  obtain ⟨c', vs, rfl, y13'⟩ := pO_s y12'
  obtain ⟨h, rfl, y14'⟩ := kI_s y13'
  obtain ⟨c', vs, rfl, y15'⟩ := pO_s y14'
  obtain ⟨l, rfl, y16'⟩ := kI_s y15'
  obtain ⟨c', vs, rfl, y17'⟩ := pO_s y16'
  obtain ⟨s, rfl, y18'⟩ := kI_s y17'
  obtain ⟨c', vs, rfl, y19'⟩ := pO_s y18'
  obtain ⟨u, rfl, y20'⟩ := kI_s y19'
  obtain ⟨c', vs, rfl, y21'⟩ := pO_s y20'
  obtain ⟨v, rfl, y22'⟩ := kI_s y21'
  obtain ⟨c', vs, rfl, y23'⟩ := pO_s y22'
  obtain ⟨g, rfl, y24'⟩ := kI_s y23'
  obtain ⟨c', vs, rfl, y25'⟩ := pO_s y24'
  obtain ⟨q, rfl, y26'⟩ := kI_s y25'
  obtain ⟨rfl, y27'⟩ := pE_s y26'
  obtain ⟨q', bl, rfl, y28'⟩ := bB_s y27'
  obtain ⟨c', q', rfl, y29'⟩ := tC_s y28'
  obtain ⟨a, rfl, y30'⟩ := kI_s y29'
  obtain ⟨c', q', rfl, y31'⟩ := tC_s y30'
  obtain ⟨b, rfl, y32'⟩ := kI_s y31'
  obtain ⟨c', q', rfl, y33'⟩ := tC_s y32'
  obtain ⟨c, rfl, y34'⟩ := kI_s y33'
  obtain ⟨c', q', rfl, y35'⟩ := tC_s y34'
  obtain ⟨d, rfl, y36'⟩ := kI_s y35'
  obtain ⟨rfl, y37'⟩ := tE_s y36'
  obtain ⟨t, bl, rfl, y38'⟩ := bAR_s y37'
  obtain ⟨rfl, y39'⟩ := bE_s y38'
  have yy' := y39'
  obtain ⟨hk, rfl⟩ := Prod.mk.inj (Option.some.inj yy')
  exact zz_pa_Blocks_1 _ _ _ _ _ _ _ _ _ _ _ _ _ _ _ _ hk
theorem q_pa_Blocks (a b c d x y : Int) (hok : (inr 0 12 x && inr 0 12 y) = true) : funR Try.prog t_pa_Blocks (annOf []) l_pa_Blocks 20 Try.f77 [.agg [.int .i64 a, .int .i64 b, .int .i64 c, .int .i64 d], .one (.int .i64 x), .one (.int .i64 y)] [] = some ⟨.tup [(false, [.int .i64 (gridS a b c d x y 6).2.2.1]), (false, [.int .i64 (gridS a b c d x y 6).2.2.2]), (false, [.row 0])], [], [.arr 23 (.pair (.int .i64) (.pair (.int .i64) (.pair (.int .i64) (.int .i64)))) (blkL a b c d x y)]⟩ := by
    refine (e_pa_Blocks ..).trans ?_
    have hk : k_pa_Blocks_0 a b c d x y (gridS a b c d x y 6).2.2.1 (gridS a b c d x y 6).2.2.2 (gridS a b c d x y 6).1 (gridS a b c d x y 6).2.1 (gridS a b c d x y 6).2.2.2 0 [] = true := by
      simp only [k_pa_Blocks_0, hok, Bool.true_and, Bool.and_eq_true, decide_eq_true_eq, List.length_nil]
      rcases grid_m a b c d x y 6 (by omega) with h1 | h1
      · rw [h1]; simp
      · rw [h1.2.2.2]
        have hb := valid_b h1.1
        have s1 := span_b hb.1 hb.2.1 hb.2.2.1 (pw_b h1.2.1).1
        have s2 := span_b hb.2.2.2.1 hb.2.2.2.2.1 hb.2.2.2.2.2 (pw_b h1.2.2.1).1
        simp only [prN]
        omega
    simp only [hk, Int.sub_zero, Int.add_zero, List.nil_append]
    rfl
theorem s_pa_Blocks : SoundFun Try.prog 77 G_pa_Blocks := by
  refine fun_ok (tab := t_pa_Blocks) (ann := annOf []) (lt := l_pa_Blocks) (tab_cons s_rect_Intersect (tab_cons s_pa_grid (tab_cons s_pa_cell tab_nil))) (by kernel_rfl) (fn := Try.f77) (by kernel_rfl) (by decide) (c := bodyOf Try.f77) (by kernel_rfl) (by
    intro m b hb
    have hb' : b ∈ loopsOf (bodyOf Try.f77) := hb
    rw [o_pa_Blocks] at hb'
    simp only [List.mem_cons, List.not_mem_nil, or_false] at hb'
    rcases hb' with rfl | rfl
    · exact loop_ok (key := 3) (by kernel_rfl) rfl r_pa_Blocks_0 z_pa_Blocks_0 m
    · exact loop_ok (key := 6) (by kernel_rfl) rfl r_pa_Blocks_1 z_pa_Blocks_1 m
    ) ?_
  intro args lent o y0'
  unfold G_pa_Blocks at y0'
  obtain ⟨q', args, rfl, y1'⟩ := pA_s y0'
  obtain ⟨c', q', rfl, y2'⟩ := tC_s y1'
  obtain ⟨a, rfl, y3'⟩ := kI_s y2'
  obtain ⟨c', q', rfl, y4'⟩ := tC_s y3'
  obtain ⟨b, rfl, y5'⟩ := kI_s y4'
  obtain ⟨c', q', rfl, y6'⟩ := tC_s y5'
  obtain ⟨c, rfl, y7'⟩ := kI_s y6'
  obtain ⟨c', q', rfl, y8'⟩ := tC_s y7'
  obtain ⟨d, rfl, y9'⟩ := kI_s y8'
  obtain ⟨rfl, y10'⟩ := tE_s y9'
  obtain ⟨c', args, rfl, y11'⟩ := pO_s y10'
  obtain ⟨x, rfl, y12'⟩ := kI_s y11'
  obtain ⟨c', args, rfl, y13'⟩ := pO_s y12'
  obtain ⟨y, rfl, y14'⟩ := kI_s y13'
  obtain ⟨rfl, y15'⟩ := pE_s y14'
  obtain ⟨rfl, y16'⟩ := nE_s y15'
  have yy' := y16'
  unfold H_pa_Blocks at yy'
  obtain ⟨hok, rfl⟩ := Prod.mk.inj (Option.some.inj yy')
  exact ⟨20, q_pa_Blocks _ _ _ _ _ _ hok⟩
end Go.Rx.Ch24

set_option linter.unusedVariables false
set_option linter.unusedSimpArgs false
set_option maxRecDepth 100000
set_option maxHeartbeats 4000000
open Go Go.Rx Go.Proofs
namespace Go.Rx.Ch24
theorem q_lay_Tiles (h : Hd) (hok : small h.cs.length = true) : funR Try.prog t_lay_Tiles (annOf []) l_lay_Tiles 20 Try.f10 [.agg (hdC h)] [] = some ⟨.one (.row 0), [], [.arr 23 (.pair (.int .i64) (.pair (.int .i64) (.pair (.int .i64) (.int .i64)))) (tilesH h)]⟩ := by
    refine (e_lay_Tiles ..).trans ?_
    simp only [ite2_bool, hok, if_true, tilesH]
    by_cases hh : header h = 0
    · have hb := header_ok hh
      have h1 := inr_b hb.2.2.1
      have h2 := inr_b hb.2.2.2.1
      simp [hh, h1.2, h2.2]
    · simp [hh]
theorem s_lay_Tiles : SoundFun Try.prog 10 G_lay_Tiles := by
  refine fun_ok (tab := t_lay_Tiles) (ann := annOf []) (lt := l_lay_Tiles) (tab_cons s_params_Header (tab_cons s_rect_Cells tab_nil)) (by kernel_rfl) (fn := Try.f10) (by kernel_rfl) (by decide) (c := bodyOf Try.f10) (by kernel_rfl) (fun m b hb => absurd hb (by show b ∉ loopsOf (bodyOf Try.f10); rw [show loopsOf (bodyOf Try.f10) = [] from by kernel_rfl]; exact List.not_mem_nil)) ?_
  intro args lent o y0'
  unfold G_lay_Tiles at y0'
  obtain ⟨q', args, rfl, y1'⟩ := pA_s y0'
  obtain ⟨h, rfl, y2'⟩ := rdHd_s y1'
  obtain ⟨rfl, y3'⟩ := pE_s y2'
  obtain ⟨rfl, y4'⟩ := nE_s y3'
  have yy' := y4'
  unfold H_lay_Tiles at yy'
  obtain ⟨hok, rfl⟩ := Prod.mk.inj (Option.some.inj yy')
  exact ⟨20, q_lay_Tiles _ hok⟩
theorem q_ref24_Tiles (h : Hd) (hok : small h.cs.length = true) : funR Try.prog t_ref24_Tiles (annOf []) l_ref24_Tiles 20 Try.f11 [.agg (hdC h)] [] = some ⟨.one (.row 0), [], [.arr 23 (.pair (.int .i64) (.pair (.int .i64) (.pair (.int .i64) (.int .i64)))) (tilesH h)]⟩ := by
    refine (e_ref24_Tiles ..).trans ?_
    simp only [ite2_bool, hok, if_true, tilesH]
    by_cases hh : header h = 0
    · have hb := header_ok hh
      have h1 := inr_b hb.2.2.1
      have h2 := inr_b hb.2.2.2.1
      simp [hh, h1.2, h2.2]
    · simp [hh]
theorem s_ref24_Tiles : SoundFun Try.prog 11 G_ref24_Tiles := by
  refine fun_ok (tab := t_ref24_Tiles) (ann := annOf []) (lt := l_ref24_Tiles) (tab_cons s_ref23_Header (tab_cons s_ref01_Cells tab_nil)) (by kernel_rfl) (fn := Try.f11) (by kernel_rfl) (by decide) (c := bodyOf Try.f11) (by kernel_rfl) (fun m b hb => absurd hb (by show b ∉ loopsOf (bodyOf Try.f11); rw [show loopsOf (bodyOf Try.f11) = [] from by kernel_rfl]; exact List.not_mem_nil)) ?_
  intro args lent o y0'
  unfold G_ref24_Tiles at y0'
  obtain ⟨q', args, rfl, y1'⟩ := pA_s y0'
  obtain ⟨h, rfl, y2'⟩ := rdHd_s y1'
  obtain ⟨rfl, y3'⟩ := pE_s y2'
  obtain ⟨rfl, y4'⟩ := nE_s y3'
  have yy' := y4'
  unfold H_ref24_Tiles at yy'
  obtain ⟨hok, rfl⟩ := Prod.mk.inj (Option.some.inj yy')
  exact ⟨20, q_ref24_Tiles _ hok⟩
end Go.Rx.Ch24

set_option linter.unusedVariables false
set_option linter.unusedSimpArgs false
set_option maxRecDepth 100000
set_option maxHeartbeats 4000000
open Go Go.Rx Go.Proofs
namespace Go.Rx.Ch24
theorem blkRow_map (a b c d x y r : Int) : ∀ (n : Nat) (h : Int), blkRow a b c d x y r n h = (List.range n).map fun (i : Nat) => interR (a, b, c, d) (cellT (h + i) r x y)
  | 0, h => rfl
  | n + 1, h => by
    rw [blkRow, blkRow_map a b c d x y r n, List.range_succ_eq_map, List.map_cons, List.map_map]
    congr 1
    · simp
    · apply List.map_congr_left
      intro i _
      show _ = interR (a, b, c, d) (cellT (h + ((i + 1 : Nat) : Int)) r x y)
      rw [show h + 1 + (i : Int) = h + ((i + 1 : Nat) : Int) by omega]
theorem blkGrid_map (a b c d x y h : Int) (m : Nat) (hm : 0 < m) : ∀ (n : Nat) (r : Int), blkGrid a b c d x y h m n r = (List.range (m * n)).map fun (i : Nat) => interR (a, b, c, d) (cellT (h + ((i % m : Nat) : Int)) (r + ((i / m : Nat) : Int)) x y)
  | 0, r => by simp [blkGrid]
  | n + 1, r => by
    rw [blkGrid, blkGrid_map a b c d x y h m hm n, blkRow_map, show m * (n + 1) = m + m * n by rw [Nat.mul_succ]; omega, List.range_add, List.map_append, List.map_map]
    congr 1
    · apply List.map_congr_left
      intro i hi
      rw [List.mem_range] at hi
      rw [Nat.mod_eq_of_lt hi, Nat.div_eq_of_lt hi]
      simp
    · apply List.map_congr_left
      intro i _
      show _ = interR (a, b, c, d) (cellT (h + (((m + i) % m : Nat) : Int)) (r + (((m + i) / m : Nat) : Int)) x y)
      rw [Nat.add_mod_left, Nat.add_div_left _ hm, show r + 1 + ((i / m : Nat) : Int) = r + (((i / m).succ : Nat) : Int) by omega]
theorem blkT_len (a b c d x y : Int) (n : Nat) : (blkT a b c d x y n).length = n := by simp [blkT]
theorem grid6_12 {a b c d x y : Int} (h : (inr 0 6 x && inr 0 6 y) = true) : gridS a b c d x y 6 = gridS a b c d x y 12 := by
  have h2 := h
  simp only [Bool.and_eq_true] at h2
  have h3 := inr_b h2.1
  have h4 := inr_b h2.2
  unfold gridS
  rw [h, inr_t (a := 0) (b := 12) (x := x) (by omega) (by omega), inr_t (a := 0) (b := 12) (x := y) (by omega) (by omega)]
  rfl
theorem grid6_n {a b c d x y : Int} (h : (inr 0 6 x && inr 0 6 y) = false) : gridS a b c d x y 6 = (0, 0, 0, 0) := by
  unfold gridS
  rw [h]
  simp
theorem blkI_eq {a b c d x y : Int} (h : (inr 0 6 x && inr 0 6 y) = true) : blkI a b c d x y = blkL a b c d x y := by
  unfold blkL blkI blkT
  rw [grid6_12 h]
  have pk := prec_w a b c d x y
  rcases grid_k a b c d x y with h1 | h1
  · unfold precN; rw [h1]; simp [blkGrid]
  · have hb := valid_b h1.1
    have p1 := prN_b hb.1 hb.2.1 hb.2.2.1 h1.2.1
    have p2 := prN_b hb.2.2.2.1 hb.2.2.2.2.1 hb.2.2.2.2.2 h1.2.2.1
    have e1 : (precN a b c d x y).1 = prN a c x := by unfold precN; rw [h1.2.2.2.2.2.1]
    have e2 : (precN a b c d x y).2 = prN b d y := by unfold precN; rw [h1.2.2.2.2.2.1]
    rw [e1, e2] at pk ⊢
    rw [h1.2.2.2.2.2.1]
    simp only
    rcases Int.lt_or_le 0 (prN a c x) with hp | hp
    · rw [blkGrid_map _ _ _ _ _ _ _ _ (by omega), Int.toNat_mul p1.1 p2.1]
      apply List.map_congr_left
      intro i hi
      rw [List.mem_range] at hi
      have hi' : (i : Int) < prN a c x * prN b d y := by
        have : ((prN a c x).toNat * (prN b d y).toNat : Nat) = (prN a c x * prN b d y).toNat := (Int.toNat_mul p1.1 p2.1).symm
        omega
      have hok : plcOk a b c d x y i = true := by
        simp only [plcOk, e1, e2, Bool.and_eq_true, decide_eq_true_eq]; omega
      unfold blkF plcC plcR
      simp only [hok, if_true, e1]
      have t1 : ((prN a c x).toNat : Int) = prN a c x := Int.toNat_of_nonneg p1.1
      rw [show ((i % (prN a c x).toNat : Nat) : Int) = (i : Int) % prN a c x by rw [Int.natCast_emod, t1], show ((i / (prN a c x).toNat : Nat) : Int) = (i : Int) / prN a c x by rw [Int.natCast_ediv, t1]]
    · have : prN a c x = 0 := by omega
      rw [this]
      have ge : ∀ (n : Nat) (r : Int), blkGrid a b c d x y (fdiv a (pw x)) 0 n r = [] := by
        intro n
        induction n with
        | zero => intro r; rfl
        | succ n ih => intro r; simp [blkGrid, blkRow, ih]
      simp [ge]
theorem blkL_n {a b c d x y : Int} (h : (inr 0 6 x && inr 0 6 y) = false) : blkL a b c d x y = [] := by
  unfold blkL
  rw [grid6_n h]
  rfl
theorem r_ref22_Blocks_0 : RoundOk Try.prog t_ref22_Blocks (annOf []) l_ref22_Blocks Out 20 0 55 [1, 2, 3, 6, 7, 8, 9] (kxOf [6, 7, 8] [6, 7, 8]) (loopOf Try.f81 0) T_ref22_Blocks_0 := by
  intro vs bl Kc r h
  unfold T_ref22_Blocks_0 at h
  obtain ⟨t, y0', h'⟩ := getD_run h
  obtain ⟨c', vs, rfl, y1'⟩ := pO_s y0'
  obtain ⟨x, rfl, y2'⟩ := kI_s y1'
  obtain ⟨c', vs, rfl, y3'⟩ := pO_s y2'
  obtain ⟨y, rfl, y4'⟩ := kI_s y3'
  obtain ⟨c', vs, rfl, y5'⟩ := pO_s y4'
  obtain ⟨rfl, y6'⟩ := kP_s y5'
  obtain ⟨c', vs, rfl, y7'⟩ := pO_s y6'
  obtain ⟨m, rfl, y8'⟩ := kI_s y7'
  obtain ⟨c', vs, rfl, y9'⟩ := pO_s y8'
  obtain ⟨n, rfl, y10'⟩ := kI_s y9'
  obtain ⟨c', vs, rfl, y11'⟩ := pO_s y10'
  obtain ⟨rfl, y12'⟩ := kR_s y11'
  obtain ⟨c', vs, rfl, y13'⟩ := pO_s y12'
  obtain ⟨i, rfl, y14'⟩ := kI_s y13'
  obtain ⟨rfl, y15'⟩ := pE_s y14'
  obtain ⟨q', bl, rfl, y16'⟩ := bB_s y15'
  obtain ⟨c', q', rfl, y17'⟩ := tC_s y16'
  obtain ⟨a, rfl, y18'⟩ := kI_s y17'
  obtain ⟨c', q', rfl, y19'⟩ := tC_s y18'
  obtain ⟨b, rfl, y20'⟩ := kI_s y19'
  obtain ⟨c', q', rfl, y21'⟩ := tC_s y20'
  obtain ⟨c, rfl, y22'⟩ := kI_s y21'
  obtain ⟨c', q', rfl, y23'⟩ := tC_s y22'
  obtain ⟨d, rfl, y24'⟩ := kI_s y23'
  obtain ⟨rfl, y25'⟩ := tE_s y24'
  obtain ⟨t, bl, rfl, y26'⟩ := bAR_s y25'
  obtain ⟨rfl, y27'⟩ := bE_s y26'
  have yy' := y27'
  cases yy'
  exact (b_ref22_Blocks_0 ..).trans ((congrArg (LT.runc · Kc) (tu_ref22_Blocks_0 ..)).trans h')
theorem o_ref22_Blocks : loopsOf (bodyOf Try.f81) = [loopOf Try.f81 0] := by kernel_rfl
theorem zz_ref22_Blocks_0 (a b c d x y m n i : Int) (t : List Rc) (hk : k_ref22_Blocks_0 a b c d x y m n i t = true) : ∃ k, ∀ (K : Ex → List V → List (Option Blk) → Option Out) r, (c_ref22_Blocks_0 a b c d x y m n i t).run K = some r → (iter T_ref22_Blocks_0 k [.one (.int .i64 x), .one (.int .i64 y), .one (.ptr 0 0), .one (.int .i64 m), .one (.int .i64 n), .one (.row 1), .one (.int .i64 i)] [some (.box [.int .i64 a, .int .i64 b, .int .i64 c, .int .i64 d]), some (.arr 23 (.pair (.int .i64) (.pair (.int .i64) (.pair (.int .i64) (.int .i64)))) t)]).run K = some r := by
  simp only [k_ref22_Blocks_0, Bool.and_eq_true, decide_eq_true_eq] at hk
  obtain ⟨⟨⟨rfl, rfl⟩, rfl⟩, rfl⟩ := hk
  have pk := prec_w a b c d x y
  refine Exists.elim (z_fold (T := T_ref22_Blocks_0) (st := fun j => ([.one (.int .i64 x), .one (.int .i64 y), .one (.ptr 0 0), .one (.int .i64 (precN a b c d x y).1), .one (.int .i64 (precN a b c d x y).2), .one (.row 1), .one (.int .i64 (j : Int))], [some (.box [.int .i64 a, .int .i64 b, .int .i64 c, .int .i64 d]), some (.arr 23 (.pair (.int .i64) (.pair (.int .i64) (.pair (.int .i64) (.int .i64)))) (blkT a b c d x y j))])) ((precN a b c d x y).1 * (precN a b c d x y).2).toNat (c_ref22_Blocks_0 a b c d x y (precN a b c d x y).1 (precN a b c d x y).2 0 []) (fun j hj F K => ?_) (fun F K => ?_)) (fun k hk => ⟨k, hk⟩)
  · have hl := blkT_len a b c d x y j
    simp only [tu_ref22_Blocks_0, U_ref22_Blocks_0, LT.next, LT.run, ite2_bool, decide_eq_true_eq]
    rw [wrap_in (n := (precN a b c d x y).1 * (precN a b c d x y).2) (by omega) (by omega), if_pos (by omega), if_pos (by simp; omega), wrap_in (n := (j : Int) + 1) (by omega) (by omega), show ((j : Int) + 1) = ((j + 1 : Nat) : Int) from rfl, show blkT a b c d x y (j + 1) = blkT a b c d x y j ++ [blkF a b c d x y j] by unfold blkT; rw [List.range_succ, List.map_append]; rfl]
    rfl
  · simp only [tu_ref22_Blocks_0, U_ref22_Blocks_0, LT.next, LT.run, ite2_bool, decide_eq_true_eq]
    rw [wrap_in (n := (precN a b c d x y).1 * (precN a b c d x y).2) (by omega) (by omega), if_neg (by omega)]
    rfl
theorem z_ref22_Blocks_0 : ∀ vs bl t, S_ref22_Blocks_0 vs bl = some (true, t) → ∃ n, ∀ (K : Ex → List V → List (Option Blk) → Option Out) r, t.run K = some r → (iter T_ref22_Blocks_0 n vs bl).run K = some r := by
  intro vs bl t y0'
  unfold S_ref22_Blocks_0 at y0'
  obtain ⟨c', vs, rfl, y1'⟩ := pO_s y0'
  obtain ⟨x, rfl, y2'⟩ := kI_s y1'
  obtain ⟨c', vs, rfl, y3'⟩ := pO_s y2'
  obtain ⟨y, rfl, y4'⟩ := kI_s y3'
  obtain ⟨c', vs, rfl, y5'⟩ := pO_s y4'
  obtain ⟨rfl, y6'⟩ := kP_s y5'
  obtain ⟨c', vs, rfl, y7'⟩ := pO_s y6'
  obtain ⟨m, rfl, y8'⟩ := kI_s y7'
  obtain ⟨c', vs, rfl, y9'⟩ := pO_s y8'
  obtain ⟨n, rfl, y10'⟩ := kI_s y9'
  obtain ⟨c', vs, rfl, y11'⟩ := pO_s y10'
  obtain ⟨rfl, y12'⟩ := kR_s y11'
  obtain ⟨c', vs, rfl, y13'⟩ := pO_s y12'
  obtain ⟨i, rfl, y14'⟩ := kI_s y13'
  obtain ⟨rfl, y15'⟩ := pE_s y14'
  obtain ⟨q', bl, rfl, y16'⟩ := bB_s y15'
  obtain ⟨c', q', rfl, y17'⟩ := tC_s y16'
  obtain ⟨a, rfl, y18'⟩ := kI_s y17'
  obtain ⟨c', q', rfl, y19'⟩ := tC_s y18'
  obtain ⟨b, rfl, y20'⟩ := kI_s y19'
  obtain ⟨c', q', rfl, y21'⟩ := tC_s y20'
  obtain ⟨c, rfl, y22'⟩ := kI_s y21'
  obtain ⟨c', q', rfl, y23'⟩ := tC_s y22'
  obtain ⟨d, rfl, y24'⟩ := kI_s y23'
  obtain ⟨rfl, y25'⟩ := tE_s y24'
  obtain ⟨t, bl, rfl, y26'⟩ := bAR_s y25'
  obtain ⟨rfl, y27'⟩ := bE_s y26'
  have yy' := y27'
  obtain ⟨hk, rfl⟩ := Prod.mk.inj (Option.some.inj yy')
  exact zz_ref22_Blocks_0 _ _ _ _ _ _ _ _ _ _ hk
theorem q_ref22_Blocks (a b c d x y : Int) (hok : true = true) : funR Try.prog t_ref22_Blocks (annOf []) l_ref22_Blocks 20 Try.f81 [.agg [.int .i64 a, .int .i64 b, .int .i64 c, .int .i64 d], .one (.int .i64 x), .one (.int .i64 y)] [] = some ⟨.tup [(false, [.int .i64 (gridS a b c d x y 6).2.2.1]), (false, [.int .i64 (gridS a b c d x y 6).2.2.2]), (false, [.row 0])], [], [.arr 23 (.pair (.int .i64) (.pair (.int .i64) (.pair (.int .i64) (.int .i64)))) (blkL a b c d x y)]⟩ := by
    refine (e_ref22_Blocks ..).trans ?_
    have hk : k_ref22_Blocks_0 a b c d x y (precN a b c d x y).1 (precN a b c d x y).2 0 [] = true := by simp [k_ref22_Blocks_0]
    simp only [ite2_bool, decide_eq_true_eq, hk, if_true]
    cases h : (inr 0 6 x && inr 0 6 y)
    · rw [grid6_n h, blkL_n h]
      have : x < 0 ∨ x > 6 ∨ y < 0 ∨ y > 6 := by simp [inr] at h; omega
      rcases this with h | h | h | h <;> simp [h]
    · rw [blkI_eq h, grid6_12 h]
      simp only [Bool.and_eq_true] at h
      have h1 := inr_b h.1
      have h2 := inr_b h.2
      rw [if_neg (by omega), if_neg (by omega), if_neg (by omega), if_neg (by omega)]
      rfl
theorem s_ref22_Blocks : SoundFun Try.prog 81 G_ref22_Blocks := by
  refine fun_ok (tab := t_ref22_Blocks) (ann := annOf []) (lt := l_ref22_Blocks) (tab_cons s_ref22_Precincts (tab_cons s_ref22_Precinct tab_nil)) (by kernel_rfl) (fn := Try.f81) (by kernel_rfl) (by decide) (c := bodyOf Try.f81) (by kernel_rfl) (by
    intro m b hb
    have hb' : b ∈ loopsOf (bodyOf Try.f81) := hb
    rw [o_ref22_Blocks] at hb'
    simp only [List.mem_cons, List.not_mem_nil, or_false] at hb'
    rcases hb' with rfl
    · exact loop_ok (key := 5) (by kernel_rfl) rfl r_ref22_Blocks_0 z_ref22_Blocks_0 m
    ) ?_
  intro args lent o y0'
  unfold G_ref22_Blocks at y0'
  obtain ⟨q', args, rfl, y1'⟩ := pA_s y0'
  obtain ⟨c', q', rfl, y2'⟩ := tC_s y1'
  obtain ⟨a, rfl, y3'⟩ := kI_s y2'
  obtain ⟨c', q', rfl, y4'⟩ := tC_s y3'
  obtain ⟨b, rfl, y5'⟩ := kI_s y4'
  obtain ⟨c', q', rfl, y6'⟩ := tC_s y5'
  obtain ⟨c, rfl, y7'⟩ := kI_s y6'
  obtain ⟨c', q', rfl, y8'⟩ := tC_s y7'
  obtain ⟨d, rfl, y9'⟩ := kI_s y8'
  obtain ⟨rfl, y10'⟩ := tE_s y9'
  obtain ⟨c', args, rfl, y11'⟩ := pO_s y10'
  obtain ⟨x, rfl, y12'⟩ := kI_s y11'
  obtain ⟨c', args, rfl, y13'⟩ := pO_s y12'
  obtain ⟨y, rfl, y14'⟩ := kI_s y13'
  obtain ⟨rfl, y15'⟩ := pE_s y14'
  obtain ⟨rfl, y16'⟩ := nE_s y15'
  have yy' := y16'
  unfold H_ref22_Blocks at yy'
  obtain ⟨hok, rfl⟩ := Prod.mk.inj (Option.some.inj yy')
  exact ⟨20, q_ref22_Blocks _ _ _ _ _ _ hok⟩
end Go.Rx.Ch24

set_option linter.unusedVariables false
set_option linter.unusedSimpArgs false
set_option maxRecDepth 100000
set_option maxHeartbeats 4000000
open Go Go.Rx Go.Proofs
namespace Go.Rx.Ch24
theorem q_lay_Component (h : Hd) (t k : Int) (hok : small h.cs.length = true) : funR Try.prog t_lay_Component (annOf []) l_lay_Component 20 Try.f12 [.agg (hdC h), .one (.int .i64 t), .one (.int .i64 k)] [] = some ⟨.agg [.int .i64 ((compT h t k).1), .int .i64 ((compT h t k).2.1), .int .i64 ((compT h t k).2.2.1), .int .i64 ((compT h t k).2.2.2)], [], []⟩ := by
    refine (e_lay_Component ..).trans ?_
    simp only [ite2_bool, decide_eq_true_eq, compT, hok, if_true]
    by_cases h1 : t < 0
    · simp [h1]
    by_cases h2 : t ≥ ((tilesH h).length : Int)
    · simp [h1, h2]
    by_cases h3 : k < 0
    · simp [h1, h2, h3]
    by_cases h4 : k ≥ (h.cs.length : Int)
    · simp [h1, h2, h3, h4]
    have h5 : ¬ (t < 0 ∨ t ≥ ((tilesH h).length : Int) ∨ k < 0 ∨ k ≥ (h.cs.length : Int)) := by omega
    have h6 : 0 ≤ k ∧ k < (h.cs.length : Int) := by omega
    have h7 : 0 ≤ t ∧ t < ((tilesH h).length : Int) := by omega
    have h8 : t.toNat < (tilesH h).length := by omega
    simp only [h1, h2, h3, h4, h5, h6, h7, h8, and_self, if_true, if_false]
    rfl
theorem s_lay_Component : SoundFun Try.prog 12 G_lay_Component := by
  refine fun_ok (tab := t_lay_Component) (ann := annOf []) (lt := l_lay_Component) (tab_cons s_lay_Tiles (tab_cons s_rect_Reduce tab_nil)) (by kernel_rfl) (fn := Try.f12) (by kernel_rfl) (by decide) (c := bodyOf Try.f12) (by kernel_rfl) (fun m b hb => absurd hb (by show b ∉ loopsOf (bodyOf Try.f12); rw [show loopsOf (bodyOf Try.f12) = [] from by kernel_rfl]; exact List.not_mem_nil)) ?_
  intro args lent o y0'
  unfold G_lay_Component at y0'
  obtain ⟨q', args, rfl, y1'⟩ := pA_s y0'
  obtain ⟨h, rfl, y2'⟩ := rdHd_s y1'
  obtain ⟨c', args, rfl, y3'⟩ := pO_s y2'
  obtain ⟨t, rfl, y4'⟩ := kI_s y3'
  obtain ⟨c', args, rfl, y5'⟩ := pO_s y4'
  obtain ⟨k, rfl, y6'⟩ := kI_s y5'
  obtain ⟨rfl, y7'⟩ := pE_s y6'
  obtain ⟨rfl, y8'⟩ := nE_s y7'
  have yy' := y8'
  unfold H_lay_Component at yy'
  obtain ⟨hok, rfl⟩ := Prod.mk.inj (Option.some.inj yy')
  exact ⟨20, q_lay_Component _ _ _ hok⟩
theorem q_lay_exists (h : Hd) (p : Pm) (t k : Int) (hok : (small h.cs.length && (small p.pr.length && small p.st.length)) = true) : funR Try.prog t_lay_exists (annOf []) l_lay_exists 20 Try.f39 [.agg (hdC h), .agg (pmC p), .one (.int .i64 t), .one (.int .i64 k)] [] = some ⟨.one (.bool (existsB h p t k)), [], []⟩ := by
    refine (e_lay_exists ..).trans ?_
    simp only [Bool.and_eq_true] at hok
    simp only [ite2_bool, decide_eq_true_eq, beq_iff_eq, existsB, hok, Bool.and_self, if_true, check_eq]
    by_cases h1 : checkB h p = 0
    rotate_left
    · simp [h1]
    by_cases h2 : t ≥ 0
    rotate_left
    · simp [h1, h2]
    by_cases h3 : t < ((tilesH h).length : Int)
    rotate_left
    · simp [h1, h2, h3]
    by_cases h4 : k ≥ 0
    rotate_left
    · simp [h1, h2, h3, h4]
    simp [h1, h2, h3, h4]
theorem s_lay_exists : SoundFun Try.prog 39 G_lay_exists := by
  refine fun_ok (tab := t_lay_exists) (ann := annOf []) (lt := l_lay_exists) (tab_cons s_lay_Tiles (tab_cons s_params_Check tab_nil)) (by kernel_rfl) (fn := Try.f39) (by kernel_rfl) (by decide) (c := bodyOf Try.f39) (by kernel_rfl) (fun m b hb => absurd hb (by show b ∉ loopsOf (bodyOf Try.f39); rw [show loopsOf (bodyOf Try.f39) = [] from by kernel_rfl]; exact List.not_mem_nil)) ?_
  intro args lent o y0'
  unfold G_lay_exists at y0'
  obtain ⟨q', args, rfl, y1'⟩ := pA_s y0'
  obtain ⟨h, rfl, y2'⟩ := rdHd_s y1'
  obtain ⟨q', args, rfl, y3'⟩ := pA_s y2'
  obtain ⟨p, rfl, y4'⟩ := rdPm_s y3'
  obtain ⟨c', args, rfl, y5'⟩ := pO_s y4'
  obtain ⟨t, rfl, y6'⟩ := kI_s y5'
  obtain ⟨c', args, rfl, y7'⟩ := pO_s y6'
  obtain ⟨k, rfl, y8'⟩ := kI_s y7'
  obtain ⟨rfl, y9'⟩ := pE_s y8'
  obtain ⟨rfl, y10'⟩ := nE_s y9'
  have yy' := y10'
  unfold H_lay_exists at yy'
  obtain ⟨hok, rfl⟩ := Prod.mk.inj (Option.some.inj yy')
  exact ⟨20, q_lay_exists _ _ _ _ hok⟩
theorem q_lay_Resolution (h : Hd) (p : Pm) (t k s : Int) (hok : (small h.cs.length && (small p.pr.length && small p.st.length)) = true) : funR Try.prog t_lay_Resolution (annOf []) l_lay_Resolution 20 Try.f14 [.agg (hdC h), .agg (pmC p), .one (.int .i64 t), .one (.int .i64 k), .one (.int .i64 s)] [] = some ⟨.tup [(true, [.int .i64 ((resS h p t k s).1), .int .i64 ((resS h p t k s).2.1), .int .i64 ((resS h p t k s).2.2.1), .int .i64 ((resS h p t k s).2.2.2)]), (false, [.int .i64 ((resM h p t k s).1)]), (false, [.int .i64 ((resM h p t k s).2)])], [], []⟩ := by
    refine (e_lay_Resolution ..).trans ?_
    have hok' := hok
    simp only [Bool.and_eq_true] at hok'
    simp only [ite2_bool, decide_eq_true_eq, hok, hok', if_true, resS, resM]
    cases h1 : existsB h p t k
    · simp
    by_cases h2 : s < 0
    · have h3 : inr 0 p.le s = false := by simp [inr]; omega
      simp [h2, h3]
    by_cases h4 : s > p.le
    · have h3 : inr 0 p.le s = false := by simp [inr]; omega
      simp [h2, h3, h4]
    have h3 : inr 0 p.le s = true := inr_t (by omega) (by omega)
    simp only [h2, h3, h4, Bool.not_true, Bool.and_self, Bool.false_eq_true, if_false, if_true] <;> rfl
theorem s_lay_Resolution : SoundFun Try.prog 14 G_lay_Resolution := by
  refine fun_ok (tab := t_lay_Resolution) (ann := annOf []) (lt := l_lay_Resolution) (tab_cons s_lay_Component (tab_cons s_lay_exists (tab_cons s_pyr_Resolution (tab_cons s_params_Precinct (tab_cons s_pa_Precincts tab_nil))))) (by kernel_rfl) (fn := Try.f14) (by kernel_rfl) (by decide) (c := bodyOf Try.f14) (by kernel_rfl) (fun m b hb => absurd hb (by show b ∉ loopsOf (bodyOf Try.f14); rw [show loopsOf (bodyOf Try.f14) = [] from by kernel_rfl]; exact List.not_mem_nil)) ?_
  intro args lent o y0'
  unfold G_lay_Resolution at y0'
  obtain ⟨q', args, rfl, y1'⟩ := pA_s y0'
  obtain ⟨h, rfl, y2'⟩ := rdHd_s y1'
  obtain ⟨q', args, rfl, y3'⟩ := pA_s y2'
  obtain ⟨p, rfl, y4'⟩ := rdPm_s y3'
  obtain ⟨c', args, rfl, y5'⟩ := pO_s y4'
  obtain ⟨t, rfl, y6'⟩ := kI_s y5'
  obtain ⟨c', args, rfl, y7'⟩ := pO_s y6'
  obtain ⟨k, rfl, y8'⟩ := kI_s y7'
  obtain ⟨c', args, rfl, y9'⟩ := pO_s y8'
  obtain ⟨s, rfl, y10'⟩ := kI_s y9'
  obtain ⟨rfl, y11'⟩ := pE_s y10'
  obtain ⟨rfl, y12'⟩ := nE_s y11'
  have yy' := y12'
  unfold H_lay_Resolution at yy'
  obtain ⟨hok, rfl⟩ := Prod.mk.inj (Option.some.inj yy')
  exact ⟨20, q_lay_Resolution _ _ _ _ _ hok⟩
theorem q_ref24_Component (h : Hd) (t k : Int) (hok : small h.cs.length = true) : funR Try.prog t_ref24_Component (annOf []) l_ref24_Component 20 Try.f13 [.agg (hdC h), .one (.int .i64 t), .one (.int .i64 k)] [] = some ⟨.agg [.int .i64 ((compT h t k).1), .int .i64 ((compT h t k).2.1), .int .i64 ((compT h t k).2.2.1), .int .i64 ((compT h t k).2.2.2)], [], []⟩ := by
    refine (e_ref24_Component ..).trans ?_
    simp only [ite2_bool, decide_eq_true_eq, compT, hok, if_true]
    by_cases h1 : t < 0
    · simp [h1]
    by_cases h2 : t ≥ ((tilesH h).length : Int)
    · simp [h1, h2]
    by_cases h3 : k < 0
    · simp [h1, h2, h3]
    by_cases h4 : k ≥ (h.cs.length : Int)
    · simp [h1, h2, h3, h4]
    have h5 : ¬ (t < 0 ∨ t ≥ ((tilesH h).length : Int) ∨ k < 0 ∨ k ≥ (h.cs.length : Int)) := by omega
    have h6 : 0 ≤ k ∧ k < (h.cs.length : Int) := by omega
    have h7 : 0 ≤ t ∧ t < ((tilesH h).length : Int) := by omega
    have h8 : t.toNat < (tilesH h).length := by omega
    simp only [h1, h2, h3, h4, h5, h6, h7, h8, and_self, if_true, if_false]
    rfl
theorem s_ref24_Component : SoundFun Try.prog 13 G_ref24_Component := by
  refine fun_ok (tab := t_ref24_Component) (ann := annOf []) (lt := l_ref24_Component) (tab_cons s_ref24_Tiles (tab_cons s_ref01_Reduce tab_nil)) (by kernel_rfl) (fn := Try.f13) (by kernel_rfl) (by decide) (c := bodyOf Try.f13) (by kernel_rfl) (fun m b hb => absurd hb (by show b ∉ loopsOf (bodyOf Try.f13); rw [show loopsOf (bodyOf Try.f13) = [] from by kernel_rfl]; exact List.not_mem_nil)) ?_
  intro args lent o y0'
  unfold G_ref24_Component at y0'
  obtain ⟨q', args, rfl, y1'⟩ := pA_s y0'
  obtain ⟨h, rfl, y2'⟩ := rdHd_s y1'
  obtain ⟨c', args, rfl, y3'⟩ := pO_s y2'
  obtain ⟨t, rfl, y4'⟩ := kI_s y3'
  obtain ⟨c', args, rfl, y5'⟩ := pO_s y4'
  obtain ⟨k, rfl, y6'⟩ := kI_s y5'
  obtain ⟨rfl, y7'⟩ := pE_s y6'
  obtain ⟨rfl, y8'⟩ := nE_s y7'
  have yy' := y8'
  unfold H_ref24_Component at yy'
  obtain ⟨hok, rfl⟩ := Prod.mk.inj (Option.some.inj yy')
  exact ⟨20, q_ref24_Component _ _ _ hok⟩
theorem q_ref24_resolution (a b c d s : Int) (p : Pm) (hok : true = true) : funR Try.prog t_ref24_resolution (annOf []) l_ref24_resolution 20 Try.f44 [.agg [.int .i64 a, .int .i64 b, .int .i64 c, .int .i64 d], .agg (pmC p), .one (.int .i64 s)] [] = some ⟨.tup [(true, [.int .i64 ((rsR (a, b, c, d) p s).1), .int .i64 ((rsR (a, b, c, d) p s).2.1), .int .i64 ((rsR (a, b, c, d) p s).2.2.1), .int .i64 ((rsR (a, b, c, d) p s).2.2.2)]), (false, [.int .i64 ((rsN (a, b, c, d) p s).1)]), (false, [.int .i64 ((rsN (a, b, c, d) p s).2)])], [], []⟩ := by
    refine (e_ref24_resolution ..).trans ?_
    rfl
theorem s_ref24_resolution : SoundFun Try.prog 44 G_ref24_resolution := by
  refine fun_ok (tab := t_ref24_resolution) (ann := annOf []) (lt := l_ref24_resolution) (tab_cons s_ref06_Resolution (tab_cons s_ref23_Precinct (tab_cons s_ref22_Precincts tab_nil))) (by kernel_rfl) (fn := Try.f44) (by kernel_rfl) (by decide) (c := bodyOf Try.f44) (by kernel_rfl) (fun m b hb => absurd hb (by show b ∉ loopsOf (bodyOf Try.f44); rw [show loopsOf (bodyOf Try.f44) = [] from by kernel_rfl]; exact List.not_mem_nil)) ?_
  intro args lent o y0'
  unfold G_ref24_resolution at y0'
  obtain ⟨q', args, rfl, y1'⟩ := pA_s y0'
  obtain ⟨c', q', rfl, y2'⟩ := tC_s y1'
  obtain ⟨a, rfl, y3'⟩ := kI_s y2'
  obtain ⟨c', q', rfl, y4'⟩ := tC_s y3'
  obtain ⟨b, rfl, y5'⟩ := kI_s y4'
  obtain ⟨c', q', rfl, y6'⟩ := tC_s y5'
  obtain ⟨c, rfl, y7'⟩ := kI_s y6'
  obtain ⟨c', q', rfl, y8'⟩ := tC_s y7'
  obtain ⟨d, rfl, y9'⟩ := kI_s y8'
  obtain ⟨rfl, y10'⟩ := tE_s y9'
  obtain ⟨q', args, rfl, y11'⟩ := pA_s y10'
  obtain ⟨p, rfl, y12'⟩ := rdPm_s y11'
  obtain ⟨c', args, rfl, y13'⟩ := pO_s y12'
  obtain ⟨s, rfl, y14'⟩ := kI_s y13'
  obtain ⟨rfl, y15'⟩ := pE_s y14'
  obtain ⟨rfl, y16'⟩ := nE_s y15'
  have yy' := y16'
  unfold H_ref24_resolution at yy'
  obtain ⟨hok, rfl⟩ := Prod.mk.inj (Option.some.inj yy')
  exact ⟨20, q_ref24_resolution _ _ _ _ _ _ hok⟩
theorem q_ref24_exists (h : Hd) (p : Pm) (t k : Int) (hok : (small h.cs.length && (small p.pr.length && small p.st.length)) = true) : funR Try.prog t_ref24_exists (annOf []) l_ref24_exists 20 Try.f43 [.agg (hdC h), .agg (pmC p), .one (.int .i64 t), .one (.int .i64 k)] [] = some ⟨.one (.bool (existsB h p t k)), [], []⟩ := by
    refine (e_ref24_exists ..).trans ?_
    simp only [Bool.and_eq_true] at hok
    simp only [ite2_bool, decide_eq_true_eq, beq_iff_eq, existsB, hok, Bool.and_self, if_true, check_eq]
    by_cases h1 : checkB h p = 0
    rotate_left
    · simp [h1]
    by_cases h2 : t ≥ 0
    rotate_left
    · simp [h1, h2]
    by_cases h3 : t < ((tilesH h).length : Int)
    rotate_left
    · simp [h1, h2, h3]
    by_cases h4 : k ≥ 0
    rotate_left
    · simp [h1, h2, h3, h4]
    simp [h1, h2, h3, h4]
theorem s_ref24_exists : SoundFun Try.prog 43 G_ref24_exists := by
  refine fun_ok (tab := t_ref24_exists) (ann := annOf []) (lt := l_ref24_exists) (tab_cons s_ref24_Tiles (tab_cons s_ref23_Check tab_nil)) (by kernel_rfl) (fn := Try.f43) (by kernel_rfl) (by decide) (c := bodyOf Try.f43) (by kernel_rfl) (fun m b hb => absurd hb (by show b ∉ loopsOf (bodyOf Try.f43); rw [show loopsOf (bodyOf Try.f43) = [] from by kernel_rfl]; exact List.not_mem_nil)) ?_
  intro args lent o y0'
  unfold G_ref24_exists at y0'
  obtain ⟨q', args, rfl, y1'⟩ := pA_s y0'
  obtain ⟨h, rfl, y2'⟩ := rdHd_s y1'
  obtain ⟨q', args, rfl, y3'⟩ := pA_s y2'
  obtain ⟨p, rfl, y4'⟩ := rdPm_s y3'
  obtain ⟨c', args, rfl, y5'⟩ := pO_s y4'
  obtain ⟨t, rfl, y6'⟩ := kI_s y5'
  obtain ⟨c', args, rfl, y7'⟩ := pO_s y6'
  obtain ⟨k, rfl, y8'⟩ := kI_s y7'
  obtain ⟨rfl, y9'⟩ := pE_s y8'
  obtain ⟨rfl, y10'⟩ := nE_s y9'
  have yy' := y10'
  unfold H_ref24_exists at yy'
  obtain ⟨hok, rfl⟩ := Prod.mk.inj (Option.some.inj yy')
  exact ⟨20, q_ref24_exists _ _ _ _ hok⟩
theorem q_ref24_Resolution (h : Hd) (p : Pm) (t k s : Int) (hok : (small h.cs.length && (small p.pr.length && small p.st.length)) = true) : funR Try.prog t_ref24_Resolution (annOf []) l_ref24_Resolution 20 Try.f15 [.agg (hdC h), .agg (pmC p), .one (.int .i64 t), .one (.int .i64 k), .one (.int .i64 s)] [] = some ⟨.tup [(true, [.int .i64 ((resS h p t k s).1), .int .i64 ((resS h p t k s).2.1), .int .i64 ((resS h p t k s).2.2.1), .int .i64 ((resS h p t k s).2.2.2)]), (false, [.int .i64 ((resM h p t k s).1)]), (false, [.int .i64 ((resM h p t k s).2)])], [], []⟩ := by
    refine (e_ref24_Resolution ..).trans ?_
    have hok' := hok
    simp only [Bool.and_eq_true] at hok'
    simp only [ite2_bool, decide_eq_true_eq, hok, hok', if_true, resS, resM]
    cases h1 : existsB h p t k
    · simp
    by_cases h2 : s < 0
    · have h3 : inr 0 p.le s = false := by simp [inr]; omega
      simp [h2, h3]
    by_cases h4 : s > p.le
    · have h3 : inr 0 p.le s = false := by simp [inr]; omega
      simp [h2, h3, h4]
    have h3 : inr 0 p.le s = true := inr_t (by omega) (by omega)
    simp only [h2, h3, h4, Bool.not_true, Bool.and_self, Bool.false_eq_true, if_false, if_true] <;> rfl
theorem s_ref24_Resolution : SoundFun Try.prog 15 G_ref24_Resolution := by
  refine fun_ok (tab := t_ref24_Resolution) (ann := annOf []) (lt := l_ref24_Resolution) (tab_cons s_ref24_Component (tab_cons s_ref24_exists (tab_cons s_ref24_resolution tab_nil))) (by kernel_rfl) (fn := Try.f15) (by kernel_rfl) (by decide) (c := bodyOf Try.f15) (by kernel_rfl) (fun m b hb => absurd hb (by show b ∉ loopsOf (bodyOf Try.f15); rw [show loopsOf (bodyOf Try.f15) = [] from by kernel_rfl]; exact List.not_mem_nil)) ?_
  intro args lent o y0'
  unfold G_ref24_Resolution at y0'
  obtain ⟨q', args, rfl, y1'⟩ := pA_s y0'
  obtain ⟨h, rfl, y2'⟩ := rdHd_s y1'
  obtain ⟨q', args, rfl, y3'⟩ := pA_s y2'
  obtain ⟨p, rfl, y4'⟩ := rdPm_s y3'
  obtain ⟨c', args, rfl, y5'⟩ := pO_s y4'
  obtain ⟨t, rfl, y6'⟩ := kI_s y5'
  obtain ⟨c', args, rfl, y7'⟩ := pO_s y6'
  obtain ⟨k, rfl, y8'⟩ := kI_s y7'
  obtain ⟨c', args, rfl, y9'⟩ := pO_s y8'
  obtain ⟨s, rfl, y10'⟩ := kI_s y9'
  obtain ⟨rfl, y11'⟩ := pE_s y10'
  obtain ⟨rfl, y12'⟩ := nE_s y11'
  have yy' := y12'
  unfold H_ref24_Resolution at yy'
  obtain ⟨hok, rfl⟩ := Prod.mk.inj (Option.some.inj yy')
  exact ⟨20, q_ref24_Resolution _ _ _ _ _ hok⟩
end Go.Rx.Ch24

