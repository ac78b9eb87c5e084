/- The summaries of these functions are sound. -/
import Derived.Test.YtnhjhjkhfdlapaaRE0
import Derived.Test.YtnhjhjkhfdlapaaRS0
import Derived.Test.YtnhjhjkhfdlapaaRE1
set_option linter.unnecessarySimpa false
set_option linter.unusedVariables false
set_option linter.unusedSimpArgs false
set_option linter.unusedVariables false
set_option linter.unusedSimpArgs false
set_option maxRecDepth 100000
set_option maxHeartbeats 4000000
open Go Go.Rx Go.Proofs
namespace Go.Rx.Ch24
theorem header_ok {h : Hd} (e : header h = 0) : valid h.a h.b h.c h.d = true ∧ empty h.a h.b h.c h.d = false ∧ inr 1 4096 h.tw = true ∧ inr 1 4096 h.th = true ∧ inr 1 4 h.cs.length = true ∧ h.cs.all (okC h) = true ∧ tiles h ≤ 1024 ∧ h.cs.all (smC h) = true := by
  unfold header at e
  split at e
  · cases e
  · rename_i h1
    split at e
    · cases e
    · rename_i h2
      simp only [Bool.or_eq_true, Bool.not_eq_true', decide_eq_true_eq, not_or, Bool.not_eq_false, Bool.not_eq_true] at h1 h2
      exact ⟨h1.1.1.1.1.1, h1.1.1.1.1.2, h1.1.1.1.2, h1.1.1.2, h1.1.2, h1.2, by omega, h2.2⟩
theorem valid_inter {a b c d : Int} (h : valid a b c d = true) (e f g o : Int) : validR (inter a b c d e f g o) = true := by
  have hb := valid_b h
  unfold inter
  split
  · rfl
  · rename_i he
    simp only [empty, Bool.or_eq_true, decide_eq_true_eq, not_or] at he
    show valid (max a e) (max b f) (min c g) (min d o) = true
    exact valid_i (by omega)
theorem valid_rowL {a b c d : Int} (hv : valid a b c d = true) (w h j : Int) : ∀ n i, (rowL a b c d w h j n i).all validR = true
  | 0, i => rfl
  | n + 1, i => by
    simp only [rowL, List.all_cons, valid_rowL hv w h j n, Bool.and_true]
    exact valid_inter hv ..
theorem valid_gridL {a b c d : Int} (hv : valid a b c d = true) (w h l : Int) (m : Nat) : ∀ n j, (gridL a b c d w h l m n j).all validR = true
  | 0, j => rfl
  | n + 1, j => by
    simp only [gridL, List.all_append, valid_rowL hv, valid_gridL hv w h l m n, Bool.and_true]
theorem valid_tilesL (a b c d w h : Int) : (tilesL a b c d w h).all validR = true := by
  unfold tilesL
  split
  · rfl
  · rename_i h1
    split
    · rfl
    · simp only [Bool.or_eq_true, Bool.not_eq_true', decide_eq_true_eq, not_or, Bool.not_eq_false] at h1
      exact valid_gridL h1.1.1.1 ..
theorem gridL_len (a b c d w h l : Int) (m : Nat) : ∀ n j, (gridL a b c d w h l m n j).length = n * m
  | 0, j => by simp [gridL]
  | n + 1, j => by simp only [gridL, List.length_append, rowL_len, gridL_len a b c d w h l m n, Nat.add_mul]; omega
theorem tilesL_len (a b c d w h : Int) : (tilesL a b c d w h).length ≤ 65536 := by
  unfold tilesL
  split
  · simp
  · rename_i h1
    split
    · simp
    · rename_i h2
      simp only [Bool.or_eq_true, Bool.not_eq_true', decide_eq_true_eq, not_or, Bool.not_eq_false] at h1
      have hb := valid_b h1.1.1.1
      have s1 := span_b hb.1 hb.2.1 hb.2.2.1 (show 1 ≤ w by omega)
      have s2 := span_b hb.2.2.2.1 hb.2.2.2.2.1 hb.2.2.2.2.2 (show 1 ≤ h by omega)
      rw [gridL_len]
      have e : (((cdiv d h - fdiv b h).toNat * (cdiv c w - fdiv a w).toNat : Nat) : Int) = (cdiv c w - fdiv a w) * (cdiv d h - fdiv b h) := by
        rw [Int.natCast_mul, Int.toNat_of_nonneg (by omega), Int.toNat_of_nonneg (by omega), Int.mul_comm]
      omega
theorem tilesL_sm (a b c d w h : Int) : small (tilesL a b c d w h).length = true := by
  have := tilesL_len a b c d w h
  simp only [small, decide_eq_true_eq]; omega
theorem maxF_le (f : Nat → Int) (M : Int) : ∀ k s, maxF f k s ≤ M ↔ s ≤ M ∧ ∀ j, j < k → f j ≤ M
  | 0, s => by simp [maxF]
  | k + 1, s => by
    have := maxF_le f M k s
    simp only [maxF]
    constructor
    · intro h
      have h1 := this.1 (by omega)
      refine ⟨h1.1, fun j hj => ?_⟩
      rcases Nat.lt_or_ge j k with h2 | h2
      · exact h1.2 j h2
      · rw [show j = k by omega]; omega
    · intro h
      have h1 := this.2 ⟨h.1, fun j hj => h.2 j (by omega)⟩
      have h2 := h.2 k (by omega)
      omega
theorem blksN_le (t : Rc) (p : Pm) (l : List (Int × Bool × Int × Int)) : ∀ k, blksN t p l k ≤ 65536 ↔ ∀ i, i < k → ∀ q, q < (3 * p.le + 1).toNat → bandB (redT t (gC l i)) p q ≤ 65536
  | 0 => by simp [blksN]
  | k + 1 => by
    simp only [blksN, compB]
    rw [maxF_le, blksN_le t p l k]
    constructor
    · intro h i hi q hq
      rcases Nat.lt_or_ge i k with h2 | h2
      · exact h.1 i h2 q hq
      · rw [show i = k by omega]; exact h.2 q hq
    · intro h
      exact ⟨fun i hi => h i (by omega), h k (by omega)⟩
theorem compOK_iff {p : Pm} (hn : nums p = true) (r : Rc) : compOK r p = true ↔ ∀ q : Nat, q < (3 * p.le + 1).toNat → bandB r p q ≤ 65536 := by
  have nb := nums_b hn
  simp only [compOK, List.all_eq_true, List.mem_range, resOK, decide_eq_true_eq]
  constructor
  · intro h q hq
    have h1 := h ((q + 2) / 3) (by omega) q (by
      have e1 : inr 0 5 p.le = true := inr_t nb.1.1 nb.1.2
      have e2 : inr 0 p.le (((q + 2) / 3 : Nat) : Int) = true := inr_t (by omega) (by omega)
      simp only [idxs, e1, e2, Bool.and_self, if_true]
      split
      · simp; omega
      · simp; omega)
    have e3 : (((q + 2) / 3 : Nat) : Int) = ((q : Int) + 2) / 3 := by omega
    rw [e3] at h1
    exact h1
  · intro h k hk b hb
    have e1 : inr 0 5 p.le = true := inr_t nb.1.1 nb.1.2
    have e2 : inr 0 p.le (k : Int) = true := inr_t (by omega) (by omega)
    simp only [idxs, e1, e2, Bool.and_self, if_true] at hb
    have hb' : 0 ≤ b ∧ b ≤ 3 * p.le ∧ (b + 2) / 3 = k := by
      split at hb
      · simp at hb; omega
      · simp at hb; omega
    have h1 := h b.toNat (by omega)
    simp only [bandB, Int.toNat_of_nonneg hb'.1, hb'.2.2] at h1
    exact h1
theorem fits_eq {p : Pm} (hn : nums p = true) (r : Rc) (l : List (Int × Bool × Int × Int)) : fits r p l = fitsB r p l := by
  have : compsOK r p l = decide (blks r p l ≤ 65536) := by
    rw [Bool.eq_iff_iff, decide_eq_true_eq]
    unfold blks
    rw [blksN_le]
    simp only [compsOK, List.all_eq_true, List.mem_range]
    constructor
    · intro h i hi
      exact (compOK_iff hn _).1 (h i hi)
    · intro h i hi
      exact (compOK_iff hn _).2 (h i hi)
  simp only [fits, fitsB, this, Bool.and_comm]
theorem check_eq (h : Hd) (p : Pm) : checkA h p = checkB h p := by
  unfold checkA checkB
  split
  · rfl
  · split
    · rfl
    · cases hn : nums p
      · rfl
      · cases colors h p
        · rfl
        · have e : (fun r => fits r p h.cs) = fun r => fitsB r p h.cs := funext fun r => fits_eq hn r _
          have e2 : (tilesL h.a h.b h.c h.d h.tw h.th).all (fun r => fits r p h.cs) = (tilesL h.a h.b h.c h.d h.tw h.th).all (fun r => fitsB r p h.cs) := congrArg _ e
          simp only [Bool.and_self, Bool.not_true, Bool.false_eq_true, if_false]
          rw [e2]
theorem r_params_Check_0 : RoundOk Try.prog t_params_Check (annOf []) l_params_Check Out 20 0 54 [2, 3, 42, 43, 44] (kxOf [] [4]) (loopOf Try.f25 0) T_params_Check_0 := by
  intro vs bl Kc r h
  unfold T_params_Check_0 at h
  obtain ⟨t, y0', h'⟩ := getD_run h
  obtain ⟨c', vs, rfl, y1'⟩ := pO_s y0'
  obtain ⟨rfl, y2'⟩ := kP_s y1'
  obtain ⟨c', vs, rfl, y3'⟩ := pO_s y2'
  obtain ⟨rfl, y4'⟩ := kP_s y3'
  obtain ⟨c', vs, rfl, y5'⟩ := pO_s y4'
  obtain ⟨rfl, y6'⟩ := kR_s y5'
  obtain ⟨c', vs, rfl, y7'⟩ := pO_s y6'
  obtain ⟨n, rfl, y8'⟩ := kI_s y7'
  obtain ⟨c', vs, rfl, y9'⟩ := pO_s y8'
  obtain ⟨i, rfl, y10'⟩ := kI_s y9'
  obtain ⟨rfl, y11'⟩ := pE_s y10'
  obtain ⟨q', bl, rfl, y12'⟩ := bB_s y11'
  obtain ⟨h, rfl, y13'⟩ := rdHd_s y12'
  obtain ⟨q', bl, rfl, y14'⟩ := bB_s y13'
  obtain ⟨p, rfl, y15'⟩ := rdPm_s y14'
  obtain ⟨t, bl, rfl, y16'⟩ := bAR_s y15'
  obtain ⟨rfl, y17'⟩ := bE_s y16'
  have yy' := y17'
  cases yy'
  exact (b_params_Check_0 ..).trans ((congrArg (LT.runc · Kc) (tu_params_Check_0 ..)).trans h')
theorem o_params_Check : loopsOf (bodyOf Try.f25) = [loopOf Try.f25 0] := by kernel_rfl
theorem zz_params_Check_0 (h : Hd) (p : Pm) (t : List Rc) (hsm : small (t.length) = true) (hc : (nums p && t.all validR && decide (h.cs.length ≤ 4)) = true) : ∃ k, ∀ (K : Ex → List V → List (Option Blk) → Option Out) r, (c_params_Check_0 h p t).run K = some r → (iter T_params_Check_0 k [.one (.ptr 0 0), .one (.ptr 1 0), .one (.row 2), .one (.int .i64 (t.length : Int)), .one (.int .i64 0)] [some (.box (hdC h)), some (.box (pmC p)), some (.arr 23 (.pair (.int .i64) (.pair (.int .i64) (.pair (.int .i64) (.int .i64)))) t)]).run K = some r := by
  refine z_list (st := fun i => ([.one (.ptr 0 0), .one (.ptr 1 0), .one (.row 2), .one (.int .i64 (t.length : Int)), .one (.int .i64 ((i : Nat) : Int))], [some (.box (hdC h)), some (.box (pmC p)), some (.arr 23 (.pair (.int .i64) (.pair (.int .i64) (.pair (.int .i64) (.int .i64)))) t)])) t (0, 0, 0, 0) (fun r => fits r p h.cs) _ _ (fun i hi F K => ?_) (fun F K => ?_)
  · have hi' : (i : Int) < (t.length : Int) := by omega
    have hc' := hc
    simp only [Bool.and_eq_true, decide_eq_true_eq] at hc'
    have hv : validR (t.getD i (0, 0, 0, 0)) = true := by
      rw [List.getD_eq_getElem?_getD, List.getElem?_eq_getElem hi]
      exact List.all_eq_true.1 hc'.1.2 _ (List.getElem_mem hi)
    unfold validR at hv
    have hsc : small h.cs.length = true := by simp only [small, decide_eq_true_eq]; omega
    simp only [tu_params_Check_0, U_params_Check_0, LT.next, LT.run, ite2_dec, ite2_bool, wrap_next hi hsm, Int.toNat_natCast, hi', Int.natCast_nonneg, and_self, if_true, gI, gP, gC, gR]
    have eT : ∀ x : Rc, (x.1, x.2.1, x.2.2.1, x.2.2.2) = x := fun _ => rfl
    simp only [eT, hv, hc', hi, hsc, hdC, pmC, decide_true, Bool.and_self, if_true]
    by_cases q : fits (t.getD i (0, 0, 0, 0)) p h.cs = true
    · simp only [q, Bool.not_true, Bool.false_eq_true, if_false, if_true]
    · simp only [Bool.not_eq_true] at q
      simp only [q, Bool.not_false, Bool.false_eq_true, if_false, if_true]
  · simp only [tu_params_Check_0, U_params_Check_0, LT.next, LT.run, ite2_dec, Int.lt_irrefl, if_false]
    try rfl
theorem z_params_Check_0 : ∀ vs bl t, S_params_Check_0 vs bl = some (true, t) → ∃ n, ∀ (K : Ex → List V → List (Option Blk) → Option Out) r, t.run K = some r → (iter T_params_Check_0 n vs bl).run K = some r := by
  intro vs bl t y0'
  unfold S_params_Check_0 at y0'
  obtain ⟨c', vs, rfl, y1'⟩ := pO_s y0'
  obtain ⟨rfl, y2'⟩ := kP_s y1'
  obtain ⟨c', vs, rfl, y3'⟩ := pO_s y2'
  obtain ⟨rfl, y4'⟩ := kP_s y3'
  obtain ⟨c', vs, rfl, y5'⟩ := pO_s y4'
  obtain ⟨rfl, y6'⟩ := kR_s y5'
  obtain ⟨c', vs, rfl, y7'⟩ := pO_s y6'
  obtain ⟨n, rfl, y8'⟩ := kI_s y7'
  obtain ⟨c', vs, rfl, y9'⟩ := pO_s y8'
  obtain ⟨i, rfl, y10'⟩ := kI_s y9'
  obtain ⟨rfl, y11'⟩ := pE_s y10'
  obtain ⟨q', bl, rfl, y12'⟩ := bB_s y11'
  obtain ⟨h, rfl, y13'⟩ := rdHd_s y12'
  obtain ⟨q', bl, rfl, y14'⟩ := bB_s y13'
  obtain ⟨p, rfl, y15'⟩ := rdPm_s y14'
  obtain ⟨t, bl, rfl, y16'⟩ := bAR_s y15'
  obtain ⟨rfl, y17'⟩ := bE_s y16'
  have yy' := y17'
  obtain ⟨hk, rfl⟩ := Prod.mk.inj (Option.some.inj yy')
  unfold k_params_Check_0 at hk
  simp only [Bool.and_eq_true, decide_eq_true_eq, and_assoc] at hk
  obtain ⟨rfl, rfl, hsm, hc⟩ := hk
  exact zz_params_Check_0 _ _ _ hsm (by first | exact hc | simpa using hc | simpa only [Bool.and_eq_true, decide_eq_true_eq, and_assoc] using hc)
theorem q_params_Check (h : Hd) (p : Pm) (hok : (small h.cs.length && (small p.pr.length && small p.st.length)) = true) : funR Try.prog t_params_Check (annOf []) l_params_Check 20 Try.f25 [.agg (hdC h), .agg (pmC p)] [] = some ⟨.one (.int .i64 (checkA h p)), [], []⟩ := by
    refine (e_params_Check ..).trans ?_
    simp only [Bool.and_eq_true] at hok
    simp only [ite2_bool, within, List.all_cons, List.all_nil, Bool.and_true, hok, Bool.and_self, if_true]
    by_cases hh : header h = 0
    rotate_left
    · simp [checkA, hh]
    have hb := header_ok hh
    have h1 := inr_b hb.2.2.1
    have h2 := inr_b hb.2.2.2.1
    have h3 := inr_b hb.2.2.2.2.1
    have h4 := tilesL_sm h.a h.b h.c h.d h.tw h.th
    have h5 := valid_tilesL h.a h.b h.c h.d h.tw h.th
    have h6 : h.cs.length ≤ 4 := by omega
    by_cases c1 : inr 1 3 p.ke = true
    rotate_left
    · simp [checkA, hh, kinds, c1]
    by_cases c2 : inr 0 2 p.co = true
    rotate_left
    · simp [checkA, hh, kinds, c1, c2]
    by_cases c3 : inr 1 5 p.od = true
    rotate_left
    · simp [checkA, hh, kinds, c1, c2, c3]
    by_cases c4 : nums p = true
    rotate_left
    · simp [checkA, hh, kinds, c1, c2, c3, c4]
    by_cases c5 : colors h p = true
    rotate_left
    · simp [checkA, hh, kinds, c1, c2, c3, c4, c5]
    have hk : k_params_Check_0 h p (tilesL h.a h.b h.c h.d h.tw h.th) ((tilesL h.a h.b h.c h.d h.tw h.th).length : Int) 0 = true := by simp only [k_params_Check_0, c4, h4, h5, h6, decide_true, Bool.and_self]
    simp only [checkA, hh, kinds, c1, c2, c3, c4, c5, hk, p_params_Check_0]
    by_cases c6 : (tilesL h.a h.b h.c h.d h.tw h.th).all (fun r => fits r p h.cs) = true <;> simp [h1, h2, c6]
theorem s_params_Check : SoundFun Try.prog 25 G_params_Check := by
  refine fun_ok (tab := t_params_Check) (ann := annOf []) (lt := l_params_Check) (tab_cons s_params_Header (tab_cons s_rect_Cells (tab_cons s_params_within (tab_cons s_params_numbers (tab_cons s_tileFits tab_nil))))) (by kernel_rfl) (fn := Try.f25) (by kernel_rfl) (by decide) (c := bodyOf Try.f25) (by kernel_rfl) (by
    intro m b hb
    have hb' : b ∈ loopsOf (bodyOf Try.f25) := hb
    rw [o_params_Check] at hb'
    simp only [List.mem_cons, List.not_mem_nil, or_false] at hb'
    rcases hb' with rfl
    · exact loop_ok (key := 9) (by kernel_rfl) rfl r_params_Check_0 z_params_Check_0 m
    ) ?_
  intro args lent o y0'
  unfold G_params_Check at y0'
  obtain ⟨q', args, rfl, y1'⟩ := pA_s y0'
  obtain ⟨h, rfl, y2'⟩ := rdHd_s y1'
  obtain ⟨q', args, rfl, y3'⟩ := pA_s y2'
  obtain ⟨p, rfl, y4'⟩ := rdPm_s y3'
  obtain ⟨rfl, y5'⟩ := pE_s y4'
  obtain ⟨rfl, y6'⟩ := nE_s y5'
  have yy' := y6'
  unfold H_params_Check at yy'
  obtain ⟨hok, rfl⟩ := Prod.mk.inj (Option.some.inj yy')
  exact ⟨20, q_params_Check _ _ hok⟩
end Go.Rx.Ch24

set_option linter.unusedVariables false
set_option linter.unusedSimpArgs false
set_option maxRecDepth 100000
set_option maxHeartbeats 4000000
open Go Go.Rx Go.Proofs
namespace Go.Rx.Ch24
theorem sh_pw {k : Int} (h0 : 0 ≤ k) (h1 : k ≤ 12) : (2 : Int) ^ min (Int.toNat (IntKind.wrap .u64 k)) 64 = pw k := by
  rw [wrapu_in h0 (by omega)]
  unfold pw
  congr 1
  omega
theorem sp_b {t k : Int} (h0 : 0 ≤ t) (h1 : t ≤ 4096) (hk : 1 ≤ k) : -1 ≤ (t - 1) / k ∧ (t - 1) / k < 4096 := by
  refine ⟨Int.le_ediv_of_mul_le (by omega) (by omega), Int.ediv_lt_of_lt_mul (by omega) ?_⟩
  have : 4096 * 1 ≤ 4096 * k := Int.mul_le_mul_of_nonneg_left hk (by omega)
  omega
theorem spN_e {a c x : Int} (h0 : 0 ≤ a) (hac : a < c) (h1 : c ≤ 4096) (hx : x ≤ 12) : spN a c x = prN a c x := by
  have hp := pw_b hx
  have f := fdiv_b h0 (show a ≤ 4096 by omega) hp.1
  have g := cdiv_e (show 0 ≤ c by omega) h1 hp.1
  unfold spN prN
  rw [f.1, g]
  have e1 := Int.emod_add_mul_ediv c (pw x)
  have e2 := Int.emod_add_mul_ediv (c - 1) (pw x)
  have e3 := Int.emod_nonneg c (show pw x ≠ 0 by omega)
  have e4 := Int.emod_lt_of_pos c (show 0 < pw x by omega)
  have e5 := Int.emod_nonneg (c - 1) (show pw x ≠ 0 by omega)
  have e6 := Int.emod_lt_of_pos (c - 1) (show 0 < pw x by omega)
  have key : ∀ q r q' r' k : Int, 1 ≤ k → 0 ≤ r → r < k → 0 ≤ r' → r' < k → r + k * q = r' + k * q' + 1 → q = q' ∧ r > 0 ∨ q = q' + 1 ∧ r = 0 := by
    intro q r q' r' k hk h2 h3 h4 h5 h6
    have h7 : k * (q - q') = r' + 1 - r := by rw [Int.mul_sub]; omega
    have h8 : q - q' < 2 := by
      rcases Int.lt_or_le (q - q') 2 with h | h
      · exact h
      · have : k * 2 ≤ k * (q - q') := Int.mul_le_mul_of_nonneg_left h (by omega)
        omega
    have h9 : 0 ≤ q - q' := by
      rcases Int.lt_or_le (q - q') 0 with h | h
      · have : k * (q - q') ≤ k * (-1) := Int.mul_le_mul_of_nonneg_left (by omega) (by omega)
        omega
      · exact h
    have h10 : q - q' = 0 ∨ q - q' = 1 := by omega
    rcases h10 with h | h
    · rw [h] at h7; omega
    · rw [h] at h7; omega
  rcases key _ _ _ _ (pw x) hp.1 e3 e4 e5 e6 (show c % pw x + pw x * (c / pw x) = (c - 1) % pw x + pw x * ((c - 1) / pw x) + 1 by omega) with ⟨h2, h3⟩ | ⟨h2, h3⟩
  · rw [if_pos h3]; omega
  · rw [if_neg (by omega)]; omega
theorem prN_b {a c x : Int} (h0 : 0 ≤ a) (h : a ≤ c) (h1 : c ≤ 4096) (hx : x ≤ 12) : 0 ≤ prN a c x ∧ prN a c x ≤ 4096 := by
  have s := span_b h0 h h1 (pw_b hx).1
  unfold prN
  omega
theorem q_rect_Has (a b c d x y : Int) (hok : true = true) : funR Try.prog t_rect_Has (annOf []) l_rect_Has 20 Try.f27 [.agg [.int .i64 a, .int .i64 b, .int .i64 c, .int .i64 d], .agg [.int .i64 x, .int .i64 y]] [] = some ⟨.one (.bool (has a b c d x y)), [], []⟩ := by
    refine (e_rect_Has ..).trans ?_
    simp only [ite2_dec, ite2_bool, mx_eq, mn_eq, has]
    (repeat' split) <;> (try simp_all) <;> (try omega) <;> (try (rw [Bool.eq_iff_iff]; simp; omega))
theorem s_rect_Has : SoundFun Try.prog 27 G_rect_Has := by
  refine fun_ok (tab := t_rect_Has) (ann := annOf []) (lt := l_rect_Has) tab_nil (by kernel_rfl) (fn := Try.f27) (by kernel_rfl) (by decide) (c := bodyOf Try.f27) (by kernel_rfl) (fun m b hb => absurd hb (by show b ∉ loopsOf (bodyOf Try.f27); rw [show loopsOf (bodyOf Try.f27) = [] from by kernel_rfl]; exact List.not_mem_nil)) ?_
  intro args lent o y0'
  unfold G_rect_Has at y0'
  obtain ⟨q', args, rfl, y1'⟩ := pA_s y0'
  obtain ⟨c', q', rfl, y2'⟩ := tC_s y1'
  obtain ⟨a, rfl, y3'⟩ := kI_s y2'
  obtain ⟨c', q', rfl, y4'⟩ := tC_s y3'
  obtain ⟨b, rfl, y5'⟩ := kI_s y4'
  obtain ⟨c', q', rfl, y6'⟩ := tC_s y5'
  obtain ⟨c, rfl, y7'⟩ := kI_s y6'
  obtain ⟨c', q', rfl, y8'⟩ := tC_s y7'
  obtain ⟨d, rfl, y9'⟩ := kI_s y8'
  obtain ⟨rfl, y10'⟩ := tE_s y9'
  obtain ⟨q', args, rfl, y11'⟩ := pA_s y10'
  obtain ⟨c', q', rfl, y12'⟩ := tC_s y11'
  obtain ⟨x, rfl, y13'⟩ := kI_s y12'
  obtain ⟨c', q', rfl, y14'⟩ := tC_s y13'
  obtain ⟨y, rfl, y15'⟩ := kI_s y14'
  obtain ⟨rfl, y16'⟩ := tE_s y15'
  obtain ⟨rfl, y17'⟩ := pE_s y16'
  obtain ⟨rfl, y18'⟩ := nE_s y17'
  have yy' := y18'
  unfold H_rect_Has at yy'
  obtain ⟨hok, rfl⟩ := Prod.mk.inj (Option.some.inj yy')
  exact ⟨20, q_rect_Has _ _ _ _ _ _ hok⟩
theorem q_pa_exponents (a b m : Int) (hok : true = true) : funR Try.prog t_pa_exponents (annOf []) l_pa_exponents 20 Try.f86 [.one (.int .i64 a), .one (.int .i64 b), .one (.int .i64 m)] [] = some ⟨.one (.bool (inr 0 m a && inr 0 m b)), [], []⟩ := by
    refine (e_pa_exponents ..).trans ?_
    simp only [ite2_dec, ite2_bool, mx_eq, mn_eq, inr]
    (repeat' split) <;> (try simp_all) <;> (try omega) <;> (try (rw [Bool.eq_iff_iff]; simp; omega))
theorem s_pa_exponents : SoundFun Try.prog 86 G_pa_exponents := by
  refine fun_ok (tab := t_pa_exponents) (ann := annOf []) (lt := l_pa_exponents) tab_nil (by kernel_rfl) (fn := Try.f86) (by kernel_rfl) (by decide) (c := bodyOf Try.f86) (by kernel_rfl) (fun m b hb => absurd hb (by show b ∉ loopsOf (bodyOf Try.f86); rw [show loopsOf (bodyOf Try.f86) = [] from by kernel_rfl]; exact List.not_mem_nil)) ?_
  intro args lent o y0'
  unfold G_pa_exponents at y0'
  obtain ⟨c', args, rfl, y1'⟩ := pO_s y0'
  obtain ⟨a, rfl, y2'⟩ := kI_s y1'
  obtain ⟨c', args, rfl, y3'⟩ := pO_s y2'
  obtain ⟨b, rfl, y4'⟩ := kI_s y3'
  obtain ⟨c', args, rfl, y5'⟩ := pO_s y4'
  obtain ⟨m, rfl, y6'⟩ := kI_s y5'
  obtain ⟨rfl, y7'⟩ := pE_s y6'
  obtain ⟨rfl, y8'⟩ := nE_s y7'
  have yy' := y8'
  unfold H_pa_exponents at yy'
  obtain ⟨hok, rfl⟩ := Prod.mk.inj (Option.some.inj yy')
  exact ⟨20, q_pa_exponents _ _ _ hok⟩
theorem q_pa_span (f t e : Int) (hok : (inr 0 4096 f && inr 0 4096 t && inr 0 12 e) = true) : funR Try.prog t_pa_span (annOf []) l_pa_span 20 Try.f87 [.one (.int .i64 f), .one (.int .i64 t), .one (.int .i64 e)] [] = some ⟨.tup [(false, [.int .i64 (f / pw e)]), (false, [.int .i64 (spN f t e)])], [], []⟩ := by
    refine (e_pa_span ..).trans ?_
    simp only [Bool.and_eq_true] at hok
    have h1 := inr_b hok.1.1
    have h2 := inr_b hok.1.2
    have h3 := inr_b hok.2
    have hp := pw_b h3.2
    have b1 := sp_b h2.1 h2.2 hp.1
    have b2 := fdiv_b h1.1 h1.2 hp.1
    rw [sh_pw h3.1 h3.2, Int.fdiv_eq_ediv_of_nonneg _ (by omega), Int.fdiv_eq_ediv_of_nonneg _ (by omega), wrapu_in h3.1 (by omega), wrap_in (n := t - 1) (by omega) (by omega), wrap_in (n := (t - 1) / pw e - f / pw e) (by omega) (by omega), wrap_in (n := (t - 1) / pw e - f / pw e + 1) (by omega) (by omega)]
    simp [ite2_bool, h3.1, spN]
theorem s_pa_span : SoundFun Try.prog 87 G_pa_span := by
  refine fun_ok (tab := t_pa_span) (ann := annOf []) (lt := l_pa_span) tab_nil (by kernel_rfl) (fn := Try.f87) (by kernel_rfl) (by decide) (c := bodyOf Try.f87) (by kernel_rfl) (fun m b hb => absurd hb (by show b ∉ loopsOf (bodyOf Try.f87); rw [show loopsOf (bodyOf Try.f87) = [] from by kernel_rfl]; exact List.not_mem_nil)) ?_
  intro args lent o y0'
  unfold G_pa_span at y0'
  obtain ⟨c', args, rfl, y1'⟩ := pO_s y0'
  obtain ⟨f, rfl, y2'⟩ := kI_s y1'
  obtain ⟨c', args, rfl, y3'⟩ := pO_s y2'
  obtain ⟨t, rfl, y4'⟩ := kI_s y3'
  obtain ⟨c', args, rfl, y5'⟩ := pO_s y4'
  obtain ⟨e, rfl, y6'⟩ := kI_s y5'
  obtain ⟨rfl, y7'⟩ := pE_s y6'
  obtain ⟨rfl, y8'⟩ := nE_s y7'
  have yy' := y8'
  unfold H_pa_span at yy'
  obtain ⟨hok, rfl⟩ := Prod.mk.inj (Option.some.inj yy')
  exact ⟨20, q_pa_span _ _ _ hok⟩
theorem q_pa_cell (c r a b : Int) (hok : (inr 0 4096 c && inr 0 4096 r && inr 0 12 a && inr 0 12 b) = true) : funR Try.prog t_pa_cell (annOf []) l_pa_cell 20 Try.f93 [.one (.int .i64 c), .one (.int .i64 r), .one (.int .i64 a), .one (.int .i64 b)] [] = some ⟨.agg [.int .i64 (((c * pw a, r * pw b, (c + 1) * pw a, (r + 1) * pw b)).1), .int .i64 (((c * pw a, r * pw b, (c + 1) * pw a, (r + 1) * pw b)).2.1), .int .i64 (((c * pw a, r * pw b, (c + 1) * pw a, (r + 1) * pw b)).2.2.1), .int .i64 (((c * pw a, r * pw b, (c + 1) * pw a, (r + 1) * pw b)).2.2.2)], [], []⟩ := by
    refine (e_pa_cell ..).trans ?_
    simp only [Bool.and_eq_true] at hok
    have h1 := inr_b hok.1.1.1
    have h2 := inr_b hok.1.1.2
    have h3 := inr_b hok.1.2
    have h4 := inr_b hok.2
    have pa := pw_b h3.2
    have pb := pw_b h4.2
    have m1 := prod_b h1.1 h1.2 (show 0 ≤ pw a by omega) pa.2
    have m2 := prod_b h2.1 h2.2 (show 0 ≤ pw b by omega) pb.2
    have m3 := prod_b (show 0 ≤ c + 1 by omega) (show c + 1 ≤ 4097 by omega) (show 0 ≤ pw a by omega) pa.2
    have m4 := prod_b (show 0 ≤ r + 1 by omega) (show r + 1 ≤ 4097 by omega) (show 0 ≤ pw b by omega) pb.2
    rw [sh_pw h3.1 h3.2, sh_pw h4.1 h4.2]
    simp (disch := omega) only [wrap_in, wrapu_in]
    simp [ite2_bool, h3.1, h4.1]
theorem s_pa_cell : SoundFun Try.prog 93 G_pa_cell := by
  refine fun_ok (tab := t_pa_cell) (ann := annOf []) (lt := l_pa_cell) tab_nil (by kernel_rfl) (fn := Try.f93) (by kernel_rfl) (by decide) (c := bodyOf Try.f93) (by kernel_rfl) (fun m b hb => absurd hb (by show b ∉ loopsOf (bodyOf Try.f93); rw [show loopsOf (bodyOf Try.f93) = [] from by kernel_rfl]; exact List.not_mem_nil)) ?_
  intro args lent o y0'
  unfold G_pa_cell at y0'
  obtain ⟨c', args, rfl, y1'⟩ := pO_s y0'
  obtain ⟨c, rfl, y2'⟩ := kI_s y1'
  obtain ⟨c', args, rfl, y3'⟩ := pO_s y2'
  obtain ⟨r, rfl, y4'⟩ := kI_s y3'
  obtain ⟨c', args, rfl, y5'⟩ := pO_s y4'
  obtain ⟨a, rfl, y6'⟩ := kI_s y5'
  obtain ⟨c', args, rfl, y7'⟩ := pO_s y6'
  obtain ⟨b, rfl, y8'⟩ := kI_s y7'
  obtain ⟨rfl, y9'⟩ := pE_s y8'
  obtain ⟨rfl, y10'⟩ := nE_s y9'
  have yy' := y10'
  unfold H_pa_cell at yy'
  obtain ⟨hok, rfl⟩ := Prod.mk.inj (Option.some.inj yy')
  exact ⟨20, q_pa_cell _ _ _ _ hok⟩
theorem q_pa_grid (a b c d x y m : Int) (hok : decide (m ≤ 12) = true) : funR Try.prog t_pa_grid (annOf []) l_pa_grid 20 Try.f70 [.agg [.int .i64 a, .int .i64 b, .int .i64 c, .int .i64 d], .one (.int .i64 x), .one (.int .i64 y), .one (.int .i64 m)] [] = some ⟨.tup [(false, [.int .i64 ((gridS a b c d x y m).1)]), (false, [.int .i64 ((gridS a b c d x y m).2.1)]), (false, [.int .i64 ((gridS a b c d x y m).2.2.1)]), (false, [.int .i64 ((gridS a b c d x y m).2.2.2)])], [], []⟩ := by
    refine (e_pa_grid ..).trans ?_
    simp only [decide_eq_true_eq] at hok
    simp only [ite2_bool, decide_eq_true_eq, gridS]
    cases hv : valid a b c d
    · simp
    cases he : empty a b c d
    rotate_left
    · simp
    cases hm : (inr 0 m x && inr 0 m y)
    · simp
    have hb := valid_b hv
    simp only [Bool.and_eq_true] at hm
    have hx := inr_b hm.1
    have hy := inr_b hm.2
    simp only [empty, Bool.or_eq_false_iff, decide_eq_false_iff_not] at he
    have p1 := prN_b hb.1 hb.2.1 hb.2.2.1 (show x ≤ 12 by omega)
    have p2 := prN_b hb.2.2.2.1 hb.2.2.2.2.1 hb.2.2.2.2.2 (show y ≤ 12 by omega)
    have m1 := prod_b p1.1 p1.2 p2.1 p2.2
    rw [spN_e hb.1 (by omega) hb.2.2.1 (by omega), spN_e hb.2.2.2.1 (by omega) hb.2.2.2.2.2 (by omega), wrap_in (by omega) (by omega), inr_t (a := 0) (b := 4096) (x := a) (by omega) (by omega), inr_t (a := 0) (b := 4096) (x := c) (by omega) (by omega), inr_t (a := 0) (b := 12) (x := x) (by omega) (by omega), inr_t (a := 0) (b := 4096) (x := b) (by omega) (by omega), inr_t (a := 0) (b := 4096) (x := d) (by omega) (by omega), inr_t (a := 0) (b := 12) (x := y) (by omega) (by omega), (fdiv_b hb.1 (show a ≤ 4096 by omega) (pw_b (show x ≤ 12 by omega)).1).1, (fdiv_b hb.2.2.2.1 (show b ≤ 4096 by omega) (pw_b (show y ≤ 12 by omega)).1).1]
    by_cases hq : prN a c x * prN b d y > 65536 <;> simp [hq]
theorem s_pa_grid : SoundFun Try.prog 70 G_pa_grid := by
  refine fun_ok (tab := t_pa_grid) (ann := annOf []) (lt := l_pa_grid) (tab_cons s_rect_Valid (tab_cons s_rect_Empty (tab_cons s_pa_exponents (tab_cons s_pa_span tab_nil)))) (by kernel_rfl) (fn := Try.f70) (by kernel_rfl) (by decide) (c := bodyOf Try.f70) (by kernel_rfl) (fun m b hb => absurd hb (by show b ∉ loopsOf (bodyOf Try.f70); rw [show loopsOf (bodyOf Try.f70) = [] from by kernel_rfl]; exact List.not_mem_nil)) ?_
  intro args lent o y0'
  unfold G_pa_grid at y0'
  obtain ⟨q', args, rfl, y1'⟩ := pA_s y0'
  obtain ⟨c', q', rfl, y2'⟩ := tC_s y1'
  obtain ⟨a, rfl, y3'⟩ := kI_s y2'
  obtain ⟨c', q', rfl, y4'⟩ := tC_s y3'
  obtain ⟨b, rfl, y5'⟩ := kI_s y4'
  obtain ⟨c', q', rfl, y6'⟩ := tC_s y5'
  obtain ⟨c, rfl, y7'⟩ := kI_s y6'
  obtain ⟨c', q', rfl, y8'⟩ := tC_s y7'
  obtain ⟨d, rfl, y9'⟩ := kI_s y8'
  obtain ⟨rfl, y10'⟩ := tE_s y9'
  obtain ⟨c', args, rfl, y11'⟩ := pO_s y10'
  obtain ⟨x, rfl, y12'⟩ := kI_s y11'
  obtain ⟨c', args, rfl, y13'⟩ := pO_s y12'
  obtain ⟨y, rfl, y14'⟩ := kI_s y13'
  obtain ⟨c', args, rfl, y15'⟩ := pO_s y14'
  obtain ⟨m, rfl, y16'⟩ := kI_s y15'
  obtain ⟨rfl, y17'⟩ := pE_s y16'
  obtain ⟨rfl, y18'⟩ := nE_s y17'
  have yy' := y18'
  unfold H_pa_grid at yy'
  obtain ⟨hok, rfl⟩ := Prod.mk.inj (Option.some.inj yy')
  exact ⟨20, q_pa_grid _ _ _ _ _ _ _ hok⟩
theorem q_pa_Precincts (a b c d x y : Int) (hok : true = true) : funR Try.prog t_pa_Precincts (annOf []) l_pa_Precincts 20 Try.f42 [.agg [.int .i64 a, .int .i64 b, .int .i64 c, .int .i64 d], .one (.int .i64 x), .one (.int .i64 y)] [] = some ⟨.tup [(false, [.int .i64 ((precN a b c d x y).1)]), (false, [.int .i64 ((precN a b c d x y).2)])], [], []⟩ := by
    refine (e_pa_Precincts ..).trans ?_
    simp [ite2_bool, precN]
theorem s_pa_Precincts : SoundFun Try.prog 42 G_pa_Precincts := by
  refine fun_ok (tab := t_pa_Precincts) (ann := annOf []) (lt := l_pa_Precincts) (tab_cons s_pa_grid tab_nil) (by kernel_rfl) (fn := Try.f42) (by kernel_rfl) (by decide) (c := bodyOf Try.f42) (by kernel_rfl) (fun m b hb => absurd hb (by show b ∉ loopsOf (bodyOf Try.f42); rw [show loopsOf (bodyOf Try.f42) = [] from by kernel_rfl]; exact List.not_mem_nil)) ?_
  intro args lent o y0'
  unfold G_pa_Precincts at y0'
  obtain ⟨q', args, rfl, y1'⟩ := pA_s y0'
  obtain ⟨c', q', rfl, y2'⟩ := tC_s y1'
  obtain ⟨a, rfl, y3'⟩ := kI_s y2'
  obtain ⟨c', q', rfl, y4'⟩ := tC_s y3'
  obtain ⟨b, rfl, y5'⟩ := kI_s y4'
  obtain ⟨c', q', rfl, y6'⟩ := tC_s y5'
  obtain ⟨c, rfl, y7'⟩ := kI_s y6'
  obtain ⟨c', q', rfl, y8'⟩ := tC_s y7'
  obtain ⟨d, rfl, y9'⟩ := kI_s y8'
  obtain ⟨rfl, y10'⟩ := tE_s y9'
  obtain ⟨c', args, rfl, y11'⟩ := pO_s y10'
  obtain ⟨x, rfl, y12'⟩ := kI_s y11'
  obtain ⟨c', args, rfl, y13'⟩ := pO_s y12'
  obtain ⟨y, rfl, y14'⟩ := kI_s y13'
  obtain ⟨rfl, y15'⟩ := pE_s y14'
  obtain ⟨rfl, y16'⟩ := nE_s y15'
  have yy' := y16'
  unfold H_pa_Precincts at yy'
  obtain ⟨hok, rfl⟩ := Prod.mk.inj (Option.some.inj yy')
  exact ⟨20, q_pa_Precincts _ _ _ _ _ _ hok⟩
theorem grid_k (a b c d x y : Int) : gridS a b c d x y 12 = (0, 0, 0, 0) ∨ (valid a b c d = true ∧ x ≤ 12 ∧ y ≤ 12 ∧ 0 ≤ x ∧ 0 ≤ y ∧ gridS a b c d x y 12 = (fdiv a (pw x), fdiv b (pw y), prN a c x, prN b d y) ∧ prN a c x * prN b d y ≤ 65536) := by
  unfold gridS
  split
  · exact .inl rfl
  · rename_i h
    split
    · exact .inl rfl
    · simp only [Bool.or_eq_true, Bool.not_eq_true', not_or, Bool.not_eq_false, Bool.and_eq_true] at h
      have hx := inr_b h.2.1
      have hy := inr_b h.2.2
      exact .inr ⟨h.1.1, hx.2, hy.2, hx.1, hy.1, rfl, by omega⟩
theorem plc_k {a b c d x y i : Int} (h : plcOk a b c d x y i = true) : valid a b c d = true ∧ x ≤ 12 ∧ y ≤ 12 ∧ 0 ≤ x ∧ 0 ≤ y ∧ gridS a b c d x y 12 = (fdiv a (pw x), fdiv b (pw y), prN a c x, prN b d y) ∧ prN a c x * prN b d y ≤ 65536 ∧ 0 ≤ i ∧ i < prN a c x * prN b d y := by
  simp only [plcOk, Bool.and_eq_true, decide_eq_true_eq] at h
  unfold precN at h
  rcases grid_k a b c d x y with h1 | h1
  · rw [h1] at h; simp at h; omega
  · rw [h1.2.2.2.2.2.1] at h
    exact ⟨h1.1, h1.2.1, h1.2.2.1, h1.2.2.2.1, h1.2.2.2.2.1, h1.2.2.2.2.2.1, h1.2.2.2.2.2.2, h⟩
theorem prec_w (a b c d x y : Int) : 0 ≤ (precN a b c d x y).1 * (precN a b c d x y).2 ∧ (precN a b c d x y).1 * (precN a b c d x y).2 ≤ 65536 := by
  unfold precN
  rcases grid_k a b c d x y with h1 | h1
  · rw [h1]; simp
  · rw [h1.2.2.2.2.2.1]
    have hb := valid_b h1.1
    have p1 := prN_b hb.1 hb.2.1 hb.2.2.1 h1.2.1
    have p2 := prN_b hb.2.2.2.1 hb.2.2.2.2.1 hb.2.2.2.2.2 h1.2.2.1
    exact ⟨Int.mul_nonneg p1.1 p2.1, h1.2.2.2.2.2.2⟩
theorem plc_b {a b c d x y i : Int} (h : plcOk a b c d x y i = true) : 1 ≤ prN a c x ∧ prN a c x ≤ 4096 ∧ 0 ≤ i % prN a c x ∧ i % prN a c x < prN a c x ∧ 0 ≤ i / prN a c x ∧ i / prN a c x ≤ i ∧ i < 65536 ∧ 0 ≤ fdiv a (pw x) ∧ fdiv a (pw x) ≤ 4096 ∧ 0 ≤ fdiv b (pw y) ∧ fdiv b (pw y) ≤ 4096 := by
  have k := plc_k h
  have hb := valid_b k.1
  have p1 := prN_b hb.1 hb.2.1 hb.2.2.1 k.2.1
  have p2 := prN_b hb.2.2.2.1 hb.2.2.2.2.1 hb.2.2.2.2.2 k.2.2.1
  have f1 := fdiv_b hb.1 (show a ≤ 4096 by omega) (pw_b k.2.1).1
  have f2 := fdiv_b hb.2.2.2.1 (show b ≤ 4096 by omega) (pw_b k.2.2.1).1
  have h1 : 1 ≤ prN a c x := by
    rcases Int.lt_or_le (prN a c x) 1 with h' | h'
    · have : prN a c x = 0 := by omega
      have k9 := k.2.2.2.2.2.2.2
      rw [this] at k9; simp at k9; omega
    · exact h'
  exact ⟨h1, p1.2, Int.emod_nonneg _ (by omega), Int.emod_lt_of_pos _ (by omega), Int.ediv_nonneg k.2.2.2.2.2.2.2.1 (by omega), Int.ediv_le_self _ k.2.2.2.2.2.2.2.1, by omega, by omega, by omega, by omega, by omega⟩
theorem q_pa_place (a b c d x y i : Int) (hok : true = true) : funR Try.prog t_pa_place (annOf []) l_pa_place 20 Try.f92 [.agg [.int .i64 a, .int .i64 b, .int .i64 c, .int .i64 d], .one (.int .i64 x), .one (.int .i64 y), .one (.int .i64 i)] [] = some ⟨.tup [(false, [.int .i64 (plcC a b c d x y i)]), (false, [.int .i64 (plcR a b c d x y i)]), (false, [.bool (plcOk a b c d x y i)])], [], []⟩ := by
    refine (e_pa_place ..).trans ?_
    have pw0 := prec_w a b c d x y
    simp only [ite2_bool, decide_eq_true_eq]
    change (if i < 0 then _ else if i ≥ IntKind.wrap .i64 ((precN a b c d x y).1 * (precN a b c d x y).2) then _ else _) = _
    rw [wrap_in (n := (precN a b c d x y).1 * (precN a b c d x y).2) (by omega) (by omega)]
    cases h : plcOk a b c d x y i
    · have h0 : i < 0 ∨ i ≥ (precN a b c d x y).1 * (precN a b c d x y).2 := by simp [plcOk] at h; omega
      simp only [plcC, plcR, h, Bool.false_eq_true, if_false]
      rcases h0 with h0 | h0 <;> simp [h0]
    · have k := plc_k h
      have g := plc_b h
      have e1 : (precN a b c d x y).1 = prN a c x := by unfold precN; rw [k.2.2.2.2.2.1]
      have e2 : (precN a b c d x y).2 = prN b d y := by unfold precN; rw [k.2.2.2.2.2.1]
      simp only [plcC, plcR, h, if_true, e1, e2]
      rw [k.2.2.2.2.2.1]
      rw [Int.tmod_eq_emod_of_nonneg (by omega), Int.tdiv_eq_ediv_of_nonneg (by omega), wrap_in (n := i / prN a c x) (by omega) (by omega), wrap_in (n := fdiv a (pw x) + i % prN a c x) (by omega) (by omega), wrap_in (n := fdiv b (pw y) + i / prN a c x) (by omega) (by omega), if_neg (by omega), if_neg (by omega)]
      have e3 : ¬ prN a c x = 0 := by omega
      simp [e3, k.2.2.2.1, k.2.2.2.2.1]
theorem s_pa_place : SoundFun Try.prog 92 G_pa_place := by
  refine fun_ok (tab := t_pa_place) (ann := annOf []) (lt := l_pa_place) (tab_cons s_pa_grid tab_nil) (by kernel_rfl) (fn := Try.f92) (by kernel_rfl) (by decide) (c := bodyOf Try.f92) (by kernel_rfl) (fun m b hb => absurd hb (by show b ∉ loopsOf (bodyOf Try.f92); rw [show loopsOf (bodyOf Try.f92) = [] from by kernel_rfl]; exact List.not_mem_nil)) ?_
  intro args lent o y0'
  unfold G_pa_place at y0'
  obtain ⟨q', args, rfl, y1'⟩ := pA_s y0'
  obtain ⟨c', q', rfl, y2'⟩ := tC_s y1'
  obtain ⟨a, rfl, y3'⟩ := kI_s y2'
  obtain ⟨c', q', rfl, y4'⟩ := tC_s y3'
  obtain ⟨b, rfl, y5'⟩ := kI_s y4'
  obtain ⟨c', q', rfl, y6'⟩ := tC_s y5'
  obtain ⟨c, rfl, y7'⟩ := kI_s y6'
  obtain ⟨c', q', rfl, y8'⟩ := tC_s y7'
  obtain ⟨d, rfl, y9'⟩ := kI_s y8'
  obtain ⟨rfl, y10'⟩ := tE_s y9'
  obtain ⟨c', args, rfl, y11'⟩ := pO_s y10'
  obtain ⟨x, rfl, y12'⟩ := kI_s y11'
  obtain ⟨c', args, rfl, y13'⟩ := pO_s y12'
  obtain ⟨y, rfl, y14'⟩ := kI_s y13'
  obtain ⟨c', args, rfl, y15'⟩ := pO_s y14'
  obtain ⟨i, rfl, y16'⟩ := kI_s y15'
  obtain ⟨rfl, y17'⟩ := pE_s y16'
  obtain ⟨rfl, y18'⟩ := nE_s y17'
  have yy' := y18'
  unfold H_pa_place at yy'
  obtain ⟨hok, rfl⟩ := Prod.mk.inj (Option.some.inj yy')
  exact ⟨20, q_pa_place _ _ _ _ _ _ _ hok⟩
theorem plc_c {a b c d x y i : Int} (h : plcOk a b c d x y i = true) : 0 ≤ plcC a b c d x y i ∧ plcC a b c d x y i ≤ 4096 ∧ 0 ≤ plcR a b c d x y i ∧ plcR a b c d x y i ≤ 4096 := by
  have k := plc_k h
  have g := plc_b h
  have hb := valid_b k.1
  have s1 := span_b hb.1 hb.2.1 hb.2.2.1 (pw_b k.2.1).1
  have s2 := span_b hb.2.2.2.1 hb.2.2.2.2.1 hb.2.2.2.2.2 (pw_b k.2.2.1).1
  have e1 : (precN a b c d x y).1 = prN a c x := by unfold precN; rw [k.2.2.2.2.2.1]
  have h2 : i / prN a c x < prN b d y := Int.ediv_lt_of_lt_mul (by omega) (by rw [Int.mul_comm]; exact k.2.2.2.2.2.2.2.2)
  simp only [plcC, plcR, h, if_true, e1]
  unfold prN at *
  omega
theorem q_pa_InBand (a b c d e f g q o x y i : Int) (hok : true = true) : funR Try.prog t_pa_InBand (annOf []) l_pa_InBand 20 Try.f76 [.agg [.int .i64 a, .int .i64 b, .int .i64 c, .int .i64 d], .agg [.int .i64 e, .int .i64 f, .int .i64 g, .int .i64 q], .one (.int .i64 o), .one (.int .i64 x), .one (.int .i64 y), .one (.int .i64 i)] [] = some ⟨.tup [(true, [.int .i64 ((inbR a b c d e f g q o x y i).1), .int .i64 ((inbR a b c d e f g q o x y i).2.1), .int .i64 ((inbR a b c d e f g q o x y i).2.2.1), .int .i64 ((inbR a b c d e f g q o x y i).2.2.2)]), (false, [.bool (inbOk a b c d e f g q o x y i)])], [], []⟩ := by
    refine (e_pa_InBand ..).trans ?_
    simp only [ite2_bool, decide_eq_true_eq, inbR, inbOk]
    by_cases h : plcOk a b c d x y i = true
    rotate_left
    · simp [h]
    by_cases hv : valid e f g q = true
    rotate_left
    · simp [h, hv]
    by_cases ho : inr 0 3 o = true
    rotate_left
    · have : o < 0 ∨ o > 3 := by simp [inr] at ho; omega
      rcases this with h0 | h0 <;> simp [h, hv, ho, h0]
    have hob := inr_b ho
    have k := plc_k h
    have gg := plc_c h
    have n1 : ¬ o < 0 := by omega
    have n2 : ¬ o > 3 := by omega
    rw [inr_t gg.1 gg.2.1, inr_t gg.2.2.1 gg.2.2.2, inr_t (a := 0) (b := 12) (x := x) k.2.2.2.1 k.2.1, inr_t (a := 0) (b := 12) (x := y) k.2.2.2.2.1 k.2.2.1]
    by_cases h0 : o = 0
    · have ho3 : inr 0 3 0 = true := by decide
      simp [h, hv, ho3, h0, interR, cellT]
      generalize inter e f g q _ _ _ _ = z
      obtain ⟨z1, z2, z3, z4⟩ := z
      intros
      simp_all
    by_cases hx : x = 0
    · simp [h, hv, ho, h0, hx, n1, n2]
    by_cases hy : y = 0
    · simp [h, hv, ho, h0, hx, hy, n1, n2]
    rw [wrap_in (n := x - 1) (by omega) (by omega), wrap_in (n := y - 1) (by omega) (by omega), inr_t (a := 0) (b := 12) (x := x - 1) (by omega) (by omega), inr_t (a := 0) (b := 12) (x := y - 1) (by omega) (by omega)]
    simp [h, hv, ho, h0, hx, hy, n1, n2, interR, cellT]
    generalize inter e f g q _ _ _ _ = z
    obtain ⟨z1, z2, z3, z4⟩ := z
    intros
    simp_all
theorem s_pa_InBand : SoundFun Try.prog 76 G_pa_InBand := by
  refine fun_ok (tab := t_pa_InBand) (ann := annOf []) (lt := l_pa_InBand) (tab_cons s_rect_Valid (tab_cons s_rect_Intersect (tab_cons s_pa_place (tab_cons s_pa_cell tab_nil)))) (by kernel_rfl) (fn := Try.f76) (by kernel_rfl) (by decide) (c := bodyOf Try.f76) (by kernel_rfl) (fun m b hb => absurd hb (by show b ∉ loopsOf (bodyOf Try.f76); rw [show loopsOf (bodyOf Try.f76) = [] from by kernel_rfl]; exact List.not_mem_nil)) ?_
  intro args lent o y0'
  unfold G_pa_InBand at y0'
  obtain ⟨q', args, rfl, y1'⟩ := pA_s y0'
  obtain ⟨c', q', rfl, y2'⟩ := tC_s y1'
  obtain ⟨a, rfl, y3'⟩ := kI_s y2'
  obtain ⟨c', q', rfl, y4'⟩ := tC_s y3'
  obtain ⟨b, rfl, y5'⟩ := kI_s y4'
  obtain ⟨c', q', rfl, y6'⟩ := tC_s y5'
  obtain ⟨c, rfl, y7'⟩ := kI_s y6'
  obtain ⟨c', q', rfl, y8'⟩ := tC_s y7'
  obtain ⟨d, rfl, y9'⟩ := kI_s y8'
  obtain ⟨rfl, y10'⟩ := tE_s y9'
  obtain ⟨q', args, rfl, y11'⟩ := pA_s y10'
  obtain ⟨c', q', rfl, y12'⟩ := tC_s y11'
  obtain ⟨e, rfl, y13'⟩ := kI_s y12'
  obtain ⟨c', q', rfl, y14'⟩ := tC_s y13'
  obtain ⟨f, rfl, y15'⟩ := kI_s y14'
  obtain ⟨c', q', rfl, y16'⟩ := tC_s y15'
  obtain ⟨g, rfl, y17'⟩ := kI_s y16'
  obtain ⟨c', q', rfl, y18'⟩ := tC_s y17'
  obtain ⟨q, rfl, y19'⟩ := kI_s y18'
  obtain ⟨rfl, y20'⟩ := tE_s y19'
  obtain ⟨c', args, rfl, y21'⟩ := pO_s y20'
  obtain ⟨o, rfl, y22'⟩ := kI_s y21'
  obtain ⟨c', args, rfl, y23'⟩ := pO_s y22'
  obtain ⟨x, rfl, y24'⟩ := kI_s y23'
  obtain ⟨c', args, rfl, y25'⟩ := pO_s y24'
  obtain ⟨y, rfl, y26'⟩ := kI_s y25'
  obtain ⟨c', args, rfl, y27'⟩ := pO_s y26'
  obtain ⟨i, rfl, y28'⟩ := kI_s y27'
  obtain ⟨rfl, y29'⟩ := pE_s y28'
  obtain ⟨rfl, y30'⟩ := nE_s y29'
  have yy' := y30'
  unfold H_pa_InBand at yy'
  obtain ⟨hok, rfl⟩ := Prod.mk.inj (Option.some.inj yy')
  exact ⟨20, q_pa_InBand _ _ _ _ _ _ _ _ _ _ _ _ hok⟩
end Go.Rx.Ch24

set_option linter.unusedVariables false
set_option linter.unusedSimpArgs false
set_option maxRecDepth 100000
set_option maxHeartbeats 4000000
open Go Go.Rx Go.Proofs
namespace Go.Rx.Ch24
theorem blkRow_len (a b c d x y r : Int) : ∀ n k, (blkRow a b c d x y r n k).length = n
  | 0, k => rfl
  | n + 1, k => by simp [blkRow, blkRow_len a b c d x y r n]
theorem grid_m (a b c d x y m : Int) (hm : m ≤ 12) : gridS a b c d x y m = (0, 0, 0, 0) ∨ (valid a b c d = true ∧ x ≤ 12 ∧ y ≤ 12 ∧ gridS a b c d x y m = (fdiv a (pw x), fdiv b (pw y), prN a c x, prN b d y)) := by
  unfold gridS
  split
  · exact .inl rfl
  · rename_i h
    split
    · exact .inl rfl
    · simp only [Bool.or_eq_true, Bool.not_eq_true', not_or, Bool.not_eq_false, Bool.and_eq_true] at h
      have hx := inr_b h.2.1
      have hy := inr_b h.2.2
      exact .inr ⟨h.1.1, by omega, by omega, rfl⟩
theorem r_pa_Blocks_0 : RoundOk Try.prog t_pa_Blocks (annOf []) l_pa_Blocks Out 20 0 49 [1, 2, 3, 6, 7, 8, 9, 10, 22, 23] (kxOf [6, 7, 8] [6, 7, 8]) (loopOf Try.f77 0) T_pa_Blocks_0 := by
  intro vs bl Kc r h
  unfold T_pa_Blocks_0 at h
  obtain ⟨t, y0', h'⟩ := getD_run h
  obtain ⟨c', vs, rfl, y1'⟩ := pO_s y0'
  obtain ⟨x, rfl, y2'⟩ := kI_s y1'
  obtain ⟨c', vs, rfl, y3'⟩ := pO_s y2'
  obtain ⟨y, rfl, y4'⟩ := kI_s y3'
  obtain ⟨c', vs, rfl, y5'⟩ := pO_s y4'
  obtain ⟨rfl, y6'⟩ := kP_s y5'
  obtain ⟨c', vs, rfl, y7'⟩ := pO_s y6'
  obtain ⟨m, rfl, y8'⟩ := kI_s y7'
  obtain ⟨c', vs, rfl, y9'⟩ := pO_s y8'
  obtain ⟨n, rfl, y10'⟩ := kI_s y9'
  obtain ⟨c', vs, rfl, y11'⟩ := pO_s y10'
  obtain ⟨rfl, y12'⟩ := kR_s y11'
  obtain ⟨c', vs, rfl, y13'⟩ := pO_s y12'
  obtain ⟨h, rfl, y14'⟩ := kI_s y13'
  obtain ⟨c', vs, rfl, y15'⟩ := pO_s y14'
  obtain ⟨l, rfl, y16'⟩ := kI_s y15'
  obtain ⟨c', vs, rfl, y17'⟩ := pO_s y16'
  obtain ⟨u, rfl, y18'⟩ := kI_s y17'
  obtain ⟨c', vs, rfl, y19'⟩ := pO_s y18'
  obtain ⟨i, rfl, y20'⟩ := kI_s y19'
  obtain ⟨rfl, y21'⟩ := pE_s y20'
  obtain ⟨q', bl, rfl, y22'⟩ := bB_s y21'
  obtain ⟨c', q', rfl, y23'⟩ := tC_s y22'
  obtain ⟨a, rfl, y24'⟩ := kI_s y23'
  obtain ⟨c', q', rfl, y25'⟩ := tC_s y24'
  obtain ⟨b, rfl, y26'⟩ := kI_s y25'
  obtain ⟨c', q', rfl, y27'⟩ := tC_s y26'
  obtain ⟨c, rfl, y28'⟩ := kI_s y27'
  obtain ⟨c', q', rfl, y29'⟩ := tC_s y28'
  obtain ⟨d, rfl, y30'⟩ := kI_s y29'
  obtain ⟨rfl, y31'⟩ := tE_s y30'
  obtain ⟨t, bl, rfl, y32'⟩ := bAR_s y31'
  obtain ⟨rfl, y33'⟩ := bE_s y32'
  have yy' := y33'
  cases yy'
  exact (b_pa_Blocks_0 ..).trans ((congrArg (LT.runc · Kc) (tu_pa_Blocks_0 ..)).trans h')
theorem r_pa_Blocks_1 : RoundOk Try.prog t_pa_Blocks (annOf []) l_pa_Blocks Out 20 0 49 [1, 2, 3, 6, 7, 8, 9, 10, 11, 22, 23, 26, 27] (kxOf [1, 2, 3, 6, 7, 8, 9, 10, 22, 23] [6, 7, 8]) (loopOf Try.f77 1) T_pa_Blocks_1 := by
  intro vs bl Kc r h
  unfold T_pa_Blocks_1 at h
  obtain ⟨t, y0', h'⟩ := getD_run h
  obtain ⟨c', vs, rfl, y1'⟩ := pO_s y0'
  obtain ⟨x, rfl, y2'⟩ := kI_s y1'
  obtain ⟨c', vs, rfl, y3'⟩ := pO_s y2'
  obtain ⟨y, rfl, y4'⟩ := kI_s y3'
  obtain ⟨c', vs, rfl, y5'⟩ := pO_s y4'
  obtain ⟨rfl, y6'⟩ := kP_s y5'
  obtain ⟨c', vs, rfl, y7'⟩ := pO_s y6'
  obtain ⟨m, rfl, y8'⟩ := kI_s y7'
  obtain ⟨c', vs, rfl, y9'⟩ := pO_s y8'
  obtain ⟨n, rfl, y10'⟩ := kI_s y9'
  obtain ⟨c', vs, rfl, y11'⟩ := pO_s y10'
  obtain ⟨rfl, y12'⟩ := kR_s y11'
  obtain ⟨c', vs, rfl, y13'⟩ := pO_s y12'
  obtain ⟨h, rfl, y14'⟩ := kI_s y13'
  obtain ⟨c', vs, rfl, y15'⟩ := pO_s y14'
  obtain ⟨l, rfl, y16'⟩ := kI_s y15'
  obtain ⟨c', vs, rfl, y17'⟩ := pO_s y16'
  obtain ⟨s, rfl, y18'⟩ := kI_s y17'
  obtain ⟨c', vs, rfl, y19'⟩ := pO_s y18'
  obtain ⟨u, rfl, y20'⟩ := kI_s y19'
  obtain ⟨c', vs, rfl, y21'⟩ := pO_s y20'
  obtain ⟨v, rfl, y22'⟩ := kI_s y21'
  obtain ⟨c', vs, rfl, y23'⟩ := pO_s y22'
  obtain ⟨g, rfl, y24'⟩ := kI_s y23'
  obtain ⟨c', vs, rfl, y25'⟩ := pO_s y24'
  obtain ⟨q, rfl, y26'⟩ := kI_s y25'
  obtain ⟨rfl, y27'⟩ := pE_s y26'
  obtain ⟨q', bl, rfl, y28'⟩ := bB_s y27'
  obtain ⟨c', q', rfl, y29'⟩ := tC_s y28'
  obtain ⟨a, rfl, y30'⟩ := kI_s y29'
  obtain ⟨c', q', rfl, y31'⟩ := tC_s y30'
  obtain ⟨b, rfl, y32'⟩ := kI_s y31'
  obtain ⟨c', q', rfl, y33'⟩ := tC_s y32'
  obtain ⟨c, rfl, y34'⟩ := kI_s y33'
  obtain ⟨c', q', rfl, y35'⟩ := tC_s y34'
  obtain ⟨d, rfl, y36'⟩ := kI_s y35'
  obtain ⟨rfl, y37'⟩ := tE_s y36'
  obtain ⟨t, bl, rfl, y38'⟩ := bAR_s y37'
  obtain ⟨rfl, y39'⟩ := bE_s y38'
  have yy' := y39'
  cases yy'
  exact (b_pa_Blocks_1 ..).trans ((congrArg (LT.runc · Kc) (tu_pa_Blocks_1 ..)).trans h')
theorem o_pa_Blocks : loopsOf (bodyOf Try.f77) = [loopOf Try.f77 0, loopOf Try.f77 1] := by kernel_rfl
theorem zbo (a b c d x y m n h l u : Int) (hxy : (inr 0 12 x && inr 0 12 y) = true) (hk : 0 ≤ h ∧ h + m ≤ 4096 ∧ 0 ≤ m) (hr : 0 ≤ l ∧ l + u ≤ 4096) : ∀ (j : Nat) (i : Int) (t : List Rc), u - i = j → 0 ≤ i → (t.length : Int) + 4096 * (u - i) ≤ 68719476736 → ∃ z, ∀ (K : Ex → List V → List (Option Blk) → Option Out) (o : Out), (LT.leaf (.exit 0) [.one (.int .i64 m), .one (.int .i64 n), .one (.row 0)] [some (.arr 23 (.pair (.int .i64) (.pair (.int .i64) (.pair (.int .i64) (.int .i64)))) (t ++ blkGrid a b c d x y h m.toNat j (l + i)))]).run K = some o → (iter T_pa_Blocks_0 z [.one (.int .i64 x), .one (.int .i64 y), .one (.ptr 0 0), .one (.int .i64 m), .one (.int .i64 n), .one (.row 1), .one (.int .i64 h), .one (.int .i64 l), .one (.int .i64 u), .one (.int .i64 i)] [some (.box [.int .i64 a, .int .i64 b, .int .i64 c, .int .i64 d]), some (.arr 23 (.pair (.int .i64) (.pair (.int .i64) (.pair (.int .i64) (.int .i64)))) (t))]).run K = some o
  | 0, i, t, h0, h1, h2 => ⟨1, fun K o h' => by
    simp only [iter, tu_pa_Blocks_0, U_pa_Blocks_0, LT.next, LT.run, ite2_bool, decide_eq_true_eq]
    rw [if_neg (by omega)]
    simpa [LT.run, blkGrid] using h'⟩
  | j + 1, i, t, h0, h1, h2 => by
    obtain ⟨z, hz⟩ := zbo a b c d x y m n h l u hxy hk hr j (i + 1) (t ++ blkRow a b c d x y (l + i) (m - 0).toNat (h + 0)) (by omega) (by omega) (by rw [List.length_append, blkRow_len]; push_cast; omega)
    refine ⟨z + 1, fun K o h' => ?_⟩
    simp only [iter, tu_pa_Blocks_0, U_pa_Blocks_0, LT.next, LT.run, ite2_bool, decide_eq_true_eq]
    rw [if_pos (by omega), if_pos (by simp only [k_pa_Blocks_1, hxy, Bool.true_and, Bool.and_eq_true, decide_eq_true_eq]; omega), wrap_in (n := i + 1) (by omega) (by omega)]
    refine hz K o ?_
    rw [List.append_assoc, show l + (i + 1) = l + i + 1 by omega, Int.sub_zero, Int.add_zero]
    exact h'
theorem zz_pa_Blocks_0 (a b c d x y m n h l u i : Int) (t : List Rc) (hk : k_pa_Blocks_0 a b c d x y m n h l u i t = true) : ∃ k, ∀ (K : Ex → List V → List (Option Blk) → Option Out) r, (c_pa_Blocks_0 a b c d x y m n h l u i t).run K = some r → (iter T_pa_Blocks_0 k [.one (.int .i64 x), .one (.int .i64 y), .one (.ptr 0 0), .one (.int .i64 m), .one (.int .i64 n), .one (.row 1), .one (.int .i64 h), .one (.int .i64 l), .one (.int .i64 u), .one (.int .i64 i)] [some (.box [.int .i64 a, .int .i64 b, .int .i64 c, .int .i64 d]), some (.arr 23 (.pair (.int .i64) (.pair (.int .i64) (.pair (.int .i64) (.int .i64)))) t)]).run K = some r := by
  simp only [k_pa_Blocks_0, Bool.and_eq_true, decide_eq_true_eq] at hk
  exact zbo a b c d x y m n h l u (by rw [hk.1.1.1.1.1, hk.1.1.1.1.2]; rfl) ⟨hk.1.1.1.2.1.1, hk.1.1.1.2.1.2, hk.1.1.1.2.2⟩ hk.1.1.2 (u - i).toNat i t (by omega) hk.1.2.1 hk.2
theorem z_pa_Blocks_0 : ∀ vs bl t, S_pa_Blocks_0 vs bl = some (true, t) → ∃ n, ∀ (K : Ex → List V → List (Option Blk) → Option Out) r, t.run K = some r → (iter T_pa_Blocks_0 n vs bl).run K = some r := by
  intro vs bl t y0'
  unfold S_pa_Blocks_0 at y0'
  obtain ⟨c', vs, rfl, y1'⟩ := pO_s y0'
  obtain ⟨x, rfl, y2'⟩ := kI_s y1'
  obtain ⟨c', vs, rfl, y3'⟩ := pO_s y2'
  obtain ⟨y, rfl, y4'⟩ := kI_s y3'
  obtain ⟨c', vs, rfl, y5'⟩ := pO_s y4'
  obtain ⟨rfl, y6'⟩ := kP_s y5'
  obtain ⟨c', vs, rfl, y7'⟩ := pO_s y6'
  obtain ⟨m, rfl, y8'⟩ := kI_s y7'
  obtain ⟨c', vs, rfl, y9'⟩ := pO_s y8'
  obtain ⟨n, rfl, y10'⟩ := kI_s y9'
  obtain ⟨c', vs, rfl, y11'⟩ := pO_s y10'
  obtain ⟨rfl, y12'⟩ := kR_s y11'
  obtain ⟨c', vs, rfl, y13'⟩ := pO_s y12'
  obtain ⟨h, rfl, y14'⟩ := kI_s y13'
  obtain ⟨c', vs, rfl, y15'⟩ := pO_s y14'
  obtain ⟨l, rfl, y16'⟩ := kI_s y15'
  obtain ⟨c', vs, rfl, y17'⟩ := pO_s y16'
  obtain ⟨u, rfl, y18'⟩ := kI_s y17'
  obtain ⟨c', vs, rfl, y19'⟩ := pO_s y18'
  obtain ⟨i, rfl, y20'⟩ := kI_s y19'
  obtain ⟨rfl, y21'⟩ := pE_s y20'
  obtain ⟨q', bl, rfl, y22'⟩ := bB_s y21'
  obtain ⟨c', q', rfl, y23'⟩ := tC_s y22'
  obtain ⟨a, rfl, y24'⟩ := kI_s y23'
  obtain ⟨c', q', rfl, y25'⟩ := tC_s y24'
  obtain ⟨b, rfl, y26'⟩ := kI_s y25'
  obtain ⟨c', q', rfl, y27'⟩ := tC_s y26'
  obtain ⟨c, rfl, y28'⟩ := kI_s y27'
  obtain ⟨c', q', rfl, y29'⟩ := tC_s y28'
  obtain ⟨d, rfl, y30'⟩ := kI_s y29'
  obtain ⟨rfl, y31'⟩ := tE_s y30'
  obtain ⟨t, bl, rfl, y32'⟩ := bAR_s y31'
  obtain ⟨rfl, y33'⟩ := bE_s y32'
  have yy' := y33'
  obtain ⟨hk, rfl⟩ := Prod.mk.inj (Option.some.inj yy')
  exact zz_pa_Blocks_0 _ _ _ _ _ _ _ _ _ _ _ _ _ hk
theorem zbi (a b c d x y m n h l s u v g : Int) (hx : 0 ≤ x ∧ x ≤ 12) (hy : 0 ≤ y ∧ y ≤ 12) (hk : 0 ≤ h ∧ h + g ≤ 4096) (hr : 0 ≤ l + s ∧ l + s ≤ 4096) : ∀ (j : Nat) (q : Int) (t : List Rc), g - q = j → 0 ≤ q → (t.length : Int) + (g - q) ≤ 68719476736 → ∃ z, ∀ (K : Ex → List V → List (Option Blk) → Option Out) (o : Out), (LT.leaf (.exit 2) [.one (.int .i64 x), .one (.int .i64 y), .one (.ptr 0 0), .one (.int .i64 m), .one (.int .i64 n), .one (.row 1), .one (.int .i64 h), .one (.int .i64 l), .one (.int .i64 u), .one (.int .i64 v)] [some (.box [.int .i64 a, .int .i64 b, .int .i64 c, .int .i64 d]), some (.arr 23 (.pair (.int .i64) (.pair (.int .i64) (.pair (.int .i64) (.int .i64)))) (t ++ blkRow a b c d x y (l + s) j (h + q)))]).run K = some o → (iter T_pa_Blocks_1 z [.one (.int .i64 x), .one (.int .i64 y), .one (.ptr 0 0), .one (.int .i64 m), .one (.int .i64 n), .one (.row 1), .one (.int .i64 h), .one (.int .i64 l), .one (.int .i64 s), .one (.int .i64 u), .one (.int .i64 v), .one (.int .i64 g), .one (.int .i64 q)] [some (.box [.int .i64 a, .int .i64 b, .int .i64 c, .int .i64 d]), some (.arr 23 (.pair (.int .i64) (.pair (.int .i64) (.pair (.int .i64) (.int .i64)))) (t))]).run K = some o
  | 0, q, t, h0, h1, h2 => ⟨1, fun K o h' => by
    simp only [iter, tu_pa_Blocks_1, U_pa_Blocks_1, LT.next, LT.run, ite2_bool, decide_eq_true_eq]
    rw [if_neg (by omega)]
    simpa [LT.run, blkRow] using h'⟩
  | j + 1, q, t, h0, h1, h2 => by
    obtain ⟨z, hz⟩ := zbi a b c d x y m n h l s u v g hx hy hk hr j (q + 1) (t ++ [interR (a, b, c, d) (cellT (h + q) (l + s) x y)]) (by omega) (by omega) (by simp; omega)
    refine ⟨z + 1, fun K o h' => ?_⟩
    simp only [iter, tu_pa_Blocks_1, U_pa_Blocks_1, LT.next, LT.run, ite2_bool, decide_eq_true_eq]
    rw [if_pos (by omega), wrap_in (n := h + q) (by omega) (by omega), wrap_in (n := l + s) (by omega) (by omega), wrap_in (n := q + 1) (by omega) (by omega), inr_t (a := 0) (b := 4096) (x := h + q) (by omega) (by omega), inr_t (a := 0) (b := 4096) (x := l + s) (by omega) (by omega), inr_t (a := 0) (b := 12) (x := x) (by omega) (by omega), inr_t (a := 0) (b := 12) (x := y) (by omega) (by omega), if_pos (by decide), if_pos (by simp only [List.length_singleton]; omega)]
    refine hz K o ?_
    rw [List.append_assoc, show h + (q + 1) = h + q + 1 by omega]
    exact h'
theorem zz_pa_Blocks_1 (a b c d x y m n h l s u v g q : Int) (t : List Rc) (hk : k_pa_Blocks_1 a b c d x y m n h l s u v g q t = true) : ∃ k, ∀ (K : Ex → List V → List (Option Blk) → Option Out) r, (c_pa_Blocks_1 a b c d x y m n h l s u v g q t).run K = some r → (iter T_pa_Blocks_1 k [.one (.int .i64 x), .one (.int .i64 y), .one (.ptr 0 0), .one (.int .i64 m), .one (.int .i64 n), .one (.row 1), .one (.int .i64 h), .one (.int .i64 l), .one (.int .i64 s), .one (.int .i64 u), .one (.int .i64 v), .one (.int .i64 g), .one (.int .i64 q)] [some (.box [.int .i64 a, .int .i64 b, .int .i64 c, .int .i64 d]), some (.arr 23 (.pair (.int .i64) (.pair (.int .i64) (.pair (.int .i64) (.int .i64)))) t)]).run K = some r := by
  simp only [k_pa_Blocks_1, Bool.and_eq_true, decide_eq_true_eq] at hk
  exact zbi a b c d x y m n h l s u v g (inr_b hk.1.1.1.1.1) (inr_b hk.1.1.1.1.2) hk.1.1.1.2 hk.1.1.2 (g - q).toNat q t (by omega) hk.1.2.1 hk.2
theorem z_pa_Blocks_1 : ∀ vs bl t, S_pa_Blocks_1 vs bl = some (true, t) → ∃ n, ∀ (K : Ex → List V → List (Option Blk) → Option Out) r, t.run K = some r → (iter T_pa_Blocks_1 n vs bl).run K = some r := by
  intro vs bl t y0'
  unfold S_pa_Blocks_1 at y0'
  obtain ⟨c', vs, rfl, y1'⟩ := pO_s y0'
  obtain ⟨x, rfl, y2'⟩ := kI_s y1'
  obtain ⟨c', vs, rfl, y3'⟩ := pO_s y2'
  obtain ⟨y, rfl, y4'⟩ := kI_s y3'
  obtain ⟨c', vs, rfl, y5'⟩ := pO_s y4'
  obtain ⟨rfl, y6'⟩ := kP_s y5'
  obtain ⟨c', vs, rfl, y7'⟩ := pO_s y6'
  obtain ⟨m, rfl, y8'⟩ := kI_s y7'
  obtain ⟨c', vs, rfl, y9'⟩ := pO_s y8'
  obtain ⟨n, rfl, y10'⟩ := kI_s y9'
  obtain ⟨c', vs, rfl, y11'⟩ := pO_s y10'
  obtain ⟨rfl, y12'⟩ := kR_s y11'
  obtain ⟨c', vs, rfl, y13'⟩ := pO_s y12'
  obtain ⟨h, rfl, y14'⟩ := kI_s y13'
  obtain ⟨c', vs, rfl, y15'⟩ := pO_s y14'
  obtain ⟨l, rfl, y16'⟩ := kI_s y15'
  obtain ⟨c', vs, rfl, y17'⟩ := pO_s y16'
  obtain ⟨s, rfl, y18'⟩ := kI_s y17'
  obtain ⟨c', vs, rfl, y19'⟩ := pO_s y18'
  obtain ⟨u, rfl, y20'⟩ := kI_s y19'
  obtain ⟨c', vs, rfl, y21'⟩ := pO_s y20'
  obtain ⟨v, rfl, y22'⟩ := kI_s y21'
  obtain ⟨c', vs, rfl, y23'⟩ := pO_s y22'
  obtain ⟨g, rfl, y24'⟩ := kI_s y23'
  obtain ⟨c', vs, rfl, y25'⟩ := pO_s y24'
  obtain ⟨q, rfl, y26'⟩ := kI_s y25'
  obtain ⟨rfl, y27'⟩ := pE_s y26'
  obtain ⟨q', bl, rfl, y28'⟩ := bB_s y27'
  obtain ⟨c', q', rfl, y29'⟩ := tC_s y28'
  obtain ⟨a, rfl, y30'⟩ := kI_s y29'
  obtain ⟨c', q', rfl, y31'⟩ := tC_s y30'
  obtain ⟨b, rfl, y32'⟩ := kI_s y31'
  obtain ⟨c', q', rfl, y33'⟩ := tC_s y32'
  obtain ⟨c, rfl, y34'⟩ := kI_s y33'
  obtain ⟨c', q', rfl, y35'⟩ := tC_s y34'
  obtain ⟨d, rfl, y36'⟩ := kI_s y35'
  obtain ⟨rfl, y37'⟩ := tE_s y36'
  obtain ⟨t, bl, rfl, y38'⟩ := bAR_s y37'
  obtain ⟨rfl, y39'⟩ := bE_s y38'
  have yy' := y39'
  obtain ⟨hk, rfl⟩ := Prod.mk.inj (Option.some.inj yy')
  exact zz_pa_Blocks_1 _ _ _ _ _ _ _ _ _ _ _ _ _ _ _ _ hk
theorem q_pa_Blocks (a b c d x y : Int) (hok : (inr 0 12 x && inr 0 12 y) = true) : funR Try.prog t_pa_Blocks (annOf []) l_pa_Blocks 20 Try.f77 [.agg [.int .i64 a, .int .i64 b, .int .i64 c, .int .i64 d], .one (.int .i64 x), .one (.int .i64 y)] [] = some ⟨.tup [(false, [.int .i64 (gridS a b c d x y 6).2.2.1]), (false, [.int .i64 (gridS a b c d x y 6).2.2.2]), (false, [.row 0])], [], [.arr 23 (.pair (.int .i64) (.pair (.int .i64) (.pair (.int .i64) (.int .i64)))) (blkL a b c d x y)]⟩ := by
    refine (e_pa_Blocks ..).trans ?_
    have hk : k_pa_Blocks_0 a b c d x y (gridS a b c d x y 6).2.2.1 (gridS a b c d x y 6).2.2.2 (gridS a b c d x y 6).1 (gridS a b c d x y 6).2.1 (gridS a b c d x y 6).2.2.2 0 [] = true := by
      simp only [k_pa_Blocks_0, hok, Bool.true_and, Bool.and_eq_true, decide_eq_true_eq, List.length_nil]
      rcases grid_m a b c d x y 6 (by omega) with h1 | h1
      · rw [h1]; simp
      · rw [h1.2.2.2]
        have hb := valid_b h1.1
        have s1 := span_b hb.1 hb.2.1 hb.2.2.1 (pw_b h1.2.1).1
        have s2 := span_b hb.2.2.2.1 hb.2.2.2.2.1 hb.2.2.2.2.2 (pw_b h1.2.2.1).1
        simp only [prN]
        omega
    simp only [hk, Int.sub_zero, Int.add_zero, List.nil_append]
    rfl
theorem s_pa_Blocks : SoundFun Try.prog 77 G_pa_Blocks := by
  refine fun_ok (tab := t_pa_Blocks) (ann := annOf []) (lt := l_pa_Blocks) (tab_cons s_rect_Intersect (tab_cons s_pa_grid (tab_cons s_pa_cell tab_nil))) (by kernel_rfl) (fn := Try.f77) (by kernel_rfl) (by decide) (c := bodyOf Try.f77) (by kernel_rfl) (by
    intro m b hb
    have hb' : b ∈ loopsOf (bodyOf Try.f77) := hb
    rw [o_pa_Blocks] at hb'
    simp only [List.mem_cons, List.not_mem_nil, or_false] at hb'
    rcases hb' with rfl | rfl
    · exact loop_ok (key := 3) (by kernel_rfl) rfl r_pa_Blocks_0 z_pa_Blocks_0 m
    · exact loop_ok (key := 6) (by kernel_rfl) rfl r_pa_Blocks_1 z_pa_Blocks_1 m
    ) ?_
  intro args lent o y0'
  unfold G_pa_Blocks at y0'
  obtain ⟨q', args, rfl, y1'⟩ := pA_s y0'
  obtain ⟨c', q', rfl, y2'⟩ := tC_s y1'
  obtain ⟨a, rfl, y3'⟩ := kI_s y2'
  obtain ⟨c', q', rfl, y4'⟩ := tC_s y3'
  obtain ⟨b, rfl, y5'⟩ := kI_s y4'
  obtain ⟨c', q', rfl, y6'⟩ := tC_s y5'
  obtain ⟨c, rfl, y7'⟩ := kI_s y6'
  obtain ⟨c', q', rfl, y8'⟩ := tC_s y7'
  obtain ⟨d, rfl, y9'⟩ := kI_s y8'
  obtain ⟨rfl, y10'⟩ := tE_s y9'
  obtain ⟨c', args, rfl, y11'⟩ := pO_s y10'
  obtain ⟨x, rfl, y12'⟩ := kI_s y11'
  obtain ⟨c', args, rfl, y13'⟩ := pO_s y12'
  obtain ⟨y, rfl, y14'⟩ := kI_s y13'
  obtain ⟨rfl, y15'⟩ := pE_s y14'
  obtain ⟨rfl, y16'⟩ := nE_s y15'
  have yy' := y16'
  unfold H_pa_Blocks at yy'
  obtain ⟨hok, rfl⟩ := Prod.mk.inj (Option.some.inj yy')
  exact ⟨20, q_pa_Blocks _ _ _ _ _ _ hok⟩
end Go.Rx.Ch24

set_option linter.unusedVariables false
set_option linter.unusedSimpArgs false
set_option maxRecDepth 100000
set_option maxHeartbeats 4000000
open Go Go.Rx Go.Proofs
namespace Go.Rx.Ch24
theorem q_lay_Tiles (h : Hd) (hok : small h.cs.length = true) : funR Try.prog t_lay_Tiles (annOf []) l_lay_Tiles 20 Try.f10 [.agg (hdC h)] [] = some ⟨.one (.row 0), [], [.arr 23 (.pair (.int .i64) (.pair (.int .i64) (.pair (.int .i64) (.int .i64)))) (tilesH h)]⟩ := by
    refine (e_lay_Tiles ..).trans ?_
    simp only [ite2_bool, hok, if_true, tilesH]
    by_cases hh : header h = 0
    · have hb := header_ok hh
      have h1 := inr_b hb.2.2.1
      have h2 := inr_b hb.2.2.2.1
      simp [hh, h1.2, h2.2]
    · simp [hh]
theorem s_lay_Tiles : SoundFun Try.prog 10 G_lay_Tiles := by
  refine fun_ok (tab := t_lay_Tiles) (ann := annOf []) (lt := l_lay_Tiles) (tab_cons s_params_Header (tab_cons s_rect_Cells tab_nil)) (by kernel_rfl) (fn := Try.f10) (by kernel_rfl) (by decide) (c := bodyOf Try.f10) (by kernel_rfl) (fun m b hb => absurd hb (by show b ∉ loopsOf (bodyOf Try.f10); rw [show loopsOf (bodyOf Try.f10) = [] from by kernel_rfl]; exact List.not_mem_nil)) ?_
  intro args lent o y0'
  unfold G_lay_Tiles at y0'
  obtain ⟨q', args, rfl, y1'⟩ := pA_s y0'
  obtain ⟨h, rfl, y2'⟩ := rdHd_s y1'
  obtain ⟨rfl, y3'⟩ := pE_s y2'
  obtain ⟨rfl, y4'⟩ := nE_s y3'
  have yy' := y4'
  unfold H_lay_Tiles at yy'
  obtain ⟨hok, rfl⟩ := Prod.mk.inj (Option.some.inj yy')
  exact ⟨20, q_lay_Tiles _ hok⟩
end Go.Rx.Ch24

set_option linter.unusedVariables false
set_option linter.unusedSimpArgs false
set_option maxRecDepth 100000
set_option maxHeartbeats 4000000
open Go Go.Rx Go.Proofs
namespace Go.Rx.Ch24
theorem blkRow_map (a b c d x y r : Int) : ∀ (n : Nat) (h : Int), blkRow a b c d x y r n h = (List.range n).map fun (i : Nat) => interR (a, b, c, d) (cellT (h + i) r x y)
  | 0, h => rfl
  | n + 1, h => by
    rw [blkRow, blkRow_map a b c d x y r n, List.range_succ_eq_map, List.map_cons, List.map_map]
    congr 1
    · simp
    · apply List.map_congr_left
      intro i _
      show _ = interR (a, b, c, d) (cellT (h + ((i + 1 : Nat) : Int)) r x y)
      rw [show h + 1 + (i : Int) = h + ((i + 1 : Nat) : Int) by omega]
theorem blkGrid_map (a b c d x y h : Int) (m : Nat) (hm : 0 < m) : ∀ (n : Nat) (r : Int), blkGrid a b c d x y h m n r = (List.range (m * n)).map fun (i : Nat) => interR (a, b, c, d) (cellT (h + ((i % m : Nat) : Int)) (r + ((i / m : Nat) : Int)) x y)
  | 0, r => by simp [blkGrid]
  | n + 1, r => by
    rw [blkGrid, blkGrid_map a b c d x y h m hm n, blkRow_map, show m * (n + 1) = m + m * n by rw [Nat.mul_succ]; omega, List.range_add, List.map_append, List.map_map]
    congr 1
    · apply List.map_congr_left
      intro i hi
      rw [List.mem_range] at hi
      rw [Nat.mod_eq_of_lt hi, Nat.div_eq_of_lt hi]
      simp
    · apply List.map_congr_left
      intro i _
      show _ = interR (a, b, c, d) (cellT (h + (((m + i) % m : Nat) : Int)) (r + (((m + i) / m : Nat) : Int)) x y)
      rw [Nat.add_mod_left, Nat.add_div_left _ hm, show r + 1 + ((i / m : Nat) : Int) = r + (((i / m).succ : Nat) : Int) by omega]
end Go.Rx.Ch24

set_option linter.unusedVariables false
set_option linter.unusedSimpArgs false
set_option maxRecDepth 100000
set_option maxHeartbeats 4000000
open Go Go.Rx Go.Proofs
namespace Go.Rx.Ch24
theorem q_lay_Component (h : Hd) (t k : Int) (hok : small h.cs.length = true) : funR Try.prog t_lay_Component (annOf []) l_lay_Component 20 Try.f12 [.agg (hdC h), .one (.int .i64 t), .one (.int .i64 k)] [] = some ⟨.agg [.int .i64 ((compT h t k).1), .int .i64 ((compT h t k).2.1), .int .i64 ((compT h t k).2.2.1), .int .i64 ((compT h t k).2.2.2)], [], []⟩ := by
    refine (e_lay_Component ..).trans ?_
    simp only [ite2_bool, decide_eq_true_eq, compT, hok, if_true]
    by_cases h1 : t < 0
    · simp [h1]
    by_cases h2 : t ≥ ((tilesH h).length : Int)
    · simp [h1, h2]
    by_cases h3 : k < 0
    · simp [h1, h2, h3]
    by_cases h4 : k ≥ (h.cs.length : Int)
    · simp [h1, h2, h3, h4]
    have h5 : ¬ (t < 0 ∨ t ≥ ((tilesH h).length : Int) ∨ k < 0 ∨ k ≥ (h.cs.length : Int)) := by omega
    have h6 : 0 ≤ k ∧ k < (h.cs.length : Int) := by omega
    have h7 : 0 ≤ t ∧ t < ((tilesH h).length : Int) := by omega
    have h8 : t.toNat < (tilesH h).length := by omega
    simp only [h1, h2, h3, h4, h5, h6, h7, h8, and_self, if_true, if_false]
    rfl
theorem s_lay_Component : SoundFun Try.prog 12 G_lay_Component := by
  refine fun_ok (tab := t_lay_Component) (ann := annOf []) (lt := l_lay_Component) (tab_cons s_lay_Tiles (tab_cons s_rect_Reduce tab_nil)) (by kernel_rfl) (fn := Try.f12) (by kernel_rfl) (by decide) (c := bodyOf Try.f12) (by kernel_rfl) (fun m b hb => absurd hb (by show b ∉ loopsOf (bodyOf Try.f12); rw [show loopsOf (bodyOf Try.f12) = [] from by kernel_rfl]; exact List.not_mem_nil)) ?_
  intro args lent o y0'
  unfold G_lay_Component at y0'
  obtain ⟨q', args, rfl, y1'⟩ := pA_s y0'
  obtain ⟨h, rfl, y2'⟩ := rdHd_s y1'
  obtain ⟨c', args, rfl, y3'⟩ := pO_s y2'
  obtain ⟨t, rfl, y4'⟩ := kI_s y3'
  obtain ⟨c', args, rfl, y5'⟩ := pO_s y4'
  obtain ⟨k, rfl, y6'⟩ := kI_s y5'
  obtain ⟨rfl, y7'⟩ := pE_s y6'
  obtain ⟨rfl, y8'⟩ := nE_s y7'
  have yy' := y8'
  unfold H_lay_Component at yy'
  obtain ⟨hok, rfl⟩ := Prod.mk.inj (Option.some.inj yy')
  exact ⟨20, q_lay_Component _ _ _ hok⟩
theorem q_lay_exists (h : Hd) (p : Pm) (t k : Int) (hok : (small h.cs.length && (small p.pr.length && small p.st.length)) = true) : funR Try.prog t_lay_exists (annOf []) l_lay_exists 20 Try.f39 [.agg (hdC h), .agg (pmC p), .one (.int .i64 t), .one (.int .i64 k)] [] = some ⟨.one (.bool (existsB h p t k)), [], []⟩ := by
    refine (e_lay_exists ..).trans ?_
    simp only [Bool.and_eq_true] at hok
    simp only [ite2_bool, decide_eq_true_eq, beq_iff_eq, existsB, hok, Bool.and_self, if_true, check_eq]
    by_cases h1 : checkB h p = 0
    rotate_left
    · simp [h1]
    by_cases h2 : t ≥ 0
    rotate_left
    · simp [h1, h2]
    by_cases h3 : t < ((tilesH h).length : Int)
    rotate_left
    · simp [h1, h2, h3]
    by_cases h4 : k ≥ 0
    rotate_left
    · simp [h1, h2, h3, h4]
    simp [h1, h2, h3, h4]
theorem s_lay_exists : SoundFun Try.prog 39 G_lay_exists := by
  refine fun_ok (tab := t_lay_exists) (ann := annOf []) (lt := l_lay_exists) (tab_cons s_lay_Tiles (tab_cons s_params_Check tab_nil)) (by kernel_rfl) (fn := Try.f39) (by kernel_rfl) (by decide) (c := bodyOf Try.f39) (by kernel_rfl) (fun m b hb => absurd hb (by show b ∉ loopsOf (bodyOf Try.f39); rw [show loopsOf (bodyOf Try.f39) = [] from by kernel_rfl]; exact List.not_mem_nil)) ?_
  intro args lent o y0'
  unfold G_lay_exists at y0'
  obtain ⟨q', args, rfl, y1'⟩ := pA_s y0'
  obtain ⟨h, rfl, y2'⟩ := rdHd_s y1'
  obtain ⟨q', args, rfl, y3'⟩ := pA_s y2'
  obtain ⟨p, rfl, y4'⟩ := rdPm_s y3'
  obtain ⟨c', args, rfl, y5'⟩ := pO_s y4'
  obtain ⟨t, rfl, y6'⟩ := kI_s y5'
  obtain ⟨c', args, rfl, y7'⟩ := pO_s y6'
  obtain ⟨k, rfl, y8'⟩ := kI_s y7'
  obtain ⟨rfl, y9'⟩ := pE_s y8'
  obtain ⟨rfl, y10'⟩ := nE_s y9'
  have yy' := y10'
  unfold H_lay_exists at yy'
  obtain ⟨hok, rfl⟩ := Prod.mk.inj (Option.some.inj yy')
  exact ⟨20, q_lay_exists _ _ _ _ hok⟩
theorem q_lay_Resolution (h : Hd) (p : Pm) (t k s : Int) (hok : (small h.cs.length && (small p.pr.length && small p.st.length)) = true) : funR Try.prog t_lay_Resolution (annOf []) l_lay_Resolution 20 Try.f14 [.agg (hdC h), .agg (pmC p), .one (.int .i64 t), .one (.int .i64 k), .one (.int .i64 s)] [] = some ⟨.tup [(true, [.int .i64 ((resS h p t k s).1), .int .i64 ((resS h p t k s).2.1), .int .i64 ((resS h p t k s).2.2.1), .int .i64 ((resS h p t k s).2.2.2)]), (false, [.int .i64 ((resM h p t k s).1)]), (false, [.int .i64 ((resM h p t k s).2)])], [], []⟩ := by
    refine (e_lay_Resolution ..).trans ?_
    have hok' := hok
    simp only [Bool.and_eq_true] at hok'
    simp only [ite2_bool, decide_eq_true_eq, hok, hok', if_true, resS, resM]
    cases h1 : existsB h p t k
    · simp
    by_cases h2 : s < 0
    · have h3 : inr 0 p.le s = false := by simp [inr]; omega
      simp [h2, h3]
    by_cases h4 : s > p.le
    · have h3 : inr 0 p.le s = false := by simp [inr]; omega
      simp [h2, h3, h4]
    have h3 : inr 0 p.le s = true := inr_t (by omega) (by omega)
    simp only [h2, h3, h4, Bool.not_true, Bool.and_self, Bool.false_eq_true, if_false, if_true] <;> rfl
theorem s_lay_Resolution : SoundFun Try.prog 14 G_lay_Resolution := by
  refine fun_ok (tab := t_lay_Resolution) (ann := annOf []) (lt := l_lay_Resolution) (tab_cons s_lay_Component (tab_cons s_lay_exists (tab_cons s_pyr_Resolution (tab_cons s_params_Precinct (tab_cons s_pa_Precincts tab_nil))))) (by kernel_rfl) (fn := Try.f14) (by kernel_rfl) (by decide) (c := bodyOf Try.f14) (by kernel_rfl) (fun m b hb => absurd hb (by show b ∉ loopsOf (bodyOf Try.f14); rw [show loopsOf (bodyOf Try.f14) = [] from by kernel_rfl]; exact List.not_mem_nil)) ?_
  intro args lent o y0'
  unfold G_lay_Resolution at y0'
  obtain ⟨q', args, rfl, y1'⟩ := pA_s y0'
  obtain ⟨h, rfl, y2'⟩ := rdHd_s y1'
  obtain ⟨q', args, rfl, y3'⟩ := pA_s y2'
  obtain ⟨p, rfl, y4'⟩ := rdPm_s y3'
  obtain ⟨c', args, rfl, y5'⟩ := pO_s y4'
  obtain ⟨t, rfl, y6'⟩ := kI_s y5'
  obtain ⟨c', args, rfl, y7'⟩ := pO_s y6'
  obtain ⟨k, rfl, y8'⟩ := kI_s y7'
  obtain ⟨c', args, rfl, y9'⟩ := pO_s y8'
  obtain ⟨s, rfl, y10'⟩ := kI_s y9'
  obtain ⟨rfl, y11'⟩ := pE_s y10'
  obtain ⟨rfl, y12'⟩ := nE_s y11'
  have yy' := y12'
  unfold H_lay_Resolution at yy'
  obtain ⟨hok, rfl⟩ := Prod.mk.inj (Option.some.inj yy')
  exact ⟨20, q_lay_Resolution _ _ _ _ _ hok⟩
end Go.Rx.Ch24

set_option linter.unusedVariables false
set_option linter.unusedSimpArgs false
set_option maxRecDepth 100000
set_option maxHeartbeats 4000000
open Go Go.Rx Go.Proofs
namespace Go.Rx.Ch24
theorem chk_b {h : Hd} {p : Pm} (e : checkA h p = 0) : header h = 0 ∧ nums p = true ∧ (tilesL h.a h.b h.c h.d h.tw h.th).all (fun r => fits r p h.cs) = true ∧ h.cs.length ≤ 4 := by
  unfold checkA at e
  split at e
  · rename_i h1; exact (h1 e).elim
  · rename_i h1
    split at e
    · cases e
    · split at e
      · cases e
      · rename_i h3
        split at e
        · rename_i h4
          simp only [Bool.not_eq_true', Bool.not_eq_false, Bool.and_eq_true] at h3
          have h0 : header h = 0 := by omega
          have hb := inr_b (header_ok h0).2.2.2.2.1
          exact ⟨h0, h3.1, h4, by omega⟩
        · cases e
theorem exists_b {h : Hd} {p : Pm} {t k : Int} (e : existsB h p t k = true) : checkA h p = 0 ∧ header h = 0 ∧ nums p = true ∧ h.cs.length ≤ 4 ∧ 0 ≤ t ∧ t < (tilesH h).length ∧ 0 ≤ k ∧ k < h.cs.length := by
  simp only [existsB, Bool.and_eq_true, decide_eq_true_eq] at e
  have c := chk_b e.1.1.1.1
  exact ⟨e.1.1.1.1, c.1, c.2.1, c.2.2.2, e.1.1.1.2, e.1.1.2, e.1.2, e.2⟩
theorem pl_r {b n : Int} (h : plOk b n = true) : 0 ≤ (b + 2) / 3 ∧ (b + 2) / 3 ≤ n := by
  have := pl_b h
  omega
theorem pl_w {b n : Int} (h : plOk b n = true) (hb : b > 0) : IntKind.wrap .i64 (IntKind.wrap .i64 (n - plLv b n) + 1) = (b + 2) / 3 := by
  have h1 := pl_b h
  have h2 : plLv b n = n - (b + 2) / 3 + 1 := by
    unfold plLv
    rw [if_pos h, if_neg (by omega)]
  rw [h2, wrap_in (n := n - (n - (b + 2) / 3 + 1)) (by omega) (by omega), wrap_in (by omega) (by omega)]
  omega
theorem bX_w {p : Pm} (hn : nums p = true) {R : Int} (h0 : 0 < R) (h1 : R ≤ p.le) : min p.bx (IntKind.wrap .i64 ((prec p R).1 - 1)) = bX p R ∧ min p.bw (IntKind.wrap .i64 ((prec p R).2 - 1)) = bY p R := by
  have hp := prec_b hn (show 0 ≤ R by omega) h1
  rw [if_pos h0] at hp
  unfold bX bY
  rw [if_pos h0, wrap_in (by omega) (by omega), wrap_in (by omega) (by omega)]
  exact ⟨rfl, rfl⟩
theorem q_lay_find (h : Hd) (p : Pm) (t k b i : Int) (hok : (small h.cs.length && (small p.pr.length && small p.st.length) && existsB h p t k) = true) : funR Try.prog t_lay_find (annOf []) l_lay_find 20 Try.f46 [.agg (hdC h), .agg (pmC p), .one (.int .i64 t), .one (.int .i64 k), .one (.int .i64 b), .one (.int .i64 i)] [] = some ⟨.agg [.int .i64 (fndN (compT h t k) p b i).1, .int .i64 (fndN (compT h t k) p b i).2, .row 0], [], [.arr 23 (.pair (.int .i64) (.pair (.int .i64) (.pair (.int .i64) (.int .i64)))) (fndL (compT h t k) p b i)]⟩ := by
    refine (e_lay_find ..).trans ?_
    simp only [Bool.and_eq_true] at hok
    have eb := exists_b hok.2
    have hn := eb.2.2.1
    cases hp : plOk b p.le
    · simp only [ite2_bool, fndN, fndL, fndOk, hp, Bool.not_false, Bool.false_and, Bool.false_eq_true, if_true, if_false]
    have hr := pl_r hp
    have hx := bX_b hn hr.1 hr.2
    have hb0 := pl_b hp
    simp only [ite2_bool, decide_eq_true_eq, mn_eq, fndN, fndL, fndOk, fndG, inO, inT, rsR, hp, hok, Bool.not_true, Bool.true_and, Bool.false_eq_true, if_true, if_false]
    by_cases hb : b > 0
    · have hw := bX_w hn (show 0 < (b + 2) / 3 by omega) hr.2
      rw [pl_w hp hb, hw.1, hw.2, inr_t hx.1 hx.2.1, inr_t hx.2.2.1 hx.2.2.2, if_pos hb, if_pos (show (b + 2) / 3 > 0 by omega)]
      generalize inbOk _ _ _ _ _ _ _ _ _ _ _ _ = x
      cases x
      · rfl
      · rfl
    · have h0 : b = 0 := by omega
      subst h0
      have e0 : ((0 : Int) + 2) / 3 = 0 := rfl
      rw [e0] at hx
      have hq : min p.bx (prec p 0).1 = bX p 0 ∧ min p.bw (prec p 0).2 = bY p 0 := by
        unfold bX bY
        rw [if_neg (by omega), Int.sub_zero, Int.sub_zero]
        exact ⟨rfl, rfl⟩
      rw [e0, hq.1, hq.2, inr_t hx.1 hx.2.1, inr_t hx.2.2.1 hx.2.2.2, if_neg hb]
      generalize inbOk _ _ _ _ _ _ _ _ _ _ _ _ = x
      cases x
      · rfl
      · rfl
theorem s_lay_find : SoundFun Try.prog 46 G_lay_find := by
  refine fun_ok (tab := t_lay_find) (ann := annOf []) (lt := l_lay_find) (tab_cons s_lay_Component (tab_cons s_pyr_Band (tab_cons s_pyr_Resolution (tab_cons s_params_Precinct (tab_cons s_pyr_Place (tab_cons s_pa_InBand (tab_cons s_pa_Blocks tab_nil))))))) (by kernel_rfl) (fn := Try.f46) (by kernel_rfl) (by decide) (c := bodyOf Try.f46) (by kernel_rfl) (fun m b hb => absurd hb (by show b ∉ loopsOf (bodyOf Try.f46); rw [show loopsOf (bodyOf Try.f46) = [] from by kernel_rfl]; exact List.not_mem_nil)) ?_
  intro args lent o y0'
  unfold G_lay_find at y0'
  obtain ⟨q', args, rfl, y1'⟩ := pA_s y0'
  obtain ⟨h, rfl, y2'⟩ := rdHd_s y1'
  obtain ⟨q', args, rfl, y3'⟩ := pA_s y2'
  obtain ⟨p, rfl, y4'⟩ := rdPm_s y3'
  obtain ⟨c', args, rfl, y5'⟩ := pO_s y4'
  obtain ⟨t, rfl, y6'⟩ := kI_s y5'
  obtain ⟨c', args, rfl, y7'⟩ := pO_s y6'
  obtain ⟨k, rfl, y8'⟩ := kI_s y7'
  obtain ⟨c', args, rfl, y9'⟩ := pO_s y8'
  obtain ⟨b, rfl, y10'⟩ := kI_s y9'
  obtain ⟨c', args, rfl, y11'⟩ := pO_s y10'
  obtain ⟨i, rfl, y12'⟩ := kI_s y11'
  obtain ⟨rfl, y13'⟩ := pE_s y12'
  obtain ⟨rfl, y14'⟩ := nE_s y13'
  have yy' := y14'
  unfold H_lay_find at yy'
  obtain ⟨hok, rfl⟩ := Prod.mk.inj (Option.some.inj yy')
  exact ⟨20, q_lay_find _ _ _ _ _ _ hok⟩
theorem q_lay_Grid (h : Hd) (p : Pm) (t k b i : Int) (hok : (small h.cs.length && (small p.pr.length && small p.st.length)) = true) : funR Try.prog t_lay_Grid (annOf []) l_lay_Grid 20 Try.f18 [.agg (hdC h), .agg (pmC p), .one (.int .i64 t), .one (.int .i64 k), .one (.int .i64 b), .one (.int .i64 i)] [] = some ⟨.tup [(false, [.int .i64 (gridN h p t k b i).1]), (false, [.int .i64 (gridN h p t k b i).2])], [], []⟩ := by
    refine (e_lay_Grid ..).trans ?_
    have hok' := hok
    simp only [Bool.and_eq_true] at hok'
    simp only [ite2_bool, decide_eq_true_eq, hok, hok', if_true, gridN]
    cases he : existsB h p t k
    · rfl
    rfl
theorem s_lay_Grid : SoundFun Try.prog 18 G_lay_Grid := by
  refine fun_ok (tab := t_lay_Grid) (ann := annOf []) (lt := l_lay_Grid) (tab_cons s_lay_exists (tab_cons s_lay_find tab_nil)) (by kernel_rfl) (fn := Try.f18) (by kernel_rfl) (by decide) (c := bodyOf Try.f18) (by kernel_rfl) (fun m b hb => absurd hb (by show b ∉ loopsOf (bodyOf Try.f18); rw [show loopsOf (bodyOf Try.f18) = [] from by kernel_rfl]; exact List.not_mem_nil)) ?_
  intro args lent o y0'
  unfold G_lay_Grid at y0'
  obtain ⟨q', args, rfl, y1'⟩ := pA_s y0'
  obtain ⟨h, rfl, y2'⟩ := rdHd_s y1'
  obtain ⟨q', args, rfl, y3'⟩ := pA_s y2'
  obtain ⟨p, rfl, y4'⟩ := rdPm_s y3'
  obtain ⟨c', args, rfl, y5'⟩ := pO_s y4'
  obtain ⟨t, rfl, y6'⟩ := kI_s y5'
  obtain ⟨c', args, rfl, y7'⟩ := pO_s y6'
  obtain ⟨k, rfl, y8'⟩ := kI_s y7'
  obtain ⟨c', args, rfl, y9'⟩ := pO_s y8'
  obtain ⟨b, rfl, y10'⟩ := kI_s y9'
  obtain ⟨c', args, rfl, y11'⟩ := pO_s y10'
  obtain ⟨i, rfl, y12'⟩ := kI_s y11'
  obtain ⟨rfl, y13'⟩ := pE_s y12'
  obtain ⟨rfl, y14'⟩ := nE_s y13'
  have yy' := y14'
  unfold H_lay_Grid at yy'
  obtain ⟨hok, rfl⟩ := Prod.mk.inj (Option.some.inj yy')
  exact ⟨20, q_lay_Grid _ _ _ _ _ _ hok⟩
end Go.Rx.Ch24

set_option linter.unusedVariables false
set_option linter.unusedSimpArgs false
set_option maxRecDepth 100000
set_option maxHeartbeats 4000000
open Go Go.Rx Go.Proofs
namespace Go.Rx.Ch24
theorem catT_s (u : List (List Bk)) (j : Nat) (hj : j < u.length) : catT u (j + 1) = catT u j ++ gM u j := by
  unfold catT gM
  rw [List.take_succ_eq_append_getElem hj, List.flatten_append, List.getD_eq_getElem?_getD, List.getElem?_eq_getElem hj]
  simp
theorem catT_l (u : List (List Bk)) (j : Nat) : (catT u j).length ≤ u.flatten.length := by
  have : u.flatten = (u.take j).flatten ++ (u.drop j).flatten := by rw [← List.flatten_append, List.take_append_drop]
  unfold catT
  rw [this, List.length_append]
  omega
theorem catT_n (u : List (List Bk)) : catT u u.length = u.flatten := by unfold catT; rw [List.take_length]
theorem bkT_s (k s b i : Int) (l : List Rc) (n : Nat) : bkT k s b i l (n + 1) = bkT k s b i l n ++ [(k, s, b, i, (n : Int), gR l n)] := by
  unfold bkT; rw [List.range_succ, List.map_append]; rfl
theorem bkT_l (k s b i : Int) (l : List Rc) (n : Nat) : (bkT k s b i l n).length = n := by simp [bkT]
theorem gridS_w {a b c d x y m : Int} (hm : m ≤ 12) : 0 ≤ (gridS a b c d x y m).2.2.1 ∧ 0 ≤ (gridS a b c d x y m).2.2.2 ∧ (gridS a b c d x y m).2.2.1 * (gridS a b c d x y m).2.2.2 ≤ 65536 := by
  unfold gridS
  split
  · simp
  · rename_i h
    split
    · simp
    · simp only [Bool.or_eq_true, Bool.not_eq_true', not_or, Bool.not_eq_false, Bool.and_eq_true] at h
      have hx := inr_b h.2.1
      have hy := inr_b h.2.2
      have hb := valid_b h.1.1
      have p1 := prN_b hb.1 hb.2.1 hb.2.2.1 (show x ≤ 12 by omega)
      have p2 := prN_b hb.2.2.2.1 hb.2.2.2.2.1 hb.2.2.2.2.2 (show y ≤ 12 by omega)
      exact ⟨p1.1, p2.1, by simp only; omega⟩
theorem blkGrid_len (a b c d x y h : Int) (m : Nat) : ∀ (n : Nat) (r : Int), (blkGrid a b c d x y h m n r).length = m * n
  | 0, r => by simp [blkGrid]
  | n + 1, r => by rw [blkGrid, List.length_append, blkRow_len, blkGrid_len a b c d x y h m n, Nat.mul_succ]; omega
theorem blkL_len (a b c d x y : Int) : ((blkL a b c d x y).length : Int) = (gridS a b c d x y 6).2.2.1 * (gridS a b c d x y 6).2.2.2 := by
  have g := gridS_w (a := a) (b := b) (c := c) (d := d) (x := x) (y := y) (m := 6) (by omega)
  unfold blkL
  rw [blkGrid_len, Int.natCast_mul, Int.toNat_of_nonneg g.1, Int.toNat_of_nonneg g.2.1]
theorem fndL_len (r : Rc) (p : Pm) (b i : Int) : ((fndL r p b i).length : Int) = (fndN r p b i).1 * (fndN r p b i).2 := by
  unfold fndL fndN
  cases fndOk r p b i
  · rfl
  · exact blkL_len ..
theorem fndN_w (r : Rc) (p : Pm) (b i : Int) : 0 ≤ (fndN r p b i).1 ∧ 0 ≤ (fndN r p b i).2 ∧ (fndN r p b i).1 * (fndN r p b i).2 ≤ 65536 := by
  unfold fndN
  cases fndOk r p b i
  · simp
  · exact gridS_w (by omega)
theorem pcU_len (r : Rc) (p : Pm) (k s i : Int) : (pcU r p k s i).length ≤ 3 := by
  unfold pcU
  rw [List.length_map]
  exact idxs_len ..
theorem flat_len {u : List (List Bk)} {M : Nat} (h : ∀ l ∈ u, l.length ≤ M) : u.flatten.length ≤ u.length * M := by
  induction u with
  | nil => simp
  | cons x u ih =>
    have h1 := h x (List.mem_cons_self ..)
    have h2 := ih (fun l hl => h l (List.mem_cons_of_mem _ hl))
    rw [List.flatten_cons, List.length_append, List.length_cons, Nat.add_mul]
    omega
theorem bkL_len (k s b i : Int) (r : Rc) (p : Pm) : (bkL k s b i (fndL r p b i)).length ≤ 65536 := by
  have h1 := fndL_len r p b i
  have h2 := fndN_w r p b i
  unfold bkL
  rw [bkT_l]
  omega
theorem pcL_len (r : Rc) (p : Pm) (k s i : Int) : (pcL r p k s i).length ≤ 196608 := by
  have h1 := pcU_len r p k s i
  have h2 := flat_len (u := pcU r p k s i) (M := 65536) (by
    intro l hl
    simp only [pcU, List.mem_map] at hl
    obtain ⟨b, _, rfl⟩ := hl
    exact bkL_len ..)
  unfold pcL
  have : (pcU r p k s i).length * 65536 ≤ 3 * 65536 := Nat.mul_le_mul_right _ h1
  omega
theorem r_lay_join_0 : RoundOk Try.prog t_lay_join (annOf []) l_lay_join Out 20 0 17 [3, 6, 7, 8] (kxOf [3] [2]) (loopOf Try.f50 0) T_lay_join_0 := by
  intro vs bl Kc r h
  unfold T_lay_join_0 at h
  obtain ⟨t, y0', h'⟩ := getD_run h
  obtain ⟨c', vs, rfl, y1'⟩ := pO_s y0'
  obtain ⟨rfl, y2'⟩ := kR_s y1'
  obtain ⟨c', vs, rfl, y3'⟩ := pO_s y2'
  obtain ⟨u, rfl, y4'⟩ := kLM_s y3'
  obtain ⟨c', vs, rfl, y5'⟩ := pO_s y4'
  obtain ⟨n, rfl, y6'⟩ := kI_s y5'
  obtain ⟨c', vs, rfl, y7'⟩ := pO_s y6'
  obtain ⟨i, rfl, y8'⟩ := kI_s y7'
  obtain ⟨rfl, y9'⟩ := pE_s y8'
  obtain ⟨t, bl, rfl, y10'⟩ := bAK_s y9'
  obtain ⟨rfl, y11'⟩ := bE_s y10'
  have yy' := y11'
  cases yy'
  exact (b_lay_join_0 ..).trans ((congrArg (LT.runc · Kc) (tu_lay_join_0 ..)).trans h')
theorem o_lay_join : loopsOf (bodyOf Try.f50) = [loopOf Try.f50 0] := by kernel_rfl
theorem zz_lay_join_0 (u : List (List Bk)) (t : List Bk) (n i : Int) (hk : k_lay_join_0 u t n i = true) : ∃ k, ∀ (K : Ex → List V → List (Option Blk) → Option Out) r, (c_lay_join_0 u t n i).run K = some r → (iter T_lay_join_0 k [.one (.row 0), .one (.lst (.sl (.pair (.int .i64) (.pair (.int .i64) (.pair (.int .i64) (.pair (.int .i64) (.pair (.int .i64) (.pair (.int .i64) (.pair (.int .i64) (.pair (.int .i64) (.int .i64)))))))))) u), .one (.int .i64 n), .one (.int .i64 i)] [some (.arr 65 (.pair (.int .i64) (.pair (.int .i64) (.pair (.int .i64) (.pair (.int .i64) (.pair (.int .i64) (.pair (.int .i64) (.pair (.int .i64) (.pair (.int .i64) (.int .i64))))))))) t)]).run K = some r := by
  simp only [k_lay_join_0, Bool.and_eq_true, decide_eq_true_eq] at hk
  obtain ⟨⟨⟨⟨rfl, rfl⟩, rfl⟩, hsm⟩, hl⟩ := hk
  refine Exists.elim (z_fold (T := T_lay_join_0) (st := fun j => ([.one (.row 0), .one (.lst (.sl (.pair (.int .i64) (.pair (.int .i64) (.pair (.int .i64) (.pair (.int .i64) (.pair (.int .i64) (.pair (.int .i64) (.pair (.int .i64) (.pair (.int .i64) (.int .i64)))))))))) u), .one (.int .i64 (u.length : Int)), .one (.int .i64 (j : Int))], [some (.arr 65 (.pair (.int .i64) (.pair (.int .i64) (.pair (.int .i64) (.pair (.int .i64) (.pair (.int .i64) (.pair (.int .i64) (.pair (.int .i64) (.pair (.int .i64) (.int .i64))))))))) (catT u j))])) u.length (c_lay_join_0 u [] (u.length : Int) 0) (fun j hj F K => ?_) (fun F K => ?_)) (fun k hk => ⟨k, hk⟩)
  · have h1 := catT_l u (j + 1)
    rw [catT_s u j hj, List.length_append] at h1
    simp only [tu_lay_join_0, U_lay_join_0, LT.next, LT.run, ite2_bool, decide_eq_true_eq, Int.toNat_natCast]
    rw [if_pos (by omega), if_pos (by omega), if_pos (by omega), wrap_next hj hsm, ← catT_s u j hj]
  · simp only [tu_lay_join_0, U_lay_join_0, LT.next, LT.run, ite2_bool, decide_eq_true_eq]
    rw [if_neg (by omega), catT_n]
    rfl
theorem z_lay_join_0 : ∀ vs bl t, S_lay_join_0 vs bl = some (true, t) → ∃ n, ∀ (K : Ex → List V → List (Option Blk) → Option Out) r, t.run K = some r → (iter T_lay_join_0 n vs bl).run K = some r := by
  intro vs bl t y0'
  unfold S_lay_join_0 at y0'
  obtain ⟨c', vs, rfl, y1'⟩ := pO_s y0'
  obtain ⟨rfl, y2'⟩ := kR_s y1'
  obtain ⟨c', vs, rfl, y3'⟩ := pO_s y2'
  obtain ⟨u, rfl, y4'⟩ := kLM_s y3'
  obtain ⟨c', vs, rfl, y5'⟩ := pO_s y4'
  obtain ⟨n, rfl, y6'⟩ := kI_s y5'
  obtain ⟨c', vs, rfl, y7'⟩ := pO_s y6'
  obtain ⟨i, rfl, y8'⟩ := kI_s y7'
  obtain ⟨rfl, y9'⟩ := pE_s y8'
  obtain ⟨t, bl, rfl, y10'⟩ := bAK_s y9'
  obtain ⟨rfl, y11'⟩ := bE_s y10'
  have yy' := y11'
  obtain ⟨hk, rfl⟩ := Prod.mk.inj (Option.some.inj yy')
  exact zz_lay_join_0 _ _ _ _ hk
theorem q_lay_join (u : List (List Bk)) (hok : (small u.length && decide (u.flatten.length ≤ 1900000000000)) = true) : funR Try.prog t_lay_join (annOf []) l_lay_join 20 Try.f50 [.one (.lst (.sl (.pair (.int .i64) (.pair (.int .i64) (.pair (.int .i64) (.pair (.int .i64) (.pair (.int .i64) (.pair (.int .i64) (.pair (.int .i64) (.pair (.int .i64) (.int .i64)))))))))) u)] [] = some ⟨.one (.row 0), [], [.arr 65 (.pair (.int .i64) (.pair (.int .i64) (.pair (.int .i64) (.pair (.int .i64) (.pair (.int .i64) (.pair (.int .i64) (.pair (.int .i64) (.pair (.int .i64) (.int .i64))))))))) u.flatten]⟩ := by
    refine (e_lay_join ..).trans ?_
    have hk : k_lay_join_0 u [] (u.length : Int) 0 = true := by
      simp only [Bool.and_eq_true] at hok
      simp only [k_lay_join_0, hok, decide_true, Bool.and_self]
    rw [hk]
    rfl
theorem s_lay_join : SoundFun Try.prog 50 G_lay_join := by
  refine fun_ok (tab := t_lay_join) (ann := annOf []) (lt := l_lay_join) tab_nil (by kernel_rfl) (fn := Try.f50) (by kernel_rfl) (by decide) (c := bodyOf Try.f50) (by kernel_rfl) (by
    intro m b hb
    have hb' : b ∈ loopsOf (bodyOf Try.f50) := hb
    rw [o_lay_join] at hb'
    simp only [List.mem_cons, List.not_mem_nil, or_false] at hb'
    rcases hb' with rfl
    · exact loop_ok (key := 3) (by kernel_rfl) rfl r_lay_join_0 z_lay_join_0 m
    ) ?_
  intro args lent o y0'
  unfold G_lay_join at y0'
  obtain ⟨c', args, rfl, y1'⟩ := pO_s y0'
  obtain ⟨u, rfl, y2'⟩ := kLM_s y1'
  obtain ⟨rfl, y3'⟩ := pE_s y2'
  obtain ⟨rfl, y4'⟩ := nE_s y3'
  have yy' := y4'
  unfold H_lay_join at yy'
  obtain ⟨hok, rfl⟩ := Prod.mk.inj (Option.some.inj yy')
  exact ⟨20, q_lay_join _ hok⟩
theorem r_lay_of_0 : RoundOk Try.prog t_lay_of (annOf []) l_lay_of Out 20 4 41 [0, 4, 7, 19, 20, 21] (kxOf [7] [6]) (loopOf Try.f82 0) T_lay_of_0 := by
  intro vs bl Kc r h
  unfold T_lay_of_0 at h
  obtain ⟨t, y0', h'⟩ := getD_run h
  obtain ⟨c', vs, rfl, y1'⟩ := pO_s y0'
  obtain ⟨b, rfl, y2'⟩ := kI_s y1'
  obtain ⟨c', vs, rfl, y3'⟩ := pO_s y2'
  obtain ⟨rfl, y4'⟩ := kP_s y3'
  obtain ⟨c', vs, rfl, y5'⟩ := pO_s y4'
  obtain ⟨rfl, y6'⟩ := kR_s y5'
  obtain ⟨c', vs, rfl, y7'⟩ := pO_s y6'
  obtain ⟨rfl, y8'⟩ := kR_s y7'
  obtain ⟨c', vs, rfl, y9'⟩ := pO_s y8'
  obtain ⟨n, rfl, y10'⟩ := kI_s y9'
  obtain ⟨c', vs, rfl, y11'⟩ := pO_s y10'
  obtain ⟨j, rfl, y12'⟩ := kI_s y11'
  obtain ⟨rfl, y13'⟩ := pE_s y12'
  obtain ⟨q', bl, rfl, y14'⟩ := bB_s y13'
  obtain ⟨h, rfl, y15'⟩ := rdHd_s y14'
  obtain ⟨q', bl, rfl, y16'⟩ := bB_s y15'
  obtain ⟨p, rfl, y17'⟩ := rdPm_s y16'
  obtain ⟨q', bl, rfl, y18'⟩ := bB_s y17'
  obtain ⟨c', q', rfl, y19'⟩ := tC_s y18'
  obtain ⟨t, rfl, y20'⟩ := kI_s y19'
  obtain ⟨rfl, y21'⟩ := tE_s y20'
  obtain ⟨q', bl, rfl, y22'⟩ := bB_s y21'
  obtain ⟨c', q', rfl, y23'⟩ := tC_s y22'
  obtain ⟨m, rfl, y24'⟩ := kI_s y23'
  obtain ⟨c', q', rfl, y25'⟩ := tC_s y24'
  obtain ⟨s, rfl, y26'⟩ := kI_s y25'
  obtain ⟨c', q', rfl, y27'⟩ := tC_s y26'
  obtain ⟨i, rfl, y28'⟩ := kI_s y27'
  obtain ⟨c', q', rfl, y29'⟩ := tC_s y28'
  obtain ⟨y, rfl, y30'⟩ := kI_s y29'
  obtain ⟨rfl, y31'⟩ := tE_s y30'
  obtain ⟨v, bl, rfl, y32'⟩ := bAK_s y31'
  obtain ⟨l, bl, rfl, y33'⟩ := bAR_s y32'
  obtain ⟨rfl, y34'⟩ := bE_s y33'
  have yy' := y34'
  cases yy'
  exact (b_lay_of_0 ..).trans ((congrArg (LT.runc · Kc) (tu_lay_of_0 ..)).trans h')
theorem o_lay_of : loopsOf (bodyOf Try.f82) = [loopOf Try.f82 0] := by kernel_rfl
theorem zz_lay_of_0 (h : Hd) (p : Pm) (t m s i y b n j : Int) (v : List Bk) (l : List Rc) (hk : k_lay_of_0 h p t m s i y b n j v l = true) : ∃ k, ∀ (K : Ex → List V → List (Option Blk) → Option Out) r, (c_lay_of_0 h p t m s i y b n j v l).run K = some r → (iter T_lay_of_0 k [.one (.int .i64 b), .one (.ptr 3 0), .one (.row 4), .one (.row 5), .one (.int .i64 n), .one (.int .i64 j)] [some (.box (hdC h)), some (.box (pmC p)), some (.box [.int .i64 t]), some (.box [.int .i64 m, .int .i64 s, .int .i64 i, .int .i64 y]), some (.arr 65 (.pair (.int .i64) (.pair (.int .i64) (.pair (.int .i64) (.pair (.int .i64) (.pair (.int .i64) (.pair (.int .i64) (.pair (.int .i64) (.pair (.int .i64) (.int .i64))))))))) v), some (.arr 23 (.pair (.int .i64) (.pair (.int .i64) (.pair (.int .i64) (.int .i64)))) l)]).run K = some r := by
  simp only [k_lay_of_0, Bool.and_eq_true, decide_eq_true_eq] at hk
  obtain ⟨⟨⟨rfl, rfl⟩, rfl⟩, hl⟩ := hk
  have hsm : small l.length = true := by simp only [small, decide_eq_true_eq]; omega
  refine Exists.elim (z_fold (T := T_lay_of_0) (st := fun j => ([.one (.int .i64 b), .one (.ptr 3 0), .one (.row 4), .one (.row 5), .one (.int .i64 (l.length : Int)), .one (.int .i64 (j : Int))], [some (.box (hdC h)), some (.box (pmC p)), some (.box [.int .i64 t]), some (.box [.int .i64 m, .int .i64 s, .int .i64 i, .int .i64 y]), some (.arr 65 (.pair (.int .i64) (.pair (.int .i64) (.pair (.int .i64) (.pair (.int .i64) (.pair (.int .i64) (.pair (.int .i64) (.pair (.int .i64) (.pair (.int .i64) (.int .i64))))))))) (bkT m s b i l j)), some (.arr 23 (.pair (.int .i64) (.pair (.int .i64) (.pair (.int .i64) (.int .i64)))) l)])) l.length (c_lay_of_0 h p t m s i y b (l.length : Int) 0 [] l) (fun j hj F K => ?_) (fun F K => ?_)) (fun k hk => ⟨k, hk⟩)
  · have h1 := bkT_l m s b i l j
    simp only [tu_lay_of_0, U_lay_of_0, LT.next, LT.run, ite2_bool, decide_eq_true_eq, Int.toNat_natCast]
    rw [bkT_s]
    repeat rw [if_pos (by first | omega | (simp only [List.length_singleton]; omega))]
    rw [wrap_next hj hsm]
    rfl
  · simp only [tu_lay_of_0, U_lay_of_0, LT.next, LT.run, ite2_bool, decide_eq_true_eq]
    rw [if_neg (by omega)]
    rfl
theorem z_lay_of_0 : ∀ vs bl t, S_lay_of_0 vs bl = some (true, t) → ∃ n, ∀ (K : Ex → List V → List (Option Blk) → Option Out) r, t.run K = some r → (iter T_lay_of_0 n vs bl).run K = some r := by
  intro vs bl t y0'
  unfold S_lay_of_0 at y0'
  obtain ⟨c', vs, rfl, y1'⟩ := pO_s y0'
  obtain ⟨b, rfl, y2'⟩ := kI_s y1'
  obtain ⟨c', vs, rfl, y3'⟩ := pO_s y2'
  obtain ⟨rfl, y4'⟩ := kP_s y3'
  obtain ⟨c', vs, rfl, y5'⟩ := pO_s y4'
  obtain ⟨rfl, y6'⟩ := kR_s y5'
  obtain ⟨c', vs, rfl, y7'⟩ := pO_s y6'
  obtain ⟨rfl, y8'⟩ := kR_s y7'
  obtain ⟨c', vs, rfl, y9'⟩ := pO_s y8'
  obtain ⟨n, rfl, y10'⟩ := kI_s y9'
  obtain ⟨c', vs, rfl, y11'⟩ := pO_s y10'
  obtain ⟨j, rfl, y12'⟩ := kI_s y11'
  obtain ⟨rfl, y13'⟩ := pE_s y12'
  obtain ⟨q', bl, rfl, y14'⟩ := bB_s y13'
  obtain ⟨h, rfl, y15'⟩ := rdHd_s y14'
  obtain ⟨q', bl, rfl, y16'⟩ := bB_s y15'
  obtain ⟨p, rfl, y17'⟩ := rdPm_s y16'
  obtain ⟨q', bl, rfl, y18'⟩ := bB_s y17'
  obtain ⟨c', q', rfl, y19'⟩ := tC_s y18'
  obtain ⟨t, rfl, y20'⟩ := kI_s y19'
  obtain ⟨rfl, y21'⟩ := tE_s y20'
  obtain ⟨q', bl, rfl, y22'⟩ := bB_s y21'
  obtain ⟨c', q', rfl, y23'⟩ := tC_s y22'
  obtain ⟨m, rfl, y24'⟩ := kI_s y23'
  obtain ⟨c', q', rfl, y25'⟩ := tC_s y24'
  obtain ⟨s, rfl, y26'⟩ := kI_s y25'
  obtain ⟨c', q', rfl, y27'⟩ := tC_s y26'
  obtain ⟨i, rfl, y28'⟩ := kI_s y27'
  obtain ⟨c', q', rfl, y29'⟩ := tC_s y28'
  obtain ⟨y, rfl, y30'⟩ := kI_s y29'
  obtain ⟨rfl, y31'⟩ := tE_s y30'
  obtain ⟨v, bl, rfl, y32'⟩ := bAK_s y31'
  obtain ⟨l, bl, rfl, y33'⟩ := bAR_s y32'
  obtain ⟨rfl, y34'⟩ := bE_s y33'
  have yy' := y34'
  obtain ⟨hk, rfl⟩ := Prod.mk.inj (Option.some.inj yy')
  exact zz_lay_of_0 _ _ _ _ _ _ _ _ _ _ _ _ hk
theorem q_lay_of (h : Hd) (p : Pm) (t m s i y b : Int) (hok : (small h.cs.length && (small p.pr.length && small p.st.length) && existsB h p t m) = true) : funR Try.prog t_lay_of (annOf []) l_lay_of 20 Try.f82 [.one (.int .i64 b), .one (.ptr 0 0), .one (.ptr 1 0), .one (.ptr 2 0), .one (.ptr 3 0)] [.box (hdC h), .box (pmC p), .box [.int .i64 t], .box [.int .i64 m, .int .i64 s, .int .i64 i, .int .i64 y]] = some ⟨.one (.row 4), [some (.box (hdC h)), some (.box (pmC p)), some (.box [.int .i64 t]), some (.box [.int .i64 m, .int .i64 s, .int .i64 i, .int .i64 y])], [.arr 65 (.pair (.int .i64) (.pair (.int .i64) (.pair (.int .i64) (.pair (.int .i64) (.pair (.int .i64) (.pair (.int .i64) (.pair (.int .i64) (.pair (.int .i64) (.int .i64))))))))) (bkL m s b i (fndL (compT h t m) p b i))]⟩ := by
    refine (e_lay_of ..).trans ?_
    have h1 := fndL_len (compT h t m) p b i
    have h2 := fndN_w (compT h t m) p b i
    have hk : k_lay_of_0 h p t m s i y b ((fndL (compT h t m) p b i).length : Int) 0 [] (fndL (compT h t m) p b i) = true := by
      simp only [k_lay_of_0, decide_true, Bool.true_and, decide_eq_true_eq]
      omega
    rw [hk, hok]
    rfl
theorem s_lay_of : SoundFun Try.prog 82 G_lay_of := by
  refine fun_ok (tab := t_lay_of) (ann := annOf []) (lt := l_lay_of) (tab_cons s_lay_find tab_nil) (by kernel_rfl) (fn := Try.f82) (by kernel_rfl) (by decide) (c := bodyOf Try.f82) (by kernel_rfl) (by
    intro m b hb
    have hb' : b ∈ loopsOf (bodyOf Try.f82) := hb
    rw [o_lay_of] at hb'
    simp only [List.mem_cons, List.not_mem_nil, or_false] at hb'
    rcases hb' with rfl
    · exact loop_ok (key := 3) (by kernel_rfl) rfl r_lay_of_0 z_lay_of_0 m
    ) ?_
  intro args lent o y0'
  unfold G_lay_of at y0'
  obtain ⟨c', args, rfl, y1'⟩ := pO_s y0'
  obtain ⟨b, rfl, y2'⟩ := kI_s y1'
  obtain ⟨c', args, rfl, y3'⟩ := pO_s y2'
  obtain ⟨rfl, y4'⟩ := kP_s y3'
  obtain ⟨c', args, rfl, y5'⟩ := pO_s y4'
  obtain ⟨rfl, y6'⟩ := kP_s y5'
  obtain ⟨c', args, rfl, y7'⟩ := pO_s y6'
  obtain ⟨rfl, y8'⟩ := kP_s y7'
  obtain ⟨c', args, rfl, y9'⟩ := pO_s y8'
  obtain ⟨rfl, y10'⟩ := kP_s y9'
  obtain ⟨rfl, y11'⟩ := pE_s y10'
  obtain ⟨q', lent, rfl, y12'⟩ := nB_s y11'
  obtain ⟨h, rfl, y13'⟩ := rdHd_s y12'
  obtain ⟨q', lent, rfl, y14'⟩ := nB_s y13'
  obtain ⟨p, rfl, y15'⟩ := rdPm_s y14'
  obtain ⟨q', lent, rfl, y16'⟩ := nB_s y15'
  obtain ⟨c', q', rfl, y17'⟩ := tC_s y16'
  obtain ⟨t, rfl, y18'⟩ := kI_s y17'
  obtain ⟨rfl, y19'⟩ := tE_s y18'
  obtain ⟨q', lent, rfl, y20'⟩ := nB_s y19'
  obtain ⟨c', q', rfl, y21'⟩ := tC_s y20'
  obtain ⟨m, rfl, y22'⟩ := kI_s y21'
  obtain ⟨c', q', rfl, y23'⟩ := tC_s y22'
  obtain ⟨s, rfl, y24'⟩ := kI_s y23'
  obtain ⟨c', q', rfl, y25'⟩ := tC_s y24'
  obtain ⟨i, rfl, y26'⟩ := kI_s y25'
  obtain ⟨c', q', rfl, y27'⟩ := tC_s y26'
  obtain ⟨y, rfl, y28'⟩ := kI_s y27'
  obtain ⟨rfl, y29'⟩ := tE_s y28'
  obtain ⟨rfl, y30'⟩ := nE_s y29'
  have yy' := y30'
  unfold H_lay_of at yy'
  obtain ⟨hok, rfl⟩ := Prod.mk.inj (Option.some.inj yy')
  exact ⟨20, q_lay_of _ _ _ _ _ _ _ _ hok⟩
end Go.Rx.Ch24

set_option linter.unusedVariables false
set_option linter.unusedSimpArgs false
set_option maxRecDepth 100000
set_option maxHeartbeats 4000000
open Go Go.Rx Go.Proofs
namespace Go.Rx.Ch24
theorem ofT_s (r : Rc) (p : Pm) (m s i : Int) (l : List Int) (j : Nat) : ofT r p m s i l (j + 1) = ofT r p m s i l j ++ [bkL m s (gI l j) i (fndL r p (gI l j) i)] := by
  unfold ofT; rw [List.range_succ, List.map_append]; rfl
theorem ofT_l (r : Rc) (p : Pm) (m s i : Int) (l : List Int) (j : Nat) : (ofT r p m s i l j).length = j := by simp [ofT]
theorem ofT_n (r : Rc) (p : Pm) (m s i : Int) : ofT r p m s i (idxs p.le s) (idxs p.le s).length = pcU r p m s i := by
  unfold ofT pcU
  apply List.ext_getElem
  · simp
  · intro n h1 h2
    have h3 : n < (idxs p.le s).length := by simpa using h1
    simp [gI, List.getD_eq_getElem?_getD, List.getElem?_eq_getElem h3]
theorem idxs_pl {n s : Int} {j : Nat} (hj : j < (idxs n s).length) : plOk (gI (idxs n s) j) n = true ∧ (gI (idxs n s) j + 2) / 3 = s ∧ 0 ≤ s ∧ s ≤ n := by
  have hm : gI (idxs n s) j ∈ idxs n s := by
    rw [gI, List.getD_eq_getElem?_getD, List.getElem?_eq_getElem hj]
    exact List.getElem_mem hj
  generalize gI (idxs n s) j = b at hm ⊢
  unfold idxs at hm
  split at hm
  · rename_i h
    simp only [Bool.and_eq_true] at h
    have h1 := inr_b h.1
    have h2 := inr_b h.2
    have hb : 0 ≤ b ∧ b ≤ 3 * n ∧ (b + 2) / 3 = s := by
      split at hm
      · simp at hm; omega
      · simp at hm; omega
    refine ⟨?_, hb.2.2, h2.1, h2.2⟩
    unfold plOk count
    rw [h.1, if_pos rfl]
    simp; omega
  · simp at hm
theorem r_lay_precinct_0 : RoundOk Try.prog t_lay_precinct (annOf []) l_lay_precinct Out 20 0 33 [9, 10, 18, 19, 20] (kxOf [10] [8]) (loopOf Try.f48 0) T_lay_precinct_0 := by
  intro vs bl Kc r h
  unfold T_lay_precinct_0 at h
  obtain ⟨t, y0', h'⟩ := getD_run h
  obtain ⟨c', vs, rfl, y1'⟩ := pO_s y0'
  obtain ⟨rfl, y2'⟩ := kF_s y1'
  obtain ⟨c', vs, rfl, y3'⟩ := pO_s y2'
  obtain ⟨rfl, y4'⟩ := kR_s y3'
  obtain ⟨c', vs, rfl, y5'⟩ := pO_s y4'
  obtain ⟨rfl, y6'⟩ := kR_s y5'
  obtain ⟨c', vs, rfl, y7'⟩ := pO_s y6'
  obtain ⟨n, rfl, y8'⟩ := kI_s y7'
  obtain ⟨c', vs, rfl, y9'⟩ := pO_s y8'
  obtain ⟨j, rfl, y10'⟩ := kI_s y9'
  obtain ⟨rfl, y11'⟩ := pE_s y10'
  obtain ⟨q', bl, rfl, y12'⟩ := bB_s y11'
  obtain ⟨h, rfl, y13'⟩ := rdHd_s y12'
  obtain ⟨q', bl, rfl, y14'⟩ := bB_s y13'
  obtain ⟨p, rfl, y15'⟩ := rdPm_s y14'
  obtain ⟨q', bl, rfl, y16'⟩ := bB_s y15'
  obtain ⟨c', q', rfl, y17'⟩ := tC_s y16'
  obtain ⟨t, rfl, y18'⟩ := kI_s y17'
  obtain ⟨rfl, y19'⟩ := tE_s y18'
  obtain ⟨q', bl, rfl, y20'⟩ := bB_s y19'
  obtain ⟨c', q', rfl, y21'⟩ := tC_s y20'
  obtain ⟨m, rfl, y22'⟩ := kI_s y21'
  obtain ⟨c', q', rfl, y23'⟩ := tC_s y22'
  obtain ⟨s, rfl, y24'⟩ := kI_s y23'
  obtain ⟨c', q', rfl, y25'⟩ := tC_s y24'
  obtain ⟨i, rfl, y26'⟩ := kI_s y25'
  obtain ⟨c', q', rfl, y27'⟩ := tC_s y26'
  obtain ⟨y, rfl, y28'⟩ := kI_s y27'
  obtain ⟨rfl, y29'⟩ := tE_s y28'
  obtain ⟨u, bl, rfl, y30'⟩ := bAM_s y29'
  obtain ⟨l, bl, rfl, y31'⟩ := bAI_s y30'
  obtain ⟨rfl, y32'⟩ := bE_s y31'
  have yy' := y32'
  cases yy'
  exact (b_lay_precinct_0 ..).trans ((congrArg (LT.runc · Kc) (tu_lay_precinct_0 ..)).trans h')
theorem o_lay_precinct : loopsOf (bodyOf Try.f48) = [loopOf Try.f48 0] := by kernel_rfl
theorem zz_lay_precinct_0 (h : Hd) (p : Pm) (t m s i y n j : Int) (u : List (List Bk)) (l : List Int) (hk : k_lay_precinct_0 h p t m s i y n j u l = true) : ∃ k, ∀ (K : Ex → List V → List (Option Blk) → Option Out) r, (c_lay_precinct_0 h p t m s i y n j u l).run K = some r → (iter T_lay_precinct_0 k [.one (.fn 82 [0, 1, 2, 3]), .one (.row 4), .one (.row 5), .one (.int .i64 n), .one (.int .i64 j)] [some (.box (hdC h)), some (.box (pmC p)), some (.box [.int .i64 t]), some (.box [.int .i64 m, .int .i64 s, .int .i64 i, .int .i64 y]), some (.arr 53 (.sl (.pair (.int .i64) (.pair (.int .i64) (.pair (.int .i64) (.pair (.int .i64) (.pair (.int .i64) (.pair (.int .i64) (.pair (.int .i64) (.pair (.int .i64) (.int .i64)))))))))) u), some (.arr 3 (.int .i64) l)]).run K = some r := by
  simp only [k_lay_precinct_0] at hk
  rw [Bool.and_eq_true] at hk
  obtain ⟨hk, hok⟩ := hk
  simp only [Bool.and_eq_true, decide_eq_true_eq] at hk
  obtain ⟨⟨⟨rfl, rfl⟩, rfl⟩, hl⟩ := hk
  have hsm : small l.length = true := by simp only [small, decide_eq_true_eq]; omega
  refine Exists.elim (z_fold (T := T_lay_precinct_0) (st := fun j => ([.one (.fn 82 [0, 1, 2, 3]), .one (.row 4), .one (.row 5), .one (.int .i64 (l.length : Int)), .one (.int .i64 (j : Int))], [some (.box (hdC h)), some (.box (pmC p)), some (.box [.int .i64 t]), some (.box [.int .i64 m, .int .i64 s, .int .i64 i, .int .i64 y]), some (.arr 53 (.sl (.pair (.int .i64) (.pair (.int .i64) (.pair (.int .i64) (.pair (.int .i64) (.pair (.int .i64) (.pair (.int .i64) (.pair (.int .i64) (.pair (.int .i64) (.int .i64)))))))))) (ofT (compT h t m) p m s i l j)), some (.arr 3 (.int .i64) l)])) l.length (c_lay_precinct_0 h p t m s i y (l.length : Int) 0 [] l) (fun j hj F K => ?_) (fun F K => ?_)) (fun k hk => ⟨k, hk⟩)
  · have h1 := ofT_l (compT h t m) p m s i l j
    simp only [tu_lay_precinct_0, U_lay_precinct_0, LT.next, LT.run, ite2_bool, decide_eq_true_eq, Int.toNat_natCast, hok, if_true]
    rw [ofT_s]
    repeat rw [if_pos (by first | omega | (simp only [List.length_singleton]; omega))]
    rw [wrap_next hj hsm]
    rfl
  · simp only [tu_lay_precinct_0, U_lay_precinct_0, LT.next, LT.run, ite2_bool, decide_eq_true_eq]
    rw [if_neg (by omega)]
    rfl
theorem z_lay_precinct_0 : ∀ vs bl t, S_lay_precinct_0 vs bl = some (true, t) → ∃ n, ∀ (K : Ex → List V → List (Option Blk) → Option Out) r, t.run K = some r → (iter T_lay_precinct_0 n vs bl).run K = some r := by
  intro vs bl t y0'
  unfold S_lay_precinct_0 at y0'
  obtain ⟨c', vs, rfl, y1'⟩ := pO_s y0'
  obtain ⟨rfl, y2'⟩ := kF_s y1'
  obtain ⟨c', vs, rfl, y3'⟩ := pO_s y2'
  obtain ⟨rfl, y4'⟩ := kR_s y3'
  obtain ⟨c', vs, rfl, y5'⟩ := pO_s y4'
  obtain ⟨rfl, y6'⟩ := kR_s y5'
  obtain ⟨c', vs, rfl, y7'⟩ := pO_s y6'
  obtain ⟨n, rfl, y8'⟩ := kI_s y7'
  obtain ⟨c', vs, rfl, y9'⟩ := pO_s y8'
  obtain ⟨j, rfl, y10'⟩ := kI_s y9'
  obtain ⟨rfl, y11'⟩ := pE_s y10'
  obtain ⟨q', bl, rfl, y12'⟩ := bB_s y11'
  obtain ⟨h, rfl, y13'⟩ := rdHd_s y12'
  obtain ⟨q', bl, rfl, y14'⟩ := bB_s y13'
  obtain ⟨p, rfl, y15'⟩ := rdPm_s y14'
  obtain ⟨q', bl, rfl, y16'⟩ := bB_s y15'
  obtain ⟨c', q', rfl, y17'⟩ := tC_s y16'
  obtain ⟨t, rfl, y18'⟩ := kI_s y17'
  obtain ⟨rfl, y19'⟩ := tE_s y18'
  obtain ⟨q', bl, rfl, y20'⟩ := bB_s y19'
  obtain ⟨c', q', rfl, y21'⟩ := tC_s y20'
  obtain ⟨m, rfl, y22'⟩ := kI_s y21'
  obtain ⟨c', q', rfl, y23'⟩ := tC_s y22'
  obtain ⟨s, rfl, y24'⟩ := kI_s y23'
  obtain ⟨c', q', rfl, y25'⟩ := tC_s y24'
  obtain ⟨i, rfl, y26'⟩ := kI_s y25'
  obtain ⟨c', q', rfl, y27'⟩ := tC_s y26'
  obtain ⟨y, rfl, y28'⟩ := kI_s y27'
  obtain ⟨rfl, y29'⟩ := tE_s y28'
  obtain ⟨u, bl, rfl, y30'⟩ := bAM_s y29'
  obtain ⟨l, bl, rfl, y31'⟩ := bAI_s y30'
  obtain ⟨rfl, y32'⟩ := bE_s y31'
  have yy' := y32'
  obtain ⟨hk, rfl⟩ := Prod.mk.inj (Option.some.inj yy')
  exact zz_lay_precinct_0 _ _ _ _ _ _ _ _ _ _ _ hk
theorem q_lay_precinct (h : Hd) (p : Pm) (t m s i y : Int) (hok : (small h.cs.length && (small p.pr.length && small p.st.length) && existsB h p t m) = true) : funR Try.prog t_lay_precinct (annOf []) l_lay_precinct 20 Try.f48 [.agg (hdC h), .agg (pmC p), .one (.int .i64 t), .agg [.int .i64 m, .int .i64 s, .int .i64 i, .int .i64 y]] [] = some ⟨.one (.row 0), [], [.arr 65 (.pair (.int .i64) (.pair (.int .i64) (.pair (.int .i64) (.pair (.int .i64) (.pair (.int .i64) (.pair (.int .i64) (.pair (.int .i64) (.pair (.int .i64) (.int .i64))))))))) (pcL (compT h t m) p m s i)]⟩ := by
    refine (e_lay_precinct ..).trans ?_
    have h1 := idxs_len p.le s
    have h2 := pcL_len (compT h t m) p m s i
    have h3 := pcU_len (compT h t m) p m s i
    have hk : k_lay_precinct_0 h p t m s i y ((idxs p.le s).length : Int) 0 [] (idxs p.le s) = true := by
      simp only [k_lay_precinct_0, hok, decide_true, Bool.true_and, Bool.and_true, decide_eq_true_eq]
      exact h1
    unfold pcL at h2 ⊢
    have hs : (small (pcU (compT h t m) p m s i).length && decide ((pcU (compT h t m) p m s i).flatten.length ≤ 1900000000000)) = true := by
      simp only [small, Bool.and_eq_true, decide_eq_true_eq]; omega
    simp only [ofT_n, hk, hok, hs, ite2_bool, if_true]
    rfl
theorem s_lay_precinct : SoundFun Try.prog 48 G_lay_precinct := by
  refine fun_ok (tab := t_lay_precinct) (ann := annOf []) (lt := l_lay_precinct) (tab_cons s_pyr_Indices (tab_cons s_lay_join (tab_cons s_lay_of tab_nil))) (by kernel_rfl) (fn := Try.f48) (by kernel_rfl) (by decide) (c := bodyOf Try.f48) (by kernel_rfl) (by
    intro m b hb
    have hb' : b ∈ loopsOf (bodyOf Try.f48) := hb
    rw [o_lay_precinct] at hb'
    simp only [List.mem_cons, List.not_mem_nil, or_false] at hb'
    rcases hb' with rfl
    · exact loop_ok (key := 4) (by kernel_rfl) rfl r_lay_precinct_0 z_lay_precinct_0 m
    ) ?_
  intro args lent o y0'
  unfold G_lay_precinct at y0'
  obtain ⟨q', args, rfl, y1'⟩ := pA_s y0'
  obtain ⟨h, rfl, y2'⟩ := rdHd_s y1'
  obtain ⟨q', args, rfl, y3'⟩ := pA_s y2'
  obtain ⟨p, rfl, y4'⟩ := rdPm_s y3'
  obtain ⟨c', args, rfl, y5'⟩ := pO_s y4'
  obtain ⟨t, rfl, y6'⟩ := kI_s y5'
  obtain ⟨q', args, rfl, y7'⟩ := pA_s y6'
  obtain ⟨c', q', rfl, y8'⟩ := tC_s y7'
  obtain ⟨m, rfl, y9'⟩ := kI_s y8'
  obtain ⟨c', q', rfl, y10'⟩ := tC_s y9'
  obtain ⟨s, rfl, y11'⟩ := kI_s y10'
  obtain ⟨c', q', rfl, y12'⟩ := tC_s y11'
  obtain ⟨i, rfl, y13'⟩ := kI_s y12'
  obtain ⟨c', q', rfl, y14'⟩ := tC_s y13'
  obtain ⟨y, rfl, y15'⟩ := kI_s y14'
  obtain ⟨rfl, y16'⟩ := tE_s y15'
  obtain ⟨rfl, y17'⟩ := pE_s y16'
  obtain ⟨rfl, y18'⟩ := nE_s y17'
  have yy' := y18'
  unfold H_lay_precinct at yy'
  obtain ⟨hok, rfl⟩ := Prod.mk.inj (Option.some.inj yy')
  exact ⟨20, q_lay_precinct _ _ _ _ _ _ _ hok⟩
end Go.Rx.Ch24

