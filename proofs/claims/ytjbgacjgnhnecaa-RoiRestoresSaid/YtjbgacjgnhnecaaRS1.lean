/- The summaries of these functions are sound. -/
import Derived.Test.YtjbgacjgnhnecaaRE0
import Derived.Test.YtjbgacjgnhnecaaRS0
import Derived.Test.YtjbgacjgnhnecaaRxD
import Derived.Recover
import Derived.Test.YtjbgacjgnhnecaaRE1
set_option linter.unnecessarySimpa false
set_option linter.unusedVariables false
set_option linter.unusedSimpArgs false
set_option maxRecDepth 100000
set_option maxHeartbeats 40000000
open Go Go.Rx Go.Proofs
namespace Go.Rx.Ch30
theorem cdiv_b6 {a k : Int} (h0 : 0 ≤ a) (h1 : a ≤ 4096) (hk : 1 ≤ k) : a / k ≤ cdiv a k ∧ cdiv a k ≤ a := by
  have h2 := Int.ediv_nonneg h0 (show 0 ≤ k by omega)
  have h3 := Int.ediv_le_self k h0
  have h4 := Int.emod_add_mul_ediv a k
  have h5 : 1 * (a / k) ≤ k * (a / k) := Int.mul_le_mul_of_nonneg_right hk h2
  unfold cdiv w
  rw [if_neg (by omega), Int.tmod_eq_emod_of_nonneg h0, Int.tdiv_eq_ediv_of_nonneg h0, wrap_in (n := a / k) (by omega) (by omega)]
  split
  · rw [wrap_in (by omega) (by omega)]; omega
  · omega
theorem cdiv_e6 {a k : Int} (h0 : 0 ≤ a) (h1 : a ≤ 4096) (hk : 1 ≤ k) : cdiv a k = a / k + (if a % k > 0 then 1 else 0) := by
  have h2 := Int.ediv_nonneg h0 (show 0 ≤ k by omega)
  have h3 := Int.ediv_le_self k h0
  unfold cdiv w
  rw [if_neg (by omega), Int.tmod_eq_emod_of_nonneg h0, Int.tdiv_eq_ediv_of_nonneg h0, wrap_in (n := a / k) (by omega) (by omega)]
  split
  · rw [wrap_in (by omega) (by omega)]
  · omega
theorem cdiv_mono6 {a c k : Int} (h0 : 0 ≤ a) (h : a ≤ c) (h1 : c ≤ 4096) (hk : 1 ≤ k) : 0 ≤ cdiv a k ∧ cdiv a k ≤ cdiv c k ∧ cdiv c k ≤ 4096 := by
  have h2 := Int.ediv_nonneg h0 (show 0 ≤ k by omega)
  have h3 := Int.ediv_le_ediv (show 0 < k by omega) h
  have h4 := cdiv_b6 (show 0 ≤ c by omega) h1 hk
  rw [cdiv_e6 h0 (by omega) hk] 
  rw [cdiv_e6 (show 0 ≤ c by omega) h1 hk] at h4 ⊢
  have e1 := Int.emod_add_mul_ediv a k
  have e2 := Int.emod_add_mul_ediv c k
  by_cases hq : a / k = c / k
  · rw [hq] at e1 ⊢
    split <;> split <;> omega
  · split <;> split <;> omega
theorem valid_reduce6 (a b c d x y : Int) : valid (reduce a b c d x y).1 (reduce a b c d x y).2.1 (reduce a b c d x y).2.2.1 (reduce a b c d x y).2.2.2 = true := by
  unfold reduce
  split
  · rfl
  · rename_i h
    simp only [Bool.or_eq_true, Bool.not_eq_true', decide_eq_true_eq, not_or, Bool.not_eq_false] at h
    have hb := valid_b h.1.1.1.1
    have h1 := cdiv_mono6 hb.1 hb.2.1 hb.2.2.1 (show 1 ≤ x by omega)
    have h2 := cdiv_mono6 hb.2.2.2.1 hb.2.2.2.2.1 hb.2.2.2.2.2 (show 1 ≤ y by omega)
    show valid (cdiv a x) (cdiv b y) (cdiv c x) (cdiv d y) = true
    exact valid_i5 (by omega)
theorem valid_resR6 (a b c d n r : Int) : valid (resR a b c d n r).1 (resR a b c d n r).2.1 (resR a b c d n r).2.2.1 (resR a b c d n r).2.2.2 = true := by
  unfold resR
  split
  · exact valid_reduce6 ..
  · rfl
theorem set3 {α : Type} (f g : Nat → α) (N t : Nat) (ht : 1 ≤ t) (h : ∀ i, i < N → (i + 2) / 3 ≠ t → g i = f i) : ((((List.range N).map f).set (3 * t - 3 + 1) (g (3 * t - 3 + 1))).set (3 * t - 3 + 2) (g (3 * t - 3 + 2))).set (3 * t - 3 + 3) (g (3 * t - 3 + 3)) = (List.range N).map g := by
  apply List.ext_getElem (by simp)
  intro i h1 h2
  simp only [List.length_map, List.length_range] at h2
  simp only [List.getElem_set, List.getElem_map, List.getElem_range]
  split
  · rename_i e; subst e; rfl
  · split
    · rename_i e; subst e; rfl
    · split
      · rename_i e; subst e; rfl
      · exact (h i h2 (by omega)).symm
theorem inter_v {a b c d e f g h : Int} (hv : valid e f g h = true) : valid (inter a b c d e f g h).1 (inter a b c d e f g h).2.1 (inter a b c d e f g h).2.2.1 (inter a b c d e f g h).2.2.2 = true := by
  have hb := valid_b hv
  unfold inter
  split
  · rfl
  · rename_i hn
    simp only [empty, Bool.or_eq_true, decide_eq_true_eq, not_or] at hn
    apply valid_i5
    simp only
    omega
theorem ndW_b {a b c d n m res : Int} {w : Rc} (hw : valid w.1 w.2.1 w.2.2.1 w.2.2.2 = true) : ∀ j, valid (ndW a b c d n m res w j).1 (ndW a b c d n m res w j).2.1 (ndW a b c d n m res w j).2.2.1 (ndW a b c d n m res w j).2.2.2 = true
  | 0 => hw
  | j + 1 => valid_bnd5 (by omega) (by omega)
theorem ndAt_at {a b c d n m res : Int} {w : Rc} {j t : Nat} (ht : res - (j : Int) = t) (h1 : 1 ≤ t) (o : Nat) (ho : 1 ≤ o) (ho3 : o ≤ 3) : ndAt a b c d n m res w (3 * t - 3 + o) = bndR (ndI a b c d n m res (ndW a b c d n m res w j) j) o := by
  have e1 : ((3 * t - 3 + o + 2 : Nat) : Int) / 3 = t := by omega
  have e2 : ((3 * t - 3 + o : Nat) : Int) - 3 * (((3 * t - 3 + o + 2 : Nat) : Int) / 3) + 3 = o := by rw [e1]; omega
  have e3 : (res - ((3 * t - 3 + o + 2 : Nat) : Int) / 3).toNat = j := by rw [e1]; omega
  unfold ndAt
  rw [if_neg (by omega), if_pos (by omega), e2, e3]
theorem ndL_step {a b c d n m res : Int} {w : Rc} {j t : Nat} (ht : res - (j : Int) = t) (h1 : 1 ≤ t) : (((ndL a b c d n m res w j).set (3 * t - 3 + 1) (bndR (ndI a b c d n m res (ndW a b c d n m res w j) j) 1)).set (3 * t - 3 + 2) (bndR (ndI a b c d n m res (ndW a b c d n m res w j) j) 2)).set (3 * t - 3 + 3) (bndR (ndI a b c d n m res (ndW a b c d n m res w j) j) 3) = ndL a b c d n m res w (j + 1) := by
  have a1 := ndAt_at (a := a) (b := b) (c := c) (d := d) (n := n) (m := m) (w := w) ht h1 1 (by omega) (by omega)
  have a2 := ndAt_at (a := a) (b := b) (c := c) (d := d) (n := n) (m := m) (w := w) ht h1 2 (by omega) (by omega)
  have a3 := ndAt_at (a := a) (b := b) (c := c) (d := d) (n := n) (m := m) (w := w) ht h1 3 (by omega) (by omega)
  have g : ∀ o : Nat, 1 ≤ o → o ≤ 3 → ndG a b c d n m res w (j + 1) (3 * t - 3 + o) = ndAt a b c d n m res w (3 * t - 3 + o) := by
    intro o h2 h3
    unfold ndG
    rw [if_pos (by omega)]
  have s := set3 (ndG a b c d n m res w j) (ndG a b c d n m res w (j + 1)) (3 * n + 1).toNat t h1 (fun i hi hne => by
    unfold ndG
    by_cases hc : 1 ≤ i ∧ ((i + 2 : Nat) : Int) / 3 ≤ res ∧ res - (i + 2 : Nat) / 3 < (j : Int)
    · rw [if_pos hc, if_pos (by omega)]
    · rw [if_neg hc, if_neg (by omega)])
  rw [g 1 (by omega) (by omega), g 2 (by omega) (by omega), g 3 (by omega) (by omega), a1, a2, a3] at s
  exact s
theorem ndL_zero {a b c d n m res : Int} {w : Rc} : ndL a b c d n m res w 0 = List.replicate (3 * n + 1).toNat (0, 0, 0, 0) := by
  apply List.ext_getElem (by simp [ndL])
  intro i h1 h2
  simp only [ndL, List.getElem_map, List.getElem_range, List.getElem_replicate]
  unfold ndG
  rw [if_neg (by omega)]
theorem ndL_len {a b c d n m res : Int} {w : Rc} (j : Nat) : (ndL a b c d n m res w j).length = (3 * n + 1).toNat := by simp [ndL]
theorem d_pyr_Need_0 {α : Type} {vs : List V} {bl : List (Option Blk)} {K} {r : α} {Q : Prop} (y0' : D_pyr_Need_0 vs bl K = some r) (hh' : ∀ (a : Int) (b : Int) (c : Int) (d : Int) (n : Int) (m : Int) (w0 : Int) (w1 : Int) (w2 : Int) (w3 : Int) (t : Int) (v : List (Int × Int × Int × Int)), vs = [.one (.int .i64 n), .one (.ptr 0 0), .one (.int .i64 m), .one (.row 1), .one (.ptr 2 0), .one (.int .i64 t)] → bl = [some (.box [.int .i64 a, .int .i64 b, .int .i64 c, .int .i64 d]), some (.arr 28 (.pair (.int .i64) (.pair (.int .i64) (.pair (.int .i64) (.int .i64)))) v), some (.box [.int .i64 w0, .int .i64 w1, .int .i64 w2, .int .i64 w3])] → K a b c d n m w0 w1 w2 w3 t v = some r → Q) : Q := by
  unfold D_pyr_Need_0 at y0'
  obtain ⟨n, vs, rfl, y1'⟩ := pI_s y0'
  obtain ⟨vs, rfl, y2'⟩ := pP_s y1'
  obtain ⟨m, vs, rfl, y3'⟩ := pI_s y2'
  obtain ⟨c', vs, rfl, y4'⟩ := pO_s y3'
  obtain ⟨rfl, y5'⟩ := kR_s y4'
  obtain ⟨vs, rfl, y6'⟩ := pP_s y5'
  obtain ⟨t, vs, rfl, y7'⟩ := pI_s y6'
  obtain ⟨rfl, y8'⟩ := pE_s y7'
  obtain ⟨q', bl, rfl, y9'⟩ := bB_s y8'
  obtain ⟨a, b, c, d, q', rfl, y10'⟩ := t4_s y9'
  obtain ⟨rfl, y11'⟩ := tE_s y10'
  obtain ⟨v, bl, rfl, y12'⟩ := bAR_s y11'
  obtain ⟨q', bl, rfl, y13'⟩ := bB_s y12'
  obtain ⟨w0, w1, w2, w3, q', rfl, y14'⟩ := t4_s y13'
  obtain ⟨rfl, y15'⟩ := tE_s y14'
  obtain ⟨rfl, y16'⟩ := bE_s y15'
  have yy' := y16'
  exact hh' _ _ _ _ _ _ _ _ _ _ _ _ rfl rfl yy'
theorem r_pyr_Need_0 : RoundOk Try.prog t_pyr_Need (annOf []) l_pyr_Need Out 20 0 107 [1, 5, 11, 12, 13, 14] (kxOf [12, 13] [10]) (loopOf Try.f63 0) T_pyr_Need_0 := by
  intro vs bl Kc r h
  unfold T_pyr_Need_0 at h
  obtain ⟨t, y0', h'⟩ := getD_run h
  refine d_pyr_Need_0 y0' fun a b c d n m w0 w1 w2 w3 t v u1' u2' yy' => ?_
  subst u1' u2'
  cases yy'
  exact (b_pyr_Need_0 ..).trans h'
theorem o_pyr_Need : loopsOf (bodyOf Try.f63) = [loopOf Try.f63 0] := by kernel_rfl
theorem zz_pyr_Need_0 (a b c d n m w0 w1 w2 w3 t : Int) (v : List (Int × Int × Int × Int)) (hk : k_pyr_Need_0 a b c d n m w0 w1 w2 w3 t v = true) : ZZ (c_pyr_Need_0 a b c d n m w0 w1 w2 w3 t v) T_pyr_Need_0 [.one (.int .i64 n), .one (.ptr 0 0), .one (.int .i64 m), .one (.row 1), .one (.ptr 2 0), .one (.int .i64 t)] [some (.box [.int .i64 a, .int .i64 b, .int .i64 c, .int .i64 d]), some (.arr 28 (.pair (.int .i64) (.pair (.int .i64) (.pair (.int .i64) (.int .i64)))) v), some (.box [.int .i64 w0, .int .i64 w1, .int .i64 w2, .int .i64 w3])] := by
  simp only [k_pyr_Need_0, Bool.and_eq_true, decide_eq_true_eq] at hk
  obtain ⟨⟨⟨⟨z1, z2⟩, z3⟩, hv⟩, rfl⟩ := hk
  have b1 := inr_b z1
  have b2 := inr_b z2
  have b3 := inr_b z3
  have hw := ndW_b (a := a) (b := b) (c := c) (d := d) (n := n) (m := m) (res := t) (w := (w0, w1, w2, w3)) hv
  refine Exists.elim (z_fold (T := T_pyr_Need_0) (st := fun j => ([.one (.int .i64 n), .one (.ptr 0 0), .one (.int .i64 m), .one (.row 1), .one (.ptr 2 0), .one (.int .i64 (t - (j : Int)))], [some (.box [.int .i64 a, .int .i64 b, .int .i64 c, .int .i64 d]), some (.arr 28 (.pair (.int .i64) (.pair (.int .i64) (.pair (.int .i64) (.int .i64)))) (ndL a b c d n m t (w0, w1, w2, w3) j)), some (.box [.int .i64 ((ndW a b c d n m t (w0, w1, w2, w3) j).1), .int .i64 ((ndW a b c d n m t (w0, w1, w2, w3) j).2.1), .int .i64 ((ndW a b c d n m t (w0, w1, w2, w3) j).2.2.1), .int .i64 ((ndW a b c d n m t (w0, w1, w2, w3) j).2.2.2)])])) t.toNat (.leaf (.exit 0) [.one (.row 0), .one (.ptr 1 0)] [some (.arr 28 (.pair (.int .i64) (.pair (.int .i64) (.pair (.int .i64) (.int .i64)))) (ndL a b c d n m t (w0, w1, w2, w3) t.toNat)), some (.box [.int .i64 ((ndW a b c d n m t (w0, w1, w2, w3) t.toNat).1), .int .i64 ((ndW a b c d n m t (w0, w1, w2, w3) t.toNat).2.1), .int .i64 ((ndW a b c d n m t (w0, w1, w2, w3) t.toNat).2.2.1), .int .i64 ((ndW a b c d n m t (w0, w1, w2, w3) t.toNat).2.2.2)])]) (fun j hj F K => ?_) (fun F K => ?_)) (fun k hk => ⟨k, fun K r h => ?_⟩)
  · obtain ⟨q, hq⟩ : ∃ q : Nat, t - (j : Int) = q := ⟨(t - (j : Int)).toNat, by omega⟩
    have hb := valid_b (hw j)
    have hl := ndL_len (a := a) (b := b) (c := c) (d := d) (n := n) (m := m) (res := t) (w := (w0, w1, w2, w3)) j
    have hs := ndL_step (a := a) (b := b) (c := c) (d := d) (n := n) (m := m) (w := (w0, w1, w2, w3)) hq (by omega)
    simp only [tu_pyr_Need_0, U_pyr_Need_0, LT.next, LT.run, ite2_bool, decide_eq_true_eq, hq, List.length_set, hl]
    have i1 : IntKind.wrap .i64 (IntKind.wrap .i64 (3 * (q : Int)) - 2) = ((3 * q - 3 + 1 : Nat) : Int) := by rw [wrap_in (n := 3 * (q : Int)) (by omega) (by omega), wrap_in (by omega) (by omega)]; omega
    have i2 : IntKind.wrap .i64 (IntKind.wrap .i64 (3 * (q : Int)) - 1) = ((3 * q - 3 + 2 : Nat) : Int) := by rw [wrap_in (n := 3 * (q : Int)) (by omega) (by omega), wrap_in (by omega) (by omega)]; omega
    have i3 : IntKind.wrap .i64 (3 * (q : Int)) = ((3 * q - 3 + 3 : Nat) : Int) := by rw [wrap_in (by omega) (by omega)]; omega
    simp only [i1, i2]
    simp only [i3, Int.toNat_natCast]
    rw [if_pos (by omega), if_pos (by omega), if_pos (by omega), if_pos (by omega), if_pos (by omega), if_pos (by omega), if_pos (by omega), wrap_in (n := (q : Int) - 1) (by omega) (by omega), show (q : Int) - 1 = t - ((j + 1 : Nat) : Int) by omega, wrap_in (n := (ndW a b c d n m t (w0, w1, w2, w3) j).1 - m) (by omega) (by omega), wrap_in (n := (ndW a b c d n m t (w0, w1, w2, w3) j).2.1 - m) (by omega) (by omega), wrap_in (n := (ndW a b c d n m t (w0, w1, w2, w3) j).2.2.1 + m) (by omega) (by omega), wrap_in (n := (ndW a b c d n m t (w0, w1, w2, w3) j).2.2.2 + m) (by omega) (by omega), ← hs, ← hq]
    rfl
  · simp only [tu_pyr_Need_0, U_pyr_Need_0, LT.next, LT.run, ite2_bool, decide_eq_true_eq]
    rw [if_neg (by omega)]
  · have hk' := hk K r h
    rw [show t - ((0 : Nat) : Int) = t by simp, ndL_zero] at hk'
    exact hk'
theorem z_pyr_Need_0 : ZOk S_pyr_Need_0 T_pyr_Need_0 := by
  intro vs bl t y0'
  refine d_pyr_Need_0 y0' fun a b c d n m w0 w1 w2 w3 t v u1' u2' yy' => ?_
  subst u1' u2'
  obtain ⟨hk, rfl⟩ := Prod.mk.inj (Option.some.inj yy')
  exact zz_pyr_Need_0 _ _ _ _ _ _ _ _ _ _ _ _ hk
theorem q_pyr_Need (a b c d n r e f g h k : Int) (hok : true = true) : funR Try.prog t_pyr_Need (annOf []) l_pyr_Need 20 Try.f63 [.agg [.int .i64 a, .int .i64 b, .int .i64 c, .int .i64 d], .one (.int .i64 n), .one (.int .i64 r), .agg [.int .i64 e, .int .i64 f, .int .i64 g, .int .i64 h], .one (.int .i64 k)] [] = some ⟨.one (.row 0), [], [.arr 28 (.pair (.int .i64) (.pair (.int .i64) (.pair (.int .i64) (.int .i64)))) (ndF a b c d n r e f g h k)]⟩ := by
    refine (e_pyr_Need ..).trans ?_
    simp only [ite2_bool, decide_eq_true_eq]
    have hm : (marg k == 0) = !inr 1 3 k := by
      rw [← marg_k]
      have : 0 ≤ marg k := by unfold marg; split <;> (try split) <;> omega
      by_cases h : marg k = 0
      · simp [h]
      · have h2 : marg k > 0 := by omega
        simp [h, h2]
    have hm4 : inr 0 4 (marg k) = true := by unfold marg; split <;> (try split) <;> rfl
    cases hv : valid a b c d
    · rw [show ndF a b c d n r e f g h k = [] by simp [ndF, ndOk, hv]]
      simp
    cases hn : inr 0 5 n
    · rw [show ndF a b c d n r e f g h k = [] by simp [ndF, ndOk, hn]]
      simp [count, hn]
    have hb := inr_b hn
    cases hr : inr 0 n r
    · rw [show ndF a b c d n r e f g h k = [] by simp [ndF, ndOk, hr]]
      have : r < 0 ∨ r > n := by simp [inr] at hr; omega
      have hc0 : ¬ count n = 0 := by simp only [count, hn, if_true]; omega
      rcases this with h2 | h2 <;> simp [h2, hc0]
    have hc := inr_b hr
    cases hk : inr 1 3 k
    · rw [show ndF a b c d n r e f g h k = [] by simp [ndF, ndOk, hk]]
      have hc0 : ¬ count n = 0 := by simp only [count, hn, if_true]; omega
      simp [hm, hk, hc0, show ¬ r < 0 by omega, show ¬ r > n by omega]
    have hcn : count n = 3 * n + 1 := by simp only [count, hn, if_true]
    have hc0 : (3 * n + 1 == 0) = false := by simp only [beq_eq_false_iff_ne, ne_eq]; omega
    have vw := inter_v (a := e) (b := f) (c := g) (d := h) (valid_resR6 a b c d n r)
    have hk0 : k_pyr_Need_0 a b c d n (marg k) (inter e f g h (resR a b c d n r).1 (resR a b c d n r).2.1 (resR a b c d n r).2.2.1 (resR a b c d n r).2.2.2).1 (inter e f g h (resR a b c d n r).1 (resR a b c d n r).2.1 (resR a b c d n r).2.2.1 (resR a b c d n r).2.2.2).2.1 (inter e f g h (resR a b c d n r).1 (resR a b c d n r).2.1 (resR a b c d n r).2.2.1 (resR a b c d n r).2.2.2).2.2.1 (inter e f g h (resR a b c d n r).1 (resR a b c d n r).2.1 (resR a b c d n r).2.2.1 (resR a b c d n r).2.2.2).2.2.2 r (List.replicate (3 * n + 1).toNat (0, 0, 0, 0)) = true := by
      simp only [k_pyr_Need_0, hn, hr, hm4, vw, decide_true, Bool.and_self]
    cases he : empty (ndIn a b c d n r e f g h).1 (ndIn a b c d n r e f g h).2.1 (ndIn a b c d n r e f g h).2.2.1 (ndIn a b c d n r e f g h).2.2.2
    · rw [show ndF a b c d n r e f g h k = (ndL a b c d n (marg k) r (ndIn a b c d n r e f g h) r.toNat).set 0 (ndW a b c d n (marg k) r (ndIn a b c d n r e f g h) r.toNat) by simp only [ndF, ndOk, hv, hn, hr, hk, he, Bool.and_self, if_true, Bool.false_eq_true, if_false]]
      unfold ndIn at he
      simp only [hm, hk, hcn, hc0, he, hk0, ndL_len, Bool.not_true, Bool.false_eq_true, if_false, if_true]
      rw [if_neg (by omega), if_neg (by omega), if_pos (by omega), if_pos (by omega), if_pos (by omega)]
      rfl
    · rw [show ndF a b c d n r e f g h k = List.replicate (count n).toNat (0, 0, 0, 0) by simp only [ndF, ndOk, hv, hn, hr, hk, he, Bool.and_self, if_true]]
      unfold ndIn at he
      simp only [hm, hk, hcn, hc0, he, Bool.not_true, Bool.false_eq_true, if_false, if_true]
      rw [if_neg (by omega), if_neg (by omega), if_pos (by omega)]
      rfl
theorem s_pyr_Need : SoundFun Try.prog 63 G_pyr_Need := by
  refine fun_ok (tab := t_pyr_Need) (ann := annOf []) (lt := l_pyr_Need) (tab_cons s_pyr_Count (tab_cons s_rect_Valid (tab_cons s_rect_Empty (tab_cons s_pyr_validLevels (tab_cons s_pyr_Resolution (tab_cons s_dwt_Bands (tab_cons s_lift_Margin (tab_cons s_rect_Intersect tab_nil)))))))) (by kernel_rfl) (fn := Try.f63) (by kernel_rfl) (by decide) (c := bodyOf Try.f63) (by kernel_rfl) (by
    intro m b hb
    have hb' : b ∈ loopsOf (bodyOf Try.f63) := hb
    rw [o_pyr_Need] at hb'
    simp only [List.mem_cons, List.not_mem_nil, or_false] at hb'
    rcases hb' with rfl
    · exact loop_ok (key := 9) (by kernel_rfl) rfl r_pyr_Need_0 z_pyr_Need_0 m
    ) ?_ (keep_nil (by kernel_rfl))
  intro args lent o y0'
  unfold G_pyr_Need at y0'
  obtain ⟨q', args, rfl, y1'⟩ := pA_s y0'
  obtain ⟨a, b, c, d, q', rfl, y2'⟩ := t4_s y1'
  obtain ⟨rfl, y3'⟩ := tE_s y2'
  obtain ⟨n, args, rfl, y4'⟩ := pI_s y3'
  obtain ⟨r, args, rfl, y5'⟩ := pI_s y4'
  obtain ⟨q', args, rfl, y6'⟩ := pA_s y5'
  obtain ⟨e, f, g, h, q', rfl, y7'⟩ := t4_s y6'
  obtain ⟨rfl, y8'⟩ := tE_s y7'
  obtain ⟨k, args, rfl, y9'⟩ := pI_s y8'
  obtain ⟨rfl, y10'⟩ := pE_s y9'
  obtain ⟨rfl, y11'⟩ := nE_s y10'
  have yy' := y11'
  unfold H_pyr_Need at yy'
  obtain ⟨hok, rfl⟩ := Prod.mk.inj (Option.some.inj yy')
  exact ⟨20, q_pyr_Need _ _ _ _ _ _ _ _ _ _ _ hok⟩


theorem small_d {n : Nat} (h : n ≤ 16777216) : small n = true := by simp only [small, decide_eq_true_eq]; omega



theorem d_roi_Valid_0 {α : Type} {vs : List V} {bl : List (Option Blk)} {K} {r : α} {Q : Prop} (y0' : D_roi_Valid_0 vs bl K = some r) (hh' : ∀ (l : List (Int × Int × Int × Int)) (n : Int) (i : Int), vs = [.one (.lst (.pair (.int .i64) (.pair (.int .i64) (.pair (.int .i64) (.int .i64)))) l), .one (.int .i64 n), .one (.int .i64 i)] → bl = [] → K l n i = some r → Q) : Q := by
  unfold D_roi_Valid_0 at y0'
  obtain ⟨c', vs, rfl, y1'⟩ := pO_s y0'
  obtain ⟨l, rfl, y2'⟩ := kLR_s y1'
  obtain ⟨n, vs, rfl, y3'⟩ := pI_s y2'
  obtain ⟨i, vs, rfl, y4'⟩ := pI_s y3'
  obtain ⟨rfl, y5'⟩ := pE_s y4'
  obtain ⟨rfl, y6'⟩ := bE_s y5'
  have yy' := y6'
  exact hh' _ _ _ rfl rfl yy'
theorem r_roi_Valid_0 : RoundOk Try.prog t_roi_Valid (annOf []) l_roi_Valid Out 20 0 22 [8, 9, 10] (kxOf [] [2]) (loopOf Try.f9 0) T_roi_Valid_0 := by
  intro vs bl Kc r h
  unfold T_roi_Valid_0 at h
  obtain ⟨t, y0', h'⟩ := getD_run h
  refine d_roi_Valid_0 y0' fun l n i u1' u2' yy' => ?_
  subst u1' u2'
  cases yy'
  exact (b_roi_Valid_0 ..).trans h'
theorem o_roi_Valid : loopsOf (bodyOf Try.f9) = [loopOf Try.f9 0] := by kernel_rfl
theorem zz_roi_Valid_0 (l : List (Int × Int × Int × Int)) (hsm : small (l.length) = true) (hc : true = true) : ZZ (c_roi_Valid_0 l) T_roi_Valid_0 [.one (.lst (.pair (.int .i64) (.pair (.int .i64) (.pair (.int .i64) (.int .i64)))) l), .one (.int .i64 (l.length : Int)), .one (.int .i64 0)] [] := by
  refine z_list (st := fun i => ([.one (.lst (.pair (.int .i64) (.pair (.int .i64) (.pair (.int .i64) (.int .i64)))) l), .one (.int .i64 (l.length : Int)), .one (.int .i64 ((i : Nat) : Int))], [])) l (0, 0, 0, 0) (rgOk) _ _ (fun i hi F K => ?_) (fun F K => ?_)
  · have hi' : (i : Int) < (l.length : Int) := by omega
    simp only [tu_roi_Valid_0, U_roi_Valid_0, LT.next, LT.run, ite2_dec, ite2_bool, wrap_next hi hsm, Int.toNat_natCast, hi', Int.natCast_nonneg, and_self, if_true, gI, gP, gC, gR, rgOk]
    (repeat' split) <;> simp_all <;> omega
  · simp only [tu_roi_Valid_0, U_roi_Valid_0, LT.next, LT.run, ite2_dec, Int.lt_irrefl, if_false]
    try rfl
theorem z_roi_Valid_0 : ZOk S_roi_Valid_0 T_roi_Valid_0 := by
  intro vs bl t y0'
  refine d_roi_Valid_0 y0' fun l n i u1' u2' yy' => ?_
  subst u1' u2'
  obtain ⟨hk, rfl⟩ := Prod.mk.inj (Option.some.inj yy')
  unfold k_roi_Valid_0 at hk
  simp only [Bool.and_eq_true, decide_eq_true_eq, and_assoc] at hk
  obtain ⟨rfl, rfl, hsm, hc⟩ := hk
  exact zz_roi_Valid_0 _ hsm (by first | exact hc | simpa using hc)
theorem q_roi_Valid (l : List (Int × Int × Int × Int)) (hok : true = true) : funR Try.prog t_roi_Valid (annOf []) l_roi_Valid 20 Try.f9 [.one (.lst (.pair (.int .i64) (.pair (.int .i64) (.pair (.int .i64) (.int .i64)))) l)] [] = some ⟨.one (.int .i64 (rgErr l)), [], []⟩ := by
    refine (e_roi_Valid ..).trans ?_
    simp only [ite2_bool, decide_eq_true_eq, rgErr]
    by_cases h : (l.length : Int) > 8
    · simp [h]
    · have hs : small l.length = true := small_d (by omega)
      rw [if_neg h, if_neg h]
      rcases Bool.eq_false_or_eq_true (l.all rgOk) with x | x <;> simp [k_roi_Valid_0, p_roi_Valid_0, hs, x]
theorem s_roi_Valid : SoundFun Try.prog 9 G_roi_Valid := by
  refine fun_ok (tab := t_roi_Valid) (ann := annOf []) (lt := l_roi_Valid) (tab_cons s_rect_Valid (tab_cons s_rect_Empty tab_nil)) (by kernel_rfl) (fn := Try.f9) (by kernel_rfl) (by decide) (c := bodyOf Try.f9) (by kernel_rfl) (by
    intro m b hb
    have hb' : b ∈ loopsOf (bodyOf Try.f9) := hb
    rw [o_roi_Valid] at hb'
    simp only [List.mem_cons, List.not_mem_nil, or_false] at hb'
    rcases hb' with rfl
    · exact loop_ok (key := 4) (by kernel_rfl) rfl r_roi_Valid_0 z_roi_Valid_0 m
    ) ?_ (keep_nil (by kernel_rfl))
  intro args lent o y0'
  unfold G_roi_Valid at y0'
  obtain ⟨c', args, rfl, y1'⟩ := pO_s y0'
  obtain ⟨l, rfl, y2'⟩ := kLR_s y1'
  obtain ⟨rfl, y3'⟩ := pE_s y2'
  obtain ⟨rfl, y4'⟩ := nE_s y3'
  have yy' := y4'
  unfold H_roi_Valid at yy'
  obtain ⟨hok, rfl⟩ := Prod.mk.inj (Option.some.inj yy')
  exact ⟨20, q_roi_Valid _ hok⟩
theorem d_ref30_Valid_0 {α : Type} {vs : List V} {bl : List (Option Blk)} {K} {r : α} {Q : Prop} (y0' : D_ref30_Valid_0 vs bl K = some r) (hh' : ∀ (l : List (Int × Int × Int × Int)) (i : Int), vs = [.one (.lst (.pair (.int .i64) (.pair (.int .i64) (.pair (.int .i64) (.int .i64)))) l), .one (.int .i64 i)] → bl = [] → K l i = some r → Q) : Q := by
  unfold D_ref30_Valid_0 at y0'
  obtain ⟨c', vs, rfl, y1'⟩ := pO_s y0'
  obtain ⟨l, rfl, y2'⟩ := kLR_s y1'
  obtain ⟨i, vs, rfl, y3'⟩ := pI_s y2'
  obtain ⟨rfl, y4'⟩ := pE_s y3'
  obtain ⟨rfl, y5'⟩ := bE_s y4'
  have yy' := y5'
  exact hh' _ _ rfl rfl yy'
theorem r_ref30_Valid_0 : RoundOk Try.prog t_ref30_Valid (annOf []) l_ref30_Valid Out 20 0 26 [0, 3] (kxOf [] [2]) (loopOf Try.f10 0) T_ref30_Valid_0 := by
  intro vs bl Kc r h
  unfold T_ref30_Valid_0 at h
  obtain ⟨t, y0', h'⟩ := getD_run h
  refine d_ref30_Valid_0 y0' fun l i u1' u2' yy' => ?_
  subst u1' u2'
  cases yy'
  exact (b_ref30_Valid_0 ..).trans h'
theorem o_ref30_Valid : loopsOf (bodyOf Try.f10) = [loopOf Try.f10 0] := by kernel_rfl
theorem zz_ref30_Valid_0 (l : List (Int × Int × Int × Int)) (hsm : small (l.length) = true) (hc : true = true) : ZZ (c_ref30_Valid_0 l) T_ref30_Valid_0 [.one (.lst (.pair (.int .i64) (.pair (.int .i64) (.pair (.int .i64) (.int .i64)))) l), .one (.int .i64 0)] [] := by
  refine z_list (st := fun i => ([.one (.lst (.pair (.int .i64) (.pair (.int .i64) (.pair (.int .i64) (.int .i64)))) l), .one (.int .i64 ((i : Nat) : Int))], [])) l (0, 0, 0, 0) (rgOk) _ _ (fun i hi F K => ?_) (fun F K => ?_)
  · have hi' : (i : Int) < (l.length : Int) := by omega
    simp only [tu_ref30_Valid_0, U_ref30_Valid_0, LT.next, LT.run, ite2_dec, ite2_bool, wrap_next hi hsm, Int.toNat_natCast, hi', Int.natCast_nonneg, and_self, if_true, gI, gP, gC, gR, rgOk]
    (repeat' split) <;> simp_all <;> omega
  · simp only [tu_ref30_Valid_0, U_ref30_Valid_0, LT.next, LT.run, ite2_dec, Int.lt_irrefl, if_false]
    try rfl
theorem z_ref30_Valid_0 : ZOk S_ref30_Valid_0 T_ref30_Valid_0 := by
  intro vs bl t y0'
  refine d_ref30_Valid_0 y0' fun l i u1' u2' yy' => ?_
  subst u1' u2'
  obtain ⟨hk, rfl⟩ := Prod.mk.inj (Option.some.inj yy')
  unfold k_ref30_Valid_0 at hk
  simp only [Bool.and_eq_true, decide_eq_true_eq, and_assoc] at hk
  obtain ⟨rfl, hsm, hc⟩ := hk
  exact zz_ref30_Valid_0 _ hsm (by first | exact hc | simpa using hc)
theorem q_ref30_Valid (l : List (Int × Int × Int × Int)) (hok : true = true) : funR Try.prog t_ref30_Valid (annOf []) l_ref30_Valid 20 Try.f10 [.one (.lst (.pair (.int .i64) (.pair (.int .i64) (.pair (.int .i64) (.int .i64)))) l)] [] = some ⟨.one (.int .i64 (rgErr l)), [], []⟩ := by
    refine (e_ref30_Valid ..).trans ?_
    simp only [ite2_bool, decide_eq_true_eq, rgErr]
    by_cases h : (l.length : Int) > 8
    · simp [h]
    · have hs : small l.length = true := small_d (by omega)
      rw [if_neg h, if_neg h]
      rcases Bool.eq_false_or_eq_true (l.all rgOk) with x | x <;> simp [k_ref30_Valid_0, p_ref30_Valid_0, hs, x]
theorem s_ref30_Valid : SoundFun Try.prog 10 G_ref30_Valid := by
  refine fun_ok (tab := t_ref30_Valid) (ann := annOf []) (lt := l_ref30_Valid) (tab_cons s_ref01_Valid (tab_cons s_ref01_Empty tab_nil)) (by kernel_rfl) (fn := Try.f10) (by kernel_rfl) (by decide) (c := bodyOf Try.f10) (by kernel_rfl) (by
    intro m b hb
    have hb' : b ∈ loopsOf (bodyOf Try.f10) := hb
    rw [o_ref30_Valid] at hb'
    simp only [List.mem_cons, List.not_mem_nil, or_false] at hb'
    rcases hb' with rfl
    · exact loop_ok (key := 4) (by kernel_rfl) rfl r_ref30_Valid_0 z_ref30_Valid_0 m
    ) ?_ (keep_nil (by kernel_rfl))
  intro args lent o y0'
  unfold G_ref30_Valid at y0'
  obtain ⟨c', args, rfl, y1'⟩ := pO_s y0'
  obtain ⟨l, rfl, y2'⟩ := kLR_s y1'
  obtain ⟨rfl, y3'⟩ := pE_s y2'
  obtain ⟨rfl, y4'⟩ := nE_s y3'
  have yy' := y4'
  unfold H_ref30_Valid at yy'
  obtain ⟨hok, rfl⟩ := Prod.mk.inj (Option.some.inj yy')
  exact ⟨20, q_ref30_Valid _ hok⟩
theorem mx_b {a b c i : Int} (h0 : 0 ≤ a) (h : a < c) (hc : c ≤ 4096) (hb : 0 ≤ b ∧ b ≤ 4096) (hi : 0 ≤ i) (hi2 : i < 16777217) : IntKind.wrap .i64 (c - a) = c - a ∧ IntKind.wrap .i64 (a + Int.tmod i (c - a)) = mxI a c i ∧ IntKind.wrap .i64 (b + IntKind.wrap .i64 (Int.tdiv i (c - a))) = myI a b c i := by
  have e1 := Int.emod_nonneg i (show c - a ≠ 0 by omega)
  have e2 := Int.emod_lt_of_pos i (show 0 < c - a by omega)
  have e3 := Int.ediv_nonneg hi (show 0 ≤ c - a by omega)
  have e4 := Int.ediv_le_self (c - a) hi
  unfold mxI myI
  rw [Int.tmod_eq_emod_of_nonneg hi, Int.tdiv_eq_ediv_of_nonneg hi]
  refine ⟨wrap_in (by omega) (by omega), wrap_in (by omega) (by omega), ?_⟩
  rw [wrap_in (n := i / (c - a)) (by omega) (by omega), wrap_in (by omega) (by omega)]
theorem pw_30 {s : Int} (h : inr 0 30 s = true) : IntKind.wrap .u64 s = s ∧ IntKind.wrap .i64 (1 * 2 ^ min s.toNat 64) = pw s ∧ IntKind.wrap .i64 (-1 * 2 ^ min s.toNat 64) = -pw s ∧ 1 ≤ pw s ∧ pw s ≤ 1073741824 := by
  have hb := inr_b h
  obtain ⟨m, rfl⟩ : ∃ m : Nat, s = m := ⟨s.toNat, by omega⟩
  have : ∀ m : Nat, m < 31 → IntKind.wrap .i64 (1 * 2 ^ min m 64) = pw m ∧ IntKind.wrap .i64 (-1 * 2 ^ min m 64) = -pw m ∧ 1 ≤ pw m ∧ pw m ≤ 1073741824 := by decide
  exact ⟨wrapu_in (by omega) (by omega), this m (by omega)⟩
theorem lt_ac {a b c d : Int} {u : List Int} (hv : valid a b c d = true) (hl : (u.length : Int) = area a b c d) {j : Nat} (hj : j < u.length) : a < c ∧ 0 ≤ a ∧ c ≤ 4096 ∧ 0 ≤ b ∧ b ≤ 4096 := by
  have vb := valid_b hv
  have av := area_v hv
  have : a ≠ c := by
    rintro rfl
    have : (a - a) * (d - b) = 0 := by rw [Int.sub_self, Int.zero_mul]
    omega
  omega
theorem q_ref01_Has (a b c d x y : Int) (hok : true = true) : funR Try.prog t_ref01_Has (annOf []) l_ref01_Has 20 Try.f73 [.agg [.int .i64 a, .int .i64 b, .int .i64 c, .int .i64 d], .agg [.int .i64 x, .int .i64 y]] [] = some ⟨.one (.bool (has a b c d x y)), [], []⟩ := by
    refine (e_ref01_Has ..).trans ?_
    simp only [ite2_dec, ite2_bool, mx_eq, mn_eq, has]
    (repeat' split) <;> (try simp_all) <;> (try omega) <;> (try (rw [Bool.eq_iff_iff]; simp; omega))
theorem s_ref01_Has : SoundFun Try.prog 73 G_ref01_Has := by
  refine fun_ok (tab := t_ref01_Has) (ann := annOf []) (lt := l_ref01_Has) tab_nil (by kernel_rfl) (fn := Try.f73) (by kernel_rfl) (by decide) (c := bodyOf Try.f73) (by kernel_rfl) (no_loops (by kernel_rfl)) ?_ (keep_nil (by kernel_rfl))
  intro args lent o y0'
  unfold G_ref01_Has at y0'
  obtain ⟨q', args, rfl, y1'⟩ := pA_s y0'
  obtain ⟨a, b, c, d, q', rfl, y2'⟩ := t4_s y1'
  obtain ⟨rfl, y3'⟩ := tE_s y2'
  obtain ⟨q', args, rfl, y4'⟩ := pA_s y3'
  obtain ⟨x, q', rfl, y5'⟩ := tI_s y4'
  obtain ⟨y, q', rfl, y6'⟩ := tI_s y5'
  obtain ⟨rfl, y7'⟩ := tE_s y6'
  obtain ⟨rfl, y8'⟩ := pE_s y7'
  obtain ⟨rfl, y9'⟩ := nE_s y8'
  have yy' := y9'
  unfold H_ref01_Has at yy'
  obtain ⟨hok, rfl⟩ := Prod.mk.inj (Option.some.inj yy')
  exact ⟨20, q_ref01_Has _ _ _ _ _ _ hok⟩
theorem d_ref30_Masked_0 {α : Type} {vs : List V} {bl : List (Option Blk)} {K} {r : α} {Q : Prop} (y0' : D_ref30_Masked_0 vs bl K = some r) (hh' : ∀ (x : Int) (y : Int) (m : List (Int × Int × Int × Int)) (i : Int), vs = [.one (.int .i64 x), .one (.int .i64 y), .one (.lst (.pair (.int .i64) (.pair (.int .i64) (.pair (.int .i64) (.int .i64)))) m), .one (.int .i64 i)] → bl = [] → K x y m i = some r → Q) : Q := by
  unfold D_ref30_Masked_0 at y0'
  obtain ⟨x, vs, rfl, y1'⟩ := pI_s y0'
  obtain ⟨y, vs, rfl, y2'⟩ := pI_s y1'
  obtain ⟨c', vs, rfl, y3'⟩ := pO_s y2'
  obtain ⟨m, rfl, y4'⟩ := kLR_s y3'
  obtain ⟨i, vs, rfl, y5'⟩ := pI_s y4'
  obtain ⟨rfl, y6'⟩ := pE_s y5'
  obtain ⟨rfl, y7'⟩ := bE_s y6'
  have yy' := y7'
  exact hh' _ _ _ _ rfl rfl yy'
theorem r_ref30_Masked_0 : RoundOk Try.prog t_ref30_Masked (annOf []) l_ref30_Masked Out 20 0 22 [0, 1, 2, 7] (kxOf [] [6]) (loopOf Try.f45 0) T_ref30_Masked_0 := by
  intro vs bl Kc r h
  unfold T_ref30_Masked_0 at h
  obtain ⟨t, y0', h'⟩ := getD_run h
  refine d_ref30_Masked_0 y0' fun x y m i u1' u2' yy' => ?_
  subst u1' u2'
  cases yy'
  exact (b_ref30_Masked_0 ..).trans h'
theorem o_ref30_Masked : loopsOf (bodyOf Try.f45) = [loopOf Try.f45 0] := by kernel_rfl
theorem zz_ref30_Masked_0 (x y : Int) (m : List (Int × Int × Int × Int)) (hsm : small (m.length) = true) (hc : true = true) : ZZ (c_ref30_Masked_0 x y m) T_ref30_Masked_0 [.one (.int .i64 x), .one (.int .i64 y), .one (.lst (.pair (.int .i64) (.pair (.int .i64) (.pair (.int .i64) (.int .i64)))) m), .one (.int .i64 0)] [] := by
  refine z_list (st := fun i => ([.one (.int .i64 x), .one (.int .i64 y), .one (.lst (.pair (.int .i64) (.pair (.int .i64) (.pair (.int .i64) (.int .i64)))) m), .one (.int .i64 ((i : Nat) : Int))], [])) m (0, 0, 0, 0) (fun q => !has q.1 q.2.1 q.2.2.1 q.2.2.2 x y) _ _ (fun i hi F K => ?_) (fun F K => ?_)
  · have hi' : (i : Int) < (m.length : Int) := by omega
    simp only [tu_ref30_Masked_0, U_ref30_Masked_0, LT.next, LT.run, ite2_dec, ite2_bool, wrap_next hi hsm, Int.toNat_natCast, hi', Int.natCast_nonneg, and_self, if_true, gI, gP, gC, gR]
    (repeat' split) <;> simp_all <;> omega
  · simp only [tu_ref30_Masked_0, U_ref30_Masked_0, LT.next, LT.run, ite2_dec, Int.lt_irrefl, if_false]
    try rfl
theorem z_ref30_Masked_0 : ZOk S_ref30_Masked_0 T_ref30_Masked_0 := by
  intro vs bl t y0'
  refine d_ref30_Masked_0 y0' fun x y m i u1' u2' yy' => ?_
  subst u1' u2'
  obtain ⟨hk, rfl⟩ := Prod.mk.inj (Option.some.inj yy')
  unfold k_ref30_Masked_0 at hk
  simp only [Bool.and_eq_true, decide_eq_true_eq, and_assoc] at hk
  obtain ⟨rfl, hsm, hc⟩ := hk
  exact zz_ref30_Masked_0 _ _ _ hsm (by first | exact hc | simpa using hc)
theorem q_ref30_Masked (x y : Int) (m : List (Int × Int × Int × Int)) (hok : small m.length = true) : funR Try.prog t_ref30_Masked (annOf []) l_ref30_Masked 20 Try.f45 [.one (.int .i64 x), .one (.int .i64 y), .one (.lst (.pair (.int .i64) (.pair (.int .i64) (.pair (.int .i64) (.int .i64)))) m)] [] = some ⟨.one (.bool (mskB x y m)), [], []⟩ := by
    refine (e_ref30_Masked ..).trans ?_
    simp [ite2_bool, k_ref30_Masked_0, p_ref30_Masked_0, hok, mskB]
    split <;> simp_all
theorem s_ref30_Masked : SoundFun Try.prog 45 G_ref30_Masked := by
  refine fun_ok (tab := t_ref30_Masked) (ann := annOf []) (lt := l_ref30_Masked) (tab_cons s_ref01_Has tab_nil) (by kernel_rfl) (fn := Try.f45) (by kernel_rfl) (by decide) (c := bodyOf Try.f45) (by kernel_rfl) (by
    intro m b hb
    have hb' : b ∈ loopsOf (bodyOf Try.f45) := hb
    rw [o_ref30_Masked] at hb'
    simp only [List.mem_cons, List.not_mem_nil, or_false] at hb'
    rcases hb' with rfl
    · exact loop_ok (key := 2) (by kernel_rfl) rfl r_ref30_Masked_0 z_ref30_Masked_0 m
    ) ?_ (keep_nil (by kernel_rfl))
  intro args lent o y0'
  unfold G_ref30_Masked at y0'
  obtain ⟨x, args, rfl, y1'⟩ := pI_s y0'
  obtain ⟨y, args, rfl, y2'⟩ := pI_s y1'
  obtain ⟨c', args, rfl, y3'⟩ := pO_s y2'
  obtain ⟨m, rfl, y4'⟩ := kLR_s y3'
  obtain ⟨rfl, y5'⟩ := pE_s y4'
  obtain ⟨rfl, y6'⟩ := nE_s y5'
  have yy' := y6'
  unfold H_ref30_Masked at yy'
  obtain ⟨hok, rfl⟩ := Prod.mk.inj (Option.some.inj yy')
  exact ⟨20, q_ref30_Masked _ _ _ hok⟩
theorem d_roi_masked_0 {α : Type} {vs : List V} {bl : List (Option Blk)} {K} {r : α} {Q : Prop} (y0' : D_roi_masked_0 vs bl K = some r) (hh' : ∀ (x : Int) (y : Int) (m : List (Int × Int × Int × Int)) (n : Int) (i : Int), vs = [.one (.ptr 0 0), .one (.lst (.pair (.int .i64) (.pair (.int .i64) (.pair (.int .i64) (.int .i64)))) m), .one (.int .i64 n), .one (.int .i64 i)] → bl = [some (.box [.int .i64 x, .int .i64 y])] → K x y m n i = some r → Q) : Q := by
  unfold D_roi_masked_0 at y0'
  obtain ⟨vs, rfl, y1'⟩ := pP_s y0'
  obtain ⟨c', vs, rfl, y2'⟩ := pO_s y1'
  obtain ⟨m, rfl, y3'⟩ := kLR_s y2'
  obtain ⟨n, vs, rfl, y4'⟩ := pI_s y3'
  obtain ⟨i, vs, rfl, y5'⟩ := pI_s y4'
  obtain ⟨rfl, y6'⟩ := pE_s y5'
  obtain ⟨q', bl, rfl, y7'⟩ := bB_s y6'
  obtain ⟨x, q', rfl, y8'⟩ := tI_s y7'
  obtain ⟨y, q', rfl, y9'⟩ := tI_s y8'
  obtain ⟨rfl, y10'⟩ := tE_s y9'
  obtain ⟨rfl, y11'⟩ := bE_s y10'
  have yy' := y11'
  exact hh' _ _ _ _ _ rfl rfl yy'
theorem r_roi_masked_0 : RoundOk Try.prog t_roi_masked (annOf []) l_roi_masked Out 20 0 39 [8, 29, 30, 31] (kxOf [] [6]) (loopOf Try.f43 0) T_roi_masked_0 := by
  intro vs bl Kc r h
  unfold T_roi_masked_0 at h
  obtain ⟨t, y0', h'⟩ := getD_run h
  refine d_roi_masked_0 y0' fun x y m n i u1' u2' yy' => ?_
  subst u1' u2'
  cases yy'
  exact (b_roi_masked_0 ..).trans h'
theorem o_roi_masked : loopsOf (bodyOf Try.f43) = [loopOf Try.f43 0] := by kernel_rfl
theorem zz_roi_masked_0 (x y : Int) (m : List (Int × Int × Int × Int)) (hsm : small (m.length) = true) (hc : true = true) : ZZ (c_roi_masked_0 x y m) T_roi_masked_0 [.one (.ptr 0 0), .one (.lst (.pair (.int .i64) (.pair (.int .i64) (.pair (.int .i64) (.int .i64)))) m), .one (.int .i64 (m.length : Int)), .one (.int .i64 0)] [some (.box [.int .i64 x, .int .i64 y])] := by
  refine z_list (st := fun i => ([.one (.ptr 0 0), .one (.lst (.pair (.int .i64) (.pair (.int .i64) (.pair (.int .i64) (.int .i64)))) m), .one (.int .i64 (m.length : Int)), .one (.int .i64 ((i : Nat) : Int))], [some (.box [.int .i64 x, .int .i64 y])])) m (0, 0, 0, 0) (fun q => !has q.1 q.2.1 q.2.2.1 q.2.2.2 x y) _ _ (fun i hi F K => ?_) (fun F K => ?_)
  · have hi' : (i : Int) < (m.length : Int) := by omega
    simp only [tu_roi_masked_0, U_roi_masked_0, LT.next, LT.run, ite2_dec, ite2_bool, wrap_next hi hsm, Int.toNat_natCast, hi', Int.natCast_nonneg, and_self, if_true, gI, gP, gC, gR]
    (repeat' split) <;> simp_all <;> omega
  · simp only [tu_roi_masked_0, U_roi_masked_0, LT.next, LT.run, ite2_dec, Int.lt_irrefl, if_false]
    try rfl
theorem z_roi_masked_0 : ZOk S_roi_masked_0 T_roi_masked_0 := by
  intro vs bl t y0'
  refine d_roi_masked_0 y0' fun x y m n i u1' u2' yy' => ?_
  subst u1' u2'
  obtain ⟨hk, rfl⟩ := Prod.mk.inj (Option.some.inj yy')
  unfold k_roi_masked_0 at hk
  simp only [Bool.and_eq_true, decide_eq_true_eq, and_assoc] at hk
  obtain ⟨rfl, rfl, hsm, hc⟩ := hk
  exact zz_roi_masked_0 _ _ _ hsm (by first | exact hc | simpa using hc)
theorem q_roi_masked (i a b c d : Int) (m : List (Int × Int × Int × Int)) (hok : (small m.length && valid a b c d && decide (a < c) && decide (0 ≤ i) && decide (i < 16777217)) = true) : funR Try.prog t_roi_masked (annOf []) l_roi_masked 20 Try.f43 [.one (.int .i64 i), .agg [.int .i64 a, .int .i64 b, .int .i64 c, .int .i64 d], .one (.lst (.pair (.int .i64) (.pair (.int .i64) (.pair (.int .i64) (.int .i64)))) m)] [] = some ⟨.one (.bool (mskB (mxI a c i) (myI a b c i) m)), [], []⟩ := by
    refine (e_roi_masked ..).trans ?_
    simp only [Bool.and_eq_true, decide_eq_true_eq, and_assoc] at hok
    obtain ⟨hs, hv, h1, h2, h3⟩ := hok
    have vb := valid_b hv
    have e := mx_b (i := i) vb.1 h1 vb.2.2.1 ⟨vb.2.2.2.1, by omega⟩ h2 h3
    rw [e.1]
    simp only [e.2.1, e.2.2, ite2_bool]
    rw [if_pos (by simp; omega), if_pos (by simp; omega)]
    simp only [k_roi_masked_0, p_roi_masked_0, hs, mskB, decide_true, Bool.and_self, if_true]
    rcases Bool.eq_false_or_eq_true (m.all fun q => !has q.1 q.2.1 q.2.2.1 q.2.2.2 (mxI a c i) (myI a b c i)) with x | x <;> simp [x]
theorem s_roi_masked : SoundFun Try.prog 43 G_roi_masked := by
  refine fun_ok (tab := t_roi_masked) (ann := annOf []) (lt := l_roi_masked) (tab_cons s_rect_Has tab_nil) (by kernel_rfl) (fn := Try.f43) (by kernel_rfl) (by decide) (c := bodyOf Try.f43) (by kernel_rfl) (by
    intro m b hb
    have hb' : b ∈ loopsOf (bodyOf Try.f43) := hb
    rw [o_roi_masked] at hb'
    simp only [List.mem_cons, List.not_mem_nil, or_false] at hb'
    rcases hb' with rfl
    · exact loop_ok (key := 4) (by kernel_rfl) rfl r_roi_masked_0 z_roi_masked_0 m
    ) ?_ (keep_nil (by kernel_rfl))
  intro args lent o y0'
  unfold G_roi_masked at y0'
  obtain ⟨i, args, rfl, y1'⟩ := pI_s y0'
  obtain ⟨q', args, rfl, y2'⟩ := pA_s y1'
  obtain ⟨a, b, c, d, q', rfl, y3'⟩ := t4_s y2'
  obtain ⟨rfl, y4'⟩ := tE_s y3'
  obtain ⟨c', args, rfl, y5'⟩ := pO_s y4'
  obtain ⟨m, rfl, y6'⟩ := kLR_s y5'
  obtain ⟨rfl, y7'⟩ := pE_s y6'
  obtain ⟨rfl, y8'⟩ := nE_s y7'
  have yy' := y8'
  unfold H_roi_masked at yy'
  obtain ⟨hok, rfl⟩ := Prod.mk.inj (Option.some.inj yy')
  exact ⟨20, q_roi_masked _ _ _ _ _ _ hok⟩
theorem d_roi_Fits_0 {α : Type} {vs : List V} {bl : List (Option Blk)} {K} {r : α} {Q : Prop} (y0' : D_roi_Fits_0 vs bl K = some r) (hh' : ∀ (a : Int) (b : Int) (c : Int) (d : Int) (s : Int) (t : Int) (n : Int) (i : Int) (m : List (Int × Int × Int × Int)) (u : List Int), vs = [.one (.lst (.pair (.int .i64) (.pair (.int .i64) (.pair (.int .i64) (.int .i64)))) m), .one (.int .i64 s), .one (.ptr 0 0), .one (.int .i64 t), .one (.lst (.int .i64) u), .one (.int .i64 n), .one (.int .i64 i)] → bl = [some (.box [.int .i64 a, .int .i64 b, .int .i64 c, .int .i64 d])] → K a b c d s t n i m u = some r → Q) : Q := by
  unfold D_roi_Fits_0 at y0'
  obtain ⟨c', vs, rfl, y1'⟩ := pO_s y0'
  obtain ⟨m, rfl, y2'⟩ := kLR_s y1'
  obtain ⟨s, vs, rfl, y3'⟩ := pI_s y2'
  obtain ⟨vs, rfl, y4'⟩ := pP_s y3'
  obtain ⟨t, vs, rfl, y5'⟩ := pI_s y4'
  obtain ⟨c', vs, rfl, y6'⟩ := pO_s y5'
  obtain ⟨u, rfl, y7'⟩ := kLI_s y6'
  obtain ⟨n, vs, rfl, y8'⟩ := pI_s y7'
  obtain ⟨i, vs, rfl, y9'⟩ := pI_s y8'
  obtain ⟨rfl, y10'⟩ := pE_s y9'
  obtain ⟨q', bl, rfl, y11'⟩ := bB_s y10'
  obtain ⟨a, b, c, d, q', rfl, y12'⟩ := t4_s y11'
  obtain ⟨rfl, y13'⟩ := tE_s y12'
  obtain ⟨rfl, y14'⟩ := bE_s y13'
  have yy' := y14'
  exact hh' _ _ _ _ _ _ _ _ _ _ rfl rfl yy'
theorem r_roi_Fits_0 : RoundOk Try.prog t_roi_Fits (annOf []) l_roi_Fits Out 20 0 61 [2, 3, 5, 9, 33, 34, 35] (kxOf [] [8]) (loopOf Try.f18 0) T_roi_Fits_0 := by
  intro vs bl Kc r h
  unfold T_roi_Fits_0 at h
  obtain ⟨t, y0', h'⟩ := getD_run h
  refine d_roi_Fits_0 y0' fun a b c d s t n i m u u1' u2' yy' => ?_
  subst u1' u2'
  cases yy'
  exact (b_roi_Fits_0 ..).trans h'
theorem o_roi_Fits : loopsOf (bodyOf Try.f18) = [loopOf Try.f18 0] := by kernel_rfl
theorem zz_roi_Fits_0 (a b c d s t n i : Int) (m : List (Int × Int × Int × Int)) (u : List Int) (hk : k_roi_Fits_0 a b c d s t n i m u = true) : ZZ (c_roi_Fits_0 a b c d s t n i m u) T_roi_Fits_0 [.one (.lst (.pair (.int .i64) (.pair (.int .i64) (.pair (.int .i64) (.int .i64)))) m), .one (.int .i64 s), .one (.ptr 0 0), .one (.int .i64 t), .one (.lst (.int .i64) u), .one (.int .i64 n), .one (.int .i64 i)] [some (.box [.int .i64 a, .int .i64 b, .int .i64 c, .int .i64 d])] := by
  simp only [k_roi_Fits_0, Bool.and_eq_true, decide_eq_true_eq, and_assoc] at hk
  obtain ⟨rfl, rfl, rfl, hm, hv, hs, hl⟩ := hk
  have vb := valid_b hv
  have av := area_v hv
  have pq := pw_30 hs
  have hb := inr_b hs
  refine Exists.elim (z_idx (T := T_roi_Fits_0) (st := fun j => ([.one (.lst (.pair (.int .i64) (.pair (.int .i64) (.pair (.int .i64) (.int .i64)))) m), .one (.int .i64 s), .one (.ptr 0 0), .one (.int .i64 (pw s)), .one (.lst (.int .i64) u), .one (.int .i64 (u.length : Int)), .one (.int .i64 (j : Int))], [some (.box [.int .i64 a, .int .i64 b, .int .i64 c, .int .i64 d])])) u.length (fitP u a b c m s) (.leaf (.exit 0) [] []) (.leaf .ret [.one (.bool false)] []) (fun j hj F K => ?_) (fun F K => ?_)) (fun k hk => ⟨k, fun K r h => ?_⟩)
  · have hc : 0 ≤ (j : Int) ∧ (j : Int) < (u.length : Int) := by omega
    have ac := lt_ac hv hl hj
    have hmx := mx_b (i := (j : Int)) ac.2.1 ac.1 ac.2.2.1 ac.2.2.2 (by omega) (by omega)
    have d1 : decide (a < c) = true := by rw [decide_eq_true_eq]; exact ac.1
    have d2 : decide (0 ≤ (j : Int)) = true := by rw [decide_eq_true_eq]; omega
    have d3 : decide ((j : Int) < 16777217) = true := by rw [decide_eq_true_eq]; omega
    have w0 : IntKind.wrap .i64 (0 - pw s) = -pw s := by rw [wrap_in (by omega) (by omega)]; omega
    have t0 : (!decide (c - a = 0)) = true := by simp; omega
    simp only [tu_roi_Fits_0, U_roi_Fits_0, LT.next, LT.run, ite2_bool, decide_eq_true_eq, Int.toNat_natCast, if_pos hc, if_pos hc.2, hv, d1, d2, d3, Bool.and_self, w0, pq.2.1, pq.2.2.1, hm, hb.1, t0, hmx.2.1, hmx.2.2, if_true]
    rw [wrap_in (n := (j : Int) + 1) (by omega) (by omega)]
    by_cases s0 : s > 0
    · by_cases g1 : gI u j ≥ pw s
      · rcases Bool.eq_false_or_eq_true (mskB (mxI a c j) (myI a b c j) m) with x | x <;> simp [fitP, s0, g1, x]
      · by_cases g2 : gI u j ≤ -pw s
        · rcases Bool.eq_false_or_eq_true (mskB (mxI a c j) (myI a b c j) m) with x | x <;> simp [fitP, s0, g1, g2, x]
        · simp [fitP, s0, g1, g2]
    · simp [fitP, s0]
  · simp only [tu_roi_Fits_0, U_roi_Fits_0, LT.next, LT.run, ite2_bool, decide_eq_true_eq]
    rw [if_neg (by omega)]
  · exact hk K r h
theorem z_roi_Fits_0 : ZOk S_roi_Fits_0 T_roi_Fits_0 := by
  intro vs bl t y0'
  refine d_roi_Fits_0 y0' fun a b c d s t n i m u u1' u2' yy' => ?_
  subst u1' u2'
  obtain ⟨hk, rfl⟩ := Prod.mk.inj (Option.some.inj yy')
  exact zz_roi_Fits_0 _ _ _ _ _ _ _ _ _ _ hk
theorem q_roi_Fits (u : List Int) (a b c d : Int) (m : List (Int × Int × Int × Int)) (s : Int) (hok : small m.length = true) : funR Try.prog t_roi_Fits (annOf []) l_roi_Fits 20 Try.f18 [.one (.lst (.int .i64) u), .agg [.int .i64 a, .int .i64 b, .int .i64 c, .int .i64 d], .one (.lst (.pair (.int .i64) (.pair (.int .i64) (.pair (.int .i64) (.int .i64)))) m), .one (.int .i64 s)] [] = some ⟨.one (.bool (ftB u a b c d m s)), [], []⟩ := by
    refine (e_roi_Fits ..).trans ?_
    simp only [ite2_bool, decide_eq_true_eq, ftB]
    cases hv : valid a b c d
    · simp
    have vb := valid_b hv
    cases hs : inr 0 30 s
    · have : ¬ (0 ≤ s ∧ s ≤ 30) := fun h => by rw [inr_t h.1 h.2] at hs; cases hs
      by_cases h1 : s < 0
      · simp [h1]
      · simp [h1, show s > 30 by omega]
    have hb := inr_b hs
    have pq := pw_30 hs
    have n1 : ¬ s < 0 := by omega
    have n2 : ¬ s > 30 := by omega
    by_cases hl : (u.length : Int) = area a b c d
    rotate_left
    · simp [hl, n1, n2]
    have wc : IntKind.wrap .i64 (c - a) = c - a := wrap_in (by omega) (by omega)
    have hne : ((u.length : Int) != area a b c d) = false := by simp [hl]
    simp only [pq.1, pq.2.1, hne, wc, k_roi_Fits_0, hok, hv, hs, hb.1, if_neg n1, if_neg n2, Bool.not_true, Bool.false_eq_true, if_false, if_true, decide_true, Bool.and_self, Bool.true_and]
    rw [if_pos (by simpa using hl)]
    rcases Bool.eq_false_or_eq_true ((List.range u.length).all (fitP u a b c m s)) with x | x <;> simp [x, hl]
theorem s_roi_Fits : SoundFun Try.prog 18 G_roi_Fits := by
  refine fun_ok (tab := t_roi_Fits) (ann := annOf []) (lt := l_roi_Fits) (tab_cons s_rect_Valid (tab_cons s_rect_Area (tab_cons s_roi_masked tab_nil))) (by kernel_rfl) (fn := Try.f18) (by kernel_rfl) (by decide) (c := bodyOf Try.f18) (by kernel_rfl) (by
    intro m b hb
    have hb' : b ∈ loopsOf (bodyOf Try.f18) := hb
    rw [o_roi_Fits] at hb'
    simp only [List.mem_cons, List.not_mem_nil, or_false] at hb'
    rcases hb' with rfl
    · exact loop_ok (key := 5) (by kernel_rfl) rfl r_roi_Fits_0 z_roi_Fits_0 m
    ) ?_ (keep_nil (by kernel_rfl))
  intro args lent o y0'
  unfold G_roi_Fits at y0'
  obtain ⟨c', args, rfl, y1'⟩ := pO_s y0'
  obtain ⟨u, rfl, y2'⟩ := kLI_s y1'
  obtain ⟨q', args, rfl, y3'⟩ := pA_s y2'
  obtain ⟨a, b, c, d, q', rfl, y4'⟩ := t4_s y3'
  obtain ⟨rfl, y5'⟩ := tE_s y4'
  obtain ⟨c', args, rfl, y6'⟩ := pO_s y5'
  obtain ⟨m, rfl, y7'⟩ := kLR_s y6'
  obtain ⟨s, args, rfl, y8'⟩ := pI_s y7'
  obtain ⟨rfl, y9'⟩ := pE_s y8'
  obtain ⟨rfl, y10'⟩ := nE_s y9'
  have yy' := y10'
  unfold H_roi_Fits at yy'
  obtain ⟨hok, rfl⟩ := Prod.mk.inj (Option.some.inj yy')
  exact ⟨20, q_roi_Fits _ _ _ _ _ _ _ hok⟩
theorem d_ref30_Fits_0 {α : Type} {vs : List V} {bl : List (Option Blk)} {K} {r : α} {Q : Prop} (y0' : D_ref30_Fits_0 vs bl K = some r) (hh' : ∀ (a : Int) (b : Int) (c : Int) (d : Int) (s : Int) (t : Int) (i : Int) (m : List (Int × Int × Int × Int)) (u : List Int), vs = [.one (.lst (.int .i64) u), .one (.lst (.pair (.int .i64) (.pair (.int .i64) (.pair (.int .i64) (.int .i64)))) m), .one (.int .i64 s), .one (.ptr 0 0), .one (.int .i64 t), .one (.int .i64 i)] → bl = [some (.box [.int .i64 a, .int .i64 b, .int .i64 c, .int .i64 d])] → K a b c d s t i m u = some r → Q) : Q := by
  unfold D_ref30_Fits_0 at y0'
  obtain ⟨c', vs, rfl, y1'⟩ := pO_s y0'
  obtain ⟨u, rfl, y2'⟩ := kLI_s y1'
  obtain ⟨c', vs, rfl, y3'⟩ := pO_s y2'
  obtain ⟨m, rfl, y4'⟩ := kLR_s y3'
  obtain ⟨s, vs, rfl, y5'⟩ := pI_s y4'
  obtain ⟨vs, rfl, y6'⟩ := pP_s y5'
  obtain ⟨t, vs, rfl, y7'⟩ := pI_s y6'
  obtain ⟨i, vs, rfl, y8'⟩ := pI_s y7'
  obtain ⟨rfl, y9'⟩ := pE_s y8'
  obtain ⟨q', bl, rfl, y10'⟩ := bB_s y9'
  obtain ⟨a, b, c, d, q', rfl, y11'⟩ := t4_s y10'
  obtain ⟨rfl, y12'⟩ := tE_s y11'
  obtain ⟨rfl, y13'⟩ := bE_s y12'
  have yy' := y13'
  exact hh' _ _ _ _ _ _ _ _ _ rfl rfl yy'
theorem r_ref30_Fits_0 : RoundOk Try.prog t_ref30_Fits (annOf []) l_ref30_Fits Out 20 0 79 [0, 2, 3, 5, 9, 10] (kxOf [] [8]) (loopOf Try.f19 0) T_ref30_Fits_0 := by
  intro vs bl Kc r h
  unfold T_ref30_Fits_0 at h
  obtain ⟨t, y0', h'⟩ := getD_run h
  refine d_ref30_Fits_0 y0' fun a b c d s t i m u u1' u2' yy' => ?_
  subst u1' u2'
  cases yy'
  exact (b_ref30_Fits_0 ..).trans h'
theorem o_ref30_Fits : loopsOf (bodyOf Try.f19) = [loopOf Try.f19 0] := by kernel_rfl
theorem zz_ref30_Fits_0 (a b c d s t i : Int) (m : List (Int × Int × Int × Int)) (u : List Int) (hk : k_ref30_Fits_0 a b c d s t i m u = true) : ZZ (c_ref30_Fits_0 a b c d s t i m u) T_ref30_Fits_0 [.one (.lst (.int .i64) u), .one (.lst (.pair (.int .i64) (.pair (.int .i64) (.pair (.int .i64) (.int .i64)))) m), .one (.int .i64 s), .one (.ptr 0 0), .one (.int .i64 t), .one (.int .i64 i)] [some (.box [.int .i64 a, .int .i64 b, .int .i64 c, .int .i64 d])] := by
  simp only [k_ref30_Fits_0, Bool.and_eq_true, decide_eq_true_eq, and_assoc] at hk
  obtain ⟨rfl, rfl, hm, hv, hs, hl⟩ := hk
  have vb := valid_b hv
  have av := area_v hv
  have pq := pw_30 hs
  have hb := inr_b hs
  refine Exists.elim (z_idx (T := T_ref30_Fits_0) (st := fun j => ([.one (.lst (.int .i64) u), .one (.lst (.pair (.int .i64) (.pair (.int .i64) (.pair (.int .i64) (.int .i64)))) m), .one (.int .i64 s), .one (.ptr 0 0), .one (.int .i64 (c - a)), .one (.int .i64 (j : Int))], [some (.box [.int .i64 a, .int .i64 b, .int .i64 c, .int .i64 d])])) u.length (fitP u a b c m s) (.leaf (.exit 0) [] []) (.leaf .ret [.one (.bool false)] []) (fun j hj F K => ?_) (fun F K => ?_)) (fun k hk => ⟨k, fun K r h => ?_⟩)
  · have hc : 0 ≤ (j : Int) ∧ (j : Int) < (u.length : Int) := by omega
    have ac := lt_ac hv hl hj
    have hmx := mx_b (i := (j : Int)) ac.2.1 ac.1 ac.2.2.1 ac.2.2.2 (by omega) (by omega)
    have d1 : decide (a < c) = true := by rw [decide_eq_true_eq]; exact ac.1
    have d2 : decide (0 ≤ (j : Int)) = true := by rw [decide_eq_true_eq]; omega
    have d3 : decide ((j : Int) < 16777217) = true := by rw [decide_eq_true_eq]; omega
    have w0 : IntKind.wrap .i64 (0 - pw s) = -pw s := by rw [wrap_in (by omega) (by omega)]; omega
    have t0 : (!decide (c - a = 0)) = true := by simp; omega
    simp only [tu_ref30_Fits_0, U_ref30_Fits_0, LT.next, LT.run, ite2_bool, decide_eq_true_eq, Int.toNat_natCast, if_pos hc, if_pos hc.2, hv, d1, d2, d3, Bool.and_self, w0, pq.2.1, pq.2.2.1, hm, hb.1, t0, hmx.2.1, hmx.2.2, if_true]
    rw [wrap_in (n := (j : Int) + 1) (by omega) (by omega)]
    by_cases s0 : s > 0
    · by_cases g1 : gI u j ≥ pw s
      · rcases Bool.eq_false_or_eq_true (mskB (mxI a c j) (myI a b c j) m) with x | x <;> simp [fitP, s0, g1, x]
      · by_cases g2 : gI u j ≤ -pw s
        · rcases Bool.eq_false_or_eq_true (mskB (mxI a c j) (myI a b c j) m) with x | x <;> simp [fitP, s0, g1, g2, x]
        · simp [fitP, s0, g1, g2]
    · simp [fitP, s0]
  · simp only [tu_ref30_Fits_0, U_ref30_Fits_0, LT.next, LT.run, ite2_bool, decide_eq_true_eq]
    rw [if_neg (by omega)]
  · exact hk K r h
theorem z_ref30_Fits_0 : ZOk S_ref30_Fits_0 T_ref30_Fits_0 := by
  intro vs bl t y0'
  refine d_ref30_Fits_0 y0' fun a b c d s t i m u u1' u2' yy' => ?_
  subst u1' u2'
  obtain ⟨hk, rfl⟩ := Prod.mk.inj (Option.some.inj yy')
  exact zz_ref30_Fits_0 _ _ _ _ _ _ _ _ _ hk
theorem q_ref30_Fits (u : List Int) (a b c d : Int) (m : List (Int × Int × Int × Int)) (s : Int) (hok : small m.length = true) : funR Try.prog t_ref30_Fits (annOf []) l_ref30_Fits 20 Try.f19 [.one (.lst (.int .i64) u), .agg [.int .i64 a, .int .i64 b, .int .i64 c, .int .i64 d], .one (.lst (.pair (.int .i64) (.pair (.int .i64) (.pair (.int .i64) (.int .i64)))) m), .one (.int .i64 s)] [] = some ⟨.one (.bool (ftB u a b c d m s)), [], []⟩ := by
    refine (e_ref30_Fits ..).trans ?_
    simp only [ite2_bool, decide_eq_true_eq, ftB]
    cases hv : valid a b c d
    · simp
    have vb := valid_b hv
    cases hs : inr 0 30 s
    · have : ¬ (0 ≤ s ∧ s ≤ 30) := fun h => by rw [inr_t h.1 h.2] at hs; cases hs
      by_cases h1 : s < 0
      · simp [h1]
      · simp [h1, show s > 30 by omega]
    have hb := inr_b hs
    have pq := pw_30 hs
    have n1 : ¬ s < 0 := by omega
    have n2 : ¬ s > 30 := by omega
    by_cases hl : (u.length : Int) = area a b c d
    rotate_left
    · simp [hl, n1, n2]
    have wc : IntKind.wrap .i64 (c - a) = c - a := wrap_in (by omega) (by omega)
    have hne : ((u.length : Int) != area a b c d) = false := by simp [hl]
    simp only [pq.1, pq.2.1, hne, wc, k_ref30_Fits_0, hok, hv, hs, hb.1, if_neg n1, if_neg n2, Bool.not_true, Bool.false_eq_true, if_false, if_true, decide_true, Bool.and_self, Bool.true_and]
    rw [if_pos (by simpa using hl)]
    rcases Bool.eq_false_or_eq_true ((List.range u.length).all (fitP u a b c m s)) with x | x <;> simp [x, hl]
theorem s_ref30_Fits : SoundFun Try.prog 19 G_ref30_Fits := by
  refine fun_ok (tab := t_ref30_Fits) (ann := annOf []) (lt := l_ref30_Fits) (tab_cons s_ref01_Valid (tab_cons s_ref01_Area (tab_cons s_ref30_Masked tab_nil))) (by kernel_rfl) (fn := Try.f19) (by kernel_rfl) (by decide) (c := bodyOf Try.f19) (by kernel_rfl) (by
    intro m b hb
    have hb' : b ∈ loopsOf (bodyOf Try.f19) := hb
    rw [o_ref30_Fits] at hb'
    simp only [List.mem_cons, List.not_mem_nil, or_false] at hb'
    rcases hb' with rfl
    · exact loop_ok (key := 5) (by kernel_rfl) rfl r_ref30_Fits_0 z_ref30_Fits_0 m
    ) ?_ (keep_nil (by kernel_rfl))
  intro args lent o y0'
  unfold G_ref30_Fits at y0'
  obtain ⟨c', args, rfl, y1'⟩ := pO_s y0'
  obtain ⟨u, rfl, y2'⟩ := kLI_s y1'
  obtain ⟨q', args, rfl, y3'⟩ := pA_s y2'
  obtain ⟨a, b, c, d, q', rfl, y4'⟩ := t4_s y3'
  obtain ⟨rfl, y5'⟩ := tE_s y4'
  obtain ⟨c', args, rfl, y6'⟩ := pO_s y5'
  obtain ⟨m, rfl, y7'⟩ := kLR_s y6'
  obtain ⟨s, args, rfl, y8'⟩ := pI_s y7'
  obtain ⟨rfl, y9'⟩ := pE_s y8'
  obtain ⟨rfl, y10'⟩ := nE_s y9'
  have yy' := y10'
  unfold H_ref30_Fits at yy'
  obtain ⟨hok, rfl⟩ := Prod.mk.inj (Option.some.inj yy')
  exact ⟨20, q_ref30_Fits _ _ _ _ _ _ _ hok⟩
theorem scT_0 (u : List Int) (f : Nat → Int) : scT u f 0 = u := by
  apply List.ext_getElem (by simp [scT])
  intro i h1 h2
  simp [scT, gI, List.getD_eq_getElem?_getD, h2]
theorem scT_n (u : List Int) (f : Nat → Int) : scT u f u.length = scM u f := by
  apply List.map_congr_left
  intro i hi
  rw [if_pos (List.mem_range.1 hi)]
theorem scT_len (u : List Int) (f : Nat → Int) (j : Nat) : (scT u f j).length = u.length := by simp [scT]
theorem scT_gI (u : List Int) (f : Nat → Int) (j : Nat) : gI (scT u f j) j = gI u j := by
  by_cases hj : j < u.length
  · simp [scT, gI, List.getD_eq_getElem?_getD, hj]
  · simp [scT, gI, List.getD_eq_getElem?_getD, hj]
theorem scT_s (u : List Int) (f : Nat → Int) (j : Nat) : (scT u f j).set j (f j) = scT u f (j + 1) := by
  apply List.ext_getElem (by simp [scT])
  intro i h1 h2
  simp only [scT, List.getElem_set, List.getElem_map, List.getElem_range]
  split
  · rename_i e; subst e; rw [if_pos (by omega)]
  · by_cases h : i < j
    · rw [if_pos h, if_pos (by omega)]
    · rw [if_neg h, if_neg (by omega)]
theorem scT_k (u : List Int) (f : Nat → Int) (j : Nat) (h : f j = gI u j) : scT u f j = scT u f (j + 1) := by
  apply List.ext_getElem (by simp [scT])
  intro i h1 h2
  simp only [scT, List.getElem_map, List.getElem_range]
  by_cases hi : i < j
  · rw [if_pos hi, if_pos (by omega)]
  · rw [if_neg hi]
    by_cases he : i = j
    · subst he; rw [if_pos (by omega), h]
    · rw [if_neg (by omega)]
theorem d_roi_Scale_0 {α : Type} {vs : List V} {bl : List (Option Blk)} {K} {r : α} {Q : Prop} (y0' : D_roi_Scale_0 vs bl K = some r) (hh' : ∀ (a : Int) (b : Int) (c : Int) (d : Int) (s : Int) (m : List (Int × Int × Int × Int)) (u : List Int) (v : List Int) (n : Int) (i : Int), vs = [.one (.lst (.int .i64) u), .one (.lst (.pair (.int .i64) (.pair (.int .i64) (.pair (.int .i64) (.int .i64)))) m), .one (.int .i64 s), .one (.ptr 0 0), .one (.lst (.int .i64) v), .one (.int .i64 n), .one (.int .i64 i)] → bl = [some (.box [.int .i64 a, .int .i64 b, .int .i64 c, .int .i64 d])] → K a b c d s m u v n i = some r → Q) : Q := by
  unfold D_roi_Scale_0 at y0'
  obtain ⟨c', vs, rfl, y1'⟩ := pO_s y0'
  obtain ⟨u, rfl, y2'⟩ := kLI_s y1'
  obtain ⟨c', vs, rfl, y3'⟩ := pO_s y2'
  obtain ⟨m, rfl, y4'⟩ := kLR_s y3'
  obtain ⟨s, vs, rfl, y5'⟩ := pI_s y4'
  obtain ⟨vs, rfl, y6'⟩ := pP_s y5'
  obtain ⟨c', vs, rfl, y7'⟩ := pO_s y6'
  obtain ⟨v, rfl, y8'⟩ := kLI_s y7'
  obtain ⟨n, vs, rfl, y9'⟩ := pI_s y8'
  obtain ⟨i, vs, rfl, y10'⟩ := pI_s y9'
  obtain ⟨rfl, y11'⟩ := pE_s y10'
  obtain ⟨q', bl, rfl, y12'⟩ := bB_s y11'
  obtain ⟨a, b, c, d, q', rfl, y13'⟩ := t4_s y12'
  obtain ⟨rfl, y14'⟩ := tE_s y13'
  obtain ⟨rfl, y15'⟩ := bE_s y14'
  have yy' := y15'
  exact hh' _ _ _ _ _ _ _ _ _ _ rfl rfl yy'
theorem r_roi_Scale_0 : RoundOk Try.prog t_roi_Scale (annOf []) l_roi_Scale Out 20 0 71 [0, 2, 3, 5, 30, 31, 32] (kxOf [0, 2, 3, 5] [8, 9]) (loopOf Try.f15 0) T_roi_Scale_0 := by
  intro vs bl Kc r h
  unfold T_roi_Scale_0 at h
  obtain ⟨t, y0', h'⟩ := getD_run h
  refine d_roi_Scale_0 y0' fun a b c d s m u v n i u1' u2' yy' => ?_
  subst u1' u2'
  cases yy'
  exact (b_roi_Scale_0 ..).trans h'
theorem d_roi_Scale_1 {α : Type} {vs : List V} {bl : List (Option Blk)} {K} {r : α} {Q : Prop} (y0' : D_roi_Scale_1 vs bl K = some r) (hh' : ∀ (a : Int) (b : Int) (c : Int) (d : Int) (s : Int) (n : Int) (i : Int) (m : List (Int × Int × Int × Int)) (u : List Int), vs = [.one (.lst (.pair (.int .i64) (.pair (.int .i64) (.pair (.int .i64) (.int .i64)))) m), .one (.int .i64 s), .one (.ptr 0 0), .one (.row 1), .one (.int .i64 n), .one (.int .i64 i)] → bl = [some (.box [.int .i64 a, .int .i64 b, .int .i64 c, .int .i64 d]), some (.arr 3 (.int .i64) u)] → K a b c d s n i m u = some r → Q) : Q := by
  unfold D_roi_Scale_1 at y0'
  obtain ⟨c', vs, rfl, y1'⟩ := pO_s y0'
  obtain ⟨m, rfl, y2'⟩ := kLR_s y1'
  obtain ⟨s, vs, rfl, y3'⟩ := pI_s y2'
  obtain ⟨vs, rfl, y4'⟩ := pP_s y3'
  obtain ⟨c', vs, rfl, y5'⟩ := pO_s y4'
  obtain ⟨rfl, y6'⟩ := kR_s y5'
  obtain ⟨n, vs, rfl, y7'⟩ := pI_s y6'
  obtain ⟨i, vs, rfl, y8'⟩ := pI_s y7'
  obtain ⟨rfl, y9'⟩ := pE_s y8'
  obtain ⟨q', bl, rfl, y10'⟩ := bB_s y9'
  obtain ⟨a, b, c, d, q', rfl, y11'⟩ := t4_s y10'
  obtain ⟨rfl, y12'⟩ := tE_s y11'
  obtain ⟨u, bl, rfl, y13'⟩ := bAI_s y12'
  obtain ⟨rfl, y14'⟩ := bE_s y13'
  have yy' := y14'
  exact hh' _ _ _ _ _ _ _ _ _ rfl rfl yy'
theorem r_roi_Scale_1 : RoundOk Try.prog t_roi_Scale (annOf []) l_roi_Scale Out 20 0 71 [2, 3, 5, 12, 52, 53] (kxOf [12] [8, 9]) (loopOf Try.f15 1) T_roi_Scale_1 := by
  intro vs bl Kc r h
  unfold T_roi_Scale_1 at h
  obtain ⟨t, y0', h'⟩ := getD_run h
  refine d_roi_Scale_1 y0' fun a b c d s n i m u u1' u2' yy' => ?_
  subst u1' u2'
  cases yy'
  exact (b_roi_Scale_1 ..).trans h'
theorem o_roi_Scale : loopsOf (bodyOf Try.f15) = [loopOf Try.f15 0, loopOf Try.f15 1] := by kernel_rfl
theorem zz_roi_Scale_0 (a b c d s : Int) (m : List (Int × Int × Int × Int)) (u v : List Int) (hsm : small (v.length) = true) (hc : true = true) : ZZ (c_roi_Scale_0 a b c d s m u v) T_roi_Scale_0 [.one (.lst (.int .i64) u), .one (.lst (.pair (.int .i64) (.pair (.int .i64) (.pair (.int .i64) (.int .i64)))) m), .one (.int .i64 s), .one (.ptr 0 0), .one (.lst (.int .i64) v), .one (.int .i64 (v.length : Int)), .one (.int .i64 0)] [some (.box [.int .i64 a, .int .i64 b, .int .i64 c, .int .i64 d])] := by
  refine z_list (st := fun i => ([.one (.lst (.int .i64) u), .one (.lst (.pair (.int .i64) (.pair (.int .i64) (.pair (.int .i64) (.int .i64)))) m), .one (.int .i64 s), .one (.ptr 0 0), .one (.lst (.int .i64) v), .one (.int .i64 (v.length : Int)), .one (.int .i64 ((i : Nat) : Int))], [some (.box [.int .i64 a, .int .i64 b, .int .i64 c, .int .i64 d])])) v 0 (inr (-268435456) 268435456) _ _ (fun i hi F K => ?_) (fun F K => ?_)
  · have hi' : (i : Int) < (v.length : Int) := by omega
    simp only [tu_roi_Scale_0, U_roi_Scale_0, LT.next, LT.run, ite2_dec, ite2_bool, wrap_next hi hsm, Int.toNat_natCast, hi', Int.natCast_nonneg, and_self, if_true, gI, gP, gC, gR, inr]
    (repeat' split) <;> simp_all <;> omega
  · simp only [tu_roi_Scale_0, U_roi_Scale_0, LT.next, LT.run, ite2_dec, Int.lt_irrefl, if_false]
    try rfl
theorem z_roi_Scale_0 : ZOk S_roi_Scale_0 T_roi_Scale_0 := by
  intro vs bl t y0'
  refine d_roi_Scale_0 y0' fun a b c d s m u v n i u1' u2' yy' => ?_
  subst u1' u2'
  obtain ⟨hk, rfl⟩ := Prod.mk.inj (Option.some.inj yy')
  unfold k_roi_Scale_0 at hk
  simp only [Bool.and_eq_true, decide_eq_true_eq, and_assoc] at hk
  obtain ⟨rfl, rfl, hsm, hc⟩ := hk
  exact zz_roi_Scale_0 _ _ _ _ _ _ _ _ hsm (by first | exact hc | simpa using hc)
theorem zz_roi_Scale_1 (a b c d s n i : Int) (m : List (Int × Int × Int × Int)) (u : List Int) (hk : k_roi_Scale_1 a b c d s n i m u = true) : ZZ (c_roi_Scale_1 a b c d s n i m u) T_roi_Scale_1 [.one (.lst (.pair (.int .i64) (.pair (.int .i64) (.pair (.int .i64) (.int .i64)))) m), .one (.int .i64 s), .one (.ptr 0 0), .one (.row 1), .one (.int .i64 n), .one (.int .i64 i)] [some (.box [.int .i64 a, .int .i64 b, .int .i64 c, .int .i64 d]), some (.arr 3 (.int .i64) u)] := by
  simp only [k_roi_Scale_1, Bool.and_eq_true, decide_eq_true_eq, and_assoc] at hk
  obtain ⟨rfl, rfl, hm, hv, hs, hl, hf⟩ := hk
  have vb := valid_b hv
  have av := area_v hv
  have pq := pw_30 hs
  have hb := inr_b hs
  have hf := fitB_fit hf
  refine Exists.elim (z_fold (T := T_roi_Scale_1) (st := fun j => ([.one (.lst (.pair (.int .i64) (.pair (.int .i64) (.pair (.int .i64) (.int .i64)))) m), .one (.int .i64 s), .one (.ptr 0 0), .one (.row 1), .one (.int .i64 (u.length : Int)), .one (.int .i64 (j : Int))], [some (.box [.int .i64 a, .int .i64 b, .int .i64 c, .int .i64 d]), some (.arr 3 (.int .i64) (scT u (scP u a b c m s) j))])) u.length (.leaf (.exit 2) [.one (.row 0)] [some (.arr 3 (.int .i64) (scT u (scP u a b c m s) u.length))]) (fun j hj F K => ?_) (fun F K => ?_)) (fun k hk => ⟨k, fun K r h => ?_⟩)
  · have hlen := scT_len u (scP u a b c m s) j
    have hg := scT_gI u (scP u a b c m s) j
    have hc : 0 ≤ (j : Int) ∧ (j : Int) < (u.length : Int) := by omega
    have ac := lt_ac hv hl hj
    have hmx := mx_b (i := (j : Int)) ac.2.1 ac.1 ac.2.2.1 ac.2.2.2 (by omega) (by omega)
    have d1 : decide (a < c) = true := by rw [decide_eq_true_eq]; exact ac.1
    have d2 : decide (0 ≤ (j : Int)) = true := by rw [decide_eq_true_eq]; omega
    have d3 : decide ((j : Int) < 16777217) = true := by rw [decide_eq_true_eq]; omega
    have t0 : (!decide (c - a = 0)) = true := by simp; omega
    have gb := gI_fit (by omega) hf j
    have pb : IntKind.wrap .i64 (gI u j * pw s) = gI u j * pw s := by
      have h1 := Int.mul_le_mul_of_nonneg_right gb.2 (show 0 ≤ pw s by omega)
      have h2 := Int.mul_le_mul_of_nonneg_right gb.1 (show 0 ≤ pw s by omega)
      exact wrap_in (by omega) (by omega)
    simp only [tu_roi_Scale_1, U_roi_Scale_1, LT.next, LT.run, ite2_bool, decide_eq_true_eq, Int.toNat_natCast, hlen, if_pos hc, if_pos hc.2, hv, d1, d2, d3, Bool.and_self, pq.1, pq.2.1, hm, hb.1, hg, pb, if_true]
    rw [wrap_in (n := (j : Int) + 1) (by omega) (by omega)]
    rcases Bool.eq_false_or_eq_true (mskB (mxI a c j) (myI a b c j) m) with x | x
    · have hp : scP u a b c m s j = gI u j * pw s := by unfold scP; rw [if_pos x]
      have hset := scT_s u (scP u a b c m s) j
      rw [hp] at hset
      rw [if_pos x, ← hset]
      simp only [hj, if_true]
      rfl
    · have hp : scP u a b c m s j = gI u j := by unfold scP; rw [if_neg (by rw [x]; decide)]
      rw [if_neg (by rw [x]; decide), ← scT_k _ _ _ hp]
      rfl
  · simp only [tu_roi_Scale_1, U_roi_Scale_1, LT.next, LT.run, ite2_bool, decide_eq_true_eq]
    rw [if_neg (by omega)]
  · unfold c_roi_Scale_1 at h
    rw [← scT_n] at h
    have h' := hk K r h
    rw [scT_0] at h'
    exact h'
theorem z_roi_Scale_1 : ZOk S_roi_Scale_1 T_roi_Scale_1 := by
  intro vs bl t y0'
  refine d_roi_Scale_1 y0' fun a b c d s n i m u u1' u2' yy' => ?_
  subst u1' u2'
  obtain ⟨hk, rfl⟩ := Prod.mk.inj (Option.some.inj yy')
  exact zz_roi_Scale_1 _ _ _ _ _ _ _ _ _ hk
theorem q_roi_Scale (u : List Int) (a b c d : Int) (m : List (Int × Int × Int × Int)) (s : Int) (hok : (small m.length && small u.length) = true) : funR Try.prog t_roi_Scale (annOf []) l_roi_Scale 20 Try.f15 [.one (.lst (.int .i64) u), .agg [.int .i64 a, .int .i64 b, .int .i64 c, .int .i64 d], .one (.lst (.pair (.int .i64) (.pair (.int .i64) (.pair (.int .i64) (.int .i64)))) m), .one (.int .i64 s)] [] = some ⟨.tup [(false, [.row 0]), (false, [.int .i64 (scErr u a b c d m s)])], [], [.arr 3 (.int .i64) (scL u a b c d m s)]⟩ := by
    refine (e_roi_Scale ..).trans ?_
    simp only [Bool.and_eq_true] at hok
    simp only [ite2_bool, decide_eq_true_eq]
    cases hv : valid a b c d
    · have e : scErr u a b c d m s = 2 := by simp [scErr, hv]
      simp [scL, e]
    have vb := valid_b hv
    have av := area_v hv
    cases hs : inr 0 30 s
    · have e : scErr u a b c d m s = 2 := by simp [scErr, hv, hs]
      have : ¬ (0 ≤ s ∧ s ≤ 30) := fun h => by rw [inr_t h.1 h.2] at hs; cases hs
      by_cases h1 : s < 0
      · simp [scL, e, h1]
      · simp [scL, e, h1, show s > 30 by omega]
    have hb := inr_b hs
    have n1 : ¬ s < 0 := by omega
    have n2 : ¬ s > 30 := by omega
    by_cases hl : (u.length : Int) = area a b c d
    rotate_left
    · have e : scErr u a b c d m s = 4 := by simp [scErr, hv, hs, hl]
      simp [scL, e, n1, n2, hl]
    have hne : ((u.length : Int) != area a b c d) = false := by simp [hl]
    have hld : decide ((u.length : Int) = area a b c d) = true := by simp [hl]
    have hfe : u.all (inr (-268435456) 268435456) = fitB 268435456 u := rfl
    rcases Bool.eq_false_or_eq_true (fitB 268435456 u) with hf | hf
    rotate_left
    · have e : scErr u a b c d m s = 2 := by simp [scErr, hv, hs, hl, hf]
      simp only [scL, e, hne, k_roi_Scale_0, p_roi_Scale_0, hfe, hf, hok.2, if_neg n1, if_neg n2, Bool.not_true, Bool.false_eq_true, if_false, if_true, decide_true, Bool.and_self, show ¬ (2 : Int) = 0 by omega]
    have wc : IntKind.wrap .i64 (c - a) = c - a := wrap_in (by omega) (by omega)
    rcases Bool.eq_false_or_eq_true ((List.range u.length).all (fitP u a b c m s)) with x | x
    rotate_left
    · have e : scErr u a b c d m s = 13 := by simp [scErr, hv, hs, hl, hf, x]
      have ef : ftB u a b c d m s = false := by simp [ftB, x]
      simp only [scL, e, ef, hne, k_roi_Scale_0, p_roi_Scale_0, hfe, hf, hok.1, hok.2, if_neg n1, if_neg n2, Bool.not_true, Bool.not_false, Bool.false_eq_true, if_false, if_true, decide_true, Bool.and_self, show ¬ (13 : Int) = 0 by omega]
    have e : scErr u a b c d m s = 0 := by simp [scErr, hv, hs, hl, hf, x]
    have ef : ftB u a b c d m s = true := by simp [ftB, hv, hs, hl, x]
    have h9 : u.length * 9 ≤ 140737488355328 := by omega
    simp only [scL, e, ef, hne, hld, wc, k_roi_Scale_0, p_roi_Scale_0, k_roi_Scale_1, hfe, hf, hv, hs, hok.1, hok.2, h9, if_neg n1, if_neg n2, Bool.not_true, Bool.false_eq_true, if_false, if_true, decide_true, Bool.and_self]
theorem s_roi_Scale : SoundFun Try.prog 15 G_roi_Scale := by
  refine fun_ok (tab := t_roi_Scale) (ann := annOf []) (lt := l_roi_Scale) (tab_cons s_roi_Fits (tab_cons s_rect_Valid (tab_cons s_rect_Area (tab_cons s_roi_masked tab_nil)))) (by kernel_rfl) (fn := Try.f15) (by kernel_rfl) (by decide) (c := bodyOf Try.f15) (by kernel_rfl) (by
    intro m b hb
    have hb' : b ∈ loopsOf (bodyOf Try.f15) := hb
    rw [o_roi_Scale] at hb'
    simp only [List.mem_cons, List.not_mem_nil, or_false] at hb'
    rcases hb' with rfl | rfl
    · exact loop_ok (key := 6) (by kernel_rfl) rfl r_roi_Scale_0 z_roi_Scale_0 m
    · exact loop_ok (key := 15) (by kernel_rfl) rfl r_roi_Scale_1 z_roi_Scale_1 m
    ) ?_ (keep_nil (by kernel_rfl))
  intro args lent o y0'
  unfold G_roi_Scale at y0'
  obtain ⟨c', args, rfl, y1'⟩ := pO_s y0'
  obtain ⟨u, rfl, y2'⟩ := kLI_s y1'
  obtain ⟨q', args, rfl, y3'⟩ := pA_s y2'
  obtain ⟨a, b, c, d, q', rfl, y4'⟩ := t4_s y3'
  obtain ⟨rfl, y5'⟩ := tE_s y4'
  obtain ⟨c', args, rfl, y6'⟩ := pO_s y5'
  obtain ⟨m, rfl, y7'⟩ := kLR_s y6'
  obtain ⟨s, args, rfl, y8'⟩ := pI_s y7'
  obtain ⟨rfl, y9'⟩ := pE_s y8'
  obtain ⟨rfl, y10'⟩ := nE_s y9'
  have yy' := y10'
  unfold H_roi_Scale at yy'
  obtain ⟨hok, rfl⟩ := Prod.mk.inj (Option.some.inj yy')
  exact ⟨20, q_roi_Scale _ _ _ _ _ _ _ hok⟩
theorem d_ref30_Scale_0 {α : Type} {vs : List V} {bl : List (Option Blk)} {K} {r : α} {Q : Prop} (y0' : D_ref30_Scale_0 vs bl K = some r) (hh' : ∀ (a : Int) (b : Int) (c : Int) (d : Int) (s : Int) (m : List (Int × Int × Int × Int)) (u : List Int) (i : Int), vs = [.one (.lst (.int .i64) u), .one (.lst (.pair (.int .i64) (.pair (.int .i64) (.pair (.int .i64) (.int .i64)))) m), .one (.int .i64 s), .one (.ptr 0 0), .one (.int .i64 i)] → bl = [some (.box [.int .i64 a, .int .i64 b, .int .i64 c, .int .i64 d])] → K a b c d s m u i = some r → Q) : Q := by
  unfold D_ref30_Scale_0 at y0'
  obtain ⟨c', vs, rfl, y1'⟩ := pO_s y0'
  obtain ⟨u, rfl, y2'⟩ := kLI_s y1'
  obtain ⟨c', vs, rfl, y3'⟩ := pO_s y2'
  obtain ⟨m, rfl, y4'⟩ := kLR_s y3'
  obtain ⟨s, vs, rfl, y5'⟩ := pI_s y4'
  obtain ⟨vs, rfl, y6'⟩ := pP_s y5'
  obtain ⟨i, vs, rfl, y7'⟩ := pI_s y6'
  obtain ⟨rfl, y8'⟩ := pE_s y7'
  obtain ⟨q', bl, rfl, y9'⟩ := bB_s y8'
  obtain ⟨a, b, c, d, q', rfl, y10'⟩ := t4_s y9'
  obtain ⟨rfl, y11'⟩ := tE_s y10'
  obtain ⟨rfl, y12'⟩ := bE_s y11'
  have yy' := y12'
  exact hh' _ _ _ _ _ _ _ _ rfl rfl yy'
theorem r_ref30_Scale_0 : RoundOk Try.prog t_ref30_Scale (annOf []) l_ref30_Scale Out 20 0 94 [0, 2, 3, 5, 10] (kxOf [0, 2, 3, 5] [8, 9]) (loopOf Try.f16 0) T_ref30_Scale_0 := by
  intro vs bl Kc r h
  unfold T_ref30_Scale_0 at h
  obtain ⟨t, y0', h'⟩ := getD_run h
  refine d_ref30_Scale_0 y0' fun a b c d s m u i u1' u2' yy' => ?_
  subst u1' u2'
  cases yy'
  exact (b_ref30_Scale_0 ..).trans h'
theorem d_ref30_Scale_1 {α : Type} {vs : List V} {bl : List (Option Blk)} {K} {r : α} {Q : Prop} (y0' : D_ref30_Scale_1 vs bl K = some r) (hh' : ∀ (a : Int) (b : Int) (c : Int) (d : Int) (s : Int) (n : Int) (i : Int) (m : List (Int × Int × Int × Int)) (u : List Int) (v : List Int), vs = [.one (.lst (.int .i64) u), .one (.lst (.pair (.int .i64) (.pair (.int .i64) (.pair (.int .i64) (.int .i64)))) m), .one (.int .i64 s), .one (.ptr 0 0), .one (.int .i64 n), .one (.row 1), .one (.int .i64 i)] → bl = [some (.box [.int .i64 a, .int .i64 b, .int .i64 c, .int .i64 d]), some (.arr 3 (.int .i64) v)] → K a b c d s n i m u v = some r → Q) : Q := by
  unfold D_ref30_Scale_1 at y0'
  obtain ⟨c', vs, rfl, y1'⟩ := pO_s y0'
  obtain ⟨u, rfl, y2'⟩ := kLI_s y1'
  obtain ⟨c', vs, rfl, y3'⟩ := pO_s y2'
  obtain ⟨m, rfl, y4'⟩ := kLR_s y3'
  obtain ⟨s, vs, rfl, y5'⟩ := pI_s y4'
  obtain ⟨vs, rfl, y6'⟩ := pP_s y5'
  obtain ⟨n, vs, rfl, y7'⟩ := pI_s y6'
  obtain ⟨c', vs, rfl, y8'⟩ := pO_s y7'
  obtain ⟨rfl, y9'⟩ := kR_s y8'
  obtain ⟨i, vs, rfl, y10'⟩ := pI_s y9'
  obtain ⟨rfl, y11'⟩ := pE_s y10'
  obtain ⟨q', bl, rfl, y12'⟩ := bB_s y11'
  obtain ⟨a, b, c, d, q', rfl, y13'⟩ := t4_s y12'
  obtain ⟨rfl, y14'⟩ := tE_s y13'
  obtain ⟨v, bl, rfl, y15'⟩ := bAI_s y14'
  obtain ⟨rfl, y16'⟩ := bE_s y15'
  have yy' := y16'
  exact hh' _ _ _ _ _ _ _ _ _ _ rfl rfl yy'
theorem r_ref30_Scale_1 : RoundOk Try.prog t_ref30_Scale (annOf []) l_ref30_Scale Out 20 0 94 [0, 2, 3, 5, 11, 12, 13] (kxOf [12] [8, 9]) (loopOf Try.f16 1) T_ref30_Scale_1 := by
  intro vs bl Kc r h
  unfold T_ref30_Scale_1 at h
  obtain ⟨t, y0', h'⟩ := getD_run h
  refine d_ref30_Scale_1 y0' fun a b c d s n i m u v u1' u2' yy' => ?_
  subst u1' u2'
  cases yy'
  exact (b_ref30_Scale_1 ..).trans h'
theorem o_ref30_Scale : loopsOf (bodyOf Try.f16) = [loopOf Try.f16 0, loopOf Try.f16 1] := by kernel_rfl
theorem zz_ref30_Scale_0 (a b c d s : Int) (m : List (Int × Int × Int × Int)) (u : List Int) (hsm : small (u.length) = true) (hc : true = true) : ZZ (c_ref30_Scale_0 a b c d s m u) T_ref30_Scale_0 [.one (.lst (.int .i64) u), .one (.lst (.pair (.int .i64) (.pair (.int .i64) (.pair (.int .i64) (.int .i64)))) m), .one (.int .i64 s), .one (.ptr 0 0), .one (.int .i64 0)] [some (.box [.int .i64 a, .int .i64 b, .int .i64 c, .int .i64 d])] := by
  refine z_list (st := fun i => ([.one (.lst (.int .i64) u), .one (.lst (.pair (.int .i64) (.pair (.int .i64) (.pair (.int .i64) (.int .i64)))) m), .one (.int .i64 s), .one (.ptr 0 0), .one (.int .i64 ((i : Nat) : Int))], [some (.box [.int .i64 a, .int .i64 b, .int .i64 c, .int .i64 d])])) u 0 (inr (-268435456) 268435456) _ _ (fun i hi F K => ?_) (fun F K => ?_)
  · have hi' : (i : Int) < (u.length : Int) := by omega
    simp only [tu_ref30_Scale_0, U_ref30_Scale_0, LT.next, LT.run, ite2_dec, ite2_bool, wrap_next hi hsm, Int.toNat_natCast, hi', Int.natCast_nonneg, and_self, if_true, gI, gP, gC, gR, inr]
    (repeat' split) <;> simp_all <;> omega
  · simp only [tu_ref30_Scale_0, U_ref30_Scale_0, LT.next, LT.run, ite2_dec, Int.lt_irrefl, if_false]
    try rfl
theorem z_ref30_Scale_0 : ZOk S_ref30_Scale_0 T_ref30_Scale_0 := by
  intro vs bl t y0'
  refine d_ref30_Scale_0 y0' fun a b c d s m u i u1' u2' yy' => ?_
  subst u1' u2'
  obtain ⟨hk, rfl⟩ := Prod.mk.inj (Option.some.inj yy')
  unfold k_ref30_Scale_0 at hk
  simp only [Bool.and_eq_true, decide_eq_true_eq, and_assoc] at hk
  obtain ⟨rfl, hsm, hc⟩ := hk
  exact zz_ref30_Scale_0 _ _ _ _ _ _ _ hsm (by first | exact hc | simpa using hc)
theorem zz_ref30_Scale_1 (a b c d s n i : Int) (m : List (Int × Int × Int × Int)) (u v : List Int) (hk : k_ref30_Scale_1 a b c d s n i m u v = true) : ZZ (c_ref30_Scale_1 a b c d s n i m u v) T_ref30_Scale_1 [.one (.lst (.int .i64) u), .one (.lst (.pair (.int .i64) (.pair (.int .i64) (.pair (.int .i64) (.int .i64)))) m), .one (.int .i64 s), .one (.ptr 0 0), .one (.int .i64 n), .one (.row 1), .one (.int .i64 i)] [some (.box [.int .i64 a, .int .i64 b, .int .i64 c, .int .i64 d]), some (.arr 3 (.int .i64) v)] := by
  simp only [k_ref30_Scale_1, Bool.and_eq_true, decide_eq_true_eq, and_assoc] at hk
  obtain ⟨rfl, rfl, rfl, hm, hv, hs, hl, hf, hsm⟩ := hk
  have vb := valid_b hv
  have av := area_v hv
  have pq := pw_30 hs
  have hb := inr_b hs
  have hf := fitB_fit hf
  refine Exists.elim (z_fold (T := T_ref30_Scale_1) (st := fun j => ([.one (.lst (.int .i64) u), .one (.lst (.pair (.int .i64) (.pair (.int .i64) (.pair (.int .i64) (.int .i64)))) m), .one (.int .i64 s), .one (.ptr 0 0), .one (.int .i64 (c - a)), .one (.row 1), .one (.int .i64 (j : Int))], [some (.box [.int .i64 a, .int .i64 b, .int .i64 c, .int .i64 d]), some (.arr 3 (.int .i64) (scR (scP u a b c m s) j))])) u.length (.leaf (.exit 2) [.one (.row 0)] [some (.arr 3 (.int .i64) (scM u (scP u a b c m s)))]) (fun j hj F K => ?_) (fun F K => ?_)) (fun k hk => ⟨k, fun K r h => ?_⟩)
  · have hlen : (scR (scP u a b c m s) j).length = j := by simp [scR]
    have h9 : (j + 1) * 9 ≤ 140737488355328 := by omega
    have hc : 0 ≤ (j : Int) ∧ (j : Int) < (u.length : Int) := by omega
    have ac := lt_ac hv hl hj
    have hmx := mx_b (i := (j : Int)) ac.2.1 ac.1 ac.2.2.1 ac.2.2.2 (by omega) (by omega)
    have d1 : decide (a < c) = true := by rw [decide_eq_true_eq]; exact ac.1
    have d2 : decide (0 ≤ (j : Int)) = true := by rw [decide_eq_true_eq]; omega
    have d3 : decide ((j : Int) < 16777217) = true := by rw [decide_eq_true_eq]; omega
    have t0 : (!decide (c - a = 0)) = true := by simp; omega
    have gb := gI_fit (by omega) hf j
    have pb : IntKind.wrap .i64 (gI u j * pw s) = gI u j * pw s := by
      have h1 := Int.mul_le_mul_of_nonneg_right gb.2 (show 0 ≤ pw s by omega)
      have h2 := Int.mul_le_mul_of_nonneg_right gb.1 (show 0 ≤ pw s by omega)
      exact wrap_in (by omega) (by omega)
    have hs1 : scR (scP u a b c m s) (j + 1) = scR (scP u a b c m s) j ++ [scP u a b c m s j] := by unfold scR; rw [List.range_succ, List.map_append]; rfl
    simp only [tu_ref30_Scale_1, U_ref30_Scale_1, LT.next, LT.run, ite2_bool, decide_eq_true_eq, Int.toNat_natCast, hlen, if_pos hc, if_pos hc.2, t0, pq.2.1, hmx.2.1, hmx.2.2, hm, hb.1, pb, List.length_cons, List.length_nil, Nat.zero_add, if_true]
    rw [wrap_in (n := (j : Int) + 1) (by omega) (by omega), hs1]
    rcases Bool.eq_false_or_eq_true (mskB (mxI a c j) (myI a b c j) m) with x | x
    · have hp : scP u a b c m s j = gI u j * pw s := by unfold scP; rw [if_pos x]
      rw [if_pos x, hp, if_pos (show (j + 1) * 9 ≤ 140737488355328 by omega)]
      rfl
    · have hp : scP u a b c m s j = gI u j := by unfold scP; rw [if_neg (by rw [x]; decide)]
      rw [if_neg (by rw [x]; decide), hp, if_pos (show (j + 1) * 9 ≤ 140737488355328 by omega)]
      rfl
  · simp only [tu_ref30_Scale_1, U_ref30_Scale_1, LT.next, LT.run, ite2_bool, decide_eq_true_eq]
    rw [if_neg (by omega)]
    rfl
  · exact hk K r h
theorem z_ref30_Scale_1 : ZOk S_ref30_Scale_1 T_ref30_Scale_1 := by
  intro vs bl t y0'
  refine d_ref30_Scale_1 y0' fun a b c d s n i m u v u1' u2' yy' => ?_
  subst u1' u2'
  obtain ⟨hk, rfl⟩ := Prod.mk.inj (Option.some.inj yy')
  exact zz_ref30_Scale_1 _ _ _ _ _ _ _ _ _ _ hk
theorem q_ref30_Scale (u : List Int) (a b c d : Int) (m : List (Int × Int × Int × Int)) (s : Int) (hok : (small m.length && small u.length) = true) : funR Try.prog t_ref30_Scale (annOf []) l_ref30_Scale 20 Try.f16 [.one (.lst (.int .i64) u), .agg [.int .i64 a, .int .i64 b, .int .i64 c, .int .i64 d], .one (.lst (.pair (.int .i64) (.pair (.int .i64) (.pair (.int .i64) (.int .i64)))) m), .one (.int .i64 s)] [] = some ⟨.tup [(false, [.row 0]), (false, [.int .i64 (scErr u a b c d m s)])], [], [.arr 3 (.int .i64) (scL u a b c d m s)]⟩ := by
    refine (e_ref30_Scale ..).trans ?_
    simp only [Bool.and_eq_true] at hok
    simp only [ite2_bool, decide_eq_true_eq]
    cases hv : valid a b c d
    · have e : scErr u a b c d m s = 2 := by simp [scErr, hv]
      simp [scL, e]
    have vb := valid_b hv
    have av := area_v hv
    cases hs : inr 0 30 s
    · have e : scErr u a b c d m s = 2 := by simp [scErr, hv, hs]
      have : ¬ (0 ≤ s ∧ s ≤ 30) := fun h => by rw [inr_t h.1 h.2] at hs; cases hs
      by_cases h1 : s < 0
      · simp [scL, e, h1]
      · simp [scL, e, h1, show s > 30 by omega]
    have hb := inr_b hs
    have n1 : ¬ s < 0 := by omega
    have n2 : ¬ s > 30 := by omega
    by_cases hl : (u.length : Int) = area a b c d
    rotate_left
    · have e : scErr u a b c d m s = 4 := by simp [scErr, hv, hs, hl]
      simp [scL, e, n1, n2, hl]
    have hne : ((u.length : Int) != area a b c d) = false := by simp [hl]
    have hld : decide ((u.length : Int) = area a b c d) = true := by simp [hl]
    have hfe : u.all (inr (-268435456) 268435456) = fitB 268435456 u := rfl
    rcases Bool.eq_false_or_eq_true (fitB 268435456 u) with hf | hf
    rotate_left
    · have e : scErr u a b c d m s = 2 := by simp [scErr, hv, hs, hl, hf]
      simp only [scL, e, hne, k_ref30_Scale_0, p_ref30_Scale_0, hfe, hf, hok.2, if_neg n1, if_neg n2, Bool.not_true, Bool.false_eq_true, if_false, if_true, decide_true, Bool.and_self, show ¬ (2 : Int) = 0 by omega]
    have wc : IntKind.wrap .i64 (c - a) = c - a := wrap_in (by omega) (by omega)
    rcases Bool.eq_false_or_eq_true ((List.range u.length).all (fitP u a b c m s)) with x | x
    rotate_left
    · have e : scErr u a b c d m s = 13 := by simp [scErr, hv, hs, hl, hf, x]
      have ef : ftB u a b c d m s = false := by simp [ftB, x]
      simp only [scL, e, ef, hne, k_ref30_Scale_0, p_ref30_Scale_0, hfe, hf, hok.1, hok.2, if_neg n1, if_neg n2, Bool.not_true, Bool.not_false, Bool.false_eq_true, if_false, if_true, decide_true, Bool.and_self, show ¬ (13 : Int) = 0 by omega]
    have e : scErr u a b c d m s = 0 := by simp [scErr, hv, hs, hl, hf, x]
    have ef : ftB u a b c d m s = true := by simp [ftB, hv, hs, hl, x]
    have h9 : u.length * 9 ≤ 140737488355328 := by omega
    simp only [scL, e, ef, hne, hld, wc, k_ref30_Scale_0, p_ref30_Scale_0, k_ref30_Scale_1, hfe, hf, hv, hs, hok.1, hok.2, h9, if_neg n1, if_neg n2, Bool.not_true, Bool.false_eq_true, if_false, if_true, decide_true, Bool.and_self]
theorem s_ref30_Scale : SoundFun Try.prog 16 G_ref30_Scale := by
  refine fun_ok (tab := t_ref30_Scale) (ann := annOf []) (lt := l_ref30_Scale) (tab_cons s_ref30_Fits (tab_cons s_ref01_Valid (tab_cons s_ref01_Area (tab_cons s_ref30_Masked tab_nil)))) (by kernel_rfl) (fn := Try.f16) (by kernel_rfl) (by decide) (c := bodyOf Try.f16) (by kernel_rfl) (by
    intro m b hb
    have hb' : b ∈ loopsOf (bodyOf Try.f16) := hb
    rw [o_ref30_Scale] at hb'
    simp only [List.mem_cons, List.not_mem_nil, or_false] at hb'
    rcases hb' with rfl | rfl
    · exact loop_ok (key := 6) (by kernel_rfl) rfl r_ref30_Scale_0 z_ref30_Scale_0 m
    · exact loop_ok (key := 15) (by kernel_rfl) rfl r_ref30_Scale_1 z_ref30_Scale_1 m
    ) ?_ (keep_nil (by kernel_rfl))
  intro args lent o y0'
  unfold G_ref30_Scale at y0'
  obtain ⟨c', args, rfl, y1'⟩ := pO_s y0'
  obtain ⟨u, rfl, y2'⟩ := kLI_s y1'
  obtain ⟨q', args, rfl, y3'⟩ := pA_s y2'
  obtain ⟨a, b, c, d, q', rfl, y4'⟩ := t4_s y3'
  obtain ⟨rfl, y5'⟩ := tE_s y4'
  obtain ⟨c', args, rfl, y6'⟩ := pO_s y5'
  obtain ⟨m, rfl, y7'⟩ := kLR_s y6'
  obtain ⟨s, args, rfl, y8'⟩ := pI_s y7'
  obtain ⟨rfl, y9'⟩ := pE_s y8'
  obtain ⟨rfl, y10'⟩ := nE_s y9'
  have yy' := y10'
  unfold H_ref30_Scale at yy'
  obtain ⟨hok, rfl⟩ := Prod.mk.inj (Option.some.inj yy')
  exact ⟨20, q_ref30_Scale _ _ _ _ _ _ _ hok⟩
theorem q_roi_demand (b : Bool) (hok : b = true) : funR Try.prog t_roi_demand (annOf []) l_roi_demand 20 Try.f61 [.one (.bool b)] [] = some ⟨.tup [], [], []⟩ := by
    refine (e_roi_demand ..).trans ?_
    subst hok
    rfl
theorem s_roi_demand : SoundFun Try.prog 61 G_roi_demand := by
  refine fun_ok (tab := t_roi_demand) (ann := annOf []) (lt := l_roi_demand) tab_nil (by kernel_rfl) (fn := Try.f61) (by kernel_rfl) (by decide) (c := bodyOf Try.f61) (by kernel_rfl) (no_loops (by kernel_rfl)) ?_ (keep_nil (by kernel_rfl))
  intro args lent o y0'
  unfold G_roi_demand at y0'
  obtain ⟨c', args, rfl, y1'⟩ := pO_s y0'
  obtain ⟨b, rfl, y2'⟩ := kB_s y1'
  obtain ⟨rfl, y3'⟩ := pE_s y2'
  obtain ⟨rfl, y4'⟩ := nE_s y3'
  have yy' := y4'
  unfold H_roi_demand at yy'
  obtain ⟨hok, rfl⟩ := Prod.mk.inj (Option.some.inj yy')
  exact ⟨20, q_roi_demand _ hok⟩
theorem roi_ex {h : Hd} {p : Pm} {t k : Int} (e : existsB h p t k = true) : header h = 0 ∧ kinds p = true ∧ nums p = true ∧ (0 ≤ t ∧ t < (tilesH h).length) ∧ (0 ≤ k ∧ k < h.cs.length) := by
  simp only [existsB, Bool.and_eq_true, decide_eq_true_eq, and_assoc] at e
  obtain ⟨e1, e2, e3, e4, e5⟩ := e
  unfold checkA at e1
  split at e1
  · rename_i h1; exact absurd e1 h1
  rename_i h1
  split at e1
  · exact absurd e1 (by decide)
  rename_i h2
  split at e1
  · exact absurd e1 (by decide)
  rename_i h3
  simp only [Bool.not_eq_true', Bool.not_eq_false, Bool.and_eq_true] at h2 h3
  exact ⟨Classical.not_not.1 h1, h2, h3.1, ⟨e2, e3⟩, e4, e5⟩
theorem roiN_len {h : Hd} {p : Pm} {t k : Int} (e : existsB h p t k = true) (q : Rc) : (roiN h p t k q).length = (count p.le).toNat := by
  obtain ⟨e1, e2, e3, e4, e5⟩ := roi_ex e
  have nb := (nums_b e3).1
  have hn : inr 0 5 p.le = true := inr_t (by omega) (by omega)
  have hk : inr 1 3 p.ke = true := by
    unfold kinds at e2
    simp only [Bool.and_eq_true] at e2
    exact e2.1.1
  have hv : valid (compT h t k).1 (compT h t k).2.1 (compT h t k).2.2.1 (compT h t k).2.2.2 = true := by
    unfold compT
    rw [if_neg (by omega)]
    exact valid_reduce6 ..
  have hO : ndOk (compT h t k).1 (compT h t k).2.1 (compT h t k).2.2.1 (compT h t k).2.2.2 p.le p.le p.ke = true := by
    simp only [ndOk, hv, hn, hk, inr_t (a := 0) (b := p.le) (x := p.le) (by omega) (by omega), Bool.and_self]
  unfold roiN ndF
  rw [if_pos hO]
  split
  · rw [List.length_replicate]
  · rw [List.length_set, ndL_len]
    simp only [count, hn, if_true]
theorem roiM_s (h : Hd) (p : Pm) (t k b : Int) (l : List Rc) {j : Nat} (hj : j < l.length) : roiM h p t k b (l.take (j + 1)) = roiM h p t k b (l.take j) ++ (if empty (roiG h p t k b (gR l j)).1 (roiG h p t k b (gR l j)).2.1 (roiG h p t k b (gR l j)).2.2.1 (roiG h p t k b (gR l j)).2.2.2 then [] else [roiG h p t k b (gR l j)]) := by
  have e : gR l j = l[j] := by simp [gR, List.getD_eq_getElem?_getD, hj]
  rw [e]
  unfold roiM
  rw [List.take_succ_eq_append_getElem hj, List.map_append, List.filter_append]
  congr 1
  simp only [List.map_cons, List.map_nil, List.filter_cons, List.filter_nil]
  rcases Bool.eq_false_or_eq_true (empty (roiG h p t k b l[j]).1 (roiG h p t k b l[j]).2.1 (roiG h p t k b l[j]).2.2.1 (roiG h p t k b l[j]).2.2.2) with x | x <;> simp [x]
theorem roiM_le (h : Hd) (p : Pm) (t k b : Int) (l : List Rc) : (roiM h p t k b l).length ≤ l.length := by
  unfold roiM
  exact Nat.le_trans (List.length_filter_le ..) (by simp)
theorem roiM_n (h : Hd) (p : Pm) (t k b : Int) (l : List Rc) : roiM h p t k b (l.take l.length) = roiM h p t k b l := by rw [List.take_length]
theorem rgErr_s {l : List Rc} (e : rgErr l = 0) : l.length ≤ 8 := by
  unfold rgErr at e
  split at e
  · exact absurd e (by decide)
  · rename_i h1
    simp only [decide_eq_true_eq] at h1
    omega
theorem d_roi_collect_0 {α : Type} {vs : List V} {bl : List (Option Blk)} {K} {r : α} {Q : Prop} (y0' : D_roi_collect_0 vs bl K = some r) (hh' : ∀ (h : Hd) (p : Pm) (t : Int) (k : Int) (b : Int) (n : Int) (i : Int) (c0 : Int) (c2 : Int) (c3 : Int) (c1 : Bool) (l : List (Int × Int × Int × Int)) (u : List (Int × Int × Int × Int)) (v : List (Int × Int × Int × Int)), vs = [.one (.int .i64 t), .one (.int .i64 k), .one (.int .i64 b), .one (.ptr 0 0), .one (.ptr 1 0), .one (.row 2), .one (.ptr 3 0), .one (.row 4), .one (.lst (.pair (.int .i64) (.pair (.int .i64) (.pair (.int .i64) (.int .i64)))) l), .one (.int .i64 n), .one (.int .i64 i)] → bl = [some (.box (hdC h)), some (.box (pmC p)), some (.arr 28 (.pair (.int .i64) (.pair (.int .i64) (.pair (.int .i64) (.int .i64)))) u), some (.box [.int .i64 c0, .bool c1, .int .i64 c2, .int .i64 c3]), some (.arr 28 (.pair (.int .i64) (.pair (.int .i64) (.pair (.int .i64) (.int .i64)))) v)] → K h p t k b n i c0 c2 c3 c1 l u v = some r → Q) : Q := by
  unfold D_roi_collect_0 at y0'
  obtain ⟨t, vs, rfl, y1'⟩ := pI_s y0'
  obtain ⟨k, vs, rfl, y2'⟩ := pI_s y1'
  obtain ⟨b, vs, rfl, y3'⟩ := pI_s y2'
  obtain ⟨vs, rfl, y4'⟩ := pP_s y3'
  obtain ⟨vs, rfl, y5'⟩ := pP_s y4'
  obtain ⟨c', vs, rfl, y6'⟩ := pO_s y5'
  obtain ⟨rfl, y7'⟩ := kR_s y6'
  obtain ⟨vs, rfl, y8'⟩ := pP_s y7'
  obtain ⟨c', vs, rfl, y9'⟩ := pO_s y8'
  obtain ⟨rfl, y10'⟩ := kR_s y9'
  obtain ⟨c', vs, rfl, y11'⟩ := pO_s y10'
  obtain ⟨l, rfl, y12'⟩ := kLR_s y11'
  obtain ⟨n, vs, rfl, y13'⟩ := pI_s y12'
  obtain ⟨i, vs, rfl, y14'⟩ := pI_s y13'
  obtain ⟨rfl, y15'⟩ := pE_s y14'
  obtain ⟨q', bl, rfl, y16'⟩ := bB_s y15'
  obtain ⟨h, rfl, y17'⟩ := rdHd_s y16'
  obtain ⟨q', bl, rfl, y18'⟩ := bB_s y17'
  obtain ⟨p, rfl, y19'⟩ := rdPm_s y18'
  obtain ⟨u, bl, rfl, y20'⟩ := bAR_s y19'
  obtain ⟨q', bl, rfl, y21'⟩ := bB_s y20'
  obtain ⟨c0, q', rfl, y22'⟩ := tI_s y21'
  obtain ⟨c', q', rfl, y23'⟩ := tC_s y22'
  obtain ⟨c1, rfl, y24'⟩ := kB_s y23'
  obtain ⟨c2, q', rfl, y25'⟩ := tI_s y24'
  obtain ⟨c3, q', rfl, y26'⟩ := tI_s y25'
  obtain ⟨rfl, y27'⟩ := tE_s y26'
  obtain ⟨v, bl, rfl, y28'⟩ := bAR_s y27'
  obtain ⟨rfl, y29'⟩ := bE_s y28'
  have yy' := y29'
  exact hh' _ _ _ _ _ _ _ _ _ _ _ _ _ _ rfl rfl yy'
theorem r_roi_collect_0 : RoundOk Try.prog t_roi_collect (annOf []) l_roi_collect Out 20 0 111 [2, 3, 4, 6, 7, 13, 14, 15, 69, 70, 71] (kxOf [15] [12]) (loopOf Try.f35 0) T_roi_collect_0 := by
  intro vs bl Kc r h
  unfold T_roi_collect_0 at h
  obtain ⟨t, y0', h'⟩ := getD_run h
  refine d_roi_collect_0 y0' fun h p t k b n i c0 c2 c3 c1 l u v u1' u2' yy' => ?_
  subst u1' u2'
  cases yy'
  exact (b_roi_collect_0 ..).trans h'
theorem o_roi_collect : loopsOf (bodyOf Try.f35) = [loopOf Try.f35 0] := by kernel_rfl
theorem zz_roi_collect_0 (h : Hd) (p : Pm) (t k b n i c0 c2 c3 : Int) (c1 : Bool) (l u v : List (Int × Int × Int × Int)) (hk : k_roi_collect_0 h p t k b n i c0 c2 c3 c1 l u v = true) : ZZ (c_roi_collect_0 h p t k b n i c0 c2 c3 c1 l u v) T_roi_collect_0 [.one (.int .i64 t), .one (.int .i64 k), .one (.int .i64 b), .one (.ptr 0 0), .one (.ptr 1 0), .one (.row 2), .one (.ptr 3 0), .one (.row 4), .one (.lst (.pair (.int .i64) (.pair (.int .i64) (.pair (.int .i64) (.int .i64)))) l), .one (.int .i64 n), .one (.int .i64 i)] [some (.box (hdC h)), some (.box (pmC p)), some (.arr 28 (.pair (.int .i64) (.pair (.int .i64) (.pair (.int .i64) (.int .i64)))) u), some (.box [.int .i64 c0, .bool c1, .int .i64 c2, .int .i64 c3]), some (.arr 28 (.pair (.int .i64) (.pair (.int .i64) (.pair (.int .i64) (.int .i64)))) v)] := by
  simp only [k_roi_collect_0, Bool.and_eq_true, decide_eq_true_eq, and_assoc] at hk
  obtain ⟨rfl, rfl, rfl, rfl, hc, ho, hsm⟩ := hk
  obtain ⟨rfl, rfl, rfl, rfl⟩ : c0 = (gC h.cs k.toNat).1 ∧ c1 = (gC h.cs k.toNat).2.1 ∧ c2 = (gC h.cs k.toNat).2.2.1 ∧ c3 = (gC h.cs k.toNat).2.2.2 := by rw [← hc]; exact ⟨rfl, rfl, rfl, rfl⟩
  simp only [roiOk, Bool.and_eq_true, decide_eq_true_eq, and_assoc] at ho
  obtain ⟨he, hb0, hb1, hl0⟩ := ho
  have hl := rgErr_s hl0
  obtain ⟨e1, e2, e3, e4, e5⟩ := roi_ex he
  refine Exists.elim (z_fold (T := T_roi_collect_0) (st := fun j => ([.one (.int .i64 t), .one (.int .i64 k), .one (.int .i64 b), .one (.ptr 0 0), .one (.ptr 1 0), .one (.row 2), .one (.ptr 3 0), .one (.row 4), .one (.lst (.pair (.int .i64) (.pair (.int .i64) (.pair (.int .i64) (.int .i64)))) l), .one (.int .i64 (l.length : Int)), .one (.int .i64 (j : Int))], [some (.box (hdC h)), some (.box (pmC p)), some (.arr 28 (.pair (.int .i64) (.pair (.int .i64) (.pair (.int .i64) (.int .i64)))) (tilesH h)), some (.box [.int .i64 (gC h.cs k.toNat).1, .bool (gC h.cs k.toNat).2.1, .int .i64 (gC h.cs k.toNat).2.2.1, .int .i64 (gC h.cs k.toNat).2.2.2]), some (.arr 28 (.pair (.int .i64) (.pair (.int .i64) (.pair (.int .i64) (.int .i64)))) (roiM h p t k b (l.take j)))])) l.length (.leaf (.exit 0) [.one (.row 0)] [some (.arr 28 (.pair (.int .i64) (.pair (.int .i64) (.pair (.int .i64) (.int .i64)))) (roiM h p t k b l))]) (fun j hj F K => ?_) (fun F K => ?_)) (fun k' hk' => ⟨k', fun K r h' => ?_⟩)
  · have hX : ndF (compT h t k).1 (compT h t k).2.1 (compT h t k).2.2.1 (compT h t k).2.2.2 p.le p.le (reduce (inter (gR l j).1 (gR l j).2.1 (gR l j).2.2.1 (gR l j).2.2.2 (gR (tilesH h) t.toNat).1 (gR (tilesH h) t.toNat).2.1 (gR (tilesH h) t.toNat).2.2.1 (gR (tilesH h) t.toNat).2.2.2).1 (inter (gR l j).1 (gR l j).2.1 (gR l j).2.2.1 (gR l j).2.2.2 (gR (tilesH h) t.toNat).1 (gR (tilesH h) t.toNat).2.1 (gR (tilesH h) t.toNat).2.2.1 (gR (tilesH h) t.toNat).2.2.2).2.1 (inter (gR l j).1 (gR l j).2.1 (gR l j).2.2.1 (gR l j).2.2.2 (gR (tilesH h) t.toNat).1 (gR (tilesH h) t.toNat).2.1 (gR (tilesH h) t.toNat).2.2.1 (gR (tilesH h) t.toNat).2.2.2).2.2.1 (inter (gR l j).1 (gR l j).2.1 (gR l j).2.2.1 (gR l j).2.2.2 (gR (tilesH h) t.toNat).1 (gR (tilesH h) t.toNat).2.1 (gR (tilesH h) t.toNat).2.2.1 (gR (tilesH h) t.toNat).2.2.2).2.2.2 (gC h.cs k.toNat).2.2.1 (gC h.cs k.toNat).2.2.2).1 (reduce (inter (gR l j).1 (gR l j).2.1 (gR l j).2.2.1 (gR l j).2.2.2 (gR (tilesH h) t.toNat).1 (gR (tilesH h) t.toNat).2.1 (gR (tilesH h) t.toNat).2.2.1 (gR (tilesH h) t.toNat).2.2.2).1 (inter (gR l j).1 (gR l j).2.1 (gR l j).2.2.1 (gR l j).2.2.2 (gR (tilesH h) t.toNat).1 (gR (tilesH h) t.toNat).2.1 (gR (tilesH h) t.toNat).2.2.1 (gR (tilesH h) t.toNat).2.2.2).2.1 (inter (gR l j).1 (gR l j).2.1 (gR l j).2.2.1 (gR l j).2.2.2 (gR (tilesH h) t.toNat).1 (gR (tilesH h) t.toNat).2.1 (gR (tilesH h) t.toNat).2.2.1 (gR (tilesH h) t.toNat).2.2.2).2.2.1 (inter (gR l j).1 (gR l j).2.1 (gR l j).2.2.1 (gR l j).2.2.2 (gR (tilesH h) t.toNat).1 (gR (tilesH h) t.toNat).2.1 (gR (tilesH h) t.toNat).2.2.1 (gR (tilesH h) t.toNat).2.2.2).2.2.2 (gC h.cs k.toNat).2.2.1 (gC h.cs k.toNat).2.2.2).2.1 (reduce (inter (gR l j).1 (gR l j).2.1 (gR l j).2.2.1 (gR l j).2.2.2 (gR (tilesH h) t.toNat).1 (gR (tilesH h) t.toNat).2.1 (gR (tilesH h) t.toNat).2.2.1 (gR (tilesH h) t.toNat).2.2.2).1 (inter (gR l j).1 (gR l j).2.1 (gR l j).2.2.1 (gR l j).2.2.2 (gR (tilesH h) t.toNat).1 (gR (tilesH h) t.toNat).2.1 (gR (tilesH h) t.toNat).2.2.1 (gR (tilesH h) t.toNat).2.2.2).2.1 (inter (gR l j).1 (gR l j).2.1 (gR l j).2.2.1 (gR l j).2.2.2 (gR (tilesH h) t.toNat).1 (gR (tilesH h) t.toNat).2.1 (gR (tilesH h) t.toNat).2.2.1 (gR (tilesH h) t.toNat).2.2.2).2.2.1 (inter (gR l j).1 (gR l j).2.1 (gR l j).2.2.1 (gR l j).2.2.2 (gR (tilesH h) t.toNat).1 (gR (tilesH h) t.toNat).2.1 (gR (tilesH h) t.toNat).2.2.1 (gR (tilesH h) t.toNat).2.2.2).2.2.2 (gC h.cs k.toNat).2.2.1 (gC h.cs k.toNat).2.2.2).2.2.1 (reduce (inter (gR l j).1 (gR l j).2.1 (gR l j).2.2.1 (gR l j).2.2.2 (gR (tilesH h) t.toNat).1 (gR (tilesH h) t.toNat).2.1 (gR (tilesH h) t.toNat).2.2.1 (gR (tilesH h) t.toNat).2.2.2).1 (inter (gR l j).1 (gR l j).2.1 (gR l j).2.2.1 (gR l j).2.2.2 (gR (tilesH h) t.toNat).1 (gR (tilesH h) t.toNat).2.1 (gR (tilesH h) t.toNat).2.2.1 (gR (tilesH h) t.toNat).2.2.2).2.1 (inter (gR l j).1 (gR l j).2.1 (gR l j).2.2.1 (gR l j).2.2.2 (gR (tilesH h) t.toNat).1 (gR (tilesH h) t.toNat).2.1 (gR (tilesH h) t.toNat).2.2.1 (gR (tilesH h) t.toNat).2.2.2).2.2.1 (inter (gR l j).1 (gR l j).2.1 (gR l j).2.2.1 (gR l j).2.2.2 (gR (tilesH h) t.toNat).1 (gR (tilesH h) t.toNat).2.1 (gR (tilesH h) t.toNat).2.2.1 (gR (tilesH h) t.toNat).2.2.2).2.2.2 (gC h.cs k.toNat).2.2.1 (gC h.cs k.toNat).2.2.2).2.2.2 p.ke = roiN h p t k (gR l j) := rfl
    have hN := roiN_len he (gR l j)
    have hc : 0 ≤ (j : Int) ∧ (j : Int) < (l.length : Int) := by omega
    have ht1 : t.toNat < (tilesH h).length := by omega
    have hb2 : 0 ≤ b ∧ b < (((count p.le).toNat : Nat) : Int) := by omega
    have hb3 : b.toNat < (count p.le).toNat := by omega
    have hml := roiM_le h p t k b (l.take j)
    rw [List.length_take] at hml
    have hm9 : ((roiM h p t k b (l.take j)).length + 1) * 33 ≤ 140737488355328 := by omega
    have hG : gR (roiN h p t k (gR l j)) b.toNat = roiG h p t k b (gR l j) := rfl
    have hst := roiM_s h p t k b l hj
    simp only [tu_roi_collect_0, U_roi_collect_0, LT.next, LT.run, ite2_bool, decide_eq_true_eq, Int.toNat_natCast, hX, hN, hG, if_pos hc, if_pos hc.2, if_pos hj, if_pos e4, if_pos ht1, if_pos hb2, if_pos hb3, hsm, if_true, List.length_cons, List.length_nil, Nat.zero_add, if_pos hm9]
    rw [wrap_in (n := (j : Int) + 1) (by omega) (by omega), hst]
    rcases Bool.eq_false_or_eq_true (empty (roiG h p t k b (gR l j)).1 (roiG h p t k b (gR l j)).2.1 (roiG h p t k b (gR l j)).2.2.1 (roiG h p t k b (gR l j)).2.2.2) with x | x
    · rw [if_neg (by rw [x]; decide), if_pos x, List.append_nil]
      rfl
    · rw [if_pos (by rw [x]; rfl), if_neg (by rw [x]; decide)]
      rfl
  · simp only [tu_roi_collect_0, U_roi_collect_0, LT.next, LT.run, ite2_bool, decide_eq_true_eq]
    rw [if_neg (by omega), roiM_n]
  · exact hk' K r h'
theorem z_roi_collect_0 : ZOk S_roi_collect_0 T_roi_collect_0 := by
  intro vs bl t y0'
  refine d_roi_collect_0 y0' fun h p t k b n i c0 c2 c3 c1 l u v u1' u2' yy' => ?_
  subst u1' u2'
  obtain ⟨hk, rfl⟩ := Prod.mk.inj (Option.some.inj yy')
  exact zz_roi_collect_0 _ _ _ _ _ _ _ _ _ _ _ _ _ _ hk
theorem q_roi_collect (h : Hd) (p : Pm) (t k b : Int) (l : List (Int × Int × Int × Int)) (hok : (roiOk h p t k b l && small l.length && (small h.cs.length && (small p.pr.length && small p.st.length))) = true) : funR Try.prog t_roi_collect (annOf []) l_roi_collect 20 Try.f35 [.agg (hdC h), .agg (pmC p), .one (.int .i64 t), .one (.int .i64 k), .one (.int .i64 b), .one (.lst (.pair (.int .i64) (.pair (.int .i64) (.pair (.int .i64) (.int .i64)))) l)] [] = some ⟨.one (.row 0), [], [.arr 28 (.pair (.int .i64) (.pair (.int .i64) (.pair (.int .i64) (.int .i64)))) (roiM h p t k b l)]⟩ := by
    refine (e_roi_collect ..).trans ?_
    simp only [Bool.and_eq_true] at hok
    obtain ⟨⟨ho, hsl⟩, s1, s2, s3⟩ := hok
    have ho' := ho
    simp only [roiOk, Bool.and_eq_true, decide_eq_true_eq, and_assoc] at ho
    obtain ⟨he, hb0, hb1, hl0⟩ := ho
    obtain ⟨e1, e2, e3, e4, e5⟩ := roi_ex he
    have ec : checkA h p = 0 := by
      simp only [existsB, Bool.and_eq_true, decide_eq_true_eq, and_assoc] at he
      exact he.1
    simp only [ite2_bool, decide_eq_true_eq, s1, s2, s3, hsl, ec, hl0, k_roi_collect_0, ho', Bool.and_self, decide_true, beq_self_eq_true, ge_iff_le, if_pos e4.1, if_pos e4.2, if_pos e5, if_pos e5.1, if_pos e5.2, if_pos hb0, if_pos hb1, if_true]
theorem s_roi_collect : SoundFun Try.prog 35 G_roi_collect := by
  refine fun_ok (tab := t_roi_collect) (ann := annOf []) (lt := l_roi_collect) (tab_cons s_roi_Valid (tab_cons s_params_Check (tab_cons s_lay_Tiles (tab_cons s_lay_Component (tab_cons s_pyr_Count (tab_cons s_rect_Empty (tab_cons s_rect_Reduce (tab_cons s_roi_demand (tab_cons s_rect_Intersect (tab_cons s_pyr_Need tab_nil)))))))))) (by kernel_rfl) (fn := Try.f35) (by kernel_rfl) (by decide) (c := bodyOf Try.f35) (by kernel_rfl) (by
    intro m b hb
    have hb' : b ∈ loopsOf (bodyOf Try.f35) := hb
    rw [o_roi_collect] at hb'
    simp only [List.mem_cons, List.not_mem_nil, or_false] at hb'
    rcases hb' with rfl
    · exact loop_ok (key := 7) (by kernel_rfl) rfl r_roi_collect_0 z_roi_collect_0 m
    ) ?_ (keep_nil (by kernel_rfl))
  intro args lent o y0'
  unfold G_roi_collect at y0'
  obtain ⟨q', args, rfl, y1'⟩ := pA_s y0'
  obtain ⟨h, rfl, y2'⟩ := rdHd_s y1'
  obtain ⟨q', args, rfl, y3'⟩ := pA_s y2'
  obtain ⟨p, rfl, y4'⟩ := rdPm_s y3'
  obtain ⟨t, args, rfl, y5'⟩ := pI_s y4'
  obtain ⟨k, args, rfl, y6'⟩ := pI_s y5'
  obtain ⟨b, args, rfl, y7'⟩ := pI_s y6'
  obtain ⟨c', args, rfl, y8'⟩ := pO_s y7'
  obtain ⟨l, rfl, y9'⟩ := kLR_s y8'
  obtain ⟨rfl, y10'⟩ := pE_s y9'
  obtain ⟨rfl, y11'⟩ := nE_s y10'
  have yy' := y11'
  unfold H_roi_collect at yy'
  obtain ⟨hok, rfl⟩ := Prod.mk.inj (Option.some.inj yy')
  exact ⟨20, q_roi_collect _ _ _ _ _ _ hok⟩
theorem roi_idle (u : Value) (w : World) : CallsD Try.prog 34 #[u] .returning w fun e u' w' => e = .returned (.tuple #[]) ∧ u' = .returning ∧ w' = w := by
  refine callsD_of_wpS Try.func34 rfl fun c₀ cs hu => ?_
  apply wpS_seq
  apply wpS_region
  simp [wpOpsS, go_sem, recoverD, hu, Try.ntmps34, Exit.thenS]
  apply wpS_seq
  apply wpS_region
  simp [wpOpsS, go_sem, recoverD, hu, Exit.thenS]
  refine wpS_cond (t := false) (by simp [Act.eval, Array.replicate]) ?_
  simp only [Bool.false_eq_true, if_false]
  refine wpS_of_wp (wp_skip ?_)
  cases c₀
  simp_all [bodyPostS, results, Try.results34]
theorem q_roi_Band (h : Hd) (p : Pm) (t k b : Int) (l : List (Int × Int × Int × Int)) (hok : (roiOk h p t k b l && small l.length && (small h.cs.length && (small p.pr.length && small p.st.length))) = true) : funD Try.prog t_roi_Band (annOf []) l_roi_Band 20 Try.f12 13 [.agg (hdC h), .agg (pmC p), .one (.int .i64 t), .one (.int .i64 k), .one (.int .i64 b), .one (.lst (.pair (.int .i64) (.pair (.int .i64) (.pair (.int .i64) (.int .i64)))) l)] [] = some ⟨.one (.row 0), [], [.arr 28 (.pair (.int .i64) (.pair (.int .i64) (.pair (.int .i64) (.int .i64)))) (roiM h p t k b l)]⟩ := by
    refine (e_roi_Band ..).trans ?_
    simp only [ite2_bool, hok, if_true]
theorem s_roi_Band : SoundFun Try.prog 12 G_roi_Band := by
  refine fun_defers (tab := t_roi_Band) (ann := annOf []) (lt := l_roi_Band) (tab_cons s_roi_collect tab_nil) (by kernel_rfl) (fn := Try.f12) (by kernel_rfl) (by decide) rfl rfl rfl rfl rfl rfl rfl (fun u w => by simp [go_sem]) roi_idle (by kernel_rfl) (by kernel_rfl) ?_ (keep_nil (by kernel_rfl))
  intro args lent o y0'
  unfold G_roi_Band at y0'
  obtain ⟨q', args, rfl, y1'⟩ := pA_s y0'
  obtain ⟨h, rfl, y2'⟩ := rdHd_s y1'
  obtain ⟨q', args, rfl, y3'⟩ := pA_s y2'
  obtain ⟨p, rfl, y4'⟩ := rdPm_s y3'
  obtain ⟨t, args, rfl, y5'⟩ := pI_s y4'
  obtain ⟨k, args, rfl, y6'⟩ := pI_s y5'
  obtain ⟨b, args, rfl, y7'⟩ := pI_s y6'
  obtain ⟨c', args, rfl, y8'⟩ := pO_s y7'
  obtain ⟨l, rfl, y9'⟩ := kLR_s y8'
  obtain ⟨rfl, y10'⟩ := pE_s y9'
  obtain ⟨rfl, y11'⟩ := nE_s y10'
  have yy' := y11'
  unfold H_roi_Band at yy'
  obtain ⟨hok, rfl⟩ := Prod.mk.inj (Option.some.inj yy')
  exact ⟨20, q_roi_Band _ _ _ _ _ _ hok⟩
theorem q_law_large (u : List Int) (a b c d : Int) (m : List (Int × Int × Int × Int)) (hok : true = true) : funR Try.prog t_law_large (annOf []) l_law_large 20 Try.f14 [.agg [.lst (.int .i64) u, .int .i64 a, .int .i64 b, .int .i64 c, .int .i64 d, .lst (.pair (.int .i64) (.pair (.int .i64) (.pair (.int .i64) (.int .i64)))) m]] [] = some ⟨.one (.bool (largeB u m)), [], []⟩ := by
    refine (e_law_large ..).trans ?_
    simp only [ite2_dec, ite2_bool, mx_eq, mn_eq, largeB]
    (repeat' split) <;> (try simp_all) <;> (try omega) <;> (try (rw [Bool.eq_iff_iff]; simp; omega))
theorem s_law_large : SoundFun Try.prog 14 G_law_large := by
  refine fun_ok (tab := t_law_large) (ann := annOf []) (lt := l_law_large) tab_nil (by kernel_rfl) (fn := Try.f14) (by kernel_rfl) (by decide) (c := bodyOf Try.f14) (by kernel_rfl) (no_loops (by kernel_rfl)) ?_ (keep_nil (by kernel_rfl))
  intro args lent o y0'
  unfold G_law_large at y0'
  obtain ⟨q', args, rfl, y1'⟩ := pA_s y0'
  obtain ⟨c', q', rfl, y2'⟩ := tC_s y1'
  obtain ⟨u, rfl, y3'⟩ := kLI_s y2'
  obtain ⟨a, b, c, d, q', rfl, y4'⟩ := t4_s y3'
  obtain ⟨c', q', rfl, y5'⟩ := tC_s y4'
  obtain ⟨m, rfl, y6'⟩ := kLR_s y5'
  obtain ⟨rfl, y7'⟩ := tE_s y6'
  obtain ⟨rfl, y8'⟩ := pE_s y7'
  obtain ⟨rfl, y9'⟩ := nE_s y8'
  have yy' := y9'
  unfold H_law_large at yy'
  obtain ⟨hok, rfl⟩ := Prod.mk.inj (Option.some.inj yy')
  exact ⟨20, q_law_large _ _ _ _ _ _ hok⟩
theorem d_law_same_0 {α : Type} {vs : List V} {bl : List (Option Blk)} {K} {r : α} {Q : Prop} (y0' : D_law_same_0 vs bl K = some r) (hh' : ∀ (l : List Int) (m : List Int) (n : Int) (i : Int), vs = [.one (.lst (.int .i64) l), .one (.lst (.int .i64) m), .one (.int .i64 n), .one (.int .i64 i)] → bl = [] → K l m n i = some r → Q) : Q := by
  unfold D_law_same_0 at y0'
  obtain ⟨c', vs, rfl, y1'⟩ := pO_s y0'
  obtain ⟨l, rfl, y2'⟩ := kLI_s y1'
  obtain ⟨c', vs, rfl, y3'⟩ := pO_s y2'
  obtain ⟨m, rfl, y4'⟩ := kLI_s y3'
  obtain ⟨n, vs, rfl, y5'⟩ := pI_s y4'
  obtain ⟨i, vs, rfl, y6'⟩ := pI_s y5'
  obtain ⟨rfl, y7'⟩ := pE_s y6'
  obtain ⟨rfl, y8'⟩ := bE_s y7'
  have yy' := y8'
  exact hh' _ _ _ _ rfl rfl yy'
theorem r_law_same_0 : RoundOk Try.prog t_law_same (annOf []) l_law_same Out 20 0 26 [0, 1, 12, 13] (kxOf [] [4]) (loopOf Try.f17 0) T_law_same_0 := by
  intro vs bl Kc r h
  unfold T_law_same_0 at h
  obtain ⟨t, y0', h'⟩ := getD_run h
  refine d_law_same_0 y0' fun l m n i u1' u2' yy' => ?_
  subst u1' u2'
  cases yy'
  exact (b_law_same_0 ..).trans h'
theorem o_law_same : loopsOf (bodyOf Try.f17) = [loopOf Try.f17 0] := by kernel_rfl
theorem zz_law_same_0 (l m : List Int) (hsm : small (l.length) = true) (hc : decide (l.length = m.length) = true) : ZZ (c_law_same_0 l m) T_law_same_0 [.one (.lst (.int .i64) l), .one (.lst (.int .i64) m), .one (.int .i64 (l.length : Int)), .one (.int .i64 0)] [] := by
  refine z_idx (st := fun i => ([.one (.lst (.int .i64) l), .one (.lst (.int .i64) m), .one (.int .i64 (l.length : Int)), .one (.int .i64 ((i : Nat) : Int))], [])) (l.length) (fun j => gI l j == gI m j) _ _ (fun i hi F K => ?_) (fun F K => ?_)
  · have hi' : (i : Int) < (l.length : Int) := by omega
    have hc' := hc
    simp only [Bool.and_eq_true, decide_eq_true_eq] at hc'
    simp only [tu_law_same_0, U_law_same_0, LT.next, LT.run, ite2_dec, ite2_bool, wrap_next hi hsm, Int.toNat_natCast, hi', Int.natCast_nonneg, and_self, if_true, gI, gP, gC, gR]
    have hj : (i : Int) < (m.length : Int) := by omega
    simp [hj, gI] <;> (repeat' split) <;> simp_all
  · simp only [tu_law_same_0, U_law_same_0, LT.next, LT.run, ite2_dec, Int.lt_irrefl, if_false]
    try rfl
theorem z_law_same_0 : ZOk S_law_same_0 T_law_same_0 := by
  intro vs bl t y0'
  refine d_law_same_0 y0' fun l m n i u1' u2' yy' => ?_
  subst u1' u2'
  obtain ⟨hk, rfl⟩ := Prod.mk.inj (Option.some.inj yy')
  unfold k_law_same_0 at hk
  simp only [Bool.and_eq_true, decide_eq_true_eq, and_assoc] at hk
  obtain ⟨rfl, rfl, hsm, hc⟩ := hk
  exact zz_law_same_0 _ _ hsm (by first | exact hc | simpa using hc)
theorem q_law_same (l m : List Int) (hok : small l.length = true) : funR Try.prog t_law_same (annOf []) l_law_same 20 Try.f17 [.one (.lst (.int .i64) l), .one (.lst (.int .i64) m)] [] = some ⟨.one (.bool (decide (l = m))), [], []⟩ := by
    refine (e_law_same ..).trans ?_
    simp only [ite2_bool]
    by_cases h : (l.length : Int) = (m.length : Int)
    · have h' : l.length = m.length := by omega
      have := all_eq l m 0 h'
      rw [if_neg (by simp [h])]
      have e : p_law_same_0 l m = decide (l = m) := this
      have hok2 : small m.length = true := by rw [← h']; exact hok
      have hk : k_law_same_0 l m (l.length : Int) 0 = true := by simp only [k_law_same_0, hok2, h', decide_true, Bool.and_self]
      rw [hk, if_pos rfl, e]
      by_cases q : l = m <;> simp [q]
    · have h' : ¬ l = m := fun e => h (by rw [e])
      simp [h, h']
theorem s_law_same : SoundFun Try.prog 17 G_law_same := by
  refine fun_ok (tab := t_law_same) (ann := annOf []) (lt := l_law_same) tab_nil (by kernel_rfl) (fn := Try.f17) (by kernel_rfl) (by decide) (c := bodyOf Try.f17) (by kernel_rfl) (by
    intro m b hb
    have hb' : b ∈ loopsOf (bodyOf Try.f17) := hb
    rw [o_law_same] at hb'
    simp only [List.mem_cons, List.not_mem_nil, or_false] at hb'
    rcases hb' with rfl
    · exact loop_ok (key := 4) (by kernel_rfl) rfl r_law_same_0 z_law_same_0 m
    ) ?_ (keep_nil (by kernel_rfl))
  intro args lent o y0'
  unfold G_law_same at y0'
  obtain ⟨c', args, rfl, y1'⟩ := pO_s y0'
  obtain ⟨l, rfl, y2'⟩ := kLI_s y1'
  obtain ⟨c', args, rfl, y3'⟩ := pO_s y2'
  obtain ⟨m, rfl, y4'⟩ := kLI_s y3'
  obtain ⟨rfl, y5'⟩ := pE_s y4'
  obtain ⟨rfl, y6'⟩ := nE_s y5'
  have yy' := y6'
  unfold H_law_same at yy'
  obtain ⟨hok, rfl⟩ := Prod.mk.inj (Option.some.inj yy')
  exact ⟨20, q_law_same _ _ hok⟩
theorem tdiv_bd {v p : Int} (hp : 1 ≤ p) : (0 ≤ v → 0 ≤ Int.tdiv v p ∧ Int.tdiv v p ≤ v) ∧ (v ≤ 0 → v ≤ Int.tdiv v p ∧ Int.tdiv v p ≤ 0) := by
  constructor
  · intro h
    rw [Int.tdiv_eq_ediv_of_nonneg h]
    exact ⟨Int.ediv_nonneg h (by omega), Int.ediv_le_self p h⟩
  · intro h
    have e : Int.tdiv v p = -(Int.tdiv (-v) p) := by rw [Int.neg_tdiv, Int.neg_neg]
    rw [e, Int.tdiv_eq_ediv_of_nonneg (show 0 ≤ -v by omega)]
    have h1 := Int.ediv_nonneg (show 0 ≤ -v by omega) (show 0 ≤ p by omega)
    have h2 := Int.ediv_le_self p (show 0 ≤ -v by omega)
    omega
theorem q_quant_Unscale (v m s : Int) (hok : (i64B v && inr 0 60 m) = true) : funR Try.prog t_quant_Unscale (annOf []) l_quant_Unscale 20 Try.f20 [.one (.int .i64 v), .one (.int .i64 m), .one (.int .i64 s)] [] = some ⟨.tup [(false, [.int .i64 (unsV v s)]), (false, [.int .i64 (unsM v m s)])], [], []⟩ := by
    refine (e_quant_Unscale ..).trans ?_
    simp only [Bool.and_eq_true] at hok
    obtain ⟨h1, h2⟩ := hok
    have b1 := inr_b h1
    have b2 := inr_b h2
    simp only [ite2_bool, decide_eq_true_eq, unsV, unsM]
    by_cases s1 : s < 1
    · simp [s1]
    by_cases s2 : s > 30
    · simp [s1, s2]
    have n : ¬ (s < 1 ∨ s > 30) := by omega
    have pq := pw_30 (s := s) (inr_t (by omega) (by omega))
    have tb := tdiv_bd (v := v) pq.2.2.2.1
    have tw : IntKind.wrap .i64 (Int.tdiv v (pw s)) = Int.tdiv v (pw s) := by
      by_cases hv : 0 ≤ v
      · have := tb.1 hv; exact wrap_in (by omega) (by omega)
      · have := tb.2 (by omega); exact wrap_in (by omega) (by omega)
    have hp : (!decide (pw s = 0)) = true := by simp; omega
    simp only [pq.2.1, tw, hp, if_neg s1, if_neg s2, if_neg n, if_neg (show ¬ m < 0 by omega), if_neg (show ¬ m > 60 by omega), if_pos (show 0 ≤ s by omega), if_true]
    by_cases hz : Int.tdiv v (pw s) = 0
    · rw [if_neg (by simp [hz]), if_pos hz, if_pos hz]
      have : (if s < m then s else m) = min m s := by omega
      rw [this]
    · rw [if_pos (by simpa using hz), if_neg hz, if_neg hz, wrap_in (n := m - s) (by omega) (by omega)]
      have : (if m - s > 0 then m - s else 0) = max 0 (m - s) := by omega
      rw [this]
theorem s_quant_Unscale : SoundFun Try.prog 20 G_quant_Unscale := by
  refine fun_ok (tab := t_quant_Unscale) (ann := annOf []) (lt := l_quant_Unscale) tab_nil (by kernel_rfl) (fn := Try.f20) (by kernel_rfl) (by decide) (c := bodyOf Try.f20) (by kernel_rfl) (no_loops (by kernel_rfl)) ?_ (keep_nil (by kernel_rfl))
  intro args lent o y0'
  unfold G_quant_Unscale at y0'
  obtain ⟨v, args, rfl, y1'⟩ := pI_s y0'
  obtain ⟨m, args, rfl, y2'⟩ := pI_s y1'
  obtain ⟨s, args, rfl, y3'⟩ := pI_s y2'
  obtain ⟨rfl, y4'⟩ := pE_s y3'
  obtain ⟨rfl, y5'⟩ := nE_s y4'
  have yy' := y5'
  unfold H_quant_Unscale at yy'
  obtain ⟨hok, rfl⟩ := Prod.mk.inj (Option.some.inj yy')
  exact ⟨20, q_quant_Unscale _ _ _ hok⟩
theorem q_awake  (hok : true = true) : funR Try.prog t_awake (annOf []) l_awake 20 Try.f8 [] [] = some ⟨.one (.bool true), [], []⟩ := by
    refine (e_awake ..).trans ?_
    kernel_rfl
theorem s_awake : SoundFun Try.prog 8 G_awake := by
  refine fun_ok (tab := t_awake) (ann := annOf []) (lt := l_awake) (tab_cons s_roi_Valid (tab_cons s_roi_Band (tab_cons s_roi_Scale (tab_cons s_law_same (tab_cons s_roi_Fits tab_nil))))) (by kernel_rfl) (fn := Try.f8) (by kernel_rfl) (by decide) (c := bodyOf Try.f8) (by kernel_rfl) (no_loops (by kernel_rfl)) ?_ (keep_nil (by kernel_rfl))
  intro args lent o y0'
  unfold G_awake at y0'
  obtain ⟨rfl, y1'⟩ := pE_s y0'
  obtain ⟨rfl, y2'⟩ := nE_s y1'
  have yy' := y2'
  unfold H_awake at yy'
  obtain ⟨hok, rfl⟩ := Prod.mk.inj (Option.some.inj yy')
  exact ⟨20, q_awake hok⟩
end Go.Rx.Ch30
