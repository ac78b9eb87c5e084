/- The summaries of these functions are sound. -/
import Derived.Test.YtcdmkbpmgeeghaaRE1
import Derived.Test.YtcdmkbpmgeeghaaRS3
import Derived.Test.YtcdmkbpmgeeghaaRE2
set_option linter.unnecessarySimpa false
set_option linter.unusedVariables false
set_option linter.unusedSimpArgs false
set_option maxRecDepth 100000
set_option maxHeartbeats 40000000
open Go Go.Rx Go.Proofs
namespace Go.Rx.Ch06
theorem cdiv_b6 {a k : Int} (h0 : 0 ≤ a) (h1 : a ≤ 4096) (hk : 1 ≤ k) : a / k ≤ cdiv a k ∧ cdiv a k ≤ a := by
  have h2 := Int.ediv_nonneg h0 (show 0 ≤ k by omega)
  have h3 := Int.ediv_le_self k h0
  have h4 := Int.emod_add_mul_ediv a k
  have h5 : 1 * (a / k) ≤ k * (a / k) := Int.mul_le_mul_of_nonneg_right hk h2
  unfold cdiv w
  rw [if_neg (by omega), Int.tmod_eq_emod_of_nonneg h0, Int.tdiv_eq_ediv_of_nonneg h0, wrap_in (n := a / k) (by omega) (by omega)]
  split
  · rw [wrap_in (by omega) (by omega)]; omega
  · omega
theorem cdiv_e6 {a k : Int} (h0 : 0 ≤ a) (h1 : a ≤ 4096) (hk : 1 ≤ k) : cdiv a k = a / k + (if a % k > 0 then 1 else 0) := by
  have h2 := Int.ediv_nonneg h0 (show 0 ≤ k by omega)
  have h3 := Int.ediv_le_self k h0
  unfold cdiv w
  rw [if_neg (by omega), Int.tmod_eq_emod_of_nonneg h0, Int.tdiv_eq_ediv_of_nonneg h0, wrap_in (n := a / k) (by omega) (by omega)]
  split
  · rw [wrap_in (by omega) (by omega)]
  · omega
theorem cdiv_mono6 {a c k : Int} (h0 : 0 ≤ a) (h : a ≤ c) (h1 : c ≤ 4096) (hk : 1 ≤ k) : 0 ≤ cdiv a k ∧ cdiv a k ≤ cdiv c k ∧ cdiv c k ≤ 4096 := by
  have h2 := Int.ediv_nonneg h0 (show 0 ≤ k by omega)
  have h3 := Int.ediv_le_ediv (show 0 < k by omega) h
  have h4 := cdiv_b6 (show 0 ≤ c by omega) h1 hk
  rw [cdiv_e6 h0 (by omega) hk] 
  rw [cdiv_e6 (show 0 ≤ c by omega) h1 hk] at h4 ⊢
  have e1 := Int.emod_add_mul_ediv a k
  have e2 := Int.emod_add_mul_ediv c k
  by_cases hq : a / k = c / k
  · rw [hq] at e1 ⊢
    split <;> split <;> omega
  · split <;> split <;> omega
theorem valid_reduce6 (a b c d x y : Int) : valid (reduce a b c d x y).1 (reduce a b c d x y).2.1 (reduce a b c d x y).2.2.1 (reduce a b c d x y).2.2.2 = true := by
  unfold reduce
  split
  · rfl
  · rename_i h
    simp only [Bool.or_eq_true, Bool.not_eq_true', decide_eq_true_eq, not_or, Bool.not_eq_false] at h
    have hb := valid_b h.1.1.1.1
    have h1 := cdiv_mono6 hb.1 hb.2.1 hb.2.2.1 (show 1 ≤ x by omega)
    have h2 := cdiv_mono6 hb.2.2.2.1 hb.2.2.2.2.1 hb.2.2.2.2.2 (show 1 ≤ y by omega)
    show valid (cdiv a x) (cdiv b y) (cdiv c x) (cdiv d y) = true
    exact valid_i5 (by omega)
theorem valid_resR6 (a b c d n r : Int) : valid (resR a b c d n r).1 (resR a b c d n r).2.1 (resR a b c d n r).2.2.1 (resR a b c d n r).2.2.2 = true := by
  unfold resR
  split
  · exact valid_reduce6 ..
  · rfl
theorem set3 {α : Type} (f g : Nat → α) (N t : Nat) (ht : 1 ≤ t) (h : ∀ i, i < N → (i + 2) / 3 ≠ t → g i = f i) : ((((List.range N).map f).set (3 * t - 3 + 1) (g (3 * t - 3 + 1))).set (3 * t - 3 + 2) (g (3 * t - 3 + 2))).set (3 * t - 3 + 3) (g (3 * t - 3 + 3)) = (List.range N).map g := by
  apply List.ext_getElem (by simp)
  intro i h1 h2
  simp only [List.length_map, List.length_range] at h2
  simp only [List.getElem_set, List.getElem_map, List.getElem_range]
  split
  · rename_i e; subst e; rfl
  · split
    · rename_i e; subst e; rfl
    · split
      · rename_i e; subst e; rfl
      · exact (h i h2 (by omega)).symm
theorem inter_v {a b c d e f g h : Int} (hv : valid e f g h = true) : valid (inter a b c d e f g h).1 (inter a b c d e f g h).2.1 (inter a b c d e f g h).2.2.1 (inter a b c d e f g h).2.2.2 = true := by
  have hb := valid_b hv
  unfold inter
  split
  · rfl
  · rename_i hn
    simp only [empty, Bool.or_eq_true, decide_eq_true_eq, not_or] at hn
    apply valid_i5
    simp only
    omega
theorem ndW_b {a b c d n m res : Int} {w : Rc} (hw : valid w.1 w.2.1 w.2.2.1 w.2.2.2 = true) : ∀ j, valid (ndW a b c d n m res w j).1 (ndW a b c d n m res w j).2.1 (ndW a b c d n m res w j).2.2.1 (ndW a b c d n m res w j).2.2.2 = true
  | 0 => hw
  | j + 1 => valid_bnd5 (by omega) (by omega)
theorem ndAt_at {a b c d n m res : Int} {w : Rc} {j t : Nat} (ht : res - (j : Int) = t) (h1 : 1 ≤ t) (o : Nat) (ho : 1 ≤ o) (ho3 : o ≤ 3) : ndAt a b c d n m res w (3 * t - 3 + o) = bndR (ndI a b c d n m res (ndW a b c d n m res w j) j) o := by
  have e1 : ((3 * t - 3 + o + 2 : Nat) : Int) / 3 = t := by omega
  have e2 : ((3 * t - 3 + o : Nat) : Int) - 3 * (((3 * t - 3 + o + 2 : Nat) : Int) / 3) + 3 = o := by rw [e1]; omega
  have e3 : (res - ((3 * t - 3 + o + 2 : Nat) : Int) / 3).toNat = j := by rw [e1]; omega
  unfold ndAt
  rw [if_neg (by omega), if_pos (by omega), e2, e3]
theorem ndL_step {a b c d n m res : Int} {w : Rc} {j t : Nat} (ht : res - (j : Int) = t) (h1 : 1 ≤ t) : (((ndL a b c d n m res w j).set (3 * t - 3 + 1) (bndR (ndI a b c d n m res (ndW a b c d n m res w j) j) 1)).set (3 * t - 3 + 2) (bndR (ndI a b c d n m res (ndW a b c d n m res w j) j) 2)).set (3 * t - 3 + 3) (bndR (ndI a b c d n m res (ndW a b c d n m res w j) j) 3) = ndL a b c d n m res w (j + 1) := by
  have a1 := ndAt_at (a := a) (b := b) (c := c) (d := d) (n := n) (m := m) (w := w) ht h1 1 (by omega) (by omega)
  have a2 := ndAt_at (a := a) (b := b) (c := c) (d := d) (n := n) (m := m) (w := w) ht h1 2 (by omega) (by omega)
  have a3 := ndAt_at (a := a) (b := b) (c := c) (d := d) (n := n) (m := m) (w := w) ht h1 3 (by omega) (by omega)
  have g : ∀ o : Nat, 1 ≤ o → o ≤ 3 → ndG a b c d n m res w (j + 1) (3 * t - 3 + o) = ndAt a b c d n m res w (3 * t - 3 + o) := by
    intro o h2 h3
    unfold ndG
    rw [if_pos (by omega)]
  have s := set3 (ndG a b c d n m res w j) (ndG a b c d n m res w (j + 1)) (3 * n + 1).toNat t h1 (fun i hi hne => by
    unfold ndG
    by_cases hc : 1 ≤ i ∧ ((i + 2 : Nat) : Int) / 3 ≤ res ∧ res - (i + 2 : Nat) / 3 < (j : Int)
    · rw [if_pos hc, if_pos (by omega)]
    · rw [if_neg hc, if_neg (by omega)])
  rw [g 1 (by omega) (by omega), g 2 (by omega) (by omega), g 3 (by omega) (by omega), a1, a2, a3] at s
  exact s
theorem ndL_zero {a b c d n m res : Int} {w : Rc} : ndL a b c d n m res w 0 = List.replicate (3 * n + 1).toNat (0, 0, 0, 0) := by
  apply List.ext_getElem (by simp [ndL])
  intro i h1 h2
  simp only [ndL, List.getElem_map, List.getElem_range, List.getElem_replicate]
  unfold ndG
  rw [if_neg (by omega)]
theorem ndL_len {a b c d n m res : Int} {w : Rc} (j : Nat) : (ndL a b c d n m res w j).length = (3 * n + 1).toNat := by simp [ndL]
theorem d_pyr_Need_0 {α : Type} {vs : List V} {bl : List (Option Blk)} {K} {r0' : α} {Q : Prop} (y0' : D_pyr_Need_0 vs bl K = some r0') (hh' : ∀ (a : Int) (b : Int) (c : Int) (d : Int) (n : Int) (m : Int) (w0 : Int) (w1 : Int) (w2 : Int) (w3 : Int) (t : Int) (v : List (Int × Int × Int × Int)), vs = [.one (.int .i64 n), .one (.ptr 0 0), .one (.int .i64 m), .one (.row 1), .one (.ptr 2 0), .one (.int .i64 t)] → bl = [some (.box [.int .i64 a, .int .i64 b, .int .i64 c, .int .i64 d]), some (.arr 31 (.pair (.int .i64) (.pair (.int .i64) (.pair (.int .i64) (.int .i64)))) v), some (.box [.int .i64 w0, .int .i64 w1, .int .i64 w2, .int .i64 w3])] → K a b c d n m w0 w1 w2 w3 t v = some r0' → Q) : Q := by
  unfold D_pyr_Need_0 at y0'
  obtain ⟨n, vs, rfl, y1'⟩ := pI_s y0'
  obtain ⟨vs, rfl, y2'⟩ := pP_s y1'
  obtain ⟨m, vs, rfl, y3'⟩ := pI_s y2'
  obtain ⟨c', vs, rfl, y4'⟩ := pO_s y3'
  obtain ⟨rfl, y5'⟩ := kR_s y4'
  obtain ⟨vs, rfl, y6'⟩ := pP_s y5'
  obtain ⟨t, vs, rfl, y7'⟩ := pI_s y6'
  obtain ⟨rfl, y8'⟩ := pE_s y7'
  obtain ⟨q', bl, rfl, y9'⟩ := bB_s y8'
  obtain ⟨a, b, c, d, q', rfl, y10'⟩ := t4_s y9'
  obtain ⟨rfl, y11'⟩ := tE_s y10'
  obtain ⟨v, bl, rfl, y12'⟩ := bAR_s y11'
  obtain ⟨q', bl, rfl, y13'⟩ := bB_s y12'
  obtain ⟨w0, w1, w2, w3, q', rfl, y14'⟩ := t4_s y13'
  obtain ⟨rfl, y15'⟩ := tE_s y14'
  obtain ⟨rfl, y16'⟩ := bE_s y15'
  have yy' := y16'
  exact hh' _ _ _ _ _ _ _ _ _ _ _ _ rfl rfl yy'
theorem r_pyr_Need_0 : RoundOk Try.prog t_pyr_Need (annOf []) l_pyr_Need Out 20 0 107 [1, 5, 11, 12, 13, 14] (kxOf [12, 13] [10]) (loopOf Try.f21 0) T_pyr_Need_0 := by
  intro vs bl Kc r h
  unfold T_pyr_Need_0 at h
  obtain ⟨t, y0', h'⟩ := getD_run h
  refine d_pyr_Need_0 y0' fun a b c d n m w0 w1 w2 w3 t v u1' u2' yy' => ?_
  subst u1' u2'
  cases yy'
  exact (b_pyr_Need_0 ..).trans h'
theorem o_pyr_Need : loopsOf (bodyOf Try.f21) = [loopOf Try.f21 0] := by kernel_rfl
theorem zz_pyr_Need_0 (a b c d n m w0 w1 w2 w3 t : Int) (v : List (Int × Int × Int × Int)) (hk : k_pyr_Need_0 a b c d n m w0 w1 w2 w3 t v = true) : ZZ (c_pyr_Need_0 a b c d n m w0 w1 w2 w3 t v) T_pyr_Need_0 [.one (.int .i64 n), .one (.ptr 0 0), .one (.int .i64 m), .one (.row 1), .one (.ptr 2 0), .one (.int .i64 t)] [some (.box [.int .i64 a, .int .i64 b, .int .i64 c, .int .i64 d]), some (.arr 31 (.pair (.int .i64) (.pair (.int .i64) (.pair (.int .i64) (.int .i64)))) v), some (.box [.int .i64 w0, .int .i64 w1, .int .i64 w2, .int .i64 w3])] := by
  simp only [k_pyr_Need_0, Bool.and_eq_true, decide_eq_true_eq] at hk
  obtain ⟨⟨⟨⟨z1, z2⟩, z3⟩, hv⟩, rfl⟩ := hk
  have b1 := inr_b z1
  have b2 := inr_b z2
  have b3 := inr_b z3
  have hw := ndW_b (a := a) (b := b) (c := c) (d := d) (n := n) (m := m) (res := t) (w := (w0, w1, w2, w3)) hv
  refine Exists.elim (z_fold (T := T_pyr_Need_0) (st := fun j => ([.one (.int .i64 n), .one (.ptr 0 0), .one (.int .i64 m), .one (.row 1), .one (.ptr 2 0), .one (.int .i64 (t - (j : Int)))], [some (.box [.int .i64 a, .int .i64 b, .int .i64 c, .int .i64 d]), some (.arr 31 (.pair (.int .i64) (.pair (.int .i64) (.pair (.int .i64) (.int .i64)))) (ndL a b c d n m t (w0, w1, w2, w3) j)), some (.box [.int .i64 ((ndW a b c d n m t (w0, w1, w2, w3) j).1), .int .i64 ((ndW a b c d n m t (w0, w1, w2, w3) j).2.1), .int .i64 ((ndW a b c d n m t (w0, w1, w2, w3) j).2.2.1), .int .i64 ((ndW a b c d n m t (w0, w1, w2, w3) j).2.2.2)])])) t.toNat (.leaf (.exit 0) [.one (.row 0), .one (.ptr 1 0)] [some (.arr 31 (.pair (.int .i64) (.pair (.int .i64) (.pair (.int .i64) (.int .i64)))) (ndL a b c d n m t (w0, w1, w2, w3) t.toNat)), some (.box [.int .i64 ((ndW a b c d n m t (w0, w1, w2, w3) t.toNat).1), .int .i64 ((ndW a b c d n m t (w0, w1, w2, w3) t.toNat).2.1), .int .i64 ((ndW a b c d n m t (w0, w1, w2, w3) t.toNat).2.2.1), .int .i64 ((ndW a b c d n m t (w0, w1, w2, w3) t.toNat).2.2.2)])]) (fun j hj F K => ?_) (fun F K => ?_)) (fun k hk => ⟨k, fun K r h => ?_⟩)
  · obtain ⟨q, hq⟩ : ∃ q : Nat, t - (j : Int) = q := ⟨(t - (j : Int)).toNat, by omega⟩
    have hb := valid_b (hw j)
    have hl := ndL_len (a := a) (b := b) (c := c) (d := d) (n := n) (m := m) (res := t) (w := (w0, w1, w2, w3)) j
    have hs := ndL_step (a := a) (b := b) (c := c) (d := d) (n := n) (m := m) (w := (w0, w1, w2, w3)) hq (by omega)
    simp only [tu_pyr_Need_0, U_pyr_Need_0, LT.next, LT.run, ite2_bool, decide_eq_true_eq, hq, List.length_set, hl]
    have i1 : IntKind.wrap .i64 (IntKind.wrap .i64 (3 * (q : Int)) - 2) = ((3 * q - 3 + 1 : Nat) : Int) := by rw [wrap_in (n := 3 * (q : Int)) (by omega) (by omega), wrap_in (by omega) (by omega)]; omega
    have i2 : IntKind.wrap .i64 (IntKind.wrap .i64 (3 * (q : Int)) - 1) = ((3 * q - 3 + 2 : Nat) : Int) := by rw [wrap_in (n := 3 * (q : Int)) (by omega) (by omega), wrap_in (by omega) (by omega)]; omega
    have i3 : IntKind.wrap .i64 (3 * (q : Int)) = ((3 * q - 3 + 3 : Nat) : Int) := by rw [wrap_in (by omega) (by omega)]; omega
    simp only [i1, i2]
    simp only [i3, Int.toNat_natCast]
    rw [if_pos (by omega), if_pos (by omega), if_pos (by omega), if_pos (by omega), if_pos (by omega), if_pos (by omega), if_pos (by omega), wrap_in (n := (q : Int) - 1) (by omega) (by omega), show (q : Int) - 1 = t - ((j + 1 : Nat) : Int) by omega, wrap_in (n := (ndW a b c d n m t (w0, w1, w2, w3) j).1 - m) (by omega) (by omega), wrap_in (n := (ndW a b c d n m t (w0, w1, w2, w3) j).2.1 - m) (by omega) (by omega), wrap_in (n := (ndW a b c d n m t (w0, w1, w2, w3) j).2.2.1 + m) (by omega) (by omega), wrap_in (n := (ndW a b c d n m t (w0, w1, w2, w3) j).2.2.2 + m) (by omega) (by omega), ← hs, ← hq]
    rfl
  · simp only [tu_pyr_Need_0, U_pyr_Need_0, LT.next, LT.run, ite2_bool, decide_eq_true_eq]
    rw [if_neg (by omega)]
  · have hk' := hk K r h
    rw [show t - ((0 : Nat) : Int) = t by simp, ndL_zero] at hk'
    exact hk'
theorem z_pyr_Need_0 : ZOk S_pyr_Need_0 T_pyr_Need_0 := by
  intro vs bl t y0'
  refine d_pyr_Need_0 y0' fun a b c d n m w0 w1 w2 w3 t v u1' u2' yy' => ?_
  subst u1' u2'
  obtain ⟨hk, rfl⟩ := Prod.mk.inj (Option.some.inj yy')
  exact zz_pyr_Need_0 _ _ _ _ _ _ _ _ _ _ _ _ hk
theorem q_pyr_Need (a b c d n r e f g h k : Int) (hok : true = true) : funR Try.prog t_pyr_Need (annOf []) l_pyr_Need 20 Try.f21 [.agg [.int .i64 a, .int .i64 b, .int .i64 c, .int .i64 d], .one (.int .i64 n), .one (.int .i64 r), .agg [.int .i64 e, .int .i64 f, .int .i64 g, .int .i64 h], .one (.int .i64 k)] [] = some ⟨.one (.row 0), [], [.arr 31 (.pair (.int .i64) (.pair (.int .i64) (.pair (.int .i64) (.int .i64)))) (ndF a b c d n r e f g h k)]⟩ := by
    refine (e_pyr_Need ..).trans ?_
    simp only [ite2_bool, decide_eq_true_eq]
    have hm : (marg k == 0) = !inr 1 3 k := by
      rw [← marg_k]
      have : 0 ≤ marg k := by unfold marg; split <;> (try split) <;> omega
      by_cases h : marg k = 0
      · simp [h]
      · have h2 : marg k > 0 := by omega
        simp [h, h2]
    have hm4 : inr 0 4 (marg k) = true := by unfold marg; split <;> (try split) <;> rfl
    cases hv : valid a b c d
    · rw [show ndF a b c d n r e f g h k = [] by simp [ndF, ndOk, hv]]
      simp
    cases hn : inr 0 5 n
    · rw [show ndF a b c d n r e f g h k = [] by simp [ndF, ndOk, hn]]
      simp [count, hn]
    have hb := inr_b hn
    cases hr : inr 0 n r
    · rw [show ndF a b c d n r e f g h k = [] by simp [ndF, ndOk, hr]]
      have : r < 0 ∨ r > n := by simp [inr] at hr; omega
      have hc0 : ¬ count n = 0 := by simp only [count, hn, if_true]; omega
      rcases this with h2 | h2 <;> simp [h2, hc0]
    have hc := inr_b hr
    cases hk : inr 1 3 k
    · rw [show ndF a b c d n r e f g h k = [] by simp [ndF, ndOk, hk]]
      have hc0 : ¬ count n = 0 := by simp only [count, hn, if_true]; omega
      simp [hm, hk, hc0, show ¬ r < 0 by omega, show ¬ r > n by omega]
    have hcn : count n = 3 * n + 1 := by simp only [count, hn, if_true]
    have hc0 : (3 * n + 1 == 0) = false := by simp only [beq_eq_false_iff_ne, ne_eq]; omega
    have vw := inter_v (a := e) (b := f) (c := g) (d := h) (valid_resR6 a b c d n r)
    have hk0 : k_pyr_Need_0 a b c d n (marg k) (inter e f g h (resR a b c d n r).1 (resR a b c d n r).2.1 (resR a b c d n r).2.2.1 (resR a b c d n r).2.2.2).1 (inter e f g h (resR a b c d n r).1 (resR a b c d n r).2.1 (resR a b c d n r).2.2.1 (resR a b c d n r).2.2.2).2.1 (inter e f g h (resR a b c d n r).1 (resR a b c d n r).2.1 (resR a b c d n r).2.2.1 (resR a b c d n r).2.2.2).2.2.1 (inter e f g h (resR a b c d n r).1 (resR a b c d n r).2.1 (resR a b c d n r).2.2.1 (resR a b c d n r).2.2.2).2.2.2 r (List.replicate (3 * n + 1).toNat (0, 0, 0, 0)) = true := by
      simp only [k_pyr_Need_0, hn, hr, hm4, vw, decide_true, Bool.and_self]
    cases he : empty (ndIn a b c d n r e f g h).1 (ndIn a b c d n r e f g h).2.1 (ndIn a b c d n r e f g h).2.2.1 (ndIn a b c d n r e f g h).2.2.2
    · rw [show ndF a b c d n r e f g h k = (ndL a b c d n (marg k) r (ndIn a b c d n r e f g h) r.toNat).set 0 (ndW a b c d n (marg k) r (ndIn a b c d n r e f g h) r.toNat) by simp only [ndF, ndOk, hv, hn, hr, hk, he, Bool.and_self, if_true, Bool.false_eq_true, if_false]]
      unfold ndIn at he
      simp only [hm, hk, hcn, hc0, he, hk0, ndL_len, Bool.not_true, Bool.false_eq_true, if_false, if_true]
      rw [if_neg (by omega), if_neg (by omega), if_pos (by omega), if_pos (by omega), if_pos (by omega)]
      rfl
    · rw [show ndF a b c d n r e f g h k = List.replicate (count n).toNat (0, 0, 0, 0) by simp only [ndF, ndOk, hv, hn, hr, hk, he, Bool.and_self, if_true]]
      unfold ndIn at he
      simp only [hm, hk, hcn, hc0, he, Bool.not_true, Bool.false_eq_true, if_false, if_true]
      rw [if_neg (by omega), if_neg (by omega), if_pos (by omega)]
      rfl
theorem s_pyr_Need : SoundFun Try.prog 21 G_pyr_Need := by
  refine fun_ok (tab := t_pyr_Need) (ann := annOf []) (lt := l_pyr_Need) (tab_cons s_pyr_Count (tab_cons s_pyr_Resolution (tab_cons s_rect_Intersect (tab_cons s_pyr_validLevels (tab_cons s_lift_Margin (tab_cons s_rect_Valid (tab_cons s_rect_Empty (tab_cons s_dwt_Bands tab_nil)))))))) (by kernel_rfl) (fn := Try.f21) (by kernel_rfl) (by decide) (c := bodyOf Try.f21) (by kernel_rfl) (by
    intro m b hb
    have hb' : b ∈ loopsOf (bodyOf Try.f21) := hb
    rw [o_pyr_Need] at hb'
    simp only [List.mem_cons, List.not_mem_nil, or_false] at hb'
    rcases hb' with rfl
    · exact loop_ok (key := 9) (by kernel_rfl) rfl r_pyr_Need_0 z_pyr_Need_0 m
    ) ?_ (keep_nil (by kernel_rfl))
  intro args lent o y0'
  unfold G_pyr_Need at y0'
  obtain ⟨q', args, rfl, y1'⟩ := pA_s y0'
  obtain ⟨a, b, c, d, q', rfl, y2'⟩ := t4_s y1'
  obtain ⟨rfl, y3'⟩ := tE_s y2'
  obtain ⟨n, args, rfl, y4'⟩ := pI_s y3'
  obtain ⟨r, args, rfl, y5'⟩ := pI_s y4'
  obtain ⟨q', args, rfl, y6'⟩ := pA_s y5'
  obtain ⟨e, f, g, h, q', rfl, y7'⟩ := t4_s y6'
  obtain ⟨rfl, y8'⟩ := tE_s y7'
  obtain ⟨k, args, rfl, y9'⟩ := pI_s y8'
  obtain ⟨rfl, y10'⟩ := pE_s y9'
  obtain ⟨rfl, y11'⟩ := nE_s y10'
  have yy' := y11'
  unfold H_pyr_Need at yy'
  obtain ⟨hok, rfl⟩ := Prod.mk.inj (Option.some.inj yy')
  exact ⟨20, q_pyr_Need _ _ _ _ _ _ _ _ _ _ _ hok⟩
theorem d_pyr_Bound_0 {α : Type} {vs : List V} {bl : List (Option Blk)} {K} {r0' : α} {Q : Prop} (y0' : D_pyr_Bound_0 vs bl K = some r0') (hh' : ∀ (b : Int) (kk : Int) (o : Int) (m : Int) (t : Int), vs = [.one (.int .i64 b), .one (.int .i64 kk), .one (.int .i64 o), .one (.int .i64 m), .one (.int .i64 t)] → bl = [] → K b kk o m t = some r0' → Q) : Q := by
  unfold D_pyr_Bound_0 at y0'
  obtain ⟨b, vs, rfl, y1'⟩ := pI_s y0'
  obtain ⟨kk, vs, rfl, y2'⟩ := pI_s y1'
  obtain ⟨o, vs, rfl, y3'⟩ := pI_s y2'
  obtain ⟨m, vs, rfl, y4'⟩ := pI_s y3'
  obtain ⟨t, vs, rfl, y5'⟩ := pI_s y4'
  obtain ⟨rfl, y6'⟩ := pE_s y5'
  obtain ⟨rfl, y7'⟩ := bE_s y6'
  have yy' := y7'
  exact hh' _ _ _ _ _ rfl rfl yy'
theorem r_pyr_Bound_0 : RoundOk Try.prog t_pyr_Bound (annOf []) l_pyr_Bound Out 20 0 70 [0, 3, 10, 38, 39] (kxOf [0, 3, 10] [8]) (loopOf Try.f23 0) T_pyr_Bound_0 := by
  intro vs bl Kc r h
  unfold T_pyr_Bound_0 at h
  obtain ⟨t, y0', h'⟩ := getD_run h
  refine d_pyr_Bound_0 y0' fun b kk o m t u1' u2' yy' => ?_
  subst u1' u2'
  cases yy'
  exact (b_pyr_Bound_0 ..).trans h'
theorem o_pyr_Bound : loopsOf (bodyOf Try.f23) = [loopOf Try.f23 0] := by kernel_rfl
theorem zz_pyr_Bound_0 (b kk o m t : Int) (hk : k_pyr_Bound_0 b kk o m t = true) : ZZ (c_pyr_Bound_0 b kk o m t) T_pyr_Bound_0 [.one (.int .i64 b), .one (.int .i64 kk), .one (.int .i64 o), .one (.int .i64 m), .one (.int .i64 t)] [] := by
  simp only [k_pyr_Bound_0, Bool.and_eq_true, decide_eq_true_eq] at hk
  obtain ⟨rfl, z1⟩ := hk
  have b1 := inr_b z1
  refine Exists.elim (z_fold (T := T_pyr_Bound_0) (st := fun j => ([.one (.int .i64 (bnB kk b j)), .one (.int .i64 kk), .one (.int .i64 o), .one (.int .i64 m), .one (.int .i64 (j : Int))], [])) m.toNat (.leaf (.exit 0) [.one (.int .i64 (bnB kk b m.toNat)), .one (.int .i64 kk), .one (.int .i64 o)] []) (fun j hj F K => ?_) (fun F K => ?_)) (fun k hk => ⟨k, fun K r h => ?_⟩)
  · simp only [tu_pyr_Bound_0, U_pyr_Bound_0, LT.next, LT.run, ite2_bool, decide_eq_true_eq]
    rw [if_pos (by omega), wrap_in (n := (j : Int) + 1) (by omega) (by omega)]
    rfl
  · simp only [tu_pyr_Bound_0, U_pyr_Bound_0, LT.next, LT.run, ite2_bool, decide_eq_true_eq]
    rw [if_neg (by omega)]
  · exact hk K r h
theorem z_pyr_Bound_0 : ZOk S_pyr_Bound_0 T_pyr_Bound_0 := by
  intro vs bl t y0'
  refine d_pyr_Bound_0 y0' fun b kk o m t u1' u2' yy' => ?_
  subst u1' u2'
  obtain ⟨hk, rfl⟩ := Prod.mk.inj (Option.some.inj yy')
  exact zz_pyr_Bound_0 _ _ _ _ _ hk
theorem q_pyr_Bound (b n i k : Int) (hok : true = true) : funR Try.prog t_pyr_Bound (annOf []) l_pyr_Bound 20 Try.f23 [.one (.int .i64 b), .one (.int .i64 n), .one (.int .i64 i), .one (.int .i64 k)] [] = some ⟨.one (.int .i64 (bdP b n i k)), [], []⟩ := by
    refine (e_pyr_Bound ..).trans ?_
    have hm : (marg k == 0) = !inr 1 3 k := by
      rw [← marg_k]
      have : 0 ≤ marg k := by unfold marg; split <;> (try split) <;> omega
      by_cases h : marg k = 0
      · simp [h]
      · have h2 : marg k > 0 := by omega
        simp [h, h2]
    simp only [ite2_bool, decide_eq_true_eq, bdP, hm, bne_iff_ne, beq_iff_eq]
    by_cases h1 : b < 0
    · have h2 : decide (0 ≤ b) = false := by rw [decide_eq_false_iff_not]; omega
      simp [h1, h2]
    by_cases h3 : b > 1048576
    · have h2 : decide (b ≤ 1048576) = false := by rw [decide_eq_false_iff_not]; omega
      simp [h3, h2]
    cases hp : plOk i n
    · simp
    cases hk : inr 1 3 k
    · simp
    have pb := pl_b hp
    have h2 : decide (0 ≤ b) = true := by rw [decide_eq_true_eq]; omega
    have h4 : decide (b ≤ 1048576) = true := by rw [decide_eq_true_eq]; omega
    rw [h2, h4]
    by_cases hi : i = 0
    · subst hi
      have e1 : plLv 0 n = n := by simp [plLv, hp]
      have e2 : plOr 0 n = 0 := by simp [plOr, hp]
      have ki : inr 0 5 n = true := inr_t (by omega) (by omega)
      simp [k_pyr_Bound_0, e1, e2, ki, h1, h3, bdO]
    · have pd := pl_d hp hi
      have hi' : i > 0 := by omega
      have ki : inr 0 5 (plLv i n - 1) = true := inr_t (by omega) (by omega)
      have ho : plOr i n = 1 ∨ plOr i n = 2 ∨ plOr i n = 3 := by omega
      rw [wrap_in (n := plLv i n - 1) (by omega) (by omega)]
      rcases ho with ho | ho | ho <;> simp [k_pyr_Bound_0, ho, ki, hi, hi', h1, h3, bdO]
theorem s_pyr_Bound : SoundFun Try.prog 23 G_pyr_Bound := by
  refine fun_ok (tab := t_pyr_Bound) (ann := annOf []) (lt := l_pyr_Bound) (tab_cons s_pyr_Place (tab_cons s_lift_Margin (tab_cons s_lift_Low (tab_cons s_lift_High tab_nil)))) (by kernel_rfl) (fn := Try.f23) (by kernel_rfl) (by decide) (c := bodyOf Try.f23) (by kernel_rfl) (by
    intro m b hb
    have hb' : b ∈ loopsOf (bodyOf Try.f23) := hb
    rw [o_pyr_Bound] at hb'
    simp only [List.mem_cons, List.not_mem_nil, or_false] at hb'
    rcases hb' with rfl
    · exact loop_ok (key := 7) (by kernel_rfl) rfl r_pyr_Bound_0 z_pyr_Bound_0 m
    ) ?_ (keep_nil (by kernel_rfl))
  intro args lent o y0'
  unfold G_pyr_Bound at y0'
  obtain ⟨b, args, rfl, y1'⟩ := pI_s y0'
  obtain ⟨n, args, rfl, y2'⟩ := pI_s y1'
  obtain ⟨i, args, rfl, y3'⟩ := pI_s y2'
  obtain ⟨k, args, rfl, y4'⟩ := pI_s y3'
  obtain ⟨rfl, y5'⟩ := pE_s y4'
  obtain ⟨rfl, y6'⟩ := nE_s y5'
  have yy' := y6'
  unfold H_pyr_Bound at yy'
  obtain ⟨hok, rfl⟩ := Prod.mk.inj (Option.some.inj yy')
  exact ⟨20, q_pyr_Bound _ _ _ _ hok⟩
theorem sp_plV {a b c d k : Int} {l : List Int} (e : spErr a b c d k l = 0) : plV (bnd a b c d 0).1 (bnd a b c d 0).2.1 (bnd a b c d 0).2.2.1 (bnd a b c d 0).2.2.2 (spD0 a b c d k l) = true := by
  obtain ⟨hv, hk, hf⟩ := spErr_s e
  have pb := plV_b hv
  have hB := bnd_v pb.1
  have wb := bw_bh pb.1
  have sl := (spD_len e).1
  rw [wb.1, wb.2.2.1] at sl
  have ce := cev_bd (s := a) (n := c - a) (by omega)
  have cf := cev_bd (s := b) (n := d - b) (by omega)
  have h5 := Int.mul_le_mul ce.2 cf.2 cf.1 (by omega : 0 ≤ c - a)
  exact plV_n (l := spD0 a b c d k l) (x := cev a (c - a)) (y := cev b (d - b)) (valid_bnd5 (a := a) (b := b) (c := c) (d := d) (o := 0) (by omega) (by omega)) (by simp only [hB.1, cev]; omega) (by simp only [hB.1, cev]; omega) sl (by omega)
theorem spErr_i {a b c d k : Int} {l : List Int} (h1 : plV a b c d l = true) (h2 : inr 1 3 k = true) (h3 : fit 35184372088832 l) : spErr a b c d k l = 0 := by
  simp [spErr, h1, h2, fit_fitB h3]
theorem anS_ok {k : Int} {q : Rc × List Int} (hv : plVR q = true) (hk : inr 1 3 k = true) (hf : fit 1048576 q.2) : ∀ j, j ≤ 5 → plVR (anS k j q) = true ∧ fit (6 ^ j * 1048576) (anS k j q).2 ∧ spErr (anS k j q).1.1 (anS k j q).1.2.1 (anS k j q).1.2.2.1 (anS k j q).1.2.2.2 k (anS k j q).2 = 0
  | 0, _ => ⟨hv, by simpa [anS] using hf, spErr_i hv hk (fit_mono hf (by omega))⟩
  | j + 1, hj => by
    obtain ⟨h1, h2, h3⟩ := anS_ok hv hk hf j (by omega)
    have hB : (1 : Int) ≤ 6 ^ j ∧ (6 : Int) ^ j ≤ 1296 := by
      have : ∀ m : Nat, m < 5 → (1 : Int) ≤ 6 ^ m ∧ (6 : Int) ^ m ≤ 1296 := by decide
      exact this j (by omega)
    have e6 : (6 : Int) ^ (j + 1) = 6 ^ j * 6 := rfl
    have q0 := hb_le (b := 6 ^ j * 1048576) (k := k) (by omega) (inr_b hk)
    have q1 := hb_le (b := lb (6 ^ j * 1048576) k) (k := k) (by omega) (inr_b hk)
    have sf := (spD_fit h3 (by omega) h2).1
    have pv := sp_plV h3
    have f6 : fit (6 ^ (j + 1) * 1048576) (anS k (j + 1) q).2 := fit_mono sf (by rw [e6]; omega)
    exact ⟨pv, f6, spErr_i pv hk (fit_mono f6 (by rw [e6]; omega))⟩
theorem anAt_at {n k : Int} {q : Rc × List Int} {j t : Nat} (ht : n - (j : Int) = t) (h1 : 1 ≤ t) (o : Nat) (ho : 1 ≤ o) (ho3 : o ≤ 3) : anAt n k q (3 * t - 3 + o) = plT (bndR (anS k j q).1 o) (spDo o (anS k j q).1 k (anS k j q).2) := by
  have e1 : ((3 * t - 3 + o + 2 : Nat) : Int) / 3 = t := by omega
  have e2 : ((3 * t - 3 + o : Nat) : Int) - 3 * (((3 * t - 3 + o + 2 : Nat) : Int) / 3) + 3 = o := by rw [e1]; omega
  have e3 : (n - ((3 * t - 3 + o + 2 : Nat) : Int) / 3).toNat = j := by rw [e1]; omega
  unfold anAt
  rw [if_neg (by omega), e2, e3]
theorem anL_step {n k : Int} {q : Rc × List Int} {j t : Nat} (ht : n - (j : Int) = t) (h1 : 1 ≤ t) : (((anL n k q j).set (3 * t - 3 + 1) (plT (bndR (anS k j q).1 1) (spDo 1 (anS k j q).1 k (anS k j q).2))).set (3 * t - 3 + 2) (plT (bndR (anS k j q).1 2) (spDo 2 (anS k j q).1 k (anS k j q).2))).set (3 * t - 3 + 3) (plT (bndR (anS k j q).1 3) (spDo 3 (anS k j q).1 k (anS k j q).2)) = anL n k q (j + 1) := by
  have a1 := anAt_at (k := k) (q := q) ht h1 1 (by omega) (by omega)
  have a2 := anAt_at (k := k) (q := q) ht h1 2 (by omega) (by omega)
  have a3 := anAt_at (k := k) (q := q) ht h1 3 (by omega) (by omega)
  have g : ∀ o : Nat, 1 ≤ o → o ≤ 3 → anG n k q (j + 1) (3 * t - 3 + o) = anAt n k q (3 * t - 3 + o) := by
    intro o h2 h3
    unfold anG
    rw [if_pos (by omega)]
  have s := set3 (anG n k q j) (anG n k q (j + 1)) (3 * n + 1).toNat t h1 (fun i hi hne => by
    unfold anG
    by_cases hc : 1 ≤ i ∧ n - (i + 2 : Nat) / 3 < (j : Int)
    · rw [if_pos hc, if_pos (by omega)]
    · rw [if_neg hc, if_neg (by omega)])
  rw [g 1 (by omega) (by omega), g 2 (by omega) (by omega), g 3 (by omega) (by omega), a1, a2, a3] at s
  exact s
theorem anL_end {n k : Int} {q : Rc × List Int} (h0 : 0 ≤ n) : (anL n k q n.toNat).set 0 (plT (anS k n.toNat q).1 (anS k n.toNat q).2) = (List.range (3 * n + 1).toNat).map (anAt n k q) := by
  apply List.ext_getElem (by simp [anL])
  intro i h1 h2
  simp only [List.length_map, List.length_range] at h2
  simp only [anL, List.getElem_set, List.getElem_map, List.getElem_range]
  split
  · rename_i e; subst e; rfl
  · rw [if_pos (by omega)]
theorem anL_zero {n k : Int} {q : Rc × List Int} : anL n k q 0 = List.replicate (3 * n + 1).toNat ((0, 0, 0, 0), []) := by
  apply List.ext_getElem (by simp [anL])
  intro i h1 h2
  simp only [List.length_replicate] at h2
  simp only [anL, List.getElem_map, List.getElem_range, List.getElem_replicate]
  rw [if_neg (by omega)]
theorem d_pyr_Analyze_0 {α : Type} {vs : List V} {bl : List (Option Blk)} {K} {r0' : α} {Q : Prop} (y0' : D_pyr_Analyze_0 vs bl K = some r0') (hh' : ∀ (a : Int) (b : Int) (c : Int) (d : Int) (n : Int) (kk : Int) (l : List Int) (v : List (Rc × List Int)), vs = [.one (.int .i64 kk), .one (.row 0), .one (.ptr 1 0), .one (.int .i64 n)] → bl = [some (.arr 33 (.pair (.pair (.int .i64) (.pair (.int .i64) (.pair (.int .i64) (.int .i64)))) (.sl (.int .i64))) v), some (.box [.int .i64 a, .int .i64 b, .int .i64 c, .int .i64 d, .row 2]), some (.arr 3 (.int .i64) l)] → K a b c d n kk l v = some r0' → Q) : Q := by
  unfold D_pyr_Analyze_0 at y0'
  obtain ⟨kk, vs, rfl, y1'⟩ := pI_s y0'
  obtain ⟨c', vs, rfl, y2'⟩ := pO_s y1'
  obtain ⟨rfl, y3'⟩ := kR_s y2'
  obtain ⟨vs, rfl, y4'⟩ := pP_s y3'
  obtain ⟨n, vs, rfl, y5'⟩ := pI_s y4'
  obtain ⟨rfl, y6'⟩ := pE_s y5'
  obtain ⟨v, bl, rfl, y7'⟩ := bAN_s y6'
  obtain ⟨q', bl, rfl, y8'⟩ := bB_s y7'
  obtain ⟨a, b, c, d, rfl, y9'⟩ := rd1P_s y8'
  obtain ⟨l, bl, rfl, y10'⟩ := bAI_s y9'
  obtain ⟨rfl, y11'⟩ := bE_s y10'
  have yy' := y11'
  exact hh' _ _ _ _ _ _ _ _ rfl rfl yy'
theorem r_pyr_Analyze_0 : RoundOk Try.prog t_pyr_Analyze (annOf []) l_pyr_Analyze Out 20 0 71 [2, 8, 9, 10] (kxOf [8, 9] [6, 7]) (loopOf Try.f18 0) T_pyr_Analyze_0 := by
  intro vs bl Kc r h
  unfold T_pyr_Analyze_0 at h
  obtain ⟨t, y0', h'⟩ := getD_run h
  refine d_pyr_Analyze_0 y0' fun a b c d n kk l v u1' u2' yy' => ?_
  subst u1' u2'
  cases yy'
  exact (b_pyr_Analyze_0 ..).trans h'
theorem o_pyr_Analyze : loopsOf (bodyOf Try.f18) = [loopOf Try.f18 0, loopOf Try.f18 1] := by kernel_rfl
theorem zz_pyr_Analyze_0 (a b c d n kk : Int) (l : List Int) (v : List (Rc × List Int)) (hk : k_pyr_Analyze_0 a b c d n kk l v = true) : ZZ (c_pyr_Analyze_0 a b c d n kk l v) T_pyr_Analyze_0 [.one (.int .i64 kk), .one (.row 0), .one (.ptr 1 0), .one (.int .i64 n)] [some (.arr 33 (.pair (.pair (.int .i64) (.pair (.int .i64) (.pair (.int .i64) (.int .i64)))) (.sl (.int .i64))) v), some (.box [.int .i64 a, .int .i64 b, .int .i64 c, .int .i64 d, .row 2]), some (.arr 3 (.int .i64) l)] := by
  simp only [k_pyr_Analyze_0, Bool.and_eq_true, decide_eq_true_eq] at hk
  obtain ⟨⟨⟨⟨z1, hv⟩, z2⟩, hf⟩, rfl⟩ := hk
  have b1 := inr_b z1
  have so := anS_ok (k := kk) (q := ((a, b, c, d), l)) hv z2 (fitB_fit hf)
  refine Exists.elim (z_fold (T := T_pyr_Analyze_0) (st := fun j => ([.one (.int .i64 kk), .one (.row 0), .one (.ptr 1 0), .one (.int .i64 (n - (j : Int)))], [some (.arr 33 (.pair (.pair (.int .i64) (.pair (.int .i64) (.pair (.int .i64) (.int .i64)))) (.sl (.int .i64))) (anL n kk ((a, b, c, d), l) j)), some (.box [.int .i64 ((anS kk j ((a, b, c, d), l)).1.1), .int .i64 ((anS kk j ((a, b, c, d), l)).1.2.1), .int .i64 ((anS kk j ((a, b, c, d), l)).1.2.2.1), .int .i64 ((anS kk j ((a, b, c, d), l)).1.2.2.2), .row 2]), some (.arr 3 (.int .i64) (anS kk j ((a, b, c, d), l)).2)])) n.toNat (.leaf (.exit 0) [.one (.row 0), .one (.ptr 1 0)] [some (.arr 33 (.pair (.pair (.int .i64) (.pair (.int .i64) (.pair (.int .i64) (.int .i64)))) (.sl (.int .i64))) (anL n kk ((a, b, c, d), l) n.toNat)), some (.box [.int .i64 ((anS kk n.toNat ((a, b, c, d), l)).1.1), .int .i64 ((anS kk n.toNat ((a, b, c, d), l)).1.2.1), .int .i64 ((anS kk n.toNat ((a, b, c, d), l)).1.2.2.1), .int .i64 ((anS kk n.toNat ((a, b, c, d), l)).1.2.2.2), .row 2]), some (.arr 3 (.int .i64) (anS kk n.toNat ((a, b, c, d), l)).2)]) (fun j hj F K => ?_) (fun F K => ?_)) (fun k hk => ⟨k, fun K r h => ?_⟩)
  · obtain ⟨q, hq⟩ : ∃ q : Nat, n - (j : Int) = q := ⟨(n - (j : Int)).toNat, by omega⟩
    obtain ⟨p1, p2, p3⟩ := so j (by omega)
    have pb := plV_b p1
    have hl : (anL n kk ((a, b, c, d), l) j).length = (3 * n + 1).toNat := by simp [anL]
    have hs := anL_step (k := kk) (q := ((a, b, c, d), l)) hq (by omega)
    have hr : ∀ o, spR (anS kk j ((a, b, c, d), l)).1.1 (anS kk j ((a, b, c, d), l)).1.2.1 (anS kk j ((a, b, c, d), l)).1.2.2.1 (anS kk j ((a, b, c, d), l)).1.2.2.2 kk (anS kk j ((a, b, c, d), l)).2 o = bnd (anS kk j ((a, b, c, d), l)).1.1 (anS kk j ((a, b, c, d), l)).1.2.1 (anS kk j ((a, b, c, d), l)).1.2.2.1 (anS kk j ((a, b, c, d), l)).1.2.2.2 o := fun o => by simp only [spR, p3, if_true]
    have hsm : small (anS kk j ((a, b, c, d), l)).2.length = true := by simp only [small, decide_eq_true_eq]; omega
    simp only [tu_pyr_Analyze_0, U_pyr_Analyze_0, LT.next, LT.run, ite2_bool, decide_eq_true_eq, hq, List.length_set, hl, hr, p3]
    have i1 : IntKind.wrap .i64 (IntKind.wrap .i64 (IntKind.wrap .i64 (3 * (q : Int)) - 3) + 1) = ((3 * q - 3 + 1 : Nat) : Int) := by rw [wrap_in (n := 3 * (q : Int)) (by omega) (by omega), wrap_in (n := 3 * (q : Int) - 3) (by omega) (by omega), wrap_in (by omega) (by omega)]; omega
    have i2 : IntKind.wrap .i64 (IntKind.wrap .i64 (IntKind.wrap .i64 (3 * (q : Int)) - 3) + 2) = ((3 * q - 3 + 2 : Nat) : Int) := by rw [wrap_in (n := 3 * (q : Int)) (by omega) (by omega), wrap_in (n := 3 * (q : Int) - 3) (by omega) (by omega), wrap_in (by omega) (by omega)]; omega
    have i3 : IntKind.wrap .i64 (IntKind.wrap .i64 (IntKind.wrap .i64 (3 * (q : Int)) - 3) + 3) = ((3 * q - 3 + 3 : Nat) : Int) := by rw [wrap_in (n := 3 * (q : Int)) (by omega) (by omega), wrap_in (n := 3 * (q : Int) - 3) (by omega) (by omega), wrap_in (by omega) (by omega)]; omega
    simp only [i1, i2]
    simp only [i3, Int.toNat_natCast]
    rw [if_pos (by omega), if_pos hsm, if_neg (by decide), if_pos (by omega), if_pos (by omega), if_pos (by omega), if_pos (by omega), if_pos (by omega), if_pos (by omega), wrap_in (n := (q : Int) - 1) (by omega) (by omega), show (q : Int) - 1 = n - ((j + 1 : Nat) : Int) by omega, ← hs]
    rfl
  · simp only [tu_pyr_Analyze_0, U_pyr_Analyze_0, LT.next, LT.run, ite2_bool, decide_eq_true_eq]
    rw [if_neg (by omega)]
  · have hk' := hk K r h
    rw [show n - ((0 : Nat) : Int) = n by simp, anL_zero] at hk'
    exact hk'
theorem z_pyr_Analyze_0 : ZOk S_pyr_Analyze_0 T_pyr_Analyze_0 := by
  intro vs bl t y0'
  refine d_pyr_Analyze_0 y0' fun a b c d n kk l v u1' u2' yy' => ?_
  subst u1' u2'
  obtain ⟨hk, rfl⟩ := Prod.mk.inj (Option.some.inj yy')
  exact zz_pyr_Analyze_0 _ _ _ _ _ _ _ _ hk
theorem q_pyr_Analyze (a b c d n k : Int) (l : List Int) (hok : small l.length = true) : funR Try.prog t_pyr_Analyze (annOf []) l_pyr_Analyze 20 Try.f18 [.agg [.int .i64 a, .int .i64 b, .int .i64 c, .int .i64 d, .lst (.int .i64) l], .one (.int .i64 n), .one (.int .i64 k)] [] = some ⟨.tup [(false, [.row 0]), (false, [.int .i64 (anErr a b c d n k l)])], [], [.arr 33 (.pair (.pair (.int .i64) (.pair (.int .i64) (.pair (.int .i64) (.int .i64)))) (.sl (.int .i64))) (anF a b c d n k l)]⟩ := by
    refine (e_pyr_Analyze ..).trans ?_
    have hm : (marg k == 0) = !inr 1 3 k := by
      rw [← marg_k]
      have : 0 ≤ marg k := by unfold marg; split <;> (try split) <;> omega
      by_cases h : marg k = 0
      · simp [h]
      · have h2 : marg k > 0 := by omega
        simp [h, h2]
    simp only [ite2_bool, decide_eq_true_eq, hm, List.nil_append, Nat.zero_add]
    cases hv : plV a b c d l
    · simp [anErr, anF, hv] <;> rfl
    cases hk : inr 1 3 k
    · simp [anErr, anF, hv, hk] <;> rfl
    cases hn : inr 0 5 n
    · simp [anErr, anF, hv, hk, hn, count] <;> rfl
    cases hf : fitB 1048576 l
    · have hb := inr_b hn
      have hc0 : ¬ count n = 0 := by simp only [count, hn, if_true]; omega
      simp [anErr, anF, hv, hk, hn, hf, hok, hc0] <;> rfl
    have pb := plV_b hv
    have hb := inr_b hn
    have e : anErr a b c d n k l = 0 := by simp [anErr, hv, hk, hn, hf]
    have hcn : count n = 3 * n + 1 := by simp only [count, hn, if_true]
    have hc0 : (3 * n + 1 == 0) = false := by simp only [beq_eq_false_iff_ne, ne_eq]; omega
    have hl : (anL n k ((a, b, c, d), l) n.toNat).length = (3 * n + 1).toNat := by simp [anL]
    rw [hcn, e]
    simp only [hc0, hok, Bool.and_true, Bool.not_true, Bool.false_eq_true, if_false, if_true, hl]
    rw [if_pos (by omega), if_pos (by omega), if_pos (by simp only [k_pyr_Analyze_0, hn, hv, hk, hf, decide_true, Bool.and_self]), if_pos (by omega), if_pos (by omega)]
    unfold anF
    rw [if_pos e, ← anL_end hb.1]
    rfl
theorem s_pyr_Analyze : SoundFun Try.prog 18 G_pyr_Analyze := by
  refine fun_ok (tab := t_pyr_Analyze) (ann := annOf []) (lt := l_pyr_Analyze) (tab_cons s_pyr_Count (tab_cons s_dwt_Split (tab_cons s_pyr_validLevels (tab_cons s_pl_Valid (tab_cons s_lift_Margin (tab_cons s_pyr_exceeds tab_nil)))))) (by kernel_rfl) (fn := Try.f18) (by kernel_rfl) (by decide) (c := bodyOf Try.f18) (by kernel_rfl) (by
    intro m b hb
    have hb' : b ∈ loopsOf (bodyOf Try.f18) := hb
    rw [o_pyr_Analyze] at hb'
    simp only [List.mem_cons, List.not_mem_nil, or_false] at hb'
    rcases hb' with rfl | rfl
    · exact loop_ok (key := 10) (by kernel_rfl) rfl r_pyr_Analyze_0 z_pyr_Analyze_0 m
    · exact loop_none (by kernel_rfl) m
    ) ?_ (keep_nil (by kernel_rfl))
  intro args lent o y0'
  unfold G_pyr_Analyze at y0'
  obtain ⟨q', args, rfl, y1'⟩ := pA_s y0'
  obtain ⟨a, b, c, d, q', rfl, y2'⟩ := t4_s y1'
  obtain ⟨c', q', rfl, y3'⟩ := tC_s y2'
  obtain ⟨l, rfl, y4'⟩ := kLI_s y3'
  obtain ⟨rfl, y5'⟩ := tE_s y4'
  obtain ⟨n, args, rfl, y6'⟩ := pI_s y5'
  obtain ⟨k, args, rfl, y7'⟩ := pI_s y6'
  obtain ⟨rfl, y8'⟩ := pE_s y7'
  obtain ⟨rfl, y9'⟩ := nE_s y8'
  have yy' := y9'
  unfold H_pyr_Analyze at yy'
  obtain ⟨hok, rfl⟩ := Prod.mk.inj (Option.some.inj yy')
  exact ⟨20, q_pyr_Analyze _ _ _ _ _ _ _ hok⟩
theorem d_law_same_0 {α : Type} {vs : List V} {bl : List (Option Blk)} {K} {r0' : α} {Q : Prop} (y0' : D_law_same_0 vs bl K = some r0') (hh' : ∀ (a : Int) (b : Int) (c : Int) (d : Int) (a1 : Int) (b1 : Int) (c1 : Int) (d1 : Int) (l : List Int) (m : List Int) (n : Int) (i : Int), vs = [.one (.ptr 0 0), .one (.ptr 1 0), .one (.int .i64 n), .one (.int .i64 i)] → bl = [some (.box [.int .i64 a, .int .i64 b, .int .i64 c, .int .i64 d, .lst (.int .i64) l]), some (.box [.int .i64 a1, .int .i64 b1, .int .i64 c1, .int .i64 d1, .lst (.int .i64) m])] → K a b c d a1 b1 c1 d1 l m n i = some r0' → Q) : Q := by
  unfold D_law_same_0 at y0'
  obtain ⟨vs, rfl, y1'⟩ := pP_s y0'
  obtain ⟨vs, rfl, y2'⟩ := pP_s y1'
  obtain ⟨n, vs, rfl, y3'⟩ := pI_s y2'
  obtain ⟨i, vs, rfl, y4'⟩ := pI_s y3'
  obtain ⟨rfl, y5'⟩ := pE_s y4'
  obtain ⟨q', bl, rfl, y6'⟩ := bB_s y5'
  obtain ⟨a, b, c, d, q', rfl, y7'⟩ := t4_s y6'
  obtain ⟨c', q', rfl, y8'⟩ := tC_s y7'
  obtain ⟨l, rfl, y9'⟩ := kLI_s y8'
  obtain ⟨rfl, y10'⟩ := tE_s y9'
  obtain ⟨q', bl, rfl, y11'⟩ := bB_s y10'
  obtain ⟨a1, b1, c1, d1, q', rfl, y12'⟩ := t4_s y11'
  obtain ⟨c', q', rfl, y13'⟩ := tC_s y12'
  obtain ⟨m, rfl, y14'⟩ := kLI_s y13'
  obtain ⟨rfl, y15'⟩ := tE_s y14'
  obtain ⟨rfl, y16'⟩ := bE_s y15'
  have yy' := y16'
  exact hh' _ _ _ _ _ _ _ _ _ _ _ _ rfl rfl yy'
theorem r_law_same_0 : RoundOk Try.prog t_law_same (annOf []) l_law_same Out 20 0 38 [2, 3, 22, 23] (kxOf [] [4]) (loopOf Try.f32 0) T_law_same_0 := by
  intro vs bl Kc r h
  unfold T_law_same_0 at h
  obtain ⟨t, y0', h'⟩ := getD_run h
  refine d_law_same_0 y0' fun a b c d a1 b1 c1 d1 l m n i u1' u2' yy' => ?_
  subst u1' u2'
  cases yy'
  exact (b_law_same_0 ..).trans h'
theorem o_law_same : loopsOf (bodyOf Try.f32) = [loopOf Try.f32 0] := by kernel_rfl
theorem zz_law_same_0 (a b c d a1 b1 c1 d1 : Int) (l m : List Int) (hsm : small (l.length) = true) (hc : decide (l.length = m.length) = true) : ZZ (c_law_same_0 a b c d a1 b1 c1 d1 l m) T_law_same_0 [.one (.ptr 0 0), .one (.ptr 1 0), .one (.int .i64 (l.length : Int)), .one (.int .i64 0)] [some (.box [.int .i64 a, .int .i64 b, .int .i64 c, .int .i64 d, .lst (.int .i64) l]), some (.box [.int .i64 a1, .int .i64 b1, .int .i64 c1, .int .i64 d1, .lst (.int .i64) m])] := by
  refine z_idx (st := fun i => ([.one (.ptr 0 0), .one (.ptr 1 0), .one (.int .i64 (l.length : Int)), .one (.int .i64 ((i : Nat) : Int))], [some (.box [.int .i64 a, .int .i64 b, .int .i64 c, .int .i64 d, .lst (.int .i64) l]), some (.box [.int .i64 a1, .int .i64 b1, .int .i64 c1, .int .i64 d1, .lst (.int .i64) m])])) (l.length) (fun j => gI l j == gI m j) _ _ (fun i hi F K => ?_) (fun F K => ?_)
  · have hi' : (i : Int) < (l.length : Int) := by omega
    have hc' := hc
    simp only [Bool.and_eq_true, decide_eq_true_eq] at hc'
    simp only [tu_law_same_0, U_law_same_0, LT.next, LT.run, ite2_dec, ite2_bool, wrap_next hi hsm, Int.toNat_natCast, hi', Int.natCast_nonneg, and_self, if_true, gI, gP, gC, gR]
    have hj : (i : Int) < (m.length : Int) := by omega
    simp [hj, gI] <;> (repeat' split) <;> simp_all
  · simp only [tu_law_same_0, U_law_same_0, LT.next, LT.run, ite2_dec, Int.lt_irrefl, if_false]
    try rfl
theorem z_law_same_0 : ZOk S_law_same_0 T_law_same_0 := by
  intro vs bl t y0'
  refine d_law_same_0 y0' fun a b c d a1 b1 c1 d1 l m n i u1' u2' yy' => ?_
  subst u1' u2'
  obtain ⟨hk, rfl⟩ := Prod.mk.inj (Option.some.inj yy')
  unfold k_law_same_0 at hk
  simp only [Bool.and_eq_true, decide_eq_true_eq, and_assoc] at hk
  obtain ⟨rfl, rfl, hsm, hc⟩ := hk
  exact zz_law_same_0 _ _ _ _ _ _ _ _ _ _ hsm (by first | exact hc | simpa using hc)
theorem q_law_same (a b c d a1 b1 c1 d1 : Int) (l m : List Int) (hok : small l.length = true) : funR Try.prog t_law_same (annOf []) l_law_same 20 Try.f32 [.agg [.int .i64 a, .int .i64 b, .int .i64 c, .int .i64 d, .lst (.int .i64) l], .agg [.int .i64 a1, .int .i64 b1, .int .i64 c1, .int .i64 d1, .lst (.int .i64) m]] [] = some ⟨.one (.bool (samePl a b c d l a1 b1 c1 d1 m)), [], []⟩ := by
    refine (e_law_same ..).trans ?_
    simp only [ite2_bool, k_law_same_0, p_law_same_0, samePl]
    rw [show (a == a1 && (b == b1 && (c == c1 && (d == d1 && true)))) = isR a b c d (a1, b1, c1, d1) from rfl]
    cases hR : isR a b c d (a1, b1, c1, d1)
    · simp
    by_cases hl : l.length = m.length
    · have hq : (List.range l.length).all (fun j => gI l j == gI m j) = decide (l = m) := all_eq l m (0 : Int) hl
      rw [hl] at hok
      rw [hq]
      simp [hl, hok]
      (repeat' split) <;> simp_all
    · have g1 : l ≠ m := fun e => hl (by rw [e])
      have g2 : ¬ ((l.length : Int) = m.length) := by omega
      simp [g1, g2]
theorem s_law_same : SoundFun Try.prog 32 G_law_same := by
  refine fun_ok (tab := t_law_same) (ann := annOf []) (lt := l_law_same) tab_nil (by kernel_rfl) (fn := Try.f32) (by kernel_rfl) (by decide) (c := bodyOf Try.f32) (by kernel_rfl) (by
    intro m b hb
    have hb' : b ∈ loopsOf (bodyOf Try.f32) := hb
    rw [o_law_same] at hb'
    simp only [List.mem_cons, List.not_mem_nil, or_false] at hb'
    rcases hb' with rfl
    · exact loop_ok (key := 4) (by kernel_rfl) rfl r_law_same_0 z_law_same_0 m
    ) ?_ (keep_nil (by kernel_rfl))
  intro args lent o y0'
  unfold G_law_same at y0'
  obtain ⟨q', args, rfl, y1'⟩ := pA_s y0'
  obtain ⟨a, b, c, d, q', rfl, y2'⟩ := t4_s y1'
  obtain ⟨c', q', rfl, y3'⟩ := tC_s y2'
  obtain ⟨l, rfl, y4'⟩ := kLI_s y3'
  obtain ⟨rfl, y5'⟩ := tE_s y4'
  obtain ⟨q', args, rfl, y6'⟩ := pA_s y5'
  obtain ⟨a1, b1, c1, d1, q', rfl, y7'⟩ := t4_s y6'
  obtain ⟨c', q', rfl, y8'⟩ := tC_s y7'
  obtain ⟨m, rfl, y9'⟩ := kLI_s y8'
  obtain ⟨rfl, y10'⟩ := tE_s y9'
  obtain ⟨rfl, y11'⟩ := pE_s y10'
  obtain ⟨rfl, y12'⟩ := nE_s y11'
  have yy' := y12'
  unfold H_law_same at yy'
  obtain ⟨hok, rfl⟩ := Prod.mk.inj (Option.some.inj yy')
  exact ⟨20, q_law_same _ _ _ _ _ _ _ _ _ _ hok⟩
theorem samePl_refl (a b c d : Int) (l : List Int) : samePl a b c d l a b c d l = true := by simp [samePl, isR]
theorem smAll_ix {l : List (Rc × List Int)} (h : smAll l = true) {i : Nat} (hi : i < l.length) : small l[i].2.length = true := by
  unfold smAll at h
  rw [List.all_eq_true] at h
  exact h _ (List.getElem_mem hi)
theorem q_awake  (hok : true = true) : funR Try.prog t_awake (annOf []) l_awake 20 Try.f17 [] [] = some ⟨.one (.bool true), [], []⟩ := by
    refine (e_awake ..).trans ?_
    kernel_rfl
theorem s_awake : SoundFun Try.prog 17 G_awake := by
  refine fun_ok (tab := t_awake) (ann := annOf []) (lt := l_awake) (tab_cons s_pyr_Place (tab_cons s_pyr_Count (tab_cons s_pyr_Indices (tab_cons s_pyr_Analyze (tab_cons s_pyr_Need (tab_cons s_pyr_Bound (tab_cons s_pyr_Resolution tab_nil))))))) (by kernel_rfl) (fn := Try.f17) (by kernel_rfl) (by decide) (c := bodyOf Try.f17) (by kernel_rfl) (no_loops (by kernel_rfl)) ?_ (keep_nil (by kernel_rfl))
  intro args lent o y0'
  unfold G_awake at y0'
  obtain ⟨rfl, y1'⟩ := pE_s y0'
  obtain ⟨rfl, y2'⟩ := nE_s y1'
  have yy' := y2'
  unfold H_awake at yy'
  obtain ⟨hok, rfl⟩ := Prod.mk.inj (Option.some.inj yy')
  exact ⟨20, q_awake hok⟩
theorem small_d {n : Nat} (h : n ≤ 16777216) : small n = true := by simp only [small, decide_eq_true_eq]; omega

theorem iz_bdB {B : Int} {l : List Int} {s k : Int} (hB : 4 ≤ B) (h : Bd B l) : Bd (4 * B) (iz l s k) := by
  unfold iz
  split
  rotate_left
  · exact h.mono (by omega)
  rename_i hn
  have hn : 2 ≤ l.length := by omega
  unfold inv
  generalize hm : stp 0 (-1) (upd k) s l = m
  have hml : m.length = l.length := by rw [← hm, stp_length]
  have m0 : ∀ q : Nat, q < m.length → (s + q) % 2 = 0 → -(2 * B) ≤ rd m q ∧ rd m q ≤ 2 * B := by
    intro q hq hp
    rw [← hm, stp_val q (by omega) hp]
    have a1 := h.at (q + 1) hn
    have a2 := h.at (q - 1) hn
    have a0 := h q
    unfold upd
    split <;> omega
  have m1 : ∀ q : Nat, q < m.length → (s + q) % 2 = 1 → -B ≤ rd m q ∧ rd m q ≤ B := by
    intro q hq hp
    rw [← hm, stp_keep q (by omega)]
    exact h q
  intro q
  by_cases hq : q < m.length
  rotate_left
  · rw [rd_out _ _ (by rw [stp_length]; omega)]; omega
  by_cases hp : (s + q) % 2 = 1
  · rw [stp_val q hq hp]
    have b1 := at_par (e := 1) (i := q) (by omega) m0 (by omega)
    have b2 := at_par (e := -1) (i := q) (by omega) m0 (by omega)
    have b3 := at_par (e := 3) (i := q) (by omega) m0 (by omega)
    have b4 := at_par (e := -3) (i := q) (by omega) m0 (by omega)
    have c1 := m1 q hq hp
    unfold prd
    simp only [Int.sub_eq_add_neg]
    split
    · omega
    · split <;> omega
  · rw [stp_keep q hp]
    have := m0 q hq (by omega)
    omega
theorem iv_bdB {p q : List Int} {s k n B : Int} (hB : 4 ≤ B ∧ B ≤ 1125899906842624) (hk : inr 1 3 k = true) (hs : inr 0 4096 s = true) (hn : 0 ≤ n ∧ n ≤ 4096) (hp : (p.length : Int) = cev s n) (hq : (q.length : Int) = n - cev s n) (fp : fit B p) (fq : fit B q) : ((iv p q s k).1.length : Int) = n ∧ fit (4 * B) (iv p q s k).1 := by
  obtain ⟨m, rfl⟩ : ∃ m : Nat, n = m := ⟨n.toNat, by omega⟩
  have h := evs_ilv m s p q hp hq
  have hl := ilv_length m s p q
  have hb := ilv_bd (c := B) (by omega) m s p q
  generalize ilv s m p q = z at h hl hb
  obtain ⟨rfl, rfl⟩ := h
  have e := iv_ok (inr_b hk) (inr_b hs) (by omega) (fit_mono fp hB.2) (fit_mono fq hB.2)
  rw [e]
  exact ⟨by rw [iz_len, hl], (iz_bdB hB.1 (Bd.of_mem (by omega) (hb fp fq))).mem⟩
theorem mg_good {a b c d k B : Int} {l0 l1 l2 l3 : List Int} (hv : valid a b c d = true) (ha : area a b c d ≤ 1048576) (hk : inr 1 3 k = true) (hB : 4 ≤ B ∧ B ≤ 281474976710656) (f0 : fit B l0) (f1 : fit B l1) (f2 : fit B l2) (f3 : fit B l3) : plV a b c d (mgL 0 a b c d k l0 l1 l2 l3) = true ∧ fit (16 * B) (mgL 0 a b c d k l0 l1 l2 l3) := by
  have ab := valid_b hv
  have av := area_v hv
  have wb := bw_bh hv
  have hs : inr 0 4096 b = true := inr_t (by omega) (by omega)
  have ha' : inr 0 4096 a = true := inr_t (by omega) (by omega)
  have ce := cev_bd (s := a) (n := c - a) (by omega)
  have cf := cev_bd (s := b) (n := d - b) (by omega)
  have cl := fun x => iv_bdB (k := k) (s := b) (n := d - b) (B := B) (p := colOf l0 (bw a b c d 0) x (bh a b c d 0)) (q := colOf l2 (bw a b c d 0) x (bh a b c d 2)) (by omega) hk hs (by omega) (by rw [colOf_len, wb.2.2.1]; omega) (by rw [colOf_len, wb.2.2.2.2.1]; omega) (fit_col (by omega) f0 _ _ _) (fit_col (by omega) f2 _ _ _)
  have ch := fun x => iv_bdB (k := k) (s := b) (n := d - b) (B := B) (p := colOf l1 (bw a b c d 1) x (bh a b c d 1)) (q := colOf l3 (bw a b c d 1) x (bh a b c d 3)) (by omega) hk hs (by omega) (by rw [colOf_len, wb.2.2.2.1]; omega) (by rw [colOf_len, wb.2.2.2.2.2]; omega) (fit_col (by omega) f1 _ _ _) (fit_col (by omega) f3 _ _ _)
  have flo : fit (4 * B) (mgLo a b c d k l0 l2) := fit_mat (by omega) fun x _ => (cl x).2
  have fhi : fit (4 * B) (mgHi a b c d k l1 l3) := fit_mat (by omega) fun x _ => (ch x).2
  have llo : (mgLo a b c d k l0 l2).length = (d - b).toNat * bw a b c d 0 := matC_len ..
  have lhi : (mgHi a b c d k l1 l3).length = (d - b).toNat * bw a b c d 1 := matC_len ..
  have rr := fun y (hy : y < (d - b).toNat) => iv_bdB (k := k) (s := a) (n := c - a) (B := 4 * B) (p := rowAt (mgLo a b c d k l0 l2) (bw a b c d 0) y) (q := rowAt (mgHi a b c d k l1 l3) (bw a b c d 1) y) (by omega) hk ha' (by omega) (by rw [rowAt_len llo hy, wb.1]; omega) (by rw [rowAt_len lhi hy, wb.2.1]; omega) (fit_row flo _ _) (fit_row fhi _ _)
  have hl := catR_len (f := mgRow (mgLo a b c d k l0 l2) (mgHi a b c d k l1 l3) (bw a b c d 0) (bw a b c d 1) a k) (g := (c - a).toNat) (d - b).toNat (fun y hy => by have := (rr y hy).1; unfold mgRow; omega)
  have hf : fit (16 * B) (catR (mgRow (mgLo a b c d k l0 l2) (mgHi a b c d k l1 l3) (bw a b c d 0) (bw a b c d 1) a k) (d - b).toNat) := fit_cat _ fun y hy => by
    have := (rr y hy).2
    rw [show 16 * B = 4 * (4 * B) by omega]
    exact this
  have e : mgL 0 a b c d k l0 l1 l2 l3 = catR (mgRow (mgLo a b c d k l0 l2) (mgHi a b c d k l1 l3) (bw a b c d 0) (bw a b c d 1) a k) (d - b).toNat := by unfold mgL; rw [if_pos rfl]
  rw [e]
  refine ⟨plV_i hv ?_ (by omega), hf⟩
  rw [hl, Int.natCast_mul, Int.toNat_of_nonneg (by omega), Int.toNat_of_nonneg (by omega), Int.mul_comm]
theorem cdiv_half {a x : Int} (h0 : 0 ≤ a) (h1 : a ≤ 4096) (hx : x = 1 ∨ x = 2 ∨ x = 4 ∨ x = 8 ∨ x = 16) : cdiv a (2 * x) = (cdiv a x + 1) / 2 := by
  rw [cdiv_e6 h0 h1 (by omega), cdiv_e6 h0 h1 (by omega)]
  rcases hx with rfl | rfl | rfl | rfl | rfl <;> split <;> split <;> omega
theorem res_half {a b c d n j : Int} (hn : inr 0 5 n = true) (h0 : 0 ≤ j) (h1 : j + 1 ≤ n) : resR a b c d n j = bndR (resR a b c d n (j + 1)) 0 := by
  have hb := inr_b hn
  unfold resR
  rw [hn, inr_t (a := 0) (b := n) (x := j) h0 (by omega), inr_t (a := 0) (b := n) (x := j + 1) (by omega) h1]
  simp only [Bool.and_self, if_true]
  obtain ⟨t, ht⟩ : ∃ t : Int, t = n - (j + 1) := ⟨_, rfl⟩
  have ht5 : t = 0 ∨ t = 1 ∨ t = 2 ∨ t = 3 ∨ t = 4 := by omega
  have e : pw (n - j) = 2 * pw (n - (j + 1)) ∧ (pw (n - (j + 1)) = 1 ∨ pw (n - (j + 1)) = 2 ∨ pw (n - (j + 1)) = 4 ∨ pw (n - (j + 1)) = 8 ∨ pw (n - (j + 1)) = 16) := by
    rw [show n - j = t + 1 by omega, ← ht]
    rcases ht5 with rfl | rfl | rfl | rfl | rfl <;> decide
  rw [e.1]
  have hx := e.2
  generalize pw (n - (j + 1)) = x at hx
  have hx1 : 1 ≤ x ∧ x ≤ 16 := by omega
  unfold reduce
  cases hv : valid a b c d
  · simp only [Bool.not_false, Bool.true_or, if_true]
    rfl
  · have vb := valid_b hv
    have e1 : decide (2 * x < 1) = false := by rw [decide_eq_false_iff_not]; omega
    have e2 : decide (2 * x > 4096) = false := by rw [decide_eq_false_iff_not]; omega
    have e3 : decide (x < 1) = false := by rw [decide_eq_false_iff_not]; omega
    have e4 : decide (x > 4096) = false := by rw [decide_eq_false_iff_not]; omega
    simp only [e1, e2, e3, e4, Bool.not_true, Bool.or_self, Bool.false_eq_true, if_false]
    have m1 := cdiv_mono6 vb.1 vb.2.1 vb.2.2.1 (show 1 ≤ x by omega)
    have m2 := cdiv_mono6 vb.2.2.2.1 vb.2.2.2.2.1 vb.2.2.2.2.2 (show 1 ≤ x by omega)
    have hv' : valid (cdiv a x) (cdiv b x) (cdiv c x) (cdiv d x) = true := valid_i5 (by omega)
    show _ = bnd (cdiv a x) (cdiv b x) (cdiv c x) (cdiv d x) 0
    rw [(bnd_v hv').1, cdiv_half vb.1 (by omega) hx, cdiv_half (show 0 ≤ b by omega) (by omega) hx, cdiv_half (show 0 ≤ c by omega) (by omega) hx, cdiv_half (show 0 ≤ d by omega) (by omega) hx]
theorem area_half {r : Rc} (hv : valid r.1 r.2.1 r.2.2.1 r.2.2.2 = true) : areaR (bndR r 0) ≤ areaR r := by
  obtain ⟨a, b, c, d⟩ := r
  have hv : valid a b c d = true := hv
  have vb := valid_b hv
  have a1 := area_v hv
  have a2 := area_v (valid_bnd5 (a := a) (b := b) (c := c) (d := d) (o := 0) (by omega) (by omega))
  show area (bnd a b c d 0).1 (bnd a b c d 0).2.1 (bnd a b c d 0).2.2.1 (bnd a b c d 0).2.2.2 ≤ area a b c d
  rw [a2.1, a1.1]
  have hB := (bnd_v hv).1
  simp only [hB]
  exact Int.mul_le_mul (by omega) (by omega) (by omega) (by omega)
theorem area_res {a b c d n r : Int} (hn : inr 0 5 n = true) (hr : inr 0 n r = true) (h : areaR (resR a b c d n r) ≤ 1048576) : ∀ t j : Nat, (j : Int) + t = r → areaR (resR a b c d n j) ≤ 1048576
  | 0, j, e => by rw [show (j : Int) = r by omega]; exact h
  | t + 1, j, e => by
    have hb := inr_b hr
    have ih := area_res hn hr h t (j + 1) (by omega)
    rw [res_half hn (show (0 : Int) ≤ j by omega) (by omega)]
    have := area_half (valid_resR6 a b c d n ((j : Int) + 1))
    have e2 : ((j + 1 : Nat) : Int) = (j : Int) + 1 := rfl
    rw [e2] at ih
    omega
theorem band_0 {a b c d n : Int} (hn : inr 0 5 n = true) (hv : valid a b c d = true) : bandR a b c d n 0 = resR a b c d n 0 := by
  have hb := inr_b hn
  have hp : plOk 0 n = true := by simp only [plOk, count, hn, if_true, Bool.and_eq_true, decide_eq_true_eq]; omega
  simp only [bandR, hp, hv, Bool.and_self, if_true]
theorem band_at {a b c d n : Int} (hn : inr 0 5 n = true) (hv : valid a b c d = true) {j o : Nat} (hj : (j : Int) + 1 ≤ n) (h1 : 1 ≤ o) (h3 : o ≤ 3) : bandR a b c d n ((3 * j + o : Nat) : Int) = bndR (resR a b c d n ((j : Int) + 1)) o := by
  have hb := inr_b hn
  have hp : plOk ((3 * j + o : Nat) : Int) n = true := by simp only [plOk, count, hn, if_true, Bool.and_eq_true, decide_eq_true_eq]; omega
  have hz : ¬ ((3 * j + o : Nat) : Int) = 0 := by omega
  have e1 : plLv ((3 * j + o : Nat) : Int) n = n - j := by simp only [plLv, hp, if_true, if_neg hz]; omega
  have e2 : plOr ((3 * j + o : Nat) : Int) n = o := by simp only [plOr, hp, if_true, if_neg hz]; omega
  simp only [bandR, hp, hv, Bool.and_self, if_true, if_neg hz, e1, e2]
  rw [show n - (n - (j : Int)) + 1 = (j : Int) + 1 by omega]
theorem syErr_s {a b c d n r k : Int} {v : List (Rc × List Int)} (h : syErr a b c d n r k v = 0) : valid a b c d = true ∧ inr 0 5 n = true ∧ inr 0 n r = true ∧ areaR (resR a b c d n r) ≤ 1048576 ∧ inr 1 3 k = true ∧ (v.length : Int) = 3 * n + 1 ∧ syBnd a b c d n r v = true ∧ syFit r v = true := by
  unfold syErr at h
  split at h
  · exact absurd h (by decide)
  rename_i h1
  split at h
  · exact absurd h (by decide)
  rename_i h2
  split at h
  · exact absurd h (by decide)
  rename_i h3
  split at h
  · exact absurd h (by decide)
  rename_i h4
  split at h
  · exact absurd h (by decide)
  rename_i h5
  simp only [Bool.or_eq_true, Bool.not_eq_true', decide_eq_true_eq, not_or, Bool.not_eq_false, decide_eq_false_iff_not, Classical.not_not] at h1 h2 h3 h4 h5
  obtain ⟨⟨⟨z1, z2⟩, z3⟩, z4⟩ := h1
  refine ⟨z1, z2, z3, ?_, h2, ?_, h4, h5⟩
  · show area _ _ _ _ ≤ 1048576
    omega
  · rw [h3]; simp only [count, z2, if_true]
theorem syBnd_at {a b c d n r : Int} {v : List (Rc × List Int)} (h : syBnd a b c d n r v = true) {i : Nat} (hi : (i : Int) ≤ 3 * r) : plVR (gN v i) = true ∧ (gN v i).1 = bandR a b c d n i := by
  unfold syBnd at h
  rw [List.all_eq_true] at h
  have h1 := h i (List.mem_range.2 (by omega))
  rw [Bool.and_eq_true] at h1
  obtain ⟨e1, e2, e3, e4⟩ := isR_s h1.2
  exact ⟨h1.1, Prod.ext e1 (Prod.ext e2 (Prod.ext e3 e4))⟩
theorem syFit_at {r : Int} {v : List (Rc × List Int)} (h : syFit r v = true) {i : Nat} (hi : (i : Int) ≤ 3 * r) : fit 4294967296 (gN v i).2 := by
  unfold syFit at h
  rw [List.all_eq_true] at h
  exact fitB_fit (h i (List.mem_range.2 (by omega)))
theorem isR_e {r s : Rc} (h : r = s) : isR r.1 r.2.1 r.2.2.1 r.2.2.2 s = true := by subst h; exact isR_refl r
def syB (j : Nat) : Int := 16 ^ j * 4294967296
theorem syB_z : syB 0 = 4294967296 := by decide
theorem p16 (j : Nat) (hj : j ≤ 4) : 4 ≤ syB j ∧ syB j ≤ 281474976710656 ∧ 4294967296 ≤ syB j := by
  have : ∀ m : Nat, m < 5 → 4 ≤ syB m ∧ syB m ≤ 281474976710656 ∧ 4294967296 ≤ syB m := by decide
  exact this j (by omega)
theorem p16s (j : Nat) : syB (j + 1) = 16 * syB j := by unfold syB; rw [Int.pow_succ, Int.mul_comm ((16 : Int) ^ j) 16, Int.mul_assoc]
attribute [irreducible] syB
theorem syS_s {a b c d n k : Int} {v : List (Rc × List Int)} (j : Nat) : syS a b c d n k v (j + 1) = (resR a b c d n ((j : Int) + 1), mgL 0 (resR a b c d n ((j : Int) + 1)).1 (resR a b c d n ((j : Int) + 1)).2.1 (resR a b c d n ((j : Int) + 1)).2.2.1 (resR a b c d n ((j : Int) + 1)).2.2.2 k (syS a b c d n k v j).2 (gN v (3 * j + 1)).2 (gN v (3 * j + 2)).2 (gN v (3 * j + 3)).2) := rfl
theorem sy_inv1 {a b c d n r k : Int} {v : List (Rc × List Int)} (e : syErr a b c d n r k v = 0) {j : Nat} (hj : (j : Int) + 1 ≤ r) {q : Rc × List Int} (i3 : fit (syB j) q.2) : plV (resR a b c d n ((j : Int) + 1)).1 (resR a b c d n ((j : Int) + 1)).2.1 (resR a b c d n ((j : Int) + 1)).2.2.1 (resR a b c d n ((j : Int) + 1)).2.2.2 (mgL 0 (resR a b c d n ((j : Int) + 1)).1 (resR a b c d n ((j : Int) + 1)).2.1 (resR a b c d n ((j : Int) + 1)).2.2.1 (resR a b c d n ((j : Int) + 1)).2.2.2 k q.2 (gN v (3 * j + 1)).2 (gN v (3 * j + 2)).2 (gN v (3 * j + 3)).2) = true ∧ fit (16 * syB j) (mgL 0 (resR a b c d n ((j : Int) + 1)).1 (resR a b c d n ((j : Int) + 1)).2.1 (resR a b c d n ((j : Int) + 1)).2.2.1 (resR a b c d n ((j : Int) + 1)).2.2.2 k q.2 (gN v (3 * j + 1)).2 (gN v (3 * j + 2)).2 (gN v (3 * j + 3)).2) := by
  obtain ⟨h1, h2, h3, h4, h5, h6, h7, h8⟩ := syErr_s e
  have hb := inr_b h3
  have hn := inr_b h2
  have p := p16 j (by omega)
  have ar : areaR (resR a b c d n ((j : Int) + 1)) ≤ 1048576 := area_res h2 h3 h4 (r - (j + 1)).toNat (j + 1) (by omega)
  have vr := valid_resR6 a b c d n ((j : Int) + 1)
  have f := fun o (ho : o ≤ 3) => fit_mono (syFit_at h8 (i := 3 * j + o) (by omega)) p.2.2
  have f1 := f 1 (by omega)
  have f2 := f 2 (by omega)
  have f3 := f 3 (by omega)
  generalize resR a b c d n ((j : Int) + 1) = R at ar vr ⊢
  generalize syB j = B at p i3 f1 f2 f3 ⊢
  exact mg_good vr ar h5 ⟨p.1, p.2.1⟩ i3 f1 f2 f3
theorem mgErr_i {R : Rc} {k : Int} {S0 S1 S2 S3 : Rc × List Int} (vr : valid R.1 R.2.1 R.2.2.1 R.2.2.2 = true) (ar : areaR R ≤ 1048576) (hk : inr 1 3 k = true) (q0 : plVR S0 = true) (q1 : plVR S1 = true) (q2 : plVR S2 = true) (q3 : plVR S3 = true) (e0 : isR S0.1.1 S0.1.2.1 S0.1.2.2.1 S0.1.2.2.2 (bndR R 0) = true) (e1 : isR S1.1.1 S1.1.2.1 S1.1.2.2.1 S1.1.2.2.2 (bndR R 1) = true) (e2 : isR S2.1.1 S2.1.2.1 S2.1.2.2.1 S2.1.2.2.2 (bndR R 2) = true) (e3 : isR S3.1.1 S3.1.2.1 S3.1.2.2.1 S3.1.2.2.2 (bndR R 3) = true) (t0 : fitB 281474976710656 S0.2 = true) (t1 : fitB 281474976710656 S1.2 = true) (t2 : fitB 281474976710656 S2.2 = true) (t3 : fitB 281474976710656 S3.2 = true) : mgErr S0.1.1 S0.1.2.1 S0.1.2.2.1 S0.1.2.2.2 S1.1.1 S1.1.2.1 S1.1.2.2.1 S1.1.2.2.2 S2.1.1 S2.1.2.1 S2.1.2.2.1 S2.1.2.2.2 S3.1.1 S3.1.2.1 S3.1.2.2.1 S3.1.2.2.2 R.1 R.2.1 R.2.2.1 R.2.2.2 k S0.2 S1.2 S2.2 S3.2 = 0 := by
  have ar' : decide (area R.1 R.2.1 R.2.2.1 R.2.2.2 > 1048576) = false := by
    rw [decide_eq_false_iff_not]
    unfold areaR at ar
    omega
  unfold plVR at q0 q1 q2 q3
  unfold bndR at e0 e1 e2 e3
  unfold mgErr
  simp only [vr, ar', hk, q0, q1, q2, q3, e0, e1, e2, e3, t0, t1, t2, t3, Bool.not_true, Bool.and_self, Bool.or_self, Bool.false_eq_true, if_false]
theorem sy_inv {a b c d n r k : Int} {v : List (Rc × List Int)} (e : syErr a b c d n r k v = 0) : ∀ j : Nat, (j : Int) ≤ r → plVR (syS a b c d n k v j) = true ∧ (syS a b c d n k v j).1 = resR a b c d n j ∧ fit (syB j) (syS a b c d n k v j).2 := by
  intro j
  induction j with
  | zero =>
    intro hj
    obtain ⟨h1, h2, h3, h4, h5, h6, h7, h8⟩ := syErr_s e
    have hb := inr_b h3
    have g := syBnd_at h7 (i := 0) (by omega)
    refine ⟨g.1, g.2.trans (band_0 h2 h1), ?_⟩
    have := syFit_at h8 (i := 0) (by omega)
    rw [syB_z]
    exact this
  | succ j ih =>
    intro hj
    have hj' : (j : Int) + 1 ≤ r := hj
    have g := sy_inv1 e hj' (ih (by omega)).2.2
    have hc : ((j + 1 : Nat) : Int) = (j : Int) + 1 := rfl
    rw [syS_s, p16s, hc]
    exact ⟨g.1, rfl, g.2⟩
theorem sy_ok {a b c d n r k : Int} {v : List (Rc × List Int)} (e : syErr a b c d n r k v = 0) {j : Nat} (hj : (j : Int) + 1 ≤ r) : syE a b c d n k ((j : Int) + 1) (syS a b c d n k v j).1 (syS a b c d n k v j).2 v = 0 := by
  obtain ⟨h1, h2, h3, h4, h5, h6, h7, h8⟩ := syErr_s e
  have hb := inr_b h3
  have hn := inr_b h2
  obtain ⟨i1, i2, i3⟩ := sy_inv e j (by omega)
  have p := p16 j (by omega)
  have ar : areaR (resR a b c d n ((j : Int) + 1)) ≤ 1048576 := area_res h2 h3 h4 (r - (j + 1)).toNat (j + 1) (by omega)
  have f := fun o (ho : o ≤ 3) => fit_fitB (fit_mono (syFit_at h8 (i := 3 * j + o) (by omega)) (show (4294967296 : Int) ≤ 281474976710656 by omega))
  have g := fun o (h1' : 1 ≤ o) (ho : o ≤ 3) => (syBnd_at h7 (i := 3 * j + o) (by omega))
  have vr := valid_resR6 a b c d n ((j : Int) + 1)
  have e0 := isR_e (i2.trans (res_half h2 (show (0 : Int) ≤ j by omega) (by omega)))
  have q1 := (g 1 (by omega) (by omega)).1
  have q2 := (g 2 (by omega) (by omega)).1
  have q3 := (g 3 (by omega) (by omega)).1
  have b1 := isR_e ((g 1 (by omega) (by omega)).2.trans (band_at h2 h1 (j := j) (o := 1) (by omega) (by omega) (by omega)))
  have b2 := isR_e ((g 2 (by omega) (by omega)).2.trans (band_at h2 h1 (j := j) (o := 2) (by omega) (by omega) (by omega)))
  have b3 := isR_e ((g 3 (by omega) (by omega)).2.trans (band_at h2 h1 (j := j) (o := 3) (by omega) (by omega) (by omega)))
  have t0 := fit_fitB (fit_mono i3 p.2.1)
  have t1 := f 1 (by omega)
  have t2 := f 2 (by omega)
  have t3 := f 3 (by omega)
  unfold syE
  rw [show (3 * ((j : Int) + 1) - 2).toNat = 3 * j + 1 by omega, show (3 * ((j : Int) + 1) - 1).toNat = 3 * j + 2 by omega, show (3 * ((j : Int) + 1)).toNat = 3 * j + 3 by omega]
  clear f g i2 i3 h7 h8 h4 e p
  generalize resR a b c d n ((j : Int) + 1) = R at *
  generalize syS a b c d n k v j = S0 at *
  generalize gN v (3 * j + 1) = S1 at *
  generalize gN v (3 * j + 2) = S2 at *
  generalize gN v (3 * j + 3) = S3 at *
  exact mgErr_i vr ar h5 i1 q1 q2 q3 e0 b1 b2 b3 t0 t1 t2 t3
theorem smN {v : List (Rc × List Int)} (h : smAll v = true) (i : Nat) : small (gN v i).2.length = true := by
  by_cases hi : i < v.length
  · have := smAll_ix h hi
    have e : gN v i = v[i] := by simp [gN, List.getD_eq_getElem?_getD, hi]
    rw [e]; exact this
  · have e : gN v i = ((0, 0, 0, 0), []) := by simp [gN, List.getD_eq_getElem?_getD, hi]
    rw [e]; rfl
theorem q_sy_step (a b c d n k q o0 o1 o2 o3 : Int) (u : List Int) (v : List (Rc × List Int)) (hok : (inr 1 5 q && decide (3 * q < (v.length : Int)) && smAll v && small u.length) = true) : funR Try.prog t_sy_step (annOf []) l_sy_step 20 Try.f61 [.one (.int .i64 q), .one (.ptr 0 0), .one (.ptr 1 0), .one (.ptr 2 0), .one (.ptr 3 0), .one (.ptr 4 0)] [.box [.int .i64 o0, .int .i64 o1, .int .i64 o2, .int .i64 o3, .row 5], .box [.lst (.pair (.pair (.int .i64) (.pair (.int .i64) (.pair (.int .i64) (.int .i64)))) (.sl (.int .i64))) v], .box [.int .i64 a, .int .i64 b, .int .i64 c, .int .i64 d], .box [.int .i64 n], .box [.int .i64 k], .arr 3 (.int .i64) u] = some ⟨.one (.int .i64 (syE a b c d n k q (o0, o1, o2, o3) u v)), [some (.box [.int .i64 ((syNR (syE a b c d n k q (o0, o1, o2, o3) u v) a b c d n q).1), .int .i64 ((syNR (syE a b c d n k q (o0, o1, o2, o3) u v) a b c d n q).2.1), .int .i64 ((syNR (syE a b c d n k q (o0, o1, o2, o3) u v) a b c d n q).2.2.1), .int .i64 ((syNR (syE a b c d n k q (o0, o1, o2, o3) u v) a b c d n q).2.2.2), .row 6]), some (.box [.lst (.pair (.pair (.int .i64) (.pair (.int .i64) (.pair (.int .i64) (.int .i64)))) (.sl (.int .i64))) v]), some (.box [.int .i64 a, .int .i64 b, .int .i64 c, .int .i64 d]), some (.box [.int .i64 n]), some (.box [.int .i64 k]), some (.arr 3 (.int .i64) u)], [.arr 3 (.int .i64) (syNL (syE a b c d n k q (o0, o1, o2, o3) u v) a b c d n k q u v)]⟩ := by
    refine (e_sy_step ..).trans ?_
    simp only [Bool.and_eq_true, decide_eq_true_eq, and_assoc] at hok
    obtain ⟨z1, h3, hs, hu⟩ := hok
    have b1 := inr_b z1
    have e3 : IntKind.wrap .i64 (3 * q) = 3 * q := wrap_in (by omega) (by omega)
    have e2 : IntKind.wrap .i64 (3 * q - 1) = 3 * q - 1 := wrap_in (by omega) (by omega)
    have e1 : IntKind.wrap .i64 (3 * q - 2) = 3 * q - 2 := wrap_in (by omega) (by omega)
    simp only [e3, e2, e1, ite2_bool, decide_eq_true_eq]
    rw [if_pos (by omega), if_pos (by omega), if_pos (by omega), if_pos (by rw [hu, smN hs, smN hs, smN hs]; rfl)]
    rfl
theorem s_sy_step : SoundFun Try.prog 61 G_sy_step := by
  refine fun_ok (tab := t_sy_step) (ann := annOf []) (lt := l_sy_step) (tab_cons s_pyr_Resolution (tab_cons s_dwt_Merge tab_nil)) (by kernel_rfl) (fn := Try.f61) (by kernel_rfl) (by decide) (c := bodyOf Try.f61) (by kernel_rfl) (no_loops (by kernel_rfl)) ?_ (keep_nil (by kernel_rfl))
  intro args lent o y0'
  unfold G_sy_step at y0'
  obtain ⟨q, args, rfl, y1'⟩ := pI_s y0'
  obtain ⟨args, rfl, y2'⟩ := pP_s y1'
  obtain ⟨args, rfl, y3'⟩ := pP_s y2'
  obtain ⟨args, rfl, y4'⟩ := pP_s y3'
  obtain ⟨args, rfl, y5'⟩ := pP_s y4'
  obtain ⟨args, rfl, y6'⟩ := pP_s y5'
  obtain ⟨rfl, y7'⟩ := pE_s y6'
  obtain ⟨q', lent, rfl, y8'⟩ := nB_s y7'
  obtain ⟨o0, o1, o2, o3, rfl, y9'⟩ := rd1P_s y8'
  obtain ⟨q', lent, rfl, y10'⟩ := nB_s y9'
  obtain ⟨c', q', rfl, y11'⟩ := tC_s y10'
  obtain ⟨v, rfl, y12'⟩ := kLN_s y11'
  obtain ⟨rfl, y13'⟩ := tE_s y12'
  obtain ⟨q', lent, rfl, y14'⟩ := nB_s y13'
  obtain ⟨a, b, c, d, q', rfl, y15'⟩ := t4_s y14'
  obtain ⟨rfl, y16'⟩ := tE_s y15'
  obtain ⟨q', lent, rfl, y17'⟩ := nB_s y16'
  obtain ⟨n, q', rfl, y18'⟩ := tI_s y17'
  obtain ⟨rfl, y19'⟩ := tE_s y18'
  obtain ⟨q', lent, rfl, y20'⟩ := nB_s y19'
  obtain ⟨k, q', rfl, y21'⟩ := tI_s y20'
  obtain ⟨rfl, y22'⟩ := tE_s y21'
  obtain ⟨u, lent, rfl, y23'⟩ := nAI_s y22'
  obtain ⟨rfl, y24'⟩ := nE_s y23'
  have yy' := y24'
  unfold H_sy_step at yy'
  obtain ⟨hok, rfl⟩ := Prod.mk.inj (Option.some.inj yy')
  exact ⟨20, q_sy_step _ _ _ _ _ _ _ _ _ _ _ _ _ hok⟩
theorem d_pyr_Synth_0 {α : Type} {vs : List V} {bl : List (Option Blk)} {K} {r0' : α} {Q : Prop} (y0' : D_pyr_Synth_0 vs bl K = some r0') (hh' : ∀ (a : Int) (b : Int) (c : Int) (d : Int) (n : Int) (kk : Int) (z0 : Int) (z1 : Int) (z2 : Int) (z3 : Int) (m : Int) (i : Int) (v : List (Rc × List Int)) (y0 : List Int), vs = [.one (.int .i64 m), .one (.ptr 0 0), .one (.ptr 1 0), .one (.ptr 2 0), .one (.ptr 3 0), .one (.ptr 4 0), .one (.int .i64 i)] → bl = [some (.box [.lst (.pair (.pair (.int .i64) (.pair (.int .i64) (.pair (.int .i64) (.int .i64)))) (.sl (.int .i64))) v]), some (.box [.int .i64 a, .int .i64 b, .int .i64 c, .int .i64 d]), some (.box [.int .i64 n]), some (.box [.int .i64 kk]), some (.box [.int .i64 z0, .int .i64 z1, .int .i64 z2, .int .i64 z3, .row 5]), some (.arr 3 (.int .i64) y0)] → K a b c d n kk z0 z1 z2 z3 m i v y0 = some r0' → Q) : Q := by
  unfold D_pyr_Synth_0 at y0'
  obtain ⟨m, vs, rfl, y1'⟩ := pI_s y0'
  obtain ⟨vs, rfl, y2'⟩ := pP_s y1'
  obtain ⟨vs, rfl, y3'⟩ := pP_s y2'
  obtain ⟨vs, rfl, y4'⟩ := pP_s y3'
  obtain ⟨vs, rfl, y5'⟩ := pP_s y4'
  obtain ⟨vs, rfl, y6'⟩ := pP_s y5'
  obtain ⟨i, vs, rfl, y7'⟩ := pI_s y6'
  obtain ⟨rfl, y8'⟩ := pE_s y7'
  obtain ⟨q', bl, rfl, y9'⟩ := bB_s y8'
  obtain ⟨c', q', rfl, y10'⟩ := tC_s y9'
  obtain ⟨v, rfl, y11'⟩ := kLN_s y10'
  obtain ⟨rfl, y12'⟩ := tE_s y11'
  obtain ⟨q', bl, rfl, y13'⟩ := bB_s y12'
  obtain ⟨a, b, c, d, q', rfl, y14'⟩ := t4_s y13'
  obtain ⟨rfl, y15'⟩ := tE_s y14'
  obtain ⟨q', bl, rfl, y16'⟩ := bB_s y15'
  obtain ⟨n, q', rfl, y17'⟩ := tI_s y16'
  obtain ⟨rfl, y18'⟩ := tE_s y17'
  obtain ⟨q', bl, rfl, y19'⟩ := bB_s y18'
  obtain ⟨kk, q', rfl, y20'⟩ := tI_s y19'
  obtain ⟨rfl, y21'⟩ := tE_s y20'
  obtain ⟨q', bl, rfl, y22'⟩ := bB_s y21'
  obtain ⟨z0, z1, z2, z3, rfl, y23'⟩ := rd1P_s y22'
  obtain ⟨y0, bl, rfl, y24'⟩ := bAI_s y23'
  obtain ⟨rfl, y25'⟩ := bE_s y24'
  have yy' := y25'
  exact hh' _ _ _ _ _ _ _ _ _ _ _ _ _ _ rfl rfl yy'
theorem r_pyr_Synth_0 : RoundOk Try.prog t_pyr_Synth (annOf []) l_pyr_Synth Out 20 0 116 [3, 5, 6, 7, 9, 10, 12] (kxOf [3, 5, 6, 7, 9, 10] [10, 11]) (loopOf Try.f30 0) T_pyr_Synth_0 := by
  intro vs bl Kc r h
  unfold T_pyr_Synth_0 at h
  obtain ⟨t, y0', h'⟩ := getD_run h
  refine d_pyr_Synth_0 y0' fun a b c d n kk z0 z1 z2 z3 m i v y0 u1' u2' yy' => ?_
  subst u1' u2'
  cases yy'
  exact (b_pyr_Synth_0 ..).trans h'
theorem d_pyr_Synth_1 {α : Type} {vs : List V} {bl : List (Option Blk)} {K} {r0' : α} {Q : Prop} (y0' : D_pyr_Synth_1 vs bl K = some r0') (hh' : ∀ (a : Int) (b : Int) (c : Int) (d : Int) (n : Int) (kk : Int) (z0 : Int) (z1 : Int) (z2 : Int) (z3 : Int) (m : Int) (i : Int) (v : List (Rc × List Int)) (y0 : List Int), vs = [.one (.int .i64 m), .one (.ptr 0 0), .one (.ptr 1 0), .one (.ptr 2 0), .one (.ptr 3 0), .one (.ptr 4 0), .one (.int .i64 i)] → bl = [some (.box [.lst (.pair (.pair (.int .i64) (.pair (.int .i64) (.pair (.int .i64) (.int .i64)))) (.sl (.int .i64))) v]), some (.box [.int .i64 a, .int .i64 b, .int .i64 c, .int .i64 d]), some (.box [.int .i64 n]), some (.box [.int .i64 kk]), some (.box [.int .i64 z0, .int .i64 z1, .int .i64 z2, .int .i64 z3, .row 5]), some (.arr 3 (.int .i64) y0)] → K a b c d n kk z0 z1 z2 z3 m i v y0 = some r0' → Q) : Q := by
  unfold D_pyr_Synth_1 at y0'
  obtain ⟨m, vs, rfl, y1'⟩ := pI_s y0'
  obtain ⟨vs, rfl, y2'⟩ := pP_s y1'
  obtain ⟨vs, rfl, y3'⟩ := pP_s y2'
  obtain ⟨vs, rfl, y4'⟩ := pP_s y3'
  obtain ⟨vs, rfl, y5'⟩ := pP_s y4'
  obtain ⟨vs, rfl, y6'⟩ := pP_s y5'
  obtain ⟨i, vs, rfl, y7'⟩ := pI_s y6'
  obtain ⟨rfl, y8'⟩ := pE_s y7'
  obtain ⟨q', bl, rfl, y9'⟩ := bB_s y8'
  obtain ⟨c', q', rfl, y10'⟩ := tC_s y9'
  obtain ⟨v, rfl, y11'⟩ := kLN_s y10'
  obtain ⟨rfl, y12'⟩ := tE_s y11'
  obtain ⟨q', bl, rfl, y13'⟩ := bB_s y12'
  obtain ⟨a, b, c, d, q', rfl, y14'⟩ := t4_s y13'
  obtain ⟨rfl, y15'⟩ := tE_s y14'
  obtain ⟨q', bl, rfl, y16'⟩ := bB_s y15'
  obtain ⟨n, q', rfl, y17'⟩ := tI_s y16'
  obtain ⟨rfl, y18'⟩ := tE_s y17'
  obtain ⟨q', bl, rfl, y19'⟩ := bB_s y18'
  obtain ⟨kk, q', rfl, y20'⟩ := tI_s y19'
  obtain ⟨rfl, y21'⟩ := tE_s y20'
  obtain ⟨q', bl, rfl, y22'⟩ := bB_s y21'
  obtain ⟨z0, z1, z2, z3, rfl, y23'⟩ := rd1P_s y22'
  obtain ⟨y0, bl, rfl, y24'⟩ := bAI_s y23'
  obtain ⟨rfl, y25'⟩ := bE_s y24'
  have yy' := y25'
  exact hh' _ _ _ _ _ _ _ _ _ _ _ _ _ _ rfl rfl yy'
theorem r_pyr_Synth_1 : RoundOk Try.prog t_pyr_Synth (annOf []) l_pyr_Synth Out 20 0 116 [3, 5, 6, 7, 9, 10, 13] (kxOf [3, 5, 6, 7, 9, 10] [10, 11]) (loopOf Try.f30 1) T_pyr_Synth_1 := by
  intro vs bl Kc r h
  unfold T_pyr_Synth_1 at h
  obtain ⟨t, y0', h'⟩ := getD_run h
  refine d_pyr_Synth_1 y0' fun a b c d n kk z0 z1 z2 z3 m i v y0 u1' u2' yy' => ?_
  subst u1' u2'
  cases yy'
  exact (b_pyr_Synth_1 ..).trans h'
theorem d_pyr_Synth_2 {α : Type} {vs : List V} {bl : List (Option Blk)} {K} {r0' : α} {Q : Prop} (y0' : D_pyr_Synth_2 vs bl K = some r0') (hh' : ∀ (a : Int) (b : Int) (c : Int) (d : Int) (n : Int) (kk : Int) (m : Int) (o0 : Int) (o1 : Int) (o2 : Int) (o3 : Int) (z0 : Int) (z1 : Int) (z2 : Int) (z3 : Int) (q : Int) (v : List (Rc × List Int)) (y0 : List Int) (u : List Int), vs = [.one (.int .i64 m), .one (.ptr 0 0), .one (.ptr 1 0), .one (.fn 61 [1, 2, 3, 4, 5]), .one (.int .i64 q)] → bl = [some (.box [.int .i64 z0, .int .i64 z1, .int .i64 z2, .int .i64 z3, .row 6]), some (.box [.int .i64 o0, .int .i64 o1, .int .i64 o2, .int .i64 o3, .row 7]), some (.box [.lst (.pair (.pair (.int .i64) (.pair (.int .i64) (.pair (.int .i64) (.int .i64)))) (.sl (.int .i64))) v]), some (.box [.int .i64 a, .int .i64 b, .int .i64 c, .int .i64 d]), some (.box [.int .i64 n]), some (.box [.int .i64 kk]), some (.arr 3 (.int .i64) y0), some (.arr 3 (.int .i64) u)] → K a b c d n kk m o0 o1 o2 o3 z0 z1 z2 z3 q v y0 u = some r0' → Q) : Q := by
  unfold D_pyr_Synth_2 at y0'
  obtain ⟨m, vs, rfl, y1'⟩ := pI_s y0'
  obtain ⟨vs, rfl, y2'⟩ := pP_s y1'
  obtain ⟨vs, rfl, y3'⟩ := pP_s y2'
  obtain ⟨c', vs, rfl, y4'⟩ := pO_s y3'
  obtain ⟨rfl, y5'⟩ := kF_s y4'
  obtain ⟨q, vs, rfl, y6'⟩ := pI_s y5'
  obtain ⟨rfl, y7'⟩ := pE_s y6'
  obtain ⟨q', bl, rfl, y8'⟩ := bB_s y7'
  obtain ⟨z0, z1, z2, z3, rfl, y9'⟩ := rd1P_s y8'
  obtain ⟨q', bl, rfl, y10'⟩ := bB_s y9'
  obtain ⟨o0, o1, o2, o3, rfl, y11'⟩ := rd1P_s y10'
  obtain ⟨q', bl, rfl, y12'⟩ := bB_s y11'
  obtain ⟨c', q', rfl, y13'⟩ := tC_s y12'
  obtain ⟨v, rfl, y14'⟩ := kLN_s y13'
  obtain ⟨rfl, y15'⟩ := tE_s y14'
  obtain ⟨q', bl, rfl, y16'⟩ := bB_s y15'
  obtain ⟨a, b, c, d, q', rfl, y17'⟩ := t4_s y16'
  obtain ⟨rfl, y18'⟩ := tE_s y17'
  obtain ⟨q', bl, rfl, y19'⟩ := bB_s y18'
  obtain ⟨n, q', rfl, y20'⟩ := tI_s y19'
  obtain ⟨rfl, y21'⟩ := tE_s y20'
  obtain ⟨q', bl, rfl, y22'⟩ := bB_s y21'
  obtain ⟨kk, q', rfl, y23'⟩ := tI_s y22'
  obtain ⟨rfl, y24'⟩ := tE_s y23'
  obtain ⟨y0, bl, rfl, y25'⟩ := bAI_s y24'
  obtain ⟨u, bl, rfl, y26'⟩ := bAI_s y25'
  obtain ⟨rfl, y27'⟩ := bE_s y26'
  have yy' := y27'
  exact hh' _ _ _ _ _ _ _ _ _ _ _ _ _ _ _ _ _ _ _ rfl rfl yy'
theorem r_pyr_Synth_2 : RoundOk Try.prog t_pyr_Synth (annOf []) l_pyr_Synth Out 20 0 116 [3, 10, 14, 15, 16] (kxOf [10, 14] [10, 11]) (loopOf Try.f30 2) T_pyr_Synth_2 := by
  intro vs bl Kc r h
  unfold T_pyr_Synth_2 at h
  obtain ⟨t, y0', h'⟩ := getD_run h
  refine d_pyr_Synth_2 y0' fun a b c d n kk m o0 o1 o2 o3 z0 z1 z2 z3 q v y0 u u1' u2' yy' => ?_
  subst u1' u2'
  cases yy'
  exact (b_pyr_Synth_2 ..).trans h'
theorem o_pyr_Synth : loopsOf (bodyOf Try.f30) = [loopOf Try.f30 0, loopOf Try.f30 1, loopOf Try.f30 2] := by kernel_rfl
theorem zz_pyr_Synth_0 (a b c d n kk z0 z1 z2 z3 m i : Int) (v : List (Rc × List Int)) (y0 : List Int) (hk : k_pyr_Synth_0 a b c d n kk z0 z1 z2 z3 m i v y0 = true) : ZZ (c_pyr_Synth_0 a b c d n kk z0 z1 z2 z3 m i v y0) T_pyr_Synth_0 [.one (.int .i64 m), .one (.ptr 0 0), .one (.ptr 1 0), .one (.ptr 2 0), .one (.ptr 3 0), .one (.ptr 4 0), .one (.int .i64 i)] [some (.box [.lst (.pair (.pair (.int .i64) (.pair (.int .i64) (.pair (.int .i64) (.int .i64)))) (.sl (.int .i64))) v]), some (.box [.int .i64 a, .int .i64 b, .int .i64 c, .int .i64 d]), some (.box [.int .i64 n]), some (.box [.int .i64 kk]), some (.box [.int .i64 z0, .int .i64 z1, .int .i64 z2, .int .i64 z3, .row 5]), some (.arr 3 (.int .i64) y0)] := by
  simp only [k_pyr_Synth_0, Bool.and_eq_true, decide_eq_true_eq, and_assoc] at hk
  obtain ⟨rfl, zm, hl⟩ := hk
  have b1 := inr_b zm
  refine Exists.elim (z_idx (T := T_pyr_Synth_0) (st := fun j => ([.one (.int .i64 m), .one (.ptr 0 0), .one (.ptr 1 0), .one (.ptr 2 0), .one (.ptr 3 0), .one (.ptr 4 0), .one (.int .i64 (j : Int))], [some (.box [.lst (.pair (.pair (.int .i64) (.pair (.int .i64) (.pair (.int .i64) (.int .i64)))) (.sl (.int .i64))) v]), some (.box [.int .i64 a, .int .i64 b, .int .i64 c, .int .i64 d]), some (.box [.int .i64 n]), some (.box [.int .i64 kk]), some (.box [.int .i64 z0, .int .i64 z1, .int .i64 z2, .int .i64 z3, .row 5]), some (.arr 3 (.int .i64) y0)])) (3 * m + 1).toNat (fun i => plVR (gN v i) && isR (gN v i).1.1 (gN v i).1.2.1 (gN v i).1.2.2.1 (gN v i).1.2.2.2 (bandR a b c d n i)) (.leaf (.exit 0) [.one (.int .i64 m), .one (.ptr 0 0), .one (.ptr 1 0), .one (.ptr 2 0), .one (.ptr 3 0), .one (.ptr 4 0)] [some (.box [.lst (.pair (.pair (.int .i64) (.pair (.int .i64) (.pair (.int .i64) (.int .i64)))) (.sl (.int .i64))) v]), some (.box [.int .i64 a, .int .i64 b, .int .i64 c, .int .i64 d]), some (.box [.int .i64 n]), some (.box [.int .i64 kk]), some (.box [.int .i64 z0, .int .i64 z1, .int .i64 z2, .int .i64 z3, .row 5]), some (.arr 3 (.int .i64) y0)]) (.leaf .ret [.one (.ptr 0 0), .one (.int .i64 1)] [some (.box [.int .i64 0, .int .i64 0, .int .i64 0, .int .i64 0, .row 1]), some (.arr 3 (.int .i64) [])]) (fun j hj F K => ?_) (fun F K => ?_)) (fun k hk => ⟨k, fun K r h => ?_⟩)
  · have hc : 0 ≤ (j : Int) ∧ (j : Int) < (v.length : Int) := by omega
    simp only [tu_pyr_Synth_0, U_pyr_Synth_0, LT.next, LT.run, ite2_bool, decide_eq_true_eq, Int.toNat_natCast, if_pos hc]
    rw [wrap_in (n := 3 * m) (by omega) (by omega), if_pos (by omega), wrap_in (n := (j : Int) + 1) (by omega) (by omega)]
    have hR : ∀ (a b c d : Int) (r : Rc), (a == r.1 && (b == r.2.1 && (c == r.2.2.1 && (d == r.2.2.2 && true)))) = isR a b c d r := fun _ _ _ _ _ => rfl
    simp only [hR, plVR]
    rcases Bool.eq_false_or_eq_true (plV (gN v j).1.1 (gN v j).1.2.1 (gN v j).1.2.2.1 (gN v j).1.2.2.2 (gN v j).2) with x1 | x1 <;> rcases Bool.eq_false_or_eq_true (isR (gN v j).1.1 (gN v j).1.2.1 (gN v j).1.2.2.1 (gN v j).1.2.2.2 (bandR a b c d n j)) with y1 | y1 <;> simp only [x1, y1, Bool.not_true, Bool.not_false, Bool.false_eq_true, if_true, if_false, Bool.and_self, Bool.and_true, Bool.and_false] <;> rfl
  · simp only [tu_pyr_Synth_0, U_pyr_Synth_0, LT.next, LT.run, ite2_bool, decide_eq_true_eq]
    rw [wrap_in (n := 3 * m) (by omega) (by omega), if_neg (by omega)]
  · exact hk K r h
theorem z_pyr_Synth_0 : ZOk S_pyr_Synth_0 T_pyr_Synth_0 := by
  intro vs bl t y0'
  refine d_pyr_Synth_0 y0' fun a b c d n kk z0 z1 z2 z3 m i v y0 u1' u2' yy' => ?_
  subst u1' u2'
  obtain ⟨hk, rfl⟩ := Prod.mk.inj (Option.some.inj yy')
  exact zz_pyr_Synth_0 _ _ _ _ _ _ _ _ _ _ _ _ _ _ hk
theorem zz_pyr_Synth_1 (a b c d n kk z0 z1 z2 z3 m i : Int) (v : List (Rc × List Int)) (y0 : List Int) (hk : k_pyr_Synth_1 a b c d n kk z0 z1 z2 z3 m i v y0 = true) : ZZ (c_pyr_Synth_1 a b c d n kk z0 z1 z2 z3 m i v y0) T_pyr_Synth_1 [.one (.int .i64 m), .one (.ptr 0 0), .one (.ptr 1 0), .one (.ptr 2 0), .one (.ptr 3 0), .one (.ptr 4 0), .one (.int .i64 i)] [some (.box [.lst (.pair (.pair (.int .i64) (.pair (.int .i64) (.pair (.int .i64) (.int .i64)))) (.sl (.int .i64))) v]), some (.box [.int .i64 a, .int .i64 b, .int .i64 c, .int .i64 d]), some (.box [.int .i64 n]), some (.box [.int .i64 kk]), some (.box [.int .i64 z0, .int .i64 z1, .int .i64 z2, .int .i64 z3, .row 5]), some (.arr 3 (.int .i64) y0)] := by
  simp only [k_pyr_Synth_1, Bool.and_eq_true, decide_eq_true_eq, and_assoc] at hk
  obtain ⟨rfl, zm, hl, hs⟩ := hk
  have b1 := inr_b zm
  refine Exists.elim (z_idx (T := T_pyr_Synth_1) (st := fun j => ([.one (.int .i64 m), .one (.ptr 0 0), .one (.ptr 1 0), .one (.ptr 2 0), .one (.ptr 3 0), .one (.ptr 4 0), .one (.int .i64 (j : Int))], [some (.box [.lst (.pair (.pair (.int .i64) (.pair (.int .i64) (.pair (.int .i64) (.int .i64)))) (.sl (.int .i64))) v]), some (.box [.int .i64 a, .int .i64 b, .int .i64 c, .int .i64 d]), some (.box [.int .i64 n]), some (.box [.int .i64 kk]), some (.box [.int .i64 z0, .int .i64 z1, .int .i64 z2, .int .i64 z3, .row 5]), some (.arr 3 (.int .i64) y0)])) (3 * m + 1).toNat (fun i => fitB 4294967296 (gN v i).2) (.leaf (.exit 2) [.one (.int .i64 m), .one (.ptr 0 0), .one (.ptr 1 0), .one (.ptr 2 0), .one (.ptr 3 0), .one (.ptr 4 0)] [some (.box [.lst (.pair (.pair (.int .i64) (.pair (.int .i64) (.pair (.int .i64) (.int .i64)))) (.sl (.int .i64))) v]), some (.box [.int .i64 a, .int .i64 b, .int .i64 c, .int .i64 d]), some (.box [.int .i64 n]), some (.box [.int .i64 kk]), some (.box [.int .i64 z0, .int .i64 z1, .int .i64 z2, .int .i64 z3, .row 5]), some (.arr 3 (.int .i64) y0)]) (.leaf .ret [.one (.ptr 0 0), .one (.int .i64 2)] [some (.box [.int .i64 0, .int .i64 0, .int .i64 0, .int .i64 0, .row 1]), some (.arr 3 (.int .i64) [])]) (fun j hj F K => ?_) (fun F K => ?_)) (fun k hk => ⟨k, fun K r h => ?_⟩)
  · have hc : 0 ≤ (j : Int) ∧ (j : Int) < (v.length : Int) := by omega
    simp only [tu_pyr_Synth_1, U_pyr_Synth_1, LT.next, LT.run, ite2_bool, decide_eq_true_eq, Int.toNat_natCast, if_pos hc]
    rw [wrap_in (n := 3 * m) (by omega) (by omega), if_pos (by omega), wrap_in (n := (j : Int) + 1) (by omega) (by omega)]
    have s1 := smAll_ix hs (show j < v.length by omega)
    have eg : gN v j = v[j] := by simp [gN, List.getD_eq_getElem?_getD, show j < v.length by omega]
    rw [eg, s1, if_pos (show (true && true) = true from rfl)]
    rcases Bool.eq_false_or_eq_true (fitB 4294967296 v[j].2) with x1 | x1 <;> simp only [x1, Bool.not_true, Bool.not_false, Bool.false_eq_true, if_true, if_false] <;> rfl
  · simp only [tu_pyr_Synth_1, U_pyr_Synth_1, LT.next, LT.run, ite2_bool, decide_eq_true_eq]
    rw [wrap_in (n := 3 * m) (by omega) (by omega), if_neg (by omega)]
  · exact hk K r h
theorem z_pyr_Synth_1 : ZOk S_pyr_Synth_1 T_pyr_Synth_1 := by
  intro vs bl t y0'
  refine d_pyr_Synth_1 y0' fun a b c d n kk z0 z1 z2 z3 m i v y0 u1' u2' yy' => ?_
  subst u1' u2'
  obtain ⟨hk, rfl⟩ := Prod.mk.inj (Option.some.inj yy')
  exact zz_pyr_Synth_1 _ _ _ _ _ _ _ _ _ _ _ _ _ _ hk
theorem zz_pyr_Synth_2 (a b c d n kk m o0 o1 o2 o3 z0 z1 z2 z3 q : Int) (v : List (Rc × List Int)) (y0 u : List Int) (hk : k_pyr_Synth_2 a b c d n kk m o0 o1 o2 o3 z0 z1 z2 z3 q v y0 u = true) : ZZ (c_pyr_Synth_2 a b c d n kk m o0 o1 o2 o3 z0 z1 z2 z3 q v y0 u) T_pyr_Synth_2 [.one (.int .i64 m), .one (.ptr 0 0), .one (.ptr 1 0), .one (.fn 61 [1, 2, 3, 4, 5]), .one (.int .i64 q)] [some (.box [.int .i64 z0, .int .i64 z1, .int .i64 z2, .int .i64 z3, .row 6]), some (.box [.int .i64 o0, .int .i64 o1, .int .i64 o2, .int .i64 o3, .row 7]), some (.box [.lst (.pair (.pair (.int .i64) (.pair (.int .i64) (.pair (.int .i64) (.int .i64)))) (.sl (.int .i64))) v]), some (.box [.int .i64 a, .int .i64 b, .int .i64 c, .int .i64 d]), some (.box [.int .i64 n]), some (.box [.int .i64 kk]), some (.arr 3 (.int .i64) y0), some (.arr 3 (.int .i64) u)] := by
  simp only [k_pyr_Synth_2, Bool.and_eq_true, decide_eq_true_eq, and_assoc] at hk
  obtain ⟨rfl, hs, e, ho, rfl⟩ := hk
  obtain ⟨h1, h2, h3, h4, h5, h6, h7, h8⟩ := syErr_s e
  have hb := inr_b h3
  have hn := inr_b h2
  refine Exists.elim (z_fold (T := T_pyr_Synth_2) (st := fun j => ([.one (.int .i64 m), .one (.ptr 0 0), .one (.ptr 1 0), .one (.fn 61 [1, 2, 3, 4, 5]), .one (.int .i64 (1 + (j : Int)))], [some (.box [.int .i64 z0, .int .i64 z1, .int .i64 z2, .int .i64 z3, .row 6]), some (.box [.int .i64 ((syS a b c d n kk v j).1.1), .int .i64 ((syS a b c d n kk v j).1.2.1), .int .i64 ((syS a b c d n kk v j).1.2.2.1), .int .i64 ((syS a b c d n kk v j).1.2.2.2), .row 7]), some (.box [.lst (.pair (.pair (.int .i64) (.pair (.int .i64) (.pair (.int .i64) (.int .i64)))) (.sl (.int .i64))) v]), some (.box [.int .i64 a, .int .i64 b, .int .i64 c, .int .i64 d]), some (.box [.int .i64 n]), some (.box [.int .i64 kk]), some (.arr 3 (.int .i64) y0), some (.arr 3 (.int .i64) (syS a b c d n kk v j).2)])) m.toNat (.leaf (.exit 4) [.one (.ptr 0 0), .one (.ptr 1 0)] [some (.box [.int .i64 z0, .int .i64 z1, .int .i64 z2, .int .i64 z3, .row 2]), some (.box [.int .i64 ((syS a b c d n kk v m.toNat).1.1), .int .i64 ((syS a b c d n kk v m.toNat).1.2.1), .int .i64 ((syS a b c d n kk v m.toNat).1.2.2.1), .int .i64 ((syS a b c d n kk v m.toNat).1.2.2.2), .row 3]), some (.arr 3 (.int .i64) y0), some (.arr 3 (.int .i64) (syS a b c d n kk v m.toNat).2)]) (fun j hj F K => ?_) (fun F K => ?_)) (fun k hk => ⟨k, fun K r h => ?_⟩)
  · have so := sy_ok e (j := j) (by omega)
    have sv := plV_b (sy_inv e j (by omega)).1
    have sm : small (syS a b c d n kk v j).2.length = true := small_d (by omega)
    have es : syE a b c d n kk (1 + (j : Int)) ((syS a b c d n kk v j).1.1, (syS a b c d n kk v j).1.2.1, (syS a b c d n kk v j).1.2.2.1, (syS a b c d n kk v j).1.2.2.2) (syS a b c d n kk v j).2 v = 0 := by rw [Int.add_comm]; exact so
    simp only [tu_pyr_Synth_2, U_pyr_Synth_2, LT.next, LT.run, ite2_bool, decide_eq_true_eq, es, bne_self_eq_false, Bool.false_eq_true, if_false]
    rw [if_pos (by omega), if_pos (by rw [inr_t (a := 1) (b := 5) (x := 1 + (j : Int)) (by omega) (by omega), hs, sm]; simp only [Bool.and_true, Bool.true_and, decide_eq_true_eq]; omega), wrap_in (n := 1 + (j : Int) + 1) (by omega) (by omega), show 1 + (j : Int) + 1 = 1 + ((j + 1 : Nat) : Int) by omega]
    have hst : syS a b c d n kk v (j + 1) = (syNR 0 a b c d n (1 + (j : Int)), syNL 0 a b c d n kk (1 + (j : Int)) (syS a b c d n kk v j).2 v) := by
      rw [syS_s]
      unfold syNR syNL mgR
      rw [if_pos rfl, Int.add_comm 1 (j : Int), show (3 * ((j : Int) + 1) - 2).toNat = 3 * j + 1 by omega, show (3 * ((j : Int) + 1) - 1).toNat = 3 * j + 2 by omega, show (3 * ((j : Int) + 1)).toNat = 3 * j + 3 by omega]
    rw [hst]
    first
    | done
    | rfl
  · simp only [tu_pyr_Synth_2, U_pyr_Synth_2, LT.next, LT.run, ite2_bool, decide_eq_true_eq]
    rw [if_neg (by omega)]
  · obtain ⟨rfl, rfl, rfl, rfl⟩ : o0 = (gN v 0).1.1 ∧ o1 = (gN v 0).1.2.1 ∧ o2 = (gN v 0).1.2.2.1 ∧ o3 = (gN v 0).1.2.2.2 := by rw [← ho]; exact ⟨rfl, rfl, rfl, rfl⟩
    exact hk K r h
theorem z_pyr_Synth_2 : ZOk S_pyr_Synth_2 T_pyr_Synth_2 := by
  intro vs bl t y0'
  refine d_pyr_Synth_2 y0' fun a b c d n kk m o0 o1 o2 o3 z0 z1 z2 z3 q v y0 u u1' u2' yy' => ?_
  subst u1' u2'
  obtain ⟨hk, rfl⟩ := Prod.mk.inj (Option.some.inj yy')
  exact zz_pyr_Synth_2 _ _ _ _ _ _ _ _ _ _ _ _ _ _ _ _ _ _ _ hk
theorem q_pyr_Synth (a b c d n r k : Int) (v : List (Rc × List Int)) (hok : smAll v = true) : funR Try.prog t_pyr_Synth (annOf []) l_pyr_Synth 20 Try.f30 [.one (.lst (.pair (.pair (.int .i64) (.pair (.int .i64) (.pair (.int .i64) (.int .i64)))) (.sl (.int .i64))) v), .agg [.int .i64 a, .int .i64 b, .int .i64 c, .int .i64 d], .one (.int .i64 n), .one (.int .i64 r), .one (.int .i64 k)] [] = some ⟨.tup [(true, [.int .i64 ((syR a b c d n r k v).1), .int .i64 ((syR a b c d n r k v).2.1), .int .i64 ((syR a b c d n r k v).2.2.1), .int .i64 ((syR a b c d n r k v).2.2.2), .row 0]), (false, [.int .i64 (syErr a b c d n r k v)])], [], [.arr 3 (.int .i64) (syL a b c d n r k v)]⟩ := by
    refine (e_pyr_Synth ..).trans ?_
    have hm : (marg k == 0) = !inr 1 3 k := by
      rw [← marg_k]
      have : 0 ≤ marg k := by unfold marg; split <;> (try split) <;> omega
      by_cases h : marg k = 0
      · simp [h]
      · have h2 : marg k > 0 := by omega
        simp [h, h2]
    simp only [ite2_bool, decide_eq_true_eq, hm, List.nil_append, Nat.zero_add]
    cases hv : valid a b c d
    · have e : syErr a b c d n r k v = 2 := by simp [syErr, hv]
      simp [syR, syL, e]
    cases hn : inr 0 5 n
    · have e : syErr a b c d n r k v = 2 := by simp [syErr, hv, hn]
      simp [syR, syL, e, count, hn]
    have hb := inr_b hn
    have hc0 : (count n == 0) = false := by simp only [count, hn, if_true, beq_eq_false_iff_ne, ne_eq]; omega
    cases hr : inr 0 n r
    · have e : syErr a b c d n r k v = 2 := by simp [syErr, hv, hn, hr]
      have : ¬ (0 ≤ r ∧ r ≤ n) := fun h => by rw [inr_t h.1 h.2] at hr; cases hr
      by_cases h2 : r < 0
      · simp [syR, syL, e, hc0, h2]
      · simp [syR, syL, e, hc0, h2, show r > n by omega]
    have hc := inr_b hr
    have n1 : ¬ r < 0 := by omega
    have n2 : ¬ r > n := by omega
    by_cases ha : area (resR a b c d n r).1 (resR a b c d n r).2.1 (resR a b c d n r).2.2.1 (resR a b c d n r).2.2.2 > 1048576
    · have e : syErr a b c d n r k v = 2 := by simp [syErr, hv, hn, hr, ha]
      simp [syR, syL, e, hc0, n1, n2, ha]
    cases hk : inr 1 3 k
    · have e : syErr a b c d n r k v = 3 := by simp [syErr, hv, hn, hr, ha, hk]
      simp [syR, syL, e, hc0, n1, n2, ha]
    by_cases hl : (v.length : Int) = count n
    rotate_left
    · have e : syErr a b c d n r k v = 4 := by simp [syErr, hv, hn, hr, ha, hk, hl]
      simp [syR, syL, e, hc0, n1, n2, ha, hl]
    have hl3 : (v.length : Int) = 3 * n + 1 := by rw [hl]; simp only [count, hn, if_true]
    have d1 : decide (3 * r < (v.length : Int)) = true := by rw [decide_eq_true_eq]; omega
    have i5 : inr 0 5 r = true := inr_t (by omega) (by omega)
    have hne : ((v.length : Int) != count n) = false := by simp [hl]
    cases h1 : syBnd a b c d n r v
    · have e : syErr a b c d n r k v = 1 := by simp [syErr, hv, hn, hr, ha, hk, hl, h1]
      simp only [syR, syL, e, hc0, hne, k_pyr_Synth_0, i5, d1, h1, and_self, decide_true, Bool.and_self, Bool.not_true, Bool.false_eq_true, if_false, if_true, if_neg n1, if_neg n2, if_neg ha, show ¬ (1 : Int) = 0 by omega]
    cases h2 : syFit r v
    · have e : syErr a b c d n r k v = 2 := by simp [syErr, hv, hn, hr, ha, hk, hl, h1, h2]
      simp only [syR, syL, e, hc0, hne, k_pyr_Synth_0, k_pyr_Synth_1, i5, d1, hok, h1, h2, and_self, decide_true, Bool.and_self, Bool.not_true, Bool.false_eq_true, if_false, if_true, if_neg n1, if_neg n2, if_neg ha, show ¬ (2 : Int) = 0 by omega]
    have e : syErr a b c d n r k v = 0 := by simp [syErr, hv, hn, hr, ha, hk, hl, h1, h2]
    have sv := plV_b (sy_inv e 0 (by omega)).1
    have s9 : (gN v 0).2.length * 9 ≤ 140737488355328 := by
      show (syS a b c d n k v 0).2.length * 9 ≤ 140737488355328
      omega
    have hz : (0 : Int) < (v.length : Int) := by omega
    simp only [syR, syL, e, hc0, hne, k_pyr_Synth_0, k_pyr_Synth_1, k_pyr_Synth_2, i5, d1, hok, h1, h2, s9, hz, Int.le_refl, and_self, decide_true, Bool.and_self, Bool.not_true, Bool.false_eq_true, if_false, if_true, if_neg n1, if_neg n2, if_neg ha]
theorem s_pyr_Synth : SoundFun Try.prog 30 G_pyr_Synth := by
  refine fun_ok (tab := t_pyr_Synth) (ann := annOf []) (lt := l_pyr_Synth) (tab_cons s_pyr_Count (tab_cons s_pyr_Resolution (tab_cons s_pyr_Band (tab_cons s_pyr_validLevels (tab_cons s_pl_Valid (tab_cons s_lift_Margin (tab_cons s_pyr_exceeds (tab_cons s_rect_Valid (tab_cons s_rect_Area (tab_cons s_sy_step tab_nil)))))))))) (by kernel_rfl) (fn := Try.f30) (by kernel_rfl) (by decide) (c := bodyOf Try.f30) (by kernel_rfl) (by
    intro m b hb
    have hb' : b ∈ loopsOf (bodyOf Try.f30) := hb
    rw [o_pyr_Synth] at hb'
    simp only [List.mem_cons, List.not_mem_nil, or_false] at hb'
    rcases hb' with rfl | rfl | rfl
    · exact loop_ok (key := 8) (by kernel_rfl) rfl r_pyr_Synth_0 z_pyr_Synth_0 m
    · exact loop_ok (key := 13) (by kernel_rfl) rfl r_pyr_Synth_1 z_pyr_Synth_1 m
    · exact loop_ok (key := 20) (by kernel_rfl) rfl r_pyr_Synth_2 z_pyr_Synth_2 m
    ) ?_ (keep_nil (by kernel_rfl))
  intro args lent o y0'
  unfold G_pyr_Synth at y0'
  obtain ⟨c', args, rfl, y1'⟩ := pO_s y0'
  obtain ⟨v, rfl, y2'⟩ := kLN_s y1'
  obtain ⟨q', args, rfl, y3'⟩ := pA_s y2'
  obtain ⟨a, b, c, d, q', rfl, y4'⟩ := t4_s y3'
  obtain ⟨rfl, y5'⟩ := tE_s y4'
  obtain ⟨n, args, rfl, y6'⟩ := pI_s y5'
  obtain ⟨r, args, rfl, y7'⟩ := pI_s y6'
  obtain ⟨k, args, rfl, y8'⟩ := pI_s y7'
  obtain ⟨rfl, y9'⟩ := pE_s y8'
  obtain ⟨rfl, y10'⟩ := nE_s y9'
  have yy' := y10'
  unfold H_pyr_Synth at yy'
  obtain ⟨hok, rfl⟩ := Prod.mk.inj (Option.some.inj yy')
  exact ⟨20, q_pyr_Synth _ _ _ _ _ _ _ _ hok⟩
theorem few_s {l : List (Rc × List Int)} (h : fewB l = true) : l.length ≤ 20 ∧ smAll l = true ∧ ∀ i, (gN l i).2.length ≤ 4000 := by
  unfold fewB at h
  rw [Bool.and_eq_true, decide_eq_true_eq, List.all_eq_true] at h
  obtain ⟨h1, h2⟩ := h
  have h3 : ∀ i, (gN l i).2.length ≤ 4000 := by
    intro i
    by_cases hi : i < l.length
    · have := h1 i (List.mem_range.2 (by omega))
      simpa using this
    · have e : gN l i = ((0, 0, 0, 0), []) := by simp [gN, List.getD_eq_getElem?_getD, hi]
      rw [e]; simp
  refine ⟨h2, ?_, h3⟩
  unfold smAll
  rw [List.all_eq_true]
  intro x hx
  obtain ⟨i, hi, rfl⟩ := List.getElem_of_mem hx
  have e : gN l i = l[i] := by simp [gN, List.getD_eq_getElem?_getD, hi]
  have := h3 i
  rw [e] at this
  exact small_d (by omega)
theorem d_law_few_0 {α : Type} {vs : List V} {bl : List (Option Blk)} {K} {r0' : α} {Q : Prop} (y0' : D_law_few_0 vs bl K = some r0') (hh' : ∀ (i : Int) (l : List (Rc × List Int)), vs = [.one (.lst (.pair (.pair (.int .i64) (.pair (.int .i64) (.pair (.int .i64) (.int .i64)))) (.sl (.int .i64))) l), .one (.int .i64 i)] → bl = [] → K i l = some r0' → Q) : Q := by
  unfold D_law_few_0 at y0'
  obtain ⟨c', vs, rfl, y1'⟩ := pO_s y0'
  obtain ⟨l, rfl, y2'⟩ := kLN_s y1'
  obtain ⟨i, vs, rfl, y3'⟩ := pI_s y2'
  obtain ⟨rfl, y4'⟩ := pE_s y3'
  obtain ⟨rfl, y5'⟩ := bE_s y4'
  have yy' := y5'
  exact hh' _ _ rfl rfl yy'
theorem r_law_few_0 : RoundOk Try.prog t_law_few (annOf []) l_law_few Out 20 0 24 [0, 3] (kxOf [0] [2]) (loopOf Try.f29 0) T_law_few_0 := by
  intro vs bl Kc r h
  unfold T_law_few_0 at h
  obtain ⟨t, y0', h'⟩ := getD_run h
  refine d_law_few_0 y0' fun i l u1' u2' yy' => ?_
  subst u1' u2'
  cases yy'
  exact (b_law_few_0 ..).trans h'
theorem o_law_few : loopsOf (bodyOf Try.f29) = [loopOf Try.f29 0] := by kernel_rfl
theorem zz_law_few_0 (i : Int) (l : List (Rc × List Int)) (hk : k_law_few_0 i l = true) : ZZ (c_law_few_0 i l) T_law_few_0 [.one (.lst (.pair (.pair (.int .i64) (.pair (.int .i64) (.pair (.int .i64) (.int .i64)))) (.sl (.int .i64))) l), .one (.int .i64 i)] [] := by
  simp only [k_law_few_0, decide_eq_true_eq] at hk
  subst hk
  refine Exists.elim (z_idx (T := T_law_few_0) (st := fun j => ([.one (.lst (.pair (.pair (.int .i64) (.pair (.int .i64) (.pair (.int .i64) (.int .i64)))) (.sl (.int .i64))) l), .one (.int .i64 (j : Int))], [])) (min l.length 20) (fun i => decide ((gN l i).2.length ≤ 4000)) (.leaf (.exit 0) [.one (.lst (.pair (.pair (.int .i64) (.pair (.int .i64) (.pair (.int .i64) (.int .i64)))) (.sl (.int .i64))) l)] []) (.leaf .ret [.one (.bool false)] []) (fun j hj F K => ?_) (fun F K => ?_)) (fun k hk => ⟨k, fun K r h => ?_⟩)
  · have hc : 0 ≤ (j : Int) ∧ (j : Int) < (l.length : Int) := by omega
    have c1 : (j : Int) < 20 := by omega
    have c2 := hc.2
    simp only [tu_law_few_0, U_law_few_0, LT.next, LT.run, ite2_bool, decide_eq_true_eq, Int.toNat_natCast, if_pos hc, if_pos c1, if_pos c2]
    rw [wrap_in (n := (j : Int) + 1) (by omega) (by omega)]
    by_cases x : (gN l j).2.length ≤ 4000
    · rw [if_neg (by omega), if_pos x]
      rfl
    · rw [if_pos (by omega), if_neg x]
  · simp only [tu_law_few_0, U_law_few_0, LT.next, LT.run, ite2_bool, decide_eq_true_eq]
    by_cases x : ((min l.length 20 : Nat) : Int) < (l.length : Int)
    · rw [if_pos x, if_neg (by omega)]
    · rw [if_neg x]
  · exact hk K r h
theorem z_law_few_0 : ZOk S_law_few_0 T_law_few_0 := by
  intro vs bl t y0'
  refine d_law_few_0 y0' fun i l u1' u2' yy' => ?_
  subst u1' u2'
  obtain ⟨hk, rfl⟩ := Prod.mk.inj (Option.some.inj yy')
  exact zz_law_few_0 _ _ hk
theorem q_law_few (l : List (Rc × List Int)) (hok : true = true) : funR Try.prog t_law_few (annOf []) l_law_few 20 Try.f29 [.one (.lst (.pair (.pair (.int .i64) (.pair (.int .i64) (.pair (.int .i64) (.int .i64)))) (.sl (.int .i64))) l)] [] = some ⟨.one (.bool (fewB l)), [], []⟩ := by
    refine (e_law_few ..).trans ?_
    simp only [k_law_few_0, decide_true, ite2_bool, if_true, fewB]
    rcases Bool.eq_false_or_eq_true ((List.range (min l.length 20)).all fun i => decide ((gN l i).2.length ≤ 4000)) with x | x <;> simp [x]
    omega
theorem s_law_few : SoundFun Try.prog 29 G_law_few := by
  refine fun_ok (tab := t_law_few) (ann := annOf []) (lt := l_law_few) tab_nil (by kernel_rfl) (fn := Try.f29) (by kernel_rfl) (by decide) (c := bodyOf Try.f29) (by kernel_rfl) (by
    intro m b hb
    have hb' : b ∈ loopsOf (bodyOf Try.f29) := hb
    rw [o_law_few] at hb'
    simp only [List.mem_cons, List.not_mem_nil, or_false] at hb'
    rcases hb' with rfl
    · exact loop_ok (key := 2) (by kernel_rfl) rfl r_law_few_0 z_law_few_0 m
    ) ?_ (keep_nil (by kernel_rfl))
  intro args lent o y0'
  unfold G_law_few at y0'
  obtain ⟨c', args, rfl, y1'⟩ := pO_s y0'
  obtain ⟨l, rfl, y2'⟩ := kLN_s y1'
  obtain ⟨rfl, y3'⟩ := pE_s y2'
  obtain ⟨rfl, y4'⟩ := nE_s y3'
  have yy' := y4'
  unfold H_law_few at yy'
  obtain ⟨hok, rfl⟩ := Prod.mk.inj (Option.some.inj yy')
  exact ⟨20, q_law_few _ hok⟩
end Go.Rx.Ch06
