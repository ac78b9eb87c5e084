/- The summaries of these functions are sound. -/
import Derived.Test.YtmkifbcadobmjaaRE15
import Derived.Test.YtmkifbcadobmjaaRS14
set_option linter.unnecessarySimpa false
set_option linter.unusedVariables false
set_option linter.unusedSimpArgs false
set_option linter.unusedVariables false
set_option linter.unusedSimpArgs false
set_option maxRecDepth 100000
set_option maxHeartbeats 4000000
open Go Go.Rx Go.Proofs
namespace Go.Rx.Ch23
theorem fl_b {a w : Int} (h0 : 0 ≤ a) (h1 : a ≤ 4096) (hw : 1 ≤ w) : fdiv a w * w ≤ a ∧ a < fdiv a w * w + w := by
  have e := (fdiv_b h0 h1 hw).1
  have h2 := Int.emod_add_mul_ediv a w
  have h3 := Int.emod_nonneg a (show w ≠ 0 by omega)
  have h4 := Int.emod_lt_of_pos a (show 0 < w by omega)
  rw [Int.mul_comm w] at h2
  rw [e]; omega
theorem ce_b {c w : Int} (h0 : 0 ≤ c) (h1 : c ≤ 4096) (hw : 1 ≤ w) : cdiv c w * w - w < c ∧ c ≤ cdiv c w * w := by
  have e := cdiv_e h0 h1 hw
  have h2 := Int.emod_add_mul_ediv c w
  have h3 := Int.emod_nonneg c (show w ≠ 0 by omega)
  have h4 := Int.emod_lt_of_pos c (show 0 < w by omega)
  rw [Int.mul_comm w] at h2
  rw [e]
  split
  · rw [Int.add_mul, Int.one_mul]; omega
  · rw [Int.add_zero]; omega
/-- an index of a column or row, and the span that it has -/
theorem cell_b {a c w i : Int} (h0 : 0 ≤ a) (hac : a < c) (h1 : c ≤ 4096) (hw : 1 ≤ w) (hl : fdiv a w ≤ i) (hr : i < cdiv c w) : i * w < c ∧ a < i * w + w := by
  have f := fl_b h0 (by omega) hw
  have g := ce_b (show 0 ≤ c by omega) h1 hw
  have m1 : fdiv a w * w ≤ i * w := Int.mul_le_mul_of_nonneg_right hl (by omega)
  have m2 : (i + 1) * w ≤ cdiv c w * w := Int.mul_le_mul_of_nonneg_right (by omega) (by omega)
  rw [Int.add_mul, Int.one_mul] at m2
  omega
theorem sumL_app : ∀ l m, sumL (l ++ m) = sumL l + sumL m
  | [], m => by simp [sumL]
  | x :: l, m => by simp only [List.cons_append, sumL, sumL_app l m]; omega
theorem area_e {a b c d : Int} (h : valid a b c d = true) : area a b c d = (c - a) * (d - b) := by
  have hb := valid_b h
  have m := prod_b (show 0 ≤ c - a by omega) (show c - a ≤ 4096 by omega) (show 0 ≤ d - b by omega) (show d - b ≤ 4096 by omega)
  unfold area w
  rw [if_pos h, wrap_in (n := c - a) (by omega) (by omega), wrap_in (n := d - b) (by omega) (by omega), wrap_in (by omega) (by omega)]
theorem areaR_b {r : Rc} (h : validR r = true) : 0 ≤ areaR r := by
  have hb := valid_b h
  unfold areaR
  rw [area_e h]
  exact Int.mul_nonneg (by omega) (by omega)
section tiles
variable {a b c d w h : Int}
theorem tile_e (hv : valid a b c d = true) (hx : a < c) (hy : b < d) (hw : 1 ≤ w) (hh : 1 ≤ h) {i j : Int} (hi : fdiv a w ≤ i) (hi' : i < cdiv c w) (hj : fdiv b h ≤ j) (hj' : j < cdiv d h) :
    tileR a b c d w h i j = (max a (i * w), max b (j * h), min c (i * w + w), min d (j * h + h)) ∧ max a (i * w) < min c (i * w + w) ∧ max b (j * h) < min d (j * h + h) := by
  have hb := valid_b hv
  have p := cell_b hb.1 hx hb.2.2.1 hw hi hi'
  have q := cell_b hb.2.2.2.1 hy hb.2.2.2.2.2 hh hj hj'
  refine ⟨?_, by omega, by omega⟩
  unfold tileR inter
  rw [Int.add_mul, Int.one_mul, Int.add_mul, Int.one_mul, if_neg]
  simp only [empty, Bool.or_eq_true, decide_eq_true_eq]
  omega
theorem goodRow (hv : valid a b c d = true) (hx : a < c) (hy : b < d) (hw : 1 ≤ w) (hh : 1 ≤ h) {j : Int} (hj : fdiv b h ≤ j) (hj' : j < cdiv d h) : ∀ (n : Nat) (i : Int), fdiv a w ≤ i → i + n ≤ cdiv c w → (rowL a b c d w h j n i).all (fun r => !emptyR r && contains a b c d r.1 r.2.1 r.2.2.1 r.2.2.2) = true
  | 0, _, _, _ => rfl
  | n + 1, i, hi, hn => by
    simp only [rowL, List.all_cons, goodRow hv hx hy hw hh hj hj' n (i + 1) (by omega) (by omega), Bool.and_true]
    obtain ⟨e, p, q⟩ := tile_e hv hx hy hw hh hi (show i < cdiv c w by omega) hj hj'
    rw [e]
    have e1 : empty (max a (i * w)) (max b (j * h)) (min c (i * w + w)) (min d (j * h + h)) = false := by
      simp only [empty, Bool.or_eq_false_iff, decide_eq_false_iff_not]; omega
    have e2 : inter a b c d (max a (i * w)) (max b (j * h)) (min c (i * w + w)) (min d (j * h + h)) = (max a (i * w), max b (j * h), min c (i * w + w), min d (j * h + h)) := by
      unfold inter
      rw [show max a (max a (i * w)) = max a (i * w) by omega, show max b (max b (j * h)) = max b (j * h) by omega, show min c (min c (i * w + w)) = min c (i * w + w) by omega, show min d (min d (j * h + h)) = min d (j * h + h) by omega, e1]
      rfl
    simp only [emptyR, contains, e1, e2, decide_true, Bool.or_true, Bool.not_false, Bool.and_self]
theorem goodGrid (hv : valid a b c d = true) (hx : a < c) (hy : b < d) (hw : 1 ≤ w) (hh : 1 ≤ h) : ∀ (n : Nat) (j : Int), fdiv b h ≤ j → j + n ≤ cdiv d h → (gridL a b c d w h (fdiv a w) (cdiv c w - fdiv a w).toNat n j).all (fun r => !emptyR r && contains a b c d r.1 r.2.1 r.2.2.1 r.2.2.2) = true
  | 0, _, _, _ => rfl
  | n + 1, j, hj, hn => by
    have hb := valid_b hv
    have s := span_b hb.1 hb.2.1 hb.2.2.1 hw
    simp only [gridL, List.all_append, goodGrid hv hx hy hw hh n (j + 1) (by omega) (by omega), Bool.and_true]
    exact goodRow hv hx hy hw hh hj (by omega) _ _ (by omega) (by omega)
theorem sumRow (hv : valid a b c d = true) (hx : a < c) (hy : b < d) (hw : 1 ≤ w) (hh : 1 ≤ h) {j : Int} (hj : fdiv b h ≤ j) (hj' : j < cdiv d h) : ∀ (n : Nat) (i : Int), fdiv a w ≤ i → i + n < cdiv c w → sumL (rowL a b c d w h j (n + 1) i) = (min c ((i + n) * w + w) - max a (i * w)) * (min d (j * h + h) - max b (j * h))
  | 0, i, hi, hn => by
    obtain ⟨e, p, q⟩ := tile_e hv hx hy hw hh hi (show i < cdiv c w by omega) hj hj'
    have hvt : validR (tileR a b c d w h i j) = true := valid_inter hv ..
    simp only [rowL, sumL, areaR]
    rw [area_e hvt, e]
    simp
  | n + 1, i, hi, hn => by
    obtain ⟨e, p, q⟩ := tile_e hv hx hy hw hh hi (show i < cdiv c w by omega) hj hj'
    have hvt : validR (tileR a b c d w h i j) = true := valid_inter hv ..
    have hb := valid_b hv
    have p2 := cell_b hb.1 hx hb.2.2.1 hw (show fdiv a w ≤ i + 1 by omega) (show i + 1 < cdiv c w by omega)
    have p1 := cell_b hb.1 hx hb.2.2.1 hw hi (show i < cdiv c w by omega)
    have ih := sumRow hv hx hy hw hh hj hj' n (i + 1) (by omega) (by omega)
    rw [rowL]
    simp only [sumL]
    rw [ih, show areaR (tileR a b c d w h i j) = _ from area_e hvt, e, ← Int.add_mul]
    congr 1
    have e1 : (i + 1) * w = i * w + w := by rw [Int.add_mul, Int.one_mul]
    rw [e1] at p2 ⊢
    have e2 : (i + 1 + (n : Int)) = i + ((n + 1 : Nat) : Int) := by omega
    rw [e2]
    simp only
    omega
theorem sumGrid (hv : valid a b c d = true) (hx : a < c) (hy : b < d) (hw : 1 ≤ w) (hh : 1 ≤ h) : ∀ (n : Nat) (j : Int), fdiv b h ≤ j → j + n < cdiv d h → sumL (gridL a b c d w h (fdiv a w) (cdiv c w - fdiv a w).toNat (n + 1) j) = (c - a) * (min d ((j + n) * h + h) - max b (j * h))
  | n, j, hj, hn => by
    have hb := valid_b hv
    have s := span_b hb.1 hb.2.1 hb.2.2.1 hw
    have f := fl_b hb.1 (show a ≤ 4096 by omega) hw
    have g := ce_b (show 0 ≤ c by omega) hb.2.2.1 hw
    have hlt : fdiv a w < cdiv c w := by
      rcases Int.lt_or_le (fdiv a w) (cdiv c w) with h' | h'
      · exact h'
      · have : cdiv c w * w ≤ fdiv a w * w := Int.mul_le_mul_of_nonneg_right h' (by omega)
        omega
    have row : ∀ j, fdiv b h ≤ j → j < cdiv d h → sumL (rowL a b c d w h j (cdiv c w - fdiv a w).toNat (fdiv a w)) = (c - a) * (min d (j * h + h) - max b (j * h)) := by
      intro j hj hj'
      obtain ⟨m, hm⟩ : ∃ m : Nat, (cdiv c w - fdiv a w).toNat = m + 1 := ⟨(cdiv c w - fdiv a w).toNat - 1, by omega⟩
      rw [hm, sumRow hv hx hy hw hh hj hj' m (fdiv a w) (by omega) (by omega)]
      have e1 : (fdiv a w + (m : Int)) * w + w = cdiv c w * w := by
        have : cdiv c w = fdiv a w + m + 1 := by omega
        rw [this, Int.add_mul _ 1, Int.one_mul]
      rw [e1, show min c (cdiv c w * w) = c by omega, show max a (fdiv a w * w) = a by omega]
    match n, hn with
    | 0, hn =>
      simp only [gridL, List.append_nil]
      rw [row j hj (by omega)]
      simp
    | n + 1, hn =>
      have ih := sumGrid hv hx hy hw hh n (j + 1) (by omega) (by omega)
      rw [gridL, sumL_app, row j hj (by omega), ih, ← Int.mul_add]
      congr 1
      have p2 := cell_b hb.2.2.2.1 hy hb.2.2.2.2.2 hh (show fdiv b h ≤ j + 1 by omega) (show j + 1 < cdiv d h by omega)
      have p1 := cell_b hb.2.2.2.1 hy hb.2.2.2.2.2 hh hj (show j < cdiv d h by omega)
      have e1 : (j + 1) * h = j * h + h := by rw [Int.add_mul, Int.one_mul]
      rw [e1] at p2 ⊢
      have e2 : (j + 1 + (n : Int)) = j + ((n + 1 : Nat) : Int) := by omega
      rw [e2]
      omega
end tiles
theorem sumL_take {l : List Rc} (hv : l.all validR = true) (hs : sumL l ≤ 1099511627776) : ∀ k, k ≤ l.length → sumA l k = sumL (l.take k) ∧ 0 ≤ sumL (l.take k) ∧ sumL (l.take k) ≤ sumL l
  | 0, _ => by
    have nn : ∀ m : List Rc, m.all validR = true → 0 ≤ sumL m := by
      intro m
      induction m with
      | nil => intro _; simp [sumL]
      | cons x m ih =>
        intro hm
        simp only [List.all_cons, Bool.and_eq_true] at hm
        have := areaR_b hm.1
        have := ih hm.2
        simp only [sumL]; omega
    have := nn l hv
    exact ⟨rfl, Int.le_refl _, this⟩
  | k + 1, hk => by
    have nn : ∀ m : List Rc, m.all validR = true → 0 ≤ sumL m := by
      intro m
      induction m with
      | nil => intro _; simp [sumL]
      | cons x m ih =>
        intro hm
        simp only [List.all_cons, Bool.and_eq_true] at hm
        have := areaR_b hm.1
        have := ih hm.2
        simp only [sumL]; omega
    obtain ⟨h1, h2, h3⟩ := sumL_take hv hs k (by omega)
    have hlt : k < l.length := by omega
    have e : l.take (k + 1) = l.take k ++ [gR l k] := by
      rw [gR, List.getD_eq_getElem?_getD, List.getElem?_eq_getElem hlt, List.take_succ_eq_append_getElem hlt]; rfl
    have hall : (l.take (k + 1) ++ l.drop (k + 1)).all validR = true := by rw [List.take_append_drop]; exact hv
    have hsum : sumL (l.take (k + 1)) + sumL (l.drop (k + 1)) = sumL l := by rw [← sumL_app, List.take_append_drop]
    rw [List.all_append, Bool.and_eq_true] at hall
    have h4 := nn _ hall.1
    have h5 := nn _ hall.2
    have e3 : sumL (l.take (k + 1)) = sumL (l.take k) + areaR (gR l k) := by rw [e, sumL_app]; simp [sumL]
    simp only [sumA]
    rw [h1, ← e3]
    unfold w
    rw [wrap_in (by omega) (by omega)]
    omega
theorem digsN_le : ∀ (M m : Nat) (x : Int), x < 2 ^ m → digsN M x ≤ m
  | 0, m, x, _ => by simp [digsN]
  | M + 1, 0, x, h => by
    simp only [digsN]
    rw [if_pos (by simp at h; omega)]; simp
  | M + 1, m + 1, x, h => by
    simp only [digsN]
    split
    · omega
    · have := digsN_le M m (x / 2) (by rw [Int.pow_succ] at h; omega)
      push_cast; omega
theorem digsN_ge : ∀ (M : Nat) (x : Int), 0 ≤ digsN M x
  | 0, x => by simp [digsN]
  | M + 1, x => by
    simp only [digsN]
    split
    · omega
    · have := digsN_ge M (x / 2)
      omega
theorem digs_b {x : Int} (h : 1 ≤ x) (h' : x < 536870912) : 1 ≤ digs x ∧ digs x ≤ 29 := by
  refine ⟨?_, digsN_le 63 29 x (by omega)⟩
  unfold digs
  rw [show (63 : Nat) = 62 + 1 from rfl, digsN, if_neg (by omega)]
  have := digsN_ge 62 (x / 2)
  omega
theorem good_planes {p : Pm} (hn : nums p = true) : (List.range p.st.length).all (goodS p) = true := by
  have nb := nums_b hn
  rw [List.all_eq_true]
  intro i hi
  rw [List.mem_range] at hi
  have hst : p.st.all (inr 1 65536) = true := by
    simp only [nums, Bool.and_eq_true] at hn
    exact hn.1.1.2
  have hs := inr_b (List.all_eq_true.1 hst (gI p.st i) (by
    rw [gI, List.getD_eq_getElem?_getD, List.getElem?_eq_getElem hi]
    exact List.getElem_mem hi))
  have hq : qvalid (gI p.st i) p.de = true := by
    simp only [qvalid, Bool.and_eq_true]
    exact ⟨inr_t hs.1 hs.2, inr_t nb.2.2.2.2.2.1.1 nb.2.2.2.2.2.1.2⟩
  have hsf : inr 0 30 p.sf = true := inr_t nb.2.2.2.2.2.2.1.1 nb.2.2.2.2.2.2.1.2
  have ht := qthr_b hq
  have hd := qdiv (m := 268435455 - qthr (gI p.st i) p.de) (a := gI p.st i) (by omega) hs.1
  have hz : quantz 268435455 (gI p.st i) p.de = 1 + (268435455 - qthr (gI p.st i) p.de) / gI p.st i := by
    unfold quantz
    rw [if_pos hq, show min (268435455 : Int) 281474976710656 = 268435455 from by decide, if_pos (by omega)]
  have hg := digs_b (x := quantz 268435455 (gI p.st i) p.de) (by omega) (by omega)
  have hp : planes p i = digs (quantz 268435455 (gI p.st i) p.de) + p.sf := by
    unfold planes
    rw [Int.toNat_natCast, if_neg (by
      rw [hq, hsf]
      simp
      omega)]
    have : planesQ 268435455 (gI p.st i) p.de = digs (quantz 268435455 (gI p.st i) p.de) := by
      simp [planesQ, hq]
    rw [this]
    unfold w
    rw [wrap_in (by omega) (by omega)]
  simp only [goodS, hp, Bool.and_eq_true, decide_eq_true_eq]
  omega

theorem r_ParamsBounds_0 : RoundOk Try.prog t_ParamsBounds (annOf []) l_ParamsBounds Out 20 0 115 [2, 3, 5, 6, 39, 40] (kxOf [2, 3, 6] [4]) (loopOf Try.f6 0) T_ParamsBounds_0 := by
  intro vs bl Kc r h
  unfold T_ParamsBounds_0 at h
  obtain ⟨t, y0', h'⟩ := getD_run h
  obtain ⟨c', vs, rfl, y1'⟩ := pO_s y0'
  obtain ⟨rfl, y2'⟩ := kP_s y1'
  obtain ⟨c', vs, rfl, y3'⟩ := pO_s y2'
  obtain ⟨rfl, y4'⟩ := kP_s y3'
  obtain ⟨c', vs, rfl, y5'⟩ := pO_s y4'
  obtain ⟨rfl, y6'⟩ := kR_s y5'
  obtain ⟨c', vs, rfl, y7'⟩ := pO_s y6'
  obtain ⟨s, rfl, y8'⟩ := kI_s y7'
  obtain ⟨c', vs, rfl, y9'⟩ := pO_s y8'
  obtain ⟨n, rfl, y10'⟩ := kI_s y9'
  obtain ⟨c', vs, rfl, y11'⟩ := pO_s y10'
  obtain ⟨i, rfl, y12'⟩ := kI_s y11'
  obtain ⟨rfl, y13'⟩ := pE_s y12'
  obtain ⟨q', bl, rfl, y14'⟩ := bB_s y13'
  obtain ⟨h, rfl, y15'⟩ := rdHd_s y14'
  obtain ⟨q', bl, rfl, y16'⟩ := bB_s y15'
  obtain ⟨p, rfl, y17'⟩ := rdPm_s y16'
  obtain ⟨t, bl, rfl, y18'⟩ := bAR_s y17'
  obtain ⟨rfl, y19'⟩ := bE_s y18'
  have yy' := y19'
  cases yy'
  exact (b_ParamsBounds_0 ..).trans ((congrArg (LT.runc · Kc) (tu_ParamsBounds_0 ..)).trans h')
theorem r_ParamsBounds_1 : RoundOk Try.prog t_ParamsBounds (annOf []) l_ParamsBounds Out 20 0 115 [2, 3, 6, 67, 68, 69] (kxOf [2, 3, 6] [4]) (loopOf Try.f6 1) T_ParamsBounds_1 := by
  intro vs bl Kc r h
  unfold T_ParamsBounds_1 at h
  obtain ⟨t, y0', h'⟩ := getD_run h
  obtain ⟨c', vs, rfl, y1'⟩ := pO_s y0'
  obtain ⟨rfl, y2'⟩ := kP_s y1'
  obtain ⟨c', vs, rfl, y3'⟩ := pO_s y2'
  obtain ⟨rfl, y4'⟩ := kP_s y3'
  obtain ⟨c', vs, rfl, y5'⟩ := pO_s y4'
  obtain ⟨s, rfl, y6'⟩ := kI_s y5'
  obtain ⟨c', vs, rfl, y7'⟩ := pO_s y6'
  obtain ⟨l, rfl, y8'⟩ := kLC_s y7'
  obtain ⟨c', vs, rfl, y9'⟩ := pO_s y8'
  obtain ⟨n, rfl, y10'⟩ := kI_s y9'
  obtain ⟨c', vs, rfl, y11'⟩ := pO_s y10'
  obtain ⟨i, rfl, y12'⟩ := kI_s y11'
  obtain ⟨rfl, y13'⟩ := pE_s y12'
  obtain ⟨q', bl, rfl, y14'⟩ := bB_s y13'
  obtain ⟨h, rfl, y15'⟩ := rdHd_s y14'
  obtain ⟨q', bl, rfl, y16'⟩ := bB_s y15'
  obtain ⟨p, rfl, y17'⟩ := rdPm_s y16'
  obtain ⟨rfl, y18'⟩ := bE_s y17'
  have yy' := y18'
  cases yy'
  exact (b_ParamsBounds_1 ..).trans ((congrArg (LT.runc · Kc) (tu_ParamsBounds_1 ..)).trans h')
theorem r_ParamsBounds_2 : RoundOk Try.prog t_ParamsBounds (annOf []) l_ParamsBounds Out 20 0 115 [3, 100, 101] (kxOf [] [4]) (loopOf Try.f6 2) T_ParamsBounds_2 := by
  intro vs bl Kc r h
  unfold T_ParamsBounds_2 at h
  obtain ⟨t, y0', h'⟩ := getD_run h
  obtain ⟨c', vs, rfl, y1'⟩ := pO_s y0'
  obtain ⟨rfl, y2'⟩ := kP_s y1'
  obtain ⟨c', vs, rfl, y3'⟩ := pO_s y2'
  obtain ⟨n, rfl, y4'⟩ := kI_s y3'
  obtain ⟨c', vs, rfl, y5'⟩ := pO_s y4'
  obtain ⟨i, rfl, y6'⟩ := kI_s y5'
  obtain ⟨rfl, y7'⟩ := pE_s y6'
  obtain ⟨q', bl, rfl, y8'⟩ := bB_s y7'
  obtain ⟨p, rfl, y9'⟩ := rdPm_s y8'
  obtain ⟨rfl, y10'⟩ := bE_s y9'
  have yy' := y10'
  cases yy'
  exact (b_ParamsBounds_2 ..).trans ((congrArg (LT.runc · Kc) (tu_ParamsBounds_2 ..)).trans h')
theorem o_ParamsBounds : loopsOf (bodyOf Try.f6) = [loopOf Try.f6 0, loopOf Try.f6 1, loopOf Try.f6 2] := by kernel_rfl
theorem zz_ParamsBounds_0 (h : Hd) (p : Pm) (t : List Rc) (s n i : Int) (hk : k_ParamsBounds_0 h p t s n i = true) : ∃ k, ∀ (K : Ex → List V → List (Option Blk) → Option Out) r, (c_ParamsBounds_0 h p t s n i).run K = some r → (iter T_ParamsBounds_0 k [.one (.ptr 0 0), .one (.ptr 1 0), .one (.row 2), .one (.int .i64 s), .one (.int .i64 n), .one (.int .i64 i)] [some (.box (hdC h)), some (.box (pmC p)), some (.arr 23 (.pair (.int .i64) (.pair (.int .i64) (.pair (.int .i64) (.int .i64)))) t)]).run K = some r := by
  simp only [k_ParamsBounds_0, Bool.and_eq_true, decide_eq_true_eq] at hk
  obtain ⟨⟨⟨rfl, rfl⟩, rfl⟩, hsm⟩ := hk
  refine Exists.elim (z_idx (T := T_ParamsBounds_0) (st := fun j => ([.one (.ptr 0 0), .one (.ptr 1 0), .one (.row 2), .one (.int .i64 (sumA t j)), .one (.int .i64 (t.length : Int)), .one (.int .i64 (j : Int))], [some (.box (hdC h)), some (.box (pmC p)), some (.arr 23 (.pair (.int .i64) (.pair (.int .i64) (.pair (.int .i64) (.int .i64)))) t)])) t.length (fun k => goodT h (gR t k)) (LT.leaf (.exit 0) [.one (.ptr 0 0), .one (.ptr 1 0), .one (.int .i64 (sumA t t.length))] [some (.box (hdC h)), some (.box (pmC p))]) (.leaf .ret [.one (.bool false)] []) (fun j hj F K => ?_) (fun F K => ?_)) (fun k hk => ⟨k, fun K r h => hk K r h⟩)
  · have h0 : (j : Int) < t.length := by omega
    have eG : goodT h (gR t j) = (!empty (gR t j).1 (gR t j).2.1 (gR t j).2.2.1 (gR t j).2.2.2 && contains h.a h.b h.c h.d (gR t j).1 (gR t j).2.1 (gR t j).2.2.1 (gR t j).2.2.2) := rfl
    simp only [tu_ParamsBounds_0, U_ParamsBounds_0, LT.next, LT.run, ite2_bool, decide_eq_true_eq, Int.toNat_natCast, eG]
    rw [if_pos h0, if_pos (by omega), if_pos hj]
    by_cases he : empty (gR t j).1 (gR t j).2.1 (gR t j).2.2.1 (gR t j).2.2.2 = true
    · rw [if_pos he, he]
      rfl
    · rw [if_neg he, if_pos (by omega), if_pos hj]
      simp only [Bool.not_eq_true] at he
      rw [he]
      by_cases hc : contains h.a h.b h.c h.d (gR t j).1 (gR t j).2.1 (gR t j).2.2.1 (gR t j).2.2.2 = true
      · rw [hc, if_neg (by decide), if_pos (by omega), if_pos hj, wrap_next hj hsm]
        rfl
      · simp only [Bool.not_eq_true] at hc
        rw [hc]
        rfl
  · simp only [tu_ParamsBounds_0, U_ParamsBounds_0, LT.next, LT.run, ite2_bool, decide_eq_true_eq]
    rw [if_neg (by omega)]
    rfl
theorem z_ParamsBounds_0 : ∀ vs bl t, S_ParamsBounds_0 vs bl = some (true, t) → ∃ n, ∀ (K : Ex → List V → List (Option Blk) → Option Out) r, t.run K = some r → (iter T_ParamsBounds_0 n vs bl).run K = some r := by
  intro vs bl t y0'
  unfold S_ParamsBounds_0 at y0'
  obtain ⟨c', vs, rfl, y1'⟩ := pO_s y0'
  obtain ⟨rfl, y2'⟩ := kP_s y1'
  obtain ⟨c', vs, rfl, y3'⟩ := pO_s y2'
  obtain ⟨rfl, y4'⟩ := kP_s y3'
  obtain ⟨c', vs, rfl, y5'⟩ := pO_s y4'
  obtain ⟨rfl, y6'⟩ := kR_s y5'
  obtain ⟨c', vs, rfl, y7'⟩ := pO_s y6'
  obtain ⟨s, rfl, y8'⟩ := kI_s y7'
  obtain ⟨c', vs, rfl, y9'⟩ := pO_s y8'
  obtain ⟨n, rfl, y10'⟩ := kI_s y9'
  obtain ⟨c', vs, rfl, y11'⟩ := pO_s y10'
  obtain ⟨i, rfl, y12'⟩ := kI_s y11'
  obtain ⟨rfl, y13'⟩ := pE_s y12'
  obtain ⟨q', bl, rfl, y14'⟩ := bB_s y13'
  obtain ⟨h, rfl, y15'⟩ := rdHd_s y14'
  obtain ⟨q', bl, rfl, y16'⟩ := bB_s y15'
  obtain ⟨p, rfl, y17'⟩ := rdPm_s y16'
  obtain ⟨t, bl, rfl, y18'⟩ := bAR_s y17'
  obtain ⟨rfl, y19'⟩ := bE_s y18'
  have yy' := y19'
  obtain ⟨hk, rfl⟩ := Prod.mk.inj (Option.some.inj yy')
  exact zz_ParamsBounds_0 _ _ _ _ _ _ hk
theorem zz_ParamsBounds_1 (h : Hd) (p : Pm) (l : List (Int × Bool × Int × Int)) (s : Int) (hsm : small (l.length) = true) (hc : true = true) : ∃ k, ∀ (K : Ex → List V → List (Option Blk) → Option Out) r, (c_ParamsBounds_1 h p l s).run K = some r → (iter T_ParamsBounds_1 k [.one (.ptr 0 0), .one (.ptr 1 0), .one (.int .i64 s), .one (.lst (.pair (.int .i64) (.pair .bool (.pair (.int .i64) (.int .i64)))) l), .one (.int .i64 (l.length : Int)), .one (.int .i64 0)] [some (.box (hdC h)), some (.box (pmC p))]).run K = some r := by
  refine z_list (st := fun i => ([.one (.ptr 0 0), .one (.ptr 1 0), .one (.int .i64 s), .one (.lst (.pair (.int .i64) (.pair .bool (.pair (.int .i64) (.int .i64)))) l), .one (.int .i64 (l.length : Int)), .one (.int .i64 ((i : Nat) : Int))], [some (.box (hdC h)), some (.box (pmC p))])) l (0, false, 0, 0) (goodC h) _ _ (fun i hi F K => ?_) (fun F K => ?_)
  · have hi' : (i : Int) < (l.length : Int) := by omega
    simp only [tu_ParamsBounds_1, U_ParamsBounds_1, LT.next, LT.run, ite2_dec, ite2_bool, wrap_next hi hsm, Int.toNat_natCast, hi', Int.natCast_nonneg, and_self, if_true, gI, gP, gC, gR]
    simp only [goodC, redH, areaR]
    simp [hdC, pmC]
    grind
  · simp only [tu_ParamsBounds_1, U_ParamsBounds_1, LT.next, LT.run, ite2_dec, Int.lt_irrefl, if_false]
    try rfl
theorem z_ParamsBounds_1 : ∀ vs bl t, S_ParamsBounds_1 vs bl = some (true, t) → ∃ n, ∀ (K : Ex → List V → List (Option Blk) → Option Out) r, t.run K = some r → (iter T_ParamsBounds_1 n vs bl).run K = some r := by
  intro vs bl t y0'
  unfold S_ParamsBounds_1 at y0'
  obtain ⟨c', vs, rfl, y1'⟩ := pO_s y0'
  obtain ⟨rfl, y2'⟩ := kP_s y1'
  obtain ⟨c', vs, rfl, y3'⟩ := pO_s y2'
  obtain ⟨rfl, y4'⟩ := kP_s y3'
  obtain ⟨c', vs, rfl, y5'⟩ := pO_s y4'
  obtain ⟨s, rfl, y6'⟩ := kI_s y5'
  obtain ⟨c', vs, rfl, y7'⟩ := pO_s y6'
  obtain ⟨l, rfl, y8'⟩ := kLC_s y7'
  obtain ⟨c', vs, rfl, y9'⟩ := pO_s y8'
  obtain ⟨n, rfl, y10'⟩ := kI_s y9'
  obtain ⟨c', vs, rfl, y11'⟩ := pO_s y10'
  obtain ⟨i, rfl, y12'⟩ := kI_s y11'
  obtain ⟨rfl, y13'⟩ := pE_s y12'
  obtain ⟨q', bl, rfl, y14'⟩ := bB_s y13'
  obtain ⟨h, rfl, y15'⟩ := rdHd_s y14'
  obtain ⟨q', bl, rfl, y16'⟩ := bB_s y15'
  obtain ⟨p, rfl, y17'⟩ := rdPm_s y16'
  obtain ⟨rfl, y18'⟩ := bE_s y17'
  have yy' := y18'
  obtain ⟨hk, rfl⟩ := Prod.mk.inj (Option.some.inj yy')
  unfold k_ParamsBounds_1 at hk
  simp only [Bool.and_eq_true, decide_eq_true_eq, and_assoc] at hk
  obtain ⟨rfl, rfl, hsm, hc⟩ := hk
  exact zz_ParamsBounds_1 _ _ _ _ hsm (by first | exact hc | simpa using hc)
theorem zz_ParamsBounds_2 (p : Pm) (hsm : small (p.st.length) = true) (hc : true = true) : ∃ k, ∀ (K : Ex → List V → List (Option Blk) → Option Out) r, (c_ParamsBounds_2 p).run K = some r → (iter T_ParamsBounds_2 k [.one (.ptr 0 0), .one (.int .i64 (p.st.length : Int)), .one (.int .i64 0)] [some (.box (pmC p))]).run K = some r := by
  refine z_idx (st := fun i => ([.one (.ptr 0 0), .one (.int .i64 (p.st.length : Int)), .one (.int .i64 ((i : Nat) : Int))], [some (.box (pmC p))])) (p.st.length) (goodS p) _ _ (fun i hi F K => ?_) (fun F K => ?_)
  · have hi' : (i : Int) < (p.st.length : Int) := by omega
    simp only [tu_ParamsBounds_2, U_ParamsBounds_2, LT.next, LT.run, ite2_dec, ite2_bool, wrap_next hi hsm, Int.toNat_natCast, hi', Int.natCast_nonneg, and_self, if_true, gI, gP, gC, gR]
    simp only [goodS]
    simp [pmC]
    grind
  · simp only [tu_ParamsBounds_2, U_ParamsBounds_2, LT.next, LT.run, ite2_dec, Int.lt_irrefl, if_false]
    try rfl
theorem z_ParamsBounds_2 : ∀ vs bl t, S_ParamsBounds_2 vs bl = some (true, t) → ∃ n, ∀ (K : Ex → List V → List (Option Blk) → Option Out) r, t.run K = some r → (iter T_ParamsBounds_2 n vs bl).run K = some r := by
  intro vs bl t y0'
  unfold S_ParamsBounds_2 at y0'
  obtain ⟨c', vs, rfl, y1'⟩ := pO_s y0'
  obtain ⟨rfl, y2'⟩ := kP_s y1'
  obtain ⟨c', vs, rfl, y3'⟩ := pO_s y2'
  obtain ⟨n, rfl, y4'⟩ := kI_s y3'
  obtain ⟨c', vs, rfl, y5'⟩ := pO_s y4'
  obtain ⟨i, rfl, y6'⟩ := kI_s y5'
  obtain ⟨rfl, y7'⟩ := pE_s y6'
  obtain ⟨q', bl, rfl, y8'⟩ := bB_s y7'
  obtain ⟨p, rfl, y9'⟩ := rdPm_s y8'
  obtain ⟨rfl, y10'⟩ := bE_s y9'
  have yy' := y10'
  obtain ⟨hk, rfl⟩ := Prod.mk.inj (Option.some.inj yy')
  unfold k_ParamsBounds_2 at hk
  simp only [Bool.and_eq_true, decide_eq_true_eq, and_assoc] at hk
  obtain ⟨rfl, rfl, hsm, hc⟩ := hk
  exact zz_ParamsBounds_2 _ hsm (by first | exact hc | simpa using hc)
theorem q_ParamsBounds (h : Hd) (p : Pm) (hok : ok_ParamsBounds h p = true) : funR Try.prog t_ParamsBounds (annOf []) l_ParamsBounds 20 Try.f6 [.agg (hdC h), .agg (pmC p)] [] = some ⟨.one (.bool true), [], []⟩ := by
    refine (e_ParamsBounds ..).trans ?_
    cases hf : few h p
    · rfl
    have hs := few_small hf
    simp only [ite2_bool, hs, Bool.and_self, if_true, Bool.not_true, Bool.false_eq_true, if_false]
    by_cases hh : header h = 0
    rotate_left
    · simp [hh]
    have hb := header_ok hh
    have v := valid_b hb.1
    have w1 := inr_b hb.2.2.1
    have w2 := inr_b hb.2.2.2.1
    have he : h.a < h.c ∧ h.b < h.d := by
      have := hb.2.1
      simp only [empty, Bool.or_eq_false_iff, decide_eq_false_iff_not] at this
      omega
    have s1 := span_b v.1 v.2.1 v.2.2.1 w1.1
    have s2 := span_b v.2.2.2.1 v.2.2.2.2.1 v.2.2.2.2.2 w2.1
    have f1 := fl_b v.1 (show h.a ≤ 4096 by omega) w1.1
    have g1 := ce_b (show 0 ≤ h.c by omega) v.2.2.1 w1.1
    have f2 := fl_b v.2.2.2.1 (show h.b ≤ 4096 by omega) w2.1
    have g2 := ce_b (show 0 ≤ h.d by omega) v.2.2.2.2.2 w2.1
    have l1 : fdiv h.a h.tw < cdiv h.c h.tw := by
      rcases Int.lt_or_le (fdiv h.a h.tw) (cdiv h.c h.tw) with h' | h'
      · exact h'
      · have : cdiv h.c h.tw * h.tw ≤ fdiv h.a h.tw * h.tw := Int.mul_le_mul_of_nonneg_right h' (by omega)
        omega
    have l2 : fdiv h.b h.th < cdiv h.d h.th := by
      rcases Int.lt_or_le (fdiv h.b h.th) (cdiv h.d h.th) with h' | h'
      · exact h'
      · have : cdiv h.d h.th * h.th ≤ fdiv h.b h.th * h.th := Int.mul_le_mul_of_nonneg_right h' (by omega)
        omega
    have m := prod_b (show 0 ≤ cdiv h.c h.tw - fdiv h.a h.tw by omega) (show cdiv h.c h.tw - fdiv h.a h.tw ≤ 4096 by omega) (show 0 ≤ cdiv h.d h.th - fdiv h.b h.th by omega) (show cdiv h.d h.th - fdiv h.b h.th ≤ 4096 by omega)
    have hti : tiles h = (cdiv h.c h.tw - fdiv h.a h.tw) * (cdiv h.d h.th - fdiv h.b h.th) := by
      unfold tiles w
      rw [wrap_in (n := cdiv h.c h.tw - fdiv h.a h.tw) (by omega) (by omega), wrap_in (n := cdiv h.d h.th - fdiv h.b h.th) (by omega) (by omega), wrap_in (by omega) (by omega)]
    have ht1 := hb.2.2.2.2.2.2.1
    have ht0 : 1 * 1 ≤ (cdiv h.c h.tw - fdiv h.a h.tw) * (cdiv h.d h.th - fdiv h.b h.th) := Int.mul_le_mul (by omega) (by omega) (by omega) (by omega)
    have eL : tilesL h.a h.b h.c h.d h.tw h.th = gridL h.a h.b h.c h.d h.tw h.th (fdiv h.a h.tw) (cdiv h.c h.tw - fdiv h.a h.tw).toNat (cdiv h.d h.th - fdiv h.b h.th).toNat (fdiv h.b h.th) := by
      unfold tilesL
      rw [if_neg (by rw [hb.1, hb.2.1]; simp; omega), if_neg (by omega)]
    have hlen : ((tilesL h.a h.b h.c h.d h.tw h.th).length : Int) = tiles h := by
      rw [eL, gridL_len, hti, Int.natCast_mul, Int.toNat_of_nonneg (by omega), Int.toNat_of_nonneg (by omega), Int.mul_comm]
    have hgood : (List.range (tilesL h.a h.b h.c h.d h.tw h.th).length).all (fun k => goodT h (gR (tilesL h.a h.b h.c h.d h.tw h.th) k)) = true := by
      refine (all_if (tilesL h.a h.b h.c h.d h.tw h.th) (0, 0, 0, 0) (goodT h)).trans ?_
      rw [eL]
      exact goodGrid hb.1 he.1 he.2 w1.1 w2.1 _ _ (Int.le_refl _) (by omega)
    have hsum0 : sumL (tilesL h.a h.b h.c h.d h.tw h.th) = (h.c - h.a) * (h.d - h.b) := by
      obtain ⟨n, hn⟩ : ∃ n : Nat, (cdiv h.d h.th - fdiv h.b h.th).toNat = n + 1 := ⟨(cdiv h.d h.th - fdiv h.b h.th).toNat - 1, by omega⟩
      rw [eL, hn, sumGrid hb.1 he.1 he.2 w1.1 w2.1 n (fdiv h.b h.th) (Int.le_refl _) (by omega)]
      have e1 : (fdiv h.b h.th + (n : Int)) * h.th + h.th = cdiv h.d h.th * h.th := by
        have : cdiv h.d h.th = fdiv h.b h.th + n + 1 := by omega
        rw [this, Int.add_mul _ 1, Int.one_mul]
      rw [e1, show min h.d (cdiv h.d h.th * h.th) = h.d by omega, show max h.b (fdiv h.b h.th * h.th) = h.b by omega]
    have ma := prod_b (show 0 ≤ h.c - h.a by omega) (show h.c - h.a ≤ 4096 by omega) (show 0 ≤ h.d - h.b by omega) (show h.d - h.b ≤ 4096 by omega)
    have hsum : sumA (tilesL h.a h.b h.c h.d h.tw h.th) (tilesL h.a h.b h.c h.d h.tw h.th).length = area h.a h.b h.c h.d := by
      rw [(sumL_take (valid_tilesL ..) (by rw [hsum0]; omega) _ (Nat.le_refl _)).1, List.take_length, hsum0, area_e hb.1]
    have hcs : ∀ x, p_ParamsBounds_1 h p h.cs x = true := by
      intro x
      simp only [p_ParamsBounds_1, List.all_eq_true]
      intro c hc
      have c1 := List.all_eq_true.1 hb.2.2.2.2.2.1 c hc
      have c2 := List.all_eq_true.1 hb.2.2.2.2.2.2.2 c hc
      have hv : validR (redH h c) = true := valid_reduce ..
      have vb := valid_b hv
      simp only [okC, Bool.and_eq_true, Bool.not_eq_true'] at c1
      have hne := c1.2
      simp only [emptyR, empty, Bool.or_eq_false_iff, decide_eq_false_iff_not] at hne
      have ha : areaR (redH h c) = _ := area_e hv
      have hp : 1 * 1 ≤ ((redH h c).2.2.1 - (redH h c).1) * ((redH h c).2.2.2 - (redH h c).2.1) := Int.mul_le_mul (by omega) (by omega) (by omega) (by omega)
      simp only [smC, decide_eq_true_eq] at c2
      simp only [goodC, Bool.and_eq_true, decide_eq_true_eq]
      omega
    have k0 : k_ParamsBounds_0 h p (tilesL h.a h.b h.c h.d h.tw h.th) 0 ((tilesL h.a h.b h.c h.d h.tw h.th).length : Int) 0 = true := by
      simp only [k_ParamsBounds_0, tilesL_sm, decide_true, Bool.and_self]
    have k1 : ∀ x, k_ParamsBounds_1 h p h.cs x (h.cs.length : Int) 0 = true := by
      intro x
      simp only [k_ParamsBounds_1, hs, decide_true, Bool.and_self]
    have k2 : k_ParamsBounds_2 p (p.st.length : Int) 0 = true := by
      simp only [k_ParamsBounds_2, hs, decide_true, Bool.and_self]
    have hw : (decide (h.tw ≤ 4096) && decide (h.th ≤ 4096)) = true := by
      simp only [Bool.and_eq_true, decide_eq_true_eq]; omega
    have hg' : (List.range (tilesL h.a h.b h.c h.d h.tw h.th).length).all (fun k => goodT ⟨h.a, h.b, h.c, h.d, h.tw, h.th, h.cs⟩ (gR (tilesL h.a h.b h.c h.d h.tw h.th) k)) = true := hgood
    rw [hh, if_neg (by decide), if_pos hw, decide_eq_false (show ¬ ((tilesL h.a h.b h.c h.d h.tw h.th).length : Int) < 1 by omega), decide_eq_false (show ¬ ((tilesL h.a h.b h.c h.d h.tw h.th).length : Int) > 1024 by omega), k0, hg', k1, hcs, hsum]
    simp only [bne_self_eq_false, Bool.false_eq_true, if_false, if_true]
    by_cases hck : checkA h p = 0
    · have hn : nums p = true := by
        unfold checkA at hck
        rw [if_neg (by rw [hh]; decide)] at hck
        split at hck
        · cases hck
        · split at hck
          · cases hck
          · rename_i hx
            simp only [Bool.not_eq_true', Bool.not_eq_false, Bool.and_eq_true] at hx
            exact hx.1
      have hp2 : p_ParamsBounds_2 p = true := good_planes hn
      simp only [hck, k2, hp2, bne_self_eq_false, Bool.false_eq_true, if_false, if_true]
    · have : (checkA h p != 0) = true := by simp [hck]
      rw [this]; rfl
theorem s_ParamsBounds : SoundFun Try.prog 6 G_ParamsBounds := by
  refine fun_ok (tab := t_ParamsBounds) (ann := annOf []) (lt := l_ParamsBounds) (tab_cons s_awake (tab_cons s_params_Header (tab_cons s_few_ (tab_cons s_params_Check (tab_cons s_params_Planes (tab_cons s_rect_Cells (tab_cons s_rect_Empty (tab_cons s_rect_Contains (tab_cons s_rect_Area (tab_cons s_rect_Reduce tab_nil)))))))))) (by kernel_rfl) (fn := Try.f6) (by kernel_rfl) (by decide) (c := bodyOf Try.f6) (by kernel_rfl) (by
    intro m b hb
    have hb' : b ∈ loopsOf (bodyOf Try.f6) := hb
    rw [o_ParamsBounds] at hb'
    simp only [List.mem_cons, List.not_mem_nil, or_false] at hb'
    rcases hb' with rfl | rfl | rfl
    · exact loop_ok (key := 8) (by kernel_rfl) rfl r_ParamsBounds_0 z_ParamsBounds_0 m
    · exact loop_ok (key := 15) (by kernel_rfl) rfl r_ParamsBounds_1 z_ParamsBounds_1 m
    · exact loop_ok (key := 26) (by kernel_rfl) rfl r_ParamsBounds_2 z_ParamsBounds_2 m
    ) ?_
  intro args lent o y0'
  unfold G_ParamsBounds at y0'
  obtain ⟨q', args, rfl, y1'⟩ := pA_s y0'
  obtain ⟨h, rfl, y2'⟩ := rdHd_s y1'
  obtain ⟨q', args, rfl, y3'⟩ := pA_s y2'
  obtain ⟨p, rfl, y4'⟩ := rdPm_s y3'
  obtain ⟨rfl, y5'⟩ := pE_s y4'
  obtain ⟨rfl, y6'⟩ := nE_s y5'
  have yy' := y6'
  unfold H_ParamsBounds at yy'
  obtain ⟨hok, rfl⟩ := Prod.mk.inj (Option.some.inj yy')
  exact ⟨20, q_ParamsBounds _ _ hok⟩
end Go.Rx.Ch23
