/- The summaries of these functions are sound. -/
import Derived.Test.YtcdmkbpmgeeghaaRE1
import Derived.Test.YtcdmkbpmgeeghaaRS2
import Derived.Test.YtcdmkbpmgeeghaaRE2
set_option linter.unnecessarySimpa false
set_option linter.unusedVariables false
set_option linter.unusedSimpArgs false
set_option linter.unusedVariables false
set_option linter.unusedSimpArgs false
set_option maxRecDepth 100000
set_option maxHeartbeats 40000000
open Go Go.Rx Go.Proofs
namespace Go.Rx.Ch06
theorem pos_inj {g x x' y j : Nat} (hx : x < g) (hx' : x' < g) (h : y * g + x' = j * g + x) : y = j ∧ x' = x := by
  have e1 : (y * g + x') / g = y := by rw [Nat.add_comm, Nat.add_mul_div_right _ _ (by omega), Nat.div_eq_of_lt hx', Nat.zero_add]
  have e2 : (j * g + x) / g = j := by rw [Nat.add_comm, Nat.add_mul_div_right _ _ (by omega), Nat.div_eq_of_lt hx, Nat.zero_add]
  have : y = j := by rw [← e1, h, e2]
  subst this
  exact ⟨rfl, by omega⟩
theorem pos_lt {g n x y : Nat} (hx : x < g) (hy : y < n) : y * g + x < n * g := by
  have : (y + 1) * g ≤ n * g := Nat.mul_le_mul_right _ (by omega)
  rw [Nat.add_mul, Nat.one_mul] at this
  omega
theorem mat_ext {l m : List Int} {n g : Nat} (h1 : l.length = n * g) (h2 : m.length = n * g) (h : ∀ y, y < n → ∀ x, x < g → gI l (y * g + x) = gI m (y * g + x)) : l = m := by
  apply List.ext_getElem (by rw [h1, h2])
  intro i hi hj
  by_cases hg : g = 0
  · subst hg; rw [Nat.mul_zero] at h1; omega
  have e : i / g * g + i % g = i := Nat.div_add_mod' i g
  have hy : i / g < n := Nat.div_lt_of_lt_mul (by rw [Nat.mul_comm]; omega)
  have := h (i / g) hy (i % g) (Nat.mod_lt _ (by omega))
  rw [e] at this
  simpa [gI, List.getD_eq_getElem?_getD, hi, hj] using this
theorem gI_set {l : List Int} {i q : Nat} {v : Int} (hi : i < l.length) : gI (l.set i v) q = if q = i then v else gI l q := by
  rw [gI_rd, gI_rd]; exact rd_set l i q v hi
theorem setT_gI {l m : List Int} {n g x x' : Nat} (hl : l.length = n * g) (hx : x < g) (hx' : x' < g) (y : Nat) : ∀ j, j ≤ n → gI (setT l g x m j) (y * g + x') = if x' = x ∧ y < j then gI m y else gI l (y * g + x')
  | 0, _ => by simp [setT]
  | j + 1, hj => by
    have ih := setT_gI (m := m) hl hx hx' y j (by omega)
    have hp := pos_lt (g := g) hx (show j < n by omega)
    unfold setT
    rw [gI_set (by rw [setT_len, hl]; exact hp), ih]
    by_cases h : y * g + x' = j * g + x
    · obtain ⟨rfl, rfl⟩ := pos_inj hx hx' h
      simp
    · rw [if_neg h]
      by_cases h1 : x' = x
      · subst h1
        have : y ≠ j := fun e => h (by rw [e])
        by_cases h2 : y < j
        · rw [if_pos ⟨rfl, h2⟩, if_pos ⟨rfl, by omega⟩]
        · rw [if_neg (fun e => h2 e.2), if_neg (fun e => h2 (by omega))]
      · rw [if_neg (fun e => h1 e.1), if_neg (fun e => h1 e.1)]
theorem setCs_gI {l : List Int} {n g x' : Nat} {f : Nat → List Int} (hl : l.length = n * g) (hf : ∀ x, x < g → (f x).length = n) (hx' : x' < g) {y : Nat} (hy : y < n) : ∀ j, j ≤ g → gI (setCs l g f j) (y * g + x') = if x' < j then gI (f x') y else gI l (y * g + x')
  | 0, _ => by simp [setCs]
  | j + 1, hj => by
    have ih := setCs_gI hl hf hx' hy j (by omega)
    have hl' := setCs_len l g f j
    unfold setCs setC
    rw [setT_gI (n := n) (by rw [hl', hl]) (show j < g by omega) hx' y _ (by rw [hf j (by omega)]; omega), ih, hf j (by omega)]
    by_cases h : x' = j
    · subst h
      rw [if_pos ⟨rfl, hy⟩, if_pos (by omega)]
    · rw [if_neg (fun e => h e.1)]
      by_cases h1 : x' < j
      · rw [if_pos h1, if_pos (by omega)]
      · rw [if_neg h1, if_neg (by omega)]
theorem matC_len (n g : Nat) (f : Nat → List Int) : (matC n g f).length = n * g := by
  unfold matC
  simp [List.length_flatMap, Nat.mul_comm, List.map_const', List.sum_replicate_nat]
theorem matC_succ (n g : Nat) (f : Nat → List Int) : matC (n + 1) g f = matC n g f ++ (List.range g).map fun x => gI (f x) n := by
  unfold matC
  rw [List.range_succ, List.flatMap_append]
  simp
theorem gI_append_l {l m : List Int} {i : Nat} (h : i < l.length) : gI (l ++ m) i = gI l i := by
  simp [gI, List.getD_eq_getElem?_getD, List.getElem?_append_left h]
theorem gI_append_r {l m : List Int} {i : Nat} : gI (l ++ m) (l.length + i) = gI m i := by
  simp [gI, List.getD_eq_getElem?_getD, List.getElem?_append_right]
theorem matC_gI {g : Nat} {f : Nat → List Int} {x y : Nat} (hx : x < g) : ∀ n, y < n → gI (matC n g f) (y * g + x) = gI (f x) y
  | n + 1, hy => by
    rw [matC_succ]
    by_cases h : y < n
    · rw [gI_append_l (by rw [matC_len]; exact pos_lt hx h)]
      exact matC_gI hx n h
    · have : y = n := by omega
      subst this
      have e := gI_append_r (l := matC y g f) (m := (List.range g).map fun x => gI (f x) y) (i := x)
      rw [matC_len] at e
      rw [e]
      simp [gI, List.getD_eq_getElem?_getD, hx]
theorem setCs_mat {l : List Int} {n g : Nat} {f : Nat → List Int} (hl : l.length = n * g) (hf : ∀ x, x < g → (f x).length = n) : setCs l g f g = matC n g f :=
  mat_ext (by rw [setCs_len, hl]) (matC_len ..) fun y hy x hx => by
    rw [setCs_gI hl hf hx hy g (Nat.le_refl _), if_pos hx, matC_gI hx n hy]
theorem catR_len {f : Nat → List Int} {g : Nat} : ∀ n, (∀ y, y < n → (f y).length = g) → (catR f n).length = n * g
  | 0, _ => by simp [catR]
  | n + 1, h => by
    simp only [catR, List.length_append]
    rw [catR_len n (fun y hy => h y (by omega)), h n (by omega), Nat.add_mul, Nat.one_mul]
theorem rowAt_len {l : List Int} {g y n : Nat} (hl : l.length = n * g) (hy : y < n) : (rowAt l g y).length = g := by
  have : (y + 1) * g ≤ n * g := Nat.mul_le_mul_right _ (by omega)
  rw [Nat.add_mul, Nat.one_mul] at this
  simp [rowAt]; omega
theorem fit_cat {b : Int} {f : Nat → List Int} : ∀ n, (∀ y, y < n → fit b (f y)) → fit b (catR f n)
  | 0, _ => fun x hx => by simp [catR] at hx
  | n + 1, h => fun x hx => by
    simp only [catR, List.mem_append] at hx
    rcases hx with hx | hx
    · exact fit_cat n (fun y hy => h y (by omega)) x hx
    · exact h n (by omega) x hx
theorem fit_row {b : Int} {l : List Int} (h : fit b l) (g y : Nat) : fit b (rowAt l g y) := fun x hx => h x (List.mem_of_mem_drop (List.mem_of_mem_take hx))
theorem valid_i {a b c d : Int} (h : 0 ≤ a ∧ a ≤ c ∧ c ≤ 4096 ∧ 0 ≤ b ∧ b ≤ d ∧ d ≤ 4096) : valid a b c d = true := by
  simp only [valid, Bool.and_eq_true, decide_eq_true_eq, and_assoc]
  exact h
theorem valid_bnd {a b c d o : Int} (h0 : 0 ≤ o) (h1 : o ≤ 3) : valid (bnd a b c d o).1 (bnd a b c d o).2.1 (bnd a b c d o).2.2.1 (bnd a b c d o).2.2.2 = true := by
  unfold bnd
  split
  · rename_i h
    have hb := valid_b h
    exact valid_i (by simp only; omega)
  · rfl
theorem bnd_v {a b c d : Int} (h : valid a b c d = true) : bnd a b c d 0 = ((a + 1) / 2, (b + 1) / 2, (c + 1) / 2, (d + 1) / 2) ∧ bnd a b c d 1 = (a / 2, (b + 1) / 2, c / 2, (d + 1) / 2) ∧ bnd a b c d 2 = ((a + 1) / 2, b / 2, (c + 1) / 2, d / 2) ∧ bnd a b c d 3 = (a / 2, b / 2, c / 2, d / 2) := by
  simp [bnd, h]
theorem toNat_area {p q e f : Int} (h : valid p e q f = true) : (area p e q f).toNat = (f - e).toNat * (q - p).toNat := by
  have ha := area_v h
  have hb := valid_b h
  have h1 : ((f - e).toNat : Int) = f - e := Int.toNat_of_nonneg (by omega)
  have h2 : ((q - p).toNat : Int) = q - p := Int.toNat_of_nonneg (by omega)
  have h3 : (((f - e).toNat * (q - p).toNat : Nat) : Int) = (q - p) * (f - e) := by rw [Int.natCast_mul, h1, h2, Int.mul_comm]
  omega
theorem colsLo_mat {h : List Int} {g n m : Nat} {s k ar : Int} (hk : inr 1 3 k = true) (hs : inr 0 4096 s = true) (hn : n ≤ 4096) (hf : fit 281474976710656 h) (hm : (m : Int) = cev s n) (ha : ar.toNat = m * g) : colsLo (zer ar) h g n s k = matC m g (cLo h g n s k) :=
  setCs_mat (by rw [zer, List.length_replicate, ha]) fun x hx => by
    have := (fw_good (l := colOf h g x n) hk hs (by rw [colOf_len]; exact hn) (fit_col (by omega) hf _ _ _)).2.1
    rw [colOf_len] at this
    unfold cLo; omega
theorem colsHi_mat {h : List Int} {g n m : Nat} {s k ar : Int} (hk : inr 1 3 k = true) (hs : inr 0 4096 s = true) (hn : n ≤ 4096) (hf : fit 281474976710656 h) (hm : (m : Int) = n - cev s n) (ha : ar.toNat = m * g) : colsHi (zer ar) h g n s k = matC m g (cHi h g n s k) :=
  setCs_mat (by rw [zer, List.length_replicate, ha]) fun x hx => by
    have := (fw_good (l := colOf h g x n) hk hs (by rw [colOf_len]; exact hn) (fit_col (by omega) hf _ _ _)).2.2
    rw [colOf_len] at this
    unfold cHi; omega
theorem fw_b {l : List Int} {s k : Int} (hk : inr 1 3 k = true) (hs : inr 0 4096 s = true) (hn : l.length ≤ 4096) (hf : fit 35184372088832 l) : fit 281474976710656 (fw l s k).1 ∧ fit 281474976710656 (fw l s k).2.1 := by
  have hk' := inr_b hk
  have h1 := fz_low (s := s) hk' hf (by omega)
  have h2 := lb_ge (b := 35184372088832) (by omega) hk'
  have h3 := hb_ge (b := 35184372088832) (by omega) hk'
  rw [fw_ok hk' (inr_b hs) hn (fit_mono hf (by omega))]
  exact ⟨fit_mono h1.1 (by omega), fit_mono h1.2 (by omega)⟩
theorem half_ok {a b c d k : Int} {l : List Int} (hv : plV a b c d l = true) (hk : inr 1 3 k = true) (hf : fit 35184372088832 l) : ((sLo a b c d k l).length : Int) = cev a (c - a) * (d - b) ∧ ((sHi a b c d k l).length : Int) = ((c - a) - cev a (c - a)) * (d - b) ∧ fit 281474976710656 (sLo a b c d k l) ∧ fit 281474976710656 (sHi a b c d k l) := by
  have pb := plV_b hv
  have hf' : fit 281474976710656 l := fit_mono hf (by omega)
  obtain ⟨w', hw⟩ : ∃ w' : Nat, c - a = w' := ⟨(c - a).toNat, by omega⟩
  obtain ⟨n', hn⟩ : ∃ n' : Nat, d - b = n' := ⟨(d - b).toNat, by omega⟩
  have e5 : (c - a).toNat = w' := by omega
  have e6 : (d - b).toNat = n' := by omega
  have hll : l.length = n' * w' := by
    have := pb.2.2.1
    rw [hw, hn] at this
    rw [Nat.mul_comm]; exact_mod_cast this
  have ha : inr 0 4096 a = true := inr_t (by omega) (by omega)
  have ce := cev_bd (s := a) (n := (w' : Int)) (by omega)
  have hg := fun j (hj : j < n') => fw_good (l := rowAt l w' j) hk ha (by rw [rowAt_len hll hj]; omega) (fit_row hf' _ _)
  have hq := fun j (hj : j < n') => fw_b (l := rowAt l w' j) hk ha (by rw [rowAt_len hll hj]; omega) (fit_row hf _ _)
  have hlo := catR_len (f := rLo l w' a k) (g := (cev a w').toNat) n' (fun q hq => by have := (hg q (by omega)).2.1; rw [rowAt_len hll (by omega)] at this; unfold rLo; omega)
  have hhi := catR_len (f := rHi l w' a k) (g := (w' - cev a w').toNat) n' (fun q hq => by have := (hg q (by omega)).2.2; rw [rowAt_len hll (by omega)] at this; unfold rHi; omega)
  unfold sLo sHi
  rw [e5, e6, hlo, hhi, hw, hn, Int.natCast_mul, Int.natCast_mul, Int.toNat_of_nonneg (by omega), Int.toNat_of_nonneg (by omega), Int.mul_comm, Int.mul_comm (n' : Int)]
  exact ⟨rfl, rfl, fit_cat n' fun y hy => (hq y hy).1, fit_cat n' fun y hy => (hq y hy).2⟩
theorem spOk_i {p q b d k : Int} {h t0 t1 : List Int} (hv : 0 ≤ p ∧ p ≤ q ∧ q ≤ 4096 ∧ 0 ≤ b ∧ b ≤ d ∧ d ≤ 4096) (hk : inr 1 3 k = true) (hl : (h.length : Int) = (q - p) * (d - b)) (ha : (q - p) * (d - b) ≤ 1048576) (hf : fit 281474976710656 h) (l0 : (t0.length : Int) = (q - p) * cev b (d - b)) (l1 : (t1.length : Int) = (q - p) * ((d - b) - cev b (d - b))) : spOk p b q d b k p q p q h t0 t1 = true := by
  have hv' : valid p b q d = true := valid_i (by omega)
  have ar := area_v hv'
  simp only [spOk, plV, hv', hk, inr_t (a := 0) (b := 4096) (x := b) (by omega) (by omega), fit_fitB hf, l0, l1, decide_true, Bool.and_true, Bool.true_and, Bool.and_eq_true, decide_eq_true_eq]
  omega
theorem r_dwt_Split_1 : RoundOk Try.prog t_dwt_Split (annOf []) l_dwt_Split Out 20 0 121 [2, 3, 4, 6, 7, 8, 9, 11] (kxOf [3, 4, 6, 7, 8, 9] [4, 5]) (loopOf Try.f34 1) T_dwt_Split_1 := by
  intro vs bl Kc r h
  unfold T_dwt_Split_1 at h
  obtain ⟨t, y0', h'⟩ := getD_run h
  obtain ⟨c', vs, rfl, y1'⟩ := pO_s y0'
  obtain ⟨rfl, y2'⟩ := kP_s y1'
  obtain ⟨c', vs, rfl, y3'⟩ := pO_s y2'
  obtain ⟨rfl, y4'⟩ := kP_s y3'
  obtain ⟨c', vs, rfl, y5'⟩ := pO_s y4'
  obtain ⟨rfl, y6'⟩ := kP_s y5'
  obtain ⟨c', vs, rfl, y7'⟩ := pO_s y6'
  obtain ⟨rfl, y8'⟩ := kP_s y7'
  obtain ⟨c', vs, rfl, y9'⟩ := pO_s y8'
  obtain ⟨rfl, y10'⟩ := kP_s y9'
  obtain ⟨c', vs, rfl, y11'⟩ := pO_s y10'
  obtain ⟨rfl, y12'⟩ := kP_s y11'
  obtain ⟨c', vs, rfl, y13'⟩ := pO_s y12'
  obtain ⟨rfl, y14'⟩ := kP_s y13'
  obtain ⟨c', vs, rfl, y15'⟩ := pO_s y14'
  obtain ⟨y, rfl, y16'⟩ := kI_s y15'
  obtain ⟨rfl, y17'⟩ := pE_s y16'
  obtain ⟨q', bl, rfl, y18'⟩ := bB_s y17'
  obtain ⟨c', q', rfl, y19'⟩ := tC_s y18'
  obtain ⟨a, rfl, y20'⟩ := kI_s y19'
  obtain ⟨c', q', rfl, y21'⟩ := tC_s y20'
  obtain ⟨b, rfl, y22'⟩ := kI_s y21'
  obtain ⟨c', q', rfl, y23'⟩ := tC_s y22'
  obtain ⟨c, rfl, y24'⟩ := kI_s y23'
  obtain ⟨c', q', rfl, y25'⟩ := tC_s y24'
  obtain ⟨d, rfl, y26'⟩ := kI_s y25'
  obtain ⟨c', q', rfl, y27'⟩ := tC_s y26'
  obtain ⟨l, rfl, y28'⟩ := kLI_s y27'
  obtain ⟨rfl, y29'⟩ := tE_s y28'
  obtain ⟨q', bl, rfl, y30'⟩ := bB_s y29'
  obtain ⟨c', q', rfl, y31'⟩ := tC_s y30'
  obtain ⟨kk, rfl, y32'⟩ := kI_s y31'
  obtain ⟨rfl, y33'⟩ := tE_s y32'
  obtain ⟨q', bl, rfl, y34'⟩ := bB_s y33'
  obtain ⟨ua0, ub0, uc0, ud0, ua1, ub1, uc1, ud1, ua2, ub2, uc2, ud2, ua3, ub3, uc3, ud3, rfl, y35'⟩ := rd4P_s y34'
  obtain ⟨q', bl, rfl, y36'⟩ := bB_s y35'
  obtain ⟨va0, vb0, vc0, vd0, va1, vb1, vc1, vd1, va2, vb2, vc2, vd2, va3, vb3, vc3, vd3, rfl, y37'⟩ := rd4P_s y36'
  obtain ⟨q', bl, rfl, y38'⟩ := bB_s y37'
  obtain ⟨c', q', rfl, y39'⟩ := tC_s y38'
  obtain ⟨ra, rfl, y40'⟩ := kI_s y39'
  obtain ⟨c', q', rfl, y41'⟩ := tC_s y40'
  obtain ⟨rb, rfl, y42'⟩ := kI_s y41'
  obtain ⟨c', q', rfl, y43'⟩ := tC_s y42'
  obtain ⟨rc, rfl, y44'⟩ := kI_s y43'
  obtain ⟨c', q', rfl, y45'⟩ := tC_s y44'
  obtain ⟨rd, rfl, y46'⟩ := kI_s y45'
  obtain ⟨rfl, y47'⟩ := tE_s y46'
  obtain ⟨q', bl, rfl, y48'⟩ := bB_s y47'
  obtain ⟨a0, b0, c0, d0, a1, b1, c1, d1, a2, b2, c2, d2, a3, b3, c3, d3, rfl, y49'⟩ := rd4R_s y48'
  obtain ⟨q', bl, rfl, y50'⟩ := bB_s y49'
  obtain ⟨p0, e0, q0, f0, p1, e1, q1, f1, rfl, y51'⟩ := rd2P_s y50'
  obtain ⟨y0, bl, rfl, y52'⟩ := bAI_s y51'
  obtain ⟨y1, bl, rfl, y53'⟩ := bAI_s y52'
  obtain ⟨y2, bl, rfl, y54'⟩ := bAI_s y53'
  obtain ⟨y3, bl, rfl, y55'⟩ := bAI_s y54'
  obtain ⟨y4, bl, rfl, y56'⟩ := bAI_s y55'
  obtain ⟨y5, bl, rfl, y57'⟩ := bAI_s y56'
  obtain ⟨y6, bl, rfl, y58'⟩ := bAI_s y57'
  obtain ⟨y7, bl, rfl, y59'⟩ := bAI_s y58'
  obtain ⟨h0, bl, rfl, y60'⟩ := bAI_s y59'
  obtain ⟨h1, bl, rfl, y61'⟩ := bAI_s y60'
  obtain ⟨rfl, y62'⟩ := bE_s y61'
  have yy' := y62'
  cases yy'
  exact (b_dwt_Split_1 ..).trans ((congrArg (LT.runc · Kc) (tu_dwt_Split_1 ..)).trans h')
theorem r_dwt_Split_3 : RoundOk Try.prog t_dwt_Split (annOf []) l_dwt_Split Out 20 0 121 [4, 6, 18, 109] (kxOf [4, 6] [4, 5]) (loopOf Try.f34 3) T_dwt_Split_3 := by
  intro vs bl Kc r h
  unfold T_dwt_Split_3 at h
  obtain ⟨t, y0', h'⟩ := getD_run h
  obtain ⟨c', vs, rfl, y1'⟩ := pO_s y0'
  obtain ⟨rfl, y2'⟩ := kP_s y1'
  obtain ⟨c', vs, rfl, y3'⟩ := pO_s y2'
  obtain ⟨rfl, y4'⟩ := kP_s y3'
  obtain ⟨c', vs, rfl, y5'⟩ := pO_s y4'
  obtain ⟨rfl, y6'⟩ := kF_s y5'
  obtain ⟨c', vs, rfl, y7'⟩ := pO_s y6'
  obtain ⟨ii, rfl, y8'⟩ := kI_s y7'
  obtain ⟨rfl, y9'⟩ := pE_s y8'
  obtain ⟨q', bl, rfl, y10'⟩ := bB_s y9'
  obtain ⟨ua0, ub0, uc0, ud0, ua1, ub1, uc1, ud1, ua2, ub2, uc2, ud2, ua3, ub3, uc3, ud3, rfl, y11'⟩ := rd4P_s y10'
  obtain ⟨q', bl, rfl, y12'⟩ := bB_s y11'
  obtain ⟨va0, vb0, vc0, vd0, va1, vb1, vc1, vd1, va2, vb2, vc2, vd2, va3, vb3, vc3, vd3, rfl, y13'⟩ := rd4P_s y12'
  obtain ⟨q', bl, rfl, y14'⟩ := bB_s y13'
  obtain ⟨p0, e0, q0, f0, p1, e1, q1, f1, rfl, y15'⟩ := rd2P_s y14'
  obtain ⟨q', bl, rfl, y16'⟩ := bB_s y15'
  obtain ⟨c', q', rfl, y17'⟩ := tC_s y16'
  obtain ⟨a, rfl, y18'⟩ := kI_s y17'
  obtain ⟨c', q', rfl, y19'⟩ := tC_s y18'
  obtain ⟨b, rfl, y20'⟩ := kI_s y19'
  obtain ⟨c', q', rfl, y21'⟩ := tC_s y20'
  obtain ⟨c, rfl, y22'⟩ := kI_s y21'
  obtain ⟨c', q', rfl, y23'⟩ := tC_s y22'
  obtain ⟨d, rfl, y24'⟩ := kI_s y23'
  obtain ⟨rfl, y25'⟩ := tE_s y24'
  obtain ⟨q', bl, rfl, y26'⟩ := bB_s y25'
  obtain ⟨c', q', rfl, y27'⟩ := tC_s y26'
  obtain ⟨kk, rfl, y28'⟩ := kI_s y27'
  obtain ⟨rfl, y29'⟩ := tE_s y28'
  obtain ⟨y0, bl, rfl, y30'⟩ := bAI_s y29'
  obtain ⟨y1, bl, rfl, y31'⟩ := bAI_s y30'
  obtain ⟨y2, bl, rfl, y32'⟩ := bAI_s y31'
  obtain ⟨y3, bl, rfl, y33'⟩ := bAI_s y32'
  obtain ⟨y4, bl, rfl, y34'⟩ := bAI_s y33'
  obtain ⟨y5, bl, rfl, y35'⟩ := bAI_s y34'
  obtain ⟨y6, bl, rfl, y36'⟩ := bAI_s y35'
  obtain ⟨y7, bl, rfl, y37'⟩ := bAI_s y36'
  obtain ⟨h0, bl, rfl, y38'⟩ := bAI_s y37'
  obtain ⟨h1, bl, rfl, y39'⟩ := bAI_s y38'
  obtain ⟨rfl, y40'⟩ := bE_s y39'
  have yy' := y40'
  cases yy'
  by_cases w0' : ii = 0
  · subst w0'; exact (b_dwt_Split_3_0 ..).trans ((congrArg (LT.runc · Kc) (tu_dwt_Split_3_0 ..)).trans h')
  by_cases w1' : ii = 1
  · subst w1'; exact (b_dwt_Split_3_1 ..).trans ((congrArg (LT.runc · Kc) (tu_dwt_Split_3_1 ..)).trans h')
  by_cases w2' : ii = 2
  · subst w2'; exact (b_dwt_Split_3_2 ..).trans ((congrArg (LT.runc · Kc) (tu_dwt_Split_3_2 ..)).trans h')
  rw [hds_no (by intro j hj; simp only [List.length_cons, List.length_nil] at hj; omega)] at h'
  cases h'
theorem o_dwt_Split : loopsOf (bodyOf Try.f34) = [loopOf Try.f34 0, loopOf Try.f34 1, loopOf Try.f34 2, loopOf Try.f34 3] := by kernel_rfl
theorem zz_dwt_Split_1 (a b c d kk ua0 ub0 uc0 ud0 ua1 ub1 uc1 ud1 ua2 ub2 uc2 ud2 ua3 ub3 uc3 ud3 va0 vb0 vc0 vd0 va1 vb1 vc1 vd1 va2 vb2 vc2 vd2 va3 vb3 vc3 vd3 ra rb rc rd a0 b0 c0 d0 a1 b1 c1 d1 a2 b2 c2 d2 a3 b3 c3 d3 p0 e0 q0 f0 p1 e1 q1 f1 y : Int) (l y0 y1 y2 y3 y4 y5 y6 y7 h0 h1 : List Int) (hk : k_dwt_Split_1 a b c d kk ua0 ub0 uc0 ud0 ua1 ub1 uc1 ud1 ua2 ub2 uc2 ud2 ua3 ub3 uc3 ud3 va0 vb0 vc0 vd0 va1 vb1 vc1 vd1 va2 vb2 vc2 vd2 va3 vb3 vc3 vd3 ra rb rc rd a0 b0 c0 d0 a1 b1 c1 d1 a2 b2 c2 d2 a3 b3 c3 d3 p0 e0 q0 f0 p1 e1 q1 f1 y l y0 y1 y2 y3 y4 y5 y6 y7 h0 h1 = true) : ∃ k, ∀ (K : Ex → List V → List (Option Blk) → Option Out) r, (c_dwt_Split_1 a b c d kk ua0 ub0 uc0 ud0 ua1 ub1 uc1 ud1 ua2 ub2 uc2 ud2 ua3 ub3 uc3 ud3 va0 vb0 vc0 vd0 va1 vb1 vc1 vd1 va2 vb2 vc2 vd2 va3 vb3 vc3 vd3 ra rb rc rd a0 b0 c0 d0 a1 b1 c1 d1 a2 b2 c2 d2 a3 b3 c3 d3 p0 e0 q0 f0 p1 e1 q1 f1 y l y0 y1 y2 y3 y4 y5 y6 y7 h0 h1).run K = some r → (iter T_dwt_Split_1 k [.one (.ptr 0 0), .one (.ptr 1 0), .one (.ptr 2 0), .one (.ptr 3 0), .one (.ptr 4 0), .one (.ptr 5 0), .one (.ptr 6 0), .one (.int .i64 y)] [some (.box [.int .i64 a, .int .i64 b, .int .i64 c, .int .i64 d, .lst (.int .i64) l]), some (.box [.int .i64 kk]), some (.box [.int .i64 ua0, .int .i64 ub0, .int .i64 uc0, .int .i64 ud0, .row 7, .int .i64 ua1, .int .i64 ub1, .int .i64 uc1, .int .i64 ud1, .row 8, .int .i64 ua2, .int .i64 ub2, .int .i64 uc2, .int .i64 ud2, .row 9, .int .i64 ua3, .int .i64 ub3, .int .i64 uc3, .int .i64 ud3, .row 10]), some (.box [.int .i64 va0, .int .i64 vb0, .int .i64 vc0, .int .i64 vd0, .row 11, .int .i64 va1, .int .i64 vb1, .int .i64 vc1, .int .i64 vd1, .row 12, .int .i64 va2, .int .i64 vb2, .int .i64 vc2, .int .i64 vd2, .row 13, .int .i64 va3, .int .i64 vb3, .int .i64 vc3, .int .i64 vd3, .row 14]), some (.box [.int .i64 ra, .int .i64 rb, .int .i64 rc, .int .i64 rd]), some (.box [.int .i64 a0, .int .i64 b0, .int .i64 c0, .int .i64 d0, .int .i64 a1, .int .i64 b1, .int .i64 c1, .int .i64 d1, .int .i64 a2, .int .i64 b2, .int .i64 c2, .int .i64 d2, .int .i64 a3, .int .i64 b3, .int .i64 c3, .int .i64 d3]), some (.box [.int .i64 p0, .int .i64 e0, .int .i64 q0, .int .i64 f0, .row 15, .int .i64 p1, .int .i64 e1, .int .i64 q1, .int .i64 f1, .row 16]), some (.arr 3 (.int .i64) y0), some (.arr 3 (.int .i64) y1), some (.arr 3 (.int .i64) y2), some (.arr 3 (.int .i64) y3), some (.arr 3 (.int .i64) y4), some (.arr 3 (.int .i64) y5), some (.arr 3 (.int .i64) y6), some (.arr 3 (.int .i64) y7), some (.arr 3 (.int .i64) h0), some (.arr 3 (.int .i64) h1)]).run K = some r := by
  simp only [k_dwt_Split_1, Bool.and_eq_true, decide_eq_true_eq] at hk
  obtain ⟨⟨⟨⟨⟨⟨⟨rfl, rfl⟩, rfl⟩, hv⟩, z1⟩, z2⟩, rfl⟩, rfl⟩ := hk
  have pb := plV_b hv
  have hf : fit 281474976710656 l := fit_mono (fitB_fit z2) (by omega)
  obtain ⟨w', hw⟩ : ∃ w' : Nat, c - ra = w' := ⟨(c - ra).toNat, by omega⟩
  obtain ⟨n', hn⟩ : ∃ n' : Nat, rd - y = n' := ⟨(rd - y).toNat, by omega⟩
  have e5 : (c - ra).toNat = w' := by omega
  have e6 : (rd - y).toNat = n' := by omega
  have hll : l.length = n' * w' := by
    have := pb.2.2.1
    rw [hw, hn] at this
    rw [Nat.mul_comm]; exact_mod_cast this
  have hg := fun j (hj : j < n') => fw_good (l := rowAt l w' j) z1 (inr_t (a := 0) (b := 4096) (x := ra) (by omega) (by omega)) (by rw [rowAt_len hll hj]; omega) (fit_row hf _ _)
  have ce := cev_bd (s := ra) (n := (w' : Int)) (by omega)
  have hlo := fun j (hj : j ≤ n') => catR_len (f := rLo l w' ra kk) (g := (cev ra w').toNat) j (fun q hq => by have := (hg q (by omega)).2.1; rw [rowAt_len hll (by omega)] at this; unfold rLo; omega)
  have hhi := fun j (hj : j ≤ n') => catR_len (f := rHi l w' ra kk) (g := (w' - cev ra w').toNat) j (fun q hq => by have := (hg q (by omega)).2.2; rw [rowAt_len hll (by omega)] at this; unfold rHi; omega)
  refine Exists.elim (z_fold (T := T_dwt_Split_1) (st := fun j => ([.one (.ptr 0 0), .one (.ptr 1 0), .one (.ptr 2 0), .one (.ptr 3 0), .one (.ptr 4 0), .one (.ptr 5 0), .one (.ptr 6 0), .one (.int .i64 (y + (j : Int)))], [some (.box [.int .i64 ra, .int .i64 y, .int .i64 c, .int .i64 rd, .lst (.int .i64) l]), some (.box [.int .i64 kk]), some (.box [.int .i64 ua0, .int .i64 ub0, .int .i64 uc0, .int .i64 ud0, .row 7, .int .i64 ua1, .int .i64 ub1, .int .i64 uc1, .int .i64 ud1, .row 8, .int .i64 ua2, .int .i64 ub2, .int .i64 uc2, .int .i64 ud2, .row 9, .int .i64 ua3, .int .i64 ub3, .int .i64 uc3, .int .i64 ud3, .row 10]), some (.box [.int .i64 va0, .int .i64 vb0, .int .i64 vc0, .int .i64 vd0, .row 11, .int .i64 va1, .int .i64 vb1, .int .i64 vc1, .int .i64 vd1, .row 12, .int .i64 va2, .int .i64 vb2, .int .i64 vc2, .int .i64 vd2, .row 13, .int .i64 va3, .int .i64 vb3, .int .i64 vc3, .int .i64 vd3, .row 14]), some (.box [.int .i64 ra, .int .i64 rb, .int .i64 rc, .int .i64 rd]), some (.box [.int .i64 a0, .int .i64 b0, .int .i64 c0, .int .i64 d0, .int .i64 a1, .int .i64 b1, .int .i64 c1, .int .i64 d1, .int .i64 a2, .int .i64 b2, .int .i64 c2, .int .i64 d2, .int .i64 a3, .int .i64 b3, .int .i64 c3, .int .i64 d3]), some (.box [.int .i64 p0, .int .i64 e0, .int .i64 q0, .int .i64 f0, .row 15, .int .i64 p1, .int .i64 e1, .int .i64 q1, .int .i64 f1, .row 16]), some (.arr 3 (.int .i64) y0), some (.arr 3 (.int .i64) y1), some (.arr 3 (.int .i64) y2), some (.arr 3 (.int .i64) y3), some (.arr 3 (.int .i64) y4), some (.arr 3 (.int .i64) y5), some (.arr 3 (.int .i64) y6), some (.arr 3 (.int .i64) y7), some (.arr 3 (.int .i64) (catR (rLo l w' ra kk) j)), some (.arr 3 (.int .i64) (catR (rHi l w' ra kk) j))])) n' (.leaf (.exit 2) [.one (.ptr 0 0), .one (.ptr 1 0), .one (.ptr 2 0), .one (.ptr 3 0), .one (.ptr 4 0), .one (.ptr 5 0)] [some (.box [.int .i64 kk]), some (.box [.int .i64 ua0, .int .i64 ub0, .int .i64 uc0, .int .i64 ud0, .row 6, .int .i64 ua1, .int .i64 ub1, .int .i64 uc1, .int .i64 ud1, .row 7, .int .i64 ua2, .int .i64 ub2, .int .i64 uc2, .int .i64 ud2, .row 8, .int .i64 ua3, .int .i64 ub3, .int .i64 uc3, .int .i64 ud3, .row 9]), some (.box [.int .i64 va0, .int .i64 vb0, .int .i64 vc0, .int .i64 vd0, .row 10, .int .i64 va1, .int .i64 vb1, .int .i64 vc1, .int .i64 vd1, .row 11, .int .i64 va2, .int .i64 vb2, .int .i64 vc2, .int .i64 vd2, .row 12, .int .i64 va3, .int .i64 vb3, .int .i64 vc3, .int .i64 vd3, .row 13]), some (.box [.int .i64 ra, .int .i64 rb, .int .i64 rc, .int .i64 rd]), some (.box [.int .i64 a0, .int .i64 b0, .int .i64 c0, .int .i64 d0, .int .i64 a1, .int .i64 b1, .int .i64 c1, .int .i64 d1, .int .i64 a2, .int .i64 b2, .int .i64 c2, .int .i64 d2, .int .i64 a3, .int .i64 b3, .int .i64 c3, .int .i64 d3]), some (.box [.int .i64 p0, .int .i64 e0, .int .i64 q0, .int .i64 f0, .row 14, .int .i64 p1, .int .i64 e1, .int .i64 q1, .int .i64 f1, .row 15]), some (.arr 3 (.int .i64) y0), some (.arr 3 (.int .i64) y1), some (.arr 3 (.int .i64) y2), some (.arr 3 (.int .i64) y3), some (.arr 3 (.int .i64) y4), some (.arr 3 (.int .i64) y5), some (.arr 3 (.int .i64) y6), some (.arr 3 (.int .i64) y7), some (.arr 3 (.int .i64) (catR (rLo l w' ra kk) n')), some (.arr 3 (.int .i64) (catR (rHi l w' ra kk) n'))]) (fun j hj F K => ?_) (fun F K => ?_)) (fun k hk => ⟨k, fun K r h => ?_⟩)
  · have hg' := hg j hj
    have hl1 := hlo j (by omega)
    have hl2 := hhi j (by omega)
    have hl3 := hlo (j + 1) (by omega)
    have hl4 := hhi (j + 1) (by omega)
    have m1 : (j + 1) * (cev ra w').toNat ≤ 4096 * 4096 := Nat.mul_le_mul (by omega) (by omega)
    have m2 : (j + 1) * (w' - cev ra w').toNat ≤ 4096 * 4096 := Nat.mul_le_mul (by omega) (by omega)
    have hc : plRow ra y c rd l (y + (j : Int)) = rowAt l w' j := by
      unfold plRow rowAt
      rw [if_pos (by simp only [rowOk, hv, Bool.and_eq_true, decide_eq_true_eq, true_and]; omega), e5, show y + (j : Int) - y = (j : Int) by omega, hw, show ((j : Int) * (w' : Int)).toNat = j * w' by rw [← Int.natCast_mul, Int.toNat_natCast]]
    simp only [catR, List.length_append] at hl3 hl4
    simp only [tu_dwt_Split_1, U_dwt_Split_1, LT.next, LT.run, ite2_bool, decide_eq_true_eq, hc]
    rw [if_pos (by omega), if_pos (small_of (by rw [rowAt_len hll hj]; omega)), hg'.1, if_neg (by decide), if_pos (by unfold rLo at hl3 ⊢; omega), if_pos (by unfold rHi at hl4 ⊢; omega), wrap_in (n := y + (j : Int) + 1) (by omega) (by omega), show y + (j : Int) + 1 = y + ((j + 1 : Nat) : Int) by omega]
    rfl
  · simp only [tu_dwt_Split_1, U_dwt_Split_1, LT.next, LT.run, ite2_bool, decide_eq_true_eq]
    rw [if_neg (by omega)]
  · unfold c_dwt_Split_1 sLo sHi at h
    rw [e5, e6] at h
    have hk' := hk K r h
    rw [show y + ((0 : Nat) : Int) = y by simp] at hk'
    exact hk'
theorem z_dwt_Split_1 : ∀ vs bl t, S_dwt_Split_1 vs bl = some (true, t) → ∃ n, ∀ (K : Ex → List V → List (Option Blk) → Option Out) r, t.run K = some r → (iter T_dwt_Split_1 n vs bl).run K = some r := by
  intro vs bl t y0'
  unfold S_dwt_Split_1 at y0'
  obtain ⟨c', vs, rfl, y1'⟩ := pO_s y0'
  obtain ⟨rfl, y2'⟩ := kP_s y1'
  obtain ⟨c', vs, rfl, y3'⟩ := pO_s y2'
  obtain ⟨rfl, y4'⟩ := kP_s y3'
  obtain ⟨c', vs, rfl, y5'⟩ := pO_s y4'
  obtain ⟨rfl, y6'⟩ := kP_s y5'
  obtain ⟨c', vs, rfl, y7'⟩ := pO_s y6'
  obtain ⟨rfl, y8'⟩ := kP_s y7'
  obtain ⟨c', vs, rfl, y9'⟩ := pO_s y8'
  obtain ⟨rfl, y10'⟩ := kP_s y9'
  obtain ⟨c', vs, rfl, y11'⟩ := pO_s y10'
  obtain ⟨rfl, y12'⟩ := kP_s y11'
  obtain ⟨c', vs, rfl, y13'⟩ := pO_s y12'
  obtain ⟨rfl, y14'⟩ := kP_s y13'
  obtain ⟨c', vs, rfl, y15'⟩ := pO_s y14'
  obtain ⟨y, rfl, y16'⟩ := kI_s y15'
  obtain ⟨rfl, y17'⟩ := pE_s y16'
  obtain ⟨q', bl, rfl, y18'⟩ := bB_s y17'
  obtain ⟨c', q', rfl, y19'⟩ := tC_s y18'
  obtain ⟨a, rfl, y20'⟩ := kI_s y19'
  obtain ⟨c', q', rfl, y21'⟩ := tC_s y20'
  obtain ⟨b, rfl, y22'⟩ := kI_s y21'
  obtain ⟨c', q', rfl, y23'⟩ := tC_s y22'
  obtain ⟨c, rfl, y24'⟩ := kI_s y23'
  obtain ⟨c', q', rfl, y25'⟩ := tC_s y24'
  obtain ⟨d, rfl, y26'⟩ := kI_s y25'
  obtain ⟨c', q', rfl, y27'⟩ := tC_s y26'
  obtain ⟨l, rfl, y28'⟩ := kLI_s y27'
  obtain ⟨rfl, y29'⟩ := tE_s y28'
  obtain ⟨q', bl, rfl, y30'⟩ := bB_s y29'
  obtain ⟨c', q', rfl, y31'⟩ := tC_s y30'
  obtain ⟨kk, rfl, y32'⟩ := kI_s y31'
  obtain ⟨rfl, y33'⟩ := tE_s y32'
  obtain ⟨q', bl, rfl, y34'⟩ := bB_s y33'
  obtain ⟨ua0, ub0, uc0, ud0, ua1, ub1, uc1, ud1, ua2, ub2, uc2, ud2, ua3, ub3, uc3, ud3, rfl, y35'⟩ := rd4P_s y34'
  obtain ⟨q', bl, rfl, y36'⟩ := bB_s y35'
  obtain ⟨va0, vb0, vc0, vd0, va1, vb1, vc1, vd1, va2, vb2, vc2, vd2, va3, vb3, vc3, vd3, rfl, y37'⟩ := rd4P_s y36'
  obtain ⟨q', bl, rfl, y38'⟩ := bB_s y37'
  obtain ⟨c', q', rfl, y39'⟩ := tC_s y38'
  obtain ⟨ra, rfl, y40'⟩ := kI_s y39'
  obtain ⟨c', q', rfl, y41'⟩ := tC_s y40'
  obtain ⟨rb, rfl, y42'⟩ := kI_s y41'
  obtain ⟨c', q', rfl, y43'⟩ := tC_s y42'
  obtain ⟨rc, rfl, y44'⟩ := kI_s y43'
  obtain ⟨c', q', rfl, y45'⟩ := tC_s y44'
  obtain ⟨rd, rfl, y46'⟩ := kI_s y45'
  obtain ⟨rfl, y47'⟩ := tE_s y46'
  obtain ⟨q', bl, rfl, y48'⟩ := bB_s y47'
  obtain ⟨a0, b0, c0, d0, a1, b1, c1, d1, a2, b2, c2, d2, a3, b3, c3, d3, rfl, y49'⟩ := rd4R_s y48'
  obtain ⟨q', bl, rfl, y50'⟩ := bB_s y49'
  obtain ⟨p0, e0, q0, f0, p1, e1, q1, f1, rfl, y51'⟩ := rd2P_s y50'
  obtain ⟨y0, bl, rfl, y52'⟩ := bAI_s y51'
  obtain ⟨y1, bl, rfl, y53'⟩ := bAI_s y52'
  obtain ⟨y2, bl, rfl, y54'⟩ := bAI_s y53'
  obtain ⟨y3, bl, rfl, y55'⟩ := bAI_s y54'
  obtain ⟨y4, bl, rfl, y56'⟩ := bAI_s y55'
  obtain ⟨y5, bl, rfl, y57'⟩ := bAI_s y56'
  obtain ⟨y6, bl, rfl, y58'⟩ := bAI_s y57'
  obtain ⟨y7, bl, rfl, y59'⟩ := bAI_s y58'
  obtain ⟨h0, bl, rfl, y60'⟩ := bAI_s y59'
  obtain ⟨h1, bl, rfl, y61'⟩ := bAI_s y60'
  obtain ⟨rfl, y62'⟩ := bE_s y61'
  have yy' := y62'
  obtain ⟨hk, rfl⟩ := Prod.mk.inj (Option.some.inj yy')
  exact zz_dwt_Split_1 _ _ _ _ _ _ _ _ _ _ _ _ _ _ _ _ _ _ _ _ _ _ _ _ _ _ _ _ _ _ _ _ _ _ _ _ _ _ _ _ _ _ _ _ _ _ _ _ _ _ _ _ _ _ _ _ _ _ _ _ _ _ _ _ _ _ _ _ _ _ _ _ _ _ _ _ _ hk
theorem zz_dwt_Split_3 (ua0 ub0 uc0 ud0 ua1 ub1 uc1 ud1 ua2 ub2 uc2 ud2 ua3 ub3 uc3 ud3 va0 vb0 vc0 vd0 va1 vb1 vc1 vd1 va2 vb2 vc2 vd2 va3 vb3 vc3 vd3 p0 e0 q0 f0 p1 e1 q1 f1 a b c d kk ii : Int) (y0 y1 y2 y3 y4 y5 y6 y7 h0 h1 : List Int) (hk : k_dwt_Split_3 ua0 ub0 uc0 ud0 ua1 ub1 uc1 ud1 ua2 ub2 uc2 ud2 ua3 ub3 uc3 ud3 va0 vb0 vc0 vd0 va1 vb1 vc1 vd1 va2 vb2 vc2 vd2 va3 vb3 vc3 vd3 p0 e0 q0 f0 p1 e1 q1 f1 a b c d kk ii y0 y1 y2 y3 y4 y5 y6 y7 h0 h1 = true) : ∃ k, ∀ (K : Ex → List V → List (Option Blk) → Option Out) r, (c_dwt_Split_3 ua0 ub0 uc0 ud0 ua1 ub1 uc1 ud1 ua2 ub2 uc2 ud2 ua3 ub3 uc3 ud3 va0 vb0 vc0 vd0 va1 vb1 vc1 vd1 va2 vb2 vc2 vd2 va3 vb3 vc3 vd3 p0 e0 q0 f0 p1 e1 q1 f1 a b c d kk ii y0 y1 y2 y3 y4 y5 y6 y7 h0 h1).run K = some r → (iter T_dwt_Split_3 k [.one (.ptr 0 0), .one (.ptr 1 0), .one (.fn 70 [2, 3, 4, 1]), .one (.int .i64 ii)] [some (.box [.int .i64 ua0, .int .i64 ub0, .int .i64 uc0, .int .i64 ud0, .row 5, .int .i64 ua1, .int .i64 ub1, .int .i64 uc1, .int .i64 ud1, .row 6, .int .i64 ua2, .int .i64 ub2, .int .i64 uc2, .int .i64 ud2, .row 7, .int .i64 ua3, .int .i64 ub3, .int .i64 uc3, .int .i64 ud3, .row 8]), some (.box [.int .i64 va0, .int .i64 vb0, .int .i64 vc0, .int .i64 vd0, .row 9, .int .i64 va1, .int .i64 vb1, .int .i64 vc1, .int .i64 vd1, .row 10, .int .i64 va2, .int .i64 vb2, .int .i64 vc2, .int .i64 vd2, .row 11, .int .i64 va3, .int .i64 vb3, .int .i64 vc3, .int .i64 vd3, .row 12]), some (.box [.int .i64 p0, .int .i64 e0, .int .i64 q0, .int .i64 f0, .row 13, .int .i64 p1, .int .i64 e1, .int .i64 q1, .int .i64 f1, .row 14]), some (.box [.int .i64 a, .int .i64 b, .int .i64 c, .int .i64 d]), some (.box [.int .i64 kk]), some (.arr 3 (.int .i64) y0), some (.arr 3 (.int .i64) y1), some (.arr 3 (.int .i64) y2), some (.arr 3 (.int .i64) y3), some (.arr 3 (.int .i64) y4), some (.arr 3 (.int .i64) y5), some (.arr 3 (.int .i64) y6), some (.arr 3 (.int .i64) y7), some (.arr 3 (.int .i64) h0), some (.arr 3 (.int .i64) h1)]).run K = some r := by
  simp only [k_dwt_Split_3, Bool.and_eq_true, decide_eq_true_eq] at hk
  obtain ⟨⟨rfl, s0⟩, s1⟩ := hk
  refine ⟨3, fun K r h => ?_⟩
  simp only [iter, tu_dwt_Split_3_0, U_dwt_Split_3_0, LT.next, LT.run, ite2_bool, s0, if_true]
  simp only [iter, tu_dwt_Split_3_1, U_dwt_Split_3_1, LT.next, LT.run, ite2_bool, s1, if_true]
  simp only [iter, tu_dwt_Split_3_2, U_dwt_Split_3_2, LT.next, LT.run, ite2_bool]
  exact h
theorem z_dwt_Split_3 : ∀ vs bl t, S_dwt_Split_3 vs bl = some (true, t) → ∃ n, ∀ (K : Ex → List V → List (Option Blk) → Option Out) r, t.run K = some r → (iter T_dwt_Split_3 n vs bl).run K = some r := by
  intro vs bl t y0'
  unfold S_dwt_Split_3 at y0'
  obtain ⟨c', vs, rfl, y1'⟩ := pO_s y0'
  obtain ⟨rfl, y2'⟩ := kP_s y1'
  obtain ⟨c', vs, rfl, y3'⟩ := pO_s y2'
  obtain ⟨rfl, y4'⟩ := kP_s y3'
  obtain ⟨c', vs, rfl, y5'⟩ := pO_s y4'
  obtain ⟨rfl, y6'⟩ := kF_s y5'
  obtain ⟨c', vs, rfl, y7'⟩ := pO_s y6'
  obtain ⟨ii, rfl, y8'⟩ := kI_s y7'
  obtain ⟨rfl, y9'⟩ := pE_s y8'
  obtain ⟨q', bl, rfl, y10'⟩ := bB_s y9'
  obtain ⟨ua0, ub0, uc0, ud0, ua1, ub1, uc1, ud1, ua2, ub2, uc2, ud2, ua3, ub3, uc3, ud3, rfl, y11'⟩ := rd4P_s y10'
  obtain ⟨q', bl, rfl, y12'⟩ := bB_s y11'
  obtain ⟨va0, vb0, vc0, vd0, va1, vb1, vc1, vd1, va2, vb2, vc2, vd2, va3, vb3, vc3, vd3, rfl, y13'⟩ := rd4P_s y12'
  obtain ⟨q', bl, rfl, y14'⟩ := bB_s y13'
  obtain ⟨p0, e0, q0, f0, p1, e1, q1, f1, rfl, y15'⟩ := rd2P_s y14'
  obtain ⟨q', bl, rfl, y16'⟩ := bB_s y15'
  obtain ⟨c', q', rfl, y17'⟩ := tC_s y16'
  obtain ⟨a, rfl, y18'⟩ := kI_s y17'
  obtain ⟨c', q', rfl, y19'⟩ := tC_s y18'
  obtain ⟨b, rfl, y20'⟩ := kI_s y19'
  obtain ⟨c', q', rfl, y21'⟩ := tC_s y20'
  obtain ⟨c, rfl, y22'⟩ := kI_s y21'
  obtain ⟨c', q', rfl, y23'⟩ := tC_s y22'
  obtain ⟨d, rfl, y24'⟩ := kI_s y23'
  obtain ⟨rfl, y25'⟩ := tE_s y24'
  obtain ⟨q', bl, rfl, y26'⟩ := bB_s y25'
  obtain ⟨c', q', rfl, y27'⟩ := tC_s y26'
  obtain ⟨kk, rfl, y28'⟩ := kI_s y27'
  obtain ⟨rfl, y29'⟩ := tE_s y28'
  obtain ⟨y0, bl, rfl, y30'⟩ := bAI_s y29'
  obtain ⟨y1, bl, rfl, y31'⟩ := bAI_s y30'
  obtain ⟨y2, bl, rfl, y32'⟩ := bAI_s y31'
  obtain ⟨y3, bl, rfl, y33'⟩ := bAI_s y32'
  obtain ⟨y4, bl, rfl, y34'⟩ := bAI_s y33'
  obtain ⟨y5, bl, rfl, y35'⟩ := bAI_s y34'
  obtain ⟨y6, bl, rfl, y36'⟩ := bAI_s y35'
  obtain ⟨y7, bl, rfl, y37'⟩ := bAI_s y36'
  obtain ⟨h0, bl, rfl, y38'⟩ := bAI_s y37'
  obtain ⟨h1, bl, rfl, y39'⟩ := bAI_s y38'
  obtain ⟨rfl, y40'⟩ := bE_s y39'
  have yy' := y40'
  obtain ⟨hk, rfl⟩ := Prod.mk.inj (Option.some.inj yy')
  exact zz_dwt_Split_3 _ _ _ _ _ _ _ _ _ _ _ _ _ _ _ _ _ _ _ _ _ _ _ _ _ _ _ _ _ _ _ _ _ _ _ _ _ _ _ _ _ _ _ _ _ _ _ _ _ _ _ _ _ _ _ _ hk
theorem q_dwt_Split (a b c d k : Int) (l : List Int) (hok : small l.length = true) : funR Try.prog t_dwt_Split (annOf []) l_dwt_Split 20 Try.f34 [.agg [.int .i64 a, .int .i64 b, .int .i64 c, .int .i64 d, .lst (.int .i64) l], .one (.int .i64 k)] [] = some ⟨.tup [(true, [.int .i64 ((spR a b c d k l 0).1), .int .i64 ((spR a b c d k l 0).2.1), .int .i64 ((spR a b c d k l 0).2.2.1), .int .i64 ((spR a b c d k l 0).2.2.2), .row 0, .int .i64 ((spR a b c d k l 1).1), .int .i64 ((spR a b c d k l 1).2.1), .int .i64 ((spR a b c d k l 1).2.2.1), .int .i64 ((spR a b c d k l 1).2.2.2), .row 1, .int .i64 ((spR a b c d k l 2).1), .int .i64 ((spR a b c d k l 2).2.1), .int .i64 ((spR a b c d k l 2).2.2.1), .int .i64 ((spR a b c d k l 2).2.2.2), .row 2, .int .i64 ((spR a b c d k l 3).1), .int .i64 ((spR a b c d k l 3).2.1), .int .i64 ((spR a b c d k l 3).2.2.1), .int .i64 ((spR a b c d k l 3).2.2.2), .row 3]), (false, [.int .i64 (spErr a b c d k l)])], [], [.arr 3 (.int .i64) (spD0 a b c d k l), .arr 3 (.int .i64) (spD1 a b c d k l), .arr 3 (.int .i64) (spD2 a b c d k l), .arr 3 (.int .i64) (spD3 a b c d k l)]⟩ := by
    refine (e_dwt_Split ..).trans ?_
    simp only [ite2_bool]
    cases hv : plV a b c d l
    · simp [spErr, spR, spD0, spD1, spD2, spD3, hv]
    cases hk : inr 1 3 k
    · simp [spErr, spR, spD0, spD1, spD2, spD3, hv, hk]
    cases hf : fitB 35184372088832 l
    · simp [spErr, spR, spD0, spD1, spD2, spD3, hv, hk, hf, hok]
    have pb := plV_b hv
    have e : spErr a b c d k l = 0 := by simp [spErr, hv, hk, hf]
    have ho := half_ok hv hk (fitB_fit hf)
    have hb := bnd_v pb.1
    have hs : inr 0 4096 b = true := inr_t (by omega) (by omega)
    have ce := cev_bd (s := a) (n := c - a) (by omega)
    have cf := cev_bd (s := b) (n := d - b) (by omega)
    have v0 := valid_bnd (a := a) (b := b) (c := c) (d := d) (o := 0) (by omega) (by omega)
    have v1 := valid_bnd (a := a) (b := b) (c := c) (d := d) (o := 1) (by omega) (by omega)
    have v2 := valid_bnd (a := a) (b := b) (c := c) (d := d) (o := 2) (by omega) (by omega)
    have v3 := valid_bnd (a := a) (b := b) (c := c) (d := d) (o := 3) (by omega) (by omega)
    have d0 : colsLo (zer (area (bnd a b c d 0).1 (bnd a b c d 0).2.1 (bnd a b c d 0).2.2.1 (bnd a b c d 0).2.2.2)) (sLo a b c d k l) (Int.toNat ((bnd a b c d 0).2.2.1 - (bnd a b c d 0).1)) (Int.toNat (d - b)) b k = spD0 a b c d k l := by
      rw [spD0, if_pos e]
      unfold bw bh
      refine colsLo_mat hk hs (by omega) ho.2.2.1 ?_ (toNat_area v0)
      simp only [hb.1, cev]; omega
    have d1 : colsLo (zer (area (bnd a b c d 1).1 (bnd a b c d 1).2.1 (bnd a b c d 1).2.2.1 (bnd a b c d 1).2.2.2)) (sHi a b c d k l) (Int.toNat ((bnd a b c d 1).2.2.1 - (bnd a b c d 1).1)) (Int.toNat (d - b)) b k = spD1 a b c d k l := by
      rw [spD1, if_pos e]
      unfold bw bh
      refine colsLo_mat hk hs (by omega) ho.2.2.2 ?_ (toNat_area v1)
      simp only [hb.2.1, cev]; omega
    have d2 : colsHi (zer (area (bnd a b c d 2).1 (bnd a b c d 2).2.1 (bnd a b c d 2).2.2.1 (bnd a b c d 2).2.2.2)) (sLo a b c d k l) (Int.toNat ((bnd a b c d 0).2.2.1 - (bnd a b c d 0).1)) (Int.toNat (d - b)) b k = spD2 a b c d k l := by
      rw [spD2, if_pos e]
      unfold bw bh
      have ta := toNat_area v2
      simp only [hb.1, hb.2.2.1] at ta ⊢
      refine colsHi_mat hk hs (by omega) ho.2.2.1 ?_ ta
      simp only [cev]; omega
    have d3 : colsHi (zer (area (bnd a b c d 3).1 (bnd a b c d 3).2.1 (bnd a b c d 3).2.2.1 (bnd a b c d 3).2.2.2)) (sHi a b c d k l) (Int.toNat ((bnd a b c d 1).2.2.1 - (bnd a b c d 1).1)) (Int.toNat (d - b)) b k = spD3 a b c d k l := by
      rw [spD3, if_pos e]
      unfold bw bh
      have ta := toNat_area v3
      simp only [hb.2.1, hb.2.2.2] at ta ⊢
      refine colsHi_mat hk hs (by omega) ho.2.2.2 ?_ ta
      simp only [cev]; omega
    rw [d0, d1, d2, d3]
    have k1 : k_dwt_Split_1 a b c d k 0 0 0 0 0 0 0 0 0 0 0 0 0 0 0 0 0 0 0 0 0 0 0 0 0 0 0 0 0 0 0 0 a b c d (bnd a b c d 0).1 (bnd a b c d 0).2.1 (bnd a b c d 0).2.2.1 (bnd a b c d 0).2.2.2 (bnd a b c d 1).1 (bnd a b c d 1).2.1 (bnd a b c d 1).2.2.1 (bnd a b c d 1).2.2.2 (bnd a b c d 2).1 (bnd a b c d 2).2.1 (bnd a b c d 2).2.2.1 (bnd a b c d 2).2.2.2 (bnd a b c d 3).1 (bnd a b c d 3).2.1 (bnd a b c d 3).2.2.1 (bnd a b c d 3).2.2.2 (bnd a b c d 0).1 b (bnd a b c d 0).2.2.1 d (bnd a b c d 1).1 b (bnd a b c d 1).2.2.1 d b l [] [] [] [] [] [] [] [] [] [] = true := by
      simp only [k_dwt_Split_1, hv, hk, hf, decide_true, Bool.and_self]
    rw [k1, v0, v1, v2, v3]
    have ta0 := toNat_area v0
    have ta1 := toNat_area v1
    have ta2 := toNat_area v2
    have ta3 := toNat_area v3
    have mm : ∀ x y z : Int, 0 ≤ x → x ≤ z → 0 ≤ y → x * y ≤ z * y := fun x y z h1 h2 h3 => Int.mul_le_mul_of_nonneg_right h2 h3
    have m1 := mm (cev a (c - a)) (d - b) (c - a) ce.1 ce.2 (by omega)
    have m2 := mm ((c - a) - cev a (c - a)) (d - b) (c - a) (by omega) (by omega) (by omega)
    have zl : ∀ (x : Int) (p q e f m n : Int), x.toNat = (f - e).toNat * (q - p).toNat → p ≤ q → f - e = m → 0 ≤ m → q - p = n → ((zer x).length : Int) = n * m := by
      intro x p q e f m n h1 h2 h3 h4 h5
      rw [zer, List.length_replicate, h1, Int.natCast_mul, Int.toNat_of_nonneg (by omega), Int.toNat_of_nonneg (by omega), h3, h5, Int.mul_comm]
    have s0 : spOk (bnd a b c d 0).1 b (bnd a b c d 0).2.2.1 d b k (bnd a b c d 0).1 (bnd a b c d 0).2.2.1 (bnd a b c d 2).1 (bnd a b c d 2).2.2.1 (sLo a b c d k l) (zer (area (bnd a b c d 0).1 (bnd a b c d 0).2.1 (bnd a b c d 0).2.2.1 (bnd a b c d 0).2.2.2)) (zer (area (bnd a b c d 2).1 (bnd a b c d 2).2.1 (bnd a b c d 2).2.2.1 (bnd a b c d 2).2.2.2)) = true := by
      simp only [hb.1, hb.2.2.1] at ta0 ta2 ⊢
      have ew : (c + 1) / 2 - (a + 1) / 2 = cev a (c - a) := by unfold cev; omega
      exact spOk_i (by omega) hk (by rw [ew]; exact ho.1) (by rw [ew]; omega) ho.2.2.1 (zl _ _ _ _ _ _ _ ta0 (by omega) (by unfold cev; omega) cf.1 rfl) (zl _ _ _ _ _ _ _ ta2 (by omega) (by unfold cev; omega) (by omega) rfl)
    have s1 : spOk (bnd a b c d 1).1 b (bnd a b c d 1).2.2.1 d b k (bnd a b c d 1).1 (bnd a b c d 1).2.2.1 (bnd a b c d 3).1 (bnd a b c d 3).2.2.1 (sHi a b c d k l) (zer (area (bnd a b c d 1).1 (bnd a b c d 1).2.1 (bnd a b c d 1).2.2.1 (bnd a b c d 1).2.2.2)) (zer (area (bnd a b c d 3).1 (bnd a b c d 3).2.1 (bnd a b c d 3).2.2.1 (bnd a b c d 3).2.2.2)) = true := by
      simp only [hb.2.1, hb.2.2.2] at ta1 ta3 ⊢
      have ew : c / 2 - a / 2 = (c - a) - cev a (c - a) := by unfold cev; omega
      exact spOk_i (by omega) hk (by rw [ew]; exact ho.2.1) (by rw [ew]; omega) ho.2.2.2 (zl _ _ _ _ _ _ _ ta1 (by omega) (by unfold cev; omega) cf.1 rfl) (zl _ _ _ _ _ _ _ ta3 (by omega) (by unfold cev; omega) (by omega) rfl)
    simp only [k_dwt_Split_3, s0, s1, decide_true, Bool.and_self, Bool.not_true, Bool.and_true, if_true, hok, spR, e, reduceIte, Bool.false_eq_true]
theorem s_dwt_Split : SoundFun Try.prog 34 G_dwt_Split := by
  refine fun_ok (tab := t_dwt_Split) (ann := annOf []) (lt := l_dwt_Split) (tab_cons s_pl_Valid (tab_cons s_dwt_Bands (tab_cons s_dwt_known (tab_cons s_dwt_exceeds (tab_cons s_pl_Row (tab_cons s_lift_Forward (tab_cons s_dwt_empty (tab_cons s_dwt_Split_1 tab_nil)))))))) (by kernel_rfl) (fn := Try.f34) (by kernel_rfl) (by decide) (c := bodyOf Try.f34) (by kernel_rfl) (by
    intro m b hb
    have hb' : b ∈ loopsOf (bodyOf Try.f34) := hb
    rw [o_dwt_Split] at hb'
    simp only [List.mem_cons, List.not_mem_nil, or_false] at hb'
    rcases hb' with rfl | rfl | rfl | rfl
    · exact loop_none (by kernel_rfl) m
    · exact loop_ok (key := 17) (by kernel_rfl) rfl r_dwt_Split_1 z_dwt_Split_1 m
    · exact loop_none (by kernel_rfl) m
    · exact loop_ok (key := 32) (by kernel_rfl) rfl r_dwt_Split_3 z_dwt_Split_3 m
    ) ?_ (keep_nil (by kernel_rfl))
  intro args lent o y0'
  unfold G_dwt_Split at y0'
  obtain ⟨q', args, rfl, y1'⟩ := pA_s y0'
  obtain ⟨c', q', rfl, y2'⟩ := tC_s y1'
  obtain ⟨a, rfl, y3'⟩ := kI_s y2'
  obtain ⟨c', q', rfl, y4'⟩ := tC_s y3'
  obtain ⟨b, rfl, y5'⟩ := kI_s y4'
  obtain ⟨c', q', rfl, y6'⟩ := tC_s y5'
  obtain ⟨c, rfl, y7'⟩ := kI_s y6'
  obtain ⟨c', q', rfl, y8'⟩ := tC_s y7'
  obtain ⟨d, rfl, y9'⟩ := kI_s y8'
  obtain ⟨c', q', rfl, y10'⟩ := tC_s y9'
  obtain ⟨l, rfl, y11'⟩ := kLI_s y10'
  obtain ⟨rfl, y12'⟩ := tE_s y11'
  obtain ⟨c', args, rfl, y13'⟩ := pO_s y12'
  obtain ⟨k, rfl, y14'⟩ := kI_s y13'
  obtain ⟨rfl, y15'⟩ := pE_s y14'
  obtain ⟨rfl, y16'⟩ := nE_s y15'
  have yy' := y16'
  unfold H_dwt_Split at yy'
  obtain ⟨hok, rfl⟩ := Prod.mk.inj (Option.some.inj yy')
  exact ⟨20, q_dwt_Split _ _ _ _ _ _ hok⟩
end Go.Rx.Ch06

set_option linter.unusedVariables false
set_option linter.unusedSimpArgs false
set_option maxRecDepth 100000
set_option maxHeartbeats 40000000
open Go Go.Rx Go.Proofs
namespace Go.Rx.Ch06
theorem plV_len {a b c d : Int} {l : List Int} (h : plV a b c d l = true) : l.length = (d - b).toNat * (c - a).toNat := by
  have hb := plV_b h
  have h1 : ((d - b).toNat : Int) = d - b := Int.toNat_of_nonneg (by omega)
  have h2 : ((c - a).toNat : Int) = c - a := Int.toNat_of_nonneg (by omega)
  have h3 : (((d - b).toNat * (c - a).toNat : Nat) : Int) = (c - a) * (d - b) := by rw [Int.natCast_mul, h1, h2, Int.mul_comm]
  omega
theorem fit_mat {b : Int} {n g : Nat} {f : Nat → List Int} (h0 : 0 ≤ b) (h : ∀ x, x < g → fit b (f x)) : fit b (matC n g f) := fun y hy => by
  unfold matC at hy
  obtain ⟨i, _, hi⟩ := List.mem_flatMap.1 hy
  obtain ⟨x, hx, rfl⟩ := List.mem_map.1 hi
  exact gI_fit h0 (h x (List.mem_range.1 hx)) _
theorem plV_i {a b c d : Int} {l : List Int} (h : valid a b c d = true) (hl : (l.length : Int) = (c - a) * (d - b)) (ha : (c - a) * (d - b) ≤ 1048576) : plV a b c d l = true := by
  have ar := area_v h
  simp only [plV, h, hl, ar.1, decide_true, Bool.and_true, Bool.true_and, decide_eq_true_eq]
  exact ha
end Go.Rx.Ch06

set_option linter.unusedVariables false
set_option linter.unusedSimpArgs false
set_option maxRecDepth 100000
set_option maxHeartbeats 40000000
open Go Go.Rx Go.Proofs
namespace Go.Rx.Ch06
end Go.Rx.Ch06

set_option linter.unusedVariables false
set_option linter.unusedSimpArgs false
set_option maxRecDepth 100000
set_option maxHeartbeats 40000000
open Go Go.Rx Go.Proofs
namespace Go.Rx.Ch06
theorem bw_bh {a b c d : Int} (h : valid a b c d = true) : bw a b c d 0 = (cev a (c - a)).toNat ∧ bw a b c d 1 = ((c - a) - cev a (c - a)).toNat ∧ bh a b c d 0 = (cev b (d - b)).toNat ∧ bh a b c d 1 = (cev b (d - b)).toNat ∧ bh a b c d 2 = ((d - b) - cev b (d - b)).toNat ∧ bh a b c d 3 = ((d - b) - cev b (d - b)).toNat := by
  have hb := bnd_v h
  simp only [bw, bh, hb.1, hb.2.1, hb.2.2.1, hb.2.2.2, cev]
  refine ⟨?_, ?_, ?_, ?_, ?_, ?_⟩ <;> omega
end Go.Rx.Ch06

set_option linter.unusedVariables false
set_option linter.unusedSimpArgs false
set_option maxRecDepth 100000
set_option maxHeartbeats 40000000
open Go Go.Rx Go.Proofs
namespace Go.Rx.Ch06
theorem q_ref04_High (b k : Int) (hok : true = true) : funR Try.prog t_ref04_High (annOf []) l_ref04_High 20 Try.f57 [.one (.int .i64 b), .one (.int .i64 k)] [] = some ⟨.one (.int .i64 (hb b k)), [], []⟩ := by
    refine (e_ref04_High ..).trans ?_
    simp only [ite2_bool, decide_eq_true_eq, beq_iff_eq, hb]
    by_cases h1 : b < 0
    · rw [if_pos h1, if_neg (by omega)]
    by_cases h2 : b > 281474976710656
    · rw [if_neg h1, if_pos h2, if_neg (by omega)]
    cases h3 : inr 1 3 k
    · have : ¬ (1 ≤ k ∧ k ≤ 3) := by simp [inr] at h3; omega
      rw [if_neg h1, if_neg h2, if_pos (by rfl), if_neg (by omega)]
    have h4 := inr_b h3
    rw [if_neg h1, if_neg h2, if_neg (by decide), if_pos (show 0 ≤ b ∧ b ≤ 281474976710656 ∧ 1 ≤ k ∧ k ≤ 3 from ⟨by omega, by omega, h4.1, h4.2⟩), wrap_in (n := 20 * b) (by omega) (by omega), wrap_in (n := 20 * b + 8) (by omega) (by omega), Int.tdiv_eq_ediv_of_nonneg (by omega), wrap_in (n := (20 * b + 8) / 16) (by omega) (by omega), wrap_in (n := b + (20 * b + 8) / 16) (by omega) (by omega), wrap_in (n := 2 * b) (by omega) (by omega)]
    by_cases h5 : k = 3 <;> simp [h5]
theorem s_ref04_High : SoundFun Try.prog 57 G_ref04_High := by
  refine fun_ok (tab := t_ref04_High) (ann := annOf []) (lt := l_ref04_High) (tab_cons s_ref04_Valid tab_nil) (by kernel_rfl) (fn := Try.f57) (by kernel_rfl) (by decide) (c := bodyOf Try.f57) (by kernel_rfl) (fun m b hb => absurd hb (by show b ∉ loopsOf (bodyOf Try.f57); rw [show loopsOf (bodyOf Try.f57) = [] from by kernel_rfl]; exact List.not_mem_nil)) ?_ (keep_nil (by kernel_rfl))
  intro args lent o y0'
  unfold G_ref04_High at y0'
  obtain ⟨c', args, rfl, y1'⟩ := pO_s y0'
  obtain ⟨b, rfl, y2'⟩ := kI_s y1'
  obtain ⟨c', args, rfl, y3'⟩ := pO_s y2'
  obtain ⟨k, rfl, y4'⟩ := kI_s y3'
  obtain ⟨rfl, y5'⟩ := pE_s y4'
  obtain ⟨rfl, y6'⟩ := nE_s y5'
  have yy' := y6'
  unfold H_ref04_High at yy'
  obtain ⟨hok, rfl⟩ := Prod.mk.inj (Option.some.inj yy')
  exact ⟨20, q_ref04_High _ _ hok⟩
theorem q_ref04_Low (b k : Int) (hok : true = true) : funR Try.prog t_ref04_Low (annOf []) l_ref04_Low 20 Try.f56 [.one (.int .i64 b), .one (.int .i64 k)] [] = some ⟨.one (.int .i64 (lb b k)), [], []⟩ := by
    refine (e_ref04_Low ..).trans ?_
    simp only [ite2_bool, decide_eq_true_eq, beq_iff_eq, lb]
    by_cases h1 : b < 0
    · rw [if_pos h1, if_neg (by omega)]
    by_cases h2 : b > 281474976710656
    · rw [if_neg h1, if_pos h2, if_neg (by omega)]
    cases h3 : inr 1 3 k
    · have : ¬ (1 ≤ k ∧ k ≤ 3) := by simp [inr] at h3; omega
      rw [if_neg h1, if_neg h2, if_pos (by rfl), if_neg (by omega)]
    have h4 := inr_b h3
    have h5 := hb_ge (b := b) (kk := k) ⟨by omega, by omega⟩ h4
    have hq : 0 ≤ b ∧ b ≤ 281474976710656 ∧ 1 ≤ k ∧ k ≤ 3 := ⟨by omega, by omega, h4.1, h4.2⟩
    rw [if_neg h1, if_neg h2, if_neg (by decide), if_pos hq]
    by_cases h6 : k = 1
    · have h7 : hb b k = 2 * b := by unfold hb; rw [if_pos hq, if_neg (by omega)]
      rw [if_pos h6, h7, wrap_in (n := 2 * b) (by omega) (by omega), show b + (2 * (2 * b) + 2) / 4 = 2 * b by omega]
    · rw [if_neg h6, wrap_in (n := 2 * hb b k) (by omega) (by omega), wrap_in (n := 2 * hb b k + 2) (by omega) (by omega), Int.tdiv_eq_ediv_of_nonneg (by omega), wrap_in (n := (2 * hb b k + 2) / 4) (by omega) (by omega), wrap_in (by omega) (by omega)]
theorem s_ref04_Low : SoundFun Try.prog 56 G_ref04_Low := by
  refine fun_ok (tab := t_ref04_Low) (ann := annOf []) (lt := l_ref04_Low) (tab_cons s_ref04_High (tab_cons s_ref04_Valid tab_nil)) (by kernel_rfl) (fn := Try.f56) (by kernel_rfl) (by decide) (c := bodyOf Try.f56) (by kernel_rfl) (fun m b hb => absurd hb (by show b ∉ loopsOf (bodyOf Try.f56); rw [show loopsOf (bodyOf Try.f56) = [] from by kernel_rfl]; exact List.not_mem_nil)) ?_ (keep_nil (by kernel_rfl))
  intro args lent o y0'
  unfold G_ref04_Low at y0'
  obtain ⟨c', args, rfl, y1'⟩ := pO_s y0'
  obtain ⟨b, rfl, y2'⟩ := kI_s y1'
  obtain ⟨c', args, rfl, y3'⟩ := pO_s y2'
  obtain ⟨k, rfl, y4'⟩ := kI_s y3'
  obtain ⟨rfl, y5'⟩ := pE_s y4'
  obtain ⟨rfl, y6'⟩ := nE_s y5'
  have yy' := y6'
  unfold H_ref04_Low at yy'
  obtain ⟨hok, rfl⟩ := Prod.mk.inj (Option.some.inj yy')
  exact ⟨20, q_ref04_Low _ _ hok⟩
theorem r_pyr_exceeds_0 : RoundOk Try.prog t_pyr_exceeds (annOf []) l_pyr_exceeds Out 20 0 23 [1, 7, 8, 9] (kxOf [] [4]) (loopOf Try.f41 0) T_pyr_exceeds_0 := by
  intro vs bl Kc r h
  unfold T_pyr_exceeds_0 at h
  obtain ⟨t, y0', h'⟩ := getD_run h
  obtain ⟨c', vs, rfl, y1'⟩ := pO_s y0'
  obtain ⟨b, rfl, y2'⟩ := kI_s y1'
  obtain ⟨c', vs, rfl, y3'⟩ := pO_s y2'
  obtain ⟨l, rfl, y4'⟩ := kLI_s y3'
  obtain ⟨c', vs, rfl, y5'⟩ := pO_s y4'
  obtain ⟨n, rfl, y6'⟩ := kI_s y5'
  obtain ⟨c', vs, rfl, y7'⟩ := pO_s y6'
  obtain ⟨i, rfl, y8'⟩ := kI_s y7'
  obtain ⟨rfl, y9'⟩ := pE_s y8'
  obtain ⟨rfl, y10'⟩ := bE_s y9'
  have yy' := y10'
  cases yy'
  exact (b_pyr_exceeds_0 ..).trans ((congrArg (LT.runc · Kc) (tu_pyr_exceeds_0 ..)).trans h')
theorem o_pyr_exceeds : loopsOf (bodyOf Try.f41) = [loopOf Try.f41 0] := by kernel_rfl
theorem zz_pyr_exceeds_0 (b : Int) (l : List Int) (hsm : small (l.length) = true) (hc : (decide (0 ≤ b) && decide (b ≤ 4503599627370496)) = true) : ∃ k, ∀ (K : Ex → List V → List (Option Blk) → Option Out) r, (c_pyr_exceeds_0 b l).run K = some r → (iter T_pyr_exceeds_0 k [.one (.int .i64 b), .one (.lst (.int .i64) l), .one (.int .i64 (l.length : Int)), .one (.int .i64 0)] []).run K = some r := by
  refine z_list (st := fun i => ([.one (.int .i64 b), .one (.lst (.int .i64) l), .one (.int .i64 (l.length : Int)), .one (.int .i64 ((i : Nat) : Int))], [])) l 0 (inr (-b) b) _ _ (fun i hi F K => ?_) (fun F K => ?_)
  · have hi' : (i : Int) < (l.length : Int) := by omega
    have hc' := hc
    simp only [Bool.and_eq_true, decide_eq_true_eq] at hc'
    simp only [tu_pyr_exceeds_0, U_pyr_exceeds_0, LT.next, LT.run, ite2_dec, ite2_bool, wrap_next hi hsm, Int.toNat_natCast, hi', Int.natCast_nonneg, and_self, if_true, gI, gP, gC, gR]
    rw [show (0 : Int) - b = -b by omega, wrap_in (n := -b) (by omega) (by omega)]
    simp only [inr, Bool.and_eq_true, decide_eq_true_eq]
    by_cases h1 : l[i]?.getD 0 < -b
    · have h3 : ¬ -b ≤ l[i]?.getD 0 := by omega
      simp [h1, h3, gI]
    by_cases h2 : b < l[i]?.getD 0
    · have h3 : ¬ l[i]?.getD 0 ≤ b := by omega
      simp [h1, h2, h3, gI]
    have h3 : -b ≤ l[i]?.getD 0 := by omega
    have h4 : l[i]?.getD 0 ≤ b := by omega
    have h5 : ¬ b < l[i]?.getD 0 := by omega
    simp [h1, h3, h4, h5, gI]
  · simp only [tu_pyr_exceeds_0, U_pyr_exceeds_0, LT.next, LT.run, ite2_dec, Int.lt_irrefl, if_false]
    try rfl
theorem z_pyr_exceeds_0 : ∀ vs bl t, S_pyr_exceeds_0 vs bl = some (true, t) → ∃ n, ∀ (K : Ex → List V → List (Option Blk) → Option Out) r, t.run K = some r → (iter T_pyr_exceeds_0 n vs bl).run K = some r := by
  intro vs bl t y0'
  unfold S_pyr_exceeds_0 at y0'
  obtain ⟨c', vs, rfl, y1'⟩ := pO_s y0'
  obtain ⟨b, rfl, y2'⟩ := kI_s y1'
  obtain ⟨c', vs, rfl, y3'⟩ := pO_s y2'
  obtain ⟨l, rfl, y4'⟩ := kLI_s y3'
  obtain ⟨c', vs, rfl, y5'⟩ := pO_s y4'
  obtain ⟨n, rfl, y6'⟩ := kI_s y5'
  obtain ⟨c', vs, rfl, y7'⟩ := pO_s y6'
  obtain ⟨i, rfl, y8'⟩ := kI_s y7'
  obtain ⟨rfl, y9'⟩ := pE_s y8'
  obtain ⟨rfl, y10'⟩ := bE_s y9'
  have yy' := y10'
  obtain ⟨hk, rfl⟩ := Prod.mk.inj (Option.some.inj yy')
  unfold k_pyr_exceeds_0 at hk
  simp only [Bool.and_eq_true, decide_eq_true_eq, and_assoc] at hk
  obtain ⟨rfl, rfl, hsm, hc⟩ := hk
  exact zz_pyr_exceeds_0 _ _ hsm (by first | exact hc | simpa using hc | simpa only [Bool.and_eq_true, decide_eq_true_eq, and_assoc] using hc)
theorem q_pyr_exceeds (l : List Int) (b : Int) (hok : (small l.length && (decide (0 ≤ b) && decide (b ≤ 4503599627370496))) = true) : funR Try.prog t_pyr_exceeds (annOf []) l_pyr_exceeds 20 Try.f41 [.one (.lst (.int .i64) l), .one (.int .i64 b)] [] = some ⟨.one (.bool (!fitB b l)), [], []⟩ := by
    refine (e_pyr_exceeds ..).trans ?_
    simp only [ite2_bool, k_pyr_exceeds_0, p_pyr_exceeds_0, hok, Bool.and_true, decide_true, Bool.true_and]
    simp only [Bool.and_eq_true] at hok
    simp [hok, fitB]
    (repeat' split) <;> simp_all
theorem s_pyr_exceeds : SoundFun Try.prog 41 G_pyr_exceeds := by
  refine fun_ok (tab := t_pyr_exceeds) (ann := annOf []) (lt := l_pyr_exceeds) tab_nil (by kernel_rfl) (fn := Try.f41) (by kernel_rfl) (by decide) (c := bodyOf Try.f41) (by kernel_rfl) (by
    intro m b hb
    have hb' : b ∈ loopsOf (bodyOf Try.f41) := hb
    rw [o_pyr_exceeds] at hb'
    simp only [List.mem_cons, List.not_mem_nil, or_false] at hb'
    rcases hb' with rfl
    · exact loop_ok (key := 2) (by kernel_rfl) rfl r_pyr_exceeds_0 z_pyr_exceeds_0 m
    ) ?_ (keep_nil (by kernel_rfl))
  intro args lent o y0'
  unfold G_pyr_exceeds at y0'
  obtain ⟨c', args, rfl, y1'⟩ := pO_s y0'
  obtain ⟨l, rfl, y2'⟩ := kLI_s y1'
  obtain ⟨c', args, rfl, y3'⟩ := pO_s y2'
  obtain ⟨b, rfl, y4'⟩ := kI_s y3'
  obtain ⟨rfl, y5'⟩ := pE_s y4'
  obtain ⟨rfl, y6'⟩ := nE_s y5'
  have yy' := y6'
  unfold H_pyr_exceeds at yy'
  obtain ⟨hok, rfl⟩ := Prod.mk.inj (Option.some.inj yy')
  exact ⟨20, q_pyr_exceeds _ _ hok⟩
theorem hb_le {b k : Int} (h0 : 0 ≤ b ∧ b ≤ 281474976710656) (hk : 1 ≤ k ∧ k ≤ 3) : (0 ≤ hb b k ∧ 4 * hb b k ≤ 9 * b + 4) ∧ (0 ≤ lb b k ∧ 4 * lb b k ≤ 9 * b + 4) := by
  have h1 : 0 ≤ hb b k ∧ 4 * hb b k ≤ 9 * b + 2 := by
    unfold hb
    rw [if_pos ⟨h0.1, h0.2, hk.1, hk.2⟩]
    split <;> omega
  have h2 : 0 ≤ lb b k ∧ 4 * lb b k ≤ 9 * b + 4 := by
    unfold lb
    rw [if_pos ⟨h0.1, h0.2, hk.1, hk.2⟩]
    omega
  omega
theorem fw_fit {l : List Int} {s k B : Int} (hk : inr 1 3 k = true) (hs : inr 0 4096 s = true) (hn : l.length ≤ 4096) (h0 : 0 ≤ B ∧ B ≤ 281474976710656) (hf : fit B l) : fit (lb B k) (fw l s k).1 ∧ fit (hb B k) (fw l s k).2.1 := by
  rw [fw_ok (inr_b hk) (inr_b hs) hn (fit_mono hf h0.2)]
  exact fz_low (inr_b hk) hf h0
theorem spErr_s {a b c d k : Int} {l : List Int} (h : spErr a b c d k l = 0) : plV a b c d l = true ∧ inr 1 3 k = true ∧ fitB 35184372088832 l = true := by
  cases h1 : plV a b c d l
  · simp [spErr, h1] at h
  cases h2 : inr 1 3 k
  · simp [spErr, h1, h2] at h
  cases h3 : fitB 35184372088832 l
  · simp [spErr, h1, h2, h3] at h
  exact ⟨rfl, rfl, rfl⟩
theorem half_fit {a b c d k B : Int} {l : List Int} (hv : plV a b c d l = true) (hk : inr 1 3 k = true) (h0 : 0 ≤ B ∧ B ≤ 281474976710656) (hf : fit B l) : fit (lb B k) (sLo a b c d k l) ∧ fit (hb B k) (sHi a b c d k l) := by
  have pb := plV_b hv
  have hl := plV_len hv
  have ha : inr 0 4096 a = true := inr_t (by omega) (by omega)
  have hq := fun j (hj : j < (d - b).toNat) => fw_fit (l := rowAt l (c - a).toNat j) (s := a) hk ha (by rw [rowAt_len hl hj]; omega) h0 (fit_row hf _ _)
  exact ⟨fit_cat _ fun y hy => (hq y hy).1, fit_cat _ fun y hy => (hq y hy).2⟩
theorem col_fit {h : List Int} {g n m : Nat} {s k B : Int} (hk : inr 1 3 k = true) (hs : inr 0 4096 s = true) (hn : n ≤ 4096) (h0 : 0 ≤ B ∧ B ≤ 281474976710656) (hf : fit B h) : fit (lb B k) (matC m g (cLo h g n s k)) ∧ fit (hb B k) (matC m g (cHi h g n s k)) := by
  have hl := hb_le h0 (inr_b hk)
  have hq := fun x => fw_fit (l := colOf h g x n) (s := s) hk hs (by rw [colOf_len]; exact hn) h0 (fit_col h0.1 hf _ _ _)
  exact ⟨fit_mat hl.2.1 fun x _ => (hq x).1, fit_mat hl.1.1 fun x _ => (hq x).2⟩
theorem spD_fit {a b c d k B : Int} {l : List Int} (e : spErr a b c d k l = 0) (h0 : 0 ≤ B ∧ B ≤ 35184372088832) (hf : fit B l) : fit (lb (lb B k) k) (spD0 a b c d k l) ∧ fit (lb (hb B k) k) (spD1 a b c d k l) ∧ fit (hb (lb B k) k) (spD2 a b c d k l) ∧ fit (hb (hb B k) k) (spD3 a b c d k l) := by
  obtain ⟨hv, hk, _⟩ := spErr_s e
  have pb := plV_b hv
  have hs : inr 0 4096 b = true := inr_t (by omega) (by omega)
  have hl := hb_le (b := B) (k := k) (by omega) (inr_b hk)
  have hh := half_fit hv hk (by omega) hf
  have hn : (d - b).toNat ≤ 4096 := by omega
  have hc := @col_fit (sLo a b c d k l)
  have hd := @col_fit (sHi a b c d k l)
  unfold spD0 spD1 spD2 spD3
  rw [if_pos e, if_pos e, if_pos e, if_pos e]
  exact ⟨(hc hk hs hn (by omega) hh.1).1, (hd hk hs hn (by omega) hh.2).1, (hc hk hs hn (by omega) hh.1).2, (hd hk hs hn (by omega) hh.2).2⟩
theorem spD_len {a b c d k : Int} {l : List Int} (e : spErr a b c d k l = 0) : (spD0 a b c d k l).length = bh a b c d 0 * bw a b c d 0 ∧ (spD1 a b c d k l).length = bh a b c d 1 * bw a b c d 1 ∧ (spD2 a b c d k l).length = bh a b c d 2 * bw a b c d 0 ∧ (spD3 a b c d k l).length = bh a b c d 3 * bw a b c d 1 := by
  unfold spD0 spD1 spD2 spD3
  rw [if_pos e, if_pos e, if_pos e, if_pos e]
  exact ⟨matC_len .., matC_len .., matC_len .., matC_len ..⟩
theorem plV_n {p e q f : Int} {l : List Int} {x y : Int} (h : valid p e q f = true) (hx : q - p = x) (hy : f - e = y) (hl : l.length = y.toNat * x.toNat) (ha : x * y ≤ 1048576) : plV p e q f l = true := by
  have hb := valid_b h
  refine plV_i h ?_ (by rw [hx, hy]; exact ha)
  rw [hl, Int.natCast_mul, Int.toNat_of_nonneg (by omega), Int.toNat_of_nonneg (by omega), hx, hy, Int.mul_comm]
end Go.Rx.Ch06

set_option linter.unusedVariables false
set_option linter.unusedSimpArgs false
set_option maxRecDepth 100000
set_option maxHeartbeats 40000000
open Go Go.Rx Go.Proofs
namespace Go.Rx.Ch06
theorem cdiv_b {a k : Int} (h0 : 0 ≤ a) (h1 : a ≤ 4096) (hk : 1 ≤ k) : a / k ≤ cdiv a k ∧ cdiv a k ≤ a := by
  have h2 := Int.ediv_nonneg h0 (show 0 ≤ k by omega)
  have h3 := Int.ediv_le_self k h0
  have h4 := Int.emod_add_mul_ediv a k
  have h5 : 1 * (a / k) ≤ k * (a / k) := Int.mul_le_mul_of_nonneg_right hk h2
  unfold cdiv w
  rw [if_neg (by omega), Int.tmod_eq_emod_of_nonneg h0, Int.tdiv_eq_ediv_of_nonneg h0, wrap_in (n := a / k) (by omega) (by omega)]
  split
  · rw [wrap_in (by omega) (by omega)]; omega
  · omega
theorem cdiv_e {a k : Int} (h0 : 0 ≤ a) (h1 : a ≤ 4096) (hk : 1 ≤ k) : cdiv a k = a / k + (if a % k > 0 then 1 else 0) := by
  have h2 := Int.ediv_nonneg h0 (show 0 ≤ k by omega)
  have h3 := Int.ediv_le_self k h0
  unfold cdiv w
  rw [if_neg (by omega), Int.tmod_eq_emod_of_nonneg h0, Int.tdiv_eq_ediv_of_nonneg h0, wrap_in (n := a / k) (by omega) (by omega)]
  split
  · rw [wrap_in (by omega) (by omega)]
  · omega
theorem cdiv_mono {a c k : Int} (h0 : 0 ≤ a) (h : a ≤ c) (h1 : c ≤ 4096) (hk : 1 ≤ k) : 0 ≤ cdiv a k ∧ cdiv a k ≤ cdiv c k ∧ cdiv c k ≤ 4096 := by
  have h2 := Int.ediv_nonneg h0 (show 0 ≤ k by omega)
  have h3 := Int.ediv_le_ediv (show 0 < k by omega) h
  have h4 := cdiv_b (show 0 ≤ c by omega) h1 hk
  rw [cdiv_e h0 (by omega) hk] 
  rw [cdiv_e (show 0 ≤ c by omega) h1 hk] at h4 ⊢
  have e1 := Int.emod_add_mul_ediv a k
  have e2 := Int.emod_add_mul_ediv c k
  by_cases hq : a / k = c / k
  · rw [hq] at e1 ⊢
    split <;> split <;> omega
  · split <;> split <;> omega
theorem valid_reduce (a b c d x y : Int) : valid (reduce a b c d x y).1 (reduce a b c d x y).2.1 (reduce a b c d x y).2.2.1 (reduce a b c d x y).2.2.2 = true := by
  unfold reduce
  split
  · rfl
  · rename_i h
    simp only [Bool.or_eq_true, Bool.not_eq_true', decide_eq_true_eq, not_or, Bool.not_eq_false] at h
    have hb := valid_b h.1.1.1.1
    have h1 := cdiv_mono hb.1 hb.2.1 hb.2.2.1 (show 1 ≤ x by omega)
    have h2 := cdiv_mono hb.2.2.2.1 hb.2.2.2.2.1 hb.2.2.2.2.2 (show 1 ≤ y by omega)
    show valid (cdiv a x) (cdiv b y) (cdiv c x) (cdiv d y) = true
    exact valid_i (by omega)
theorem valid_resR (a b c d n r : Int) : valid (resR a b c d n r).1 (resR a b c d n r).2.1 (resR a b c d n r).2.2.1 (resR a b c d n r).2.2.2 = true := by
  unfold resR
  split
  · exact valid_reduce ..
  · rfl
theorem set3 {α : Type} (f g : Nat → α) (N t : Nat) (ht : 1 ≤ t) (h : ∀ i, i < N → (i + 2) / 3 ≠ t → g i = f i) : ((((List.range N).map f).set (3 * t - 3 + 1) (g (3 * t - 3 + 1))).set (3 * t - 3 + 2) (g (3 * t - 3 + 2))).set (3 * t - 3 + 3) (g (3 * t - 3 + 3)) = (List.range N).map g := by
  apply List.ext_getElem (by simp)
  intro i h1 h2
  simp only [List.length_map, List.length_range] at h2
  simp only [List.getElem_set, List.getElem_map, List.getElem_range]
  split
  · rename_i e; subst e; rfl
  · split
    · rename_i e; subst e; rfl
    · split
      · rename_i e; subst e; rfl
      · exact (h i h2 (by omega)).symm
theorem inter_v {a b c d e f g h : Int} (hv : valid e f g h = true) : valid (inter a b c d e f g h).1 (inter a b c d e f g h).2.1 (inter a b c d e f g h).2.2.1 (inter a b c d e f g h).2.2.2 = true := by
  have hb := valid_b hv
  unfold inter
  split
  · rfl
  · rename_i hn
    simp only [empty, Bool.or_eq_true, decide_eq_true_eq, not_or] at hn
    apply valid_i
    simp only
    omega
theorem ndW_b {a b c d n m res : Int} {w : Rc} (hw : valid w.1 w.2.1 w.2.2.1 w.2.2.2 = true) : ∀ j, valid (ndW a b c d n m res w j).1 (ndW a b c d n m res w j).2.1 (ndW a b c d n m res w j).2.2.1 (ndW a b c d n m res w j).2.2.2 = true
  | 0 => hw
  | j + 1 => valid_bnd (by omega) (by omega)
theorem ndAt_at {a b c d n m res : Int} {w : Rc} {j t : Nat} (ht : res - (j : Int) = t) (h1 : 1 ≤ t) (o : Nat) (ho : 1 ≤ o) (ho3 : o ≤ 3) : ndAt a b c d n m res w (3 * t - 3 + o) = bndR (ndI a b c d n m res (ndW a b c d n m res w j) j) o := by
  have e1 : ((3 * t - 3 + o + 2 : Nat) : Int) / 3 = t := by omega
  have e2 : ((3 * t - 3 + o : Nat) : Int) - 3 * (((3 * t - 3 + o + 2 : Nat) : Int) / 3) + 3 = o := by rw [e1]; omega
  have e3 : (res - ((3 * t - 3 + o + 2 : Nat) : Int) / 3).toNat = j := by rw [e1]; omega
  unfold ndAt
  rw [if_neg (by omega), if_pos (by omega), e2, e3]
theorem ndL_step {a b c d n m res : Int} {w : Rc} {j t : Nat} (ht : res - (j : Int) = t) (h1 : 1 ≤ t) : (((ndL a b c d n m res w j).set (3 * t - 3 + 1) (bndR (ndI a b c d n m res (ndW a b c d n m res w j) j) 1)).set (3 * t - 3 + 2) (bndR (ndI a b c d n m res (ndW a b c d n m res w j) j) 2)).set (3 * t - 3 + 3) (bndR (ndI a b c d n m res (ndW a b c d n m res w j) j) 3) = ndL a b c d n m res w (j + 1) := by
  have a1 := ndAt_at (a := a) (b := b) (c := c) (d := d) (n := n) (m := m) (w := w) ht h1 1 (by omega) (by omega)
  have a2 := ndAt_at (a := a) (b := b) (c := c) (d := d) (n := n) (m := m) (w := w) ht h1 2 (by omega) (by omega)
  have a3 := ndAt_at (a := a) (b := b) (c := c) (d := d) (n := n) (m := m) (w := w) ht h1 3 (by omega) (by omega)
  have g : ∀ o : Nat, 1 ≤ o → o ≤ 3 → ndG a b c d n m res w (j + 1) (3 * t - 3 + o) = ndAt a b c d n m res w (3 * t - 3 + o) := by
    intro o h2 h3
    unfold ndG
    rw [if_pos (by omega)]
  have s := set3 (ndG a b c d n m res w j) (ndG a b c d n m res w (j + 1)) (3 * n + 1).toNat t h1 (fun i hi hne => by
    unfold ndG
    by_cases hc : 1 ≤ i ∧ ((i + 2 : Nat) : Int) / 3 ≤ res ∧ res - (i + 2 : Nat) / 3 < (j : Int)
    · rw [if_pos hc, if_pos (by omega)]
    · rw [if_neg hc, if_neg (by omega)])
  rw [g 1 (by omega) (by omega), g 2 (by omega) (by omega), g 3 (by omega) (by omega), a1, a2, a3] at s
  exact s
theorem ndL_zero {a b c d n m res : Int} {w : Rc} : ndL a b c d n m res w 0 = List.replicate (3 * n + 1).toNat (0, 0, 0, 0) := by
  apply List.ext_getElem (by simp [ndL])
  intro i h1 h2
  simp only [ndL, List.getElem_map, List.getElem_range, List.getElem_replicate]
  unfold ndG
  rw [if_neg (by omega)]
theorem ndL_len {a b c d n m res : Int} {w : Rc} (j : Nat) : (ndL a b c d n m res w j).length = (3 * n + 1).toNat := by simp [ndL]
theorem r_pyr_Need_0 : RoundOk Try.prog t_pyr_Need (annOf []) l_pyr_Need Out 20 0 107 [1, 5, 11, 12, 13, 14] (kxOf [12, 13] [10]) (loopOf Try.f21 0) T_pyr_Need_0 := by
  intro vs bl Kc r h
  unfold T_pyr_Need_0 at h
  obtain ⟨t, y0', h'⟩ := getD_run h
  obtain ⟨c', vs, rfl, y1'⟩ := pO_s y0'
  obtain ⟨n, rfl, y2'⟩ := kI_s y1'
  obtain ⟨c', vs, rfl, y3'⟩ := pO_s y2'
  obtain ⟨rfl, y4'⟩ := kP_s y3'
  obtain ⟨c', vs, rfl, y5'⟩ := pO_s y4'
  obtain ⟨m, rfl, y6'⟩ := kI_s y5'
  obtain ⟨c', vs, rfl, y7'⟩ := pO_s y6'
  obtain ⟨rfl, y8'⟩ := kR_s y7'
  obtain ⟨c', vs, rfl, y9'⟩ := pO_s y8'
  obtain ⟨rfl, y10'⟩ := kP_s y9'
  obtain ⟨c', vs, rfl, y11'⟩ := pO_s y10'
  obtain ⟨t, rfl, y12'⟩ := kI_s y11'
  obtain ⟨rfl, y13'⟩ := pE_s y12'
  obtain ⟨q', bl, rfl, y14'⟩ := bB_s y13'
  obtain ⟨c', q', rfl, y15'⟩ := tC_s y14'
  obtain ⟨a, rfl, y16'⟩ := kI_s y15'
  obtain ⟨c', q', rfl, y17'⟩ := tC_s y16'
  obtain ⟨b, rfl, y18'⟩ := kI_s y17'
  obtain ⟨c', q', rfl, y19'⟩ := tC_s y18'
  obtain ⟨c, rfl, y20'⟩ := kI_s y19'
  obtain ⟨c', q', rfl, y21'⟩ := tC_s y20'
  obtain ⟨d, rfl, y22'⟩ := kI_s y21'
  obtain ⟨rfl, y23'⟩ := tE_s y22'
  obtain ⟨v, bl, rfl, y24'⟩ := bAR_s y23'
  obtain ⟨q', bl, rfl, y25'⟩ := bB_s y24'
  obtain ⟨c', q', rfl, y26'⟩ := tC_s y25'
  obtain ⟨w0, rfl, y27'⟩ := kI_s y26'
  obtain ⟨c', q', rfl, y28'⟩ := tC_s y27'
  obtain ⟨w1, rfl, y29'⟩ := kI_s y28'
  obtain ⟨c', q', rfl, y30'⟩ := tC_s y29'
  obtain ⟨w2, rfl, y31'⟩ := kI_s y30'
  obtain ⟨c', q', rfl, y32'⟩ := tC_s y31'
  obtain ⟨w3, rfl, y33'⟩ := kI_s y32'
  obtain ⟨rfl, y34'⟩ := tE_s y33'
  obtain ⟨rfl, y35'⟩ := bE_s y34'
  have yy' := y35'
  cases yy'
  exact (b_pyr_Need_0 ..).trans ((congrArg (LT.runc · Kc) (tu_pyr_Need_0 ..)).trans h')
theorem o_pyr_Need : loopsOf (bodyOf Try.f21) = [loopOf Try.f21 0] := by kernel_rfl
theorem zz_pyr_Need_0 (a b c d n m w0 w1 w2 w3 t : Int) (v : List (Int × Int × Int × Int)) (hk : k_pyr_Need_0 a b c d n m w0 w1 w2 w3 t v = true) : ∃ k, ∀ (K : Ex → List V → List (Option Blk) → Option Out) r, (c_pyr_Need_0 a b c d n m w0 w1 w2 w3 t v).run K = some r → (iter T_pyr_Need_0 k [.one (.int .i64 n), .one (.ptr 0 0), .one (.int .i64 m), .one (.row 1), .one (.ptr 2 0), .one (.int .i64 t)] [some (.box [.int .i64 a, .int .i64 b, .int .i64 c, .int .i64 d]), some (.arr 31 (.pair (.int .i64) (.pair (.int .i64) (.pair (.int .i64) (.int .i64)))) v), some (.box [.int .i64 w0, .int .i64 w1, .int .i64 w2, .int .i64 w3])]).run K = some r := by
  simp only [k_pyr_Need_0, Bool.and_eq_true, decide_eq_true_eq] at hk
  obtain ⟨⟨⟨⟨z1, z2⟩, z3⟩, hv⟩, rfl⟩ := hk
  have b1 := inr_b z1
  have b2 := inr_b z2
  have b3 := inr_b z3
  have hw := ndW_b (a := a) (b := b) (c := c) (d := d) (n := n) (m := m) (res := t) (w := (w0, w1, w2, w3)) hv
  refine Exists.elim (z_fold (T := T_pyr_Need_0) (st := fun j => ([.one (.int .i64 n), .one (.ptr 0 0), .one (.int .i64 m), .one (.row 1), .one (.ptr 2 0), .one (.int .i64 (t - (j : Int)))], [some (.box [.int .i64 a, .int .i64 b, .int .i64 c, .int .i64 d]), some (.arr 31 (.pair (.int .i64) (.pair (.int .i64) (.pair (.int .i64) (.int .i64)))) (ndL a b c d n m t (w0, w1, w2, w3) j)), some (.box [.int .i64 ((ndW a b c d n m t (w0, w1, w2, w3) j).1), .int .i64 ((ndW a b c d n m t (w0, w1, w2, w3) j).2.1), .int .i64 ((ndW a b c d n m t (w0, w1, w2, w3) j).2.2.1), .int .i64 ((ndW a b c d n m t (w0, w1, w2, w3) j).2.2.2)])])) t.toNat (.leaf (.exit 0) [.one (.row 0), .one (.ptr 1 0)] [some (.arr 31 (.pair (.int .i64) (.pair (.int .i64) (.pair (.int .i64) (.int .i64)))) (ndL a b c d n m t (w0, w1, w2, w3) t.toNat)), some (.box [.int .i64 ((ndW a b c d n m t (w0, w1, w2, w3) t.toNat).1), .int .i64 ((ndW a b c d n m t (w0, w1, w2, w3) t.toNat).2.1), .int .i64 ((ndW a b c d n m t (w0, w1, w2, w3) t.toNat).2.2.1), .int .i64 ((ndW a b c d n m t (w0, w1, w2, w3) t.toNat).2.2.2)])]) (fun j hj F K => ?_) (fun F K => ?_)) (fun k hk => ⟨k, fun K r h => ?_⟩)
  · obtain ⟨q, hq⟩ : ∃ q : Nat, t - (j : Int) = q := ⟨(t - (j : Int)).toNat, by omega⟩
    have hb := valid_b (hw j)
    have hl := ndL_len (a := a) (b := b) (c := c) (d := d) (n := n) (m := m) (res := t) (w := (w0, w1, w2, w3)) j
    have hs := ndL_step (a := a) (b := b) (c := c) (d := d) (n := n) (m := m) (w := (w0, w1, w2, w3)) hq (by omega)
    simp only [tu_pyr_Need_0, U_pyr_Need_0, LT.next, LT.run, ite2_bool, decide_eq_true_eq, hq, List.length_set, hl]
    have i1 : IntKind.wrap .i64 (IntKind.wrap .i64 (3 * (q : Int)) - 2) = ((3 * q - 3 + 1 : Nat) : Int) := by rw [wrap_in (n := 3 * (q : Int)) (by omega) (by omega), wrap_in (by omega) (by omega)]; omega
    have i2 : IntKind.wrap .i64 (IntKind.wrap .i64 (3 * (q : Int)) - 1) = ((3 * q - 3 + 2 : Nat) : Int) := by rw [wrap_in (n := 3 * (q : Int)) (by omega) (by omega), wrap_in (by omega) (by omega)]; omega
    have i3 : IntKind.wrap .i64 (3 * (q : Int)) = ((3 * q - 3 + 3 : Nat) : Int) := by rw [wrap_in (by omega) (by omega)]; omega
    simp only [i1, i2]
    simp only [i3, Int.toNat_natCast]
    rw [if_pos (by omega), if_pos (by omega), if_pos (by omega), if_pos (by omega), if_pos (by omega), if_pos (by omega), if_pos (by omega), wrap_in (n := (q : Int) - 1) (by omega) (by omega), show (q : Int) - 1 = t - ((j + 1 : Nat) : Int) by omega, wrap_in (n := (ndW a b c d n m t (w0, w1, w2, w3) j).1 - m) (by omega) (by omega), wrap_in (n := (ndW a b c d n m t (w0, w1, w2, w3) j).2.1 - m) (by omega) (by omega), wrap_in (n := (ndW a b c d n m t (w0, w1, w2, w3) j).2.2.1 + m) (by omega) (by omega), wrap_in (n := (ndW a b c d n m t (w0, w1, w2, w3) j).2.2.2 + m) (by omega) (by omega), ← hs, ← hq]
    rfl
  · simp only [tu_pyr_Need_0, U_pyr_Need_0, LT.next, LT.run, ite2_bool, decide_eq_true_eq]
    rw [if_neg (by omega)]
  · have hk' := hk K r h
    rw [show t - ((0 : Nat) : Int) = t by simp, ndL_zero] at hk'
    exact hk'
theorem z_pyr_Need_0 : ∀ vs bl t, S_pyr_Need_0 vs bl = some (true, t) → ∃ n, ∀ (K : Ex → List V → List (Option Blk) → Option Out) r, t.run K = some r → (iter T_pyr_Need_0 n vs bl).run K = some r := by
  intro vs bl t y0'
  unfold S_pyr_Need_0 at y0'
  obtain ⟨c', vs, rfl, y1'⟩ := pO_s y0'
  obtain ⟨n, rfl, y2'⟩ := kI_s y1'
  obtain ⟨c', vs, rfl, y3'⟩ := pO_s y2'
  obtain ⟨rfl, y4'⟩ := kP_s y3'
  obtain ⟨c', vs, rfl, y5'⟩ := pO_s y4'
  obtain ⟨m, rfl, y6'⟩ := kI_s y5'
  obtain ⟨c', vs, rfl, y7'⟩ := pO_s y6'
  obtain ⟨rfl, y8'⟩ := kR_s y7'
  obtain ⟨c', vs, rfl, y9'⟩ := pO_s y8'
  obtain ⟨rfl, y10'⟩ := kP_s y9'
  obtain ⟨c', vs, rfl, y11'⟩ := pO_s y10'
  obtain ⟨t, rfl, y12'⟩ := kI_s y11'
  obtain ⟨rfl, y13'⟩ := pE_s y12'
  obtain ⟨q', bl, rfl, y14'⟩ := bB_s y13'
  obtain ⟨c', q', rfl, y15'⟩ := tC_s y14'
  obtain ⟨a, rfl, y16'⟩ := kI_s y15'
  obtain ⟨c', q', rfl, y17'⟩ := tC_s y16'
  obtain ⟨b, rfl, y18'⟩ := kI_s y17'
  obtain ⟨c', q', rfl, y19'⟩ := tC_s y18'
  obtain ⟨c, rfl, y20'⟩ := kI_s y19'
  obtain ⟨c', q', rfl, y21'⟩ := tC_s y20'
  obtain ⟨d, rfl, y22'⟩ := kI_s y21'
  obtain ⟨rfl, y23'⟩ := tE_s y22'
  obtain ⟨v, bl, rfl, y24'⟩ := bAR_s y23'
  obtain ⟨q', bl, rfl, y25'⟩ := bB_s y24'
  obtain ⟨c', q', rfl, y26'⟩ := tC_s y25'
  obtain ⟨w0, rfl, y27'⟩ := kI_s y26'
  obtain ⟨c', q', rfl, y28'⟩ := tC_s y27'
  obtain ⟨w1, rfl, y29'⟩ := kI_s y28'
  obtain ⟨c', q', rfl, y30'⟩ := tC_s y29'
  obtain ⟨w2, rfl, y31'⟩ := kI_s y30'
  obtain ⟨c', q', rfl, y32'⟩ := tC_s y31'
  obtain ⟨w3, rfl, y33'⟩ := kI_s y32'
  obtain ⟨rfl, y34'⟩ := tE_s y33'
  obtain ⟨rfl, y35'⟩ := bE_s y34'
  have yy' := y35'
  obtain ⟨hk, rfl⟩ := Prod.mk.inj (Option.some.inj yy')
  exact zz_pyr_Need_0 _ _ _ _ _ _ _ _ _ _ _ _ hk
theorem q_pyr_Need (a b c d n r e f g h k : Int) (hok : true = true) : funR Try.prog t_pyr_Need (annOf []) l_pyr_Need 20 Try.f21 [.agg [.int .i64 a, .int .i64 b, .int .i64 c, .int .i64 d], .one (.int .i64 n), .one (.int .i64 r), .agg [.int .i64 e, .int .i64 f, .int .i64 g, .int .i64 h], .one (.int .i64 k)] [] = some ⟨.one (.row 0), [], [.arr 31 (.pair (.int .i64) (.pair (.int .i64) (.pair (.int .i64) (.int .i64)))) (ndF a b c d n r e f g h k)]⟩ := by
    refine (e_pyr_Need ..).trans ?_
    simp only [ite2_bool, decide_eq_true_eq]
    have hm : (marg k == 0) = !inr 1 3 k := by
      rw [← marg_k]
      have : 0 ≤ marg k := by unfold marg; split <;> (try split) <;> omega
      by_cases h : marg k = 0
      · simp [h]
      · have h2 : marg k > 0 := by omega
        simp [h, h2]
    have hm4 : inr 0 4 (marg k) = true := by unfold marg; split <;> (try split) <;> rfl
    cases hv : valid a b c d
    · rw [show ndF a b c d n r e f g h k = [] by simp [ndF, ndOk, hv]]
      simp
    cases hn : inr 0 5 n
    · rw [show ndF a b c d n r e f g h k = [] by simp [ndF, ndOk, hn]]
      simp [count, hn]
    have hb := inr_b hn
    cases hr : inr 0 n r
    · rw [show ndF a b c d n r e f g h k = [] by simp [ndF, ndOk, hr]]
      have : r < 0 ∨ r > n := by simp [inr] at hr; omega
      have hc0 : ¬ count n = 0 := by simp only [count, hn, if_true]; omega
      rcases this with h2 | h2 <;> simp [h2, hc0]
    have hc := inr_b hr
    cases hk : inr 1 3 k
    · rw [show ndF a b c d n r e f g h k = [] by simp [ndF, ndOk, hk]]
      have hc0 : ¬ count n = 0 := by simp only [count, hn, if_true]; omega
      simp [hm, hk, hc0, show ¬ r < 0 by omega, show ¬ r > n by omega]
    have hcn : count n = 3 * n + 1 := by simp only [count, hn, if_true]
    have hc0 : (3 * n + 1 == 0) = false := by simp only [beq_eq_false_iff_ne, ne_eq]; omega
    have vw := inter_v (a := e) (b := f) (c := g) (d := h) (valid_resR a b c d n r)
    have hk0 : k_pyr_Need_0 a b c d n (marg k) (inter e f g h (resR a b c d n r).1 (resR a b c d n r).2.1 (resR a b c d n r).2.2.1 (resR a b c d n r).2.2.2).1 (inter e f g h (resR a b c d n r).1 (resR a b c d n r).2.1 (resR a b c d n r).2.2.1 (resR a b c d n r).2.2.2).2.1 (inter e f g h (resR a b c d n r).1 (resR a b c d n r).2.1 (resR a b c d n r).2.2.1 (resR a b c d n r).2.2.2).2.2.1 (inter e f g h (resR a b c d n r).1 (resR a b c d n r).2.1 (resR a b c d n r).2.2.1 (resR a b c d n r).2.2.2).2.2.2 r (List.replicate (3 * n + 1).toNat (0, 0, 0, 0)) = true := by
      simp only [k_pyr_Need_0, hn, hr, hm4, vw, decide_true, Bool.and_self]
    cases he : empty (ndIn a b c d n r e f g h).1 (ndIn a b c d n r e f g h).2.1 (ndIn a b c d n r e f g h).2.2.1 (ndIn a b c d n r e f g h).2.2.2
    · rw [show ndF a b c d n r e f g h k = (ndL a b c d n (marg k) r (ndIn a b c d n r e f g h) r.toNat).set 0 (ndW a b c d n (marg k) r (ndIn a b c d n r e f g h) r.toNat) by simp only [ndF, ndOk, hv, hn, hr, hk, he, Bool.and_self, if_true, Bool.false_eq_true, if_false]]
      unfold ndIn at he
      simp only [hm, hk, hcn, hc0, he, hk0, ndL_len, Bool.not_true, Bool.false_eq_true, if_false, if_true]
      rw [if_neg (by omega), if_neg (by omega), if_pos (by omega), if_pos (by omega), if_pos (by omega)]
      rfl
    · rw [show ndF a b c d n r e f g h k = List.replicate (count n).toNat (0, 0, 0, 0) by simp only [ndF, ndOk, hv, hn, hr, hk, he, Bool.and_self, if_true]]
      unfold ndIn at he
      simp only [hm, hk, hcn, hc0, he, Bool.not_true, Bool.false_eq_true, if_false, if_true]
      rw [if_neg (by omega), if_neg (by omega), if_pos (by omega)]
      rfl
theorem s_pyr_Need : SoundFun Try.prog 21 G_pyr_Need := by
  refine fun_ok (tab := t_pyr_Need) (ann := annOf []) (lt := l_pyr_Need) (tab_cons s_pyr_Count (tab_cons s_pyr_Resolution (tab_cons s_rect_Intersect (tab_cons s_pyr_validLevels (tab_cons s_lift_Margin (tab_cons s_rect_Valid (tab_cons s_rect_Empty (tab_cons s_dwt_Bands tab_nil)))))))) (by kernel_rfl) (fn := Try.f21) (by kernel_rfl) (by decide) (c := bodyOf Try.f21) (by kernel_rfl) (by
    intro m b hb
    have hb' : b ∈ loopsOf (bodyOf Try.f21) := hb
    rw [o_pyr_Need] at hb'
    simp only [List.mem_cons, List.not_mem_nil, or_false] at hb'
    rcases hb' with rfl
    · exact loop_ok (key := 9) (by kernel_rfl) rfl r_pyr_Need_0 z_pyr_Need_0 m
    ) ?_ (keep_nil (by kernel_rfl))
  intro args lent o y0'
  unfold G_pyr_Need at y0'
  obtain ⟨q', args, rfl, y1'⟩ := pA_s y0'
  obtain ⟨c', q', rfl, y2'⟩ := tC_s y1'
  obtain ⟨a, rfl, y3'⟩ := kI_s y2'
  obtain ⟨c', q', rfl, y4'⟩ := tC_s y3'
  obtain ⟨b, rfl, y5'⟩ := kI_s y4'
  obtain ⟨c', q', rfl, y6'⟩ := tC_s y5'
  obtain ⟨c, rfl, y7'⟩ := kI_s y6'
  obtain ⟨c', q', rfl, y8'⟩ := tC_s y7'
  obtain ⟨d, rfl, y9'⟩ := kI_s y8'
  obtain ⟨rfl, y10'⟩ := tE_s y9'
  obtain ⟨c', args, rfl, y11'⟩ := pO_s y10'
  obtain ⟨n, rfl, y12'⟩ := kI_s y11'
  obtain ⟨c', args, rfl, y13'⟩ := pO_s y12'
  obtain ⟨r, rfl, y14'⟩ := kI_s y13'
  obtain ⟨q', args, rfl, y15'⟩ := pA_s y14'
  obtain ⟨c', q', rfl, y16'⟩ := tC_s y15'
  obtain ⟨e, rfl, y17'⟩ := kI_s y16'
  obtain ⟨c', q', rfl, y18'⟩ := tC_s y17'
  obtain ⟨f, rfl, y19'⟩ := kI_s y18'
  obtain ⟨c', q', rfl, y20'⟩ := tC_s y19'
  obtain ⟨g, rfl, y21'⟩ := kI_s y20'
  obtain ⟨c', q', rfl, y22'⟩ := tC_s y21'
  obtain ⟨h, rfl, y23'⟩ := kI_s y22'
  obtain ⟨rfl, y24'⟩ := tE_s y23'
  obtain ⟨c', args, rfl, y25'⟩ := pO_s y24'
  obtain ⟨k, rfl, y26'⟩ := kI_s y25'
  obtain ⟨rfl, y27'⟩ := pE_s y26'
  obtain ⟨rfl, y28'⟩ := nE_s y27'
  have yy' := y28'
  unfold H_pyr_Need at yy'
  obtain ⟨hok, rfl⟩ := Prod.mk.inj (Option.some.inj yy')
  exact ⟨20, q_pyr_Need _ _ _ _ _ _ _ _ _ _ _ hok⟩
theorem r_pyr_Bound_0 : RoundOk Try.prog t_pyr_Bound (annOf []) l_pyr_Bound Out 20 0 70 [0, 3, 10, 38, 39] (kxOf [0, 3, 10] [8]) (loopOf Try.f23 0) T_pyr_Bound_0 := by
  intro vs bl Kc r h
  unfold T_pyr_Bound_0 at h
  obtain ⟨t, y0', h'⟩ := getD_run h
  obtain ⟨c', vs, rfl, y1'⟩ := pO_s y0'
  obtain ⟨b, rfl, y2'⟩ := kI_s y1'
  obtain ⟨c', vs, rfl, y3'⟩ := pO_s y2'
  obtain ⟨kk, rfl, y4'⟩ := kI_s y3'
  obtain ⟨c', vs, rfl, y5'⟩ := pO_s y4'
  obtain ⟨o, rfl, y6'⟩ := kI_s y5'
  obtain ⟨c', vs, rfl, y7'⟩ := pO_s y6'
  obtain ⟨m, rfl, y8'⟩ := kI_s y7'
  obtain ⟨c', vs, rfl, y9'⟩ := pO_s y8'
  obtain ⟨t, rfl, y10'⟩ := kI_s y9'
  obtain ⟨rfl, y11'⟩ := pE_s y10'
  obtain ⟨rfl, y12'⟩ := bE_s y11'
  have yy' := y12'
  cases yy'
  exact (b_pyr_Bound_0 ..).trans ((congrArg (LT.runc · Kc) (tu_pyr_Bound_0 ..)).trans h')
theorem o_pyr_Bound : loopsOf (bodyOf Try.f23) = [loopOf Try.f23 0] := by kernel_rfl
theorem zz_pyr_Bound_0 (b kk o m t : Int) (hk : k_pyr_Bound_0 b kk o m t = true) : ∃ k, ∀ (K : Ex → List V → List (Option Blk) → Option Out) r, (c_pyr_Bound_0 b kk o m t).run K = some r → (iter T_pyr_Bound_0 k [.one (.int .i64 b), .one (.int .i64 kk), .one (.int .i64 o), .one (.int .i64 m), .one (.int .i64 t)] []).run K = some r := by
  simp only [k_pyr_Bound_0, Bool.and_eq_true, decide_eq_true_eq] at hk
  obtain ⟨rfl, z1⟩ := hk
  have b1 := inr_b z1
  refine Exists.elim (z_fold (T := T_pyr_Bound_0) (st := fun j => ([.one (.int .i64 (bnB kk b j)), .one (.int .i64 kk), .one (.int .i64 o), .one (.int .i64 m), .one (.int .i64 (j : Int))], [])) m.toNat (.leaf (.exit 0) [.one (.int .i64 (bnB kk b m.toNat)), .one (.int .i64 kk), .one (.int .i64 o)] []) (fun j hj F K => ?_) (fun F K => ?_)) (fun k hk => ⟨k, fun K r h => ?_⟩)
  · simp only [tu_pyr_Bound_0, U_pyr_Bound_0, LT.next, LT.run, ite2_bool, decide_eq_true_eq]
    rw [if_pos (by omega), wrap_in (n := (j : Int) + 1) (by omega) (by omega)]
    rfl
  · simp only [tu_pyr_Bound_0, U_pyr_Bound_0, LT.next, LT.run, ite2_bool, decide_eq_true_eq]
    rw [if_neg (by omega)]
  · exact hk K r h
theorem z_pyr_Bound_0 : ∀ vs bl t, S_pyr_Bound_0 vs bl = some (true, t) → ∃ n, ∀ (K : Ex → List V → List (Option Blk) → Option Out) r, t.run K = some r → (iter T_pyr_Bound_0 n vs bl).run K = some r := by
  intro vs bl t y0'
  unfold S_pyr_Bound_0 at y0'
  obtain ⟨c', vs, rfl, y1'⟩ := pO_s y0'
  obtain ⟨b, rfl, y2'⟩ := kI_s y1'
  obtain ⟨c', vs, rfl, y3'⟩ := pO_s y2'
  obtain ⟨kk, rfl, y4'⟩ := kI_s y3'
  obtain ⟨c', vs, rfl, y5'⟩ := pO_s y4'
  obtain ⟨o, rfl, y6'⟩ := kI_s y5'
  obtain ⟨c', vs, rfl, y7'⟩ := pO_s y6'
  obtain ⟨m, rfl, y8'⟩ := kI_s y7'
  obtain ⟨c', vs, rfl, y9'⟩ := pO_s y8'
  obtain ⟨t, rfl, y10'⟩ := kI_s y9'
  obtain ⟨rfl, y11'⟩ := pE_s y10'
  obtain ⟨rfl, y12'⟩ := bE_s y11'
  have yy' := y12'
  obtain ⟨hk, rfl⟩ := Prod.mk.inj (Option.some.inj yy')
  exact zz_pyr_Bound_0 _ _ _ _ _ hk
theorem q_pyr_Bound (b n i k : Int) (hok : true = true) : funR Try.prog t_pyr_Bound (annOf []) l_pyr_Bound 20 Try.f23 [.one (.int .i64 b), .one (.int .i64 n), .one (.int .i64 i), .one (.int .i64 k)] [] = some ⟨.one (.int .i64 (bdP b n i k)), [], []⟩ := by
    refine (e_pyr_Bound ..).trans ?_
    have hm : (marg k == 0) = !inr 1 3 k := by
      rw [← marg_k]
      have : 0 ≤ marg k := by unfold marg; split <;> (try split) <;> omega
      by_cases h : marg k = 0
      · simp [h]
      · have h2 : marg k > 0 := by omega
        simp [h, h2]
    simp only [ite2_bool, decide_eq_true_eq, bdP, hm, bne_iff_ne, beq_iff_eq]
    by_cases h1 : b < 0
    · have h2 : decide (0 ≤ b) = false := by rw [decide_eq_false_iff_not]; omega
      simp [h1, h2]
    by_cases h3 : b > 1048576
    · have h2 : decide (b ≤ 1048576) = false := by rw [decide_eq_false_iff_not]; omega
      simp [h3, h2]
    cases hp : plOk i n
    · simp
    cases hk : inr 1 3 k
    · simp
    have pb := pl_b hp
    have h2 : decide (0 ≤ b) = true := by rw [decide_eq_true_eq]; omega
    have h4 : decide (b ≤ 1048576) = true := by rw [decide_eq_true_eq]; omega
    rw [h2, h4]
    by_cases hi : i = 0
    · subst hi
      have e1 : plLv 0 n = n := by simp [plLv, hp]
      have e2 : plOr 0 n = 0 := by simp [plOr, hp]
      have ki : inr 0 5 n = true := inr_t (by omega) (by omega)
      simp [k_pyr_Bound_0, e1, e2, ki, h1, h3, bdO]
    · have pd := pl_d hp hi
      have hi' : i > 0 := by omega
      have ki : inr 0 5 (plLv i n - 1) = true := inr_t (by omega) (by omega)
      have ho : plOr i n = 1 ∨ plOr i n = 2 ∨ plOr i n = 3 := by omega
      rw [wrap_in (n := plLv i n - 1) (by omega) (by omega)]
      rcases ho with ho | ho | ho <;> simp [k_pyr_Bound_0, ho, ki, hi, hi', h1, h3, bdO]
theorem s_pyr_Bound : SoundFun Try.prog 23 G_pyr_Bound := by
  refine fun_ok (tab := t_pyr_Bound) (ann := annOf []) (lt := l_pyr_Bound) (tab_cons s_pyr_Place (tab_cons s_lift_Margin (tab_cons s_lift_Low (tab_cons s_lift_High tab_nil)))) (by kernel_rfl) (fn := Try.f23) (by kernel_rfl) (by decide) (c := bodyOf Try.f23) (by kernel_rfl) (by
    intro m b hb
    have hb' : b ∈ loopsOf (bodyOf Try.f23) := hb
    rw [o_pyr_Bound] at hb'
    simp only [List.mem_cons, List.not_mem_nil, or_false] at hb'
    rcases hb' with rfl
    · exact loop_ok (key := 7) (by kernel_rfl) rfl r_pyr_Bound_0 z_pyr_Bound_0 m
    ) ?_ (keep_nil (by kernel_rfl))
  intro args lent o y0'
  unfold G_pyr_Bound at y0'
  obtain ⟨c', args, rfl, y1'⟩ := pO_s y0'
  obtain ⟨b, rfl, y2'⟩ := kI_s y1'
  obtain ⟨c', args, rfl, y3'⟩ := pO_s y2'
  obtain ⟨n, rfl, y4'⟩ := kI_s y3'
  obtain ⟨c', args, rfl, y5'⟩ := pO_s y4'
  obtain ⟨i, rfl, y6'⟩ := kI_s y5'
  obtain ⟨c', args, rfl, y7'⟩ := pO_s y6'
  obtain ⟨k, rfl, y8'⟩ := kI_s y7'
  obtain ⟨rfl, y9'⟩ := pE_s y8'
  obtain ⟨rfl, y10'⟩ := nE_s y9'
  have yy' := y10'
  unfold H_pyr_Bound at yy'
  obtain ⟨hok, rfl⟩ := Prod.mk.inj (Option.some.inj yy')
  exact ⟨20, q_pyr_Bound _ _ _ _ hok⟩
theorem r_ref06_Bound_0 : RoundOk Try.prog t_ref06_Bound (annOf []) l_ref06_Bound Out 20 0 72 [0, 2, 3, 9, 10, 12] (kxOf [0, 2, 3, 10] [8]) (loopOf Try.f24 0) T_ref06_Bound_0 := by
  intro vs bl Kc r h
  unfold T_ref06_Bound_0 at h
  obtain ⟨t, y0', h'⟩ := getD_run h
  obtain ⟨c', vs, rfl, y1'⟩ := pO_s y0'
  obtain ⟨b, rfl, y2'⟩ := kI_s y1'
  obtain ⟨c', vs, rfl, y3'⟩ := pO_s y2'
  obtain ⟨i, rfl, y4'⟩ := kI_s y3'
  obtain ⟨c', vs, rfl, y5'⟩ := pO_s y4'
  obtain ⟨kk, rfl, y6'⟩ := kI_s y5'
  obtain ⟨c', vs, rfl, y7'⟩ := pO_s y6'
  obtain ⟨m, rfl, y8'⟩ := kI_s y7'
  obtain ⟨c', vs, rfl, y9'⟩ := pO_s y8'
  obtain ⟨o, rfl, y10'⟩ := kI_s y9'
  obtain ⟨c', vs, rfl, y11'⟩ := pO_s y10'
  obtain ⟨t, rfl, y12'⟩ := kI_s y11'
  obtain ⟨rfl, y13'⟩ := pE_s y12'
  obtain ⟨rfl, y14'⟩ := bE_s y13'
  have yy' := y14'
  cases yy'
  exact (b_ref06_Bound_0 ..).trans ((congrArg (LT.runc · Kc) (tu_ref06_Bound_0 ..)).trans h')
theorem o_ref06_Bound : loopsOf (bodyOf Try.f24) = [loopOf Try.f24 0] := by kernel_rfl
theorem zz_ref06_Bound_0 (b i kk o m t : Int) (hk : k_ref06_Bound_0 b i kk o m t = true) : ∃ k, ∀ (K : Ex → List V → List (Option Blk) → Option Out) r, (c_ref06_Bound_0 b i kk o m t).run K = some r → (iter T_ref06_Bound_0 k [.one (.int .i64 b), .one (.int .i64 i), .one (.int .i64 kk), .one (.int .i64 m), .one (.int .i64 o), .one (.int .i64 t)] []).run K = some r := by
  simp only [k_ref06_Bound_0, Bool.and_eq_true, decide_eq_true_eq] at hk
  obtain ⟨rfl, z1⟩ := hk
  have b1 := inr_b z1
  refine Exists.elim (z_fold (T := T_ref06_Bound_0) (st := fun j => ([.one (.int .i64 (bnB kk b j)), .one (.int .i64 i), .one (.int .i64 kk), .one (.int .i64 m), .one (.int .i64 o), .one (.int .i64 (j : Int))], [])) m.toNat (.leaf (.exit 0) [.one (.int .i64 (bnB kk b m.toNat)), .one (.int .i64 i), .one (.int .i64 kk), .one (.int .i64 o)] []) (fun j hj F K => ?_) (fun F K => ?_)) (fun k hk => ⟨k, fun K r h => ?_⟩)
  · simp only [tu_ref06_Bound_0, U_ref06_Bound_0, LT.next, LT.run, ite2_bool, decide_eq_true_eq]
    rw [if_pos (by omega), wrap_in (n := (j : Int) + 1) (by omega) (by omega)]
    rfl
  · simp only [tu_ref06_Bound_0, U_ref06_Bound_0, LT.next, LT.run, ite2_bool, decide_eq_true_eq]
    rw [if_neg (by omega)]
  · exact hk K r h
theorem z_ref06_Bound_0 : ∀ vs bl t, S_ref06_Bound_0 vs bl = some (true, t) → ∃ n, ∀ (K : Ex → List V → List (Option Blk) → Option Out) r, t.run K = some r → (iter T_ref06_Bound_0 n vs bl).run K = some r := by
  intro vs bl t y0'
  unfold S_ref06_Bound_0 at y0'
  obtain ⟨c', vs, rfl, y1'⟩ := pO_s y0'
  obtain ⟨b, rfl, y2'⟩ := kI_s y1'
  obtain ⟨c', vs, rfl, y3'⟩ := pO_s y2'
  obtain ⟨i, rfl, y4'⟩ := kI_s y3'
  obtain ⟨c', vs, rfl, y5'⟩ := pO_s y4'
  obtain ⟨kk, rfl, y6'⟩ := kI_s y5'
  obtain ⟨c', vs, rfl, y7'⟩ := pO_s y6'
  obtain ⟨m, rfl, y8'⟩ := kI_s y7'
  obtain ⟨c', vs, rfl, y9'⟩ := pO_s y8'
  obtain ⟨o, rfl, y10'⟩ := kI_s y9'
  obtain ⟨c', vs, rfl, y11'⟩ := pO_s y10'
  obtain ⟨t, rfl, y12'⟩ := kI_s y11'
  obtain ⟨rfl, y13'⟩ := pE_s y12'
  obtain ⟨rfl, y14'⟩ := bE_s y13'
  have yy' := y14'
  obtain ⟨hk, rfl⟩ := Prod.mk.inj (Option.some.inj yy')
  exact zz_ref06_Bound_0 _ _ _ _ _ _ hk
theorem q_ref06_Bound (b n i k : Int) (hok : true = true) : funR Try.prog t_ref06_Bound (annOf []) l_ref06_Bound 20 Try.f24 [.one (.int .i64 b), .one (.int .i64 n), .one (.int .i64 i), .one (.int .i64 k)] [] = some ⟨.one (.int .i64 (bdP b n i k)), [], []⟩ := by
    refine (e_ref06_Bound ..).trans ?_
    have hm : (marg k == 0) = !inr 1 3 k := by
      rw [← marg_k]
      have : 0 ≤ marg k := by unfold marg; split <;> (try split) <;> omega
      by_cases h : marg k = 0
      · simp [h]
      · have h2 : marg k > 0 := by omega
        simp [h, h2]
    simp only [ite2_bool, decide_eq_true_eq, bdP, hm, bne_iff_ne, beq_iff_eq]
    by_cases h1 : b < 0
    · have h2 : decide (0 ≤ b) = false := by rw [decide_eq_false_iff_not]; omega
      simp [h1, h2]
    by_cases h3 : b > 1048576
    · have h2 : decide (b ≤ 1048576) = false := by rw [decide_eq_false_iff_not]; omega
      simp [h3, h2]
    cases hp : plOk i n
    · simp
    cases hk : inr 1 3 k
    · simp
    have pb := pl_b hp
    have h2 : decide (0 ≤ b) = true := by rw [decide_eq_true_eq]; omega
    have h4 : decide (b ≤ 1048576) = true := by rw [decide_eq_true_eq]; omega
    rw [h2, h4]
    by_cases hi : i = 0
    · subst hi
      have e1 : plLv 0 n = n := by simp [plLv, hp]
      have e2 : plOr 0 n = 0 := by simp [plOr, hp]
      have ki : inr 0 5 n = true := inr_t (by omega) (by omega)
      simp [k_ref06_Bound_0, e1, e2, ki, h1, h3, bdO]
    · have pd := pl_d hp hi
      have hi' : i > 0 := by omega
      have ki : inr 0 5 (plLv i n - 1) = true := inr_t (by omega) (by omega)
      have ho : plOr i n = 1 ∨ plOr i n = 2 ∨ plOr i n = 3 := by omega
      rw [wrap_in (n := plLv i n - 1) (by omega) (by omega)]
      rcases ho with ho | ho | ho <;> simp [k_ref06_Bound_0, ho, ki, hi, hi', h1, h3, bdO]
theorem s_ref06_Bound : SoundFun Try.prog 24 G_ref06_Bound := by
  refine fun_ok (tab := t_ref06_Bound) (ann := annOf []) (lt := l_ref06_Bound) (tab_cons s_ref06_Place (tab_cons s_ref05_Known (tab_cons s_ref04_Low (tab_cons s_ref04_High tab_nil)))) (by kernel_rfl) (fn := Try.f24) (by kernel_rfl) (by decide) (c := bodyOf Try.f24) (by kernel_rfl) (by
    intro m b hb
    have hb' : b ∈ loopsOf (bodyOf Try.f24) := hb
    rw [o_ref06_Bound] at hb'
    simp only [List.mem_cons, List.not_mem_nil, or_false] at hb'
    rcases hb' with rfl
    · exact loop_ok (key := 7) (by kernel_rfl) rfl r_ref06_Bound_0 z_ref06_Bound_0 m
    ) ?_ (keep_nil (by kernel_rfl))
  intro args lent o y0'
  unfold G_ref06_Bound at y0'
  obtain ⟨c', args, rfl, y1'⟩ := pO_s y0'
  obtain ⟨b, rfl, y2'⟩ := kI_s y1'
  obtain ⟨c', args, rfl, y3'⟩ := pO_s y2'
  obtain ⟨n, rfl, y4'⟩ := kI_s y3'
  obtain ⟨c', args, rfl, y5'⟩ := pO_s y4'
  obtain ⟨i, rfl, y6'⟩ := kI_s y5'
  obtain ⟨c', args, rfl, y7'⟩ := pO_s y6'
  obtain ⟨k, rfl, y8'⟩ := kI_s y7'
  obtain ⟨rfl, y9'⟩ := pE_s y8'
  obtain ⟨rfl, y10'⟩ := nE_s y9'
  have yy' := y10'
  unfold H_ref06_Bound at yy'
  obtain ⟨hok, rfl⟩ := Prod.mk.inj (Option.some.inj yy')
  exact ⟨20, q_ref06_Bound _ _ _ _ hok⟩
theorem sp_plV {a b c d k : Int} {l : List Int} (e : spErr a b c d k l = 0) : plV (bnd a b c d 0).1 (bnd a b c d 0).2.1 (bnd a b c d 0).2.2.1 (bnd a b c d 0).2.2.2 (spD0 a b c d k l) = true := by
  obtain ⟨hv, hk, hf⟩ := spErr_s e
  have pb := plV_b hv
  have hB := bnd_v pb.1
  have wb := bw_bh pb.1
  have sl := (spD_len e).1
  rw [wb.1, wb.2.2.1] at sl
  have ce := cev_bd (s := a) (n := c - a) (by omega)
  have cf := cev_bd (s := b) (n := d - b) (by omega)
  have h5 := Int.mul_le_mul ce.2 cf.2 cf.1 (by omega : 0 ≤ c - a)
  exact plV_n (l := spD0 a b c d k l) (x := cev a (c - a)) (y := cev b (d - b)) (valid_bnd (a := a) (b := b) (c := c) (d := d) (o := 0) (by omega) (by omega)) (by simp only [hB.1, cev]; omega) (by simp only [hB.1, cev]; omega) sl (by omega)
theorem spErr_i {a b c d k : Int} {l : List Int} (h1 : plV a b c d l = true) (h2 : inr 1 3 k = true) (h3 : fit 35184372088832 l) : spErr a b c d k l = 0 := by
  simp [spErr, h1, h2, fit_fitB h3]
theorem anS_ok {k : Int} {q : Rc × List Int} (hv : plVR q = true) (hk : inr 1 3 k = true) (hf : fit 1048576 q.2) : ∀ j, j ≤ 5 → plVR (anS k j q) = true ∧ fit (6 ^ j * 1048576) (anS k j q).2 ∧ spErr (anS k j q).1.1 (anS k j q).1.2.1 (anS k j q).1.2.2.1 (anS k j q).1.2.2.2 k (anS k j q).2 = 0
  | 0, _ => ⟨hv, by simpa [anS] using hf, spErr_i hv hk (fit_mono hf (by omega))⟩
  | j + 1, hj => by
    obtain ⟨h1, h2, h3⟩ := anS_ok hv hk hf j (by omega)
    have hB : (1 : Int) ≤ 6 ^ j ∧ (6 : Int) ^ j ≤ 1296 := by
      have : ∀ m : Nat, m < 5 → (1 : Int) ≤ 6 ^ m ∧ (6 : Int) ^ m ≤ 1296 := by decide
      exact this j (by omega)
    have e6 : (6 : Int) ^ (j + 1) = 6 ^ j * 6 := rfl
    have q0 := hb_le (b := 6 ^ j * 1048576) (k := k) (by omega) (inr_b hk)
    have q1 := hb_le (b := lb (6 ^ j * 1048576) k) (k := k) (by omega) (inr_b hk)
    have sf := (spD_fit h3 (by omega) h2).1
    have pv := sp_plV h3
    have f6 : fit (6 ^ (j + 1) * 1048576) (anS k (j + 1) q).2 := fit_mono sf (by rw [e6]; omega)
    exact ⟨pv, f6, spErr_i pv hk (fit_mono f6 (by rw [e6]; omega))⟩
theorem anAt_at {n k : Int} {q : Rc × List Int} {j t : Nat} (ht : n - (j : Int) = t) (h1 : 1 ≤ t) (o : Nat) (ho : 1 ≤ o) (ho3 : o ≤ 3) : anAt n k q (3 * t - 3 + o) = plT (bndR (anS k j q).1 o) (spDo o (anS k j q).1 k (anS k j q).2) := by
  have e1 : ((3 * t - 3 + o + 2 : Nat) : Int) / 3 = t := by omega
  have e2 : ((3 * t - 3 + o : Nat) : Int) - 3 * (((3 * t - 3 + o + 2 : Nat) : Int) / 3) + 3 = o := by rw [e1]; omega
  have e3 : (n - ((3 * t - 3 + o + 2 : Nat) : Int) / 3).toNat = j := by rw [e1]; omega
  unfold anAt
  rw [if_neg (by omega), e2, e3]
theorem anL_step {n k : Int} {q : Rc × List Int} {j t : Nat} (ht : n - (j : Int) = t) (h1 : 1 ≤ t) : (((anL n k q j).set (3 * t - 3 + 1) (plT (bndR (anS k j q).1 1) (spDo 1 (anS k j q).1 k (anS k j q).2))).set (3 * t - 3 + 2) (plT (bndR (anS k j q).1 2) (spDo 2 (anS k j q).1 k (anS k j q).2))).set (3 * t - 3 + 3) (plT (bndR (anS k j q).1 3) (spDo 3 (anS k j q).1 k (anS k j q).2)) = anL n k q (j + 1) := by
  have a1 := anAt_at (k := k) (q := q) ht h1 1 (by omega) (by omega)
  have a2 := anAt_at (k := k) (q := q) ht h1 2 (by omega) (by omega)
  have a3 := anAt_at (k := k) (q := q) ht h1 3 (by omega) (by omega)
  have g : ∀ o : Nat, 1 ≤ o → o ≤ 3 → anG n k q (j + 1) (3 * t - 3 + o) = anAt n k q (3 * t - 3 + o) := by
    intro o h2 h3
    unfold anG
    rw [if_pos (by omega)]
  have s := set3 (anG n k q j) (anG n k q (j + 1)) (3 * n + 1).toNat t h1 (fun i hi hne => by
    unfold anG
    by_cases hc : 1 ≤ i ∧ n - (i + 2 : Nat) / 3 < (j : Int)
    · rw [if_pos hc, if_pos (by omega)]
    · rw [if_neg hc, if_neg (by omega)])
  rw [g 1 (by omega) (by omega), g 2 (by omega) (by omega), g 3 (by omega) (by omega), a1, a2, a3] at s
  exact s
theorem anL_end {n k : Int} {q : Rc × List Int} (h0 : 0 ≤ n) : (anL n k q n.toNat).set 0 (plT (anS k n.toNat q).1 (anS k n.toNat q).2) = (List.range (3 * n + 1).toNat).map (anAt n k q) := by
  apply List.ext_getElem (by simp [anL])
  intro i h1 h2
  simp only [List.length_map, List.length_range] at h2
  simp only [anL, List.getElem_set, List.getElem_map, List.getElem_range]
  split
  · rename_i e; subst e; rfl
  · rw [if_pos (by omega)]
theorem anL_zero {n k : Int} {q : Rc × List Int} : anL n k q 0 = List.replicate (3 * n + 1).toNat ((0, 0, 0, 0), []) := by
  apply List.ext_getElem (by simp [anL])
  intro i h1 h2
  simp only [List.length_replicate] at h2
  simp only [anL, List.getElem_map, List.getElem_range, List.getElem_replicate]
  rw [if_neg (by omega)]
theorem r_pyr_Analyze_0 : RoundOk Try.prog t_pyr_Analyze (annOf []) l_pyr_Analyze Out 20 0 71 [2, 8, 9, 10] (kxOf [8, 9] [6, 7]) (loopOf Try.f18 0) T_pyr_Analyze_0 := by
  intro vs bl Kc r h
  unfold T_pyr_Analyze_0 at h
  obtain ⟨t, y0', h'⟩ := getD_run h
  obtain ⟨c', vs, rfl, y1'⟩ := pO_s y0'
  obtain ⟨kk, rfl, y2'⟩ := kI_s y1'
  obtain ⟨c', vs, rfl, y3'⟩ := pO_s y2'
  obtain ⟨rfl, y4'⟩ := kR_s y3'
  obtain ⟨c', vs, rfl, y5'⟩ := pO_s y4'
  obtain ⟨rfl, y6'⟩ := kP_s y5'
  obtain ⟨c', vs, rfl, y7'⟩ := pO_s y6'
  obtain ⟨n, rfl, y8'⟩ := kI_s y7'
  obtain ⟨rfl, y9'⟩ := pE_s y8'
  obtain ⟨v, bl, rfl, y10'⟩ := bAN_s y9'
  obtain ⟨q', bl, rfl, y11'⟩ := bB_s y10'
  obtain ⟨a, b, c, d, rfl, y12'⟩ := rd1P_s y11'
  obtain ⟨l, bl, rfl, y13'⟩ := bAI_s y12'
  obtain ⟨rfl, y14'⟩ := bE_s y13'
  have yy' := y14'
  cases yy'
  exact (b_pyr_Analyze_0 ..).trans ((congrArg (LT.runc · Kc) (tu_pyr_Analyze_0 ..)).trans h')
theorem o_pyr_Analyze : loopsOf (bodyOf Try.f18) = [loopOf Try.f18 0, loopOf Try.f18 1] := by kernel_rfl
theorem zz_pyr_Analyze_0 (a b c d n kk : Int) (l : List Int) (v : List (Rc × List Int)) (hk : k_pyr_Analyze_0 a b c d n kk l v = true) : ∃ k, ∀ (K : Ex → List V → List (Option Blk) → Option Out) r, (c_pyr_Analyze_0 a b c d n kk l v).run K = some r → (iter T_pyr_Analyze_0 k [.one (.int .i64 kk), .one (.row 0), .one (.ptr 1 0), .one (.int .i64 n)] [some (.arr 33 (.pair (.pair (.int .i64) (.pair (.int .i64) (.pair (.int .i64) (.int .i64)))) (.sl (.int .i64))) v), some (.box [.int .i64 a, .int .i64 b, .int .i64 c, .int .i64 d, .row 2]), some (.arr 3 (.int .i64) l)]).run K = some r := by
  simp only [k_pyr_Analyze_0, Bool.and_eq_true, decide_eq_true_eq] at hk
  obtain ⟨⟨⟨⟨z1, hv⟩, z2⟩, hf⟩, rfl⟩ := hk
  have b1 := inr_b z1
  have so := anS_ok (k := kk) (q := ((a, b, c, d), l)) hv z2 (fitB_fit hf)
  refine Exists.elim (z_fold (T := T_pyr_Analyze_0) (st := fun j => ([.one (.int .i64 kk), .one (.row 0), .one (.ptr 1 0), .one (.int .i64 (n - (j : Int)))], [some (.arr 33 (.pair (.pair (.int .i64) (.pair (.int .i64) (.pair (.int .i64) (.int .i64)))) (.sl (.int .i64))) (anL n kk ((a, b, c, d), l) j)), some (.box [.int .i64 ((anS kk j ((a, b, c, d), l)).1.1), .int .i64 ((anS kk j ((a, b, c, d), l)).1.2.1), .int .i64 ((anS kk j ((a, b, c, d), l)).1.2.2.1), .int .i64 ((anS kk j ((a, b, c, d), l)).1.2.2.2), .row 2]), some (.arr 3 (.int .i64) (anS kk j ((a, b, c, d), l)).2)])) n.toNat (.leaf (.exit 0) [.one (.row 0), .one (.ptr 1 0)] [some (.arr 33 (.pair (.pair (.int .i64) (.pair (.int .i64) (.pair (.int .i64) (.int .i64)))) (.sl (.int .i64))) (anL n kk ((a, b, c, d), l) n.toNat)), some (.box [.int .i64 ((anS kk n.toNat ((a, b, c, d), l)).1.1), .int .i64 ((anS kk n.toNat ((a, b, c, d), l)).1.2.1), .int .i64 ((anS kk n.toNat ((a, b, c, d), l)).1.2.2.1), .int .i64 ((anS kk n.toNat ((a, b, c, d), l)).1.2.2.2), .row 2]), some (.arr 3 (.int .i64) (anS kk n.toNat ((a, b, c, d), l)).2)]) (fun j hj F K => ?_) (fun F K => ?_)) (fun k hk => ⟨k, fun K r h => ?_⟩)
  · obtain ⟨q, hq⟩ : ∃ q : Nat, n - (j : Int) = q := ⟨(n - (j : Int)).toNat, by omega⟩
    obtain ⟨p1, p2, p3⟩ := so j (by omega)
    have pb := plV_b p1
    have hl : (anL n kk ((a, b, c, d), l) j).length = (3 * n + 1).toNat := by simp [anL]
    have hs := anL_step (k := kk) (q := ((a, b, c, d), l)) hq (by omega)
    have hr : ∀ o, spR (anS kk j ((a, b, c, d), l)).1.1 (anS kk j ((a, b, c, d), l)).1.2.1 (anS kk j ((a, b, c, d), l)).1.2.2.1 (anS kk j ((a, b, c, d), l)).1.2.2.2 kk (anS kk j ((a, b, c, d), l)).2 o = bnd (anS kk j ((a, b, c, d), l)).1.1 (anS kk j ((a, b, c, d), l)).1.2.1 (anS kk j ((a, b, c, d), l)).1.2.2.1 (anS kk j ((a, b, c, d), l)).1.2.2.2 o := fun o => by simp only [spR, p3, if_true]
    have hsm : small (anS kk j ((a, b, c, d), l)).2.length = true := by simp only [small, decide_eq_true_eq]; omega
    simp only [tu_pyr_Analyze_0, U_pyr_Analyze_0, LT.next, LT.run, ite2_bool, decide_eq_true_eq, hq, List.length_set, hl, hr, p3]
    have i1 : IntKind.wrap .i64 (IntKind.wrap .i64 (IntKind.wrap .i64 (3 * (q : Int)) - 3) + 1) = ((3 * q - 3 + 1 : Nat) : Int) := by rw [wrap_in (n := 3 * (q : Int)) (by omega) (by omega), wrap_in (n := 3 * (q : Int) - 3) (by omega) (by omega), wrap_in (by omega) (by omega)]; omega
    have i2 : IntKind.wrap .i64 (IntKind.wrap .i64 (IntKind.wrap .i64 (3 * (q : Int)) - 3) + 2) = ((3 * q - 3 + 2 : Nat) : Int) := by rw [wrap_in (n := 3 * (q : Int)) (by omega) (by omega), wrap_in (n := 3 * (q : Int) - 3) (by omega) (by omega), wrap_in (by omega) (by omega)]; omega
    have i3 : IntKind.wrap .i64 (IntKind.wrap .i64 (IntKind.wrap .i64 (3 * (q : Int)) - 3) + 3) = ((3 * q - 3 + 3 : Nat) : Int) := by rw [wrap_in (n := 3 * (q : Int)) (by omega) (by omega), wrap_in (n := 3 * (q : Int) - 3) (by omega) (by omega), wrap_in (by omega) (by omega)]; omega
    simp only [i1, i2]
    simp only [i3, Int.toNat_natCast]
    rw [if_pos (by omega), if_pos hsm, if_neg (by decide), if_pos (by omega), if_pos (by omega), if_pos (by omega), if_pos (by omega), if_pos (by omega), if_pos (by omega), wrap_in (n := (q : Int) - 1) (by omega) (by omega), show (q : Int) - 1 = n - ((j + 1 : Nat) : Int) by omega, ← hs]
    rfl
  · simp only [tu_pyr_Analyze_0, U_pyr_Analyze_0, LT.next, LT.run, ite2_bool, decide_eq_true_eq]
    rw [if_neg (by omega)]
  · have hk' := hk K r h
    rw [show n - ((0 : Nat) : Int) = n by simp, anL_zero] at hk'
    exact hk'
theorem z_pyr_Analyze_0 : ∀ vs bl t, S_pyr_Analyze_0 vs bl = some (true, t) → ∃ n, ∀ (K : Ex → List V → List (Option Blk) → Option Out) r, t.run K = some r → (iter T_pyr_Analyze_0 n vs bl).run K = some r := by
  intro vs bl t y0'
  unfold S_pyr_Analyze_0 at y0'
  obtain ⟨c', vs, rfl, y1'⟩ := pO_s y0'
  obtain ⟨kk, rfl, y2'⟩ := kI_s y1'
  obtain ⟨c', vs, rfl, y3'⟩ := pO_s y2'
  obtain ⟨rfl, y4'⟩ := kR_s y3'
  obtain ⟨c', vs, rfl, y5'⟩ := pO_s y4'
  obtain ⟨rfl, y6'⟩ := kP_s y5'
  obtain ⟨c', vs, rfl, y7'⟩ := pO_s y6'
  obtain ⟨n, rfl, y8'⟩ := kI_s y7'
  obtain ⟨rfl, y9'⟩ := pE_s y8'
  obtain ⟨v, bl, rfl, y10'⟩ := bAN_s y9'
  obtain ⟨q', bl, rfl, y11'⟩ := bB_s y10'
  obtain ⟨a, b, c, d, rfl, y12'⟩ := rd1P_s y11'
  obtain ⟨l, bl, rfl, y13'⟩ := bAI_s y12'
  obtain ⟨rfl, y14'⟩ := bE_s y13'
  have yy' := y14'
  obtain ⟨hk, rfl⟩ := Prod.mk.inj (Option.some.inj yy')
  exact zz_pyr_Analyze_0 _ _ _ _ _ _ _ _ hk
theorem q_pyr_Analyze (a b c d n k : Int) (l : List Int) (hok : small l.length = true) : funR Try.prog t_pyr_Analyze (annOf []) l_pyr_Analyze 20 Try.f18 [.agg [.int .i64 a, .int .i64 b, .int .i64 c, .int .i64 d, .lst (.int .i64) l], .one (.int .i64 n), .one (.int .i64 k)] [] = some ⟨.tup [(false, [.row 0]), (false, [.int .i64 (anErr a b c d n k l)])], [], [.arr 33 (.pair (.pair (.int .i64) (.pair (.int .i64) (.pair (.int .i64) (.int .i64)))) (.sl (.int .i64))) (anF a b c d n k l)]⟩ := by
    refine (e_pyr_Analyze ..).trans ?_
    have hm : (marg k == 0) = !inr 1 3 k := by
      rw [← marg_k]
      have : 0 ≤ marg k := by unfold marg; split <;> (try split) <;> omega
      by_cases h : marg k = 0
      · simp [h]
      · have h2 : marg k > 0 := by omega
        simp [h, h2]
    simp only [ite2_bool, decide_eq_true_eq, hm, List.nil_append, Nat.zero_add]
    cases hv : plV a b c d l
    · simp [anErr, anF, hv] <;> rfl
    cases hk : inr 1 3 k
    · simp [anErr, anF, hv, hk] <;> rfl
    cases hn : inr 0 5 n
    · simp [anErr, anF, hv, hk, hn, count] <;> rfl
    cases hf : fitB 1048576 l
    · have hb := inr_b hn
      have hc0 : ¬ count n = 0 := by simp only [count, hn, if_true]; omega
      simp [anErr, anF, hv, hk, hn, hf, hok, hc0] <;> rfl
    have pb := plV_b hv
    have hb := inr_b hn
    have e : anErr a b c d n k l = 0 := by simp [anErr, hv, hk, hn, hf]
    have hcn : count n = 3 * n + 1 := by simp only [count, hn, if_true]
    have hc0 : (3 * n + 1 == 0) = false := by simp only [beq_eq_false_iff_ne, ne_eq]; omega
    have hl : (anL n k ((a, b, c, d), l) n.toNat).length = (3 * n + 1).toNat := by simp [anL]
    rw [hcn, e]
    simp only [hc0, hok, Bool.and_true, Bool.not_true, Bool.false_eq_true, if_false, if_true, hl]
    rw [if_pos (by omega), if_pos (by omega), if_pos (by simp only [k_pyr_Analyze_0, hn, hv, hk, hf, decide_true, Bool.and_self]), if_pos (by omega), if_pos (by omega)]
    unfold anF
    rw [if_pos e, ← anL_end hb.1]
    rfl
theorem s_pyr_Analyze : SoundFun Try.prog 18 G_pyr_Analyze := by
  refine fun_ok (tab := t_pyr_Analyze) (ann := annOf []) (lt := l_pyr_Analyze) (tab_cons s_pyr_Count (tab_cons s_dwt_Split (tab_cons s_pyr_validLevels (tab_cons s_pl_Valid (tab_cons s_lift_Margin (tab_cons s_pyr_exceeds tab_nil)))))) (by kernel_rfl) (fn := Try.f18) (by kernel_rfl) (by decide) (c := bodyOf Try.f18) (by kernel_rfl) (by
    intro m b hb
    have hb' : b ∈ loopsOf (bodyOf Try.f18) := hb
    rw [o_pyr_Analyze] at hb'
    simp only [List.mem_cons, List.not_mem_nil, or_false] at hb'
    rcases hb' with rfl | rfl
    · exact loop_ok (key := 10) (by kernel_rfl) rfl r_pyr_Analyze_0 z_pyr_Analyze_0 m
    · exact loop_none (by kernel_rfl) m
    ) ?_ (keep_nil (by kernel_rfl))
  intro args lent o y0'
  unfold G_pyr_Analyze at y0'
  obtain ⟨q', args, rfl, y1'⟩ := pA_s y0'
  obtain ⟨c', q', rfl, y2'⟩ := tC_s y1'
  obtain ⟨a, rfl, y3'⟩ := kI_s y2'
  obtain ⟨c', q', rfl, y4'⟩ := tC_s y3'
  obtain ⟨b, rfl, y5'⟩ := kI_s y4'
  obtain ⟨c', q', rfl, y6'⟩ := tC_s y5'
  obtain ⟨c, rfl, y7'⟩ := kI_s y6'
  obtain ⟨c', q', rfl, y8'⟩ := tC_s y7'
  obtain ⟨d, rfl, y9'⟩ := kI_s y8'
  obtain ⟨c', q', rfl, y10'⟩ := tC_s y9'
  obtain ⟨l, rfl, y11'⟩ := kLI_s y10'
  obtain ⟨rfl, y12'⟩ := tE_s y11'
  obtain ⟨c', args, rfl, y13'⟩ := pO_s y12'
  obtain ⟨n, rfl, y14'⟩ := kI_s y13'
  obtain ⟨c', args, rfl, y15'⟩ := pO_s y14'
  obtain ⟨k, rfl, y16'⟩ := kI_s y15'
  obtain ⟨rfl, y17'⟩ := pE_s y16'
  obtain ⟨rfl, y18'⟩ := nE_s y17'
  have yy' := y18'
  unfold H_pyr_Analyze at yy'
  obtain ⟨hok, rfl⟩ := Prod.mk.inj (Option.some.inj yy')
  exact ⟨20, q_pyr_Analyze _ _ _ _ _ _ _ hok⟩
end Go.Rx.Ch06

set_option linter.unusedVariables false
set_option linter.unusedSimpArgs false
set_option maxRecDepth 100000
set_option maxHeartbeats 40000000
open Go Go.Rx Go.Proofs
namespace Go.Rx.Ch06
end Go.Rx.Ch06

set_option linter.unusedVariables false
set_option linter.unusedSimpArgs false
set_option maxRecDepth 100000
set_option maxHeartbeats 40000000
open Go Go.Rx Go.Proofs
namespace Go.Rx.Ch06
theorem smAll_ix {l : List (Rc × List Int)} (h : smAll l = true) {i : Nat} (hi : i < l.length) : small l[i].2.length = true := by
  unfold smAll at h
  rw [List.all_eq_true] at h
  exact h _ (List.getElem_mem hi)
theorem q_awake  (hok : true = true) : funR Try.prog t_awake (annOf []) l_awake 20 Try.f17 [] [] = some ⟨.one (.bool true), [], []⟩ := by
    refine (e_awake ..).trans ?_
    kernel_rfl
theorem s_awake : SoundFun Try.prog 17 G_awake := by
  refine fun_ok (tab := t_awake) (ann := annOf []) (lt := l_awake) (tab_cons s_pyr_Place (tab_cons s_pyr_Count (tab_cons s_pyr_Indices (tab_cons s_pyr_Analyze (tab_cons s_pyr_Need (tab_cons s_pyr_Bound (tab_cons s_pyr_Resolution tab_nil))))))) (by kernel_rfl) (fn := Try.f17) (by kernel_rfl) (by decide) (c := bodyOf Try.f17) (by kernel_rfl) (fun m b hb => absurd hb (by show b ∉ loopsOf (bodyOf Try.f17); rw [show loopsOf (bodyOf Try.f17) = [] from by kernel_rfl]; exact List.not_mem_nil)) ?_ (keep_nil (by kernel_rfl))
  intro args lent o y0'
  unfold G_awake at y0'
  obtain ⟨rfl, y1'⟩ := pE_s y0'
  obtain ⟨rfl, y2'⟩ := nE_s y1'
  have yy' := y2'
  unfold H_awake at yy'
  obtain ⟨hok, rfl⟩ := Prod.mk.inj (Option.some.inj yy')
  exact ⟨20, q_awake hok⟩
end Go.Rx.Ch06

