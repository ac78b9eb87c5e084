/- The summaries of these functions are sound. -/
import Derived.Test.YtcdmkbpmgeeghaaRE1
import Derived.Test.YtcdmkbpmgeeghaaRS2
set_option linter.unnecessarySimpa false
set_option linter.unusedVariables false
set_option linter.unusedSimpArgs false
set_option maxRecDepth 100000
set_option maxHeartbeats 40000000
open Go Go.Rx Go.Proofs
namespace Go.Rx.Ch06
theorem pos_inj {g x x' y j : Nat} (hx : x < g) (hx' : x' < g) (h : y * g + x' = j * g + x) : y = j ∧ x' = x := by
  have e1 : (y * g + x') / g = y := by rw [Nat.add_comm, Nat.add_mul_div_right _ _ (by omega), Nat.div_eq_of_lt hx', Nat.zero_add]
  have e2 : (j * g + x) / g = j := by rw [Nat.add_comm, Nat.add_mul_div_right _ _ (by omega), Nat.div_eq_of_lt hx, Nat.zero_add]
  have : y = j := by rw [← e1, h, e2]
  subst this
  exact ⟨rfl, by omega⟩
theorem pos_lt {g n x y : Nat} (hx : x < g) (hy : y < n) : y * g + x < n * g := by
  have : (y + 1) * g ≤ n * g := Nat.mul_le_mul_right _ (by omega)
  rw [Nat.add_mul, Nat.one_mul] at this
  omega
theorem mat_ext {l m : List Int} {n g : Nat} (h1 : l.length = n * g) (h2 : m.length = n * g) (h : ∀ y, y < n → ∀ x, x < g → gI l (y * g + x) = gI m (y * g + x)) : l = m := by
  apply List.ext_getElem (by rw [h1, h2])
  intro i hi hj
  by_cases hg : g = 0
  · subst hg; rw [Nat.mul_zero] at h1; omega
  have e : i / g * g + i % g = i := Nat.div_add_mod' i g
  have hy : i / g < n := Nat.div_lt_of_lt_mul (by rw [Nat.mul_comm]; omega)
  have := h (i / g) hy (i % g) (Nat.mod_lt _ (by omega))
  rw [e] at this
  simpa [gI, List.getD_eq_getElem?_getD, hi, hj] using this
theorem gI_set {l : List Int} {i q : Nat} {v : Int} (hi : i < l.length) : gI (l.set i v) q = if q = i then v else gI l q := by
  rw [gI_rd, gI_rd]; exact rd_set l i q v hi
theorem setT_gI {l m : List Int} {n g x x' : Nat} (hl : l.length = n * g) (hx : x < g) (hx' : x' < g) (y : Nat) : ∀ j, j ≤ n → gI (setT l g x m j) (y * g + x') = if x' = x ∧ y < j then gI m y else gI l (y * g + x')
  | 0, _ => by simp [setT]
  | j + 1, hj => by
    have ih := setT_gI (m := m) hl hx hx' y j (by omega)
    have hp := pos_lt (g := g) hx (show j < n by omega)
    unfold setT
    rw [gI_set (by rw [setT_len, hl]; exact hp), ih]
    by_cases h : y * g + x' = j * g + x
    · obtain ⟨rfl, rfl⟩ := pos_inj hx hx' h
      simp
    · rw [if_neg h]
      by_cases h1 : x' = x
      · subst h1
        have : y ≠ j := fun e => h (by rw [e])
        by_cases h2 : y < j
        · rw [if_pos ⟨rfl, h2⟩, if_pos ⟨rfl, by omega⟩]
        · rw [if_neg (fun e => h2 e.2), if_neg (fun e => h2 (by omega))]
      · rw [if_neg (fun e => h1 e.1), if_neg (fun e => h1 e.1)]
theorem setCs_gI {l : List Int} {n g x' : Nat} {f : Nat → List Int} (hl : l.length = n * g) (hf : ∀ x, x < g → (f x).length = n) (hx' : x' < g) {y : Nat} (hy : y < n) : ∀ j, j ≤ g → gI (setCs l g f j) (y * g + x') = if x' < j then gI (f x') y else gI l (y * g + x')
  | 0, _ => by simp [setCs]
  | j + 1, hj => by
    have ih := setCs_gI hl hf hx' hy j (by omega)
    have hl' := setCs_len l g f j
    unfold setCs setC
    rw [setT_gI (n := n) (by rw [hl', hl]) (show j < g by omega) hx' y _ (by rw [hf j (by omega)]; omega), ih, hf j (by omega)]
    by_cases h : x' = j
    · subst h
      rw [if_pos ⟨rfl, hy⟩, if_pos (by omega)]
    · rw [if_neg (fun e => h e.1)]
      by_cases h1 : x' < j
      · rw [if_pos h1, if_pos (by omega)]
      · rw [if_neg h1, if_neg (by omega)]
theorem matC_len (n g : Nat) (f : Nat → List Int) : (matC n g f).length = n * g := by
  unfold matC
  simp [List.length_flatMap, Nat.mul_comm, List.map_const', List.sum_replicate_nat]
theorem matC_succ (n g : Nat) (f : Nat → List Int) : matC (n + 1) g f = matC n g f ++ (List.range g).map fun x => gI (f x) n := by
  unfold matC
  rw [List.range_succ, List.flatMap_append]
  simp
theorem gI_append_l {l m : List Int} {i : Nat} (h : i < l.length) : gI (l ++ m) i = gI l i := by
  simp [gI, List.getD_eq_getElem?_getD, List.getElem?_append_left h]
theorem gI_append_r {l m : List Int} {i : Nat} : gI (l ++ m) (l.length + i) = gI m i := by
  simp [gI, List.getD_eq_getElem?_getD, List.getElem?_append_right]
theorem matC_gI {g : Nat} {f : Nat → List Int} {x y : Nat} (hx : x < g) : ∀ n, y < n → gI (matC n g f) (y * g + x) = gI (f x) y
  | n + 1, hy => by
    rw [matC_succ]
    by_cases h : y < n
    · rw [gI_append_l (by rw [matC_len]; exact pos_lt hx h)]
      exact matC_gI hx n h
    · have : y = n := by omega
      subst this
      have e := gI_append_r (l := matC y g f) (m := (List.range g).map fun x => gI (f x) y) (i := x)
      rw [matC_len] at e
      rw [e]
      simp [gI, List.getD_eq_getElem?_getD, hx]
theorem setCs_mat {l : List Int} {n g : Nat} {f : Nat → List Int} (hl : l.length = n * g) (hf : ∀ x, x < g → (f x).length = n) : setCs l g f g = matC n g f :=
  mat_ext (by rw [setCs_len, hl]) (matC_len ..) fun y hy x hx => by
    rw [setCs_gI hl hf hx hy g (Nat.le_refl _), if_pos hx, matC_gI hx n hy]
theorem colOf_gI {l : List Int} {w x n y : Nat} (hy : y < n) : gI (colOf l w x n) y = gI l (y * w + x) := by
  simp [colOf, gI, List.getD_eq_getElem?_getD, hy]
theorem list_ext {l m : List Int} (h1 : l.length = m.length) (h : ∀ i, i < l.length → gI l i = gI m i) : l = m := by
  apply List.ext_getElem h1
  intro i hi hj
  have := h i hi
  simpa [gI, List.getD_eq_getElem?_getD, hi, hj] using this
theorem catR_len {f : Nat → List Int} {g : Nat} : ∀ n, (∀ y, y < n → (f y).length = g) → (catR f n).length = n * g
  | 0, _ => by simp [catR]
  | n + 1, h => by
    simp only [catR, List.length_append]
    rw [catR_len n (fun y hy => h y (by omega)), h n (by omega), Nat.add_mul, Nat.one_mul]
theorem rowAt_len {l : List Int} {g y n : Nat} (hl : l.length = n * g) (hy : y < n) : (rowAt l g y).length = g := by
  have : (y + 1) * g ≤ n * g := Nat.mul_le_mul_right _ (by omega)
  rw [Nat.add_mul, Nat.one_mul] at this
  simp [rowAt]; omega
theorem rowAt_cat {f : Nat → List Int} {g y : Nat} : ∀ n, (∀ y, y < n → (f y).length = g) → y < n → rowAt (catR f n) g y = f y
  | n + 1, h, hy => by
    have hl := catR_len n (fun y hy => h y (by omega))
    have hn := h n (by omega)
    simp only [catR]
    by_cases h1 : y < n
    · have ih := rowAt_cat n (fun y hy => h y (by omega)) h1
      have hq : y * g + g ≤ n * g := by
        have : (y + 1) * g ≤ n * g := Nat.mul_le_mul_right _ (by omega)
        rwa [Nat.add_mul, Nat.one_mul] at this
      rw [← ih]
      unfold rowAt
      rw [List.drop_append_of_le_length (by omega), List.take_append_of_le_length (by simp; omega)]
    · have : y = n := by omega
      subst this
      unfold rowAt
      rw [← hl, List.drop_left, ← hn, List.take_length]
theorem catR_congr {f h : Nat → List Int} : ∀ n, (∀ y, y < n → f y = h y) → catR f n = catR h n
  | 0, _ => rfl
  | n + 1, e => by simp only [catR]; rw [catR_congr n (fun y hy => e y (by omega)), e n (by omega)]
theorem fit_cat {b : Int} {f : Nat → List Int} : ∀ n, (∀ y, y < n → fit b (f y)) → fit b (catR f n)
  | 0, _ => fun x hx => by simp [catR] at hx
  | n + 1, h => fun x hx => by
    simp only [catR, List.mem_append] at hx
    rcases hx with hx | hx
    · exact fit_cat n (fun y hy => h y (by omega)) x hx
    · exact h n (by omega) x hx
theorem fit_row {b : Int} {l : List Int} (h : fit b l) (g y : Nat) : fit b (rowAt l g y) := fun x hx => h x (List.mem_of_mem_drop (List.mem_of_mem_take hx))
theorem valid_i5 {a b c d : Int} (h : 0 ≤ a ∧ a ≤ c ∧ c ≤ 4096 ∧ 0 ≤ b ∧ b ≤ d ∧ d ≤ 4096) : valid a b c d = true := by
  simp only [valid, Bool.and_eq_true, decide_eq_true_eq, and_assoc]
  exact h
theorem valid_bnd5 {a b c d o : Int} (h0 : 0 ≤ o) (h1 : o ≤ 3) : valid (bnd a b c d o).1 (bnd a b c d o).2.1 (bnd a b c d o).2.2.1 (bnd a b c d o).2.2.2 = true := by
  unfold bnd
  split
  · rename_i h
    have hb := valid_b h
    exact valid_i5 (by simp only; omega)
  · rfl
theorem bnd_v {a b c d : Int} (h : valid a b c d = true) : bnd a b c d 0 = ((a + 1) / 2, (b + 1) / 2, (c + 1) / 2, (d + 1) / 2) ∧ bnd a b c d 1 = (a / 2, (b + 1) / 2, c / 2, (d + 1) / 2) ∧ bnd a b c d 2 = ((a + 1) / 2, b / 2, (c + 1) / 2, d / 2) ∧ bnd a b c d 3 = (a / 2, b / 2, c / 2, d / 2) := by
  simp [bnd, h]
theorem toNat_area {p q e f : Int} (h : valid p e q f = true) : (area p e q f).toNat = (f - e).toNat * (q - p).toNat := by
  have ha := area_v h
  have hb := valid_b h
  have h1 : ((f - e).toNat : Int) = f - e := Int.toNat_of_nonneg (by omega)
  have h2 : ((q - p).toNat : Int) = q - p := Int.toNat_of_nonneg (by omega)
  have h3 : (((f - e).toNat * (q - p).toNat : Nat) : Int) = (q - p) * (f - e) := by rw [Int.natCast_mul, h1, h2, Int.mul_comm]
  omega
theorem colsLo_mat {h : List Int} {g n m : Nat} {s k ar : Int} (hk : inr 1 3 k = true) (hs : inr 0 4096 s = true) (hn : n ≤ 4096) (hf : fit 281474976710656 h) (hm : (m : Int) = cev s n) (ha : ar.toNat = m * g) : colsLo (zer ar) h g n s k = matC m g (cLo h g n s k) :=
  setCs_mat (by rw [zer, List.length_replicate, ha]) fun x hx => by
    have := (fw_good (l := colOf h g x n) hk hs (by rw [colOf_len]; exact hn) (fit_col (by omega) hf _ _ _)).2.1
    rw [colOf_len] at this
    unfold cLo; omega
theorem colsHi_mat {h : List Int} {g n m : Nat} {s k ar : Int} (hk : inr 1 3 k = true) (hs : inr 0 4096 s = true) (hn : n ≤ 4096) (hf : fit 281474976710656 h) (hm : (m : Int) = n - cev s n) (ha : ar.toNat = m * g) : colsHi (zer ar) h g n s k = matC m g (cHi h g n s k) :=
  setCs_mat (by rw [zer, List.length_replicate, ha]) fun x hx => by
    have := (fw_good (l := colOf h g x n) hk hs (by rw [colOf_len]; exact hn) (fit_col (by omega) hf _ _ _)).2.2
    rw [colOf_len] at this
    unfold cHi; omega
theorem fw_b {l : List Int} {s k : Int} (hk : inr 1 3 k = true) (hs : inr 0 4096 s = true) (hn : l.length ≤ 4096) (hf : fit 35184372088832 l) : fit 281474976710656 (fw l s k).1 ∧ fit 281474976710656 (fw l s k).2.1 := by
  have hk' := inr_b hk
  have h1 := fz_low (s := s) hk' hf (by omega)
  have h2 := lb_ge (b := 35184372088832) (by omega) hk'
  have h3 := hb_ge (b := 35184372088832) (by omega) hk'
  rw [fw_ok hk' (inr_b hs) hn (fit_mono hf (by omega))]
  exact ⟨fit_mono h1.1 (by omega), fit_mono h1.2 (by omega)⟩
theorem half_ok {a b c d k : Int} {l : List Int} (hv : plV a b c d l = true) (hk : inr 1 3 k = true) (hf : fit 35184372088832 l) : ((sLo a b c d k l).length : Int) = cev a (c - a) * (d - b) ∧ ((sHi a b c d k l).length : Int) = ((c - a) - cev a (c - a)) * (d - b) ∧ fit 281474976710656 (sLo a b c d k l) ∧ fit 281474976710656 (sHi a b c d k l) := by
  have pb := plV_b hv
  have hf' : fit 281474976710656 l := fit_mono hf (by omega)
  obtain ⟨w', hw⟩ : ∃ w' : Nat, c - a = w' := ⟨(c - a).toNat, by omega⟩
  obtain ⟨n', hn⟩ : ∃ n' : Nat, d - b = n' := ⟨(d - b).toNat, by omega⟩
  have e5 : (c - a).toNat = w' := by omega
  have e6 : (d - b).toNat = n' := by omega
  have hll : l.length = n' * w' := by
    have := pb.2.2.1
    rw [hw, hn] at this
    rw [Nat.mul_comm]; exact_mod_cast this
  have ha : inr 0 4096 a = true := inr_t (by omega) (by omega)
  have ce := cev_bd (s := a) (n := (w' : Int)) (by omega)
  have hg := fun j (hj : j < n') => fw_good (l := rowAt l w' j) hk ha (by rw [rowAt_len hll hj]; omega) (fit_row hf' _ _)
  have hq := fun j (hj : j < n') => fw_b (l := rowAt l w' j) hk ha (by rw [rowAt_len hll hj]; omega) (fit_row hf _ _)
  have hlo := catR_len (f := rLo l w' a k) (g := (cev a w').toNat) n' (fun q hq => by have := (hg q (by omega)).2.1; rw [rowAt_len hll (by omega)] at this; unfold rLo; omega)
  have hhi := catR_len (f := rHi l w' a k) (g := (w' - cev a w').toNat) n' (fun q hq => by have := (hg q (by omega)).2.2; rw [rowAt_len hll (by omega)] at this; unfold rHi; omega)
  unfold sLo sHi
  rw [e5, e6, hlo, hhi, hw, hn, Int.natCast_mul, Int.natCast_mul, Int.toNat_of_nonneg (by omega), Int.toNat_of_nonneg (by omega), Int.mul_comm, Int.mul_comm (n' : Int)]
  exact ⟨rfl, rfl, fit_cat n' fun y hy => (hq y hy).1, fit_cat n' fun y hy => (hq y hy).2⟩
theorem spOk_i {p q b d k : Int} {h t0 t1 : List Int} (hv : 0 ≤ p ∧ p ≤ q ∧ q ≤ 4096 ∧ 0 ≤ b ∧ b ≤ d ∧ d ≤ 4096) (hk : inr 1 3 k = true) (hl : (h.length : Int) = (q - p) * (d - b)) (ha : (q - p) * (d - b) ≤ 1048576) (hf : fit 281474976710656 h) (l0 : (t0.length : Int) = (q - p) * cev b (d - b)) (l1 : (t1.length : Int) = (q - p) * ((d - b) - cev b (d - b))) : spOk p b q d b k p q p q h t0 t1 = true := by
  have hv' : valid p b q d = true := valid_i5 (by omega)
  have ar := area_v hv'
  simp only [spOk, plV, hv', hk, inr_t (a := 0) (b := 4096) (x := b) (by omega) (by omega), fit_fitB hf, l0, l1, decide_true, Bool.and_true, Bool.true_and, Bool.and_eq_true, decide_eq_true_eq]
  omega
theorem d_dwt_Split_1 {α : Type} {vs : List V} {bl : List (Option Blk)} {K} {r0' : α} {Q : Prop} (y0' : D_dwt_Split_1 vs bl K = some r0') (hh' : ∀ (a : Int) (b : Int) (c : Int) (d : Int) (kk : Int) (ua0 : Int) (ub0 : Int) (uc0 : Int) (ud0 : Int) (ua1 : Int) (ub1 : Int) (uc1 : Int) (ud1 : Int) (ua2 : Int) (ub2 : Int) (uc2 : Int) (ud2 : Int) (ua3 : Int) (ub3 : Int) (uc3 : Int) (ud3 : Int) (va0 : Int) (vb0 : Int) (vc0 : Int) (vd0 : Int) (va1 : Int) (vb1 : Int) (vc1 : Int) (vd1 : Int) (va2 : Int) (vb2 : Int) (vc2 : Int) (vd2 : Int) (va3 : Int) (vb3 : Int) (vc3 : Int) (vd3 : Int) (ra : Int) (rb : Int) (rc : Int) (rd : Int) (a0 : Int) (b0 : Int) (c0 : Int) (d0 : Int) (a1 : Int) (b1 : Int) (c1 : Int) (d1 : Int) (a2 : Int) (b2 : Int) (c2 : Int) (d2 : Int) (a3 : Int) (b3 : Int) (c3 : Int) (d3 : Int) (p0 : Int) (e0 : Int) (q0 : Int) (f0 : Int) (p1 : Int) (e1 : Int) (q1 : Int) (f1 : Int) (y : Int) (l : List Int) (y0 : List Int) (y1 : List Int) (y2 : List Int) (y3 : List Int) (y4 : List Int) (y5 : List Int) (y6 : List Int) (y7 : List Int) (h0 : List Int) (h1 : List Int), vs = [.one (.ptr 0 0), .one (.ptr 1 0), .one (.ptr 2 0), .one (.ptr 3 0), .one (.ptr 4 0), .one (.ptr 5 0), .one (.ptr 6 0), .one (.int .i64 y)] → bl = [some (.box [.int .i64 a, .int .i64 b, .int .i64 c, .int .i64 d, .lst (.int .i64) l]), some (.box [.int .i64 kk]), some (.box [.int .i64 ua0, .int .i64 ub0, .int .i64 uc0, .int .i64 ud0, .row 7, .int .i64 ua1, .int .i64 ub1, .int .i64 uc1, .int .i64 ud1, .row 8, .int .i64 ua2, .int .i64 ub2, .int .i64 uc2, .int .i64 ud2, .row 9, .int .i64 ua3, .int .i64 ub3, .int .i64 uc3, .int .i64 ud3, .row 10]), some (.box [.int .i64 va0, .int .i64 vb0, .int .i64 vc0, .int .i64 vd0, .row 11, .int .i64 va1, .int .i64 vb1, .int .i64 vc1, .int .i64 vd1, .row 12, .int .i64 va2, .int .i64 vb2, .int .i64 vc2, .int .i64 vd2, .row 13, .int .i64 va3, .int .i64 vb3, .int .i64 vc3, .int .i64 vd3, .row 14]), some (.box [.int .i64 ra, .int .i64 rb, .int .i64 rc, .int .i64 rd]), some (.box [.int .i64 a0, .int .i64 b0, .int .i64 c0, .int .i64 d0, .int .i64 a1, .int .i64 b1, .int .i64 c1, .int .i64 d1, .int .i64 a2, .int .i64 b2, .int .i64 c2, .int .i64 d2, .int .i64 a3, .int .i64 b3, .int .i64 c3, .int .i64 d3]), some (.box [.int .i64 p0, .int .i64 e0, .int .i64 q0, .int .i64 f0, .row 15, .int .i64 p1, .int .i64 e1, .int .i64 q1, .int .i64 f1, .row 16]), some (.arr 3 (.int .i64) y0), some (.arr 3 (.int .i64) y1), some (.arr 3 (.int .i64) y2), some (.arr 3 (.int .i64) y3), some (.arr 3 (.int .i64) y4), some (.arr 3 (.int .i64) y5), some (.arr 3 (.int .i64) y6), some (.arr 3 (.int .i64) y7), some (.arr 3 (.int .i64) h0), some (.arr 3 (.int .i64) h1)] → K a b c d kk ua0 ub0 uc0 ud0 ua1 ub1 uc1 ud1 ua2 ub2 uc2 ud2 ua3 ub3 uc3 ud3 va0 vb0 vc0 vd0 va1 vb1 vc1 vd1 va2 vb2 vc2 vd2 va3 vb3 vc3 vd3 ra rb rc rd a0 b0 c0 d0 a1 b1 c1 d1 a2 b2 c2 d2 a3 b3 c3 d3 p0 e0 q0 f0 p1 e1 q1 f1 y l y0 y1 y2 y3 y4 y5 y6 y7 h0 h1 = some r0' → Q) : Q := by
  unfold D_dwt_Split_1 at y0'
  obtain ⟨vs, rfl, y1'⟩ := pP_s y0'
  obtain ⟨vs, rfl, y2'⟩ := pP_s y1'
  obtain ⟨vs, rfl, y3'⟩ := pP_s y2'
  obtain ⟨vs, rfl, y4'⟩ := pP_s y3'
  obtain ⟨vs, rfl, y5'⟩ := pP_s y4'
  obtain ⟨vs, rfl, y6'⟩ := pP_s y5'
  obtain ⟨vs, rfl, y7'⟩ := pP_s y6'
  obtain ⟨y, vs, rfl, y8'⟩ := pI_s y7'
  obtain ⟨rfl, y9'⟩ := pE_s y8'
  obtain ⟨q', bl, rfl, y10'⟩ := bB_s y9'
  obtain ⟨a, b, c, d, q', rfl, y11'⟩ := t4_s y10'
  obtain ⟨c', q', rfl, y12'⟩ := tC_s y11'
  obtain ⟨l, rfl, y13'⟩ := kLI_s y12'
  obtain ⟨rfl, y14'⟩ := tE_s y13'
  obtain ⟨q', bl, rfl, y15'⟩ := bB_s y14'
  obtain ⟨kk, q', rfl, y16'⟩ := tI_s y15'
  obtain ⟨rfl, y17'⟩ := tE_s y16'
  obtain ⟨q', bl, rfl, y18'⟩ := bB_s y17'
  obtain ⟨ua0, ub0, uc0, ud0, ua1, ub1, uc1, ud1, ua2, ub2, uc2, ud2, ua3, ub3, uc3, ud3, rfl, y19'⟩ := rd4P_s y18'
  obtain ⟨q', bl, rfl, y20'⟩ := bB_s y19'
  obtain ⟨va0, vb0, vc0, vd0, va1, vb1, vc1, vd1, va2, vb2, vc2, vd2, va3, vb3, vc3, vd3, rfl, y21'⟩ := rd4P_s y20'
  obtain ⟨q', bl, rfl, y22'⟩ := bB_s y21'
  obtain ⟨ra, rb, rc, rd, q', rfl, y23'⟩ := t4_s y22'
  obtain ⟨rfl, y24'⟩ := tE_s y23'
  obtain ⟨q', bl, rfl, y25'⟩ := bB_s y24'
  obtain ⟨a0, b0, c0, d0, a1, b1, c1, d1, a2, b2, c2, d2, a3, b3, c3, d3, rfl, y26'⟩ := rd4R_s y25'
  obtain ⟨q', bl, rfl, y27'⟩ := bB_s y26'
  obtain ⟨p0, e0, q0, f0, p1, e1, q1, f1, rfl, y28'⟩ := rd2P_s y27'
  obtain ⟨y0, bl, rfl, y29'⟩ := bAI_s y28'
  obtain ⟨y1, bl, rfl, y30'⟩ := bAI_s y29'
  obtain ⟨y2, bl, rfl, y31'⟩ := bAI_s y30'
  obtain ⟨y3, bl, rfl, y32'⟩ := bAI_s y31'
  obtain ⟨y4, bl, rfl, y33'⟩ := bAI_s y32'
  obtain ⟨y5, bl, rfl, y34'⟩ := bAI_s y33'
  obtain ⟨y6, bl, rfl, y35'⟩ := bAI_s y34'
  obtain ⟨y7, bl, rfl, y36'⟩ := bAI_s y35'
  obtain ⟨h0, bl, rfl, y37'⟩ := bAI_s y36'
  obtain ⟨h1, bl, rfl, y38'⟩ := bAI_s y37'
  obtain ⟨rfl, y39'⟩ := bE_s y38'
  have yy' := y39'
  exact hh' _ _ _ _ _ _ _ _ _ _ _ _ _ _ _ _ _ _ _ _ _ _ _ _ _ _ _ _ _ _ _ _ _ _ _ _ _ _ _ _ _ _ _ _ _ _ _ _ _ _ _ _ _ _ _ _ _ _ _ _ _ _ _ _ _ _ _ _ _ _ _ _ _ _ _ _ _ rfl rfl yy'
theorem r_dwt_Split_1 : RoundOk Try.prog t_dwt_Split (annOf []) l_dwt_Split Out 20 0 121 [2, 3, 4, 6, 7, 8, 9, 11] (kxOf [3, 4, 6, 7, 8, 9] [4, 5]) (loopOf Try.f34 1) T_dwt_Split_1 := by
  intro vs bl Kc r h
  unfold T_dwt_Split_1 at h
  obtain ⟨t, y0', h'⟩ := getD_run h
  refine d_dwt_Split_1 y0' fun a b c d kk ua0 ub0 uc0 ud0 ua1 ub1 uc1 ud1 ua2 ub2 uc2 ud2 ua3 ub3 uc3 ud3 va0 vb0 vc0 vd0 va1 vb1 vc1 vd1 va2 vb2 vc2 vd2 va3 vb3 vc3 vd3 ra rb rc rd a0 b0 c0 d0 a1 b1 c1 d1 a2 b2 c2 d2 a3 b3 c3 d3 p0 e0 q0 f0 p1 e1 q1 f1 y l y0 y1 y2 y3 y4 y5 y6 y7 h0 h1 u1' u2' yy' => ?_
  subst u1' u2'
  cases yy'
  exact (b_dwt_Split_1 ..).trans h'
theorem d_dwt_Split_3 {α : Type} {vs : List V} {bl : List (Option Blk)} {K} {r0' : α} {Q : Prop} (y0' : D_dwt_Split_3 vs bl K = some r0') (hh' : ∀ (ua0 : Int) (ub0 : Int) (uc0 : Int) (ud0 : Int) (ua1 : Int) (ub1 : Int) (uc1 : Int) (ud1 : Int) (ua2 : Int) (ub2 : Int) (uc2 : Int) (ud2 : Int) (ua3 : Int) (ub3 : Int) (uc3 : Int) (ud3 : Int) (va0 : Int) (vb0 : Int) (vc0 : Int) (vd0 : Int) (va1 : Int) (vb1 : Int) (vc1 : Int) (vd1 : Int) (va2 : Int) (vb2 : Int) (vc2 : Int) (vd2 : Int) (va3 : Int) (vb3 : Int) (vc3 : Int) (vd3 : Int) (p0 : Int) (e0 : Int) (q0 : Int) (f0 : Int) (p1 : Int) (e1 : Int) (q1 : Int) (f1 : Int) (a : Int) (b : Int) (c : Int) (d : Int) (kk : Int) (ii : Int) (y0 : List Int) (y1 : List Int) (y2 : List Int) (y3 : List Int) (y4 : List Int) (y5 : List Int) (y6 : List Int) (y7 : List Int) (h0 : List Int) (h1 : List Int), vs = [.one (.ptr 0 0), .one (.ptr 1 0), .one (.fn 70 [2, 3, 4, 1]), .one (.int .i64 ii)] → bl = [some (.box [.int .i64 ua0, .int .i64 ub0, .int .i64 uc0, .int .i64 ud0, .row 5, .int .i64 ua1, .int .i64 ub1, .int .i64 uc1, .int .i64 ud1, .row 6, .int .i64 ua2, .int .i64 ub2, .int .i64 uc2, .int .i64 ud2, .row 7, .int .i64 ua3, .int .i64 ub3, .int .i64 uc3, .int .i64 ud3, .row 8]), some (.box [.int .i64 va0, .int .i64 vb0, .int .i64 vc0, .int .i64 vd0, .row 9, .int .i64 va1, .int .i64 vb1, .int .i64 vc1, .int .i64 vd1, .row 10, .int .i64 va2, .int .i64 vb2, .int .i64 vc2, .int .i64 vd2, .row 11, .int .i64 va3, .int .i64 vb3, .int .i64 vc3, .int .i64 vd3, .row 12]), some (.box [.int .i64 p0, .int .i64 e0, .int .i64 q0, .int .i64 f0, .row 13, .int .i64 p1, .int .i64 e1, .int .i64 q1, .int .i64 f1, .row 14]), some (.box [.int .i64 a, .int .i64 b, .int .i64 c, .int .i64 d]), some (.box [.int .i64 kk]), some (.arr 3 (.int .i64) y0), some (.arr 3 (.int .i64) y1), some (.arr 3 (.int .i64) y2), some (.arr 3 (.int .i64) y3), some (.arr 3 (.int .i64) y4), some (.arr 3 (.int .i64) y5), some (.arr 3 (.int .i64) y6), some (.arr 3 (.int .i64) y7), some (.arr 3 (.int .i64) h0), some (.arr 3 (.int .i64) h1)] → K ua0 ub0 uc0 ud0 ua1 ub1 uc1 ud1 ua2 ub2 uc2 ud2 ua3 ub3 uc3 ud3 va0 vb0 vc0 vd0 va1 vb1 vc1 vd1 va2 vb2 vc2 vd2 va3 vb3 vc3 vd3 p0 e0 q0 f0 p1 e1 q1 f1 a b c d kk ii y0 y1 y2 y3 y4 y5 y6 y7 h0 h1 = some r0' → Q) : Q := by
  unfold D_dwt_Split_3 at y0'
  obtain ⟨vs, rfl, y1'⟩ := pP_s y0'
  obtain ⟨vs, rfl, y2'⟩ := pP_s y1'
  obtain ⟨c', vs, rfl, y3'⟩ := pO_s y2'
  obtain ⟨rfl, y4'⟩ := kF_s y3'
  obtain ⟨ii, vs, rfl, y5'⟩ := pI_s y4'
  obtain ⟨rfl, y6'⟩ := pE_s y5'
  obtain ⟨q', bl, rfl, y7'⟩ := bB_s y6'
  obtain ⟨ua0, ub0, uc0, ud0, ua1, ub1, uc1, ud1, ua2, ub2, uc2, ud2, ua3, ub3, uc3, ud3, rfl, y8'⟩ := rd4P_s y7'
  obtain ⟨q', bl, rfl, y9'⟩ := bB_s y8'
  obtain ⟨va0, vb0, vc0, vd0, va1, vb1, vc1, vd1, va2, vb2, vc2, vd2, va3, vb3, vc3, vd3, rfl, y10'⟩ := rd4P_s y9'
  obtain ⟨q', bl, rfl, y11'⟩ := bB_s y10'
  obtain ⟨p0, e0, q0, f0, p1, e1, q1, f1, rfl, y12'⟩ := rd2P_s y11'
  obtain ⟨q', bl, rfl, y13'⟩ := bB_s y12'
  obtain ⟨a, b, c, d, q', rfl, y14'⟩ := t4_s y13'
  obtain ⟨rfl, y15'⟩ := tE_s y14'
  obtain ⟨q', bl, rfl, y16'⟩ := bB_s y15'
  obtain ⟨kk, q', rfl, y17'⟩ := tI_s y16'
  obtain ⟨rfl, y18'⟩ := tE_s y17'
  obtain ⟨y0, bl, rfl, y19'⟩ := bAI_s y18'
  obtain ⟨y1, bl, rfl, y20'⟩ := bAI_s y19'
  obtain ⟨y2, bl, rfl, y21'⟩ := bAI_s y20'
  obtain ⟨y3, bl, rfl, y22'⟩ := bAI_s y21'
  obtain ⟨y4, bl, rfl, y23'⟩ := bAI_s y22'
  obtain ⟨y5, bl, rfl, y24'⟩ := bAI_s y23'
  obtain ⟨y6, bl, rfl, y25'⟩ := bAI_s y24'
  obtain ⟨y7, bl, rfl, y26'⟩ := bAI_s y25'
  obtain ⟨h0, bl, rfl, y27'⟩ := bAI_s y26'
  obtain ⟨h1, bl, rfl, y28'⟩ := bAI_s y27'
  obtain ⟨rfl, y29'⟩ := bE_s y28'
  have yy' := y29'
  exact hh' _ _ _ _ _ _ _ _ _ _ _ _ _ _ _ _ _ _ _ _ _ _ _ _ _ _ _ _ _ _ _ _ _ _ _ _ _ _ _ _ _ _ _ _ _ _ _ _ _ _ _ _ _ _ _ _ rfl rfl yy'
theorem r_dwt_Split_3 : RoundOk Try.prog t_dwt_Split (annOf []) l_dwt_Split Out 20 0 121 [4, 6, 18, 109] (kxOf [4, 6] [4, 5]) (loopOf Try.f34 3) T_dwt_Split_3 := by
  intro vs bl Kc r h
  unfold T_dwt_Split_3 at h
  obtain ⟨t, y0', h'⟩ := getD_run h
  refine d_dwt_Split_3 y0' fun ua0 ub0 uc0 ud0 ua1 ub1 uc1 ud1 ua2 ub2 uc2 ud2 ua3 ub3 uc3 ud3 va0 vb0 vc0 vd0 va1 vb1 vc1 vd1 va2 vb2 vc2 vd2 va3 vb3 vc3 vd3 p0 e0 q0 f0 p1 e1 q1 f1 a b c d kk ii y0 y1 y2 y3 y4 y5 y6 y7 h0 h1 u1' u2' yy' => ?_
  subst u1' u2'
  cases yy'
  by_cases w0' : ii = 0
  · subst w0'; exact (b_dwt_Split_3_0 ..).trans h'
  by_cases w1' : ii = 1
  · subst w1'; exact (b_dwt_Split_3_1 ..).trans h'
  by_cases w2' : ii = 2
  · subst w2'; exact (b_dwt_Split_3_2 ..).trans h'
  rw [hds_no (by intro j hj; simp only [List.length_cons, List.length_nil] at hj; omega)] at h'
  cases h'
theorem o_dwt_Split : loopsOf (bodyOf Try.f34) = [loopOf Try.f34 0, loopOf Try.f34 1, loopOf Try.f34 2, loopOf Try.f34 3] := by kernel_rfl
theorem zz_dwt_Split_1 (a b c d kk ua0 ub0 uc0 ud0 ua1 ub1 uc1 ud1 ua2 ub2 uc2 ud2 ua3 ub3 uc3 ud3 va0 vb0 vc0 vd0 va1 vb1 vc1 vd1 va2 vb2 vc2 vd2 va3 vb3 vc3 vd3 ra rb rc rd a0 b0 c0 d0 a1 b1 c1 d1 a2 b2 c2 d2 a3 b3 c3 d3 p0 e0 q0 f0 p1 e1 q1 f1 y : Int) (l y0 y1 y2 y3 y4 y5 y6 y7 h0 h1 : List Int) (hk : k_dwt_Split_1 a b c d kk ua0 ub0 uc0 ud0 ua1 ub1 uc1 ud1 ua2 ub2 uc2 ud2 ua3 ub3 uc3 ud3 va0 vb0 vc0 vd0 va1 vb1 vc1 vd1 va2 vb2 vc2 vd2 va3 vb3 vc3 vd3 ra rb rc rd a0 b0 c0 d0 a1 b1 c1 d1 a2 b2 c2 d2 a3 b3 c3 d3 p0 e0 q0 f0 p1 e1 q1 f1 y l y0 y1 y2 y3 y4 y5 y6 y7 h0 h1 = true) : ZZ (c_dwt_Split_1 a b c d kk ua0 ub0 uc0 ud0 ua1 ub1 uc1 ud1 ua2 ub2 uc2 ud2 ua3 ub3 uc3 ud3 va0 vb0 vc0 vd0 va1 vb1 vc1 vd1 va2 vb2 vc2 vd2 va3 vb3 vc3 vd3 ra rb rc rd a0 b0 c0 d0 a1 b1 c1 d1 a2 b2 c2 d2 a3 b3 c3 d3 p0 e0 q0 f0 p1 e1 q1 f1 y l y0 y1 y2 y3 y4 y5 y6 y7 h0 h1) T_dwt_Split_1 [.one (.ptr 0 0), .one (.ptr 1 0), .one (.ptr 2 0), .one (.ptr 3 0), .one (.ptr 4 0), .one (.ptr 5 0), .one (.ptr 6 0), .one (.int .i64 y)] [some (.box [.int .i64 a, .int .i64 b, .int .i64 c, .int .i64 d, .lst (.int .i64) l]), some (.box [.int .i64 kk]), some (.box [.int .i64 ua0, .int .i64 ub0, .int .i64 uc0, .int .i64 ud0, .row 7, .int .i64 ua1, .int .i64 ub1, .int .i64 uc1, .int .i64 ud1, .row 8, .int .i64 ua2, .int .i64 ub2, .int .i64 uc2, .int .i64 ud2, .row 9, .int .i64 ua3, .int .i64 ub3, .int .i64 uc3, .int .i64 ud3, .row 10]), some (.box [.int .i64 va0, .int .i64 vb0, .int .i64 vc0, .int .i64 vd0, .row 11, .int .i64 va1, .int .i64 vb1, .int .i64 vc1, .int .i64 vd1, .row 12, .int .i64 va2, .int .i64 vb2, .int .i64 vc2, .int .i64 vd2, .row 13, .int .i64 va3, .int .i64 vb3, .int .i64 vc3, .int .i64 vd3, .row 14]), some (.box [.int .i64 ra, .int .i64 rb, .int .i64 rc, .int .i64 rd]), some (.box [.int .i64 a0, .int .i64 b0, .int .i64 c0, .int .i64 d0, .int .i64 a1, .int .i64 b1, .int .i64 c1, .int .i64 d1, .int .i64 a2, .int .i64 b2, .int .i64 c2, .int .i64 d2, .int .i64 a3, .int .i64 b3, .int .i64 c3, .int .i64 d3]), some (.box [.int .i64 p0, .int .i64 e0, .int .i64 q0, .int .i64 f0, .row 15, .int .i64 p1, .int .i64 e1, .int .i64 q1, .int .i64 f1, .row 16]), some (.arr 3 (.int .i64) y0), some (.arr 3 (.int .i64) y1), some (.arr 3 (.int .i64) y2), some (.arr 3 (.int .i64) y3), some (.arr 3 (.int .i64) y4), some (.arr 3 (.int .i64) y5), some (.arr 3 (.int .i64) y6), some (.arr 3 (.int .i64) y7), some (.arr 3 (.int .i64) h0), some (.arr 3 (.int .i64) h1)] := by
  simp only [k_dwt_Split_1, Bool.and_eq_true, decide_eq_true_eq] at hk
  obtain ⟨⟨⟨⟨⟨⟨⟨rfl, rfl⟩, rfl⟩, hv⟩, z1⟩, z2⟩, rfl⟩, rfl⟩ := hk
  have pb := plV_b hv
  have hf : fit 281474976710656 l := fit_mono (fitB_fit z2) (by omega)
  obtain ⟨w', hw⟩ : ∃ w' : Nat, c - ra = w' := ⟨(c - ra).toNat, by omega⟩
  obtain ⟨n', hn⟩ : ∃ n' : Nat, rd - y = n' := ⟨(rd - y).toNat, by omega⟩
  have e5 : (c - ra).toNat = w' := by omega
  have e6 : (rd - y).toNat = n' := by omega
  have hll : l.length = n' * w' := by
    have := pb.2.2.1
    rw [hw, hn] at this
    rw [Nat.mul_comm]; exact_mod_cast this
  have hg := fun j (hj : j < n') => fw_good (l := rowAt l w' j) z1 (inr_t (a := 0) (b := 4096) (x := ra) (by omega) (by omega)) (by rw [rowAt_len hll hj]; omega) (fit_row hf _ _)
  have ce := cev_bd (s := ra) (n := (w' : Int)) (by omega)
  have hlo := fun j (hj : j ≤ n') => catR_len (f := rLo l w' ra kk) (g := (cev ra w').toNat) j (fun q hq => by have := (hg q (by omega)).2.1; rw [rowAt_len hll (by omega)] at this; unfold rLo; omega)
  have hhi := fun j (hj : j ≤ n') => catR_len (f := rHi l w' ra kk) (g := (w' - cev ra w').toNat) j (fun q hq => by have := (hg q (by omega)).2.2; rw [rowAt_len hll (by omega)] at this; unfold rHi; omega)
  refine Exists.elim (z_fold (T := T_dwt_Split_1) (st := fun j => ([.one (.ptr 0 0), .one (.ptr 1 0), .one (.ptr 2 0), .one (.ptr 3 0), .one (.ptr 4 0), .one (.ptr 5 0), .one (.ptr 6 0), .one (.int .i64 (y + (j : Int)))], [some (.box [.int .i64 ra, .int .i64 y, .int .i64 c, .int .i64 rd, .lst (.int .i64) l]), some (.box [.int .i64 kk]), some (.box [.int .i64 ua0, .int .i64 ub0, .int .i64 uc0, .int .i64 ud0, .row 7, .int .i64 ua1, .int .i64 ub1, .int .i64 uc1, .int .i64 ud1, .row 8, .int .i64 ua2, .int .i64 ub2, .int .i64 uc2, .int .i64 ud2, .row 9, .int .i64 ua3, .int .i64 ub3, .int .i64 uc3, .int .i64 ud3, .row 10]), some (.box [.int .i64 va0, .int .i64 vb0, .int .i64 vc0, .int .i64 vd0, .row 11, .int .i64 va1, .int .i64 vb1, .int .i64 vc1, .int .i64 vd1, .row 12, .int .i64 va2, .int .i64 vb2, .int .i64 vc2, .int .i64 vd2, .row 13, .int .i64 va3, .int .i64 vb3, .int .i64 vc3, .int .i64 vd3, .row 14]), some (.box [.int .i64 ra, .int .i64 rb, .int .i64 rc, .int .i64 rd]), some (.box [.int .i64 a0, .int .i64 b0, .int .i64 c0, .int .i64 d0, .int .i64 a1, .int .i64 b1, .int .i64 c1, .int .i64 d1, .int .i64 a2, .int .i64 b2, .int .i64 c2, .int .i64 d2, .int .i64 a3, .int .i64 b3, .int .i64 c3, .int .i64 d3]), some (.box [.int .i64 p0, .int .i64 e0, .int .i64 q0, .int .i64 f0, .row 15, .int .i64 p1, .int .i64 e1, .int .i64 q1, .int .i64 f1, .row 16]), some (.arr 3 (.int .i64) y0), some (.arr 3 (.int .i64) y1), some (.arr 3 (.int .i64) y2), some (.arr 3 (.int .i64) y3), some (.arr 3 (.int .i64) y4), some (.arr 3 (.int .i64) y5), some (.arr 3 (.int .i64) y6), some (.arr 3 (.int .i64) y7), some (.arr 3 (.int .i64) (catR (rLo l w' ra kk) j)), some (.arr 3 (.int .i64) (catR (rHi l w' ra kk) j))])) n' (.leaf (.exit 2) [.one (.ptr 0 0), .one (.ptr 1 0), .one (.ptr 2 0), .one (.ptr 3 0), .one (.ptr 4 0), .one (.ptr 5 0)] [some (.box [.int .i64 kk]), some (.box [.int .i64 ua0, .int .i64 ub0, .int .i64 uc0, .int .i64 ud0, .row 6, .int .i64 ua1, .int .i64 ub1, .int .i64 uc1, .int .i64 ud1, .row 7, .int .i64 ua2, .int .i64 ub2, .int .i64 uc2, .int .i64 ud2, .row 8, .int .i64 ua3, .int .i64 ub3, .int .i64 uc3, .int .i64 ud3, .row 9]), some (.box [.int .i64 va0, .int .i64 vb0, .int .i64 vc0, .int .i64 vd0, .row 10, .int .i64 va1, .int .i64 vb1, .int .i64 vc1, .int .i64 vd1, .row 11, .int .i64 va2, .int .i64 vb2, .int .i64 vc2, .int .i64 vd2, .row 12, .int .i64 va3, .int .i64 vb3, .int .i64 vc3, .int .i64 vd3, .row 13]), some (.box [.int .i64 ra, .int .i64 rb, .int .i64 rc, .int .i64 rd]), some (.box [.int .i64 a0, .int .i64 b0, .int .i64 c0, .int .i64 d0, .int .i64 a1, .int .i64 b1, .int .i64 c1, .int .i64 d1, .int .i64 a2, .int .i64 b2, .int .i64 c2, .int .i64 d2, .int .i64 a3, .int .i64 b3, .int .i64 c3, .int .i64 d3]), some (.box [.int .i64 p0, .int .i64 e0, .int .i64 q0, .int .i64 f0, .row 14, .int .i64 p1, .int .i64 e1, .int .i64 q1, .int .i64 f1, .row 15]), some (.arr 3 (.int .i64) y0), some (.arr 3 (.int .i64) y1), some (.arr 3 (.int .i64) y2), some (.arr 3 (.int .i64) y3), some (.arr 3 (.int .i64) y4), some (.arr 3 (.int .i64) y5), some (.arr 3 (.int .i64) y6), some (.arr 3 (.int .i64) y7), some (.arr 3 (.int .i64) (catR (rLo l w' ra kk) n')), some (.arr 3 (.int .i64) (catR (rHi l w' ra kk) n'))]) (fun j hj F K => ?_) (fun F K => ?_)) (fun k hk => ⟨k, fun K r h => ?_⟩)
  · have hg' := hg j hj
    have hl1 := hlo j (by omega)
    have hl2 := hhi j (by omega)
    have hl3 := hlo (j + 1) (by omega)
    have hl4 := hhi (j + 1) (by omega)
    have m1 : (j + 1) * (cev ra w').toNat ≤ 4096 * 4096 := Nat.mul_le_mul (by omega) (by omega)
    have m2 : (j + 1) * (w' - cev ra w').toNat ≤ 4096 * 4096 := Nat.mul_le_mul (by omega) (by omega)
    have hc : plRow ra y c rd l (y + (j : Int)) = rowAt l w' j := by
      unfold plRow rowAt
      rw [if_pos (by simp only [rowOk, hv, Bool.and_eq_true, decide_eq_true_eq, true_and]; omega), e5, show y + (j : Int) - y = (j : Int) by omega, hw, show ((j : Int) * (w' : Int)).toNat = j * w' by rw [← Int.natCast_mul, Int.toNat_natCast]]
    simp only [catR, List.length_append] at hl3 hl4
    simp only [tu_dwt_Split_1, U_dwt_Split_1, LT.next, LT.run, ite2_bool, decide_eq_true_eq, hc]
    rw [if_pos (by omega), if_pos (small_of (by rw [rowAt_len hll hj]; omega)), hg'.1, if_neg (by decide), if_pos (by unfold rLo at hl3 ⊢; omega), if_pos (by unfold rHi at hl4 ⊢; omega), wrap_in (n := y + (j : Int) + 1) (by omega) (by omega), show y + (j : Int) + 1 = y + ((j + 1 : Nat) : Int) by omega]
    rfl
  · simp only [tu_dwt_Split_1, U_dwt_Split_1, LT.next, LT.run, ite2_bool, decide_eq_true_eq]
    rw [if_neg (by omega)]
  · unfold c_dwt_Split_1 sLo sHi at h
    rw [e5, e6] at h
    have hk' := hk K r h
    rw [show y + ((0 : Nat) : Int) = y by simp] at hk'
    exact hk'
theorem z_dwt_Split_1 : ZOk S_dwt_Split_1 T_dwt_Split_1 := by
  intro vs bl t y0'
  refine d_dwt_Split_1 y0' fun a b c d kk ua0 ub0 uc0 ud0 ua1 ub1 uc1 ud1 ua2 ub2 uc2 ud2 ua3 ub3 uc3 ud3 va0 vb0 vc0 vd0 va1 vb1 vc1 vd1 va2 vb2 vc2 vd2 va3 vb3 vc3 vd3 ra rb rc rd a0 b0 c0 d0 a1 b1 c1 d1 a2 b2 c2 d2 a3 b3 c3 d3 p0 e0 q0 f0 p1 e1 q1 f1 y l y0 y1 y2 y3 y4 y5 y6 y7 h0 h1 u1' u2' yy' => ?_
  subst u1' u2'
  obtain ⟨hk, rfl⟩ := Prod.mk.inj (Option.some.inj yy')
  exact zz_dwt_Split_1 _ _ _ _ _ _ _ _ _ _ _ _ _ _ _ _ _ _ _ _ _ _ _ _ _ _ _ _ _ _ _ _ _ _ _ _ _ _ _ _ _ _ _ _ _ _ _ _ _ _ _ _ _ _ _ _ _ _ _ _ _ _ _ _ _ _ _ _ _ _ _ _ _ _ _ _ _ hk
theorem zz_dwt_Split_3 (ua0 ub0 uc0 ud0 ua1 ub1 uc1 ud1 ua2 ub2 uc2 ud2 ua3 ub3 uc3 ud3 va0 vb0 vc0 vd0 va1 vb1 vc1 vd1 va2 vb2 vc2 vd2 va3 vb3 vc3 vd3 p0 e0 q0 f0 p1 e1 q1 f1 a b c d kk ii : Int) (y0 y1 y2 y3 y4 y5 y6 y7 h0 h1 : List Int) (hk : k_dwt_Split_3 ua0 ub0 uc0 ud0 ua1 ub1 uc1 ud1 ua2 ub2 uc2 ud2 ua3 ub3 uc3 ud3 va0 vb0 vc0 vd0 va1 vb1 vc1 vd1 va2 vb2 vc2 vd2 va3 vb3 vc3 vd3 p0 e0 q0 f0 p1 e1 q1 f1 a b c d kk ii y0 y1 y2 y3 y4 y5 y6 y7 h0 h1 = true) : ZZ (c_dwt_Split_3 ua0 ub0 uc0 ud0 ua1 ub1 uc1 ud1 ua2 ub2 uc2 ud2 ua3 ub3 uc3 ud3 va0 vb0 vc0 vd0 va1 vb1 vc1 vd1 va2 vb2 vc2 vd2 va3 vb3 vc3 vd3 p0 e0 q0 f0 p1 e1 q1 f1 a b c d kk ii y0 y1 y2 y3 y4 y5 y6 y7 h0 h1) T_dwt_Split_3 [.one (.ptr 0 0), .one (.ptr 1 0), .one (.fn 70 [2, 3, 4, 1]), .one (.int .i64 ii)] [some (.box [.int .i64 ua0, .int .i64 ub0, .int .i64 uc0, .int .i64 ud0, .row 5, .int .i64 ua1, .int .i64 ub1, .int .i64 uc1, .int .i64 ud1, .row 6, .int .i64 ua2, .int .i64 ub2, .int .i64 uc2, .int .i64 ud2, .row 7, .int .i64 ua3, .int .i64 ub3, .int .i64 uc3, .int .i64 ud3, .row 8]), some (.box [.int .i64 va0, .int .i64 vb0, .int .i64 vc0, .int .i64 vd0, .row 9, .int .i64 va1, .int .i64 vb1, .int .i64 vc1, .int .i64 vd1, .row 10, .int .i64 va2, .int .i64 vb2, .int .i64 vc2, .int .i64 vd2, .row 11, .int .i64 va3, .int .i64 vb3, .int .i64 vc3, .int .i64 vd3, .row 12]), some (.box [.int .i64 p0, .int .i64 e0, .int .i64 q0, .int .i64 f0, .row 13, .int .i64 p1, .int .i64 e1, .int .i64 q1, .int .i64 f1, .row 14]), some (.box [.int .i64 a, .int .i64 b, .int .i64 c, .int .i64 d]), some (.box [.int .i64 kk]), some (.arr 3 (.int .i64) y0), some (.arr 3 (.int .i64) y1), some (.arr 3 (.int .i64) y2), some (.arr 3 (.int .i64) y3), some (.arr 3 (.int .i64) y4), some (.arr 3 (.int .i64) y5), some (.arr 3 (.int .i64) y6), some (.arr 3 (.int .i64) y7), some (.arr 3 (.int .i64) h0), some (.arr 3 (.int .i64) h1)] := by
  simp only [k_dwt_Split_3, Bool.and_eq_true, decide_eq_true_eq] at hk
  obtain ⟨⟨rfl, s0⟩, s1⟩ := hk
  refine ⟨3, fun K r h => ?_⟩
  simp only [iter, tu_dwt_Split_3_0, U_dwt_Split_3_0, LT.next, LT.run, ite2_bool, s0, if_true]
  simp only [iter, tu_dwt_Split_3_1, U_dwt_Split_3_1, LT.next, LT.run, ite2_bool, s1, if_true]
  simp only [iter, tu_dwt_Split_3_2, U_dwt_Split_3_2, LT.next, LT.run, ite2_bool]
  exact h
theorem z_dwt_Split_3 : ZOk S_dwt_Split_3 T_dwt_Split_3 := by
  intro vs bl t y0'
  refine d_dwt_Split_3 y0' fun ua0 ub0 uc0 ud0 ua1 ub1 uc1 ud1 ua2 ub2 uc2 ud2 ua3 ub3 uc3 ud3 va0 vb0 vc0 vd0 va1 vb1 vc1 vd1 va2 vb2 vc2 vd2 va3 vb3 vc3 vd3 p0 e0 q0 f0 p1 e1 q1 f1 a b c d kk ii y0 y1 y2 y3 y4 y5 y6 y7 h0 h1 u1' u2' yy' => ?_
  subst u1' u2'
  obtain ⟨hk, rfl⟩ := Prod.mk.inj (Option.some.inj yy')
  exact zz_dwt_Split_3 _ _ _ _ _ _ _ _ _ _ _ _ _ _ _ _ _ _ _ _ _ _ _ _ _ _ _ _ _ _ _ _ _ _ _ _ _ _ _ _ _ _ _ _ _ _ _ _ _ _ _ _ _ _ _ _ hk
theorem q_dwt_Split (a b c d k : Int) (l : List Int) (hok : small l.length = true) : funR Try.prog t_dwt_Split (annOf []) l_dwt_Split 20 Try.f34 [.agg [.int .i64 a, .int .i64 b, .int .i64 c, .int .i64 d, .lst (.int .i64) l], .one (.int .i64 k)] [] = some ⟨.tup [(true, [.int .i64 ((spR a b c d k l 0).1), .int .i64 ((spR a b c d k l 0).2.1), .int .i64 ((spR a b c d k l 0).2.2.1), .int .i64 ((spR a b c d k l 0).2.2.2), .row 0, .int .i64 ((spR a b c d k l 1).1), .int .i64 ((spR a b c d k l 1).2.1), .int .i64 ((spR a b c d k l 1).2.2.1), .int .i64 ((spR a b c d k l 1).2.2.2), .row 1, .int .i64 ((spR a b c d k l 2).1), .int .i64 ((spR a b c d k l 2).2.1), .int .i64 ((spR a b c d k l 2).2.2.1), .int .i64 ((spR a b c d k l 2).2.2.2), .row 2, .int .i64 ((spR a b c d k l 3).1), .int .i64 ((spR a b c d k l 3).2.1), .int .i64 ((spR a b c d k l 3).2.2.1), .int .i64 ((spR a b c d k l 3).2.2.2), .row 3]), (false, [.int .i64 (spErr a b c d k l)])], [], [.arr 3 (.int .i64) (spD0 a b c d k l), .arr 3 (.int .i64) (spD1 a b c d k l), .arr 3 (.int .i64) (spD2 a b c d k l), .arr 3 (.int .i64) (spD3 a b c d k l)]⟩ := by
    refine (e_dwt_Split ..).trans ?_
    simp only [ite2_bool]
    cases hv : plV a b c d l
    · simp [spErr, spR, spD0, spD1, spD2, spD3, hv]
    cases hk : inr 1 3 k
    · simp [spErr, spR, spD0, spD1, spD2, spD3, hv, hk]
    cases hf : fitB 35184372088832 l
    · simp [spErr, spR, spD0, spD1, spD2, spD3, hv, hk, hf, hok]
    have pb := plV_b hv
    have e : spErr a b c d k l = 0 := by simp [spErr, hv, hk, hf]
    have ho := half_ok hv hk (fitB_fit hf)
    have hb := bnd_v pb.1
    have hs : inr 0 4096 b = true := inr_t (by omega) (by omega)
    have ce := cev_bd (s := a) (n := c - a) (by omega)
    have cf := cev_bd (s := b) (n := d - b) (by omega)
    have v0 := valid_bnd5 (a := a) (b := b) (c := c) (d := d) (o := 0) (by omega) (by omega)
    have v1 := valid_bnd5 (a := a) (b := b) (c := c) (d := d) (o := 1) (by omega) (by omega)
    have v2 := valid_bnd5 (a := a) (b := b) (c := c) (d := d) (o := 2) (by omega) (by omega)
    have v3 := valid_bnd5 (a := a) (b := b) (c := c) (d := d) (o := 3) (by omega) (by omega)
    have d0 : colsLo (zer (area (bnd a b c d 0).1 (bnd a b c d 0).2.1 (bnd a b c d 0).2.2.1 (bnd a b c d 0).2.2.2)) (sLo a b c d k l) (Int.toNat ((bnd a b c d 0).2.2.1 - (bnd a b c d 0).1)) (Int.toNat (d - b)) b k = spD0 a b c d k l := by
      rw [spD0, if_pos e]
      unfold bw bh
      refine colsLo_mat hk hs (by omega) ho.2.2.1 ?_ (toNat_area v0)
      simp only [hb.1, cev]; omega
    have d1 : colsLo (zer (area (bnd a b c d 1).1 (bnd a b c d 1).2.1 (bnd a b c d 1).2.2.1 (bnd a b c d 1).2.2.2)) (sHi a b c d k l) (Int.toNat ((bnd a b c d 1).2.2.1 - (bnd a b c d 1).1)) (Int.toNat (d - b)) b k = spD1 a b c d k l := by
      rw [spD1, if_pos e]
      unfold bw bh
      refine colsLo_mat hk hs (by omega) ho.2.2.2 ?_ (toNat_area v1)
      simp only [hb.2.1, cev]; omega
    have d2 : colsHi (zer (area (bnd a b c d 2).1 (bnd a b c d 2).2.1 (bnd a b c d 2).2.2.1 (bnd a b c d 2).2.2.2)) (sLo a b c d k l) (Int.toNat ((bnd a b c d 0).2.2.1 - (bnd a b c d 0).1)) (Int.toNat (d - b)) b k = spD2 a b c d k l := by
      rw [spD2, if_pos e]
      unfold bw bh
      have ta := toNat_area v2
      simp only [hb.1, hb.2.2.1] at ta ⊢
      refine colsHi_mat hk hs (by omega) ho.2.2.1 ?_ ta
      simp only [cev]; omega
    have d3 : colsHi (zer (area (bnd a b c d 3).1 (bnd a b c d 3).2.1 (bnd a b c d 3).2.2.1 (bnd a b c d 3).2.2.2)) (sHi a b c d k l) (Int.toNat ((bnd a b c d 1).2.2.1 - (bnd a b c d 1).1)) (Int.toNat (d - b)) b k = spD3 a b c d k l := by
      rw [spD3, if_pos e]
      unfold bw bh
      have ta := toNat_area v3
      simp only [hb.2.1, hb.2.2.2] at ta ⊢
      refine colsHi_mat hk hs (by omega) ho.2.2.2 ?_ ta
      simp only [cev]; omega
    rw [d0, d1, d2, d3]
    have k1 : k_dwt_Split_1 a b c d k 0 0 0 0 0 0 0 0 0 0 0 0 0 0 0 0 0 0 0 0 0 0 0 0 0 0 0 0 0 0 0 0 a b c d (bnd a b c d 0).1 (bnd a b c d 0).2.1 (bnd a b c d 0).2.2.1 (bnd a b c d 0).2.2.2 (bnd a b c d 1).1 (bnd a b c d 1).2.1 (bnd a b c d 1).2.2.1 (bnd a b c d 1).2.2.2 (bnd a b c d 2).1 (bnd a b c d 2).2.1 (bnd a b c d 2).2.2.1 (bnd a b c d 2).2.2.2 (bnd a b c d 3).1 (bnd a b c d 3).2.1 (bnd a b c d 3).2.2.1 (bnd a b c d 3).2.2.2 (bnd a b c d 0).1 b (bnd a b c d 0).2.2.1 d (bnd a b c d 1).1 b (bnd a b c d 1).2.2.1 d b l [] [] [] [] [] [] [] [] [] [] = true := by
      simp only [k_dwt_Split_1, hv, hk, hf, decide_true, Bool.and_self]
    rw [k1, v0, v1, v2, v3]
    have ta0 := toNat_area v0
    have ta1 := toNat_area v1
    have ta2 := toNat_area v2
    have ta3 := toNat_area v3
    have mm : ∀ x y z : Int, 0 ≤ x → x ≤ z → 0 ≤ y → x * y ≤ z * y := fun x y z h1 h2 h3 => Int.mul_le_mul_of_nonneg_right h2 h3
    have m1 := mm (cev a (c - a)) (d - b) (c - a) ce.1 ce.2 (by omega)
    have m2 := mm ((c - a) - cev a (c - a)) (d - b) (c - a) (by omega) (by omega) (by omega)
    have zl : ∀ (x : Int) (p q e f m n : Int), x.toNat = (f - e).toNat * (q - p).toNat → p ≤ q → f - e = m → 0 ≤ m → q - p = n → ((zer x).length : Int) = n * m := by
      intro x p q e f m n h1 h2 h3 h4 h5
      rw [zer, List.length_replicate, h1, Int.natCast_mul, Int.toNat_of_nonneg (by omega), Int.toNat_of_nonneg (by omega), h3, h5, Int.mul_comm]
    have s0 : spOk (bnd a b c d 0).1 b (bnd a b c d 0).2.2.1 d b k (bnd a b c d 0).1 (bnd a b c d 0).2.2.1 (bnd a b c d 2).1 (bnd a b c d 2).2.2.1 (sLo a b c d k l) (zer (area (bnd a b c d 0).1 (bnd a b c d 0).2.1 (bnd a b c d 0).2.2.1 (bnd a b c d 0).2.2.2)) (zer (area (bnd a b c d 2).1 (bnd a b c d 2).2.1 (bnd a b c d 2).2.2.1 (bnd a b c d 2).2.2.2)) = true := by
      simp only [hb.1, hb.2.2.1] at ta0 ta2 ⊢
      have ew : (c + 1) / 2 - (a + 1) / 2 = cev a (c - a) := by unfold cev; omega
      exact spOk_i (by omega) hk (by rw [ew]; exact ho.1) (by rw [ew]; omega) ho.2.2.1 (zl _ _ _ _ _ _ _ ta0 (by omega) (by unfold cev; omega) cf.1 rfl) (zl _ _ _ _ _ _ _ ta2 (by omega) (by unfold cev; omega) (by omega) rfl)
    have s1 : spOk (bnd a b c d 1).1 b (bnd a b c d 1).2.2.1 d b k (bnd a b c d 1).1 (bnd a b c d 1).2.2.1 (bnd a b c d 3).1 (bnd a b c d 3).2.2.1 (sHi a b c d k l) (zer (area (bnd a b c d 1).1 (bnd a b c d 1).2.1 (bnd a b c d 1).2.2.1 (bnd a b c d 1).2.2.2)) (zer (area (bnd a b c d 3).1 (bnd a b c d 3).2.1 (bnd a b c d 3).2.2.1 (bnd a b c d 3).2.2.2)) = true := by
      simp only [hb.2.1, hb.2.2.2] at ta1 ta3 ⊢
      have ew : c / 2 - a / 2 = (c - a) - cev a (c - a) := by unfold cev; omega
      exact spOk_i (by omega) hk (by rw [ew]; exact ho.2.1) (by rw [ew]; omega) ho.2.2.2 (zl _ _ _ _ _ _ _ ta1 (by omega) (by unfold cev; omega) cf.1 rfl) (zl _ _ _ _ _ _ _ ta3 (by omega) (by unfold cev; omega) (by omega) rfl)
    simp only [k_dwt_Split_3, s0, s1, decide_true, Bool.and_self, Bool.not_true, Bool.and_true, if_true, hok, spR, e, reduceIte, Bool.false_eq_true]
theorem s_dwt_Split : SoundFun Try.prog 34 G_dwt_Split := by
  refine fun_ok (tab := t_dwt_Split) (ann := annOf []) (lt := l_dwt_Split) (tab_cons s_pl_Valid (tab_cons s_dwt_Bands (tab_cons s_dwt_known (tab_cons s_dwt_exceeds (tab_cons s_pl_Row (tab_cons s_lift_Forward (tab_cons s_dwt_empty (tab_cons s_dwt_Split_1 tab_nil)))))))) (by kernel_rfl) (fn := Try.f34) (by kernel_rfl) (by decide) (c := bodyOf Try.f34) (by kernel_rfl) (by
    intro m b hb
    have hb' : b ∈ loopsOf (bodyOf Try.f34) := hb
    rw [o_dwt_Split] at hb'
    simp only [List.mem_cons, List.not_mem_nil, or_false] at hb'
    rcases hb' with rfl | rfl | rfl | rfl
    · exact loop_none (by kernel_rfl) m
    · exact loop_ok (key := 17) (by kernel_rfl) rfl r_dwt_Split_1 z_dwt_Split_1 m
    · exact loop_none (by kernel_rfl) m
    · exact loop_ok (key := 32) (by kernel_rfl) rfl r_dwt_Split_3 z_dwt_Split_3 m
    ) ?_ (keep_nil (by kernel_rfl))
  intro args lent o y0'
  unfold G_dwt_Split at y0'
  obtain ⟨q', args, rfl, y1'⟩ := pA_s y0'
  obtain ⟨a, b, c, d, q', rfl, y2'⟩ := t4_s y1'
  obtain ⟨c', q', rfl, y3'⟩ := tC_s y2'
  obtain ⟨l, rfl, y4'⟩ := kLI_s y3'
  obtain ⟨rfl, y5'⟩ := tE_s y4'
  obtain ⟨k, args, rfl, y6'⟩ := pI_s y5'
  obtain ⟨rfl, y7'⟩ := pE_s y6'
  obtain ⟨rfl, y8'⟩ := nE_s y7'
  have yy' := y8'
  unfold H_dwt_Split at yy'
  obtain ⟨hok, rfl⟩ := Prod.mk.inj (Option.some.inj yy')
  exact ⟨20, q_dwt_Split _ _ _ _ _ _ hok⟩
theorem at_par {b e s i par : Int} {l : List Int} (hn : 2 ≤ l.length) (h : ∀ q : Nat, q < l.length → (s + q) % 2 = par → -b ≤ rd l q ∧ rd l q ≤ b) (hp : (s + i + e) % 2 = par) : -b ≤ at_ l (i + e) ∧ at_ l (i + e) ≤ b := by
  unfold at_
  have h1 := mr_in (n := l.length) (i + e) (by omega)
  have h2 := mr_par (n := l.length) (i + e)
  obtain ⟨q, hq⟩ := Int.eq_ofNat_of_zero_le h1.1
  rw [hq] at h1 h2 ⊢
  exact h q (by omega) (by omega)
theorem iz_bd {l : List Int} {s k : Int} (h : Bd 281474976710656 l) : Bd 1125899906842624 (iz l s k) := by
  unfold iz
  split
  rotate_left
  · exact h.mono (by omega)
  rename_i hn
  have hn : 2 ≤ l.length := by omega
  unfold inv
  generalize hm : stp 0 (-1) (upd k) s l = m
  have hml : m.length = l.length := by rw [← hm, stp_length]
  have m0 : ∀ q : Nat, q < m.length → (s + q) % 2 = 0 → -422212465065985 ≤ rd m q ∧ rd m q ≤ 422212465065985 := by
    intro q hq hp
    rw [← hm, stp_val q (by omega) hp]
    have a1 := h.at (q + 1) hn
    have a2 := h.at (q - 1) hn
    have a0 := h q
    unfold upd
    split <;> omega
  have m1 : ∀ q : Nat, q < m.length → (s + q) % 2 = 1 → -281474976710656 ≤ rd m q ∧ rd m q ≤ 281474976710656 := by
    intro q hq hp
    rw [← hm, stp_keep q (by omega)]
    exact h q
  intro q
  by_cases hq : q < m.length
  rotate_left
  · rw [rd_out _ _ (by rw [stp_length]; omega)]; omega
  by_cases hp : (s + q) % 2 = 1
  · rw [stp_val q hq hp]
    have b1 := at_par (e := 1) (i := q) (by omega) m0 (by omega)
    have b2 := at_par (e := -1) (i := q) (by omega) m0 (by omega)
    have b3 := at_par (e := 3) (i := q) (by omega) m0 (by omega)
    have b4 := at_par (e := -3) (i := q) (by omega) m0 (by omega)
    have c1 := m1 q hq hp
    unfold prd
    simp only [Int.sub_eq_add_neg]
    split
    · omega
    · split <;> omega
  · rw [stp_keep q hp]
    have := m0 q hq (by omega)
    omega
theorem iv_good {p q : List Int} {s k n : Int} (hk : inr 1 3 k = true) (hs : inr 0 4096 s = true) (hn : 0 ≤ n ∧ n ≤ 4096) (hp : (p.length : Int) = cev s n) (hq : (q.length : Int) = n - cev s n) (fp : fit 1125899906842624 p) (fq : fit 1125899906842624 q) : (iv p q s k).2 = 0 ∧ ((iv p q s k).1.length : Int) = n ∧ (fit 281474976710656 p → fit 281474976710656 q → fit 1125899906842624 (iv p q s k).1) ∧ ∃ z : List Int, (z.length : Int) = n ∧ p = evs s z ∧ q = ods s z ∧ (iv p q s k).1 = iz z s k := by
  obtain ⟨m, rfl⟩ : ∃ m : Nat, n = m := ⟨n.toNat, by omega⟩
  have h := evs_ilv m s p q hp hq
  have hl := ilv_length m s p q
  have hb := ilv_bd (c := 281474976710656) (by omega) m s p q
  generalize ilv s m p q = z at h hl hb
  obtain ⟨rfl, rfl⟩ := h
  have e := iv_ok (inr_b hk) (inr_b hs) (by omega) fp fq
  rw [e]
  exact ⟨rfl, by rw [iz_len, hl], fun f1 f2 => (iz_bd (Bd.of_mem (by omega) (hb f1 f2))).mem, z, by rw [hl], rfl, rfl, rfl⟩
theorem mgB_s {ii : Int} {x y : Bool} (h : mgB ii x y = true) : (ii = 0 ∧ x = true) ∨ (ii = 1 ∧ y = true) := by
  simpa [mgB] using h
theorem plV_len {a b c d : Int} {l : List Int} (h : plV a b c d l = true) : l.length = (d - b).toNat * (c - a).toNat := by
  have hb := plV_b h
  have h1 : ((d - b).toNat : Int) = d - b := Int.toNat_of_nonneg (by omega)
  have h2 : ((c - a).toNat : Int) = c - a := Int.toNat_of_nonneg (by omega)
  have h3 : (((d - b).toNat * (c - a).toNat : Nat) : Int) = (c - a) * (d - b) := by rw [Int.natCast_mul, h1, h2, Int.mul_comm]
  omega
theorem plCol_at {a b c d : Int} {l : List Int} (hv : plV a b c d l = true) {j : Nat} (hj : j < (c - a).toNat) {x : Int} (hx : x = a + j) : plCol a b c d l x = colOf l (c - a).toNat j (d - b).toNat := by
  unfold plCol
  rw [if_pos (by simp only [colOk, hv, Bool.and_eq_true, decide_eq_true_eq, true_and]; omega), show (x - a).toNat = j by omega]
theorem plRow_at {a b c d : Int} {l : List Int} (hv : plV a b c d l = true) {j : Nat} (hj : j < (d - b).toNat) {y : Int} (hy : y = b + j) : plRow a b c d l y = rowAt l (c - a).toNat j := by
  have hb := plV_b hv
  have h2 : ((c - a).toNat : Int) = c - a := Int.toNat_of_nonneg (by omega)
  unfold plRow rowAt
  rw [if_pos (by simp only [rowOk, hv, Bool.and_eq_true, decide_eq_true_eq, true_and]; omega), show y - b = (j : Int) by omega, ← h2, ← Int.natCast_mul, Int.toNat_natCast]
  rfl
theorem mgOk_s {g0 g1 g2 g3 s k a b c d a' b' c' d' : Int} {l l' t : List Int} (h : mgOk g0 g1 g2 g3 s k a b c d a' b' c' d' l l' t = true) : plV a b c d l = true ∧ plV a' b' c' d' l' = true ∧ inr 1 3 k = true ∧ inr 0 4096 s = true ∧ fit 281474976710656 l ∧ fit 281474976710656 l' ∧ g0 = a ∧ g2 = c ∧ a' = a ∧ c' = c ∧ (0 ≤ g3 - g1 ∧ g3 - g1 ≤ 4096) ∧ d - b = cev s (g3 - g1) ∧ d' - b' = (g3 - g1) - cev s (g3 - g1) ∧ (t.length : Int) = (g2 - g0) * (g3 - g1) := by
  simp only [mgOk, Bool.and_eq_true, decide_eq_true_eq] at h
  obtain ⟨⟨⟨⟨⟨⟨⟨⟨⟨⟨⟨⟨⟨h1, h2⟩, h3⟩, h4⟩, h5⟩, h6⟩, h7⟩, h8⟩, h9⟩, h10⟩, h11⟩, h12⟩, h13⟩, h14⟩ := h
  exact ⟨h1, h2, h3, h4, fitB_fit h5, fitB_fit h6, h7, h8, h9, h10, inr_b h11, h12, h13, h14⟩
theorem mgCol_ok {l l' : List Int} {g n n' : Nat} {s k m : Int} (hk : inr 1 3 k = true) (hs : inr 0 4096 s = true) (hm : 0 ≤ m ∧ m ≤ 4096) (e1 : (n : Int) = cev s m) (e2 : (n' : Int) = m - cev s m) (f1 : fit 281474976710656 l) (f2 : fit 281474976710656 l') (x : Nat) : (iv (colOf l g x n) (colOf l' g x n') s k).2 = 0 ∧ ((mgCol l l' g n n' s k x).length : Int) = m ∧ fit 1125899906842624 (mgCol l l' g n n' s k x) := by
  have c1 := fit_col (by omega) f1 g x n
  have c2 := fit_col (by omega) f2 g x n'
  have h := iv_good hk hs hm (p := colOf l g x n) (q := colOf l' g x n') (by rw [colOf_len, e1]) (by rw [colOf_len, e2]) (fit_mono c1 (by omega)) (fit_mono c2 (by omega))
  exact ⟨h.1, h.2.1, h.2.2.1 c1 c2⟩
theorem mg_step {g0 g1 g2 g3 s k a b c d a' b' c' d' : Int} {l l' t : List Int} (h : mgOk g0 g1 g2 g3 s k a b c d a' b' c' d' l l' t = true) {j : Nat} (hj : j < (c - a).toNat) : plCol a b c d l (g0 + (j : Int)) = colOf l (c - a).toNat j (d - b).toNat ∧ plCol a' b' c' d' l' (g0 + (j : Int)) = colOf l' (c - a).toNat j (d' - b').toNat ∧ (d - b).toNat ≤ 4096 ∧ (d' - b').toNat ≤ 4096 ∧ (iv (colOf l (c - a).toNat j (d - b).toNat) (colOf l' (c - a).toNat j (d' - b').toNat) s k).2 = 0 ∧ ((mgCol l l' (c - a).toNat (d - b).toNat (d' - b').toNat s k j).length : Int) = g3 - g1 ∧ (0 ≤ g0 ∧ g0 + (j : Int) < g2 ∧ g2 ≤ 4096 ∧ g0 = a ∧ g2 = c ∧ g3 - g1 ≤ 4096) ∧ (t.length : Int) = (g2 - g0) * (g3 - g1) := by
  obtain ⟨h1, h2, h3, h4, h5, h6, rfl, rfl, rfl, rfl, h11, h12, h13, h14⟩ := mgOk_s h
  have pb := plV_b h1
  have pc := plV_b h2
  have ce := cev_bd (s := s) (n := g3 - g1) h11.1
  have hc := fun g => mgCol_ok (g := g) (n := (d - b).toNat) (n' := (d' - b').toNat) h3 h4 h11 (by omega) (by omega) h5 h6 j
  exact ⟨plCol_at h1 hj rfl, plCol_at h2 hj rfl, by omega, by omega, (hc _).1, (hc _).2.1, ⟨by omega, by omega, by omega, rfl, rfl, by omega⟩, h14⟩
theorem fit_mat {b : Int} {n g : Nat} {f : Nat → List Int} (h0 : 0 ≤ b) (h : ∀ x, x < g → fit b (f x)) : fit b (matC n g f) := fun y hy => by
  unfold matC at hy
  obtain ⟨i, _, hi⟩ := List.mem_flatMap.1 hy
  obtain ⟨x, hx, rfl⟩ := List.mem_map.1 hi
  exact gI_fit h0 (h x (List.mem_range.1 hx)) _
theorem mgH_mat {s k a b c d b' d' m ar : Int} {l l' : List Int} {n : Nat} (hk : inr 1 3 k = true) (hs : inr 0 4096 s = true) (hm : 0 ≤ m ∧ m ≤ 4096) (e1 : d - b = cev s m) (e2 : d' - b' = m - cev s m) (f1 : fit 281474976710656 l) (f2 : fit 281474976710656 l') (hn : (n : Int) = m) (ha : ar.toNat = n * (c - a).toNat) : mgH s k a b c d b' d' l l' (zer ar) = matC n (c - a).toNat (mgCol l l' (c - a).toNat (d - b).toNat (d' - b').toNat s k) ∧ fit 1125899906842624 (mgH s k a b c d b' d' l l' (zer ar)) := by
  have ce := cev_bd (s := s) (n := m) hm.1
  have hc := fun x => mgCol_ok (g := (c - a).toNat) (n := (d - b).toNat) (n' := (d' - b').toNat) hk hs hm (by omega) (by omega) f1 f2 x
  have e : mgH s k a b c d b' d' l l' (zer ar) = matC n (c - a).toNat (mgCol l l' (c - a).toNat (d - b).toNat (d' - b').toNat s k) :=
    setCs_mat (by rw [zer, List.length_replicate, ha]) fun x hx => by have := (hc x).2.1; omega
  exact ⟨e, by rw [e]; exact fit_mat (by omega) fun x hx => (hc x).2.2⟩
theorem mgRow_ok {p e q f p' e' q' f' s k m : Int} {h h' : List Int} (v1 : plV p e q f h = true) (v2 : plV p' e' q' f' h' = true) (hk : inr 1 3 k = true) (hs : inr 0 4096 s = true) (hm : 0 ≤ m ∧ m ≤ 4096) (e1 : q - p = cev s m) (e2 : q' - p' = m - cev s m) (f1 : fit 1125899906842624 h) (f2 : fit 1125899906842624 h') {j : Nat} (hj : j < (f - e).toNat) (hj' : j < (f' - e').toNat) : (iv (rowAt h (q - p).toNat j) (rowAt h' (q' - p').toNat j) s k).2 = 0 ∧ ((mgRow h h' (q - p).toNat (q' - p').toNat s k j).length : Int) = m ∧ (rowAt h (q - p).toNat j).length ≤ 4096 ∧ (rowAt h' (q' - p').toNat j).length ≤ 4096 := by
  have r1 := rowAt_len (plV_len v1) hj
  have r2 := rowAt_len (plV_len v2) hj'
  have b1 := plV_b v1
  have b2 := plV_b v2
  have hi := iv_good hk hs hm (p := rowAt h (q - p).toNat j) (q := rowAt h' (q' - p').toNat j) (by rw [r1, ← e1]; omega) (by rw [r2, ← e2]; omega) (fit_row f1 _ _) (fit_row f2 _ _)
  exact ⟨hi.1, hi.2.1, by omega, by omega⟩
theorem isR_s {a b c d : Int} {r : Rc} (h : isR a b c d r = true) : a = r.1 ∧ b = r.2.1 ∧ c = r.2.2.1 ∧ d = r.2.2.2 := by
  simpa [isR] using h
theorem plV_i {a b c d : Int} {l : List Int} (h : valid a b c d = true) (hl : (l.length : Int) = (c - a) * (d - b)) (ha : (c - a) * (d - b) ≤ 1048576) : plV a b c d l = true := by
  have ar := area_v h
  simp only [plV, h, hl, ar.1, decide_true, Bool.and_true, Bool.true_and, decide_eq_true_eq]
  exact ha
theorem mgOk_i {g0 g1 g2 g3 s k a b c d a' b' c' d' : Int} {l l' t : List Int} (h1 : plV a b c d l = true) (h2 : plV a' b' c' d' l' = true) (h3 : inr 1 3 k = true) (h4 : inr 0 4096 s = true) (h5 : fitB 281474976710656 l = true) (h6 : fitB 281474976710656 l' = true) (h7 : g0 = a) (h8 : g2 = c) (h9 : a' = a) (h10 : c' = c) (h11 : 0 ≤ g3 - g1 ∧ g3 - g1 ≤ 4096) (h12 : d - b = cev s (g3 - g1)) (h13 : d' - b' = (g3 - g1) - cev s (g3 - g1)) (h14 : (t.length : Int) = (g2 - g0) * (g3 - g1)) : mgOk g0 g1 g2 g3 s k a b c d a' b' c' d' l l' t = true := by
  subst h7 h8 h9 h10
  simp only [mgOk, h1, h2, h3, h4, h5, h6, inr_t (a := 0) (b := 4096) h11.1 h11.2, h12, h13, h14, decide_true, Bool.and_self]
theorem d_dwt_Merge_2 {α : Type} {vs : List V} {bl : List (Option Blk)} {K} {r0' : α} {Q : Prop} (y0' : D_dwt_Merge_2 vs bl K = some r0') (hh' : ∀ (kk : Int) (a0 : Int) (b0 : Int) (c0 : Int) (d0 : Int) (a1 : Int) (b1 : Int) (c1 : Int) (d1 : Int) (a2 : Int) (b2 : Int) (c2 : Int) (d2 : Int) (a3 : Int) (b3 : Int) (c3 : Int) (d3 : Int) (a : Int) (b : Int) (c : Int) (d : Int) (za : Int) (zb : Int) (zc : Int) (zd : Int) (va0 : Int) (vb0 : Int) (vc0 : Int) (vd0 : Int) (va1 : Int) (vb1 : Int) (vc1 : Int) (vd1 : Int) (va2 : Int) (vb2 : Int) (vc2 : Int) (vd2 : Int) (va3 : Int) (vb3 : Int) (vc3 : Int) (vd3 : Int) (p0 : Int) (e0 : Int) (q0 : Int) (f0 : Int) (p1 : Int) (e1 : Int) (q1 : Int) (f1 : Int) (ii : Int) (l0 : List Int) (l1 : List Int) (l2 : List Int) (l3 : List Int) (y0 : List Int) (h0 : List Int) (h1 : List Int), vs = [.one (.int .i64 kk), .one (.ptr 0 0), .one (.ptr 1 0), .one (.ptr 2 0), .one (.ptr 3 0), .one (.ptr 4 0), .one (.int .i64 ii)] → bl = [some (.box [.int .i64 a0, .int .i64 b0, .int .i64 c0, .int .i64 d0, .lst (.int .i64) l0, .int .i64 a1, .int .i64 b1, .int .i64 c1, .int .i64 d1, .lst (.int .i64) l1, .int .i64 a2, .int .i64 b2, .int .i64 c2, .int .i64 d2, .lst (.int .i64) l2, .int .i64 a3, .int .i64 b3, .int .i64 c3, .int .i64 d3, .lst (.int .i64) l3]), some (.box [.int .i64 a, .int .i64 b, .int .i64 c, .int .i64 d]), some (.box [.int .i64 za, .int .i64 zb, .int .i64 zc, .int .i64 zd, .row 5]), some (.box [.int .i64 va0, .int .i64 vb0, .int .i64 vc0, .int .i64 vd0, .int .i64 va1, .int .i64 vb1, .int .i64 vc1, .int .i64 vd1, .int .i64 va2, .int .i64 vb2, .int .i64 vc2, .int .i64 vd2, .int .i64 va3, .int .i64 vb3, .int .i64 vc3, .int .i64 vd3]), some (.box [.int .i64 p0, .int .i64 e0, .int .i64 q0, .int .i64 f0, .row 6, .int .i64 p1, .int .i64 e1, .int .i64 q1, .int .i64 f1, .row 7]), some (.arr 3 (.int .i64) y0), some (.arr 3 (.int .i64) h0), some (.arr 3 (.int .i64) h1)] → K kk a0 b0 c0 d0 a1 b1 c1 d1 a2 b2 c2 d2 a3 b3 c3 d3 a b c d za zb zc zd va0 vb0 vc0 vd0 va1 vb1 vc1 vd1 va2 vb2 vc2 vd2 va3 vb3 vc3 vd3 p0 e0 q0 f0 p1 e1 q1 f1 ii l0 l1 l2 l3 y0 h0 h1 = some r0' → Q) : Q := by
  unfold D_dwt_Merge_2 at y0'
  obtain ⟨kk, vs, rfl, y1'⟩ := pI_s y0'
  obtain ⟨vs, rfl, y2'⟩ := pP_s y1'
  obtain ⟨vs, rfl, y3'⟩ := pP_s y2'
  obtain ⟨vs, rfl, y4'⟩ := pP_s y3'
  obtain ⟨vs, rfl, y5'⟩ := pP_s y4'
  obtain ⟨vs, rfl, y6'⟩ := pP_s y5'
  obtain ⟨ii, vs, rfl, y7'⟩ := pI_s y6'
  obtain ⟨rfl, y8'⟩ := pE_s y7'
  obtain ⟨q', bl, rfl, y9'⟩ := bB_s y8'
  obtain ⟨a0, b0, c0, d0, l0, a1, b1, c1, d1, l1, a2, b2, c2, d2, l2, a3, b3, c3, d3, l3, rfl, y10'⟩ := rd4L_s y9'
  obtain ⟨q', bl, rfl, y11'⟩ := bB_s y10'
  obtain ⟨a, b, c, d, q', rfl, y12'⟩ := t4_s y11'
  obtain ⟨rfl, y13'⟩ := tE_s y12'
  obtain ⟨q', bl, rfl, y14'⟩ := bB_s y13'
  obtain ⟨za, zb, zc, zd, rfl, y15'⟩ := rd1P_s y14'
  obtain ⟨q', bl, rfl, y16'⟩ := bB_s y15'
  obtain ⟨va0, vb0, vc0, vd0, va1, vb1, vc1, vd1, va2, vb2, vc2, vd2, va3, vb3, vc3, vd3, rfl, y17'⟩ := rd4R_s y16'
  obtain ⟨q', bl, rfl, y18'⟩ := bB_s y17'
  obtain ⟨p0, e0, q0, f0, p1, e1, q1, f1, rfl, y19'⟩ := rd2P_s y18'
  obtain ⟨y0, bl, rfl, y20'⟩ := bAI_s y19'
  obtain ⟨h0, bl, rfl, y21'⟩ := bAI_s y20'
  obtain ⟨h1, bl, rfl, y22'⟩ := bAI_s y21'
  obtain ⟨rfl, y23'⟩ := bE_s y22'
  have yy' := y23'
  exact hh' _ _ _ _ _ _ _ _ _ _ _ _ _ _ _ _ _ _ _ _ _ _ _ _ _ _ _ _ _ _ _ _ _ _ _ _ _ _ _ _ _ _ _ _ _ _ _ _ _ _ _ _ _ _ _ _ _ rfl rfl yy'
theorem r_dwt_Merge_2 : RoundOk Try.prog t_dwt_Merge (annOf []) l_dwt_Merge Out 20 0 180 [2, 3, 4, 6, 8, 13, 73] (kxOf [2, 4, 6, 13] [6, 7]) (loopOf Try.f62 2) T_dwt_Merge_2 := by
  intro vs bl Kc r h
  unfold T_dwt_Merge_2 at h
  obtain ⟨t, y0', h'⟩ := getD_run h
  refine d_dwt_Merge_2 y0' fun kk a0 b0 c0 d0 a1 b1 c1 d1 a2 b2 c2 d2 a3 b3 c3 d3 a b c d za zb zc zd va0 vb0 vc0 vd0 va1 vb1 vc1 vd1 va2 vb2 vc2 vd2 va3 vb3 vc3 vd3 p0 e0 q0 f0 p1 e1 q1 f1 ii l0 l1 l2 l3 y0 h0 h1 u1' u2' yy' => ?_
  subst u1' u2'
  cases yy'
  by_cases w0' : ii = 0
  · subst w0'; exact (b_dwt_Merge_2_0 ..).trans h'
  by_cases w1' : ii = 1
  · subst w1'; exact (b_dwt_Merge_2_1 ..).trans h'
  by_cases w2' : ii = 2
  · subst w2'; exact (b_dwt_Merge_2_2 ..).trans h'
  rw [hds_no (by intro j hj; simp only [List.length_cons, List.length_nil] at hj; omega)] at h'
  cases h'
theorem d_dwt_Merge_3 {α : Type} {vs : List V} {bl : List (Option Blk)} {K} {r0' : α} {Q : Prop} (y0' : D_dwt_Merge_3 vs bl K = some r0') (hh' : ∀ (kk : Int) (a0 : Int) (b0 : Int) (c0 : Int) (d0 : Int) (a1 : Int) (b1 : Int) (c1 : Int) (d1 : Int) (a2 : Int) (b2 : Int) (c2 : Int) (d2 : Int) (a3 : Int) (b3 : Int) (c3 : Int) (d3 : Int) (a : Int) (b : Int) (c : Int) (d : Int) (za : Int) (zb : Int) (zc : Int) (zd : Int) (va0 : Int) (vb0 : Int) (vc0 : Int) (vd0 : Int) (va1 : Int) (vb1 : Int) (vc1 : Int) (vd1 : Int) (va2 : Int) (vb2 : Int) (vc2 : Int) (vd2 : Int) (va3 : Int) (vb3 : Int) (vc3 : Int) (vd3 : Int) (p0 : Int) (e0 : Int) (q0 : Int) (f0 : Int) (p1 : Int) (e1 : Int) (q1 : Int) (f1 : Int) (g0 : Int) (g1 : Int) (g2 : Int) (g3 : Int) (ii : Int) (x : Int) (i2 : Int) (l0 : List Int) (l1 : List Int) (l2 : List Int) (l3 : List Int) (y0 : List Int) (h0 : List Int) (h1 : List Int) (t : List Int), vs = [.one (.int .i64 kk), .one (.ptr 0 0), .one (.ptr 1 0), .one (.ptr 2 0), .one (.ptr 3 0), .one (.ptr 4 0), .one (.int .i64 ii), .one (.ptr 5 0), .one (.int .i64 x), .one (.int .i64 i2)] → bl = [some (.box [.int .i64 a0, .int .i64 b0, .int .i64 c0, .int .i64 d0, .lst (.int .i64) l0, .int .i64 a1, .int .i64 b1, .int .i64 c1, .int .i64 d1, .lst (.int .i64) l1, .int .i64 a2, .int .i64 b2, .int .i64 c2, .int .i64 d2, .lst (.int .i64) l2, .int .i64 a3, .int .i64 b3, .int .i64 c3, .int .i64 d3, .lst (.int .i64) l3]), some (.box [.int .i64 a, .int .i64 b, .int .i64 c, .int .i64 d]), some (.box [.int .i64 za, .int .i64 zb, .int .i64 zc, .int .i64 zd, .row 6]), some (.box [.int .i64 va0, .int .i64 vb0, .int .i64 vc0, .int .i64 vd0, .int .i64 va1, .int .i64 vb1, .int .i64 vc1, .int .i64 vd1, .int .i64 va2, .int .i64 vb2, .int .i64 vc2, .int .i64 vd2, .int .i64 va3, .int .i64 vb3, .int .i64 vc3, .int .i64 vd3]), some (.box [.int .i64 p0, .int .i64 e0, .int .i64 q0, .int .i64 f0, .row 7, .int .i64 p1, .int .i64 e1, .int .i64 q1, .int .i64 f1, .row 8]), some (.box [.int .i64 g0, .int .i64 g1, .int .i64 g2, .int .i64 g3, .row 9]), some (.arr 3 (.int .i64) y0), some (.arr 3 (.int .i64) h0), some (.arr 3 (.int .i64) h1), some (.arr 3 (.int .i64) t)] → K kk a0 b0 c0 d0 a1 b1 c1 d1 a2 b2 c2 d2 a3 b3 c3 d3 a b c d za zb zc zd va0 vb0 vc0 vd0 va1 vb1 vc1 vd1 va2 vb2 vc2 vd2 va3 vb3 vc3 vd3 p0 e0 q0 f0 p1 e1 q1 f1 g0 g1 g2 g3 ii x i2 l0 l1 l2 l3 y0 h0 h1 t = some r0' → Q) : Q := by
  unfold D_dwt_Merge_3 at y0'
  obtain ⟨kk, vs, rfl, y1'⟩ := pI_s y0'
  obtain ⟨vs, rfl, y2'⟩ := pP_s y1'
  obtain ⟨vs, rfl, y3'⟩ := pP_s y2'
  obtain ⟨vs, rfl, y4'⟩ := pP_s y3'
  obtain ⟨vs, rfl, y5'⟩ := pP_s y4'
  obtain ⟨vs, rfl, y6'⟩ := pP_s y5'
  obtain ⟨ii, vs, rfl, y7'⟩ := pI_s y6'
  obtain ⟨vs, rfl, y8'⟩ := pP_s y7'
  obtain ⟨x, vs, rfl, y9'⟩ := pI_s y8'
  obtain ⟨i2, vs, rfl, y10'⟩ := pI_s y9'
  obtain ⟨rfl, y11'⟩ := pE_s y10'
  obtain ⟨q', bl, rfl, y12'⟩ := bB_s y11'
  obtain ⟨a0, b0, c0, d0, l0, a1, b1, c1, d1, l1, a2, b2, c2, d2, l2, a3, b3, c3, d3, l3, rfl, y13'⟩ := rd4L_s y12'
  obtain ⟨q', bl, rfl, y14'⟩ := bB_s y13'
  obtain ⟨a, b, c, d, q', rfl, y15'⟩ := t4_s y14'
  obtain ⟨rfl, y16'⟩ := tE_s y15'
  obtain ⟨q', bl, rfl, y17'⟩ := bB_s y16'
  obtain ⟨za, zb, zc, zd, rfl, y18'⟩ := rd1P_s y17'
  obtain ⟨q', bl, rfl, y19'⟩ := bB_s y18'
  obtain ⟨va0, vb0, vc0, vd0, va1, vb1, vc1, vd1, va2, vb2, vc2, vd2, va3, vb3, vc3, vd3, rfl, y20'⟩ := rd4R_s y19'
  obtain ⟨q', bl, rfl, y21'⟩ := bB_s y20'
  obtain ⟨p0, e0, q0, f0, p1, e1, q1, f1, rfl, y22'⟩ := rd2P_s y21'
  obtain ⟨q', bl, rfl, y23'⟩ := bB_s y22'
  obtain ⟨g0, g1, g2, g3, rfl, y24'⟩ := rd1P_s y23'
  obtain ⟨y0, bl, rfl, y25'⟩ := bAI_s y24'
  obtain ⟨h0, bl, rfl, y26'⟩ := bAI_s y25'
  obtain ⟨h1, bl, rfl, y27'⟩ := bAI_s y26'
  obtain ⟨t, bl, rfl, y28'⟩ := bAI_s y27'
  obtain ⟨rfl, y29'⟩ := bE_s y28'
  have yy' := y29'
  exact hh' _ _ _ _ _ _ _ _ _ _ _ _ _ _ _ _ _ _ _ _ _ _ _ _ _ _ _ _ _ _ _ _ _ _ _ _ _ _ _ _ _ _ _ _ _ _ _ _ _ _ _ _ _ _ _ _ _ _ _ _ _ _ _ _ rfl rfl yy'
theorem r_dwt_Merge_3 : RoundOk Try.prog t_dwt_Merge (annOf []) l_dwt_Merge Out 20 0 180 [2, 3, 4, 6, 8, 13, 14, 15, 16, 73] (kxOf [2, 3, 4, 6, 8, 13, 14, 15, 73] [6, 7]) (loopOf Try.f62 3) T_dwt_Merge_3 := by
  intro vs bl Kc r h
  unfold T_dwt_Merge_3 at h
  obtain ⟨t, y0', h'⟩ := getD_run h
  refine d_dwt_Merge_3 y0' fun kk a0 b0 c0 d0 a1 b1 c1 d1 a2 b2 c2 d2 a3 b3 c3 d3 a b c d za zb zc zd va0 vb0 vc0 vd0 va1 vb1 vc1 vd1 va2 vb2 vc2 vd2 va3 vb3 vc3 vd3 p0 e0 q0 f0 p1 e1 q1 f1 g0 g1 g2 g3 ii x i2 l0 l1 l2 l3 y0 h0 h1 t u1' u2' yy' => ?_
  subst u1' u2'
  cases yy'
  by_cases w0' : ii = 0
  · subst w0'; exact (b_dwt_Merge_3_0 ..).trans h'
  by_cases w1' : ii = 1
  · subst w1'; exact (b_dwt_Merge_3_1 ..).trans h'
  rw [hds_no (by intro j hj; simp only [List.length_cons, List.length_nil] at hj; omega)] at h'
  cases h'
theorem d_dwt_Merge_4 {α : Type} {vs : List V} {bl : List (Option Blk)} {K} {r0' : α} {Q : Prop} (y0' : D_dwt_Merge_4 vs bl K = some r0') (hh' : ∀ (kk : Int) (a : Int) (b : Int) (c : Int) (d : Int) (za : Int) (zb : Int) (zc : Int) (zd : Int) (p0 : Int) (e0 : Int) (q0 : Int) (f0 : Int) (p1 : Int) (e1 : Int) (q1 : Int) (f1 : Int) (oa : Int) (ob : Int) (oc : Int) (od : Int) (y : Int) (y0 : List Int) (h0 : List Int) (h1 : List Int) (v : List Int), vs = [.one (.int .i64 kk), .one (.ptr 0 0), .one (.ptr 1 0), .one (.ptr 2 0), .one (.ptr 3 0), .one (.int .i64 y)] → bl = [some (.box [.int .i64 a, .int .i64 b, .int .i64 c, .int .i64 d]), some (.box [.int .i64 za, .int .i64 zb, .int .i64 zc, .int .i64 zd, .row 4]), some (.box [.int .i64 p0, .int .i64 e0, .int .i64 q0, .int .i64 f0, .row 5, .int .i64 p1, .int .i64 e1, .int .i64 q1, .int .i64 f1, .row 6]), some (.box [.int .i64 oa, .int .i64 ob, .int .i64 oc, .int .i64 od, .row 7]), some (.arr 3 (.int .i64) y0), some (.arr 3 (.int .i64) h0), some (.arr 3 (.int .i64) h1), some (.arr 3 (.int .i64) v)] → K kk a b c d za zb zc zd p0 e0 q0 f0 p1 e1 q1 f1 oa ob oc od y y0 h0 h1 v = some r0' → Q) : Q := by
  unfold D_dwt_Merge_4 at y0'
  obtain ⟨kk, vs, rfl, y1'⟩ := pI_s y0'
  obtain ⟨vs, rfl, y2'⟩ := pP_s y1'
  obtain ⟨vs, rfl, y3'⟩ := pP_s y2'
  obtain ⟨vs, rfl, y4'⟩ := pP_s y3'
  obtain ⟨vs, rfl, y5'⟩ := pP_s y4'
  obtain ⟨y, vs, rfl, y6'⟩ := pI_s y5'
  obtain ⟨rfl, y7'⟩ := pE_s y6'
  obtain ⟨q', bl, rfl, y8'⟩ := bB_s y7'
  obtain ⟨a, b, c, d, q', rfl, y9'⟩ := t4_s y8'
  obtain ⟨rfl, y10'⟩ := tE_s y9'
  obtain ⟨q', bl, rfl, y11'⟩ := bB_s y10'
  obtain ⟨za, zb, zc, zd, rfl, y12'⟩ := rd1P_s y11'
  obtain ⟨q', bl, rfl, y13'⟩ := bB_s y12'
  obtain ⟨p0, e0, q0, f0, p1, e1, q1, f1, rfl, y14'⟩ := rd2P_s y13'
  obtain ⟨q', bl, rfl, y15'⟩ := bB_s y14'
  obtain ⟨oa, ob, oc, od, rfl, y16'⟩ := rd1P_s y15'
  obtain ⟨y0, bl, rfl, y17'⟩ := bAI_s y16'
  obtain ⟨h0, bl, rfl, y18'⟩ := bAI_s y17'
  obtain ⟨h1, bl, rfl, y19'⟩ := bAI_s y18'
  obtain ⟨v, bl, rfl, y20'⟩ := bAI_s y19'
  obtain ⟨rfl, y21'⟩ := bE_s y20'
  have yy' := y21'
  exact hh' _ _ _ _ _ _ _ _ _ _ _ _ _ _ _ _ _ _ _ _ _ _ _ _ _ _ rfl rfl yy'
theorem r_dwt_Merge_4 : RoundOk Try.prog t_dwt_Merge (annOf []) l_dwt_Merge Out 20 0 180 [2, 4, 6, 13, 23, 24] (kxOf [6, 23] [6, 7]) (loopOf Try.f62 4) T_dwt_Merge_4 := by
  intro vs bl Kc r h
  unfold T_dwt_Merge_4 at h
  obtain ⟨t, y0', h'⟩ := getD_run h
  refine d_dwt_Merge_4 y0' fun kk a b c d za zb zc zd p0 e0 q0 f0 p1 e1 q1 f1 oa ob oc od y y0 h0 h1 v u1' u2' yy' => ?_
  subst u1' u2'
  cases yy'
  exact (b_dwt_Merge_4 ..).trans h'
theorem o_dwt_Merge : loopsOf (bodyOf Try.f62) = [loopOf Try.f62 0, loopOf Try.f62 1, loopOf Try.f62 2, loopOf Try.f62 3, loopOf Try.f62 4] := by kernel_rfl
theorem zz_dwt_Merge_2 (kk a0 b0 c0 d0 a1 b1 c1 d1 a2 b2 c2 d2 a3 b3 c3 d3 a b c d za zb zc zd va0 vb0 vc0 vd0 va1 vb1 vc1 vd1 va2 vb2 vc2 vd2 va3 vb3 vc3 vd3 p0 e0 q0 f0 p1 e1 q1 f1 ii : Int) (l0 l1 l2 l3 y0 h0 h1 : List Int) (hk : k_dwt_Merge_2 kk a0 b0 c0 d0 a1 b1 c1 d1 a2 b2 c2 d2 a3 b3 c3 d3 a b c d za zb zc zd va0 vb0 vc0 vd0 va1 vb1 vc1 vd1 va2 vb2 vc2 vd2 va3 vb3 vc3 vd3 p0 e0 q0 f0 p1 e1 q1 f1 ii l0 l1 l2 l3 y0 h0 h1 = true) : ZZ (c_dwt_Merge_2 kk a0 b0 c0 d0 a1 b1 c1 d1 a2 b2 c2 d2 a3 b3 c3 d3 a b c d za zb zc zd va0 vb0 vc0 vd0 va1 vb1 vc1 vd1 va2 vb2 vc2 vd2 va3 vb3 vc3 vd3 p0 e0 q0 f0 p1 e1 q1 f1 ii l0 l1 l2 l3 y0 h0 h1) T_dwt_Merge_2 [.one (.int .i64 kk), .one (.ptr 0 0), .one (.ptr 1 0), .one (.ptr 2 0), .one (.ptr 3 0), .one (.ptr 4 0), .one (.int .i64 ii)] [some (.box [.int .i64 a0, .int .i64 b0, .int .i64 c0, .int .i64 d0, .lst (.int .i64) l0, .int .i64 a1, .int .i64 b1, .int .i64 c1, .int .i64 d1, .lst (.int .i64) l1, .int .i64 a2, .int .i64 b2, .int .i64 c2, .int .i64 d2, .lst (.int .i64) l2, .int .i64 a3, .int .i64 b3, .int .i64 c3, .int .i64 d3, .lst (.int .i64) l3]), some (.box [.int .i64 a, .int .i64 b, .int .i64 c, .int .i64 d]), some (.box [.int .i64 za, .int .i64 zb, .int .i64 zc, .int .i64 zd, .row 5]), some (.box [.int .i64 va0, .int .i64 vb0, .int .i64 vc0, .int .i64 vd0, .int .i64 va1, .int .i64 vb1, .int .i64 vc1, .int .i64 vd1, .int .i64 va2, .int .i64 vb2, .int .i64 vc2, .int .i64 vd2, .int .i64 va3, .int .i64 vb3, .int .i64 vc3, .int .i64 vd3]), some (.box [.int .i64 p0, .int .i64 e0, .int .i64 q0, .int .i64 f0, .row 6, .int .i64 p1, .int .i64 e1, .int .i64 q1, .int .i64 f1, .row 7]), some (.arr 3 (.int .i64) y0), some (.arr 3 (.int .i64) h0), some (.arr 3 (.int .i64) h1)] := by
  simp only [k_dwt_Merge_2, Bool.and_eq_true, decide_eq_true_eq] at hk
  obtain ⟨⟨rfl, v0, s0⟩, v1, s1⟩ := hk
  refine ⟨3, fun K r h => ?_⟩
  simp only [iter, tu_dwt_Merge_2_0, U_dwt_Merge_2_0, LT.next, LT.run, ite2_bool, v0, if_true]
  rw [if_pos (by simp only [k_dwt_Merge_3, mgB, s0, decide_true, Bool.and_self, Bool.true_or])]
  simp only [iter, tu_dwt_Merge_2_1, U_dwt_Merge_2_1, LT.next, LT.run, ite2_bool, v1, if_true]
  rw [if_pos (by simp only [k_dwt_Merge_3, mgB, s1, decide_true, Bool.and_self, Bool.or_true])]
  simp only [iter, tu_dwt_Merge_2_2, U_dwt_Merge_2_2, LT.next, LT.run, ite2_bool]
  exact h
theorem z_dwt_Merge_2 : ZOk S_dwt_Merge_2 T_dwt_Merge_2 := by
  intro vs bl t y0'
  refine d_dwt_Merge_2 y0' fun kk a0 b0 c0 d0 a1 b1 c1 d1 a2 b2 c2 d2 a3 b3 c3 d3 a b c d za zb zc zd va0 vb0 vc0 vd0 va1 vb1 vc1 vd1 va2 vb2 vc2 vd2 va3 vb3 vc3 vd3 p0 e0 q0 f0 p1 e1 q1 f1 ii l0 l1 l2 l3 y0 h0 h1 u1' u2' yy' => ?_
  subst u1' u2'
  obtain ⟨hk, rfl⟩ := Prod.mk.inj (Option.some.inj yy')
  exact zz_dwt_Merge_2 _ _ _ _ _ _ _ _ _ _ _ _ _ _ _ _ _ _ _ _ _ _ _ _ _ _ _ _ _ _ _ _ _ _ _ _ _ _ _ _ _ _ _ _ _ _ _ _ _ _ _ _ _ _ _ _ _ hk
theorem zz_dwt_Merge_3 (kk a0 b0 c0 d0 a1 b1 c1 d1 a2 b2 c2 d2 a3 b3 c3 d3 a b c d za zb zc zd va0 vb0 vc0 vd0 va1 vb1 vc1 vd1 va2 vb2 vc2 vd2 va3 vb3 vc3 vd3 p0 e0 q0 f0 p1 e1 q1 f1 g0 g1 g2 g3 ii x i2 : Int) (l0 l1 l2 l3 y0 h0 h1 t : List Int) (hk : k_dwt_Merge_3 kk a0 b0 c0 d0 a1 b1 c1 d1 a2 b2 c2 d2 a3 b3 c3 d3 a b c d za zb zc zd va0 vb0 vc0 vd0 va1 vb1 vc1 vd1 va2 vb2 vc2 vd2 va3 vb3 vc3 vd3 p0 e0 q0 f0 p1 e1 q1 f1 g0 g1 g2 g3 ii x i2 l0 l1 l2 l3 y0 h0 h1 t = true) : ZZ (c_dwt_Merge_3 kk a0 b0 c0 d0 a1 b1 c1 d1 a2 b2 c2 d2 a3 b3 c3 d3 a b c d za zb zc zd va0 vb0 vc0 vd0 va1 vb1 vc1 vd1 va2 vb2 vc2 vd2 va3 vb3 vc3 vd3 p0 e0 q0 f0 p1 e1 q1 f1 g0 g1 g2 g3 ii x i2 l0 l1 l2 l3 y0 h0 h1 t) T_dwt_Merge_3 [.one (.int .i64 kk), .one (.ptr 0 0), .one (.ptr 1 0), .one (.ptr 2 0), .one (.ptr 3 0), .one (.ptr 4 0), .one (.int .i64 ii), .one (.ptr 5 0), .one (.int .i64 x), .one (.int .i64 i2)] [some (.box [.int .i64 a0, .int .i64 b0, .int .i64 c0, .int .i64 d0, .lst (.int .i64) l0, .int .i64 a1, .int .i64 b1, .int .i64 c1, .int .i64 d1, .lst (.int .i64) l1, .int .i64 a2, .int .i64 b2, .int .i64 c2, .int .i64 d2, .lst (.int .i64) l2, .int .i64 a3, .int .i64 b3, .int .i64 c3, .int .i64 d3, .lst (.int .i64) l3]), some (.box [.int .i64 a, .int .i64 b, .int .i64 c, .int .i64 d]), some (.box [.int .i64 za, .int .i64 zb, .int .i64 zc, .int .i64 zd, .row 6]), some (.box [.int .i64 va0, .int .i64 vb0, .int .i64 vc0, .int .i64 vd0, .int .i64 va1, .int .i64 vb1, .int .i64 vc1, .int .i64 vd1, .int .i64 va2, .int .i64 vb2, .int .i64 vc2, .int .i64 vd2, .int .i64 va3, .int .i64 vb3, .int .i64 vc3, .int .i64 vd3]), some (.box [.int .i64 p0, .int .i64 e0, .int .i64 q0, .int .i64 f0, .row 7, .int .i64 p1, .int .i64 e1, .int .i64 q1, .int .i64 f1, .row 8]), some (.box [.int .i64 g0, .int .i64 g1, .int .i64 g2, .int .i64 g3, .row 9]), some (.arr 3 (.int .i64) y0), some (.arr 3 (.int .i64) h0), some (.arr 3 (.int .i64) h1), some (.arr 3 (.int .i64) t)] := by
  simp only [k_dwt_Merge_3, Bool.and_eq_true, decide_eq_true_eq] at hk
  obtain ⟨rfl, hm⟩ := hk
  rcases mgB_s hm with ⟨rfl, hq⟩ | ⟨rfl, hq⟩
  · refine Exists.elim (z_fold (T := T_dwt_Merge_3) (st := fun j => ([.one (.int .i64 kk), .one (.ptr 0 0), .one (.ptr 1 0), .one (.ptr 2 0), .one (.ptr 3 0), .one (.ptr 4 0), .one (.int .i64 0), .one (.ptr 5 0), .one (.int .i64 (x + (j : Int))), .one (.int .i64 i2)], [some (.box [.int .i64 a0, .int .i64 b0, .int .i64 c0, .int .i64 d0, .lst (.int .i64) l0, .int .i64 a1, .int .i64 b1, .int .i64 c1, .int .i64 d1, .lst (.int .i64) l1, .int .i64 a2, .int .i64 b2, .int .i64 c2, .int .i64 d2, .lst (.int .i64) l2, .int .i64 a3, .int .i64 b3, .int .i64 c3, .int .i64 d3, .lst (.int .i64) l3]), some (.box [.int .i64 a, .int .i64 b, .int .i64 c, .int .i64 d]), some (.box [.int .i64 za, .int .i64 zb, .int .i64 zc, .int .i64 zd, .row 6]), some (.box [.int .i64 va0, .int .i64 vb0, .int .i64 vc0, .int .i64 vd0, .int .i64 va1, .int .i64 vb1, .int .i64 vc1, .int .i64 vd1, .int .i64 va2, .int .i64 vb2, .int .i64 vc2, .int .i64 vd2, .int .i64 va3, .int .i64 vb3, .int .i64 vc3, .int .i64 vd3]), some (.box [.int .i64 p0, .int .i64 e0, .int .i64 q0, .int .i64 f0, .row 7, .int .i64 p1, .int .i64 e1, .int .i64 q1, .int .i64 f1, .row 8]), some (.box [.int .i64 x, .int .i64 g1, .int .i64 g2, .int .i64 g3, .row 9]), some (.arr 3 (.int .i64) y0), some (.arr 3 (.int .i64) h0), some (.arr 3 (.int .i64) h1), some (.arr 3 (.int .i64) (setCs t (c0 - a0).toNat (mgCol l0 l2 (c0 - a0).toNat (d0 - b0).toNat (d2 - b2).toNat b kk) j))])) (c0 - a0).toNat (.leaf (.exit 6) [.one (.int .i64 kk), .one (.ptr 0 0), .one (.ptr 1 0), .one (.ptr 2 0), .one (.ptr 3 0), .one (.ptr 4 0), .one (.int .i64 0), .one (.ptr 5 0), .one (.int .i64 i2)] [some (.box [.int .i64 a0, .int .i64 b0, .int .i64 c0, .int .i64 d0, .lst (.int .i64) l0, .int .i64 a1, .int .i64 b1, .int .i64 c1, .int .i64 d1, .lst (.int .i64) l1, .int .i64 a2, .int .i64 b2, .int .i64 c2, .int .i64 d2, .lst (.int .i64) l2, .int .i64 a3, .int .i64 b3, .int .i64 c3, .int .i64 d3, .lst (.int .i64) l3]), some (.box [.int .i64 a, .int .i64 b, .int .i64 c, .int .i64 d]), some (.box [.int .i64 za, .int .i64 zb, .int .i64 zc, .int .i64 zd, .row 6]), some (.box [.int .i64 va0, .int .i64 vb0, .int .i64 vc0, .int .i64 vd0, .int .i64 va1, .int .i64 vb1, .int .i64 vc1, .int .i64 vd1, .int .i64 va2, .int .i64 vb2, .int .i64 vc2, .int .i64 vd2, .int .i64 va3, .int .i64 vb3, .int .i64 vc3, .int .i64 vd3]), some (.box [.int .i64 p0, .int .i64 e0, .int .i64 q0, .int .i64 f0, .row 7, .int .i64 p1, .int .i64 e1, .int .i64 q1, .int .i64 f1, .row 8]), some (.box [.int .i64 x, .int .i64 g1, .int .i64 g2, .int .i64 g3, .row 9]), some (.arr 3 (.int .i64) y0), some (.arr 3 (.int .i64) h0), some (.arr 3 (.int .i64) h1), some (.arr 3 (.int .i64) (mgH b kk a0 b0 c0 d0 b2 d2 l0 l2 t))]) (fun j hj F K => ?_) (fun F K => ?_)) (fun k hk => ⟨k, fun K r h => ?_⟩)
    · have st := mg_step hq hj
      obtain ⟨m1, m2, m3, m4, m5, m6, m7, m8⟩ := st
      have hl := setCs_len t (c0 - a0).toNat (mgCol l0 l2 (c0 - a0).toNat (d0 - b0).toNat (d2 - b2).toNat b kk) j
      have m9 : (iv (colOf l0 (c0 - a0).toNat j (d0 - b0).toNat) (colOf l2 (c0 - a0).toNat j (d2 - b2).toNat) b kk).1 = mgCol l0 l2 (c0 - a0).toNat (d0 - b0).toNat (d2 - b2).toNat b kk j := rfl
      simp only [tu_dwt_Merge_3_0, U_dwt_Merge_3_0, LT.next, LT.run, ite2_bool, decide_eq_true_eq, m1, m2, m5, m9]
      rw [if_pos (by omega), if_pos (by rw [small_of (by rw [colOf_len]; omega), small_of (by rw [colOf_len]; omega)]; rfl), if_neg (by decide), if_pos (set_ok (by omega) (by omega) (by omega) (by omega) (by omega) (by rw [hl, m6, m8])), wrap_in (n := x + (j : Int) + 1) (by omega) (by omega), show (g2 - x).toNat = (c0 - a0).toNat by omega, show (x + (j : Int) - x).toNat = j by omega, show x + (j : Int) + 1 = x + ((j + 1 : Nat) : Int) by omega]
      rfl
    · obtain ⟨y1, y2, y3, y4, y5, y6, y7, y8, y9⟩ := mgOk_s hq
      have pb := plV_b y1
      simp only [tu_dwt_Merge_3_0, U_dwt_Merge_3_0, LT.next, LT.run, ite2_bool, decide_eq_true_eq]
      rw [if_neg (by omega)]
      rfl
    · have hk' := hk K r h
      rw [show x + ((0 : Nat) : Int) = x by simp] at hk'
      exact hk'
  · refine Exists.elim (z_fold (T := T_dwt_Merge_3) (st := fun j => ([.one (.int .i64 kk), .one (.ptr 0 0), .one (.ptr 1 0), .one (.ptr 2 0), .one (.ptr 3 0), .one (.ptr 4 0), .one (.int .i64 1), .one (.ptr 5 0), .one (.int .i64 (x + (j : Int))), .one (.int .i64 i2)], [some (.box [.int .i64 a0, .int .i64 b0, .int .i64 c0, .int .i64 d0, .lst (.int .i64) l0, .int .i64 a1, .int .i64 b1, .int .i64 c1, .int .i64 d1, .lst (.int .i64) l1, .int .i64 a2, .int .i64 b2, .int .i64 c2, .int .i64 d2, .lst (.int .i64) l2, .int .i64 a3, .int .i64 b3, .int .i64 c3, .int .i64 d3, .lst (.int .i64) l3]), some (.box [.int .i64 a, .int .i64 b, .int .i64 c, .int .i64 d]), some (.box [.int .i64 za, .int .i64 zb, .int .i64 zc, .int .i64 zd, .row 6]), some (.box [.int .i64 va0, .int .i64 vb0, .int .i64 vc0, .int .i64 vd0, .int .i64 va1, .int .i64 vb1, .int .i64 vc1, .int .i64 vd1, .int .i64 va2, .int .i64 vb2, .int .i64 vc2, .int .i64 vd2, .int .i64 va3, .int .i64 vb3, .int .i64 vc3, .int .i64 vd3]), some (.box [.int .i64 p0, .int .i64 e0, .int .i64 q0, .int .i64 f0, .row 7, .int .i64 p1, .int .i64 e1, .int .i64 q1, .int .i64 f1, .row 8]), some (.box [.int .i64 x, .int .i64 g1, .int .i64 g2, .int .i64 g3, .row 9]), some (.arr 3 (.int .i64) y0), some (.arr 3 (.int .i64) h0), some (.arr 3 (.int .i64) h1), some (.arr 3 (.int .i64) (setCs t (c1 - a1).toNat (mgCol l1 l3 (c1 - a1).toNat (d1 - b1).toNat (d3 - b3).toNat b kk) j))])) (c1 - a1).toNat (.leaf (.exit 6) [.one (.int .i64 kk), .one (.ptr 0 0), .one (.ptr 1 0), .one (.ptr 2 0), .one (.ptr 3 0), .one (.ptr 4 0), .one (.int .i64 1), .one (.ptr 5 0), .one (.int .i64 i2)] [some (.box [.int .i64 a0, .int .i64 b0, .int .i64 c0, .int .i64 d0, .lst (.int .i64) l0, .int .i64 a1, .int .i64 b1, .int .i64 c1, .int .i64 d1, .lst (.int .i64) l1, .int .i64 a2, .int .i64 b2, .int .i64 c2, .int .i64 d2, .lst (.int .i64) l2, .int .i64 a3, .int .i64 b3, .int .i64 c3, .int .i64 d3, .lst (.int .i64) l3]), some (.box [.int .i64 a, .int .i64 b, .int .i64 c, .int .i64 d]), some (.box [.int .i64 za, .int .i64 zb, .int .i64 zc, .int .i64 zd, .row 6]), some (.box [.int .i64 va0, .int .i64 vb0, .int .i64 vc0, .int .i64 vd0, .int .i64 va1, .int .i64 vb1, .int .i64 vc1, .int .i64 vd1, .int .i64 va2, .int .i64 vb2, .int .i64 vc2, .int .i64 vd2, .int .i64 va3, .int .i64 vb3, .int .i64 vc3, .int .i64 vd3]), some (.box [.int .i64 p0, .int .i64 e0, .int .i64 q0, .int .i64 f0, .row 7, .int .i64 p1, .int .i64 e1, .int .i64 q1, .int .i64 f1, .row 8]), some (.box [.int .i64 x, .int .i64 g1, .int .i64 g2, .int .i64 g3, .row 9]), some (.arr 3 (.int .i64) y0), some (.arr 3 (.int .i64) h0), some (.arr 3 (.int .i64) h1), some (.arr 3 (.int .i64) (mgH b kk a1 b1 c1 d1 b3 d3 l1 l3 t))]) (fun j hj F K => ?_) (fun F K => ?_)) (fun k hk => ⟨k, fun K r h => ?_⟩)
    · have st := mg_step hq hj
      obtain ⟨m1, m2, m3, m4, m5, m6, m7, m8⟩ := st
      have hl := setCs_len t (c1 - a1).toNat (mgCol l1 l3 (c1 - a1).toNat (d1 - b1).toNat (d3 - b3).toNat b kk) j
      have m9 : (iv (colOf l1 (c1 - a1).toNat j (d1 - b1).toNat) (colOf l3 (c1 - a1).toNat j (d3 - b3).toNat) b kk).1 = mgCol l1 l3 (c1 - a1).toNat (d1 - b1).toNat (d3 - b3).toNat b kk j := rfl
      simp only [tu_dwt_Merge_3_1, U_dwt_Merge_3_1, LT.next, LT.run, ite2_bool, decide_eq_true_eq, m1, m2, m5, m9]
      rw [if_pos (by omega), if_pos (by rw [small_of (by rw [colOf_len]; omega), small_of (by rw [colOf_len]; omega)]; rfl), if_neg (by decide), if_pos (set_ok (by omega) (by omega) (by omega) (by omega) (by omega) (by rw [hl, m6, m8])), wrap_in (n := x + (j : Int) + 1) (by omega) (by omega), show (g2 - x).toNat = (c1 - a1).toNat by omega, show (x + (j : Int) - x).toNat = j by omega, show x + (j : Int) + 1 = x + ((j + 1 : Nat) : Int) by omega]
      rfl
    · obtain ⟨y1, y2, y3, y4, y5, y6, y7, y8, y9⟩ := mgOk_s hq
      have pb := plV_b y1
      simp only [tu_dwt_Merge_3_1, U_dwt_Merge_3_1, LT.next, LT.run, ite2_bool, decide_eq_true_eq]
      rw [if_neg (by omega)]
      rfl
    · have hk' := hk K r h
      rw [show x + ((0 : Nat) : Int) = x by simp] at hk'
      exact hk'
theorem z_dwt_Merge_3 : ZOk S_dwt_Merge_3 T_dwt_Merge_3 := by
  intro vs bl t y0'
  refine d_dwt_Merge_3 y0' fun kk a0 b0 c0 d0 a1 b1 c1 d1 a2 b2 c2 d2 a3 b3 c3 d3 a b c d za zb zc zd va0 vb0 vc0 vd0 va1 vb1 vc1 vd1 va2 vb2 vc2 vd2 va3 vb3 vc3 vd3 p0 e0 q0 f0 p1 e1 q1 f1 g0 g1 g2 g3 ii x i2 l0 l1 l2 l3 y0 h0 h1 t u1' u2' yy' => ?_
  subst u1' u2'
  obtain ⟨hk, rfl⟩ := Prod.mk.inj (Option.some.inj yy')
  exact zz_dwt_Merge_3 _ _ _ _ _ _ _ _ _ _ _ _ _ _ _ _ _ _ _ _ _ _ _ _ _ _ _ _ _ _ _ _ _ _ _ _ _ _ _ _ _ _ _ _ _ _ _ _ _ _ _ _ _ _ _ _ _ _ _ _ _ _ _ _ hk
theorem zz_dwt_Merge_4 (kk a b c d za zb zc zd p0 e0 q0 f0 p1 e1 q1 f1 oa ob oc od y : Int) (y0 h0 h1 v : List Int) (hk : k_dwt_Merge_4 kk a b c d za zb zc zd p0 e0 q0 f0 p1 e1 q1 f1 oa ob oc od y y0 h0 h1 v = true) : ZZ (c_dwt_Merge_4 kk a b c d za zb zc zd p0 e0 q0 f0 p1 e1 q1 f1 oa ob oc od y y0 h0 h1 v) T_dwt_Merge_4 [.one (.int .i64 kk), .one (.ptr 0 0), .one (.ptr 1 0), .one (.ptr 2 0), .one (.ptr 3 0), .one (.int .i64 y)] [some (.box [.int .i64 a, .int .i64 b, .int .i64 c, .int .i64 d]), some (.box [.int .i64 za, .int .i64 zb, .int .i64 zc, .int .i64 zd, .row 4]), some (.box [.int .i64 p0, .int .i64 e0, .int .i64 q0, .int .i64 f0, .row 5, .int .i64 p1, .int .i64 e1, .int .i64 q1, .int .i64 f1, .row 6]), some (.box [.int .i64 oa, .int .i64 ob, .int .i64 oc, .int .i64 od, .row 7]), some (.arr 3 (.int .i64) y0), some (.arr 3 (.int .i64) h0), some (.arr 3 (.int .i64) h1), some (.arr 3 (.int .i64) v)] := by
  simp only [k_dwt_Merge_4, Bool.and_eq_true, decide_eq_true_eq] at hk
  obtain ⟨⟨⟨⟨⟨⟨⟨⟨⟨⟨⟨⟨⟨⟨hy, rfl⟩, z1⟩, z2⟩, v1⟩, v2⟩, t1⟩, t2⟩, t3⟩, t4⟩, w1⟩, w2⟩, z3⟩, w3⟩, w4⟩ := hk
  have b1 := plV_b v1
  have b2 := plV_b v2
  have z3' := inr_b z3
  obtain ⟨n', hn⟩ : ∃ n' : Nat, d - b = n' := ⟨(d - b).toNat, by omega⟩
  have e6 : (d - b).toNat = n' := by omega
  have hr := fun j (hj : j < n') => mgRow_ok v1 v2 z1 z2 z3' w3 w4 (fitB_fit w1) (fitB_fit w2) (j := j) (by omega) (by omega)
  have hl := fun j (hj : j ≤ n') => catR_len (f := mgRow h0 h1 (q0 - p0).toNat (q1 - p1).toNat a kk) (g := (c - a).toNat) j (fun q hq => by have := (hr q (by omega)).2.1; omega)
  refine Exists.elim (z_fold (T := T_dwt_Merge_4) (st := fun j => ([.one (.int .i64 kk), .one (.ptr 0 0), .one (.ptr 1 0), .one (.ptr 2 0), .one (.ptr 3 0), .one (.int .i64 (y + (j : Int)))], [some (.box [.int .i64 a, .int .i64 b, .int .i64 c, .int .i64 d]), some (.box [.int .i64 za, .int .i64 zb, .int .i64 zc, .int .i64 zd, .row 4]), some (.box [.int .i64 p0, .int .i64 e0, .int .i64 q0, .int .i64 f0, .row 5, .int .i64 p1, .int .i64 e1, .int .i64 q1, .int .i64 f1, .row 6]), some (.box [.int .i64 oa, .int .i64 ob, .int .i64 oc, .int .i64 od, .row 7]), some (.arr 3 (.int .i64) y0), some (.arr 3 (.int .i64) h0), some (.arr 3 (.int .i64) h1), some (.arr 3 (.int .i64) (catR (mgRow h0 h1 (q0 - p0).toNat (q1 - p1).toNat a kk) j))])) n' (.leaf (.exit 8) [.one (.ptr 0 0), .one (.ptr 1 0)] [some (.box [.int .i64 za, .int .i64 zb, .int .i64 zc, .int .i64 zd, .row 2]), some (.box [.int .i64 oa, .int .i64 ob, .int .i64 oc, .int .i64 od, .row 3]), some (.arr 3 (.int .i64) y0), some (.arr 3 (.int .i64) (catR (mgRow h0 h1 (q0 - p0).toNat (q1 - p1).toNat a kk) n'))]) (fun j hj F K => ?_) (fun F K => ?_)) (fun k hk => ⟨k, fun K r h => ?_⟩)
  · have hr' := hr j hj
    have hl1 := hl j (by omega)
    have hl2 := hl (j + 1) (by omega)
    have m1 : (j + 1) * (c - a).toNat ≤ 4096 * 4096 := Nat.mul_le_mul (by omega) (by omega)
    have r1 := plRow_at v1 (j := j) (by omega) (y := y + (j : Int)) (by omega)
    have r2 := plRow_at v2 (j := j) (by omega) (y := y + (j : Int)) (by omega)
    simp only [catR, List.length_append] at hl2
    have m9 : (iv (rowAt h0 (q0 - p0).toNat j) (rowAt h1 (q1 - p1).toNat j) a kk).1 = mgRow h0 h1 (q0 - p0).toNat (q1 - p1).toNat a kk j := rfl
    simp only [tu_dwt_Merge_4, U_dwt_Merge_4, LT.next, LT.run, ite2_bool, decide_eq_true_eq, r1, r2, hr'.1, m9]
    rw [if_pos (by omega), if_pos (by rw [small_of (show (rowAt h0 (q0 - p0).toNat j).length ≤ 100000 by omega), small_of (show (rowAt h1 (q1 - p1).toNat j).length ≤ 100000 by omega)]; rfl), if_neg (by decide), if_pos (by omega), wrap_in (n := y + (j : Int) + 1) (by omega) (by omega), show y + (j : Int) + 1 = y + ((j + 1 : Nat) : Int) by omega]
    rfl
  · simp only [tu_dwt_Merge_4, U_dwt_Merge_4, LT.next, LT.run, ite2_bool, decide_eq_true_eq]
    rw [if_neg (by omega)]
  · unfold c_dwt_Merge_4 at h
    rw [e6] at h
    have hk' := hk K r h
    rw [show y + ((0 : Nat) : Int) = y by simp] at hk'
    exact hk'
theorem z_dwt_Merge_4 : ZOk S_dwt_Merge_4 T_dwt_Merge_4 := by
  intro vs bl t y0'
  refine d_dwt_Merge_4 y0' fun kk a b c d za zb zc zd p0 e0 q0 f0 p1 e1 q1 f1 oa ob oc od y y0 h0 h1 v u1' u2' yy' => ?_
  subst u1' u2'
  obtain ⟨hk, rfl⟩ := Prod.mk.inj (Option.some.inj yy')
  exact zz_dwt_Merge_4 _ _ _ _ _ _ _ _ _ _ _ _ _ _ _ _ _ _ _ _ _ _ _ _ _ _ hk
theorem q_dwt_Merge (a0 b0 c0 d0 a1 b1 c1 d1 a2 b2 c2 d2 a3 b3 c3 d3 a b c d k : Int) (l0 l1 l2 l3 : List Int) (hok : (small l0.length && small l1.length && small l2.length && small l3.length) = true) : funR Try.prog t_dwt_Merge (annOf []) l_dwt_Merge 20 Try.f62 [.agg [.int .i64 a0, .int .i64 b0, .int .i64 c0, .int .i64 d0, .lst (.int .i64) l0, .int .i64 a1, .int .i64 b1, .int .i64 c1, .int .i64 d1, .lst (.int .i64) l1, .int .i64 a2, .int .i64 b2, .int .i64 c2, .int .i64 d2, .lst (.int .i64) l2, .int .i64 a3, .int .i64 b3, .int .i64 c3, .int .i64 d3, .lst (.int .i64) l3], .agg [.int .i64 a, .int .i64 b, .int .i64 c, .int .i64 d], .one (.int .i64 k)] [] = some ⟨.tup [(true, [.int .i64 ((mgR (mgErr a0 b0 c0 d0 a1 b1 c1 d1 a2 b2 c2 d2 a3 b3 c3 d3 a b c d k l0 l1 l2 l3) a b c d).1), .int .i64 ((mgR (mgErr a0 b0 c0 d0 a1 b1 c1 d1 a2 b2 c2 d2 a3 b3 c3 d3 a b c d k l0 l1 l2 l3) a b c d).2.1), .int .i64 ((mgR (mgErr a0 b0 c0 d0 a1 b1 c1 d1 a2 b2 c2 d2 a3 b3 c3 d3 a b c d k l0 l1 l2 l3) a b c d).2.2.1), .int .i64 ((mgR (mgErr a0 b0 c0 d0 a1 b1 c1 d1 a2 b2 c2 d2 a3 b3 c3 d3 a b c d k l0 l1 l2 l3) a b c d).2.2.2), .row 0]), (false, [.int .i64 (mgErr a0 b0 c0 d0 a1 b1 c1 d1 a2 b2 c2 d2 a3 b3 c3 d3 a b c d k l0 l1 l2 l3)])], [], [.arr 3 (.int .i64) (mgL (mgErr a0 b0 c0 d0 a1 b1 c1 d1 a2 b2 c2 d2 a3 b3 c3 d3 a b c d k l0 l1 l2 l3) a b c d k l0 l1 l2 l3)]⟩ := by
    refine (e_dwt_Merge ..).trans ?_
    simp only [ite2_bool]
    have hR : ∀ (a b c d : Int) (r : Rc), (a == r.1 && (b == r.2.1 && (c == r.2.2.1 && (d == r.2.2.2 && true)))) = isR a b c d r := fun _ _ _ _ _ => rfl
    simp only [hR]
    simp only [Bool.and_eq_true] at hok
    obtain ⟨⟨⟨o0, o1⟩, o2⟩, o3⟩ := hok
    simp only [o0, o1, o2, o3, Bool.and_true, if_true]
    cases z0 : valid a b c d
    · simp [mgErr, mgR, mgL, z0]
    cases z1 : decide (area a b c d > 1048576)
    rotate_left
    · simp [mgErr, mgR, mgL, z0, z1]
    cases z2 : inr 1 3 k
    · simp [mgErr, mgR, mgL, z0, z1, z2]
    cases p0' : plV a0 b0 c0 d0 l0
    · simp [mgErr, mgR, mgL, z0, z1, z2, p0']
    cases r0' : isR a0 b0 c0 d0 (bnd a b c d 0)
    · simp [mgErr, mgR, mgL, z0, z1, z2, p0', r0']
    cases p1' : plV a1 b1 c1 d1 l1
    · simp [mgErr, mgR, mgL, z0, z1, z2, p0', r0', p1']
    cases r1' : isR a1 b1 c1 d1 (bnd a b c d 1)
    · simp [mgErr, mgR, mgL, z0, z1, z2, p0', r0', p1', r1']
    cases p2' : plV a2 b2 c2 d2 l2
    · simp [mgErr, mgR, mgL, z0, z1, z2, p0', r0', p1', r1', p2']
    cases r2' : isR a2 b2 c2 d2 (bnd a b c d 2)
    · simp [mgErr, mgR, mgL, z0, z1, z2, p0', r0', p1', r1', p2', r2']
    cases p3' : plV a3 b3 c3 d3 l3
    · simp [mgErr, mgR, mgL, z0, z1, z2, p0', r0', p1', r1', p2', r2', p3']
    cases r3' : isR a3 b3 c3 d3 (bnd a b c d 3)
    · simp [mgErr, mgR, mgL, z0, z1, z2, p0', r0', p1', r1', p2', r2', p3', r3']
    cases g0 : fitB 281474976710656 l0
    · simp [mgErr, mgR, mgL, z0, z1, z2, p0', r0', p1', r1', p2', r2', p3', r3', g0]
    cases g1 : fitB 281474976710656 l1
    · simp [mgErr, mgR, mgL, z0, z1, z2, p0', r0', p1', r1', p2', r2', p3', r3', g0, g1]
    cases g2 : fitB 281474976710656 l2
    · simp [mgErr, mgR, mgL, z0, z1, z2, p0', r0', p1', r1', p2', r2', p3', r3', g0, g1, g2]
    cases g3 : fitB 281474976710656 l3
    · simp [mgErr, mgR, mgL, z0, z1, z2, p0', r0', p1', r1', p2', r2', p3', r3', g0, g1, g2, g3]
    have e : mgErr a0 b0 c0 d0 a1 b1 c1 d1 a2 b2 c2 d2 a3 b3 c3 d3 a b c d k l0 l1 l2 l3 = 0 := by simp [mgErr, z0, z1, z2, p0', r0', p1', r1', p2', r2', p3', r3', g0, g1, g2, g3]
    rw [e]
    simp only [Bool.not_true, Bool.false_eq_true, if_false]
    obtain ⟨rfl, rfl, rfl, rfl⟩ := isR_s r0'
    obtain ⟨rfl, rfl, rfl, rfl⟩ := isR_s r1'
    obtain ⟨rfl, rfl, rfl, rfl⟩ := isR_s r2'
    obtain ⟨rfl, rfl, rfl, rfl⟩ := isR_s r3'
    have hb := bnd_v z0
    have ab := valid_b z0
    have av := area_v z0
    have z1' : ¬ area a b c d > 1048576 := by simpa using z1
    have hb0 := hb.1
    have hb1 := hb.2.1
    have hb2 := hb.2.2.1
    have hb3 := hb.2.2.2
    have hs : inr 0 4096 b = true := inr_t (by omega) (by omega)
    have ha : inr 0 4096 a = true := inr_t (by omega) (by omega)
    have ce := cev_bd (s := a) (n := c - a) (by omega)
    have v0 : valid (bnd a b c d 0).1 b (bnd a b c d 0).2.2.1 d = true := by simp only [hb0]; exact valid_i5 (by omega)
    have v1 : valid (bnd a b c d 1).1 b (bnd a b c d 1).2.2.1 d = true := by simp only [hb1]; exact valid_i5 (by omega)
    have M0 := mgH_mat (s := b) (k := k) (a := (bnd a b c d 0).1) (b := (bnd a b c d 0).2.1) (c := (bnd a b c d 0).2.2.1) (d := (bnd a b c d 0).2.2.2) (b' := (bnd a b c d 2).2.1) (d' := (bnd a b c d 2).2.2.2) (m := d - b) (ar := area (bnd a b c d 0).1 b (bnd a b c d 0).2.2.1 d) (l := l0) (l' := l2) (n := (d - b).toNat) z2 hs (by omega) (by simp only [hb0, hb1, hb2, hb3, cev]; omega) (by simp only [hb0, hb1, hb2, hb3, cev]; omega) (fitB_fit g0) (fitB_fit g2) (by omega) (toNat_area v0)
    have M1 := mgH_mat (s := b) (k := k) (a := (bnd a b c d 1).1) (b := (bnd a b c d 1).2.1) (c := (bnd a b c d 1).2.2.1) (d := (bnd a b c d 1).2.2.2) (b' := (bnd a b c d 3).2.1) (d' := (bnd a b c d 3).2.2.2) (m := d - b) (ar := area (bnd a b c d 1).1 b (bnd a b c d 1).2.2.1 d) (l := l1) (l' := l3) (n := (d - b).toNat) z2 hs (by omega) (by simp only [hb0, hb1, hb2, hb3, cev]; omega) (by simp only [hb0, hb1, hb2, hb3, cev]; omega) (fitB_fit g1) (fitB_fit g3) (by omega) (toNat_area v1)
    have x0 : (bnd a b c d 0).2.2.1 - (bnd a b c d 0).1 = cev a (c - a) := by simp only [hb0, cev]; omega
    have x1 : (bnd a b c d 1).2.2.1 - (bnd a b c d 1).1 = (c - a) - cev a (c - a) := by simp only [hb1, cev]; omega
    have mm : ∀ x y z : Int, 0 ≤ x → x ≤ z → 0 ≤ y → x * y ≤ z * y := fun x y z h1 h2 h3 => Int.mul_le_mul_of_nonneg_right h2 h3
    have m1 := mm (cev a (c - a)) (d - b) (c - a) ce.1 ce.2 (by omega)
    have m2 := mm ((c - a) - cev a (c - a)) (d - b) (c - a) (by omega) (by omega) (by omega)
    have zl : ∀ (g : Int), 0 ≤ g → (((d - b).toNat * g.toNat : Nat) : Int) = g * (d - b) := by
      intro g hg
      rw [Int.natCast_mul, Int.toNat_of_nonneg (by omega), Int.toNat_of_nonneg hg, Int.mul_comm]
    have V0 : plV (bnd a b c d 0).1 b (bnd a b c d 0).2.2.1 d (mgH b k (bnd a b c d 0).1 (bnd a b c d 0).2.1 (bnd a b c d 0).2.2.1 (bnd a b c d 0).2.2.2 (bnd a b c d 2).2.1 (bnd a b c d 2).2.2.2 l0 l2 (zer (area (bnd a b c d 0).1 b (bnd a b c d 0).2.2.1 d))) = true :=
      plV_i v0 (by rw [M0.1, matC_len, x0, zl _ (by omega)]) (by rw [x0]; omega)
    have V1 : plV (bnd a b c d 1).1 b (bnd a b c d 1).2.2.1 d (mgH b k (bnd a b c d 1).1 (bnd a b c d 1).2.1 (bnd a b c d 1).2.2.1 (bnd a b c d 1).2.2.2 (bnd a b c d 3).2.1 (bnd a b c d 3).2.2.2 l1 l3 (zer (area (bnd a b c d 1).1 b (bnd a b c d 1).2.2.1 d))) = true :=
      plV_i v1 (by rw [M1.1, matC_len, x1, zl _ (by omega)]) (by rw [x1]; omega)
    rw [if_pos (by
      simp only [k_dwt_Merge_2, v0, v1, decide_true, Bool.true_and, Bool.and_eq_true]
      exact ⟨mgOk_i p0' p2' z2 hs g0 g2 rfl rfl (by simp only [hb0, hb2]) (by simp only [hb0, hb2]) (by omega) (by simp only [hb0, cev]; omega) (by simp only [hb2, cev]; omega) (by rw [zer, List.length_replicate, toNat_area v0, x0, zl _ (by omega)]),
        mgOk_i p1' p3' z2 hs g1 g3 rfl rfl (by simp only [hb1, hb3]) (by simp only [hb1, hb3]) (by omega) (by simp only [hb1, cev]; omega) (by simp only [hb3, cev]; omega) (by rw [zer, List.length_replicate, toNat_area v1, x1, zl _ (by omega)])⟩)]
    rw [if_pos (by simp only [k_dwt_Merge_4, z2, ha, V0, V1, fit_fitB M0.2, fit_fitB M1.2, inr_t (a := 0) (b := 4096) (x := c - a) (by omega) (by omega), x0, x1, decide_true, Bool.and_self])]
    rw [M0.1, M1.1]
    rfl
theorem s_dwt_Merge : SoundFun Try.prog 62 G_dwt_Merge := by
  refine fun_ok (tab := t_dwt_Merge) (ann := annOf []) (lt := l_dwt_Merge) (tab_cons s_pl_Valid (tab_cons s_rect_Valid (tab_cons s_dwt_Bands (tab_cons s_rect_Area (tab_cons s_dwt_known (tab_cons s_dwt_exceeds (tab_cons s_pl_Row (tab_cons s_dwt_empty (tab_cons s_pl_Column (tab_cons s_dwt_setColumn (tab_cons s_lift_Inverse tab_nil))))))))))) (by kernel_rfl) (fn := Try.f62) (by kernel_rfl) (by decide) (c := bodyOf Try.f62) (by kernel_rfl) (by
    intro m b hb
    have hb' : b ∈ loopsOf (bodyOf Try.f62) := hb
    rw [o_dwt_Merge] at hb'
    simp only [List.mem_cons, List.not_mem_nil, or_false] at hb'
    rcases hb' with rfl | rfl | rfl | rfl | rfl
    · exact loop_none (by kernel_rfl) m
    · exact loop_none (by kernel_rfl) m
    · exact loop_ok (key := 20) (by kernel_rfl) rfl r_dwt_Merge_2 z_dwt_Merge_2 m
    · exact loop_ok (key := 24) (by kernel_rfl) rfl r_dwt_Merge_3 z_dwt_Merge_3 m
    · exact loop_ok (key := 36) (by kernel_rfl) rfl r_dwt_Merge_4 z_dwt_Merge_4 m
    ) ?_ (keep_nil (by kernel_rfl))
  intro args lent o y0'
  unfold G_dwt_Merge at y0'
  obtain ⟨q', args, rfl, y1'⟩ := pA_s y0'
  obtain ⟨a0, b0, c0, d0, l0, a1, b1, c1, d1, l1, a2, b2, c2, d2, l2, a3, b3, c3, d3, l3, rfl, y2'⟩ := rd4L_s y1'
  obtain ⟨q', args, rfl, y3'⟩ := pA_s y2'
  obtain ⟨a, b, c, d, q', rfl, y4'⟩ := t4_s y3'
  obtain ⟨rfl, y5'⟩ := tE_s y4'
  obtain ⟨k, args, rfl, y6'⟩ := pI_s y5'
  obtain ⟨rfl, y7'⟩ := pE_s y6'
  obtain ⟨rfl, y8'⟩ := nE_s y7'
  have yy' := y8'
  unfold H_dwt_Merge at yy'
  obtain ⟨hok, rfl⟩ := Prod.mk.inj (Option.some.inj yy')
  exact ⟨20, q_dwt_Merge _ _ _ _ _ _ _ _ _ _ _ _ _ _ _ _ _ _ _ _ _ _ _ _ _ hok⟩

theorem bw_bh {a b c d : Int} (h : valid a b c d = true) : bw a b c d 0 = (cev a (c - a)).toNat ∧ bw a b c d 1 = ((c - a) - cev a (c - a)).toNat ∧ bh a b c d 0 = (cev b (d - b)).toNat ∧ bh a b c d 1 = (cev b (d - b)).toNat ∧ bh a b c d 2 = ((d - b) - cev b (d - b)).toNat ∧ bh a b c d 3 = ((d - b) - cev b (d - b)).toNat := by
  have hb := bnd_v h
  simp only [bw, bh, hb.1, hb.2.1, hb.2.2.1, hb.2.2.2, cev]
  refine ⟨?_, ?_, ?_, ?_, ?_, ?_⟩ <;> omega
theorem q_pyr_Band (a b c d n i : Int) (hok : true = true) : funR Try.prog t_pyr_Band (annOf []) l_pyr_Band 20 Try.f27 [.agg [.int .i64 a, .int .i64 b, .int .i64 c, .int .i64 d], .one (.int .i64 n), .one (.int .i64 i)] [] = some ⟨.agg [.int .i64 ((bandR a b c d n i).1), .int .i64 ((bandR a b c d n i).2.1), .int .i64 ((bandR a b c d n i).2.2.1), .int .i64 ((bandR a b c d n i).2.2.2)], [], []⟩ := by
    refine (e_pyr_Band ..).trans ?_
    simp only [ite2_bool, decide_eq_true_eq, bandR]
    cases h : plOk i n
    · simp
    · have hb := pl_b h
      cases hv : valid a b c d
      · simp
      · by_cases hi : i = 0
        · simp [hi]
        · have hd := pl_d h hi
          rw [wrap_in (n := n - plLv i n) (by omega) (by omega), wrap_in (n := n - plLv i n + 1) (by omega) (by omega)]
          generalize resR a b c d n (n - plLv i n + 1) = y
          have ho : plOr i n = 1 ∨ plOr i n = 2 ∨ plOr i n = 3 := by omega
          rcases ho with ho | ho | ho <;> simp [ho, hi, gI, bndR]
theorem s_pyr_Band : SoundFun Try.prog 27 G_pyr_Band := by
  refine fun_ok (tab := t_pyr_Band) (ann := annOf []) (lt := l_pyr_Band) (tab_cons s_pyr_Place (tab_cons s_pyr_Resolution (tab_cons s_rect_Valid (tab_cons s_dwt_Bands tab_nil)))) (by kernel_rfl) (fn := Try.f27) (by kernel_rfl) (by decide) (c := bodyOf Try.f27) (by kernel_rfl) (no_loops (by kernel_rfl)) ?_ (keep_nil (by kernel_rfl))
  intro args lent o y0'
  unfold G_pyr_Band at y0'
  obtain ⟨q', args, rfl, y1'⟩ := pA_s y0'
  obtain ⟨a, b, c, d, q', rfl, y2'⟩ := t4_s y1'
  obtain ⟨rfl, y3'⟩ := tE_s y2'
  obtain ⟨n, args, rfl, y4'⟩ := pI_s y3'
  obtain ⟨i, args, rfl, y5'⟩ := pI_s y4'
  obtain ⟨rfl, y6'⟩ := pE_s y5'
  obtain ⟨rfl, y7'⟩ := nE_s y6'
  have yy' := y7'
  unfold H_pyr_Band at yy'
  obtain ⟨hok, rfl⟩ := Prod.mk.inj (Option.some.inj yy')
  exact ⟨20, q_pyr_Band _ _ _ _ _ _ hok⟩
theorem d_pyr_exceeds_0 {α : Type} {vs : List V} {bl : List (Option Blk)} {K} {r0' : α} {Q : Prop} (y0' : D_pyr_exceeds_0 vs bl K = some r0') (hh' : ∀ (b : Int) (l : List Int) (n : Int) (i : Int), vs = [.one (.int .i64 b), .one (.lst (.int .i64) l), .one (.int .i64 n), .one (.int .i64 i)] → bl = [] → K b l n i = some r0' → Q) : Q := by
  unfold D_pyr_exceeds_0 at y0'
  obtain ⟨b, vs, rfl, y1'⟩ := pI_s y0'
  obtain ⟨c', vs, rfl, y2'⟩ := pO_s y1'
  obtain ⟨l, rfl, y3'⟩ := kLI_s y2'
  obtain ⟨n, vs, rfl, y4'⟩ := pI_s y3'
  obtain ⟨i, vs, rfl, y5'⟩ := pI_s y4'
  obtain ⟨rfl, y6'⟩ := pE_s y5'
  obtain ⟨rfl, y7'⟩ := bE_s y6'
  have yy' := y7'
  exact hh' _ _ _ _ rfl rfl yy'
theorem r_pyr_exceeds_0 : RoundOk Try.prog t_pyr_exceeds (annOf []) l_pyr_exceeds Out 20 0 23 [1, 7, 8, 9] (kxOf [] [4]) (loopOf Try.f41 0) T_pyr_exceeds_0 := by
  intro vs bl Kc r h
  unfold T_pyr_exceeds_0 at h
  obtain ⟨t, y0', h'⟩ := getD_run h
  refine d_pyr_exceeds_0 y0' fun b l n i u1' u2' yy' => ?_
  subst u1' u2'
  cases yy'
  exact (b_pyr_exceeds_0 ..).trans h'
theorem o_pyr_exceeds : loopsOf (bodyOf Try.f41) = [loopOf Try.f41 0] := by kernel_rfl
theorem zz_pyr_exceeds_0 (b : Int) (l : List Int) (hsm : small (l.length) = true) (hc : (decide (0 ≤ b) && decide (b ≤ 4503599627370496)) = true) : ZZ (c_pyr_exceeds_0 b l) T_pyr_exceeds_0 [.one (.int .i64 b), .one (.lst (.int .i64) l), .one (.int .i64 (l.length : Int)), .one (.int .i64 0)] [] := by
  refine z_list (st := fun i => ([.one (.int .i64 b), .one (.lst (.int .i64) l), .one (.int .i64 (l.length : Int)), .one (.int .i64 ((i : Nat) : Int))], [])) l 0 (inr (-b) b) _ _ (fun i hi F K => ?_) (fun F K => ?_)
  · have hi' : (i : Int) < (l.length : Int) := by omega
    have hc' := hc
    simp only [Bool.and_eq_true, decide_eq_true_eq] at hc'
    simp only [tu_pyr_exceeds_0, U_pyr_exceeds_0, LT.next, LT.run, ite2_dec, ite2_bool, wrap_next hi hsm, Int.toNat_natCast, hi', Int.natCast_nonneg, and_self, if_true, gI, gP, gC, gR]
    rw [show (0 : Int) - b = -b by omega, wrap_in (n := -b) (by omega) (by omega)]
    simp only [inr, Bool.and_eq_true, decide_eq_true_eq]
    by_cases h1 : l[i]?.getD 0 < -b
    · have h3 : ¬ -b ≤ l[i]?.getD 0 := by omega
      simp [h1, h3, gI]
    by_cases h2 : b < l[i]?.getD 0
    · have h3 : ¬ l[i]?.getD 0 ≤ b := by omega
      simp [h1, h2, h3, gI]
    have h3 : -b ≤ l[i]?.getD 0 := by omega
    have h4 : l[i]?.getD 0 ≤ b := by omega
    have h5 : ¬ b < l[i]?.getD 0 := by omega
    simp [h1, h3, h4, h5, gI]
  · simp only [tu_pyr_exceeds_0, U_pyr_exceeds_0, LT.next, LT.run, ite2_dec, Int.lt_irrefl, if_false]
    try rfl
theorem z_pyr_exceeds_0 : ZOk S_pyr_exceeds_0 T_pyr_exceeds_0 := by
  intro vs bl t y0'
  refine d_pyr_exceeds_0 y0' fun b l n i u1' u2' yy' => ?_
  subst u1' u2'
  obtain ⟨hk, rfl⟩ := Prod.mk.inj (Option.some.inj yy')
  unfold k_pyr_exceeds_0 at hk
  simp only [Bool.and_eq_true, decide_eq_true_eq, and_assoc] at hk
  obtain ⟨rfl, rfl, hsm, hc⟩ := hk
  exact zz_pyr_exceeds_0 _ _ hsm (by first | exact hc | simpa using hc | simpa only [Bool.and_eq_true, decide_eq_true_eq, and_assoc] using hc)
theorem q_pyr_exceeds (l : List Int) (b : Int) (hok : (small l.length && (decide (0 ≤ b) && decide (b ≤ 4503599627370496))) = true) : funR Try.prog t_pyr_exceeds (annOf []) l_pyr_exceeds 20 Try.f41 [.one (.lst (.int .i64) l), .one (.int .i64 b)] [] = some ⟨.one (.bool (!fitB b l)), [], []⟩ := by
    refine (e_pyr_exceeds ..).trans ?_
    simp only [ite2_bool, k_pyr_exceeds_0, p_pyr_exceeds_0, hok, Bool.and_true, decide_true, Bool.true_and]
    simp only [Bool.and_eq_true] at hok
    simp [hok, fitB]
    (repeat' split) <;> simp_all
theorem s_pyr_exceeds : SoundFun Try.prog 41 G_pyr_exceeds := by
  refine fun_ok (tab := t_pyr_exceeds) (ann := annOf []) (lt := l_pyr_exceeds) tab_nil (by kernel_rfl) (fn := Try.f41) (by kernel_rfl) (by decide) (c := bodyOf Try.f41) (by kernel_rfl) (by
    intro m b hb
    have hb' : b ∈ loopsOf (bodyOf Try.f41) := hb
    rw [o_pyr_exceeds] at hb'
    simp only [List.mem_cons, List.not_mem_nil, or_false] at hb'
    rcases hb' with rfl
    · exact loop_ok (key := 2) (by kernel_rfl) rfl r_pyr_exceeds_0 z_pyr_exceeds_0 m
    ) ?_ (keep_nil (by kernel_rfl))
  intro args lent o y0'
  unfold G_pyr_exceeds at y0'
  obtain ⟨c', args, rfl, y1'⟩ := pO_s y0'
  obtain ⟨l, rfl, y2'⟩ := kLI_s y1'
  obtain ⟨b, args, rfl, y3'⟩ := pI_s y2'
  obtain ⟨rfl, y4'⟩ := pE_s y3'
  obtain ⟨rfl, y5'⟩ := nE_s y4'
  have yy' := y5'
  unfold H_pyr_exceeds at yy'
  obtain ⟨hok, rfl⟩ := Prod.mk.inj (Option.some.inj yy')
  exact ⟨20, q_pyr_exceeds _ _ hok⟩
theorem hb_le {b k : Int} (h0 : 0 ≤ b ∧ b ≤ 281474976710656) (hk : 1 ≤ k ∧ k ≤ 3) : (0 ≤ hb b k ∧ 4 * hb b k ≤ 9 * b + 4) ∧ (0 ≤ lb b k ∧ 4 * lb b k ≤ 9 * b + 4) := by
  have h1 : 0 ≤ hb b k ∧ 4 * hb b k ≤ 9 * b + 2 := by
    unfold hb
    rw [if_pos ⟨h0.1, h0.2, hk.1, hk.2⟩]
    split <;> omega
  have h2 : 0 ≤ lb b k ∧ 4 * lb b k ≤ 9 * b + 4 := by
    unfold lb
    rw [if_pos ⟨h0.1, h0.2, hk.1, hk.2⟩]
    omega
  omega
theorem fw_fit {l : List Int} {s k B : Int} (hk : inr 1 3 k = true) (hs : inr 0 4096 s = true) (hn : l.length ≤ 4096) (h0 : 0 ≤ B ∧ B ≤ 281474976710656) (hf : fit B l) : fit (lb B k) (fw l s k).1 ∧ fit (hb B k) (fw l s k).2.1 := by
  rw [fw_ok (inr_b hk) (inr_b hs) hn (fit_mono hf h0.2)]
  exact fz_low (inr_b hk) hf h0
theorem spErr_s {a b c d k : Int} {l : List Int} (h : spErr a b c d k l = 0) : plV a b c d l = true ∧ inr 1 3 k = true ∧ fitB 35184372088832 l = true := by
  cases h1 : plV a b c d l
  · simp [spErr, h1] at h
  cases h2 : inr 1 3 k
  · simp [spErr, h1, h2] at h
  cases h3 : fitB 35184372088832 l
  · simp [spErr, h1, h2, h3] at h
  exact ⟨rfl, rfl, rfl⟩
theorem half_fit {a b c d k B : Int} {l : List Int} (hv : plV a b c d l = true) (hk : inr 1 3 k = true) (h0 : 0 ≤ B ∧ B ≤ 281474976710656) (hf : fit B l) : fit (lb B k) (sLo a b c d k l) ∧ fit (hb B k) (sHi a b c d k l) := by
  have pb := plV_b hv
  have hl := plV_len hv
  have ha : inr 0 4096 a = true := inr_t (by omega) (by omega)
  have hq := fun j (hj : j < (d - b).toNat) => fw_fit (l := rowAt l (c - a).toNat j) (s := a) hk ha (by rw [rowAt_len hl hj]; omega) h0 (fit_row hf _ _)
  exact ⟨fit_cat _ fun y hy => (hq y hy).1, fit_cat _ fun y hy => (hq y hy).2⟩
theorem col_fit {h : List Int} {g n m : Nat} {s k B : Int} (hk : inr 1 3 k = true) (hs : inr 0 4096 s = true) (hn : n ≤ 4096) (h0 : 0 ≤ B ∧ B ≤ 281474976710656) (hf : fit B h) : fit (lb B k) (matC m g (cLo h g n s k)) ∧ fit (hb B k) (matC m g (cHi h g n s k)) := by
  have hl := hb_le h0 (inr_b hk)
  have hq := fun x => fw_fit (l := colOf h g x n) (s := s) hk hs (by rw [colOf_len]; exact hn) h0 (fit_col h0.1 hf _ _ _)
  exact ⟨fit_mat hl.2.1 fun x _ => (hq x).1, fit_mat hl.1.1 fun x _ => (hq x).2⟩
theorem spD_fit {a b c d k B : Int} {l : List Int} (e : spErr a b c d k l = 0) (h0 : 0 ≤ B ∧ B ≤ 35184372088832) (hf : fit B l) : fit (lb (lb B k) k) (spD0 a b c d k l) ∧ fit (lb (hb B k) k) (spD1 a b c d k l) ∧ fit (hb (lb B k) k) (spD2 a b c d k l) ∧ fit (hb (hb B k) k) (spD3 a b c d k l) := by
  obtain ⟨hv, hk, _⟩ := spErr_s e
  have pb := plV_b hv
  have hs : inr 0 4096 b = true := inr_t (by omega) (by omega)
  have hl := hb_le (b := B) (k := k) (by omega) (inr_b hk)
  have hh := half_fit hv hk (by omega) hf
  have hn : (d - b).toNat ≤ 4096 := by omega
  have hc := @col_fit (sLo a b c d k l)
  have hd := @col_fit (sHi a b c d k l)
  unfold spD0 spD1 spD2 spD3
  rw [if_pos e, if_pos e, if_pos e, if_pos e]
  exact ⟨(hc hk hs hn (by omega) hh.1).1, (hd hk hs hn (by omega) hh.2).1, (hc hk hs hn (by omega) hh.1).2, (hd hk hs hn (by omega) hh.2).2⟩
theorem spD_len {a b c d k : Int} {l : List Int} (e : spErr a b c d k l = 0) : (spD0 a b c d k l).length = bh a b c d 0 * bw a b c d 0 ∧ (spD1 a b c d k l).length = bh a b c d 1 * bw a b c d 1 ∧ (spD2 a b c d k l).length = bh a b c d 2 * bw a b c d 0 ∧ (spD3 a b c d k l).length = bh a b c d 3 * bw a b c d 1 := by
  unfold spD0 spD1 spD2 spD3
  rw [if_pos e, if_pos e, if_pos e, if_pos e]
  exact ⟨matC_len .., matC_len .., matC_len .., matC_len ..⟩
theorem plV_n {p e q f : Int} {l : List Int} {x y : Int} (h : valid p e q f = true) (hx : q - p = x) (hy : f - e = y) (hl : l.length = y.toNat * x.toNat) (ha : x * y ≤ 1048576) : plV p e q f l = true := by
  have hb := valid_b h
  refine plV_i h ?_ (by rw [hx, hy]; exact ha)
  rw [hl, Int.natCast_mul, Int.toNat_of_nonneg (by omega), Int.toNat_of_nonneg (by omega), hx, hy, Int.mul_comm]
theorem isR_refl (r : Rc) : isR r.1 r.2.1 r.2.2.1 r.2.2.2 r = true := by simp [isR]
end Go.Rx.Ch06
