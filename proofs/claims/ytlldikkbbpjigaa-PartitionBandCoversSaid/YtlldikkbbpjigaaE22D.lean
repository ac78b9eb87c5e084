/- Layer 22: when the law's test for an exact cover says yes: the cells of a grid cut a rectangle into parts that have each point once. -/
import Derived.Test.YtlldikkbbpjigaaE22
import Derived.Test.YtlldikkbbpjigaaPAx15
import Derived.Test.YtlldikkbbpjigaaPAx14
namespace Go.Proofs.Ytlldikkbbpjigaa.E22
open Go.RowKit Go.Proofs.YtlldikkbbpjigaaW.PrintWords Go.Proofs.YtlldikkbbpjigaaW.PrintMore Go.Proofs.YtlldikkbbpjigaaW.PrintLast Go.Proofs.Ytlldikkbbpjigaa.PA Go.Proofs.Ytlldikkbbpjigaa.Ar
def r23 (q : Int × Int × Int × Int) : S23 := ⟨q.1, q.2.1, q.2.2.1, q.2.2.2⟩
/-- Does a rectangle have a point? -/
def hit (x y : Int) (r : S23) : Bool := decide (r.f0 ≤ x ∧ x < r.f2 ∧ r.f1 ≤ y ∧ y < r.f3)
theorem rd_at {xs : List S23} {i : Nat} (h : i < xs.length) : rd_T23 xs (i : Int) = xs[i] := by simp [rd_T23, h]
theorem drop_at {xs : List S23} {i : Nat} (h : i < xs.length) : xs.drop i = rd_T23 xs i :: xs.drop (i + 1) := by
  rw [rd_at h]; exact List.drop_eq_getElem_cons h
theorem holding_l0 (x y : Int) (l : List S23) (hl : l.length ≤ 100000) : ∀ (d k i n : Nat), i + d = l.length → d < k → n ≤ i →
    waveletlaw22_holding.l0 k x y (n : Int) l (l.length : Int) (i : Int) = some ((n + (l.drop i).countP (hit x y) : Nat) : Int)
  | 0, k, i, n, hi, hk, hn => by
    obtain ⟨k, rfl, _⟩ := one_more hk
    rw [waveletlaw22_holding.l0, if_neg (by omega), List.drop_of_length_le (by omega)]
    simp
  | d + 1, k, i, n, hi, hk, hn => by
    obtain ⟨k, rfl, hk'⟩ := one_more hk
    have hlt : i < l.length := by omega
    rw [waveletlaw22_holding.l0, if_pos (by omega), if_pos (by omega), if_pos (by omega), w64 (n := (i : Int) + 1) (by omega) (by omega), w64 (n := (n : Int) + 1) (by omega) (by omega), drop_at hlt, show (i : Int) + 1 = ((i + 1 : Nat) : Int) by omega, show (n : Int) + 1 = ((n + 1 : Nat) : Int) by omega, holding_l0 x y l hl d k (i + 1) n (by omega) (by omega) (by omega), holding_l0 x y l hl d k (i + 1) (n + 1) (by omega) (by omega) (by omega), List.countP_cons]
    generalize rd_T23 l (i : Int) = r
    by_cases h : hit x y r = true
    · rw [if_pos h]
      simp only [hit, decide_eq_true_eq] at h
      rw [if_pos (by omega), if_pos (by omega), if_pos (by omega), if_pos (by omega)]
      congr 2; omega
    · rw [if_neg h]
      simp only [hit, decide_eq_true_eq] at h
      split
      · split
        · split
          · rw [if_neg (by omega)]; rfl
          · rfl
        · rfl
      · rfl
theorem holding_eq (k : Nat) (x y : Int) (l : List S23) (hl : l.length ≤ 100000) (hk : l.length < k) : waveletlaw22_holding.f k l x y = some ((l.countP (hit x y) : Nat) : Int) := by
  unfold waveletlaw22_holding.f
  have := holding_l0 x y l hl l.length k 0 0 (by omega) hk (by omega)
  simpa using this
/-- All rectangles that have points lie in a rectangle. -/
def inside (u0 v0 u1 v1 : Int) (l : List S23) : Prop := ∀ r ∈ l, r.f0 < r.f2 → r.f1 < r.f3 → u0 ≤ r.f0 ∧ r.f2 ≤ u1 ∧ v0 ≤ r.f1 ∧ r.f3 ≤ v1
theorem exact_l2 (u0 v0 u1 v1 : Int) (l : List S23) (hl : l.length ≤ 100000) (hin : inside u0 v0 u1 v1 l) : ∀ (d k i : Nat), i + d = l.length → d < k → waveletlaw22_exact.l2 k l (l.length : Int) (i : Int) u0 v0 u1 v1 = some true
  | 0, k, i, hi, hk => by
    obtain ⟨k, rfl, _⟩ := one_more hk
    rw [waveletlaw22_exact.l2, if_neg (by omega)]
  | d + 1, k, i, hi, hk => by
    obtain ⟨k, rfl, hk'⟩ := one_more hk
    have hlt : i < l.length := by omega
    have hr := hin (l[i]) (List.getElem_mem hlt)
    rw [← rd_at hlt] at hr
    rw [waveletlaw22_exact.l2, if_pos (by omega), if_pos (by omega), if_pos (by omega), w64 (n := (i : Int) + 1) (by omega) (by omega), show (i : Int) + 1 = ((i + 1 : Nat) : Int) by omega, exact_l2 u0 v0 u1 v1 l hl hin d k (i + 1) (by omega) (by omega)]
    generalize rd_T23 l (i : Int) = r at hr ⊢
    by_cases h1 : r.f0 < r.f2
    · rw [if_pos h1]
      by_cases h2 : r.f1 < r.f3
      · obtain ⟨g1, g2, g3, g4⟩ := hr h1 h2
        rw [if_pos h2, if_neg (by omega), if_neg (by omega), if_neg (by omega), if_neg (by omega)]
      · rw [if_neg h2]
    · rw [if_neg h1]
theorem exact_l1 (u0 v0 u1 v1 : Int) (l : List S23) (hl : l.length ≤ 100000) (y : Int) (hu : -10000 ≤ u0 ∧ u1 ≤ 10000) (hy : v0 ≤ y ∧ y < v1) (hone : ∀ x y, u0 ≤ x → x < u1 → v0 ≤ y → y < v1 → l.countP (hit x y) = 1) : ∀ (d k : Nat) (x : Int), x + d = u1 → u0 ≤ x → l.length < k →
    waveletlaw22_exact.l1 (k + d + 1) l y x u0 v0 u1 v1 = waveletlaw22_exact.l0 k l (wrap64 (y + 1)) u0 v0 u1 v1
  | 0, k, x, hx, h0, hk => by
    rw [Nat.add_zero, waveletlaw22_exact.l1, if_neg (by omega)]
  | d + 1, k, x, hx, h0, hk => by
    rw [show k + (d + 1) + 1 = (k + d + 1) + 1 by omega, waveletlaw22_exact.l1, if_pos (by omega), holding_eq _ _ _ _ hl (by omega), hone x y h0 (by omega) hy.1 hy.2]
    simp only [Option.bind_some]
    rw [if_pos (by rfl), w64 (n := x + 1) (by omega) (by omega), exact_l1 u0 v0 u1 v1 l hl y hu hy hone d k (x + 1) (by omega) (by omega) hk]
theorem exact_l0 (u0 v0 u1 v1 : Int) (l : List S23) (hl : l.length ≤ 100000) (w : Nat) (hu : -10000 ≤ u0 ∧ u0 ≤ u1 ∧ u1 ≤ 10000) (hw : u0 + w = u1) (hv : -10000 ≤ v0 ∧ v1 ≤ 10000) (hone : ∀ x y, u0 ≤ x → x < u1 → v0 ≤ y → y < v1 → l.countP (hit x y) = 1) (hin : inside u0 v0 u1 v1 l) : ∀ (d k : Nat) (y : Int), y + d = v1 → v0 ≤ y → l.length < k →
    waveletlaw22_exact.l0 (k + d * (w + 2) + 1) l y u0 v0 u1 v1 = some true
  | 0, k, y, hy, h0, hk => by
    rw [Nat.zero_mul, Nat.add_zero, waveletlaw22_exact.l0, if_neg (by omega)]
    exact exact_l2 u0 v0 u1 v1 l hl hin l.length k 0 (by omega) hk
  | d + 1, k, y, hy, h0, hk => by
    rw [show k + (d + 1) * (w + 2) + 1 = ((k + d * (w + 2) + 1) + w + 1) + 1 by rw [Nat.succ_mul]; omega, waveletlaw22_exact.l0, if_pos (by omega), exact_l1 u0 v0 u1 v1 l hl y (by omega) (by omega) hone w _ u0 (by omega) (by omega) (by omega), w64 (n := y + 1) (by omega) (by omega), exact_l0 u0 v0 u1 v1 l hl w hu hw hv hone hin d k (y + 1) (by omega) (by omega) hk]
theorem exact_some (u0 v0 u1 v1 : Int) (l : List S23) (hl : l.length ≤ 100000) (hu : 0 ≤ u0 ∧ u0 ≤ u1 ∧ u1 ≤ 4096) (hv : 0 ≤ v0 ∧ v0 ≤ v1 ∧ v1 ≤ 4096) (hone : ∀ x y, u0 ≤ x → x < u1 → v0 ≤ y → y < v1 → l.countP (hit x y) = 1) (hin : inside u0 v0 u1 v1 l) (k : Nat) (hk : 20000000 ≤ k) : waveletlaw22_exact.f k u0 v0 u1 v1 l = some true := by
  unfold waveletlaw22_exact.f
  have hm : (v1 - v0).toNat * ((u1 - u0).toNat + 2) ≤ 4096 * 4098 := Nat.mul_le_mul (by omega) (by omega)
  have := exact_l0 u0 v0 u1 v1 l hl (u1 - u0).toNat (by omega) (by omega) (by omega) hone hin (v1 - v0).toNat (k - (v1 - v0).toNat * ((u1 - u0).toNat + 2) - 1) v0 (by omega) (by omega) (by omega)
  rw [show k - (v1 - v0).toNat * ((u1 - u0).toNat + 2) - 1 + (v1 - v0).toNat * ((u1 - u0).toNat + 2) + 1 = k by omega] at this
  exact this
/-! The cells. -/
theorem cell_iff {x s c : Int} (hs : 0 < s) : x / s = c ↔ c * s ≤ x ∧ x < (c + 1) * s := by
  constructor
  · rintro rfl
    exact ⟨Int.ediv_mul_le _ (by omega), Int.lt_ediv_add_one_mul_self _ hs⟩
  · rintro ⟨h1, h2⟩
    have h3 : c ≤ x / s := (Int.le_ediv_iff_mul_le hs).2 h1
    have h4 : x / s < c + 1 := (Int.ediv_lt_iff_lt_mul hs).2 h2
    omega
theorem hit_prt {u0 v0 u1 v1 c r a b x y : Int} (ha : a ≤ 12) (hb : b ≤ 12) (h1 : u0 ≤ x) (h2 : x < u1) (h3 : v0 ≤ y) (h4 : y < v1) (h0 : 0 ≤ x) :
    hit x y (r23 (prt u0 v0 u1 v1 c r a b)) = decide (x / p2 a = c ∧ y / p2 b = r) := by
  have pa := p2_bd ha
  have pb := p2_bd hb
  unfold hit
  rw [decide_eq_decide, cell_iff (by omega), cell_iff (by omega)]
  unfold prt isc
  generalize c * p2 a = e0
  generalize (c + 1) * p2 a = e1
  generalize r * p2 b = f0
  generalize (r + 1) * p2 b = f1
  by_cases he : emp (mx u0 e0) (mx v0 f0) (mn u1 e1) (mn v1 f1)
  · rw [if_pos he]
    simp only [r23]
    unfold emp mx mn at he
    constructor
    · intro h; omega
    · intro h; exfalso; revert he; split <;> split <;> split <;> split <;> omega
  · rw [if_neg he]
    simp only [r23]
    unfold mx mn
    constructor
    · intro h; revert h; split <;> split <;> split <;> split <;> omega
    · intro h; split <;> split <;> split <;> split <;> omega
theorem prt_in {u0 v0 u1 v1 c r a b : Int} : (r23 (prt u0 v0 u1 v1 c r a b)).f0 < (r23 (prt u0 v0 u1 v1 c r a b)).f2 → (r23 (prt u0 v0 u1 v1 c r a b)).f1 < (r23 (prt u0 v0 u1 v1 c r a b)).f3 →
    u0 ≤ (r23 (prt u0 v0 u1 v1 c r a b)).f0 ∧ (r23 (prt u0 v0 u1 v1 c r a b)).f2 ≤ u1 ∧ v0 ≤ (r23 (prt u0 v0 u1 v1 c r a b)).f1 ∧ (r23 (prt u0 v0 u1 v1 c r a b)).f3 ≤ v1 := by
  unfold prt isc
  generalize c * p2 a = e0
  generalize (c + 1) * p2 a = e1
  generalize r * p2 b = f0
  generalize (r + 1) * p2 b = f1
  by_cases he : emp (mx u0 e0) (mx v0 f0) (mn u1 e1) (mn v1 f1)
  · rw [if_pos he]; intro h; simp [r23] at h
  · rw [if_neg he]
    intro _ _
    simp only [r23]
    unfold mx mn
    split <;> split <;> split <;> split <;> omega
theorem countP_one (j : Nat) : ∀ n : Nat, (List.range n).countP (fun i => decide (i = j)) = if j < n then 1 else 0
  | 0 => by simp
  | n + 1 => by
    rw [List.range_succ, List.countP_append, countP_one j n]
    simp only [List.countP_cons, List.countP_nil, decide_eq_true_eq]
    split <;> split <;> split <;> omega
/-- The parts of a rectangle in C columns and R rows of cells. -/
def parts (u0 v0 u1 v1 a b c0 r0 C : Int) (N : Nat) : List S23 := (List.range N).map fun i : Nat => r23 (prt u0 v0 u1 v1 (c0 + (i : Int) % C) (r0 + (i : Int) / C) a b)
theorem parts_one {u0 v0 u1 v1 a b c0 r0 C R : Int} {N : Nat} (ha : a ≤ 12) (hb : b ≤ 12) (hC : 1 ≤ C) (hN : C * R = N) (h0 : 0 ≤ u0)
    (hx : ∀ x, u0 ≤ x → x < u1 → c0 ≤ x / p2 a ∧ x / p2 a < c0 + C) (hy : ∀ y, v0 ≤ y → y < v1 → r0 ≤ y / p2 b ∧ y / p2 b < r0 + R) (x y : Int) (h1 : u0 ≤ x) (h2 : x < u1) (h3 : v0 ≤ y) (h4 : y < v1) :
    (parts u0 v0 u1 v1 a b c0 r0 C N).countP (hit x y) = 1 := by
  obtain ⟨x1, x2⟩ := hx x h1 h2
  obtain ⟨y1, y2⟩ := hy y h3 h4
  unfold parts
  rw [List.countP_map]
  have hj0 : 0 ≤ C * (y / p2 b - r0) := Int.mul_nonneg (by omega) (by omega)
  have hj1 : C * (y / p2 b - r0) + C ≤ N := by
    have : C * (y / p2 b - r0 + 1) ≤ C * R := Int.mul_le_mul_of_nonneg_left (by omega) (by omega)
    rw [Int.mul_add, Int.mul_one] at this; omega
  have hj : ((C * (y / p2 b - r0) + (x / p2 a - c0)).toNat : Int) = C * (y / p2 b - r0) + (x / p2 a - c0) := Int.toNat_of_nonneg (by omega)
  rw [show (List.range N).countP (hit x y ∘ fun i : Nat => r23 (prt u0 v0 u1 v1 (c0 + (i : Int) % C) (r0 + (i : Int) / C) a b)) = (List.range N).countP (fun i => decide (i = (C * (y / p2 b - r0) + (x / p2 a - c0)).toNat)) from List.countP_congr (fun i _ => by
    simp only [Function.comp, decide_eq_true_eq]
    rw [hit_prt ha hb h1 h2 h3 h4 (by omega), decide_eq_true_eq]
    constructor
    · rintro ⟨e1, e2⟩
      have := Int.emod_add_mul_ediv (i : Int) C
      have e3 : (i : Int) / C = y / p2 b - r0 := by omega
      rw [e3] at this
      omega
    · intro e
      have e4 : (i : Int) = (x / p2 a - c0) + C * (y / p2 b - r0) := by rw [e, hj]; omega
      have := (Int.ediv_emod_unique (a := (i : Int)) (b := C) (r := x / p2 a - c0) (q := y / p2 b - r0) (by omega)).2 ⟨by omega, by omega, by omega⟩
      omega), countP_one, if_pos (by omega)]
theorem parts_in (u0 v0 u1 v1 a b c0 r0 C : Int) (N : Nat) : inside u0 v0 u1 v1 (parts u0 v0 u1 v1 a b c0 r0 C N) := by
  intro r hr
  obtain ⟨i, _, rfl⟩ := List.mem_map.1 hr
  exact prt_in
theorem parts_length (u0 v0 u1 v1 a b c0 r0 C : Int) (N : Nat) : (parts u0 v0 u1 v1 a b c0 r0 C N).length = N := by simp [parts]
/-- What the laws' guard takes. -/
theorem small_eq (x0 y0 x1 y1 : Int) : waveletlaw22_small.f x0 y0 x1 y1 = some (decide (rok x0 y0 x1 y1 ∧ ¬ emp x0 y0 x1 y1 ∧ (x1 - x0) * (y1 - y0) ≤ 400)) := by
  unfold waveletlaw22_small.f waveletref01_Area.f
  rw [show waveletref01_Valid.f x0 y0 x1 y1 = some (decide (rok x0 y0 x1 y1)) from Valid_eq x0 y0 x1 y1, show waveletref01_Empty.f x0 y0 x1 y1 = some (decide (emp x0 y0 x1 y1)) from Empty_eq x0 y0 x1 y1]
  simp only [Option.bind_some, decide_eq_true_eq]
  by_cases h1 : rok x0 y0 x1 y1
  · rw [if_pos h1]
    by_cases h2 : emp x0 y0 x1 y1
    · rw [if_pos h2]; exact dec_ff (fun hh => hh.2.1 h2)
    · rw [if_neg h2, if_pos h1]
      simp only [Option.bind_some]
      have hb : 1 ≤ (x1 - x0) * (y1 - y0) ∧ (x1 - x0) * (y1 - y0) ≤ 16777216 := by unfold rok at h1; unfold emp at h2; exact mul_bd (by omega) (by omega) (by omega) (by omega)
      have hx : x1 - x0 ≤ 4096 ∧ y1 - y0 ≤ 4096 ∧ 0 ≤ x1 - x0 ∧ 0 ≤ y1 - y0 := by unfold rok at h1; omega
      rw [w64 (n := x1 - x0) (by omega) (by omega), w64 (n := y1 - y0) (by omega) (by omega), w64 (by omega) (by omega)]
      exact dec_iff ⟨fun h => ⟨h1, h2, h⟩, fun h => h.2.2⟩
  · rw [if_neg h1]; exact dec_ff (fun hh => h1 hh.1)
/-- A grid has no more columns than the rectangle, and no more rows. -/
theorem nn_le {u v s : Int} (hs : 1 ≤ s) (_h0 : 0 ≤ u) (h1 : u < v) : nn u v s ≤ v - u := by
  unfold nn
  have h2 := Int.emod_add_mul_ediv u s
  have h3 := Int.emod_nonneg u (by omega : s ≠ 0)
  have h4 : (v - 1) / s ≤ u / s + (v - 1 - u) := by
    have h5 : (v - 1) / s < u / s + (v - 1 - u) + 1 := (Int.ediv_lt_iff_lt_mul (by omega)).2 (by
      have h6 := Int.emod_lt_of_pos u (by omega : 0 < s)
      have h7 : (v - 1 - u) * 1 ≤ (v - 1 - u) * s := Int.mul_le_mul_of_nonneg_left hs (by omega)
      rw [Int.add_mul, Int.add_mul, Int.mul_comm (u / s) s]
      omega)
    omega
  omega
end Go.Proofs.Ytlldikkbbpjigaa.E22
