/- Layer 22: the code blocks of a part, in closed form, row by row; for all rectangles and exponents. -/
import Derived.Test.YtlldikkbbpjigaaE22
import Derived.Test.YtlldikkbbpjigaaPAx6
namespace Go.Proofs.Ytlldikkbbpjigaa.E22
open Go.RowKit Go.Proofs.YtlldikkbbpjigaaW.PrintWords Go.Proofs.YtlldikkbbpjigaaW.PrintMore Go.Proofs.YtlldikkbbpjigaaW.PrintLast Go.Proofs.Ytlldikkbbpjigaa.PA Go.Proofs.Ytlldikkbbpjigaa.Ar
def s23 (q : Int × Int × Int × Int) : S23 := ⟨q.1, q.2.1, q.2.2.1, q.2.2.2⟩
/-- n blocks of a row, from column c on; m rows, from row r on. -/
def brow (x0 y0 x1 y1 a b r : Int) : Int → Nat → List S23
  | _, 0 => []
  | c, n + 1 => s23 (prt x0 y0 x1 y1 c r a b) :: brow x0 y0 x1 y1 a b r (c + 1) n
def brows (x0 y0 x1 y1 a b c : Int) (n : Nat) : Int → Nat → List S23
  | _, 0 => []
  | r, m + 1 => brow x0 y0 x1 y1 a b r c n ++ brows x0 y0 x1 y1 a b c n (r + 1) m
theorem brow_length (x0 y0 x1 y1 a b r : Int) : ∀ (n : Nat) (c : Int), (brow x0 y0 x1 y1 a b r c n).length = n
  | 0, _ => rfl
  | n + 1, c => by simp [brow, brow_length x0 y0 x1 y1 a b r n]
theorem brows_length (x0 y0 x1 y1 a b c : Int) (n : Nat) : ∀ (m : Nat) (r : Int), (brows x0 y0 x1 y1 a b c n r m).length = m * n
  | 0, _ => by simp [brows]
  | m + 1, r => by simp [brows, brow_length, brows_length x0 y0 x1 y1 a b c n m, Nat.succ_mul, Nat.add_comm]
section
variable {x0 y0 x1 y1 a b c0 r0 : Int} {cols rows : Nat} (ha : 0 ≤ a) (ha2 : a ≤ 12) (hb : 0 ≤ b) (hb2 : b ≤ 12) (hc : 0 ≤ c0) (hc2 : c0 ≤ 5000) (hr : 0 ≤ r0) (hr2 : r0 ≤ 5000) (hcols : cols ≤ 5000) (hrows : rows ≤ 5000)
include ha ha2 hb hb2 hc hc2 hr hr2 hcols hrows
theorem Blocks_l1 (x23 : Int) : ∀ (d k j r : Nat) (acc : List S23), j + d = cols → r < rows → acc.length ≤ 25000000 + j →
    partition_Blocks.l1 (k + d + 1) a b (cols : Int) (rows : Int) acc c0 r0 (r : Int) (rows : Int) (r : Int) (cols : Int) (j : Int) x0 y0 x1 y1
      = partition_Blocks.l0 k a b (cols : Int) (rows : Int) (acc ++ brow x0 y0 x1 y1 a b (r0 + r) (c0 + j) d) c0 r0 (rows : Int) (wrap64 ((r : Int) + 1)) x0 y0 x1 y1
  | 0, k, j, r, acc, hj, hrr, hl => by
    rw [Nat.add_zero, partition_Blocks.l1, if_neg (by omega)]
    simp [brow]
  | d + 1, k, j, r, acc, hj, hrr, hl => by
    rw [show k + (d + 1) + 1 = (k + d + 1) + 1 by omega, partition_Blocks.l1, if_pos (by omega), w64 (n := c0 + j) (by omega) (by omega), w64 (n := r0 + r) (by omega) (by omega), cell_eq (by omega) (by omega) (by omega) (by omega) ha ha2 hb hb2]
    simp only [Option.bind_some]
    rw [Intersect_eq]
    simp only [Option.bind_some]
    rw [if_pos (by omega), w64 (n := (j : Int) + 1) (by omega) (by omega), show (j : Int) + 1 = ((j + 1 : Nat) : Int) by omega, Blocks_l1 x23 d k (j + 1) r _ (by omega) hrr (by simp; omega), show c0 + ((j + 1 : Nat) : Int) = c0 + j + 1 by omega]
    simp only [brow, List.append_assoc, List.singleton_append]
    rfl
theorem Blocks_l0 : ∀ (d k r : Nat) (acc : List S23), r + d = rows → acc.length ≤ r * cols →
    partition_Blocks.l0 (k + d * (cols + 2) + 1) a b (cols : Int) (rows : Int) acc c0 r0 (rows : Int) (r : Int) x0 y0 x1 y1 = some ((cols : Int), (rows : Int), acc ++ brows x0 y0 x1 y1 a b c0 cols (r0 + r) d)
  | 0, k, r, acc, hd, hl => by
    rw [Nat.zero_mul, Nat.add_zero, partition_Blocks.l0, if_neg (by omega)]
    simp [brows]
  | d + 1, k, r, acc, hd, hl => by
    have hm : r * cols ≤ 5000 * 5000 := Nat.mul_le_mul (by omega) hcols
    rw [show k + (d + 1) * (cols + 2) + 1 = ((k + d * (cols + 2) + 1) + cols + 1) + 1 by rw [Nat.succ_mul]; omega, partition_Blocks.l0, if_pos (by omega)]
    have h1 := Blocks_l1 (x0 := x0) (y0 := y0) (x1 := x1) (y1 := y1) ha ha2 hb hb2 hc hc2 hr hr2 hcols hrows 0 cols (k + d * (cols + 2) + 1) 0 r acc (by omega) (by omega) (by omega)
    have h2 := Blocks_l0 d k (r + 1) (acc ++ brow x0 y0 x1 y1 a b (r0 + r) c0 cols) (by omega) (by rw [List.length_append, brow_length, Nat.succ_mul]; omega)
    simp only [Int.cast_ofNat_Int, Int.add_zero] at h1
    rw [h1, w64 (n := (r : Int) + 1) (by omega) (by omega), show (r : Int) + 1 = ((r + 1 : Nat) : Int) by omega, h2]
    simp only [brows, List.append_assoc, Int.natCast_add, Int.cast_ofNat_Int, Int.add_assoc]
end
/-- The code blocks of a part. -/
def blk (x0 y0 x1 y1 a b : Int) : Int × Int × List S23 :=
  let g := grd x0 y0 x1 y1 a b 6
  (g.2.2.1, g.2.2.2, brows x0 y0 x1 y1 a b g.1 g.2.2.1.toNat g.2.1 g.2.2.2.toNat)
theorem grd_bd (x0 y0 x1 y1 a b m : Int) (hm : m ≤ 12) : 0 ≤ (grd x0 y0 x1 y1 a b m).1 ∧ (grd x0 y0 x1 y1 a b m).1 ≤ 4095 ∧ 0 ≤ (grd x0 y0 x1 y1 a b m).2.1 ∧ (grd x0 y0 x1 y1 a b m).2.1 ≤ 4095 ∧ 0 ≤ (grd x0 y0 x1 y1 a b m).2.2.1 ∧ (grd x0 y0 x1 y1 a b m).2.2.1 ≤ 4096 ∧ 0 ≤ (grd x0 y0 x1 y1 a b m).2.2.2 ∧ (grd x0 y0 x1 y1 a b m).2.2.2 ≤ 4096 ∧
    (grd x0 y0 x1 y1 a b m).2.2.1 * (grd x0 y0 x1 y1 a b m).2.2.2 ≤ 65536 := by
  by_cases h : gok x0 y0 x1 y1 a b m ∧ nn x0 x1 (p2 a) * nn y0 y1 (p2 b) ≤ 65536
  · rw [grd_ok h.1 h.2]
    obtain ⟨⟨⟨h1, h2, h3, h4, h5, h6⟩, h7, h8, h9, h10⟩, hs⟩ := h
    have hx := nn_bd (p2_bd (by omega : a ≤ 12)).1 h1 h2 h3
    have hy := nn_bd (p2_bd (by omega : b ≤ 12)).1 h4 h5 h6
    exact ⟨hx.2.2.1, hx.2.2.2.1, hy.2.2.1, hy.2.2.2.1, by show 0 ≤ nn _ _ _; omega, hx.2.1, by show 0 ≤ nn _ _ _; omega, hy.2.1, hs⟩
  · rw [grd_no h]; decide
theorem Blocks_eq (k : Nat) (x0 y0 x1 y1 a b : Int) (hk : 4096 * 4098 + 1 ≤ k) : partition_Blocks.f k x0 y0 x1 y1 a b = some (blk x0 y0 x1 y1 a b) := by
  obtain ⟨k, rfl, hk⟩ := one_more hk
  unfold partition_Blocks.f blk
  rw [grid_eq _ _ _ _ _ _ _ _ (by omega)]
  simp only [Option.bind_some]
  by_cases h : gok x0 y0 x1 y1 a b 6 ∧ nn x0 x1 (p2 a) * nn y0 y1 (p2 b) ≤ 65536
  · have hb := grd_bd x0 y0 x1 y1 a b 6 (by omega)
    obtain ⟨⟨_, h7, h8, h9, h10⟩, _⟩ := h
    generalize grd x0 y0 x1 y1 a b 6 = g at hb ⊢
    obtain ⟨g0, g1, g2, g3⟩ := g
    simp only at hb ⊢
    obtain ⟨cols, rfl⟩ := Int.eq_ofNat_of_zero_le hb.2.2.2.2.1
    obtain ⟨rows, rfl⟩ := Int.eq_ofNat_of_zero_le hb.2.2.2.2.2.2.1
    have hmul : rows * (cols + 2) ≤ 4096 * 4098 := Nat.mul_le_mul (by omega) (by omega)
    have := Blocks_l0 (x0 := x0) (y0 := y0) (x1 := x1) (y1 := y1) (a := a) (b := b) (c0 := g0) (r0 := g1) (cols := cols) (rows := rows) h7 (by omega) h9 (by omega) (by omega) (by omega) (by omega) (by omega) (by omega) (by omega) rows (k - rows * (cols + 2)) 0 [] (by omega) (by simp)
    rw [show k - rows * (cols + 2) + rows * (cols + 2) + 1 = k + 1 by omega] at this
    simpa using this
  · rw [grd_no h]
    simp only
    rw [partition_Blocks.l0, if_neg (by omega)]
    rfl
end Go.Proofs.Ytlldikkbbpjigaa.E22
