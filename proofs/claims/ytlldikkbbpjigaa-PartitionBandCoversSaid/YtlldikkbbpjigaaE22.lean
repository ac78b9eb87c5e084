/- Layer 22 (partition) and its reference, in closed form: the grid of cells that a rectangle touches, the place of a cell, and the part in a precinct; for all rectangles, exponents and numbers. -/
import Derived.Test.YtlldikkbbpjigaaAr
import Derived.Test.YtlldikkbbpjigaaPAx4
namespace Go.Proofs.Ytlldikkbbpjigaa.E22
open Go.RowKit Go.Proofs.YtlldikkbbpjigaaW.PrintWords Go.Proofs.YtlldikkbbpjigaaW.PrintMore Go.Proofs.YtlldikkbbpjigaaW.PrintLast Go.Proofs.Ytlldikkbbpjigaa.PA Go.Proofs.Ytlldikkbbpjigaa.Ar
/-- 2 to an exponent. -/
def p2 (e : Int) : Int := 2 ^ e.toNat
theorem p2_bd {e : Int} (h1 : e ≤ 12) : 1 ≤ p2 e ∧ p2 e ≤ 4096 := by
  have : ∀ m : Fin 13, 1 ≤ (2 : Int) ^ m.1 ∧ (2 : Int) ^ m.1 ≤ 4096 := by decide
  exact this ⟨e.toNat, by omega⟩
theorem u64_in {e : Int} (h0 : 0 ≤ e) (h1 : e ≤ 9223372036854775807) : IntKind.u64.wrap e = e := by
  rw [show IntKind.u64.wrap e = e % 18446744073709551616 from by simp [IntKind.wrap, IntKind.signed, IntKind.bits]]
  omega
theorem shr_p2 {a e : Int} (h0 : 0 ≤ e) (h1 : e ≤ 12) : shr .i64 a (IntKind.u64.wrap e) = a / p2 e := by
  rw [u64_in h0 (by omega)]
  unfold shr p2
  rw [show min e.toNat IntKind.i64.bits = e.toNat from Nat.min_eq_left (by show _ ≤ 64; omega)]
theorem shl_p2 {a e : Int} (h0 : 0 ≤ e) (h1 : e ≤ 12) (ha : 0 ≤ a) (hb : a ≤ 100000) : shl .i64 a (IntKind.u64.wrap e) = a * p2 e := by
  rw [u64_in h0 (by omega)]
  unfold shl
  rw [show min e.toNat IntKind.i64.bits = e.toNat from Nat.min_eq_left (by show _ ≤ 64; omega), i64_w]
  have hp := p2_bd h1
  have h2 : a * p2 e ≤ 100000 * 4096 := Int.mul_le_mul hb hp.2 (by omega) (by omega)
  have h3 : 0 ≤ a * p2 e := Int.mul_nonneg ha (by omega)
  exact w64 (by show _ ≤ a * p2 e; omega) (by show a * p2 e ≤ _; omega)
/-- A rectangle on the grid. -/
def rok (x0 y0 x1 y1 : Int) : Prop := 0 ≤ x0 ∧ x0 ≤ x1 ∧ x1 ≤ 4096 ∧ 0 ≤ y0 ∧ y0 ≤ y1 ∧ y1 ≤ 4096
instance (x0 y0 x1 y1 : Int) : Decidable (rok x0 y0 x1 y1) := by unfold rok; infer_instance
theorem Valid_eq (x0 y0 x1 y1 : Int) : rect_Valid.f x0 y0 x1 y1 = some (decide (rok x0 y0 x1 y1)) := by
  unfold rect_Valid.f
  repeat' split
  all_goals first | exact dec_iff (by unfold rok; omega) | exact dec_tt (by unfold rok; omega) | exact dec_ff (by unfold rok; omega)
def emp (x0 y0 x1 y1 : Int) : Prop := x0 ≥ x1 ∨ y0 ≥ y1
instance (x0 y0 x1 y1 : Int) : Decidable (emp x0 y0 x1 y1) := by unfold emp; infer_instance
theorem Empty_eq (x0 y0 x1 y1 : Int) : rect_Empty.f x0 y0 x1 y1 = some (decide (emp x0 y0 x1 y1)) := by
  unfold rect_Empty.f
  split
  all_goals first | exact dec_iff (by unfold emp; omega) | exact dec_tt (by unfold emp; omega) | exact dec_ff (by unfold emp; omega)
/-- What the grid of cells takes. -/
def gok (x0 y0 x1 y1 a b most : Int) : Prop := (0 ≤ x0 ∧ x0 < x1 ∧ x1 ≤ 4096 ∧ 0 ≤ y0 ∧ y0 < y1 ∧ y1 ≤ 4096) ∧ 0 ≤ a ∧ a ≤ most ∧ 0 ≤ b ∧ b ≤ most
instance (x0 y0 x1 y1 a b most : Int) : Decidable (gok x0 y0 x1 y1 a b most) := by unfold gok; infer_instance
/-- How many cells an interval touches. -/
def nn (u v s : Int) : Int := (v - 1) / s - u / s + 1
theorem nn_bd {u v s : Int} (hs : 1 ≤ s) (h0 : 0 ≤ u) (h1 : u < v) (h2 : v ≤ 4096) : 1 ≤ nn u v s ∧ nn u v s ≤ 4096 ∧ 0 ≤ u / s ∧ u / s ≤ 4095 ∧ 0 ≤ (v - 1) / s ∧ (v - 1) / s ≤ 4095 := by
  have a1 : 0 ≤ u / s := Int.ediv_nonneg h0 (by omega)
  have a2 : (v - 1) / s ≤ v - 1 := Int.ediv_le_self _ (by omega)
  have a3 : u / s ≤ (v - 1) / s := Int.ediv_le_ediv (by omega) (by omega)
  unfold nn
  omega
theorem mul_bd {a b : Int} (h1 : 1 ≤ a) (h2 : a ≤ 4096) (h3 : 1 ≤ b) (h4 : b ≤ 4096) : 1 ≤ a * b ∧ a * b ≤ 16777216 := by
  have := Int.mul_le_mul h2 h4 (by omega) (by omega : (0 : Int) ≤ 4096)
  have h5 := Int.mul_le_mul h1 h3 (by omega) (by omega : (0 : Int) ≤ a)
  omega
/-- The first column and row, and their numbers. -/
def grd (x0 y0 x1 y1 a b most : Int) : Int × Int × Int × Int :=
  if gok x0 y0 x1 y1 a b most then (if nn x0 x1 (p2 a) * nn y0 y1 (p2 b) > 65536 then (0, 0, 0, 0) else (x0 / p2 a, y0 / p2 b, nn x0 x1 (p2 a), nn y0 y1 (p2 b))) else (0, 0, 0, 0)
theorem span_eq {u v e : Int} (h0 : 0 ≤ u) (h1 : u < v) (h2 : v ≤ 4096) (h3 : 0 ≤ e) (h4 : e ≤ 12) : partition_span.f u v e = some (u / p2 e, nn u v (p2 e)) := by
  unfold partition_span.f
  have hp := p2_bd h4
  have hn := nn_bd hp.1 h0 h1 h2
  rw [if_pos (by rw [u64_in h3 (by omega)]; exact h3), shr_p2 h3 h4, w64 (n := v - 1) (by omega) (by omega), shr_p2 h3 h4, w64 (n := (v - 1) / p2 e - u / p2 e) (by omega) (by omega), w64 (by omega) (by omega)]
  rfl
theorem exps_eq (a b most : Int) : partition_exponents.f a b most = some (decide (0 ≤ a ∧ a ≤ most ∧ 0 ≤ b ∧ b ≤ most)) := by
  unfold partition_exponents.f
  repeat' split
  all_goals first | exact dec_iff (by omega) | exact dec_tt (by omega) | exact dec_ff (by omega)
theorem grid_eq (k : Nat) (x0 y0 x1 y1 a b most : Int) (hm : most ≤ 12) : partition_grid.f (k + 1) x0 y0 x1 y1 a b most = some (grd x0 y0 x1 y1 a b most) := by
  have hz : partition_grid.j0 (k + 1) a b true x0 y0 x1 y1 = some (0, 0, 0, 0) := by rw [partition_grid.j0, if_pos rfl]
  unfold partition_grid.f grd
  rw [Valid_eq, Empty_eq, exps_eq]
  simp only [Option.bind_some, decide_eq_true_eq]
  by_cases h : gok x0 y0 x1 y1 a b most
  · rw [if_pos h]
    obtain ⟨⟨h1, h2, h3, h4, h5, h6⟩, h7, h8, h9, h10⟩ := h
    rw [if_pos (by unfold rok; omega), if_neg (by unfold emp; omega), decide_eq_true (by omega), Bool.not_true, partition_grid.j0, if_neg (by decide), span_eq h1 h2 h3 h7 (by omega), span_eq h4 h5 h6 h9 (by omega)]
    simp only [Option.bind_some]
    have hx := nn_bd (p2_bd (by omega : a ≤ 12)).1 h1 h2 h3
    have hy := nn_bd (p2_bd (by omega : b ≤ 12)).1 h4 h5 h6
    have hxy := mul_bd hx.1 hx.2.1 hy.1 hy.2.1
    rw [w64 (by omega) (by omega)]
    split <;> rfl
  · rw [if_neg h]
    by_cases c1 : rok x0 y0 x1 y1
    · rw [if_pos c1]
      by_cases c2 : emp x0 y0 x1 y1
      · rw [if_pos c2, hz]
      · rw [if_neg c2, decide_eq_false (by unfold gok at h; unfold rok at c1; unfold emp at c2; omega), Bool.not_false, hz]
    · rw [if_neg c1, hz]
theorem Precincts_eq (k : Nat) (x0 y0 x1 y1 a b : Int) : partition_Precincts.f (k + 1) x0 y0 x1 y1 a b = some ((grd x0 y0 x1 y1 a b 12).2.2.1, (grd x0 y0 x1 y1 a b 12).2.2.2) := by
  unfold partition_Precincts.f
  rw [grid_eq _ _ _ _ _ _ _ _ (by omega)]; rfl
theorem one_p2 {e : Int} (h0 : 0 ≤ e) (h1 : e ≤ 12) : shl .i64 1 (IntKind.u64.wrap e) = p2 e := by
  rw [shl_p2 h0 h1 (by omega) (by omega), Int.one_mul]
/-- The column and the row of the cell with a number. -/
def plc (x0 y0 x1 y1 a b i : Int) : Int × Int × Bool :=
  if i < 0 ∨ i ≥ (grd x0 y0 x1 y1 a b 12).2.2.1 * (grd x0 y0 x1 y1 a b 12).2.2.2 then (0, 0, false)
  else ((grd x0 y0 x1 y1 a b 12).1 + i % (grd x0 y0 x1 y1 a b 12).2.2.1, (grd x0 y0 x1 y1 a b 12).2.1 + i / (grd x0 y0 x1 y1 a b 12).2.2.1, true)
theorem grd_ok {x0 y0 x1 y1 a b m : Int} (h : gok x0 y0 x1 y1 a b m) (hs : nn x0 x1 (p2 a) * nn y0 y1 (p2 b) ≤ 65536) : grd x0 y0 x1 y1 a b m = (x0 / p2 a, y0 / p2 b, nn x0 x1 (p2 a), nn y0 y1 (p2 b)) := by
  unfold grd; rw [if_pos h, if_neg (by omega)]
theorem grd_no {x0 y0 x1 y1 a b m : Int} (h : ¬ (gok x0 y0 x1 y1 a b m ∧ nn x0 x1 (p2 a) * nn y0 y1 (p2 b) ≤ 65536)) : grd x0 y0 x1 y1 a b m = (0, 0, 0, 0) := by
  unfold grd
  by_cases h1 : gok x0 y0 x1 y1 a b m
  · rw [if_pos h1, if_pos (by by_cases h2 : nn x0 x1 (p2 a) * nn y0 y1 (p2 b) > 65536; exact h2; exact absurd ⟨h1, by omega⟩ h)]
  · rw [if_neg h1]
theorem place_eq (k : Nat) (x0 y0 x1 y1 a b i : Int) : partition_place.f (k + 1) x0 y0 x1 y1 a b i = some (plc x0 y0 x1 y1 a b i) := by
  unfold partition_place.f plc
  rw [grid_eq _ _ _ _ _ _ _ _ (by omega)]
  simp only [Option.bind_some]
  by_cases h : gok x0 y0 x1 y1 a b 12 ∧ nn x0 x1 (p2 a) * nn y0 y1 (p2 b) ≤ 65536
  · rw [grd_ok h.1 h.2]
    obtain ⟨⟨⟨h1, h2, h3, h4, h5, h6⟩, h7, h8, h9, h10⟩, hs⟩ := h
    have hx := nn_bd (p2_bd h8).1 h1 h2 h3
    have hy := nn_bd (p2_bd h10).1 h4 h5 h6
    have hxy := mul_bd hx.1 hx.2.1 hy.1 hy.2.1
    simp only
    rw [w64 (n := nn x0 x1 (p2 a) * nn y0 y1 (p2 b)) (by omega) (by omega)]
    by_cases i1 : i < 0
    · rw [if_pos i1, if_pos (.inl i1)]
    · rw [if_neg i1]
      by_cases i2 : i ≥ nn x0 x1 (p2 a) * nn y0 y1 (p2 b)
      · rw [if_pos i2, if_pos (.inr i2)]
      · rw [if_neg i2, if_neg (by omega), if_neg (by omega), tmodn (by omega), tdivn (by omega)]
        have m1 := Int.emod_nonneg i (by omega : nn x0 x1 (p2 a) ≠ 0)
        have m2 := Int.emod_lt_of_pos i (by omega : 0 < nn x0 x1 (p2 a))
        have m3 : i / nn x0 x1 (p2 a) ≤ i := Int.ediv_le_self _ (by omega)
        have m4 : 0 ≤ i / nn x0 x1 (p2 a) := Int.ediv_nonneg (by omega) (by omega)
        rw [w64 (n := i / nn x0 x1 (p2 a)) (by omega) (by omega), w64 (n := x0 / p2 a + i % nn x0 x1 (p2 a)) (by omega) (by omega), w64 (by omega) (by omega)]
  · rw [grd_no h]
    simp only
    rw [w64 (n := (0 : Int) * 0) (by omega) (by omega)]
    by_cases i1 : i < 0
    · rw [if_pos i1, if_pos (.inl i1)]
    · rw [if_neg i1, if_pos (by omega), if_pos (.inr (by omega))]
/-- A cell. -/
theorem cell_eq {c r a b : Int} (hc : 0 ≤ c) (hc2 : c ≤ 70000) (hr : 0 ≤ r) (hr2 : r ≤ 70000) (ha : 0 ≤ a) (ha2 : a ≤ 12) (hb : 0 ≤ b) (hb2 : b ≤ 12) : partition_cell.f c r a b = some (c * p2 a, r * p2 b, (c + 1) * p2 a, (r + 1) * p2 b) := by
  unfold partition_cell.f
  rw [if_pos (by rw [u64_in ha (by omega)]; exact ha), if_pos (by rw [u64_in hb (by omega)]; exact hb), w64 (n := c + 1) (by omega) (by omega), w64 (n := r + 1) (by omega) (by omega), shl_p2 ha ha2 hc (by omega), shl_p2 hb hb2 hr (by omega), shl_p2 ha ha2 (by omega) (by omega), shl_p2 hb hb2 (by omega) (by omega)]
theorem small_mul {c s : Int} (h1 : 0 ≤ c) (h2 : c ≤ 100000) (h3 : 1 ≤ s) (h4 : s ≤ 4096) : wrap64 (c * s) = c * s := by
  have := Int.mul_le_mul h2 h4 (by omega) (by omega : (0 : Int) ≤ 100000)
  have h5 := Int.mul_nonneg h1 (by omega : 0 ≤ s)
  exact w64 (by omega) (by omega)
/-- A place that is one lies on a grid. -/
theorem plc_ok {x0 y0 x1 y1 a b i : Int} (h : (plc x0 y0 x1 y1 a b i).2.2 = true) : gok x0 y0 x1 y1 a b 12 ∧ nn x0 x1 (p2 a) * nn y0 y1 (p2 b) ≤ 65536 ∧ 0 ≤ i ∧ i < nn x0 x1 (p2 a) * nn y0 y1 (p2 b) ∧
    (plc x0 y0 x1 y1 a b i).1 = x0 / p2 a + i % nn x0 x1 (p2 a) ∧ (plc x0 y0 x1 y1 a b i).2.1 = y0 / p2 b + i / nn x0 x1 (p2 a) ∧ 0 ≤ (plc x0 y0 x1 y1 a b i).1 ∧ (plc x0 y0 x1 y1 a b i).1 ≤ 70000 ∧ 0 ≤ (plc x0 y0 x1 y1 a b i).2.1 ∧ (plc x0 y0 x1 y1 a b i).2.1 ≤ 70000 := by
  by_cases hg : gok x0 y0 x1 y1 a b 12 ∧ nn x0 x1 (p2 a) * nn y0 y1 (p2 b) ≤ 65536
  · unfold plc at h ⊢
    rw [grd_ok hg.1 hg.2] at h ⊢
    obtain ⟨⟨⟨h1, h2, h3, h4, h5, h6⟩, h7, h8, h9, h10⟩, hs⟩ := id hg
    have hx := nn_bd (p2_bd h8).1 h1 h2 h3
    have hy := nn_bd (p2_bd h10).1 h4 h5 h6
    simp only at h ⊢
    by_cases hi : i < 0 ∨ i ≥ nn x0 x1 (p2 a) * nn y0 y1 (p2 b)
    · rw [if_pos hi] at h; cases h
    · rw [if_neg hi]
      have m1 := Int.emod_nonneg i (by omega : nn x0 x1 (p2 a) ≠ 0)
      have m2 := Int.emod_lt_of_pos i (by omega : 0 < nn x0 x1 (p2 a))
      have m3 : i / nn x0 x1 (p2 a) ≤ i := Int.ediv_le_self _ (by omega)
      have m4 : 0 ≤ i / nn x0 x1 (p2 a) := Int.ediv_nonneg (by omega) (by omega)
      exact ⟨hg.1, hs, by omega, by omega, rfl, rfl, by show 0 ≤ x0 / p2 a + i % nn x0 x1 (p2 a); omega, by show x0 / p2 a + i % nn x0 x1 (p2 a) ≤ 70000; omega, by show 0 ≤ y0 / p2 b + i / nn x0 x1 (p2 a); omega, by show y0 / p2 b + i / nn x0 x1 (p2 a) ≤ 70000; omega⟩
  · unfold plc at h
    rw [grd_no hg] at h
    simp only at h
    rw [if_pos (by omega)] at h; cases h
/-- The common points of two rectangles. -/
def isc (x0 y0 x1 y1 u0 v0 u1 v1 : Int) : Int × Int × Int × Int := if emp (mx x0 u0) (mx y0 v0) (mn x1 u1) (mn y1 v1) then (0, 0, 0, 0) else (mx x0 u0, mx y0 v0, mn x1 u1, mn y1 v1)
theorem Intersect_eq (x0 y0 x1 y1 u0 v0 u1 v1 : Int) : rect_Intersect.f x0 y0 x1 y1 u0 v0 u1 v1 = some (isc x0 y0 x1 y1 u0 v0 u1 v1) := by
  unfold rect_Intersect.f isc
  rw [Empty_eq]
  simp only [Option.bind_some, decide_eq_true_eq]
  split <;> rfl
/-- The part of a rectangle in the cell at a place. -/
def prt (x0 y0 x1 y1 c r a b : Int) : Int × Int × Int × Int := isc x0 y0 x1 y1 (c * p2 a) (r * p2 b) ((c + 1) * p2 a) ((r + 1) * p2 b)
def pcn (x0 y0 x1 y1 a b i : Int) : Int × Int × Int × Int × Bool :=
  if (plc x0 y0 x1 y1 a b i).2.2 = true then
    let q := prt x0 y0 x1 y1 (plc x0 y0 x1 y1 a b i).1 (plc x0 y0 x1 y1 a b i).2.1 a b
    (q.1, q.2.1, q.2.2.1, q.2.2.2, true)
  else (0, 0, 0, 0, false)
theorem Precinct_eq (k : Nat) (x0 y0 x1 y1 a b i : Int) : partition_Precinct.f (k + 1) x0 y0 x1 y1 a b i = some (pcn x0 y0 x1 y1 a b i) := by
  unfold partition_Precinct.f pcn
  rw [place_eq]
  simp only [Option.bind_some]
  by_cases h : (plc x0 y0 x1 y1 a b i).2.2 = true
  · rw [if_pos h, if_pos h]
    obtain ⟨⟨_, h7, h8, h9, h10⟩, _, _, _, _, _, g1, g2, g3, g4⟩ := plc_ok h
    rw [cell_eq g1 g2 g3 g4 h7 h8 h9 h10]
    simp only [Option.bind_some]
    rw [Intersect_eq]; rfl
  · rw [if_neg h, if_neg h]
end Go.Proofs.Ytlldikkbbpjigaa.E22
