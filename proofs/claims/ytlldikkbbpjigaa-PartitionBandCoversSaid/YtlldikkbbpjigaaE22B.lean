/- Layer 22: the part of a subband in a precinct, in closed form, for all arguments. -/
import Derived.Test.YtlldikkbbpjigaaE22
import Derived.Test.YtlldikkbbpjigaaPAx5
namespace Go.Proofs.Ytlldikkbbpjigaa.E22
open Go.RowKit Go.Proofs.YtlldikkbbpjigaaW.PrintWords Go.Proofs.YtlldikkbbpjigaaW.PrintMore Go.Proofs.YtlldikkbbpjigaaW.PrintLast Go.Proofs.Ytlldikkbbpjigaa.PA Go.Proofs.Ytlldikkbbpjigaa.Ar
def put5 (q : Int × Int × Int × Int) : Int × Int × Int × Int × Bool := (q.1, q.2.1, q.2.2.1, q.2.2.2, true)
def inb (x0 y0 x1 y1 u0 v0 u1 v1 o a b i : Int) : Int × Int × Int × Int × Bool :=
  if (plc x0 y0 x1 y1 a b i).2.2 = true ∧ rok u0 v0 u1 v1 ∧ 0 ≤ o ∧ o ≤ 3 ∧ (o = 0 ∨ a ≠ 0 ∧ b ≠ 0) then
    put5 (prt u0 v0 u1 v1 (plc x0 y0 x1 y1 a b i).1 (plc x0 y0 x1 y1 a b i).2.1 (if o = 0 then a else a - 1) (if o = 0 then b else b - 1))
  else (0, 0, 0, 0, false)
theorem InBand_j1 (k : Nat) {u0 v0 u1 v1 c r a b : Int} (hc : 0 ≤ c) (hc2 : c ≤ 70000) (hr : 0 ≤ r) (hr2 : r ≤ 70000) (ha : 0 ≤ a) (ha2 : a ≤ 12) (hb : 0 ≤ b) (hb2 : b ≤ 12) :
    partition_InBand.j1 (k + 1) a b c r u0 v0 u1 v1 = some (put5 (prt u0 v0 u1 v1 c r a b)) := by
  rw [partition_InBand.j1, cell_eq hc hc2 hr hr2 ha ha2 hb hb2]
  simp only [Option.bind_some]
  rw [Intersect_eq]
  simp only [Option.bind_some]
  unfold put5 prt
  generalize isc u0 v0 u1 v1 (c * p2 a) (r * p2 b) ((c + 1) * p2 a) ((r + 1) * p2 b) = q
  obtain ⟨q0, q1, q2, q3⟩ := q
  simp only
  by_cases h : (q0 == 0 && (q1 == 0 && (q2 == 0 && q3 == 0))) = true
  · rw [if_pos h]
    simp at h
    obtain ⟨rfl, rfl, rfl, rfl⟩ := h
    rfl
  · rw [if_neg h]
theorem InBand_eq (k : Nat) (x0 y0 x1 y1 u0 v0 u1 v1 o a b i : Int) : partition_InBand.f (k + 2) x0 y0 x1 y1 u0 v0 u1 v1 o a b i = some (inb x0 y0 x1 y1 u0 v0 u1 v1 o a b i) := by
  have hz : ∀ c r, partition_InBand.j0 (k + 2) o a b c r true u0 v0 u1 v1 = some (0, 0, 0, 0, false) := by intro c r; rw [partition_InBand.j0, if_pos rfl]
  unfold partition_InBand.f inb
  rw [place_eq, Valid_eq]
  simp only [Option.bind_some]
  by_cases h : (plc x0 y0 x1 y1 a b i).2.2 = true
  · rw [if_pos h]
    obtain ⟨⟨_, h7, h8, h9, h10⟩, _, _, _, _, _, g1, g2, g3, g4⟩ := plc_ok h
    by_cases hv : rok u0 v0 u1 v1
    · rw [if_pos (decide_eq_true hv)]
      by_cases o1 : o < 0
      · rw [if_pos o1, hz, if_neg (by omega)]
      · rw [if_neg o1]
        by_cases o2 : o > 3
        · rw [decide_eq_true o2, hz, if_neg (by omega)]
        · rw [decide_eq_false o2, partition_InBand.j0, if_neg (by decide)]
          by_cases o3 : o = 0
          · rw [if_pos o3, if_pos ⟨h, hv, by omega, by omega, .inl o3⟩, if_pos o3, if_pos o3, InBand_j1 k g1 g2 g3 g4 h7 h8 h9 h10]
          · rw [if_neg o3]
            by_cases a0 : a = 0
            · rw [if_pos a0, if_neg (by omega)]
            · rw [if_neg a0]
              by_cases b0 : b = 0
              · rw [if_pos b0, if_neg (by omega)]
              · rw [if_neg b0, if_pos ⟨h, hv, by omega, by omega, .inr ⟨a0, b0⟩⟩, if_neg o3, if_neg o3, w64 (n := a - 1) (by omega) (by omega), w64 (n := b - 1) (by omega) (by omega), InBand_j1 k g1 g2 g3 g4 (by omega) (by omega) (by omega) (by omega)]
    · rw [if_neg (by simp [hv]), hz, if_neg (fun hh => hv hh.2.1)]
  · rw [if_neg h, hz, if_neg (fun hh => h hh.1)]
end Go.Proofs.Ytlldikkbbpjigaa.E22
