/- Layer 22: code blocks row by row are code blocks number by number. -/
import Derived.Test.YtlldikkbbpjigaaE22C
namespace Go.Proofs.Ytlldikkbbpjigaa.E22
open Go.RowKit Go.Proofs.YtlldikkbbpjigaaW.PrintWords Go.Proofs.YtlldikkbbpjigaaW.PrintMore Go.Proofs.YtlldikkbbpjigaaW.PrintLast Go.Proofs.Ytlldikkbbpjigaa.PA Go.Proofs.Ytlldikkbbpjigaa.Ar
/-- Row by row is number by number. -/
theorem brow_range (x0 y0 x1 y1 a b r : Int) : ∀ (n : Nat) (c : Int), brow x0 y0 x1 y1 a b r c n = (List.range n).map fun i : Nat => s23 (prt x0 y0 x1 y1 (c + (i : Int)) r a b)
  | 0, _ => rfl
  | n + 1, c => by
    rw [brow, brow_range x0 y0 x1 y1 a b r n (c + 1), List.range_succ_eq_map, List.map_cons, List.map_map]
    congr 1
    · simp
    · apply List.map_congr_left
      intro i _
      simp only [Function.comp, Nat.succ_eq_add_one, Int.natCast_add, Int.cast_ofNat_Int]
      rw [show c + 1 + (i : Int) = c + ((i : Int) + 1) by omega]
theorem brows_range (x0 y0 x1 y1 a b c : Int) (n : Nat) (hn : 0 < n) : ∀ (m : Nat) (r : Int), brows x0 y0 x1 y1 a b c n r m = (List.range (m * n)).map fun i : Nat => s23 (prt x0 y0 x1 y1 (c + (i : Int) % n) (r + (i : Int) / n) a b)
  | 0, _ => by simp [brows]
  | m + 1, r => by
    rw [brows, brows_range x0 y0 x1 y1 a b c n hn m (r + 1), brow_range, Nat.succ_mul, Nat.add_comm, List.range_add, List.map_append, List.map_map]
    congr 1
    · apply List.map_congr_left
      intro i hi
      have hi' : i < n := List.mem_range.1 hi
      rw [Int.emod_eq_of_lt (by omega) (by omega), Int.ediv_eq_zero_of_lt (by omega) (by omega), Int.add_zero]
    · apply List.map_congr_left
      intro i _
      simp only [Function.comp, Int.natCast_add]
      rw [Int.add_emod_left, show ((n : Int) + i) / n = 1 + (i : Int) / n by rw [Int.add_ediv_of_dvd_left ⟨1, by omega⟩, Int.ediv_self (by omega)], show r + 1 + (i : Int) / n = r + (1 + (i : Int) / n) by omega]
end Go.Proofs.Ytlldikkbbpjigaa.E22
