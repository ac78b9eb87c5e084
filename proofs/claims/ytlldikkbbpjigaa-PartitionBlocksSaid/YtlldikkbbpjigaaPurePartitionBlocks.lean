/- The law PartitionBlocks over plain numbers and lists: the code blocks of a part agree with the reference for all rectangles and exponents, and the chapter's examples hold. No condition. -/
import Derived.Test.YtlldikkbbpjigaaE22R
import Derived.Test.YtlldikkbbpjigaaE22X
import Derived.Test.YtlldikkbbpjigaaPAx16
namespace Go.Proofs.Ytlldikkbbpjigaa.Pure
open Go.RowKit Go.Proofs.Ytlldikkbbpjigaa.PA Go.Proofs.YtlldikkbbpjigaaW.PrintWords Go.Proofs.YtlldikkbbpjigaaW.PrintLast Go.Proofs.Ytlldikkbbpjigaa.Ar Go.Proofs.Ytlldikkbbpjigaa.E22
theorem rect_eta (r : S23) : (⟨r.f0, r.f1, r.f2, r.f3⟩ : S23) = r := rfl
theorem rd_at {xs : List S23} {i : Nat} (h : i < xs.length) : rd_T23 xs (i : Int) = xs[i] := by simp [rd_T23, h]
theorem Same_l0 (a : List S23) (hn : a.length ≤ 4611686018427387904) : ∀ (d k i : Nat), i + d = a.length → d < k → waveletref22_SameRects.l0 k a a (a.length : Int) (i : Int) = some true
  | 0, k, i, hi, hk => by
    obtain ⟨k, rfl, _⟩ := one_more hk
    rw [waveletref22_SameRects.l0, if_neg (by omega)]
  | d + 1, k, i, hi, hk => by
    obtain ⟨k, rfl, hk'⟩ := one_more hk
    rw [waveletref22_SameRects.l0, if_pos (by omega), if_pos (by omega), if_pos (by omega), if_pos (by omega), if_neg (by simp), w64 (n := (i : Int) + 1) (by omega) (by omega), show (i : Int) + 1 = ((i + 1 : Nat) : Int) by omega]
    exact Same_l0 a hn d k (i + 1) (by omega) (by omega)
theorem Same_self (k : Nat) (a : List S23) (hk : a.length + 1 ≤ k) (hn : a.length ≤ 4611686018427387904) : waveletref22_SameRects.f k a a = some true := by
  unfold waveletref22_SameRects.f
  rw [if_pos rfl]
  exact Same_l0 a hn a.length k 0 (by omega) (by omega)
theorem refBlocks_l0 {x0 y0 x1 y1 a b : Int} (h : gok x0 y0 x1 y1 a b 12) (hs : nn x0 x1 (p2 a) * nn y0 y1 (p2 b) ≤ 65536) (N : Nat) (hN : nn x0 x1 (p2 a) * nn y0 y1 (p2 b) = N) : ∀ (d k i : Nat) (acc : List S23), i + d = N → d + 1 < k → acc.length = i →
    waveletref22_Blocks.l0 k a b (nn x0 x1 (p2 a)) (nn y0 y1 (p2 b)) acc (i : Int) x0 y0 x1 y1 = some (nn x0 x1 (p2 a), nn y0 y1 (p2 b), acc ++ (List.range' i d).map fun i : Nat => s23 (prt x0 y0 x1 y1 (x0 / p2 a + (i : Int) % nn x0 x1 (p2 a)) (y0 / p2 b + (i : Int) / nn x0 x1 (p2 a)) a b))
  | 0, k, i, acc, hi, hk, hl => by
    obtain ⟨k, rfl, _⟩ := one_more hk
    rw [waveletref22_Blocks.l0, hN, w64 (by omega) (by omega), if_neg (by omega)]
    simp
  | d + 1, k, i, acc, hi, hk, hl => by
    obtain ⟨k, rfl, hk'⟩ := one_more hk
    have hlt : (i : Int) < nn x0 x1 (p2 a) * nn y0 y1 (p2 b) := by omega
    have hp : plc x0 y0 x1 y1 a b i = (x0 / p2 a + (i : Int) % nn x0 x1 (p2 a), y0 / p2 b + (i : Int) / nn x0 x1 (p2 a), true) := by
      unfold plc
      rw [grd_ok h hs]
      simp only
      rw [if_neg (by omega)]
    rw [waveletref22_Blocks.l0, w64 (n := nn x0 x1 (p2 a) * nn y0 y1 (p2 b)) (by omega) (by omega), if_pos hlt]
    obtain ⟨k', rfl, _⟩ := one_more hk'
    rw [refPrecinct_eq]
    simp only [Option.bind_some]
    rw [if_pos (by omega), w64 (n := (i : Int) + 1) (by omega) (by omega), show (i : Int) + 1 = ((i + 1 : Nat) : Int) by omega, refBlocks_l0 h hs N hN d (k' + 1) (i + 1) _ (by omega) (by omega) (by simp [hl])]
    unfold pcn
    rw [hp]
    simp only [if_true, List.range'_succ, List.map_cons, List.append_assoc, List.singleton_append]
    rfl
theorem PartitionBlocks : waveletlaw22_PartitionBlocks.Pure := by
  intro x0 y0 x1 y1 a b _ _ _
  suffices H : ∀ K, 20000000 ≤ K → waveletlaw22_PartitionBlocks.f (K + 2) x0 y0 x1 y1 a b = some true from ⟨_, H 20000000 (Nat.le_refl _)⟩
  intro K hK
  unfold waveletlaw22_PartitionBlocks.f
  rw [Blocks_eq _ _ _ _ _ _ _ (by omega), example_holds _ (by omega)]
  have hz : waveletref22_Blocks.j0 (K + 2) a b true x0 y0 x1 y1 = some (0, 0, []) := by rw [waveletref22_Blocks.j0, if_pos rfl]
  have key : waveletref22_Blocks.f (K + 2) x0 y0 x1 y1 a b = some (blk x0 y0 x1 y1 a b) := by
    unfold waveletref22_Blocks.f
    by_cases c1 : a < 0
    · rw [if_pos c1, hz]; unfold blk; rw [grd_no (by unfold gok; omega)]; rfl
    · rw [if_neg c1]
      by_cases c2 : a > 6
      · rw [if_pos c2, hz]; unfold blk; rw [grd_no (by unfold gok; omega)]; rfl
      · rw [if_neg c2]
        by_cases c3 : b < 0
        · rw [if_pos c3, hz]; unfold blk; rw [grd_no (by unfold gok; omega)]; rfl
        · rw [if_neg c3]
          by_cases c4 : b > 6
          · rw [decide_eq_true c4, hz]; unfold blk; rw [grd_no (by unfold gok; omega)]; rfl
          · rw [decide_eq_false c4, waveletref22_Blocks.j0, if_neg (by decide), refPrecincts_eq]
            simp only [Option.bind_some]
            by_cases h : gok x0 y0 x1 y1 a b 12 ∧ nn x0 x1 (p2 a) * nn y0 y1 (p2 b) ≤ 65536
            · have h6 : gok x0 y0 x1 y1 a b 6 := ⟨h.1.1, by omega, by omega, by omega, by omega⟩
              unfold blk
              rw [grd_ok h.1 h.2, grd_ok h6 h.2]
              simp only
              obtain ⟨⟨⟨h1, h2, h3, h4, h5, h6'⟩, h7, h8, h9, h10⟩, hs⟩ := id h
              have hx := nn_bd (p2_bd h8).1 h1 h2 h3
              have hy := nn_bd (p2_bd h10).1 h4 h5 h6'
              have hr := refBlocks_l0 h.1 h.2 ((nn y0 y1 (p2 b)).toNat * (nn x0 x1 (p2 a)).toNat) (by rw [Int.natCast_mul, Int.toNat_of_nonneg (by omega), Int.toNat_of_nonneg (by omega), Int.mul_comm]) _ (K + 1) 0 [] (Nat.zero_add _) (by
                have : ((nn y0 y1 (p2 b)).toNat * (nn x0 x1 (p2 a)).toNat : Nat) ≤ 4096 * 4096 := Nat.mul_le_mul (by omega) (by omega)
                omega) rfl
              rw [show (0 : Int) = ((0 : Nat) : Int) from rfl, hr, brows_range _ _ _ _ _ _ _ _ (by omega), Int.toNat_of_nonneg (by omega : 0 ≤ nn x0 x1 (p2 a)), List.range_eq_range']
              simp
            · unfold blk
              rw [grd_no h, grd_no (fun hh => h ⟨⟨hh.1.1, by have := hh.1.2; omega, by have := hh.1.2; omega, by have := hh.1.2; omega, by have := hh.1.2; omega⟩, hh.2⟩)]
              simp only
              rw [waveletref22_Blocks.l0, w64 (by omega) (by omega), if_neg (by omega)]
              rfl
  rw [key]
  simp only [Option.bind_some, if_true]
  have hb := grd_bd x0 y0 x1 y1 a b 6 (by omega)
  have hl : (blk x0 y0 x1 y1 a b).2.2.length ≤ 65536 := by
    unfold blk
    simp only
    rw [brows_length]
    have : (((grd x0 y0 x1 y1 a b 6).2.2.2.toNat * (grd x0 y0 x1 y1 a b 6).2.2.1.toNat : Nat) : Int) ≤ 65536 := by
      rw [Int.natCast_mul, Int.toNat_of_nonneg (by omega), Int.toNat_of_nonneg (by omega), Int.mul_comm]; omega
    omega
  rw [Same_self _ _ (by omega) (by omega)]
  rfl
end Go.Proofs.Ytlldikkbbpjigaa.Pure
