/- The law PartitionCovers over plain numbers and lists: every point of a small resolution lies in exactly one precinct, no precinct is empty, every point of a part lies in exactly one of its code blocks, and the chapter's examples hold. No condition beyond the law's own. -/
import Derived.Test.YtlldikkbbpjigaaE22D
import Derived.Test.YtlldikkbbpjigaaE22R
import Derived.Test.YtlldikkbbpjigaaE22X
import Derived.Test.YtlldikkbbpjigaaPAx21
namespace Go.Proofs.Ytlldikkbbpjigaa.Pure
open Go.RowKit Go.Proofs.Ytlldikkbbpjigaa.PA Go.Proofs.YtlldikkbbpjigaaW.PrintWords Go.Proofs.YtlldikkbbpjigaaW.PrintMore Go.Proofs.YtlldikkbbpjigaaW.PrintLast Go.Proofs.Ytlldikkbbpjigaa.Ar Go.Proofs.Ytlldikkbbpjigaa.E22
theorem prt_full {x0 y0 x1 y1 c r a b : Int} (ha : a ≤ 12) (hb : b ≤ 12) (hx : x0 < x1) (hy : y0 < y1) (c1 : x0 / p2 a ≤ c) (c2 : c ≤ (x1 - 1) / p2 a) (r1 : y0 / p2 b ≤ r) (r2 : r ≤ (y1 - 1) / p2 b) :
    (prt x0 y0 x1 y1 c r a b).1 < (prt x0 y0 x1 y1 c r a b).2.2.1 ∧ (prt x0 y0 x1 y1 c r a b).2.1 < (prt x0 y0 x1 y1 c r a b).2.2.2 := by
  have pa := p2_bd ha
  have pb := p2_bd hb
  have e1 : c * p2 a ≤ x1 - 1 := (Int.le_ediv_iff_mul_le (by omega)).1 c2
  have e2 : x0 < (c + 1) * p2 a := (Int.ediv_lt_iff_lt_mul (by omega)).1 (by omega)
  have e3 : r * p2 b ≤ y1 - 1 := (Int.le_ediv_iff_mul_le (by omega)).1 r2
  have e4 : y0 < (r + 1) * p2 b := (Int.ediv_lt_iff_lt_mul (by omega)).1 (by omega)
  have e5 : c * p2 a < (c + 1) * p2 a := by rw [Int.add_mul]; omega
  have e6 : r * p2 b < (r + 1) * p2 b := by rw [Int.add_mul]; omega
  unfold prt isc
  generalize c * p2 a = g0 at *
  generalize (c + 1) * p2 a = g1 at *
  generalize r * p2 b = g2 at *
  generalize (r + 1) * p2 b = g3 at *
  have he : ¬ emp (mx x0 g0) (mx y0 g2) (mn x1 g1) (mn y1 g3) := by unfold emp mx mn; split <;> split <;> split <;> split <;> omega
  rw [if_neg he]
  simp only
  unfold emp at he
  omega
section
variable {x0 y0 x1 y1 a b : Int} (h1 : 0 ≤ x0) (h2 : x0 < x1) (h3 : x1 ≤ 4096) (h4 : 0 ≤ y0) (h5 : y0 < y1) (h6 : y1 ≤ 4096) (h7 : 0 ≤ a) (h8 : a ≤ 12) (h9 : 0 ≤ b) (h10 : b ≤ 12)
include h1 h2 h3 h4 h5 h6 h7 h8 h9 h10
omit h4 h5 h6 h7 h9 in
theorem cover_one (N : Nat) (hN : nn x0 x1 (p2 a) * nn y0 y1 (p2 b) = N) (x y : Int) (g1 : x0 ≤ x) (g2 : x < x1) (g3 : y0 ≤ y) (g4 : y < y1) : (parts x0 y0 x1 y1 a b (x0 / p2 a) (y0 / p2 b) (nn x0 x1 (p2 a)) N).countP (hit x y) = 1 := by
  have pa := p2_bd h8
  have pb := p2_bd h10
  have hx := nn_bd pa.1 h1 h2 h3
  exact parts_one (R := nn y0 y1 (p2 b)) h8 h10 hx.1 hN h1
    (fun x g1 g2 => by
      have a1 : x0 / p2 a ≤ x / p2 a := Int.ediv_le_ediv (by omega) g1
      have a2 : x / p2 a ≤ (x1 - 1) / p2 a := Int.ediv_le_ediv (by omega) (by omega)
      have e : nn x0 x1 (p2 a) = (x1 - 1) / p2 a - x0 / p2 a + 1 := rfl
      omega)
    (fun y g1 g2 => by
      have a1 : y0 / p2 b ≤ y / p2 b := Int.ediv_le_ediv (by omega) g1
      have a2 : y / p2 b ≤ (y1 - 1) / p2 b := Int.ediv_le_ediv (by omega) (by omega)
      have e : nn y0 y1 (p2 b) = (y1 - 1) / p2 b - y0 / p2 b + 1 := rfl
      omega) x y g1 g2 g3 g4
theorem covers_l0 (N : Nat) (hN : nn x0 x1 (p2 a) * nn y0 y1 (p2 b) = N) (hs : N ≤ 400) (hend : ∀ k, 20000000 ≤ k → (if a > 6 then (waveletlaw22_PartitionCovers.j3 (k + 1) a b (nn x0 x1 (p2 a)) (nn y0 y1 (p2 b)) true x0 y0 x1 y1) else (waveletlaw22_PartitionCovers.j3 (k + 1) a b (nn x0 x1 (p2 a)) (nn y0 y1 (p2 b)) (decide (b > 6)) x0 y0 x1 y1)) = some true) :
    ∀ (d k i : Nat), i + d = N → 20000000 + 1 + d ≤ k →
    waveletlaw22_PartitionCovers.l0 (k + 1) a b (nn x0 x1 (p2 a)) (nn y0 y1 (p2 b)) (parts x0 y0 x1 y1 a b (x0 / p2 a) (y0 / p2 b) (nn x0 x1 (p2 a)) i) (i : Int) x0 y0 x1 y1 = some true
  | 0, k, i, hi, hk => by
    have pa := p2_bd h8
    have pb := p2_bd h10
    have hx := nn_bd pa.1 h1 h2 h3
    have hy := nn_bd pb.1 h4 h5 h6
    obtain ⟨k, rfl, hk'⟩ := one_more (show (20000000 + 0) + 1 ≤ k by omega)
    rw [waveletlaw22_PartitionCovers.l0, hN, w64 (by omega) (by omega), if_neg (by omega)]
    have hone := cover_one h1 h2 h3 h8 h10 N hN
    rw [show i = N by omega, exact_some x0 y0 x1 y1 _ (by rw [parts_length]; omega) (by omega) (by omega) hone (parts_in _ _ _ _ _ _ _ _ _ _) _ (by omega)]
    simp only [Option.bind_some, if_true]
    exact hend k (by omega)
  | d + 1, k, i, hi, hk => by
    have pa := p2_bd h8
    have pb := p2_bd h10
    have hx := nn_bd pa.1 h1 h2 h3
    have hy := nn_bd pb.1 h4 h5 h6
    obtain ⟨k, rfl, hk'⟩ := one_more (show (20000000 + 1 + d) + 1 ≤ k by omega)
    have hlt : (i : Int) < nn x0 x1 (p2 a) * nn y0 y1 (p2 b) := by omega
    have hp : plc x0 y0 x1 y1 a b i = (x0 / p2 a + (i : Int) % nn x0 x1 (p2 a), y0 / p2 b + (i : Int) / nn x0 x1 (p2 a), true) := by
      unfold plc
      rw [grd_ok ⟨⟨h1, h2, h3, h4, h5, h6⟩, h7, h8, h9, h10⟩ (by omega)]
      simp only
      rw [if_neg (by omega)]
    rw [waveletlaw22_PartitionCovers.l0, w64 (n := nn x0 x1 (p2 a) * nn y0 y1 (p2 b)) (by omega) (by omega), if_pos hlt, Precinct_eq]
    simp only [Option.bind_some]
    unfold pcn
    rw [hp]
    simp only [if_true]
    have m1 := Int.emod_nonneg (i : Int) (by omega : nn x0 x1 (p2 a) ≠ 0)
    have m2 := Int.emod_lt_of_pos (i : Int) (by omega : 0 < nn x0 x1 (p2 a))
    have m3 : 0 ≤ (i : Int) / nn x0 x1 (p2 a) := Int.ediv_nonneg (by omega) (by omega)
    have m4 : (i : Int) / nn x0 x1 (p2 a) < nn y0 y1 (p2 b) := (Int.ediv_lt_iff_lt_mul (by omega)).2 (by rw [Int.mul_comm]; exact hlt)
    have ex : nn x0 x1 (p2 a) = (x1 - 1) / p2 a - x0 / p2 a + 1 := rfl
    have ey : nn y0 y1 (p2 b) = (y1 - 1) / p2 b - y0 / p2 b + 1 := rfl
    have hf := prt_full (c := x0 / p2 a + (i : Int) % nn x0 x1 (p2 a)) (r := y0 / p2 b + (i : Int) / nn x0 x1 (p2 a)) h8 h10 h2 h5 (by omega) (by omega) (by omega) (by omega)
    rw [if_neg (by omega), if_neg (by omega), if_pos (by rw [parts_length]; omega), w64 (n := (i : Int) + 1) (by omega) (by omega)]
    have := covers_l0 N hN hs hend d k (i + 1) (by omega) (by omega)
    unfold parts at this ⊢
    rw [List.range_succ, List.map_append, List.map_cons, List.map_nil] at this
    simp only [r23] at this ⊢
    rw [show (i : Int) + 1 = ((i + 1 : Nat) : Int) by omega]
    exact this
end
theorem PartitionCovers : waveletlaw22_PartitionCovers.Pure := by
  intro x0 y0 x1 y1 a b _ _ _
  suffices H : ∀ K, 20001000 ≤ K → waveletlaw22_PartitionCovers.f (K + 3) x0 y0 x1 y1 a b = some true from ⟨_, H 20001000 (Nat.le_refl _)⟩
  intro K hK
  have hz : waveletlaw22_PartitionCovers.j0 (K + 3) a b true x0 y0 x1 y1 = some true := by
    rw [waveletlaw22_PartitionCovers.j0, if_pos rfl, example_holds _ (by omega)]; rfl
  unfold waveletlaw22_PartitionCovers.f
  rw [small_eq]
  simp only [Option.bind_some, decide_eq_true_eq]
  by_cases h : rok x0 y0 x1 y1 ∧ ¬ emp x0 y0 x1 y1 ∧ (x1 - x0) * (y1 - y0) ≤ 400
  · rw [if_pos h]
    by_cases c1 : a < 0
    · rw [if_pos c1, hz]
    · rw [if_neg c1]
      by_cases c2 : a > 12
      · rw [if_pos c2, hz]
      · rw [if_neg c2]
        by_cases c3 : b < 0
        · rw [if_pos c3, hz]
        · rw [if_neg c3]
          by_cases c4 : b > 12
          · rw [decide_eq_true c4, hz]
          · obtain ⟨hr, he, hA⟩ := h
            have hx0 : 0 ≤ x0 ∧ x0 < x1 ∧ x1 ≤ 4096 ∧ 0 ≤ y0 ∧ y0 < y1 ∧ y1 ≤ 4096 := by unfold rok at hr; unfold emp at he; omega
            obtain ⟨h1, h2, h3, h4, h5, h6⟩ := hx0
            have pa := p2_bd (e := a) (by omega)
            have pb := p2_bd (e := b) (by omega)
            have hx := nn_bd pa.1 h1 h2 h3
            have hy := nn_bd pb.1 h4 h5 h6
            have lx := nn_le pa.1 h1 h2
            have ly := nn_le pb.1 h4 h5
            have hm : nn x0 x1 (p2 a) * nn y0 y1 (p2 b) ≤ (x1 - x0) * (y1 - y0) := Int.mul_le_mul lx ly (by omega) (by omega)
            have hc1 : nn x0 x1 (p2 a) * 1 ≤ nn x0 x1 (p2 a) * nn y0 y1 (p2 b) := Int.mul_le_mul_of_nonneg_left (by omega) (by omega)
            have hc2 : 1 * nn y0 y1 (p2 b) ≤ nn x0 x1 (p2 a) * nn y0 y1 (p2 b) := Int.mul_le_mul_of_nonneg_right (by omega) (by omega)
            have hg : gok x0 y0 x1 y1 a b 12 := ⟨⟨h1, h2, h3, h4, h5, h6⟩, by omega, by omega, by omega, by omega⟩
            rw [decide_eq_false c4, waveletlaw22_PartitionCovers.j0, if_neg (by decide), show K + 2 = (K + 1) + 1 from rfl, Precincts_eq, grd_ok hg (by omega)]
            simp only [Option.bind_some]
            rw [if_neg (by omega), if_neg (by omega), if_neg (by omega), if_neg (by omega), w64 (n := nn x0 x1 (p2 a) * nn y0 y1 (p2 b)) (by omega) (by omega), decide_eq_false (by omega), waveletlaw22_PartitionCovers.j1, if_neg (by decide)]
            obtain ⟨N, hN⟩ := Int.eq_ofNat_of_zero_le (show 0 ≤ nn x0 x1 (p2 a) * nn y0 y1 (p2 b) by omega)
            refine covers_l0 h1 h2 h3 h4 h5 h6 (by omega) (by omega) (by omega) (by omega) N hN (by omega) (fun k hk => ?_) N K 0 (by omega) (by omega)
            have hex : waveletlaw22_PartitionCovers.j3 (k + 1) a b (nn x0 x1 (p2 a)) (nn y0 y1 (p2 b)) true x0 y0 x1 y1 = some true := by
              rw [waveletlaw22_PartitionCovers.j3, if_pos rfl, example_holds _ (by omega)]; rfl
            by_cases a6 : a > 6
            · rw [if_pos a6]; exact hex
            · rw [if_neg a6]
              by_cases b6 : b > 6
              · rw [decide_eq_true b6]; exact hex
              · have hg6 : gok x0 y0 x1 y1 a b 6 := ⟨⟨h1, h2, h3, h4, h5, h6⟩, by omega, by omega, by omega, by omega⟩
                have hbl : blk x0 y0 x1 y1 a b = (nn x0 x1 (p2 a), nn y0 y1 (p2 b), parts x0 y0 x1 y1 a b (x0 / p2 a) (y0 / p2 b) (nn x0 x1 (p2 a)) N) := by
                  unfold blk
                  rw [grd_ok hg6 (by omega)]
                  simp only
                  have hNN : (nn y0 y1 (p2 b)).toNat * (nn x0 x1 (p2 a)).toNat = N := by
                    have : (((nn y0 y1 (p2 b)).toNat * (nn x0 x1 (p2 a)).toNat : Nat) : Int) = (N : Int) := by
                      rw [Int.natCast_mul, Int.toNat_of_nonneg (by omega), Int.toNat_of_nonneg (by omega), Int.mul_comm]; exact hN
                    omega
                  rw [brows_range _ _ _ _ _ _ _ _ (by omega), hNN, Int.toNat_of_nonneg (by omega : 0 ≤ nn x0 x1 (p2 a))]
                  rfl
                rw [decide_eq_false b6, waveletlaw22_PartitionCovers.j3, if_neg (by decide), Blocks_eq _ _ _ _ _ _ _ (by omega), hbl]
                simp only [Option.bind_some, if_true, parts_length]
                rw [w64 (n := nn x0 x1 (p2 a) * nn y0 y1 (p2 b)) (by omega) (by omega), if_pos hN.symm]
                rw [exact_some x0 y0 x1 y1 _ (by rw [parts_length]; omega) (by omega) (by omega) (cover_one h1 h2 h3 (by omega) (by omega) N hN) (parts_in _ _ _ _ _ _ _ _ _ _) _ (by omega), example_holds _ (by omega)]
                simp
  · rw [if_neg h, hz]
end Go.Proofs.Ytlldikkbbpjigaa.Pure
