/- The law PartitionBandCovers over plain numbers and lists: every point of a subband other than LL of a small resolution lies in the part of exactly one precinct, and the chapter's examples hold. No condition beyond the law's own. -/
import Derived.Test.YtlldikkbbpjigaaE22D
import Derived.Test.YtlldikkbbpjigaaE22B
import Derived.Test.YtlldikkbbpjigaaE22X
import Derived.Test.YtlldikkbbpjigaaPAx22
namespace Go.Proofs.Ytlldikkbbpjigaa.Pure
open Go.RowKit Go.Proofs.Ytlldikkbbpjigaa.PA Go.Proofs.YtlldikkbbpjigaaW.PrintWords Go.Proofs.YtlldikkbbpjigaaW.PrintMore Go.Proofs.YtlldikkbbpjigaaW.PrintLast Go.Proofs.Ytlldikkbbpjigaa.Ar Go.Proofs.Ytlldikkbbpjigaa.E22
theorem p2_succ {a : Int} (h : 1 ≤ a) : p2 a = 2 * p2 (a - 1) := by
  unfold p2
  rw [show a.toNat = (a - 1).toNat + 1 by omega, Int.pow_succ, Int.mul_comm]
/-- Half a point's coordinate lies in the cell of half the size. -/
theorem half_cell {x s z : Int} (hz : z / 2 = x) : z / (2 * s) = x / s := by
  rw [← hz, Int.ediv_ediv_of_nonneg (by omega)]
/-- The bounds of a subband in one direction. -/
def hlf (up : Bool) (v : Int) : Int := if up = true then v / 2 else (v + 1) / 2
theorem half_eq {u v : Int} (up : Bool) (h0 : 0 ≤ u) (h1 : 0 ≤ v) (h2 : u ≤ 4096) (h3 : v ≤ 4096) : waveletlaw22_half.f u v up = some (hlf up u, hlf up v) := by
  unfold waveletlaw22_half.f hlf
  cases up
  · rw [if_neg (by decide), if_neg (by decide), if_neg (by decide), w64 (n := u + 1) (by omega) (by omega), w64 (n := v + 1) (by omega) (by omega), tdivn (by omega), tdivn (by omega), w64 (by omega) (by omega), w64 (by omega) (by omega)]
  · rw [if_pos rfl, if_pos rfl, if_pos rfl, tdivn (by omega), tdivn (by omega), w64 (by omega) (by omega), w64 (by omega) (by omega)]
theorem hlf_in {u v a x : Int} {up : Bool} (ha : 1 ≤ a) (ha2 : a ≤ 12) (h1 : hlf up u ≤ x) (h2 : x < hlf up v) : u / p2 a ≤ x / p2 (a - 1) ∧ x / p2 (a - 1) < u / p2 a + nn u v (p2 a) := by
  have pa := p2_bd ha2
  have e : nn u v (p2 a) = (v - 1) / p2 a - u / p2 a + 1 := rfl
  obtain ⟨z, z1, z2, z3⟩ : ∃ z : Int, z / 2 = x ∧ u ≤ z ∧ z ≤ v - 1 := by
    unfold hlf at h1 h2
    cases up
    · simp only [Bool.false_eq_true, if_false] at h1 h2
      exact ⟨2 * x, by omega, by omega, by omega⟩
    · simp only [if_true] at h1 h2
      exact ⟨2 * x + 1, by omega, by omega, by omega⟩
  have e1 : x / p2 (a - 1) = z / p2 a := by rw [p2_succ ha, half_cell z1]
  have a1 : u / p2 a ≤ z / p2 a := Int.ediv_le_ediv (by omega) z2
  have a2 : z / p2 a ≤ (v - 1) / p2 a := Int.ediv_le_ediv (by omega) z3
  omega
section
variable {x0 y0 x1 y1 a b o u0 v0 u1 v1 : Int} (h1 : 0 ≤ x0) (h2 : x0 < x1) (h3 : x1 ≤ 4096) (h4 : 0 ≤ y0) (h5 : y0 < y1) (h6 : y1 ≤ 4096) (h7 : 1 ≤ a) (h8 : a ≤ 12) (h9 : 1 ≤ b) (h10 : b ≤ 12) (ho1 : 1 ≤ o) (ho3 : o ≤ 3) (hu : 0 ≤ u0 ∧ u0 ≤ u1 ∧ u1 ≤ 4096) (hv : 0 ≤ v0 ∧ v0 ≤ v1 ∧ v1 ≤ 4096)
include h1 h2 h3 h4 h5 h6 h7 h8 h9 h10 ho1 ho3 hu hv
theorem bcovers_l0 (N : Nat) (hN : nn x0 x1 (p2 a) * nn y0 y1 (p2 b) = N) (hs : N ≤ 400)
    (hone : ∀ x y, u0 ≤ x → x < u1 → v0 ≤ y → y < v1 → (parts u0 v0 u1 v1 (a - 1) (b - 1) (x0 / p2 a) (y0 / p2 b) (nn x0 x1 (p2 a)) N).countP (hit x y) = 1) :
    ∀ (d k i : Nat), i + d = N → 20000000 + 1 + d ≤ k →
    waveletlaw22_PartitionBandCovers.l0 (k + 1) a b o (nn x0 x1 (p2 a)) (nn y0 y1 (p2 b)) (parts u0 v0 u1 v1 (a - 1) (b - 1) (x0 / p2 a) (y0 / p2 b) (nn x0 x1 (p2 a)) i) (i : Int) x0 y0 x1 y1 u0 v0 u1 v1 = some true
  | 0, k, i, hi, hk => by
    rw [waveletlaw22_PartitionBandCovers.l0, hN, w64 (by omega) (by omega), if_neg (by omega)]
    rw [show i = N by omega, exact_some u0 v0 u1 v1 _ (by rw [parts_length]; omega) hu hv hone (parts_in _ _ _ _ _ _ _ _ _ _) _ (by omega), example_holds _ (by omega)]
    rfl
  | d + 1, k, i, hi, hk => by
    have pa := p2_bd h8
    have pb := p2_bd h10
    have hx := nn_bd pa.1 h1 h2 h3
    have hy := nn_bd pb.1 h4 h5 h6
    obtain ⟨k, rfl, hk'⟩ := one_more (show (20000000 + 1 + d) + 1 ≤ k by omega)
    obtain ⟨k, rfl, hk''⟩ := one_more (show (20000000 + d) + 1 ≤ k by omega)
    have hlt : (i : Int) < nn x0 x1 (p2 a) * nn y0 y1 (p2 b) := by omega
    have hp : plc x0 y0 x1 y1 a b i = (x0 / p2 a + (i : Int) % nn x0 x1 (p2 a), y0 / p2 b + (i : Int) / nn x0 x1 (p2 a), true) := by
      unfold plc
      rw [grd_ok ⟨⟨h1, h2, h3, h4, h5, h6⟩, by omega, h8, by omega, h10⟩ (by omega)]
      simp only
      rw [if_neg (by omega)]
    have hib : inb x0 y0 x1 y1 u0 v0 u1 v1 o a b i = put5 (prt u0 v0 u1 v1 (x0 / p2 a + (i : Int) % nn x0 x1 (p2 a)) (y0 / p2 b + (i : Int) / nn x0 x1 (p2 a)) (a - 1) (b - 1)) := by
      unfold inb
      rw [hp, if_pos ⟨rfl, by unfold rok; omega, by omega, by omega, .inr ⟨by omega, by omega⟩⟩, if_neg (by omega), if_neg (by omega)]
    rw [waveletlaw22_PartitionBandCovers.l0, w64 (n := nn x0 x1 (p2 a) * nn y0 y1 (p2 b)) (by omega) (by omega), if_pos hlt, show k + 1 + 1 = k + 2 from rfl, InBand_eq, hib]
    simp only [Option.bind_some]
    simp only [put5, if_true]
    rw [if_pos (by rw [parts_length]; omega), w64 (n := (i : Int) + 1) (by omega) (by omega)]
    have := bcovers_l0 N hN hs hone d (k + 1) (i + 1) (by omega) (by omega)
    unfold parts at this ⊢
    rw [List.range_succ, List.map_append, List.map_cons, List.map_nil] at this
    simp only [r23] at this ⊢
    rw [show (i : Int) + 1 = ((i + 1 : Nat) : Int) by omega]
    exact this
end
/-- The three last steps of the law, once the subband is known. -/
theorem band_tail {x0 y0 x1 y1 a b o : Int} {ux uy : Bool} (hr : rok x0 y0 x1 y1) (he : ¬ emp x0 y0 x1 y1) (hA : (x1 - x0) * (y1 - y0) ≤ 400) (h7 : 1 ≤ a) (h8 : a ≤ 12) (h9 : 1 ≤ b) (h10 : b ≤ 12) (ho1 : 1 ≤ o) (ho3 : o ≤ 3) (K : Nat) (hK : 20001000 ≤ K) :
    waveletlaw22_PartitionBandCovers.j2 (K + 3) a b o x0 y0 x1 y1 (hlf ux x0) (hlf uy y0) (hlf ux x1) (hlf uy y1) = some true := by
  have hx0 : 0 ≤ x0 ∧ x0 < x1 ∧ x1 ≤ 4096 ∧ 0 ≤ y0 ∧ y0 < y1 ∧ y1 ≤ 4096 := by unfold rok at hr; unfold emp at he; omega
  obtain ⟨h1, h2, h3, h4, h5, h6⟩ := hx0
  have pa := p2_bd (e := a) (by omega)
  have pb := p2_bd (e := b) (by omega)
  have hx := nn_bd pa.1 h1 h2 h3
  have hy := nn_bd pb.1 h4 h5 h6
  have lx := nn_le pa.1 h1 h2
  have ly := nn_le pb.1 h4 h5
  have hm : nn x0 x1 (p2 a) * nn y0 y1 (p2 b) ≤ (x1 - x0) * (y1 - y0) := Int.mul_le_mul lx ly (by omega) (by omega)
  have hc1 : nn x0 x1 (p2 a) * 1 ≤ nn x0 x1 (p2 a) * nn y0 y1 (p2 b) := Int.mul_le_mul_of_nonneg_left (by omega) (by omega)
  have hc2 : 1 * nn y0 y1 (p2 b) ≤ nn x0 x1 (p2 a) * nn y0 y1 (p2 b) := Int.mul_le_mul_of_nonneg_right (by omega) (by omega)
  have hg : gok x0 y0 x1 y1 a b 12 := ⟨⟨h1, h2, h3, h4, h5, h6⟩, by omega, by omega, by omega, by omega⟩
  rw [waveletlaw22_PartitionBandCovers.j2, show K + 2 = (K + 1) + 1 from rfl, Precincts_eq, grd_ok hg (by omega)]
  simp only [Option.bind_some]
  rw [if_neg (by omega), if_neg (by omega), if_neg (by omega), if_neg (by omega), w64 (n := nn x0 x1 (p2 a) * nn y0 y1 (p2 b)) (by omega) (by omega), decide_eq_false (by omega), waveletlaw22_PartitionBandCovers.j3, if_neg (by decide)]
  obtain ⟨N, hN⟩ := Int.eq_ofNat_of_zero_le (show 0 ≤ nn x0 x1 (p2 a) * nn y0 y1 (p2 b) by omega)
  have bx : ∀ (q : Bool) (v w : Int), 0 ≤ v → v ≤ w → w ≤ 4096 → 0 ≤ hlf q v ∧ hlf q v ≤ hlf q w ∧ hlf q w ≤ 4096 := by
    intro q v w g1 g2 g3
    unfold hlf
    cases q <;> simp <;> omega
  have hu := bx ux x0 x1 h1 (by omega) h3
  have hv := bx uy y0 y1 h4 (by omega) h6
  exact bcovers_l0 h1 h2 h3 h4 h5 h6 h7 h8 h9 h10 ho1 ho3 hu hv N hN (by omega)
    (parts_one (R := nn y0 y1 (p2 b)) (by omega) (by omega) hx.1 hN hu.1 (fun x g1 g2 => hlf_in h7 h8 g1 g2) (fun y g1 g2 => hlf_in h9 h10 g1 g2)) N K 0 (by omega) (by omega)
theorem PartitionBandCovers : waveletlaw22_PartitionBandCovers.Pure := by
  intro x0 y0 x1 y1 a b o _ _ _ _
  suffices H : ∀ K, 20001000 ≤ K → waveletlaw22_PartitionBandCovers.f (K + 5) x0 y0 x1 y1 a b o = some true from ⟨_, H 20001000 (Nat.le_refl _)⟩
  intro K hK
  have hz : waveletlaw22_PartitionBandCovers.j0 (K + 5) a b o true x0 y0 x1 y1 = some true := by
    rw [waveletlaw22_PartitionBandCovers.j0, if_pos rfl, example_holds _ (by omega)]; rfl
  unfold waveletlaw22_PartitionBandCovers.f
  rw [small_eq]
  simp only [Option.bind_some, decide_eq_true_eq]
  by_cases h : rok x0 y0 x1 y1 ∧ ¬ emp x0 y0 x1 y1 ∧ (x1 - x0) * (y1 - y0) ≤ 400
  · rw [if_pos h]
    by_cases c1 : a < 1
    · rw [if_pos c1, hz]
    · rw [if_neg c1]
      by_cases c2 : a > 12
      · rw [if_pos c2, hz]
      · rw [if_neg c2]
        by_cases c3 : b < 1
        · rw [if_pos c3, hz]
        · rw [if_neg c3]
          by_cases c4 : b > 12
          · rw [if_pos c4, hz]
          · rw [if_neg c4]
            by_cases c5 : o < 1
            · rw [if_pos c5, hz]
            · rw [if_neg c5]
              by_cases c6 : o > 3
              · rw [decide_eq_true c6, hz]
              · obtain ⟨hr, he, hA⟩ := h
                have hx0 : 0 ≤ x0 ∧ x0 < x1 ∧ x1 ≤ 4096 ∧ 0 ≤ y0 ∧ y0 < y1 ∧ y1 ≤ 4096 := by unfold rok at hr; unfold emp at he; omega
                have ht : ∀ ux uy, waveletlaw22_PartitionBandCovers.j2 (K + 3) a b o x0 y0 x1 y1 (hlf ux x0) (hlf uy y0) (hlf ux x1) (hlf uy y1) = some true := fun ux uy => band_tail hr he hA (by omega) (by omega) (by omega) (by omega) (by omega) (by omega) K hK
                rw [decide_eq_false c6, waveletlaw22_PartitionBandCovers.j0, if_neg (by decide), half_eq true (by omega) (by omega) (by omega) (by omega), half_eq (o == 3) (by omega) (by omega) (by omega) (by omega)]
                simp only [Option.bind_some]
                have hj : ∀ ux, waveletlaw22_PartitionBandCovers.j1 (K + 4) a b o x0 y0 x1 y1 (hlf ux x0) 0 (hlf ux x1) 0 = some true := by
                  intro ux
                  rw [waveletlaw22_PartitionBandCovers.j1, half_eq true (by omega) (by omega) (by omega) (by omega), half_eq (o == 3) (by omega) (by omega) (by omega) (by omega)]
                  simp only [Option.bind_some]
                  rw [ht, ht]
                  split <;> rfl
                rw [hj, hj]
                split <;> rfl
  · rw [if_neg h, hz]
end Go.Proofs.Ytlldikkbbpjigaa.Pure
