/- The reference of layer 4 in closed form. -/
import Derived.Test.YtkpehgakdooodaaE04A
import Derived.Test.YtkpehgakdooodaaE04K
import Derived.Test.YtkpehgakdooodaaPAx11
import Derived.Test.YtkpehgakdooodaaPAx10
import Derived.Test.YtkpehgakdooodaaPAx12
import Derived.Test.YtkpehgakdooodaaPAx13
set_option linter.unusedVariables false
namespace Go.Proofs.Ytkpehgakdooodaa.E04
open Go.RowKit Go.Proofs.YtkpehgakdooodaaW.PrintWords Go.Proofs.YtkpehgakdooodaaW.PrintMore Go.Proofs.Ytkpehgakdooodaa.PA Go.Proofs.Ytkpehgakdooodaa.Ar Go.Proofs.Ytkpehgakdooodaa.E03
theorem valid_eq (kk : Int) : waveletref04_ValidKernel.f kk = some (decide (1 ≤ kk ∧ kk ≤ 3)) := by
  unfold waveletref04_ValidKernel.f
  split
  · exact dec_tt (by omega)
  · split
    · exact dec_tt (by omega)
    · by_cases h : kk = 3
      · subst h; rfl
      · rw [beq_eq_false_iff_ne.mpr h]; exact dec_ff (by omega)
theorem few_l0 (b : Int) (hb : 0 ≤ b ∧ b ≤ 4503599627370496) (l : List Int) (hn : l.length ≤ 4611686018427387904) : ∀ (d k i : Nat), i + d = l.length → d < k → waveletref04_FewValues.l0 k b l (l.length : Int) (i : Int) = some (decide (fit b (l.drop i)))
  | 0, k, i, h, hk => by
    obtain ⟨m, rfl, _⟩ := one_more (n := 0) (by omega : 0 + 1 ≤ k)
    rw [waveletref04_FewValues.l0, if_neg (by omega), List.drop_eq_nil_of_le (by omega)]
    exact dec_tt (by simp [fit])
  | d + 1, k, i, h, hk => by
    obtain ⟨m, rfl, _⟩ := one_more (n := d + 1) (by omega : d + 1 + 1 ≤ k)
    rw [waveletref04_FewValues.l0, if_pos (by omega), if_pos (by omega), if_pos (by omega), w64 (n := -b) (by omega) (by omega), w64 (n := (i : Int) + 1) (by omega) (by omega), drop_at (by omega)]
    have ih := few_l0 b hb l hn d m (i + 1) (by omega) (by omega)
    simp only [Int.natCast_add, Int.cast_ofNat_Int] at ih
    by_cases h1 : rd l i > b
    · rw [if_pos h1]; exact dec_ff (by rw [fit_cons]; omega)
    · rw [if_neg h1]
      by_cases h2 : rd l i < -b
      · rw [if_pos h2]; exact dec_ff (by rw [fit_cons]; omega)
      · rw [if_neg h2, ih]; exact dec_iff (by rw [fit_cons]; exact ⟨fun x => ⟨⟨by omega, by omega⟩, x⟩, fun x => x.2⟩)
theorem few_eq (k : Nat) (b : Int) (hb : 0 ≤ b ∧ b ≤ 4503599627370496) (l : List Int) (hn : l.length ≤ 4611686018427387904) (hk : l.length < k) : waveletref04_FewValues.f k l b = some (decide (fit b l)) := by
  unfold waveletref04_FewValues.f
  have := few_l0 b hb l hn l.length k 0 (by omega) hk
  simpa using this
theorem mir_mr {n s i : Int} (hn : 2 ≤ n ∧ n ≤ 4096) (hs : 0 ≤ s ∧ s ≤ 4096) (hi : -100000 ≤ i ∧ i ≤ 100000) : mir i s (s + n) = s + mr n (i - s) := by
  unfold mir mr
  rw [if_pos ⟨by omega, by omega, by omega, by omega, by omega, by omega, by omega⟩, if_neg (by omega), show s + n - s = n by omega]
  split <;> rfl
theorem ref_at (k : Nat) (l : List Int) (s i : Int) (hn : 2 ≤ l.length ∧ l.length ≤ 4096) (hs : 0 ≤ s ∧ s ≤ 4096) (hi : -100000 ≤ i ∧ i ≤ 100000) : waveletref04_at.f (k + 1) l s i = some (at_ l (i - s)) := by
  unfold waveletref04_at.f
  have h1 := mr_in (n := l.length) (i - s) (by omega)
  rw [w64 (n := s + (l.length : Int)) (by omega) (by omega), refMirror_eq, mir_mr ⟨by omega, by omega⟩ hs hi]
  simp only [Option.bind_some]
  rw [w64 (n := s + mr (l.length : Int) (i - s) - s) (by omega) (by omega), show s + mr (l.length : Int) (i - s) - s = mr (l.length : Int) (i - s) by omega, if_pos h1.1, if_pos h1.2]
  rfl
theorem floor_eq (a b : Int) (hb : b = 2 ∨ b = 4 ∨ b = 16) (ha : -4611686018427387904 ≤ a ∧ a ≤ 4611686018427387904) : waveletref04_FloorDiv.f a b = some (a / b) := by
  unfold waveletref04_FloorDiv.f
  rw [if_neg (by omega)]
  by_cases h : 0 ≤ a
  · rw [tmodn h, tdivn h]
    rw [if_neg (by rcases hb with rfl | rfl | rfl <;> omega), w64 (by rcases hb with rfl | rfl | rfl <;> omega) (by rcases hb with rfl | rfl | rfl <;> omega)]
  · obtain ⟨c, rfl⟩ : ∃ c, a = -c := ⟨-a, by omega⟩
    rw [Int.neg_tmod, Int.neg_tdiv, tmodn (by omega), tdivn (by omega)]
    have hw : wrap64 (-(c / b)) = -(c / b) := w64 (by rcases hb with rfl | rfl | rfl <;> omega) (by rcases hb with rfl | rfl | rfl <;> omega)
    rw [hw, w64 (n := -(c / b) - 1) (by rcases hb with rfl | rfl | rfl <;> omega) (by rcases hb with rfl | rfl | rfl <;> omega)]
    split <;> (congr 1; rcases hb with rfl | rfl | rfl <;> omega)
theorem ref_predict (kk : Int) (k : Nat) (l : List Int) (s i : Int) (hn : 2 ≤ l.length ∧ l.length ≤ 4096) (hs : 0 ≤ s ∧ s ≤ 4096) (hb : Bd 36028797018963968 l) (hi : 0 ≤ i ∧ i < l.length) : waveletref04_predict.f (k + 1) l s (s + i) kk = some (prd kk l i) := by
  have h1 := hb.at (i - 1) hn.1
  have h2 := hb.at (i + 1) hn.1
  have h3 := hb.at (i - 3) hn.1
  have h4 := hb.at (i + 3) hn.1
  have e1 := ref_at k l s (s + i - 1) hn hs (by omega)
  have e2 := ref_at k l s (s + i + 1) hn hs (by omega)
  have e3 := ref_at k l s (s + i - 3) hn hs (by omega)
  have e4 := ref_at k l s (s + i + 3) hn hs (by omega)
  rw [show s + i - 1 - s = i - 1 by omega] at e1
  rw [show s + i + 1 - s = i + 1 by omega] at e2
  rw [show s + i - 3 - s = i - 3 by omega] at e3
  rw [show s + i + 3 - s = i + 3 by omega] at e4
  unfold waveletref04_predict.f prd
  rw [w64 (n := s + i - 1) (by omega) (by omega), w64 (n := s + i + 1) (by omega) (by omega), w64 (n := s + i - 3) (by omega) (by omega), w64 (n := s + i + 3) (by omega) (by omega), e1, e2, e3, e4]
  simp only [Option.bind_some]
  split
  · rfl
  · split
    · rw [w64 (n := at_ l (i - 1) + at_ l (i + 1)) (by omega) (by omega), floor_eq _ _ (by omega) (by omega)]; rfl
    · rw [w64 (n := at_ l (i - 1) + at_ l (i + 1)) (by omega) (by omega), w64 (n := 9 * (at_ l (i - 1) + at_ l (i + 1))) (by omega) (by omega), w64 (n := at_ l (i - 3) + at_ l (i + 3)) (by omega) (by omega), w64 (n := 9 * (at_ l (i - 1) + at_ l (i + 1)) - (at_ l (i - 3) + at_ l (i + 3))) (by omega) (by omega), w64 (by omega) (by omega), floor_eq _ _ (by omega) (by omega)]; rfl
theorem ref_update (kk : Int) (k : Nat) (l : List Int) (s i : Int) (hn : 2 ≤ l.length ∧ l.length ≤ 4096) (hs : 0 ≤ s ∧ s ≤ 4096) (hb : Bd 36028797018963968 l) (hi : 0 ≤ i ∧ i < l.length) : waveletref04_update.f (k + 1) l s (s + i) kk = some (upd kk l i) := by
  have h1 := hb.at (i - 1) hn.1
  have h2 := hb.at (i + 1) hn.1
  have e1 := ref_at k l s (s + i - 1) hn hs (by omega)
  have e2 := ref_at k l s (s + i + 1) hn hs (by omega)
  rw [show s + i - 1 - s = i - 1 by omega] at e1
  rw [show s + i + 1 - s = i + 1 by omega] at e2
  unfold waveletref04_update.f upd
  rw [w64 (n := s + i - 1) (by omega) (by omega), w64 (n := s + i + 1) (by omega) (by omega), e1, e2]
  simp only [Option.bind_some]
  split
  · rw [floor_eq _ _ (by omega) (by omega)]; rfl
  · rw [w64 (n := at_ l (i - 1) + at_ l (i + 1)) (by omega) (by omega), w64 (by omega) (by omega), floor_eq _ _ (by omega) (by omega)]; rfl
end Go.Proofs.Ytkpehgakdooodaa.E04
