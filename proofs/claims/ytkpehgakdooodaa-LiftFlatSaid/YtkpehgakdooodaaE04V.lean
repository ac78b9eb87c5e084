/- What the law's own helper 'valid' tells, and the program's two bounds. -/
import Derived.Test.YtkpehgakdooodaaE04L
import Derived.Test.YtkpehgakdooodaaE04X
import Derived.Test.YtkpehgakdooodaaE04R
import Derived.Test.YtkpehgakdooodaaPAx9
import Derived.Test.YtkpehgakdooodaaPAx19
set_option linter.unusedVariables false
namespace Go.Proofs.Ytkpehgakdooodaa.E04
open Go.RowKit Go.Proofs.YtkpehgakdooodaaW.PrintWords Go.Proofs.YtkpehgakdooodaaW.PrintMore Go.Proofs.Ytkpehgakdooodaa.PA Go.Proofs.Ytkpehgakdooodaa.Ar Go.Proofs.Ytkpehgakdooodaa.E03
def vok (l : List Int) (s kk : Int) : Prop := l.length ≤ 200 ∧ (0 ≤ s ∧ s ≤ 4096) ∧ (1 ≤ kk ∧ kk ≤ 3) ∧ fit 281474976710656 l
instance (l : List Int) (s kk : Int) : Decidable (vok l s kk) := by unfold vok; infer_instance
theorem vok_eq (k : Nat) (l : List Int) (s kk : Int) (hk : 1000 ≤ k) : waveletlaw04_valid.f k l s kk = some (decide (vok l s kk)) := by
  unfold waveletlaw04_valid.f vok
  rw [valid_eq]
  simp only [Option.bind_some, decide_eq_true_eq]
  by_cases h1 : (l.length : Int) ≤ 200
  · rw [if_pos h1]
    by_cases h2 : s ≥ 0
    · rw [if_pos h2]
      by_cases h3 : s ≤ 4096
      · rw [if_pos h3]
        by_cases h4 : 1 ≤ kk ∧ kk ≤ 3
        · rw [if_pos h4, few_eq _ _ (by omega) l (by omega) (by omega)]
          exact dec_iff ⟨fun h => ⟨by omega, ⟨h2, h3⟩, h4, h⟩, fun h => h.2.2.2⟩
        · rw [if_neg h4]; exact dec_ff (fun h => h4 h.2.2.1)
      · rw [if_neg h3]; exact dec_ff (fun h => h3 h.2.1.2)
    · rw [if_neg h2]; exact dec_ff (fun h => h2 h.2.1.1)
  · rw [if_neg h1]; exact dec_ff (fun h => h1 (by omega))
theorem High_eq (k : Nat) (b kk : Int) (hk : 1 ≤ k) : lift_HighBound.f k b kk = some (hb b kk) := by
  obtain ⟨k, rfl, _⟩ := one_more (n := 0) hk
  have hz : lift_HighBound.j0 (k + 1) b kk true = some 0 := by rw [lift_HighBound.j0, if_pos rfl]
  unfold lift_HighBound.f hb
  rw [known_eq]
  simp only [Option.bind_some]
  by_cases h1 : b < 0
  · rw [if_pos h1, if_neg (by omega), hz]
  · rw [if_neg h1]
    by_cases h2 : b > 281474976710656
    · rw [if_pos h2, if_neg (by omega), hz]
    · rw [if_neg h2]
      by_cases h3 : 1 ≤ kk ∧ kk ≤ 3
      · rw [decide_eq_true h3, if_pos (⟨by omega, by omega, h3⟩ : 0 ≤ b ∧ b ≤ 281474976710656 ∧ 1 ≤ kk ∧ kk ≤ 3), lift_HighBound.j0, if_neg (by decide)]
        split
        · rw [w64 (n := 20 * b) (by omega) (by omega), w64 (n := 20 * b + 8) (by omega) (by omega), tdivn (by omega), w64 (n := (20 * b + 8) / 16) (by omega) (by omega), w64 (by omega) (by omega)]
        · rw [w64 (by omega) (by omega)]
      · rw [decide_eq_false h3, if_neg (fun h => h3 h.2.2)]; exact hz
theorem Low_eq (k : Nat) (b kk : Int) (hk : 1 ≤ k) : lift_LowBound.f k b kk = some (lb b kk) := by
  unfold lift_LowBound.f lb
  rw [known_eq]
  simp only [Option.bind_some, decide_eq_true_eq]
  by_cases h1 : b < 0
  · rw [if_pos h1, if_neg (by omega)]
  · rw [if_neg h1]
    by_cases h2 : b > 281474976710656
    · rw [if_pos h2, if_neg (by omega)]
    · rw [if_neg h2]
      by_cases h3 : 1 ≤ kk ∧ kk ≤ 3
      · have hg := hb_ge (b := b) ⟨by omega, by omega⟩ h3
        rw [if_pos h3, if_pos (⟨by omega, by omega, h3⟩ : 0 ≤ b ∧ b ≤ 281474976710656 ∧ 1 ≤ kk ∧ kk ≤ 3), High_eq _ _ _ hk]
        simp only [Option.bind_some]
        rw [w64 (n := 2 * hb b kk) (by omega) (by omega), w64 (n := 2 * hb b kk + 2) (by omega) (by omega), tdivn (by omega), w64 (n := (2 * hb b kk + 2) / 4) (by omega) (by omega), w64 (by omega) (by omega)]
      · rw [if_neg h3, if_neg (fun h => h3 h.2.2)]
end Go.Proofs.Ytkpehgakdooodaa.E04
