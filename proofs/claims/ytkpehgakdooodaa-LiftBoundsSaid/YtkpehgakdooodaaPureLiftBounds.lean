/- The law LiftBounds over plain numbers: the margin and both bounds are the reference's. -/
import Derived.Test.YtkpehgakdooodaaE04X
import Derived.Test.YtkpehgakdooodaaE04R
import Derived.Test.YtkpehgakdooodaaPAx9
import Derived.Test.YtkpehgakdooodaaPAx18
import Derived.Test.YtkpehgakdooodaaPAx27
namespace Go.Proofs.Ytkpehgakdooodaa.Pure
open Go.RowKit Go.Proofs.Ytkpehgakdooodaa.PA Go.Proofs.YtkpehgakdooodaaW.PrintWords Go.Proofs.YtkpehgakdooodaaW.PrintMore Go.Proofs.YtkpehgakdooodaaW.PrintLast Go.Proofs.Ytkpehgakdooodaa.Ar Go.Proofs.Ytkpehgakdooodaa.E03 Go.Proofs.Ytkpehgakdooodaa.E04
theorem Margin_same (k : Nat) (kk : Int) : ∃ m, lift_Margin.f (k + 1) kk = some m ∧ waveletref04_Margin.f (k + 1) kk = some m := by
  unfold lift_Margin.f waveletref04_Margin.f
  simp only [lift_Margin.j0, waveletref04_Margin.j0]
  split
  · split
    · exact ⟨_, rfl, rfl⟩
    · split <;> exact ⟨_, rfl, rfl⟩
  · split
    · exact ⟨_, rfl, rfl⟩
    · split <;> exact ⟨_, rfl, rfl⟩
def hb (b kk : Int) : Int := if 0 ≤ b ∧ b ≤ 281474976710656 ∧ 1 ≤ kk ∧ kk ≤ 3 then (if kk = 3 then b + (20 * b + 8) / 16 else 2 * b) else 0
theorem High_eq (k : Nat) (b kk : Int) : lift_HighBound.f (k + 1) b kk = some (hb b kk) := by
  have hz : lift_HighBound.j0 (k + 1) b kk true = some 0 := by rw [lift_HighBound.j0, if_pos rfl]
  unfold lift_HighBound.f hb
  rw [known_eq]
  simp only [Option.bind_some]
  by_cases h1 : b < 0
  · rw [if_pos h1, if_neg (by omega), hz]
  · rw [if_neg h1]
    by_cases h2 : b > 281474976710656
    · rw [if_pos h2, if_neg (by omega), hz]
    · rw [if_neg h2]
      by_cases h3 : 1 ≤ kk ∧ kk ≤ 3
      · rw [decide_eq_true h3, if_pos (⟨by omega, by omega, h3⟩ : 0 ≤ b ∧ b ≤ 281474976710656 ∧ 1 ≤ kk ∧ kk ≤ 3), lift_HighBound.j0, if_neg (by decide)]
        split
        · rw [w64 (n := 20 * b) (by omega) (by omega), w64 (n := 20 * b + 8) (by omega) (by omega), tdivn (by omega), w64 (n := (20 * b + 8) / 16) (by omega) (by omega), w64 (by omega) (by omega)]
        · rw [w64 (by omega) (by omega)]
      · rw [decide_eq_false h3, if_neg (fun h => h3 h.2.2)]; exact hz
theorem refHigh_eq (k : Nat) (b kk : Int) : waveletref04_HighBound.f (k + 1) b kk = some (hb b kk) := by
  rw [← High_eq k b kk]
  unfold lift_HighBound.f waveletref04_HighBound.f
  rw [known_eq, valid_eq]
  simp only [lift_HighBound.j0, waveletref04_HighBound.j0]
theorem Low_same (k : Nat) (b kk : Int) : ∃ m, lift_LowBound.f (k + 2) b kk = some m ∧ waveletref04_LowBound.f (k + 2) b kk = some m := by
  have hz : waveletref04_LowBound.j0 (k + 2) b kk true = some 0 := by rw [waveletref04_LowBound.j0, if_pos rfl]
  unfold lift_LowBound.f waveletref04_LowBound.f
  rw [known_eq, valid_eq]
  simp only [Option.bind_some, decide_eq_true_eq]
  by_cases h1 : b < 0
  · rw [if_pos h1, if_pos h1]; exact ⟨_, rfl, hz⟩
  · rw [if_neg h1, if_neg h1]
    by_cases h2 : b > 281474976710656
    · rw [if_pos h2, if_pos h2]; exact ⟨_, rfl, hz⟩
    · rw [if_neg h2, if_neg h2]
      by_cases h3 : 1 ≤ kk ∧ kk ≤ 3
      · rw [if_pos h3, decide_eq_true h3, High_eq, Bool.not_true, waveletref04_LowBound.j0, if_neg (by decide), refHigh_eq]
        refine ⟨_, rfl, ?_⟩
        split
        · next h =>
          simp only [hb]
          rw [if_pos (⟨by omega, by omega, h3⟩ : 0 ≤ b ∧ b ≤ 281474976710656 ∧ 1 ≤ kk ∧ kk ≤ 3), if_neg (by omega)]
          rw [w64 (n := 2 * (2 * b)) (by omega) (by omega), w64 (n := 2 * (2 * b) + 2) (by omega) (by omega), tdivn (by omega), w64 (n := (2 * (2 * b) + 2) / 4) (by omega) (by omega), w64 (n := 2 * b) (by omega) (by omega), w64 (by omega) (by omega)]
          congr 1; omega
        · rfl
      · rw [if_neg h3, decide_eq_false h3]; exact ⟨_, rfl, hz⟩
theorem LiftBounds : waveletlaw04_LiftBounds.Pure := by
  intro b kk _ _
  refine ⟨100 + 2, ?_⟩
  unfold waveletlaw04_LiftBounds.f
  obtain ⟨m, e1, e2⟩ := Margin_same 101 kk
  obtain ⟨n, e3, e4⟩ := Low_same 100 b kk
  rw [e1, e2, High_eq, refHigh_eq, e3, e4, example_holds _ (by omega)]
  simp
end Go.Proofs.Ytkpehgakdooodaa.Pure
