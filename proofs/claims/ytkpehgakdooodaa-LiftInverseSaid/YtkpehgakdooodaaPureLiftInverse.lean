/- The law LiftInverse over plain lists: Inverse and its reference return the same signal and the same error. -/
import Derived.Test.YtkpehgakdooodaaE04X
import Derived.Test.YtkpehgakdooodaaE04G
import Derived.Test.YtkpehgakdooodaaPAx22
namespace Go.Proofs.Ytkpehgakdooodaa.Pure
open Go.RowKit Go.Proofs.Ytkpehgakdooodaa.PA Go.Proofs.YtkpehgakdooodaaW.PrintWords Go.Proofs.YtkpehgakdooodaaW.PrintLast Go.Proofs.Ytkpehgakdooodaa.Ar Go.Proofs.Ytkpehgakdooodaa.E03 Go.Proofs.Ytkpehgakdooodaa.E04
theorem LiftInverse : waveletlaw04_LiftInverse.Pure := by
  intro a b s kk _
  obtain ⟨k, hk⟩ : ∃ k : Nat, 40000 ≤ k := ⟨40000, Nat.le_refl _⟩
  refine ⟨k + 1, ?_⟩
  have hx : waveletlaw04_LiftInverse.j0 (k + 1) true a b s kk = some true := by rw [waveletlaw04_LiftInverse.j0, if_pos rfl, example_holds _ (by omega)]; rfl
  unfold waveletlaw04_LiftInverse.f
  have hl := iv_len a b s kk
  by_cases h : (a.length : Int) > 5000
  · rw [if_pos h, hx]
  · rw [if_neg h]
    by_cases h1 : (b.length : Int) > 5000
    · rw [decide_eq_true h1, hx]
    · rw [decide_eq_false h1, waveletlaw04_LiftInverse.j0, if_neg (by decide), Inverse_eq _ _ _ _ _ (by omega), refInverse_eq _ _ _ _ _ (by omega)]
      simp only [Option.bind_some]
      rw [SameInts_eq _ _ _ (by omega) (by omega), example_holds _ (by omega)]
      simp
end Go.Proofs.Ytkpehgakdooodaa.Pure
