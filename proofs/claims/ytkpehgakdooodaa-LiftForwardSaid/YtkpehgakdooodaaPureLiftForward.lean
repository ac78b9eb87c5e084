/- The law LiftForward over plain lists: Forward and its reference return the same subbands and the same error. -/
import Derived.Test.YtkpehgakdooodaaE04X
import Derived.Test.YtkpehgakdooodaaE04G
import Derived.Test.YtkpehgakdooodaaPAx21
namespace Go.Proofs.Ytkpehgakdooodaa.Pure
open Go.RowKit Go.Proofs.Ytkpehgakdooodaa.PA Go.Proofs.YtkpehgakdooodaaW.PrintWords Go.Proofs.YtkpehgakdooodaaW.PrintLast Go.Proofs.Ytkpehgakdooodaa.Ar Go.Proofs.Ytkpehgakdooodaa.E03 Go.Proofs.Ytkpehgakdooodaa.E04
theorem LiftForward : waveletlaw04_LiftForward.Pure := by
  intro l s kk _ _ _ _ _
  obtain ⟨k, hk⟩ : ∃ k : Nat, 40000 ≤ k := ⟨40000, Nat.le_refl _⟩
  refine ⟨k, ?_⟩
  unfold waveletlaw04_LiftForward.f
  have hl := fw_len l s kk
  by_cases h : (l.length : Int) > 5000
  · rw [if_pos h, example_holds _ (by omega)]; rfl
  · rw [if_neg h, Forward_eq _ _ _ _ (by omega), refForward_eq _ _ _ _ (by omega)]
    simp only [Option.bind_some]
    rw [SameInts_eq _ _ _ (by omega) (by omega), SameInts_eq _ _ _ (by omega) (by omega), example_holds _ (by omega)]
    simp
end Go.Proofs.Ytkpehgakdooodaa.Pure
