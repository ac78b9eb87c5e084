/- The law ExtendSplits over plain lists: Split and its reference return the same lists and the same error, and the chapter's examples hold. No condition beyond the law's own. -/
import Derived.Test.YtkpmedlliobljaaE03
import Derived.Test.YtkpmedlliobljaaPAx5
namespace Go.Proofs.Ytkpmedlliobljaa.Pure
open Go.RowKit Go.Proofs.Ytkpmedlliobljaa.PA Go.Proofs.YtkpmedlliobljaaW.PrintWords Go.Proofs.YtkpmedlliobljaaW.PrintLast Go.Proofs.Ytkpmedlliobljaa.Ar Go.Proofs.Ytkpmedlliobljaa.E03
theorem ExtendSplits : waveletlaw03_ExtendSplits.Pure := by
  intro xs s _ _ _ _
  refine ⟨xs.length + 5040, ?_⟩
  unfold waveletlaw03_ExtendSplits.f
  by_cases h : (xs.length : Int) > 5000
  · rw [if_pos h, example_holds _ (by omega)]; rfl
  · rw [if_neg h, Split_eq _ _ _ (by omega), refSplit_eq _ _ _ (by omega)]
    simp only [Option.bind_some]
    have hl : (spl xs s).1.length ≤ xs.length ∧ (spl xs s).2.1.length ≤ xs.length := by
      unfold spl
      split
      · have h1 := evs_length xs s; have h2 := ods_length xs s; have h3 := cev_bd (s := s) (n := xs.length) (by omega)
        constructor <;> simp only <;> omega
      · simp
    rw [SameInts_eq _ _ _ (by omega) (by omega), SameInts_eq _ _ _ (by omega) (by omega), example_holds _ (by omega)]
    simp
end Go.Proofs.Ytkpmedlliobljaa.Pure
