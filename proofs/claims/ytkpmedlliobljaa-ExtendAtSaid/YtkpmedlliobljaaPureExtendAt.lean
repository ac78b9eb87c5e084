/- The law ExtendAt over plain lists: At and its reference return the same, and the chapter's examples hold. No condition beyond the law's own. -/
import Derived.Test.YtkpmedlliobljaaE03
import Derived.Test.YtkpmedlliobljaaPAx6
namespace Go.Proofs.Ytkpmedlliobljaa.Pure
open Go.RowKit Go.Proofs.Ytkpmedlliobljaa.PA Go.Proofs.YtkpmedlliobljaaW.PrintWords Go.Proofs.YtkpmedlliobljaaW.PrintLast Go.Proofs.Ytkpmedlliobljaa.Ar Go.Proofs.Ytkpmedlliobljaa.E03
theorem ExtendAt : waveletlaw03_ExtendAt.Pure := by
  intro xs s i _ _ _ _ _
  refine ⟨39 + 1, ?_⟩
  unfold waveletlaw03_ExtendAt.f
  by_cases h : (xs.length : Int) > 5000
  · rw [if_pos h, example_holds _ (by omega)]; rfl
  · rw [if_neg h, At_same]
    obtain ⟨r, hr⟩ := At_some 39 xs s i (by omega)
    rw [hr, example_holds _ (by omega)]
    simp
end Go.Proofs.Ytkpmedlliobljaa.Pure
