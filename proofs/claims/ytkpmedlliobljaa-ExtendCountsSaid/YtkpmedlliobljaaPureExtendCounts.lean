/- The law ExtendCounts over plain numbers: Counts and its reference agree for all arguments, and the chapter's examples hold. No condition. -/
import Derived.Test.YtkpmedlliobljaaE03
import Derived.Test.YtkpmedlliobljaaPAx4
namespace Go.Proofs.Ytkpmedlliobljaa.Pure
open Go.RowKit Go.Proofs.Ytkpmedlliobljaa.PA Go.Proofs.YtkpmedlliobljaaW.PrintWords Go.Proofs.YtkpmedlliobljaaW.PrintLast Go.Proofs.Ytkpmedlliobljaa.Ar Go.Proofs.Ytkpmedlliobljaa.E03
theorem ExtendCounts : waveletlaw03_ExtendCounts.Pure := by
  intro s n _ _
  refine ⟨29 + 1, ?_⟩
  unfold waveletlaw03_ExtendCounts.f
  rw [Counts_eq, refCounts_eq, example_holds _ (by omega)]
  simp
end Go.Proofs.Ytkpmedlliobljaa.Pure
