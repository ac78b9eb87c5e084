/- The law ExtendMirrors over plain numbers: Mirror and its reference agree for every index and range, and the chapter's examples hold. No condition. -/
import Derived.Test.YtkpmedlliobljaaE03
import Derived.Test.YtkpmedlliobljaaPAx4
namespace Go.Proofs.Ytkpmedlliobljaa.Pure
open Go.RowKit Go.Proofs.Ytkpmedlliobljaa.PA Go.Proofs.YtkpmedlliobljaaW.PrintWords Go.Proofs.YtkpmedlliobljaaW.PrintLast Go.Proofs.Ytkpmedlliobljaa.Ar Go.Proofs.Ytkpmedlliobljaa.E03
theorem ExtendMirrors : waveletlaw03_ExtendMirrors.Pure := by
  intro i lo hi _ _ _
  refine ⟨29 + 1, ?_⟩
  unfold waveletlaw03_ExtendMirrors.f
  rw [Mirror_eq, refMirror_eq, example_holds _ (by omega)]
  simp
end Go.Proofs.Ytkpmedlliobljaa.Pure
