/- The law PartitionPrecincts over plain numbers: the numbers of columns and rows and the precinct with a number agree with the reference for all arguments, and the chapter's examples hold. No condition. -/
import Derived.Test.YtlldikkbbpjigaaE22
import Derived.Test.YtlldikkbbpjigaaE22X
import Derived.Test.YtlldikkbbpjigaaPAx12
namespace Go.Proofs.Ytlldikkbbpjigaa.Pure
open Go.RowKit Go.Proofs.Ytlldikkbbpjigaa.PA Go.Proofs.YtlldikkbbpjigaaW.PrintWords Go.Proofs.YtlldikkbbpjigaaW.PrintLast Go.Proofs.Ytlldikkbbpjigaa.Ar Go.Proofs.Ytlldikkbbpjigaa.E22
theorem PartitionPrecincts : waveletlaw22_PartitionPrecincts.Pure := by
  intro x0 y0 x1 y1 a b i _ _ _ _
  refine ⟨59 + 1, ?_⟩
  unfold waveletlaw22_PartitionPrecincts.f
  rw [Precincts_eq, refPrecincts_eq, Precinct_eq, refPrecinct_eq, example_holds _ (by omega)]
  simp
end Go.Proofs.Ytlldikkbbpjigaa.Pure
