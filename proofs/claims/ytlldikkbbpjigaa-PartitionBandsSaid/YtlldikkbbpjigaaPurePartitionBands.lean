/- The law PartitionBands over plain numbers: the part of a subband in a precinct agrees with the reference for all arguments, and the chapter's examples hold. No condition. -/
import Derived.Test.YtlldikkbbpjigaaE22B
import Derived.Test.YtlldikkbbpjigaaE22X
import Derived.Test.YtlldikkbbpjigaaPAx14
namespace Go.Proofs.Ytlldikkbbpjigaa.Pure
open Go.RowKit Go.Proofs.Ytlldikkbbpjigaa.PA Go.Proofs.YtlldikkbbpjigaaW.PrintWords Go.Proofs.YtlldikkbbpjigaaW.PrintLast Go.Proofs.Ytlldikkbbpjigaa.Ar Go.Proofs.Ytlldikkbbpjigaa.E22
theorem PartitionBands : waveletlaw22_PartitionBands.Pure := by
  intro x0 y0 x1 y1 u0 v0 u1 v1 o a b i _
  refine ⟨58 + 2, ?_⟩
  unfold waveletlaw22_PartitionBands.f
  rw [InBand_eq, refInBand_eq, example_holds _ (by omega)]
  simp
end Go.Proofs.Ytlldikkbbpjigaa.Pure
