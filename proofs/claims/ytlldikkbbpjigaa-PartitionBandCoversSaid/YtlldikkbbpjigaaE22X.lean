/- The examples of chapter 22 hold. -/
import Derived.Test.YtlldikkbbpjigaaPAx17
namespace Go.Proofs.Ytlldikkbbpjigaa.E22
open Go.RowKit Go.Proofs.YtlldikkbbpjigaaW.PrintWords Go.Proofs.Ytlldikkbbpjigaa.PA
theorem example_holds (k : Nat) (hk : 60 ≤ k) : waveletlaw22_exampleHolds.f k = some true :=
  at_rounds (g := fun k => waveletlaw22_exampleHolds.f k) (fun k => waveletlaw22_exampleHolds.mono k) hk (by kernel_rfl : waveletlaw22_exampleHolds.f 60 = some true)
end Go.Proofs.Ytlldikkbbpjigaa.E22
