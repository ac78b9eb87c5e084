/-
  No cell of these rows narrows 'for every input' (looked for: loops, veiled, ifaces, maps, wideKeys, modest, calm, conditions, laid).
  DERIVED. THE GIVEN ROWS OF THIS SEAT. 5 by the template 'for every input the law returns true; each argument reads behind the call as it read before'; 0 by the template 'total and deterministic' (their statements: YtlldikkbbpjigaaTotals.lean).
  GIVEN WITH THE SEED: the statements are not yours to turn. If you find one false, say at which input.
  Laid BY PROGRAM, IN A SANDBOX (cutbox-rows.mjs): the forced cells as the released guide's own fill.sh prints them over the translation 0b5753ca47e3958c… (all of the seat's roots in one cut). By AI agents, Wed Nov 11 2026. No macro, syntax, notation, axiom, sorry.
-/
import Derived.Test.YtlldikkbbpjigaaChecked
import GoSem.Claim
import GoSem.ClaimJoined
import GoSem.ClaimMapViews
import Derived.JoinedTies
import Derived.KernelRfl
namespace Go.Proofs.Ytlldikkbbpjigaa
/- THE CELL 'sum', in the pinned program and in every row, IS THE sha256 OF THE DUMP (.gsa) THAT YtlldikkbbpjigaaProg.lean LOADS. Nothing in Lean hashes anything: it is a label: what it is worth is what the hold of that sum in a sandbox is worth. -/
noncomputable def Try.pinned : Pinned := { name := "ytlldikkbbpjigaa", sum := "0b5753ca47e3958c61577572389a208eaf18310dee71d7f6ceb0dc1a00db3e73", checked := Try.checked }
namespace Rows
def none {H : Type} : Left H := { results := [], args := [] }

/-- 'waveletlaw22.PartitionPrecincts': WHATEVER THE INPUT: true; the input reads as it did. -/
def partitionPrecinctsSpec : ChangeSpec := { name := "partitionPrecincts", fn := fun _ => fun
  | [d1, d2, d3, d4] => { results := [.lit (.bool true)], args := [d1, d2, d3, d4] }
  | _ => none }
def partitionPrecinctsRow : OpenClaim := { program := "ytlldikkbbpjigaa", sum := "0b5753ca47e3958c61577572389a208eaf18310dee71d7f6ceb0dc1a00db3e73", func := "wavelet/waveletlaw22.PartitionPrecincts", spec := "partitionPrecincts", apart := false }
def PartitionPrecinctsSaid : Prop := partitionPrecinctsRow.holds Try.pinned (OpenSpec.ofChange partitionPrecinctsSpec)

/-- ITS FALSE NEIGHBOUR: 'it returns false'. Refute it at one input. -/
def partitionPrecinctsWrong : ChangeSpec := { name := "partitionPrecincts", fn := fun _ => fun
  | [d1, d2, d3, d4] => { results := [.lit (.bool false)], args := [d1, d2, d3, d4] }
  | _ => none }
def PartitionPrecinctsWrongFalsely : Prop := partitionPrecinctsRow.holds Try.pinned (OpenSpec.ofChange partitionPrecinctsWrong)

/-- 'waveletlaw22.PartitionBands': WHATEVER THE INPUT: true; the input reads as it did. -/
def partitionBandsSpec : ChangeSpec := { name := "partitionBands", fn := fun _ => fun
  | [d] => { results := [.lit (.bool true)], args := [d] }
  | _ => none }
def partitionBandsRow : OpenClaim := { program := "ytlldikkbbpjigaa", sum := "0b5753ca47e3958c61577572389a208eaf18310dee71d7f6ceb0dc1a00db3e73", func := "wavelet/waveletlaw22.PartitionBands", spec := "partitionBands", apart := false }
def PartitionBandsSaid : Prop := partitionBandsRow.holds Try.pinned (OpenSpec.ofChange partitionBandsSpec)

/-- ITS FALSE NEIGHBOUR: 'it returns false'. Refute it at one input. -/
def partitionBandsWrong : ChangeSpec := { name := "partitionBands", fn := fun _ => fun
  | [d] => { results := [.lit (.bool false)], args := [d] }
  | _ => none }
def PartitionBandsWrongFalsely : Prop := partitionBandsRow.holds Try.pinned (OpenSpec.ofChange partitionBandsWrong)

/-- 'waveletlaw22.PartitionBlocks': WHATEVER THE INPUT: true; the input reads as it did. -/
def partitionBlocksSpec : ChangeSpec := { name := "partitionBlocks", fn := fun _ => fun
  | [d1, d2, d3] => { results := [.lit (.bool true)], args := [d1, d2, d3] }
  | _ => none }
def partitionBlocksRow : OpenClaim := { program := "ytlldikkbbpjigaa", sum := "0b5753ca47e3958c61577572389a208eaf18310dee71d7f6ceb0dc1a00db3e73", func := "wavelet/waveletlaw22.PartitionBlocks", spec := "partitionBlocks", apart := false }
def PartitionBlocksSaid : Prop := partitionBlocksRow.holds Try.pinned (OpenSpec.ofChange partitionBlocksSpec)

/-- ITS FALSE NEIGHBOUR: 'it returns false'. Refute it at one input. -/
def partitionBlocksWrong : ChangeSpec := { name := "partitionBlocks", fn := fun _ => fun
  | [d1, d2, d3] => { results := [.lit (.bool false)], args := [d1, d2, d3] }
  | _ => none }
def PartitionBlocksWrongFalsely : Prop := partitionBlocksRow.holds Try.pinned (OpenSpec.ofChange partitionBlocksWrong)

/-- 'waveletlaw22.PartitionCovers': WHATEVER THE INPUT: true; the input reads as it did. -/
def partitionCoversSpec : ChangeSpec := { name := "partitionCovers", fn := fun _ => fun
  | [d1, d2, d3] => { results := [.lit (.bool true)], args := [d1, d2, d3] }
  | _ => none }
def partitionCoversRow : OpenClaim := { program := "ytlldikkbbpjigaa", sum := "0b5753ca47e3958c61577572389a208eaf18310dee71d7f6ceb0dc1a00db3e73", func := "wavelet/waveletlaw22.PartitionCovers", spec := "partitionCovers", apart := false }
def PartitionCoversSaid : Prop := partitionCoversRow.holds Try.pinned (OpenSpec.ofChange partitionCoversSpec)

/-- ITS FALSE NEIGHBOUR: 'it returns false'. Refute it at one input. -/
def partitionCoversWrong : ChangeSpec := { name := "partitionCovers", fn := fun _ => fun
  | [d1, d2, d3] => { results := [.lit (.bool false)], args := [d1, d2, d3] }
  | _ => none }
def PartitionCoversWrongFalsely : Prop := partitionCoversRow.holds Try.pinned (OpenSpec.ofChange partitionCoversWrong)

/-- 'waveletlaw22.PartitionBandCovers': WHATEVER THE INPUT: true; the input reads as it did. -/
def partitionBandCoversSpec : ChangeSpec := { name := "partitionBandCovers", fn := fun _ => fun
  | [d1, d2, d3, d4] => { results := [.lit (.bool true)], args := [d1, d2, d3, d4] }
  | _ => none }
def partitionBandCoversRow : OpenClaim := { program := "ytlldikkbbpjigaa", sum := "0b5753ca47e3958c61577572389a208eaf18310dee71d7f6ceb0dc1a00db3e73", func := "wavelet/waveletlaw22.PartitionBandCovers", spec := "partitionBandCovers", apart := false }
def PartitionBandCoversSaid : Prop := partitionBandCoversRow.holds Try.pinned (OpenSpec.ofChange partitionBandCoversSpec)

/-- ITS FALSE NEIGHBOUR: 'it returns false'. Refute it at one input. -/
def partitionBandCoversWrong : ChangeSpec := { name := "partitionBandCovers", fn := fun _ => fun
  | [d1, d2, d3, d4] => { results := [.lit (.bool false)], args := [d1, d2, d3, d4] }
  | _ => none }
def PartitionBandCoversWrongFalsely : Prop := partitionBandCoversRow.holds Try.pinned (OpenSpec.ofChange partitionBandCoversWrong)

/- THE SECOND FORM. 'bulk': how many values and letters a reading holds, each counted each time it is reached (what is shared counts as often as it is met; a slice's spare places count too). A statement '..UptoSaid' is the law's where the arguments, and the package variables that the reading takes, are together of bulk at most 1048576: NARROWER than '..Said'. Prove '..Said' where nothing that the law and all that it calls make is longer than what came in: it says more and counts as full. Else prove '..UptoSaid'. A law counts once. -/
mutual
def uptoBulk {H : Type} : DataW H → Nat
  | .lit (.string bytes) => bytes.length + 1
  | .lit _ => 1
  | .nil => 1
  | .ptr d => uptoBulk d + 1
  | .slice elems spare => uptoBulkAll elems + uptoBulkAll spare + 1
  | .agg parts => uptoBulkAll parts + 1
  | .iface _ d => uptoBulk d + 1
  | .map entries => uptoBulkEntries entries + 1
  | .held _ => 1
def uptoBulkAll {H : Type} : List (DataW H) → Nat
  | [] => 0
  | d :: r => uptoBulk d + uptoBulkAll r
def uptoBulkEntries {H : Type} : List (Lit × DataW H) → Nat
  | [] => 0
  | x :: r => uptoBulkEntry x + uptoBulkEntries r
def uptoBulkEntry {H : Type} : Lit × DataW H → Nat
  | (.string bytes, d) => bytes.length + uptoBulk d + 1
  | (_, d) => uptoBulk d + 1
 end
def uptoSmall : (H : Type) → List (DataW H) → Bool := fun _ ds => decide (uptoBulkAll ds ≤ 1048576)
def OpenSpec.upto (s : _root_.Go.ChangeSpec) : _root_.Go.OpenSpec := { _root_.Go.OpenSpec.ofChange s with cond := some uptoSmall }

/-- 'waveletlaw22.PartitionPrecincts', WHERE WHAT IT READS IS OF BULK AT MOST 1048576: true; the input reads as it did. -/
def partitionPrecinctsUptoRow : OpenClaim := { program := "ytlldikkbbpjigaa", sum := "0b5753ca47e3958c61577572389a208eaf18310dee71d7f6ceb0dc1a00db3e73", func := "wavelet/waveletlaw22.PartitionPrecincts", spec := "partitionPrecincts", apart := false, narrowed := true }
def PartitionPrecinctsUptoSaid : Prop := partitionPrecinctsUptoRow.holds Try.pinned (OpenSpec.upto partitionPrecinctsSpec)

/-- 'waveletlaw22.PartitionBands', WHERE WHAT IT READS IS OF BULK AT MOST 1048576: true; the input reads as it did. -/
def partitionBandsUptoRow : OpenClaim := { program := "ytlldikkbbpjigaa", sum := "0b5753ca47e3958c61577572389a208eaf18310dee71d7f6ceb0dc1a00db3e73", func := "wavelet/waveletlaw22.PartitionBands", spec := "partitionBands", apart := false, narrowed := true }
def PartitionBandsUptoSaid : Prop := partitionBandsUptoRow.holds Try.pinned (OpenSpec.upto partitionBandsSpec)

/-- 'waveletlaw22.PartitionBlocks', WHERE WHAT IT READS IS OF BULK AT MOST 1048576: true; the input reads as it did. -/
def partitionBlocksUptoRow : OpenClaim := { program := "ytlldikkbbpjigaa", sum := "0b5753ca47e3958c61577572389a208eaf18310dee71d7f6ceb0dc1a00db3e73", func := "wavelet/waveletlaw22.PartitionBlocks", spec := "partitionBlocks", apart := false, narrowed := true }
def PartitionBlocksUptoSaid : Prop := partitionBlocksUptoRow.holds Try.pinned (OpenSpec.upto partitionBlocksSpec)

/-- 'waveletlaw22.PartitionCovers', WHERE WHAT IT READS IS OF BULK AT MOST 1048576: true; the input reads as it did. -/
def partitionCoversUptoRow : OpenClaim := { program := "ytlldikkbbpjigaa", sum := "0b5753ca47e3958c61577572389a208eaf18310dee71d7f6ceb0dc1a00db3e73", func := "wavelet/waveletlaw22.PartitionCovers", spec := "partitionCovers", apart := false, narrowed := true }
def PartitionCoversUptoSaid : Prop := partitionCoversUptoRow.holds Try.pinned (OpenSpec.upto partitionCoversSpec)

/-- 'waveletlaw22.PartitionBandCovers', WHERE WHAT IT READS IS OF BULK AT MOST 1048576: true; the input reads as it did. -/
def partitionBandCoversUptoRow : OpenClaim := { program := "ytlldikkbbpjigaa", sum := "0b5753ca47e3958c61577572389a208eaf18310dee71d7f6ceb0dc1a00db3e73", func := "wavelet/waveletlaw22.PartitionBandCovers", spec := "partitionBandCovers", apart := false, narrowed := true }
def PartitionBandCoversUptoSaid : Prop := partitionBandCoversUptoRow.holds Try.pinned (OpenSpec.upto partitionBandCoversSpec)

end Rows
end Go.Proofs.Ytlldikkbbpjigaa
