/-
  No cell of these rows narrows 'for every input' (looked for: loops, veiled, ifaces, maps, wideKeys, modest, calm, conditions, laid).
  DERIVED. THE GIVEN ROWS OF THIS SEAT. 5 by the template 'for every input the law returns true; each argument reads behind the call as it read before'; 0 by the template 'total and deterministic' (their statements: YtnhjhjkhfdlapaaTotals.lean).
  GIVEN WITH THE SEED: the statements are not yours to turn. If you find one false, say at which input.
  Laid BY PROGRAM, IN A SANDBOX (cutbox-rows.mjs): the forced cells as the released guide's own fill.sh prints them over the translation f2f049bd7263761c… (all of the seat's roots in one cut). By AI agents, Wed Nov 11 2026. No macro, syntax, notation, axiom, sorry.
-/
import Derived.Test.YtnhjhjkhfdlapaaChecked
import GoSem.Claim
import GoSem.ClaimJoined
import GoSem.ClaimMapViews
import Derived.JoinedTies
import Derived.KernelRfl
namespace Go.Proofs.Ytnhjhjkhfdlapaa
/- THE CELL 'sum', in the pinned program and in every row, IS THE sha256 OF THE DUMP (.gsa) THAT YtnhjhjkhfdlapaaProg.lean LOADS. Nothing in Lean hashes anything: it is a label: what it is worth is what the hold of that sum in a sandbox is worth. -/
noncomputable def Try.pinned : Pinned := { name := "ytnhjhjkhfdlapaa", sum := "f2f049bd7263761c09cdba09a0ffd4bd27397d965b34b323578a8abf7b34a683", checked := Try.checked }
namespace Rows
def none {H : Type} : Left H := { results := [], args := [] }

/-- 'waveletlaw24.LayoutTiles': WHATEVER THE INPUT: true; the input reads as it did. -/
def layoutTilesSpec : ChangeSpec := { name := "layoutTiles", fn := fun _ => fun
  | [d1, d2, d3] => { results := [.lit (.bool true)], args := [d1, d2, d3] }
  | _ => none }
def layoutTilesRow : OpenClaim := { program := "ytnhjhjkhfdlapaa", sum := "f2f049bd7263761c09cdba09a0ffd4bd27397d965b34b323578a8abf7b34a683", func := "wavelet/waveletlaw24.LayoutTiles", spec := "layoutTiles", unfollowed := true, recurses := true, apart := false }
def LayoutTilesSaid : Prop := layoutTilesRow.holds Try.pinned (OpenSpec.ofChange layoutTilesSpec)

/-- ITS FALSE NEIGHBOUR: 'it returns false'. Refute it at one input. -/
def layoutTilesWrong : ChangeSpec := { name := "layoutTiles", fn := fun _ => fun
  | [d1, d2, d3] => { results := [.lit (.bool false)], args := [d1, d2, d3] }
  | _ => none }
def LayoutTilesWrongFalsely : Prop := layoutTilesRow.holds Try.pinned (OpenSpec.ofChange layoutTilesWrong)

/-- 'waveletlaw24.LayoutGrids': WHATEVER THE INPUT: true; the input reads as it did. -/
def layoutGridsSpec : ChangeSpec := { name := "layoutGrids", fn := fun _ => fun
  | [d1, d2, d3] => { results := [.lit (.bool true)], args := [d1, d2, d3] }
  | _ => none }
def layoutGridsRow : OpenClaim := { program := "ytnhjhjkhfdlapaa", sum := "f2f049bd7263761c09cdba09a0ffd4bd27397d965b34b323578a8abf7b34a683", func := "wavelet/waveletlaw24.LayoutGrids", spec := "layoutGrids", unfollowed := true, recurses := true, apart := false }
def LayoutGridsSaid : Prop := layoutGridsRow.holds Try.pinned (OpenSpec.ofChange layoutGridsSpec)

/-- ITS FALSE NEIGHBOUR: 'it returns false'. Refute it at one input. -/
def layoutGridsWrong : ChangeSpec := { name := "layoutGrids", fn := fun _ => fun
  | [d1, d2, d3] => { results := [.lit (.bool false)], args := [d1, d2, d3] }
  | _ => none }
def LayoutGridsWrongFalsely : Prop := layoutGridsRow.holds Try.pinned (OpenSpec.ofChange layoutGridsWrong)

/-- 'waveletlaw24.LayoutBlocks': WHATEVER THE INPUT: true; the input reads as it did. -/
def layoutBlocksSpec : ChangeSpec := { name := "layoutBlocks", fn := fun _ => fun
  | [d1, d2, d3] => { results := [.lit (.bool true)], args := [d1, d2, d3] }
  | _ => none }
def layoutBlocksRow : OpenClaim := { program := "ytnhjhjkhfdlapaa", sum := "f2f049bd7263761c09cdba09a0ffd4bd27397d965b34b323578a8abf7b34a683", func := "wavelet/waveletlaw24.LayoutBlocks", spec := "layoutBlocks", unfollowed := true, recurses := true, apart := false }
def LayoutBlocksSaid : Prop := layoutBlocksRow.holds Try.pinned (OpenSpec.ofChange layoutBlocksSpec)

/-- ITS FALSE NEIGHBOUR: 'it returns false'. Refute it at one input. -/
def layoutBlocksWrong : ChangeSpec := { name := "layoutBlocks", fn := fun _ => fun
  | [d1, d2, d3] => { results := [.lit (.bool false)], args := [d1, d2, d3] }
  | _ => none }
def LayoutBlocksWrongFalsely : Prop := layoutBlocksRow.holds Try.pinned (OpenSpec.ofChange layoutBlocksWrong)

/-- 'waveletlaw24.LayoutCounts': WHATEVER THE INPUT: true; the input reads as it did. -/
def layoutCountsSpec : ChangeSpec := { name := "layoutCounts", fn := fun _ => fun
  | [d1, d2, d3] => { results := [.lit (.bool true)], args := [d1, d2, d3] }
  | _ => none }
def layoutCountsRow : OpenClaim := { program := "ytnhjhjkhfdlapaa", sum := "f2f049bd7263761c09cdba09a0ffd4bd27397d965b34b323578a8abf7b34a683", func := "wavelet/waveletlaw24.LayoutCounts", spec := "layoutCounts", unfollowed := true, recurses := true, apart := false }
def LayoutCountsSaid : Prop := layoutCountsRow.holds Try.pinned (OpenSpec.ofChange layoutCountsSpec)

/-- ITS FALSE NEIGHBOUR: 'it returns false'. Refute it at one input. -/
def layoutCountsWrong : ChangeSpec := { name := "layoutCounts", fn := fun _ => fun
  | [d1, d2, d3] => { results := [.lit (.bool false)], args := [d1, d2, d3] }
  | _ => none }
def LayoutCountsWrongFalsely : Prop := layoutCountsRow.holds Try.pinned (OpenSpec.ofChange layoutCountsWrong)

/-- 'waveletlaw24.LayoutPartitions': WHATEVER THE INPUT: true; the input reads as it did. -/
def layoutPartitionsSpec : ChangeSpec := { name := "layoutPartitions", fn := fun _ => fun
  | [d1, d2, d3] => { results := [.lit (.bool true)], args := [d1, d2, d3] }
  | _ => none }
def layoutPartitionsRow : OpenClaim := { program := "ytnhjhjkhfdlapaa", sum := "f2f049bd7263761c09cdba09a0ffd4bd27397d965b34b323578a8abf7b34a683", func := "wavelet/waveletlaw24.LayoutPartitions", spec := "layoutPartitions", unfollowed := true, recurses := true, apart := false }
def LayoutPartitionsSaid : Prop := layoutPartitionsRow.holds Try.pinned (OpenSpec.ofChange layoutPartitionsSpec)

/-- ITS FALSE NEIGHBOUR: 'it returns false'. Refute it at one input. -/
def layoutPartitionsWrong : ChangeSpec := { name := "layoutPartitions", fn := fun _ => fun
  | [d1, d2, d3] => { results := [.lit (.bool false)], args := [d1, d2, d3] }
  | _ => none }
def LayoutPartitionsWrongFalsely : Prop := layoutPartitionsRow.holds Try.pinned (OpenSpec.ofChange layoutPartitionsWrong)

/- THE SECOND FORM. 'bulk': how many values and letters a reading holds, each counted each time it is reached (what is shared counts as often as it is met; a slice's spare places count too). A statement '..UptoSaid' is the law's where the arguments, and the package variables that the reading takes, are together of bulk at most 1048576: NARROWER than '..Said'. Prove '..Said' where nothing that the law and all that it calls make is longer than what came in: it says more and counts as full. Else prove '..UptoSaid'. A law counts once. -/
mutual
def uptoBulk {H : Type} : DataW H → Nat
  | .lit (.string bytes) => bytes.length + 1
  | .lit _ => 1
  | .nil => 1
  | .ptr d => uptoBulk d + 1
  | .slice elems spare => uptoBulkAll elems + uptoBulkAll spare + 1
  | .agg parts => uptoBulkAll parts + 1
  | .iface _ d => uptoBulk d + 1
  | .map entries => uptoBulkEntries entries + 1
  | .held _ => 1
def uptoBulkAll {H : Type} : List (DataW H) → Nat
  | [] => 0
  | d :: r => uptoBulk d + uptoBulkAll r
def uptoBulkEntries {H : Type} : List (Lit × DataW H) → Nat
  | [] => 0
  | x :: r => uptoBulkEntry x + uptoBulkEntries r
def uptoBulkEntry {H : Type} : Lit × DataW H → Nat
  | (.string bytes, d) => bytes.length + uptoBulk d + 1
  | (_, d) => uptoBulk d + 1
 end
def uptoSmall : (H : Type) → List (DataW H) → Bool := fun _ ds => decide (uptoBulkAll ds ≤ 1048576)
def OpenSpec.upto (s : _root_.Go.ChangeSpec) : _root_.Go.OpenSpec := { _root_.Go.OpenSpec.ofChange s with cond := some uptoSmall }

/-- 'waveletlaw24.LayoutTiles', WHERE WHAT IT READS IS OF BULK AT MOST 1048576: true; the input reads as it did. -/
def layoutTilesUptoRow : OpenClaim := { program := "ytnhjhjkhfdlapaa", sum := "f2f049bd7263761c09cdba09a0ffd4bd27397d965b34b323578a8abf7b34a683", func := "wavelet/waveletlaw24.LayoutTiles", spec := "layoutTiles", unfollowed := true, recurses := true, apart := false, narrowed := true }
def LayoutTilesUptoSaid : Prop := layoutTilesUptoRow.holds Try.pinned (OpenSpec.upto layoutTilesSpec)

/-- 'waveletlaw24.LayoutGrids', WHERE WHAT IT READS IS OF BULK AT MOST 1048576: true; the input reads as it did. -/
def layoutGridsUptoRow : OpenClaim := { program := "ytnhjhjkhfdlapaa", sum := "f2f049bd7263761c09cdba09a0ffd4bd27397d965b34b323578a8abf7b34a683", func := "wavelet/waveletlaw24.LayoutGrids", spec := "layoutGrids", unfollowed := true, recurses := true, apart := false, narrowed := true }
def LayoutGridsUptoSaid : Prop := layoutGridsUptoRow.holds Try.pinned (OpenSpec.upto layoutGridsSpec)

/-- 'waveletlaw24.LayoutBlocks', WHERE WHAT IT READS IS OF BULK AT MOST 1048576: true; the input reads as it did. -/
def layoutBlocksUptoRow : OpenClaim := { program := "ytnhjhjkhfdlapaa", sum := "f2f049bd7263761c09cdba09a0ffd4bd27397d965b34b323578a8abf7b34a683", func := "wavelet/waveletlaw24.LayoutBlocks", spec := "layoutBlocks", unfollowed := true, recurses := true, apart := false, narrowed := true }
def LayoutBlocksUptoSaid : Prop := layoutBlocksUptoRow.holds Try.pinned (OpenSpec.upto layoutBlocksSpec)

/-- 'waveletlaw24.LayoutCounts', WHERE WHAT IT READS IS OF BULK AT MOST 1048576: true; the input reads as it did. -/
def layoutCountsUptoRow : OpenClaim := { program := "ytnhjhjkhfdlapaa", sum := "f2f049bd7263761c09cdba09a0ffd4bd27397d965b34b323578a8abf7b34a683", func := "wavelet/waveletlaw24.LayoutCounts", spec := "layoutCounts", unfollowed := true, recurses := true, apart := false, narrowed := true }
def LayoutCountsUptoSaid : Prop := layoutCountsUptoRow.holds Try.pinned (OpenSpec.upto layoutCountsSpec)

/-- 'waveletlaw24.LayoutPartitions', WHERE WHAT IT READS IS OF BULK AT MOST 1048576: true; the input reads as it did. -/
def layoutPartitionsUptoRow : OpenClaim := { program := "ytnhjhjkhfdlapaa", sum := "f2f049bd7263761c09cdba09a0ffd4bd27397d965b34b323578a8abf7b34a683", func := "wavelet/waveletlaw24.LayoutPartitions", spec := "layoutPartitions", unfollowed := true, recurses := true, apart := false, narrowed := true }
def LayoutPartitionsUptoSaid : Prop := layoutPartitionsUptoRow.holds Try.pinned (OpenSpec.upto layoutPartitionsSpec)

end Rows
end Go.Proofs.Ytnhjhjkhfdlapaa
