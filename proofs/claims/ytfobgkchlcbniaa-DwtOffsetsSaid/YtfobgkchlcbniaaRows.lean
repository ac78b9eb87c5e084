/-
  No cell of these rows narrows 'for every input' (looked for: loops, veiled, ifaces, maps, wideKeys, modest, calm, conditions, laid).
  DERIVED. THE GIVEN ROWS OF THIS SEAT. 7 by the template 'for every input the law returns true; each argument reads behind the call as it read before'; 0 by the template 'total and deterministic' (their statements: YtfobgkchlcbniaaTotals.lean).
  GIVEN WITH THE SEED: the statements are not yours to turn. If you find one false, say at which input.
  Laid BY PROGRAM, IN A SANDBOX (cutbox-rows.mjs): the forced cells as the released guide's own fill.sh prints them over the translation fa1ddeb7a7df5121… (all of the seat's roots in one cut). By AI agents, Wed Nov 11 2026. No macro, syntax, notation, axiom, sorry.
-/
import Derived.Test.YtfobgkchlcbniaaChecked
import GoSem.Claim
import GoSem.ClaimJoined
import GoSem.ClaimMapViews
import Derived.JoinedTies
import Derived.KernelRfl
namespace Go.Proofs.Ytfobgkchlcbniaa
/- THE CELL 'sum', in the pinned program and in every row, IS THE sha256 OF THE DUMP (.gsa) THAT YtfobgkchlcbniaaProg.lean LOADS. Nothing in Lean hashes anything: it is a label: what it is worth is what the hold of that sum in a sandbox is worth. -/
noncomputable def Try.pinned : Pinned := { name := "ytfobgkchlcbniaa", sum := "fa1ddeb7a7df5121a93792b537eaa23cf9e5c6499aa2f8755633b1f423304eb3", checked := Try.checked }
namespace Rows
def none {H : Type} : Left H := { results := [], args := [] }

/-- 'waveletlaw05.DwtBands': WHATEVER THE INPUT: true; the input reads as it did. -/
def dwtBandsSpec : ChangeSpec := { name := "dwtBands", fn := fun _ => fun
  | [d] => { results := [.lit (.bool true)], args := [d] }
  | _ => none }
def dwtBandsRow : OpenClaim := { program := "ytfobgkchlcbniaa", sum := "fa1ddeb7a7df5121a93792b537eaa23cf9e5c6499aa2f8755633b1f423304eb3", func := "wavelet/waveletlaw05.DwtBands", spec := "dwtBands", unfollowed := true, recurses := true, apart := false }
def DwtBandsSaid : Prop := dwtBandsRow.holds Try.pinned (OpenSpec.ofChange dwtBandsSpec)

/-- ITS FALSE NEIGHBOUR: 'it returns false'. Refute it at one input. -/
def dwtBandsWrong : ChangeSpec := { name := "dwtBands", fn := fun _ => fun
  | [d] => { results := [.lit (.bool false)], args := [d] }
  | _ => none }
def DwtBandsWrongFalsely : Prop := dwtBandsRow.holds Try.pinned (OpenSpec.ofChange dwtBandsWrong)

/-- 'waveletlaw05.DwtSplits': WHATEVER THE INPUT: true; the input reads as it did. -/
def dwtSplitsSpec : ChangeSpec := { name := "dwtSplits", fn := fun _ => fun
  | [d1, d2] => { results := [.lit (.bool true)], args := [d1, d2] }
  | _ => none }
def dwtSplitsRow : OpenClaim := { program := "ytfobgkchlcbniaa", sum := "fa1ddeb7a7df5121a93792b537eaa23cf9e5c6499aa2f8755633b1f423304eb3", func := "wavelet/waveletlaw05.DwtSplits", spec := "dwtSplits", unfollowed := true, recurses := true, apart := false }
def DwtSplitsSaid : Prop := dwtSplitsRow.holds Try.pinned (OpenSpec.ofChange dwtSplitsSpec)

/-- ITS FALSE NEIGHBOUR: 'it returns false'. Refute it at one input. -/
def dwtSplitsWrong : ChangeSpec := { name := "dwtSplits", fn := fun _ => fun
  | [d1, d2] => { results := [.lit (.bool false)], args := [d1, d2] }
  | _ => none }
def DwtSplitsWrongFalsely : Prop := dwtSplitsRow.holds Try.pinned (OpenSpec.ofChange dwtSplitsWrong)

/-- 'waveletlaw05.DwtMerges': WHATEVER THE INPUT: true; the input reads as it did. -/
def dwtMergesSpec : ChangeSpec := { name := "dwtMerges", fn := fun _ => fun
  | [d1, d2, d3] => { results := [.lit (.bool true)], args := [d1, d2, d3] }
  | _ => none }
def dwtMergesRow : OpenClaim := { program := "ytfobgkchlcbniaa", sum := "fa1ddeb7a7df5121a93792b537eaa23cf9e5c6499aa2f8755633b1f423304eb3", func := "wavelet/waveletlaw05.DwtMerges", spec := "dwtMerges", unfollowed := true, recurses := true, apart := false }
def DwtMergesSaid : Prop := dwtMergesRow.holds Try.pinned (OpenSpec.ofChange dwtMergesSpec)

/-- ITS FALSE NEIGHBOUR: 'it returns false'. Refute it at one input. -/
def dwtMergesWrong : ChangeSpec := { name := "dwtMerges", fn := fun _ => fun
  | [d1, d2, d3] => { results := [.lit (.bool false)], args := [d1, d2, d3] }
  | _ => none }
def DwtMergesWrongFalsely : Prop := dwtMergesRow.holds Try.pinned (OpenSpec.ofChange dwtMergesWrong)

/-- 'waveletlaw05.DwtOffsets': WHATEVER THE INPUT: true; the input reads as it did. -/
def dwtOffsetsSpec : ChangeSpec := { name := "dwtOffsets", fn := fun _ => fun
  | [d1, d2, d3] => { results := [.lit (.bool true)], args := [d1, d2, d3] }
  | _ => none }
def dwtOffsetsRow : OpenClaim := { program := "ytfobgkchlcbniaa", sum := "fa1ddeb7a7df5121a93792b537eaa23cf9e5c6499aa2f8755633b1f423304eb3", func := "wavelet/waveletlaw05.DwtOffsets", spec := "dwtOffsets", unfollowed := true, recurses := true, apart := false }
def DwtOffsetsSaid : Prop := dwtOffsetsRow.holds Try.pinned (OpenSpec.ofChange dwtOffsetsSpec)

/-- ITS FALSE NEIGHBOUR: 'it returns false'. Refute it at one input. -/
def dwtOffsetsWrong : ChangeSpec := { name := "dwtOffsets", fn := fun _ => fun
  | [d1, d2, d3] => { results := [.lit (.bool false)], args := [d1, d2, d3] }
  | _ => none }
def DwtOffsetsWrongFalsely : Prop := dwtOffsetsRow.holds Try.pinned (OpenSpec.ofChange dwtOffsetsWrong)

/-- 'waveletlaw05.DwtInverts': WHATEVER THE INPUT: true; the input reads as it did. -/
def dwtInvertsSpec : ChangeSpec := { name := "dwtInverts", fn := fun _ => fun
  | [d1, d2] => { results := [.lit (.bool true)], args := [d1, d2] }
  | _ => none }
def dwtInvertsRow : OpenClaim := { program := "ytfobgkchlcbniaa", sum := "fa1ddeb7a7df5121a93792b537eaa23cf9e5c6499aa2f8755633b1f423304eb3", func := "wavelet/waveletlaw05.DwtInverts", spec := "dwtInverts", unfollowed := true, recurses := true, apart := false }
def DwtInvertsSaid : Prop := dwtInvertsRow.holds Try.pinned (OpenSpec.ofChange dwtInvertsSpec)

/-- ITS FALSE NEIGHBOUR: 'it returns false'. Refute it at one input. -/
def dwtInvertsWrong : ChangeSpec := { name := "dwtInverts", fn := fun _ => fun
  | [d1, d2] => { results := [.lit (.bool false)], args := [d1, d2] }
  | _ => none }
def DwtInvertsWrongFalsely : Prop := dwtInvertsRow.holds Try.pinned (OpenSpec.ofChange dwtInvertsWrong)

/-- 'waveletlaw05.DwtPartitions': WHATEVER THE INPUT: true; the input reads as it did. -/
def dwtPartitionsSpec : ChangeSpec := { name := "dwtPartitions", fn := fun _ => fun
  | [d1, d2] => { results := [.lit (.bool true)], args := [d1, d2] }
  | _ => none }
def dwtPartitionsRow : OpenClaim := { program := "ytfobgkchlcbniaa", sum := "fa1ddeb7a7df5121a93792b537eaa23cf9e5c6499aa2f8755633b1f423304eb3", func := "wavelet/waveletlaw05.DwtPartitions", spec := "dwtPartitions", unfollowed := true, recurses := true, apart := false }
def DwtPartitionsSaid : Prop := dwtPartitionsRow.holds Try.pinned (OpenSpec.ofChange dwtPartitionsSpec)

/-- ITS FALSE NEIGHBOUR: 'it returns false'. Refute it at one input. -/
def dwtPartitionsWrong : ChangeSpec := { name := "dwtPartitions", fn := fun _ => fun
  | [d1, d2] => { results := [.lit (.bool false)], args := [d1, d2] }
  | _ => none }
def DwtPartitionsWrongFalsely : Prop := dwtPartitionsRow.holds Try.pinned (OpenSpec.ofChange dwtPartitionsWrong)

/-- 'waveletlaw05.DwtBounds': WHATEVER THE INPUT: true; the input reads as it did. -/
def dwtBoundsSpec : ChangeSpec := { name := "dwtBounds", fn := fun _ => fun
  | [d1, d2] => { results := [.lit (.bool true)], args := [d1, d2] }
  | _ => none }
def dwtBoundsRow : OpenClaim := { program := "ytfobgkchlcbniaa", sum := "fa1ddeb7a7df5121a93792b537eaa23cf9e5c6499aa2f8755633b1f423304eb3", func := "wavelet/waveletlaw05.DwtBounds", spec := "dwtBounds", unfollowed := true, recurses := true, apart := false }
def DwtBoundsSaid : Prop := dwtBoundsRow.holds Try.pinned (OpenSpec.ofChange dwtBoundsSpec)

/-- ITS FALSE NEIGHBOUR: 'it returns false'. Refute it at one input. -/
def dwtBoundsWrong : ChangeSpec := { name := "dwtBounds", fn := fun _ => fun
  | [d1, d2] => { results := [.lit (.bool false)], args := [d1, d2] }
  | _ => none }
def DwtBoundsWrongFalsely : Prop := dwtBoundsRow.holds Try.pinned (OpenSpec.ofChange dwtBoundsWrong)

/- THE SECOND FORM. 'bulk': how many values and letters a reading holds, each counted each time it is reached (what is shared counts as often as it is met; a slice's spare places count too). A statement '..UptoSaid' is the law's where the arguments, and the package variables that the reading takes, are together of bulk at most 1048576: NARROWER than '..Said'. Prove '..Said' where nothing that the law and all that it calls make is longer than what came in: it says more and counts as full. Else prove '..UptoSaid'. A law counts once. -/
mutual
def uptoBulk {H : Type} : DataW H → Nat
  | .lit (.string bytes) => bytes.length + 1
  | .lit _ => 1
  | .nil => 1
  | .ptr d => uptoBulk d + 1
  | .slice elems spare => uptoBulkAll elems + uptoBulkAll spare + 1
  | .agg parts => uptoBulkAll parts + 1
  | .iface _ d => uptoBulk d + 1
  | .map entries => uptoBulkEntries entries + 1
  | .held _ => 1
def uptoBulkAll {H : Type} : List (DataW H) → Nat
  | [] => 0
  | d :: r => uptoBulk d + uptoBulkAll r
def uptoBulkEntries {H : Type} : List (Lit × DataW H) → Nat
  | [] => 0
  | x :: r => uptoBulkEntry x + uptoBulkEntries r
def uptoBulkEntry {H : Type} : Lit × DataW H → Nat
  | (.string bytes, d) => bytes.length + uptoBulk d + 1
  | (_, d) => uptoBulk d + 1
 end
def uptoSmall : (H : Type) → List (DataW H) → Bool := fun _ ds => decide (uptoBulkAll ds ≤ 1048576)
def OpenSpec.upto (s : _root_.Go.ChangeSpec) : _root_.Go.OpenSpec := { _root_.Go.OpenSpec.ofChange s with cond := some uptoSmall }

/-- 'waveletlaw05.DwtBands', WHERE WHAT IT READS IS OF BULK AT MOST 1048576: true; the input reads as it did. -/
def dwtBandsUptoRow : OpenClaim := { program := "ytfobgkchlcbniaa", sum := "fa1ddeb7a7df5121a93792b537eaa23cf9e5c6499aa2f8755633b1f423304eb3", func := "wavelet/waveletlaw05.DwtBands", spec := "dwtBands", unfollowed := true, recurses := true, apart := false, narrowed := true }
def DwtBandsUptoSaid : Prop := dwtBandsUptoRow.holds Try.pinned (OpenSpec.upto dwtBandsSpec)

/-- 'waveletlaw05.DwtSplits', WHERE WHAT IT READS IS OF BULK AT MOST 1048576: true; the input reads as it did. -/
def dwtSplitsUptoRow : OpenClaim := { program := "ytfobgkchlcbniaa", sum := "fa1ddeb7a7df5121a93792b537eaa23cf9e5c6499aa2f8755633b1f423304eb3", func := "wavelet/waveletlaw05.DwtSplits", spec := "dwtSplits", unfollowed := true, recurses := true, apart := false, narrowed := true }
def DwtSplitsUptoSaid : Prop := dwtSplitsUptoRow.holds Try.pinned (OpenSpec.upto dwtSplitsSpec)

/-- 'waveletlaw05.DwtMerges', WHERE WHAT IT READS IS OF BULK AT MOST 1048576: true; the input reads as it did. -/
def dwtMergesUptoRow : OpenClaim := { program := "ytfobgkchlcbniaa", sum := "fa1ddeb7a7df5121a93792b537eaa23cf9e5c6499aa2f8755633b1f423304eb3", func := "wavelet/waveletlaw05.DwtMerges", spec := "dwtMerges", unfollowed := true, recurses := true, apart := false, narrowed := true }
def DwtMergesUptoSaid : Prop := dwtMergesUptoRow.holds Try.pinned (OpenSpec.upto dwtMergesSpec)

/-- 'waveletlaw05.DwtOffsets', WHERE WHAT IT READS IS OF BULK AT MOST 1048576: true; the input reads as it did. -/
def dwtOffsetsUptoRow : OpenClaim := { program := "ytfobgkchlcbniaa", sum := "fa1ddeb7a7df5121a93792b537eaa23cf9e5c6499aa2f8755633b1f423304eb3", func := "wavelet/waveletlaw05.DwtOffsets", spec := "dwtOffsets", unfollowed := true, recurses := true, apart := false, narrowed := true }
def DwtOffsetsUptoSaid : Prop := dwtOffsetsUptoRow.holds Try.pinned (OpenSpec.upto dwtOffsetsSpec)

/-- 'waveletlaw05.DwtInverts', WHERE WHAT IT READS IS OF BULK AT MOST 1048576: true; the input reads as it did. -/
def dwtInvertsUptoRow : OpenClaim := { program := "ytfobgkchlcbniaa", sum := "fa1ddeb7a7df5121a93792b537eaa23cf9e5c6499aa2f8755633b1f423304eb3", func := "wavelet/waveletlaw05.DwtInverts", spec := "dwtInverts", unfollowed := true, recurses := true, apart := false, narrowed := true }
def DwtInvertsUptoSaid : Prop := dwtInvertsUptoRow.holds Try.pinned (OpenSpec.upto dwtInvertsSpec)

/-- 'waveletlaw05.DwtPartitions', WHERE WHAT IT READS IS OF BULK AT MOST 1048576: true; the input reads as it did. -/
def dwtPartitionsUptoRow : OpenClaim := { program := "ytfobgkchlcbniaa", sum := "fa1ddeb7a7df5121a93792b537eaa23cf9e5c6499aa2f8755633b1f423304eb3", func := "wavelet/waveletlaw05.DwtPartitions", spec := "dwtPartitions", unfollowed := true, recurses := true, apart := false, narrowed := true }
def DwtPartitionsUptoSaid : Prop := dwtPartitionsUptoRow.holds Try.pinned (OpenSpec.upto dwtPartitionsSpec)

/-- 'waveletlaw05.DwtBounds', WHERE WHAT IT READS IS OF BULK AT MOST 1048576: true; the input reads as it did. -/
def dwtBoundsUptoRow : OpenClaim := { program := "ytfobgkchlcbniaa", sum := "fa1ddeb7a7df5121a93792b537eaa23cf9e5c6499aa2f8755633b1f423304eb3", func := "wavelet/waveletlaw05.DwtBounds", spec := "dwtBounds", unfollowed := true, recurses := true, apart := false, narrowed := true }
def DwtBoundsUptoSaid : Prop := dwtBoundsUptoRow.holds Try.pinned (OpenSpec.upto dwtBoundsSpec)

end Rows
end Go.Proofs.Ytfobgkchlcbniaa
