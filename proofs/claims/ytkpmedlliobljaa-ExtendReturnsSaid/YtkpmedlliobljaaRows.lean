/-
  No cell of these rows narrows 'for every input' (looked for: loops, veiled, ifaces, maps, wideKeys, modest, calm, conditions, laid).
  DERIVED. THE GIVEN ROWS OF THIS SEAT. 7 by the template 'for every input the law returns true; each argument reads behind the call as it read before'; 0 by the template 'total and deterministic' (their statements: YtkpmedlliobljaaTotals.lean).
  GIVEN WITH THE SEED: the statements are not yours to turn. If you find one false, say at which input.
  Laid BY PROGRAM, IN A SANDBOX (cutbox-rows.mjs): the forced cells as the released guide's own fill.sh prints them over the translation b499669ce3cfb482… (all of the seat's roots in one cut). By AI agents, Wed Nov 11 2026. No macro, syntax, notation, axiom, sorry.
-/
import Derived.Test.YtkpmedlliobljaaChecked
import GoSem.Claim
import GoSem.ClaimJoined
import GoSem.ClaimMapViews
import Derived.JoinedTies
import Derived.KernelRfl
namespace Go.Proofs.Ytkpmedlliobljaa
/- THE CELL 'sum', in the pinned program and in every row, IS THE sha256 OF THE DUMP (.gsa) THAT YtkpmedlliobljaaProg.lean LOADS. Nothing in Lean hashes anything: it is a label: what it is worth is what the hold of that sum in a sandbox is worth. -/
noncomputable def Try.pinned : Pinned := { name := "ytkpmedlliobljaa", sum := "b499669ce3cfb482e133f62dfc5b310e6dd15278db7f149474f13e55b59facdd", checked := Try.checked }
namespace Rows
def none {H : Type} : Left H := { results := [], args := [] }

/-- 'waveletlaw03.ExtendMirrors': WHATEVER THE INPUT: true; the input reads as it did. -/
def extendMirrorsSpec : ChangeSpec := { name := "extendMirrors", fn := fun _ => fun
  | [d1, d2, d3] => { results := [.lit (.bool true)], args := [d1, d2, d3] }
  | _ => none }
def extendMirrorsRow : OpenClaim := { program := "ytkpmedlliobljaa", sum := "b499669ce3cfb482e133f62dfc5b310e6dd15278db7f149474f13e55b59facdd", func := "wavelet/waveletlaw03.ExtendMirrors", spec := "extendMirrors", unfollowed := true, recurses := true, apart := false }
def ExtendMirrorsSaid : Prop := extendMirrorsRow.holds Try.pinned (OpenSpec.ofChange extendMirrorsSpec)

/-- ITS FALSE NEIGHBOUR: 'it returns false'. Refute it at one input. -/
def extendMirrorsWrong : ChangeSpec := { name := "extendMirrors", fn := fun _ => fun
  | [d1, d2, d3] => { results := [.lit (.bool false)], args := [d1, d2, d3] }
  | _ => none }
def ExtendMirrorsWrongFalsely : Prop := extendMirrorsRow.holds Try.pinned (OpenSpec.ofChange extendMirrorsWrong)

/-- 'waveletlaw03.ExtendCounts': WHATEVER THE INPUT: true; the input reads as it did. -/
def extendCountsSpec : ChangeSpec := { name := "extendCounts", fn := fun _ => fun
  | [d1, d2] => { results := [.lit (.bool true)], args := [d1, d2] }
  | _ => none }
def extendCountsRow : OpenClaim := { program := "ytkpmedlliobljaa", sum := "b499669ce3cfb482e133f62dfc5b310e6dd15278db7f149474f13e55b59facdd", func := "wavelet/waveletlaw03.ExtendCounts", spec := "extendCounts", unfollowed := true, recurses := true, apart := false }
def ExtendCountsSaid : Prop := extendCountsRow.holds Try.pinned (OpenSpec.ofChange extendCountsSpec)

/-- ITS FALSE NEIGHBOUR: 'it returns false'. Refute it at one input. -/
def extendCountsWrong : ChangeSpec := { name := "extendCounts", fn := fun _ => fun
  | [d1, d2] => { results := [.lit (.bool false)], args := [d1, d2] }
  | _ => none }
def ExtendCountsWrongFalsely : Prop := extendCountsRow.holds Try.pinned (OpenSpec.ofChange extendCountsWrong)

/-- 'waveletlaw03.ExtendSplits': WHATEVER THE INPUT: true; the input reads as it did. -/
def extendSplitsSpec : ChangeSpec := { name := "extendSplits", fn := fun _ => fun
  | [d1, d2] => { results := [.lit (.bool true)], args := [d1, d2] }
  | _ => none }
def extendSplitsRow : OpenClaim := { program := "ytkpmedlliobljaa", sum := "b499669ce3cfb482e133f62dfc5b310e6dd15278db7f149474f13e55b59facdd", func := "wavelet/waveletlaw03.ExtendSplits", spec := "extendSplits", unfollowed := true, recurses := true, apart := false }
def ExtendSplitsSaid : Prop := extendSplitsRow.holds Try.pinned (OpenSpec.ofChange extendSplitsSpec)

/-- ITS FALSE NEIGHBOUR: 'it returns false'. Refute it at one input. -/
def extendSplitsWrong : ChangeSpec := { name := "extendSplits", fn := fun _ => fun
  | [d1, d2] => { results := [.lit (.bool false)], args := [d1, d2] }
  | _ => none }
def ExtendSplitsWrongFalsely : Prop := extendSplitsRow.holds Try.pinned (OpenSpec.ofChange extendSplitsWrong)

/-- 'waveletlaw03.ExtendJoins': WHATEVER THE INPUT: true; the input reads as it did. -/
def extendJoinsSpec : ChangeSpec := { name := "extendJoins", fn := fun _ => fun
  | [d1, d2, d3] => { results := [.lit (.bool true)], args := [d1, d2, d3] }
  | _ => none }
def extendJoinsRow : OpenClaim := { program := "ytkpmedlliobljaa", sum := "b499669ce3cfb482e133f62dfc5b310e6dd15278db7f149474f13e55b59facdd", func := "wavelet/waveletlaw03.ExtendJoins", spec := "extendJoins", unfollowed := true, recurses := true, apart := false }
def ExtendJoinsSaid : Prop := extendJoinsRow.holds Try.pinned (OpenSpec.ofChange extendJoinsSpec)

/-- ITS FALSE NEIGHBOUR: 'it returns false'. Refute it at one input. -/
def extendJoinsWrong : ChangeSpec := { name := "extendJoins", fn := fun _ => fun
  | [d1, d2, d3] => { results := [.lit (.bool false)], args := [d1, d2, d3] }
  | _ => none }
def ExtendJoinsWrongFalsely : Prop := extendJoinsRow.holds Try.pinned (OpenSpec.ofChange extendJoinsWrong)

/-- 'waveletlaw03.ExtendAt': WHATEVER THE INPUT: true; the input reads as it did. -/
def extendAtSpec : ChangeSpec := { name := "extendAt", fn := fun _ => fun
  | [d1, d2, d3] => { results := [.lit (.bool true)], args := [d1, d2, d3] }
  | _ => none }
def extendAtRow : OpenClaim := { program := "ytkpmedlliobljaa", sum := "b499669ce3cfb482e133f62dfc5b310e6dd15278db7f149474f13e55b59facdd", func := "wavelet/waveletlaw03.ExtendAt", spec := "extendAt", unfollowed := true, recurses := true, apart := false }
def ExtendAtSaid : Prop := extendAtRow.holds Try.pinned (OpenSpec.ofChange extendAtSpec)

/-- ITS FALSE NEIGHBOUR: 'it returns false'. Refute it at one input. -/
def extendAtWrong : ChangeSpec := { name := "extendAt", fn := fun _ => fun
  | [d1, d2, d3] => { results := [.lit (.bool false)], args := [d1, d2, d3] }
  | _ => none }
def ExtendAtWrongFalsely : Prop := extendAtRow.holds Try.pinned (OpenSpec.ofChange extendAtWrong)

/-- 'waveletlaw03.ExtendReflects': WHATEVER THE INPUT: true; the input reads as it did. -/
def extendReflectsSpec : ChangeSpec := { name := "extendReflects", fn := fun _ => fun
  | [d1, d2, d3] => { results := [.lit (.bool true)], args := [d1, d2, d3] }
  | _ => none }
def extendReflectsRow : OpenClaim := { program := "ytkpmedlliobljaa", sum := "b499669ce3cfb482e133f62dfc5b310e6dd15278db7f149474f13e55b59facdd", func := "wavelet/waveletlaw03.ExtendReflects", spec := "extendReflects", unfollowed := true, recurses := true, apart := false }
def ExtendReflectsSaid : Prop := extendReflectsRow.holds Try.pinned (OpenSpec.ofChange extendReflectsSpec)

/-- ITS FALSE NEIGHBOUR: 'it returns false'. Refute it at one input. -/
def extendReflectsWrong : ChangeSpec := { name := "extendReflects", fn := fun _ => fun
  | [d1, d2, d3] => { results := [.lit (.bool false)], args := [d1, d2, d3] }
  | _ => none }
def ExtendReflectsWrongFalsely : Prop := extendReflectsRow.holds Try.pinned (OpenSpec.ofChange extendReflectsWrong)

/-- 'waveletlaw03.ExtendReturns': WHATEVER THE INPUT: true; the input reads as it did. -/
def extendReturnsSpec : ChangeSpec := { name := "extendReturns", fn := fun _ => fun
  | [d1, d2] => { results := [.lit (.bool true)], args := [d1, d2] }
  | _ => none }
def extendReturnsRow : OpenClaim := { program := "ytkpmedlliobljaa", sum := "b499669ce3cfb482e133f62dfc5b310e6dd15278db7f149474f13e55b59facdd", func := "wavelet/waveletlaw03.ExtendReturns", spec := "extendReturns", unfollowed := true, recurses := true, apart := false }
def ExtendReturnsSaid : Prop := extendReturnsRow.holds Try.pinned (OpenSpec.ofChange extendReturnsSpec)

/-- ITS FALSE NEIGHBOUR: 'it returns false'. Refute it at one input. -/
def extendReturnsWrong : ChangeSpec := { name := "extendReturns", fn := fun _ => fun
  | [d1, d2] => { results := [.lit (.bool false)], args := [d1, d2] }
  | _ => none }
def ExtendReturnsWrongFalsely : Prop := extendReturnsRow.holds Try.pinned (OpenSpec.ofChange extendReturnsWrong)

/- THE SECOND FORM. 'bulk': how many values and letters a reading holds, each counted each time it is reached (what is shared counts as often as it is met; a slice's spare places count too). A statement '..UptoSaid' is the law's where the arguments, and the package variables that the reading takes, are together of bulk at most 1048576: NARROWER than '..Said'. Prove '..Said' where nothing that the law and all that it calls make is longer than what came in: it says more and counts as full. Else prove '..UptoSaid'. A law counts once. -/
mutual
def uptoBulk {H : Type} : DataW H → Nat
  | .lit (.string bytes) => bytes.length + 1
  | .lit _ => 1
  | .nil => 1
  | .ptr d => uptoBulk d + 1
  | .slice elems spare => uptoBulkAll elems + uptoBulkAll spare + 1
  | .agg parts => uptoBulkAll parts + 1
  | .iface _ d => uptoBulk d + 1
  | .map entries => uptoBulkEntries entries + 1
  | .held _ => 1
def uptoBulkAll {H : Type} : List (DataW H) → Nat
  | [] => 0
  | d :: r => uptoBulk d + uptoBulkAll r
def uptoBulkEntries {H : Type} : List (Lit × DataW H) → Nat
  | [] => 0
  | x :: r => uptoBulkEntry x + uptoBulkEntries r
def uptoBulkEntry {H : Type} : Lit × DataW H → Nat
  | (.string bytes, d) => bytes.length + uptoBulk d + 1
  | (_, d) => uptoBulk d + 1
 end
def uptoSmall : (H : Type) → List (DataW H) → Bool := fun _ ds => decide (uptoBulkAll ds ≤ 1048576)
def OpenSpec.upto (s : _root_.Go.ChangeSpec) : _root_.Go.OpenSpec := { _root_.Go.OpenSpec.ofChange s with cond := some uptoSmall }

/-- 'waveletlaw03.ExtendMirrors', WHERE WHAT IT READS IS OF BULK AT MOST 1048576: true; the input reads as it did. -/
def extendMirrorsUptoRow : OpenClaim := { program := "ytkpmedlliobljaa", sum := "b499669ce3cfb482e133f62dfc5b310e6dd15278db7f149474f13e55b59facdd", func := "wavelet/waveletlaw03.ExtendMirrors", spec := "extendMirrors", unfollowed := true, recurses := true, apart := false, narrowed := true }
def ExtendMirrorsUptoSaid : Prop := extendMirrorsUptoRow.holds Try.pinned (OpenSpec.upto extendMirrorsSpec)

/-- 'waveletlaw03.ExtendCounts', WHERE WHAT IT READS IS OF BULK AT MOST 1048576: true; the input reads as it did. -/
def extendCountsUptoRow : OpenClaim := { program := "ytkpmedlliobljaa", sum := "b499669ce3cfb482e133f62dfc5b310e6dd15278db7f149474f13e55b59facdd", func := "wavelet/waveletlaw03.ExtendCounts", spec := "extendCounts", unfollowed := true, recurses := true, apart := false, narrowed := true }
def ExtendCountsUptoSaid : Prop := extendCountsUptoRow.holds Try.pinned (OpenSpec.upto extendCountsSpec)

/-- 'waveletlaw03.ExtendSplits', WHERE WHAT IT READS IS OF BULK AT MOST 1048576: true; the input reads as it did. -/
def extendSplitsUptoRow : OpenClaim := { program := "ytkpmedlliobljaa", sum := "b499669ce3cfb482e133f62dfc5b310e6dd15278db7f149474f13e55b59facdd", func := "wavelet/waveletlaw03.ExtendSplits", spec := "extendSplits", unfollowed := true, recurses := true, apart := false, narrowed := true }
def ExtendSplitsUptoSaid : Prop := extendSplitsUptoRow.holds Try.pinned (OpenSpec.upto extendSplitsSpec)

/-- 'waveletlaw03.ExtendJoins', WHERE WHAT IT READS IS OF BULK AT MOST 1048576: true; the input reads as it did. -/
def extendJoinsUptoRow : OpenClaim := { program := "ytkpmedlliobljaa", sum := "b499669ce3cfb482e133f62dfc5b310e6dd15278db7f149474f13e55b59facdd", func := "wavelet/waveletlaw03.ExtendJoins", spec := "extendJoins", unfollowed := true, recurses := true, apart := false, narrowed := true }
def ExtendJoinsUptoSaid : Prop := extendJoinsUptoRow.holds Try.pinned (OpenSpec.upto extendJoinsSpec)

/-- 'waveletlaw03.ExtendAt', WHERE WHAT IT READS IS OF BULK AT MOST 1048576: true; the input reads as it did. -/
def extendAtUptoRow : OpenClaim := { program := "ytkpmedlliobljaa", sum := "b499669ce3cfb482e133f62dfc5b310e6dd15278db7f149474f13e55b59facdd", func := "wavelet/waveletlaw03.ExtendAt", spec := "extendAt", unfollowed := true, recurses := true, apart := false, narrowed := true }
def ExtendAtUptoSaid : Prop := extendAtUptoRow.holds Try.pinned (OpenSpec.upto extendAtSpec)

/-- 'waveletlaw03.ExtendReflects', WHERE WHAT IT READS IS OF BULK AT MOST 1048576: true; the input reads as it did. -/
def extendReflectsUptoRow : OpenClaim := { program := "ytkpmedlliobljaa", sum := "b499669ce3cfb482e133f62dfc5b310e6dd15278db7f149474f13e55b59facdd", func := "wavelet/waveletlaw03.ExtendReflects", spec := "extendReflects", unfollowed := true, recurses := true, apart := false, narrowed := true }
def ExtendReflectsUptoSaid : Prop := extendReflectsUptoRow.holds Try.pinned (OpenSpec.upto extendReflectsSpec)

/-- 'waveletlaw03.ExtendReturns', WHERE WHAT IT READS IS OF BULK AT MOST 1048576: true; the input reads as it did. -/
def extendReturnsUptoRow : OpenClaim := { program := "ytkpmedlliobljaa", sum := "b499669ce3cfb482e133f62dfc5b310e6dd15278db7f149474f13e55b59facdd", func := "wavelet/waveletlaw03.ExtendReturns", spec := "extendReturns", unfollowed := true, recurses := true, apart := false, narrowed := true }
def ExtendReturnsUptoSaid : Prop := extendReturnsUptoRow.holds Try.pinned (OpenSpec.upto extendReturnsSpec)

end Rows
end Go.Proofs.Ytkpmedlliobljaa
