/-
  No cell of these rows narrows 'for every input' (looked for: loops, veiled, ifaces, maps, wideKeys, modest, calm, conditions, laid).
  DERIVED. THE GIVEN ROWS OF THIS SEAT. 8 by the template 'for every input the law returns true; each argument reads behind the call as it read before'; 0 by the template 'total and deterministic' (their statements: YtkpehgakdooodaaTotals.lean).
  GIVEN WITH THE SEED: the statements are not yours to turn. If you find one false, say at which input.
  Laid BY PROGRAM, IN A SANDBOX (cutbox-rows.mjs): the forced cells as the released guide's own fill.sh prints them over the translation 059ae5e211076dcc… (all of the seat's roots in one cut). By AI agents, Wed Nov 11 2026. No macro, syntax, notation, axiom, sorry.
-/
import Derived.Test.YtkpehgakdooodaaChecked
import GoSem.Claim
import GoSem.ClaimJoined
import GoSem.ClaimMapViews
import Derived.JoinedTies
import Derived.KernelRfl
namespace Go.Proofs.Ytkpehgakdooodaa
/- THE CELL 'sum', in the pinned program and in every row, IS THE sha256 OF THE DUMP (.gsa) THAT YtkpehgakdooodaaProg.lean LOADS. Nothing in Lean hashes anything: it is a label: what it is worth is what the hold of that sum in a sandbox is worth. -/
noncomputable def Try.pinned : Pinned := { name := "ytkpehgakdooodaa", sum := "059ae5e211076dcc0fda48b497cf438dc08985bb734cf2c0e2a17c151b6a445d", checked := Try.checked }
namespace Rows
def none {H : Type} : Left H := { results := [], args := [] }

/-- 'waveletlaw04.LiftForward': WHATEVER THE INPUT: true; the input reads as it did. -/
def liftForwardSpec : ChangeSpec := { name := "liftForward", fn := fun _ => fun
  | [d1, d2, d3] => { results := [.lit (.bool true)], args := [d1, d2, d3] }
  | _ => none }
def liftForwardRow : OpenClaim := { program := "ytkpehgakdooodaa", sum := "059ae5e211076dcc0fda48b497cf438dc08985bb734cf2c0e2a17c151b6a445d", func := "wavelet/waveletlaw04.LiftForward", spec := "liftForward", unfollowed := true, recurses := true, apart := false }
def LiftForwardSaid : Prop := liftForwardRow.holds Try.pinned (OpenSpec.ofChange liftForwardSpec)

/-- ITS FALSE NEIGHBOUR: 'it returns false'. Refute it at one input. -/
def liftForwardWrong : ChangeSpec := { name := "liftForward", fn := fun _ => fun
  | [d1, d2, d3] => { results := [.lit (.bool false)], args := [d1, d2, d3] }
  | _ => none }
def LiftForwardWrongFalsely : Prop := liftForwardRow.holds Try.pinned (OpenSpec.ofChange liftForwardWrong)

/-- 'waveletlaw04.LiftInverse': WHATEVER THE INPUT: true; the input reads as it did. -/
def liftInverseSpec : ChangeSpec := { name := "liftInverse", fn := fun _ => fun
  | [d] => { results := [.lit (.bool true)], args := [d] }
  | _ => none }
def liftInverseRow : OpenClaim := { program := "ytkpehgakdooodaa", sum := "059ae5e211076dcc0fda48b497cf438dc08985bb734cf2c0e2a17c151b6a445d", func := "wavelet/waveletlaw04.LiftInverse", spec := "liftInverse", unfollowed := true, recurses := true, apart := false }
def LiftInverseSaid : Prop := liftInverseRow.holds Try.pinned (OpenSpec.ofChange liftInverseSpec)

/-- ITS FALSE NEIGHBOUR: 'it returns false'. Refute it at one input. -/
def liftInverseWrong : ChangeSpec := { name := "liftInverse", fn := fun _ => fun
  | [d] => { results := [.lit (.bool false)], args := [d] }
  | _ => none }
def LiftInverseWrongFalsely : Prop := liftInverseRow.holds Try.pinned (OpenSpec.ofChange liftInverseWrong)

/-- 'waveletlaw04.LiftReturns': WHATEVER THE INPUT: true; the input reads as it did. -/
def liftReturnsSpec : ChangeSpec := { name := "liftReturns", fn := fun _ => fun
  | [d1, d2, d3] => { results := [.lit (.bool true)], args := [d1, d2, d3] }
  | _ => none }
def liftReturnsRow : OpenClaim := { program := "ytkpehgakdooodaa", sum := "059ae5e211076dcc0fda48b497cf438dc08985bb734cf2c0e2a17c151b6a445d", func := "wavelet/waveletlaw04.LiftReturns", spec := "liftReturns", unfollowed := true, recurses := true, apart := false }
def LiftReturnsSaid : Prop := liftReturnsRow.holds Try.pinned (OpenSpec.ofChange liftReturnsSpec)

/-- ITS FALSE NEIGHBOUR: 'it returns false'. Refute it at one input. -/
def liftReturnsWrong : ChangeSpec := { name := "liftReturns", fn := fun _ => fun
  | [d1, d2, d3] => { results := [.lit (.bool false)], args := [d1, d2, d3] }
  | _ => none }
def LiftReturnsWrongFalsely : Prop := liftReturnsRow.holds Try.pinned (OpenSpec.ofChange liftReturnsWrong)

/-- 'waveletlaw04.LiftRestores': WHATEVER THE INPUT: true; the input reads as it did. -/
def liftRestoresSpec : ChangeSpec := { name := "liftRestores", fn := fun _ => fun
  | [d] => { results := [.lit (.bool true)], args := [d] }
  | _ => none }
def liftRestoresRow : OpenClaim := { program := "ytkpehgakdooodaa", sum := "059ae5e211076dcc0fda48b497cf438dc08985bb734cf2c0e2a17c151b6a445d", func := "wavelet/waveletlaw04.LiftRestores", spec := "liftRestores", unfollowed := true, recurses := true, apart := false }
def LiftRestoresSaid : Prop := liftRestoresRow.holds Try.pinned (OpenSpec.ofChange liftRestoresSpec)

/-- ITS FALSE NEIGHBOUR: 'it returns false'. Refute it at one input. -/
def liftRestoresWrong : ChangeSpec := { name := "liftRestores", fn := fun _ => fun
  | [d] => { results := [.lit (.bool false)], args := [d] }
  | _ => none }
def LiftRestoresWrongFalsely : Prop := liftRestoresRow.holds Try.pinned (OpenSpec.ofChange liftRestoresWrong)

/-- 'waveletlaw04.LiftStays': WHATEVER THE INPUT: true; the input reads as it did. -/
def liftStaysSpec : ChangeSpec := { name := "liftStays", fn := fun _ => fun
  | [d1, d2, d3] => { results := [.lit (.bool true)], args := [d1, d2, d3] }
  | _ => none }
def liftStaysRow : OpenClaim := { program := "ytkpehgakdooodaa", sum := "059ae5e211076dcc0fda48b497cf438dc08985bb734cf2c0e2a17c151b6a445d", func := "wavelet/waveletlaw04.LiftStays", spec := "liftStays", unfollowed := true, recurses := true, apart := false }
def LiftStaysSaid : Prop := liftStaysRow.holds Try.pinned (OpenSpec.ofChange liftStaysSpec)

/-- ITS FALSE NEIGHBOUR: 'it returns false'. Refute it at one input. -/
def liftStaysWrong : ChangeSpec := { name := "liftStays", fn := fun _ => fun
  | [d1, d2, d3] => { results := [.lit (.bool false)], args := [d1, d2, d3] }
  | _ => none }
def LiftStaysWrongFalsely : Prop := liftStaysRow.holds Try.pinned (OpenSpec.ofChange liftStaysWrong)

/-- 'waveletlaw04.LiftFlat': WHATEVER THE INPUT: true; the input reads as it did. -/
def liftFlatSpec : ChangeSpec := { name := "liftFlat", fn := fun _ => fun
  | [d1, d2, d3, d4, d5] => { results := [.lit (.bool true)], args := [d1, d2, d3, d4, d5] }
  | _ => none }
def liftFlatRow : OpenClaim := { program := "ytkpehgakdooodaa", sum := "059ae5e211076dcc0fda48b497cf438dc08985bb734cf2c0e2a17c151b6a445d", func := "wavelet/waveletlaw04.LiftFlat", spec := "liftFlat", unfollowed := true, recurses := true, apart := false }
def LiftFlatSaid : Prop := liftFlatRow.holds Try.pinned (OpenSpec.ofChange liftFlatSpec)

/-- ITS FALSE NEIGHBOUR: 'it returns false'. Refute it at one input. -/
def liftFlatWrong : ChangeSpec := { name := "liftFlat", fn := fun _ => fun
  | [d1, d2, d3, d4, d5] => { results := [.lit (.bool false)], args := [d1, d2, d3, d4, d5] }
  | _ => none }
def LiftFlatWrongFalsely : Prop := liftFlatRow.holds Try.pinned (OpenSpec.ofChange liftFlatWrong)

/-- 'waveletlaw04.LiftBounds': WHATEVER THE INPUT: true; the input reads as it did. -/
def liftBoundsSpec : ChangeSpec := { name := "liftBounds", fn := fun _ => fun
  | [d1, d2] => { results := [.lit (.bool true)], args := [d1, d2] }
  | _ => none }
def liftBoundsRow : OpenClaim := { program := "ytkpehgakdooodaa", sum := "059ae5e211076dcc0fda48b497cf438dc08985bb734cf2c0e2a17c151b6a445d", func := "wavelet/waveletlaw04.LiftBounds", spec := "liftBounds", unfollowed := true, recurses := true, apart := false }
def LiftBoundsSaid : Prop := liftBoundsRow.holds Try.pinned (OpenSpec.ofChange liftBoundsSpec)

/-- ITS FALSE NEIGHBOUR: 'it returns false'. Refute it at one input. -/
def liftBoundsWrong : ChangeSpec := { name := "liftBounds", fn := fun _ => fun
  | [d1, d2] => { results := [.lit (.bool false)], args := [d1, d2] }
  | _ => none }
def LiftBoundsWrongFalsely : Prop := liftBoundsRow.holds Try.pinned (OpenSpec.ofChange liftBoundsWrong)

/-- 'waveletlaw04.LiftReaches': WHATEVER THE INPUT: true; the input reads as it did. -/
def liftReachesSpec : ChangeSpec := { name := "liftReaches", fn := fun _ => fun
  | [d1, d2, d3] => { results := [.lit (.bool true)], args := [d1, d2, d3] }
  | _ => none }
def liftReachesRow : OpenClaim := { program := "ytkpehgakdooodaa", sum := "059ae5e211076dcc0fda48b497cf438dc08985bb734cf2c0e2a17c151b6a445d", func := "wavelet/waveletlaw04.LiftReaches", spec := "liftReaches", unfollowed := true, recurses := true, apart := false }
def LiftReachesSaid : Prop := liftReachesRow.holds Try.pinned (OpenSpec.ofChange liftReachesSpec)

/-- ITS FALSE NEIGHBOUR: 'it returns false'. Refute it at one input. -/
def liftReachesWrong : ChangeSpec := { name := "liftReaches", fn := fun _ => fun
  | [d1, d2, d3] => { results := [.lit (.bool false)], args := [d1, d2, d3] }
  | _ => none }
def LiftReachesWrongFalsely : Prop := liftReachesRow.holds Try.pinned (OpenSpec.ofChange liftReachesWrong)

/- THE SECOND FORM. 'bulk': how many values and letters a reading holds, each counted each time it is reached (what is shared counts as often as it is met; a slice's spare places count too). A statement '..UptoSaid' is the law's where the arguments, and the package variables that the reading takes, are together of bulk at most 1048576: NARROWER than '..Said'. Prove '..Said' where nothing that the law and all that it calls make is longer than what came in: it says more and counts as full. Else prove '..UptoSaid'. A law counts once. -/
mutual
def uptoBulk {H : Type} : DataW H → Nat
  | .lit (.string bytes) => bytes.length + 1
  | .lit _ => 1
  | .nil => 1
  | .ptr d => uptoBulk d + 1
  | .slice elems spare => uptoBulkAll elems + uptoBulkAll spare + 1
  | .agg parts => uptoBulkAll parts + 1
  | .iface _ d => uptoBulk d + 1
  | .map entries => uptoBulkEntries entries + 1
  | .held _ => 1
def uptoBulkAll {H : Type} : List (DataW H) → Nat
  | [] => 0
  | d :: r => uptoBulk d + uptoBulkAll r
def uptoBulkEntries {H : Type} : List (Lit × DataW H) → Nat
  | [] => 0
  | x :: r => uptoBulkEntry x + uptoBulkEntries r
def uptoBulkEntry {H : Type} : Lit × DataW H → Nat
  | (.string bytes, d) => bytes.length + uptoBulk d + 1
  | (_, d) => uptoBulk d + 1
 end
def uptoSmall : (H : Type) → List (DataW H) → Bool := fun _ ds => decide (uptoBulkAll ds ≤ 1048576)
def OpenSpec.upto (s : _root_.Go.ChangeSpec) : _root_.Go.OpenSpec := { _root_.Go.OpenSpec.ofChange s with cond := some uptoSmall }

/-- 'waveletlaw04.LiftForward', WHERE WHAT IT READS IS OF BULK AT MOST 1048576: true; the input reads as it did. -/
def liftForwardUptoRow : OpenClaim := { program := "ytkpehgakdooodaa", sum := "059ae5e211076dcc0fda48b497cf438dc08985bb734cf2c0e2a17c151b6a445d", func := "wavelet/waveletlaw04.LiftForward", spec := "liftForward", unfollowed := true, recurses := true, apart := false, narrowed := true }
def LiftForwardUptoSaid : Prop := liftForwardUptoRow.holds Try.pinned (OpenSpec.upto liftForwardSpec)

/-- 'waveletlaw04.LiftInverse', WHERE WHAT IT READS IS OF BULK AT MOST 1048576: true; the input reads as it did. -/
def liftInverseUptoRow : OpenClaim := { program := "ytkpehgakdooodaa", sum := "059ae5e211076dcc0fda48b497cf438dc08985bb734cf2c0e2a17c151b6a445d", func := "wavelet/waveletlaw04.LiftInverse", spec := "liftInverse", unfollowed := true, recurses := true, apart := false, narrowed := true }
def LiftInverseUptoSaid : Prop := liftInverseUptoRow.holds Try.pinned (OpenSpec.upto liftInverseSpec)

/-- 'waveletlaw04.LiftReturns', WHERE WHAT IT READS IS OF BULK AT MOST 1048576: true; the input reads as it did. -/
def liftReturnsUptoRow : OpenClaim := { program := "ytkpehgakdooodaa", sum := "059ae5e211076dcc0fda48b497cf438dc08985bb734cf2c0e2a17c151b6a445d", func := "wavelet/waveletlaw04.LiftReturns", spec := "liftReturns", unfollowed := true, recurses := true, apart := false, narrowed := true }
def LiftReturnsUptoSaid : Prop := liftReturnsUptoRow.holds Try.pinned (OpenSpec.upto liftReturnsSpec)

/-- 'waveletlaw04.LiftRestores', WHERE WHAT IT READS IS OF BULK AT MOST 1048576: true; the input reads as it did. -/
def liftRestoresUptoRow : OpenClaim := { program := "ytkpehgakdooodaa", sum := "059ae5e211076dcc0fda48b497cf438dc08985bb734cf2c0e2a17c151b6a445d", func := "wavelet/waveletlaw04.LiftRestores", spec := "liftRestores", unfollowed := true, recurses := true, apart := false, narrowed := true }
def LiftRestoresUptoSaid : Prop := liftRestoresUptoRow.holds Try.pinned (OpenSpec.upto liftRestoresSpec)

/-- 'waveletlaw04.LiftStays', WHERE WHAT IT READS IS OF BULK AT MOST 1048576: true; the input reads as it did. -/
def liftStaysUptoRow : OpenClaim := { program := "ytkpehgakdooodaa", sum := "059ae5e211076dcc0fda48b497cf438dc08985bb734cf2c0e2a17c151b6a445d", func := "wavelet/waveletlaw04.LiftStays", spec := "liftStays", unfollowed := true, recurses := true, apart := false, narrowed := true }
def LiftStaysUptoSaid : Prop := liftStaysUptoRow.holds Try.pinned (OpenSpec.upto liftStaysSpec)

/-- 'waveletlaw04.LiftFlat', WHERE WHAT IT READS IS OF BULK AT MOST 1048576: true; the input reads as it did. -/
def liftFlatUptoRow : OpenClaim := { program := "ytkpehgakdooodaa", sum := "059ae5e211076dcc0fda48b497cf438dc08985bb734cf2c0e2a17c151b6a445d", func := "wavelet/waveletlaw04.LiftFlat", spec := "liftFlat", unfollowed := true, recurses := true, apart := false, narrowed := true }
def LiftFlatUptoSaid : Prop := liftFlatUptoRow.holds Try.pinned (OpenSpec.upto liftFlatSpec)

/-- 'waveletlaw04.LiftBounds', WHERE WHAT IT READS IS OF BULK AT MOST 1048576: true; the input reads as it did. -/
def liftBoundsUptoRow : OpenClaim := { program := "ytkpehgakdooodaa", sum := "059ae5e211076dcc0fda48b497cf438dc08985bb734cf2c0e2a17c151b6a445d", func := "wavelet/waveletlaw04.LiftBounds", spec := "liftBounds", unfollowed := true, recurses := true, apart := false, narrowed := true }
def LiftBoundsUptoSaid : Prop := liftBoundsUptoRow.holds Try.pinned (OpenSpec.upto liftBoundsSpec)

/-- 'waveletlaw04.LiftReaches', WHERE WHAT IT READS IS OF BULK AT MOST 1048576: true; the input reads as it did. -/
def liftReachesUptoRow : OpenClaim := { program := "ytkpehgakdooodaa", sum := "059ae5e211076dcc0fda48b497cf438dc08985bb734cf2c0e2a17c151b6a445d", func := "wavelet/waveletlaw04.LiftReaches", spec := "liftReaches", unfollowed := true, recurses := true, apart := false, narrowed := true }
def LiftReachesUptoSaid : Prop := liftReachesUptoRow.holds Try.pinned (OpenSpec.upto liftReachesSpec)

end Rows
end Go.Proofs.Ytkpehgakdooodaa
