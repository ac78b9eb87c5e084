/-
  No cell of these rows narrows 'for every input' (looked for: loops, veiled, ifaces, maps, wideKeys, modest, calm, conditions, laid).
  DERIVED. THE GIVEN ROWS OF THIS SEAT. 8 by the template 'for every input the law returns true; each argument reads behind the call as it read before'; 0 by the template 'total and deterministic' (their statements: YtcdmkbpmgeeghaaTotals.lean).
  GIVEN WITH THE SEED: the statements are not yours to turn. If you find one false, say at which input.
  Laid BY PROGRAM, IN A SANDBOX (cutbox-rows.mjs): the forced cells as the released guide's own fill.sh prints them over the translation 3af8f9af8e76b974… (all of the seat's roots in one cut). By AI agents, Wed Nov 11 2026. No macro, syntax, notation, axiom, sorry.
-/
import Derived.Test.YtcdmkbpmgeeghaaChecked
import GoSem.Claim
import GoSem.ClaimJoined
import GoSem.ClaimMapViews
import Derived.JoinedTies
import Derived.KernelRfl
namespace Go.Proofs.Ytcdmkbpmgeeghaa
/- THE CELL 'sum', in the pinned program and in every row, IS THE sha256 OF THE DUMP (.gsa) THAT YtcdmkbpmgeeghaaProg.lean LOADS. Nothing in Lean hashes anything: it is a label: what it is worth is what the hold of that sum in a sandbox is worth. -/
noncomputable def Try.pinned : Pinned := { name := "ytcdmkbpmgeeghaa", sum := "3af8f9af8e76b974f73e15829830c55cec36ac57ab9ea2255cfe391e8f8d2cf7", checked := Try.checked }
namespace Rows
def none {H : Type} : Left H := { results := [], args := [] }

/-- 'waveletlaw06.PyramidNumbers': WHATEVER THE INPUT: true; the input reads as it did. -/
def pyramidNumbersSpec : ChangeSpec := { name := "pyramidNumbers", fn := fun _ => fun
  | [d1, d2] => { results := [.lit (.bool true)], args := [d1, d2] }
  | _ => none }
def pyramidNumbersRow : OpenClaim := { program := "ytcdmkbpmgeeghaa", sum := "3af8f9af8e76b974f73e15829830c55cec36ac57ab9ea2255cfe391e8f8d2cf7", func := "wavelet/waveletlaw06.PyramidNumbers", spec := "pyramidNumbers", unfollowed := true, recurses := true, apart := false }
def PyramidNumbersSaid : Prop := pyramidNumbersRow.holds Try.pinned (OpenSpec.ofChange pyramidNumbersSpec)

/-- ITS FALSE NEIGHBOUR: 'it returns false'. Refute it at one input. -/
def pyramidNumbersWrong : ChangeSpec := { name := "pyramidNumbers", fn := fun _ => fun
  | [d1, d2] => { results := [.lit (.bool false)], args := [d1, d2] }
  | _ => none }
def PyramidNumbersWrongFalsely : Prop := pyramidNumbersRow.holds Try.pinned (OpenSpec.ofChange pyramidNumbersWrong)

/-- 'waveletlaw06.PyramidAnalyzes': WHATEVER THE INPUT: true; the input reads as it did. -/
def pyramidAnalyzesSpec : ChangeSpec := { name := "pyramidAnalyzes", fn := fun _ => fun
  | [d1, d2, d3] => { results := [.lit (.bool true)], args := [d1, d2, d3] }
  | _ => none }
def pyramidAnalyzesRow : OpenClaim := { program := "ytcdmkbpmgeeghaa", sum := "3af8f9af8e76b974f73e15829830c55cec36ac57ab9ea2255cfe391e8f8d2cf7", func := "wavelet/waveletlaw06.PyramidAnalyzes", spec := "pyramidAnalyzes", unfollowed := true, recurses := true, apart := false }
def PyramidAnalyzesSaid : Prop := pyramidAnalyzesRow.holds Try.pinned (OpenSpec.ofChange pyramidAnalyzesSpec)

/-- ITS FALSE NEIGHBOUR: 'it returns false'. Refute it at one input. -/
def pyramidAnalyzesWrong : ChangeSpec := { name := "pyramidAnalyzes", fn := fun _ => fun
  | [d1, d2, d3] => { results := [.lit (.bool false)], args := [d1, d2, d3] }
  | _ => none }
def PyramidAnalyzesWrongFalsely : Prop := pyramidAnalyzesRow.holds Try.pinned (OpenSpec.ofChange pyramidAnalyzesWrong)

/-- 'waveletlaw06.PyramidNeeded': WHATEVER THE INPUT: true; the input reads as it did. -/
def pyramidNeededSpec : ChangeSpec := { name := "pyramidNeeded", fn := fun _ => fun
  | [d1, d2] => { results := [.lit (.bool true)], args := [d1, d2] }
  | _ => none }
def pyramidNeededRow : OpenClaim := { program := "ytcdmkbpmgeeghaa", sum := "3af8f9af8e76b974f73e15829830c55cec36ac57ab9ea2255cfe391e8f8d2cf7", func := "wavelet/waveletlaw06.PyramidNeeded", spec := "pyramidNeeded", unfollowed := true, recurses := true, apart := false }
def PyramidNeededSaid : Prop := pyramidNeededRow.holds Try.pinned (OpenSpec.ofChange pyramidNeededSpec)

/-- ITS FALSE NEIGHBOUR: 'it returns false'. Refute it at one input. -/
def pyramidNeededWrong : ChangeSpec := { name := "pyramidNeeded", fn := fun _ => fun
  | [d1, d2] => { results := [.lit (.bool false)], args := [d1, d2] }
  | _ => none }
def PyramidNeededWrongFalsely : Prop := pyramidNeededRow.holds Try.pinned (OpenSpec.ofChange pyramidNeededWrong)

/-- 'waveletlaw06.PyramidBounds': WHATEVER THE INPUT: true; the input reads as it did. -/
def pyramidBoundsSpec : ChangeSpec := { name := "pyramidBounds", fn := fun _ => fun
  | [d1, d2, d3] => { results := [.lit (.bool true)], args := [d1, d2, d3] }
  | _ => none }
def pyramidBoundsRow : OpenClaim := { program := "ytcdmkbpmgeeghaa", sum := "3af8f9af8e76b974f73e15829830c55cec36ac57ab9ea2255cfe391e8f8d2cf7", func := "wavelet/waveletlaw06.PyramidBounds", spec := "pyramidBounds", unfollowed := true, recurses := true, apart := false }
def PyramidBoundsSaid : Prop := pyramidBoundsRow.holds Try.pinned (OpenSpec.ofChange pyramidBoundsSpec)

/-- ITS FALSE NEIGHBOUR: 'it returns false'. Refute it at one input. -/
def pyramidBoundsWrong : ChangeSpec := { name := "pyramidBounds", fn := fun _ => fun
  | [d1, d2, d3] => { results := [.lit (.bool false)], args := [d1, d2, d3] }
  | _ => none }
def PyramidBoundsWrongFalsely : Prop := pyramidBoundsRow.holds Try.pinned (OpenSpec.ofChange pyramidBoundsWrong)

/-- 'waveletlaw06.PyramidRects': WHATEVER THE INPUT: true; the input reads as it did. -/
def pyramidRectsSpec : ChangeSpec := { name := "pyramidRects", fn := fun _ => fun
  | [d1, d2, d3] => { results := [.lit (.bool true)], args := [d1, d2, d3] }
  | _ => none }
def pyramidRectsRow : OpenClaim := { program := "ytcdmkbpmgeeghaa", sum := "3af8f9af8e76b974f73e15829830c55cec36ac57ab9ea2255cfe391e8f8d2cf7", func := "wavelet/waveletlaw06.PyramidRects", spec := "pyramidRects", unfollowed := true, recurses := true, apart := false }
def PyramidRectsSaid : Prop := pyramidRectsRow.holds Try.pinned (OpenSpec.ofChange pyramidRectsSpec)

/-- ITS FALSE NEIGHBOUR: 'it returns false'. Refute it at one input. -/
def pyramidRectsWrong : ChangeSpec := { name := "pyramidRects", fn := fun _ => fun
  | [d1, d2, d3] => { results := [.lit (.bool false)], args := [d1, d2, d3] }
  | _ => none }
def PyramidRectsWrongFalsely : Prop := pyramidRectsRow.holds Try.pinned (OpenSpec.ofChange pyramidRectsWrong)

/-- 'waveletlaw06.PyramidSynthesizes': WHATEVER THE INPUT: true; the input reads as it did. -/
def pyramidSynthesizesSpec : ChangeSpec := { name := "pyramidSynthesizes", fn := fun _ => fun
  | [d1, d2] => { results := [.lit (.bool true)], args := [d1, d2] }
  | _ => none }
def pyramidSynthesizesRow : OpenClaim := { program := "ytcdmkbpmgeeghaa", sum := "3af8f9af8e76b974f73e15829830c55cec36ac57ab9ea2255cfe391e8f8d2cf7", func := "wavelet/waveletlaw06.PyramidSynthesizes", spec := "pyramidSynthesizes", unfollowed := true, recurses := true, apart := false }
def PyramidSynthesizesSaid : Prop := pyramidSynthesizesRow.holds Try.pinned (OpenSpec.ofChange pyramidSynthesizesSpec)

/-- ITS FALSE NEIGHBOUR: 'it returns false'. Refute it at one input. -/
def pyramidSynthesizesWrong : ChangeSpec := { name := "pyramidSynthesizes", fn := fun _ => fun
  | [d1, d2] => { results := [.lit (.bool false)], args := [d1, d2] }
  | _ => none }
def PyramidSynthesizesWrongFalsely : Prop := pyramidSynthesizesRow.holds Try.pinned (OpenSpec.ofChange pyramidSynthesizesWrong)

/-- 'waveletlaw06.PyramidInverts': WHATEVER THE INPUT: true; the input reads as it did. -/
def pyramidInvertsSpec : ChangeSpec := { name := "pyramidInverts", fn := fun _ => fun
  | [d1, d2, d3] => { results := [.lit (.bool true)], args := [d1, d2, d3] }
  | _ => none }
def pyramidInvertsRow : OpenClaim := { program := "ytcdmkbpmgeeghaa", sum := "3af8f9af8e76b974f73e15829830c55cec36ac57ab9ea2255cfe391e8f8d2cf7", func := "wavelet/waveletlaw06.PyramidInverts", spec := "pyramidInverts", unfollowed := true, recurses := true, apart := false }
def PyramidInvertsSaid : Prop := pyramidInvertsRow.holds Try.pinned (OpenSpec.ofChange pyramidInvertsSpec)

/-- ITS FALSE NEIGHBOUR: 'it returns false'. Refute it at one input. -/
def pyramidInvertsWrong : ChangeSpec := { name := "pyramidInverts", fn := fun _ => fun
  | [d1, d2, d3] => { results := [.lit (.bool false)], args := [d1, d2, d3] }
  | _ => none }
def PyramidInvertsWrongFalsely : Prop := pyramidInvertsRow.holds Try.pinned (OpenSpec.ofChange pyramidInvertsWrong)

/-- 'waveletlaw06.PyramidWindows': WHATEVER THE INPUT: true; the input reads as it did. -/
def pyramidWindowsSpec : ChangeSpec := { name := "pyramidWindows", fn := fun _ => fun
  | [d1, d2, d3] => { results := [.lit (.bool true)], args := [d1, d2, d3] }
  | _ => none }
def pyramidWindowsRow : OpenClaim := { program := "ytcdmkbpmgeeghaa", sum := "3af8f9af8e76b974f73e15829830c55cec36ac57ab9ea2255cfe391e8f8d2cf7", func := "wavelet/waveletlaw06.PyramidWindows", spec := "pyramidWindows", unfollowed := true, recurses := true, apart := false }
def PyramidWindowsSaid : Prop := pyramidWindowsRow.holds Try.pinned (OpenSpec.ofChange pyramidWindowsSpec)

/-- ITS FALSE NEIGHBOUR: 'it returns false'. Refute it at one input. -/
def pyramidWindowsWrong : ChangeSpec := { name := "pyramidWindows", fn := fun _ => fun
  | [d1, d2, d3] => { results := [.lit (.bool false)], args := [d1, d2, d3] }
  | _ => none }
def PyramidWindowsWrongFalsely : Prop := pyramidWindowsRow.holds Try.pinned (OpenSpec.ofChange pyramidWindowsWrong)

/- THE SECOND FORM. 'bulk': how many values and letters a reading holds, each counted each time it is reached (what is shared counts as often as it is met; a slice's spare places count too). A statement '..UptoSaid' is the law's where the arguments, and the package variables that the reading takes, are together of bulk at most 1048576: NARROWER than '..Said'. Prove '..Said' where nothing that the law and all that it calls make is longer than what came in: it says more and counts as full. Else prove '..UptoSaid'. A law counts once. -/
mutual
def uptoBulk {H : Type} : DataW H → Nat
  | .lit (.string bytes) => bytes.length + 1
  | .lit _ => 1
  | .nil => 1
  | .ptr d => uptoBulk d + 1
  | .slice elems spare => uptoBulkAll elems + uptoBulkAll spare + 1
  | .agg parts => uptoBulkAll parts + 1
  | .iface _ d => uptoBulk d + 1
  | .map entries => uptoBulkEntries entries + 1
  | .held _ => 1
def uptoBulkAll {H : Type} : List (DataW H) → Nat
  | [] => 0
  | d :: r => uptoBulk d + uptoBulkAll r
def uptoBulkEntries {H : Type} : List (Lit × DataW H) → Nat
  | [] => 0
  | x :: r => uptoBulkEntry x + uptoBulkEntries r
def uptoBulkEntry {H : Type} : Lit × DataW H → Nat
  | (.string bytes, d) => bytes.length + uptoBulk d + 1
  | (_, d) => uptoBulk d + 1
 end
def uptoSmall : (H : Type) → List (DataW H) → Bool := fun _ ds => decide (uptoBulkAll ds ≤ 1048576)
def OpenSpec.upto (s : _root_.Go.ChangeSpec) : _root_.Go.OpenSpec := { _root_.Go.OpenSpec.ofChange s with cond := some uptoSmall }

/-- 'waveletlaw06.PyramidNumbers', WHERE WHAT IT READS IS OF BULK AT MOST 1048576: true; the input reads as it did. -/
def pyramidNumbersUptoRow : OpenClaim := { program := "ytcdmkbpmgeeghaa", sum := "3af8f9af8e76b974f73e15829830c55cec36ac57ab9ea2255cfe391e8f8d2cf7", func := "wavelet/waveletlaw06.PyramidNumbers", spec := "pyramidNumbers", unfollowed := true, recurses := true, apart := false, narrowed := true }
def PyramidNumbersUptoSaid : Prop := pyramidNumbersUptoRow.holds Try.pinned (OpenSpec.upto pyramidNumbersSpec)

/-- 'waveletlaw06.PyramidAnalyzes', WHERE WHAT IT READS IS OF BULK AT MOST 1048576: true; the input reads as it did. -/
def pyramidAnalyzesUptoRow : OpenClaim := { program := "ytcdmkbpmgeeghaa", sum := "3af8f9af8e76b974f73e15829830c55cec36ac57ab9ea2255cfe391e8f8d2cf7", func := "wavelet/waveletlaw06.PyramidAnalyzes", spec := "pyramidAnalyzes", unfollowed := true, recurses := true, apart := false, narrowed := true }
def PyramidAnalyzesUptoSaid : Prop := pyramidAnalyzesUptoRow.holds Try.pinned (OpenSpec.upto pyramidAnalyzesSpec)

/-- 'waveletlaw06.PyramidNeeded', WHERE WHAT IT READS IS OF BULK AT MOST 1048576: true; the input reads as it did. -/
def pyramidNeededUptoRow : OpenClaim := { program := "ytcdmkbpmgeeghaa", sum := "3af8f9af8e76b974f73e15829830c55cec36ac57ab9ea2255cfe391e8f8d2cf7", func := "wavelet/waveletlaw06.PyramidNeeded", spec := "pyramidNeeded", unfollowed := true, recurses := true, apart := false, narrowed := true }
def PyramidNeededUptoSaid : Prop := pyramidNeededUptoRow.holds Try.pinned (OpenSpec.upto pyramidNeededSpec)

/-- 'waveletlaw06.PyramidBounds', WHERE WHAT IT READS IS OF BULK AT MOST 1048576: true; the input reads as it did. -/
def pyramidBoundsUptoRow : OpenClaim := { program := "ytcdmkbpmgeeghaa", sum := "3af8f9af8e76b974f73e15829830c55cec36ac57ab9ea2255cfe391e8f8d2cf7", func := "wavelet/waveletlaw06.PyramidBounds", spec := "pyramidBounds", unfollowed := true, recurses := true, apart := false, narrowed := true }
def PyramidBoundsUptoSaid : Prop := pyramidBoundsUptoRow.holds Try.pinned (OpenSpec.upto pyramidBoundsSpec)

/-- 'waveletlaw06.PyramidRects', WHERE WHAT IT READS IS OF BULK AT MOST 1048576: true; the input reads as it did. -/
def pyramidRectsUptoRow : OpenClaim := { program := "ytcdmkbpmgeeghaa", sum := "3af8f9af8e76b974f73e15829830c55cec36ac57ab9ea2255cfe391e8f8d2cf7", func := "wavelet/waveletlaw06.PyramidRects", spec := "pyramidRects", unfollowed := true, recurses := true, apart := false, narrowed := true }
def PyramidRectsUptoSaid : Prop := pyramidRectsUptoRow.holds Try.pinned (OpenSpec.upto pyramidRectsSpec)

/-- 'waveletlaw06.PyramidSynthesizes', WHERE WHAT IT READS IS OF BULK AT MOST 1048576: true; the input reads as it did. -/
def pyramidSynthesizesUptoRow : OpenClaim := { program := "ytcdmkbpmgeeghaa", sum := "3af8f9af8e76b974f73e15829830c55cec36ac57ab9ea2255cfe391e8f8d2cf7", func := "wavelet/waveletlaw06.PyramidSynthesizes", spec := "pyramidSynthesizes", unfollowed := true, recurses := true, apart := false, narrowed := true }
def PyramidSynthesizesUptoSaid : Prop := pyramidSynthesizesUptoRow.holds Try.pinned (OpenSpec.upto pyramidSynthesizesSpec)

/-- 'waveletlaw06.PyramidInverts', WHERE WHAT IT READS IS OF BULK AT MOST 1048576: true; the input reads as it did. -/
def pyramidInvertsUptoRow : OpenClaim := { program := "ytcdmkbpmgeeghaa", sum := "3af8f9af8e76b974f73e15829830c55cec36ac57ab9ea2255cfe391e8f8d2cf7", func := "wavelet/waveletlaw06.PyramidInverts", spec := "pyramidInverts", unfollowed := true, recurses := true, apart := false, narrowed := true }
def PyramidInvertsUptoSaid : Prop := pyramidInvertsUptoRow.holds Try.pinned (OpenSpec.upto pyramidInvertsSpec)

/-- 'waveletlaw06.PyramidWindows', WHERE WHAT IT READS IS OF BULK AT MOST 1048576: true; the input reads as it did. -/
def pyramidWindowsUptoRow : OpenClaim := { program := "ytcdmkbpmgeeghaa", sum := "3af8f9af8e76b974f73e15829830c55cec36ac57ab9ea2255cfe391e8f8d2cf7", func := "wavelet/waveletlaw06.PyramidWindows", spec := "pyramidWindows", unfollowed := true, recurses := true, apart := false, narrowed := true }
def PyramidWindowsUptoSaid : Prop := pyramidWindowsUptoRow.holds Try.pinned (OpenSpec.upto pyramidWindowsSpec)

end Rows
end Go.Proofs.Ytcdmkbpmgeeghaa
