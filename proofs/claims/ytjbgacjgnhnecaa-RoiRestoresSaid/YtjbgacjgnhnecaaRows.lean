/-
  No cell of these rows narrows 'for every input' (looked for: loops, veiled, ifaces, maps, wideKeys, modest, calm, conditions, laid).
  DERIVED. THE GIVEN ROWS OF THIS SEAT. 5 by the template 'for every input the law returns true; each argument reads behind the call as it read before'; 0 by the template 'total and deterministic' (their statements: YtjbgacjgnhnecaaTotals.lean).
  GIVEN WITH THE SEED: the statements are not yours to turn. If you find one false, say at which input.
  Laid BY PROGRAM, IN A SANDBOX (cutbox-rows.mjs): the forced cells as the released guide's own fill.sh prints them over the translation 42c66eb25f94ffd7… (all of the seat's roots in one cut). By AI agents, Wed Nov 11 2026. No macro, syntax, notation, axiom, sorry.
-/
import Derived.Test.YtjbgacjgnhnecaaChecked
import GoSem.Claim
import GoSem.ClaimJoined
import GoSem.ClaimMapViews
import Derived.JoinedTies
import Derived.KernelRfl
namespace Go.Proofs.Ytjbgacjgnhnecaa
/- THE CELL 'sum', in the pinned program and in every row, IS THE sha256 OF THE DUMP (.gsa) THAT YtjbgacjgnhnecaaProg.lean LOADS. Nothing in Lean hashes anything: it is a label: what it is worth is what the hold of that sum in a sandbox is worth. -/
noncomputable def Try.pinned : Pinned := { name := "ytjbgacjgnhnecaa", sum := "42c66eb25f94ffd700486f830870eae09f4b69b6c3724f5b2ce59bd515fc5c0f", checked := Try.checked }
namespace Rows
def none {H : Type} : Left H := { results := [], args := [] }

/-- 'waveletlaw30.RoiValidates': WHATEVER THE INPUT: true; the input reads as it did. -/
def roiValidatesSpec : ChangeSpec := { name := "roiValidates", fn := fun _ => fun
  | [d] => { results := [.lit (.bool true)], args := [d] }
  | _ => none }
def roiValidatesRow : OpenClaim := { program := "ytjbgacjgnhnecaa", sum := "42c66eb25f94ffd700486f830870eae09f4b69b6c3724f5b2ce59bd515fc5c0f", func := "wavelet/waveletlaw30.RoiValidates", spec := "roiValidates", unfollowed := true, recurses := true, apart := false }
def RoiValidatesSaid : Prop := roiValidatesRow.holds Try.pinned (OpenSpec.ofChange roiValidatesSpec)

/-- ITS FALSE NEIGHBOUR: 'it returns false'. Refute it at one input. -/
def roiValidatesWrong : ChangeSpec := { name := "roiValidates", fn := fun _ => fun
  | [d] => { results := [.lit (.bool false)], args := [d] }
  | _ => none }
def RoiValidatesWrongFalsely : Prop := roiValidatesRow.holds Try.pinned (OpenSpec.ofChange roiValidatesWrong)

/-- 'waveletlaw30.RoiBands': WHATEVER THE INPUT: true; the input reads as it did. -/
def roiBandsSpec : ChangeSpec := { name := "roiBands", fn := fun _ => fun
  | [d1, d2, d3] => { results := [.lit (.bool true)], args := [d1, d2, d3] }
  | _ => none }
def roiBandsRow : OpenClaim := { program := "ytjbgacjgnhnecaa", sum := "42c66eb25f94ffd700486f830870eae09f4b69b6c3724f5b2ce59bd515fc5c0f", func := "wavelet/waveletlaw30.RoiBands", spec := "roiBands", unfollowed := true, recurses := true, apart := false }
def RoiBandsSaid : Prop := roiBandsRow.holds Try.pinned (OpenSpec.ofChange roiBandsSpec)

/-- ITS FALSE NEIGHBOUR: 'it returns false'. Refute it at one input. -/
def roiBandsWrong : ChangeSpec := { name := "roiBands", fn := fun _ => fun
  | [d1, d2, d3] => { results := [.lit (.bool false)], args := [d1, d2, d3] }
  | _ => none }
def RoiBandsWrongFalsely : Prop := roiBandsRow.holds Try.pinned (OpenSpec.ofChange roiBandsWrong)

/-- 'waveletlaw30.RoiScales': WHATEVER THE INPUT: true; the input reads as it did. -/
def roiScalesSpec : ChangeSpec := { name := "roiScales", fn := fun _ => fun
  | [d1, d2] => { results := [.lit (.bool true)], args := [d1, d2] }
  | _ => none }
def roiScalesRow : OpenClaim := { program := "ytjbgacjgnhnecaa", sum := "42c66eb25f94ffd700486f830870eae09f4b69b6c3724f5b2ce59bd515fc5c0f", func := "wavelet/waveletlaw30.RoiScales", spec := "roiScales", unfollowed := true, recurses := true, apart := false }
def RoiScalesSaid : Prop := roiScalesRow.holds Try.pinned (OpenSpec.ofChange roiScalesSpec)

/-- ITS FALSE NEIGHBOUR: 'it returns false'. Refute it at one input. -/
def roiScalesWrong : ChangeSpec := { name := "roiScales", fn := fun _ => fun
  | [d1, d2] => { results := [.lit (.bool false)], args := [d1, d2] }
  | _ => none }
def RoiScalesWrongFalsely : Prop := roiScalesRow.holds Try.pinned (OpenSpec.ofChange roiScalesWrong)

/-- 'waveletlaw30.RoiRestores': WHATEVER THE INPUT: true; the input reads as it did. -/
def roiRestoresSpec : ChangeSpec := { name := "roiRestores", fn := fun _ => fun
  | [d1, d2] => { results := [.lit (.bool true)], args := [d1, d2] }
  | _ => none }
def roiRestoresRow : OpenClaim := { program := "ytjbgacjgnhnecaa", sum := "42c66eb25f94ffd700486f830870eae09f4b69b6c3724f5b2ce59bd515fc5c0f", func := "wavelet/waveletlaw30.RoiRestores", spec := "roiRestores", unfollowed := true, recurses := true, apart := false }
def RoiRestoresSaid : Prop := roiRestoresRow.holds Try.pinned (OpenSpec.ofChange roiRestoresSpec)

/-- ITS FALSE NEIGHBOUR: 'it returns false'. Refute it at one input. -/
def roiRestoresWrong : ChangeSpec := { name := "roiRestores", fn := fun _ => fun
  | [d1, d2] => { results := [.lit (.bool false)], args := [d1, d2] }
  | _ => none }
def RoiRestoresWrongFalsely : Prop := roiRestoresRow.holds Try.pinned (OpenSpec.ofChange roiRestoresWrong)

/-- 'waveletlaw30.RoiCovers': WHATEVER THE INPUT: true; the input reads as it did. -/
def roiCoversSpec : ChangeSpec := { name := "roiCovers", fn := fun _ => fun
  | [d1, d2, d3] => { results := [.lit (.bool true)], args := [d1, d2, d3] }
  | _ => none }
def roiCoversRow : OpenClaim := { program := "ytjbgacjgnhnecaa", sum := "42c66eb25f94ffd700486f830870eae09f4b69b6c3724f5b2ce59bd515fc5c0f", func := "wavelet/waveletlaw30.RoiCovers", spec := "roiCovers", unfollowed := true, recurses := true, apart := false }
def RoiCoversSaid : Prop := roiCoversRow.holds Try.pinned (OpenSpec.ofChange roiCoversSpec)

/-- ITS FALSE NEIGHBOUR: 'it returns false'. Refute it at one input. -/
def roiCoversWrong : ChangeSpec := { name := "roiCovers", fn := fun _ => fun
  | [d1, d2, d3] => { results := [.lit (.bool false)], args := [d1, d2, d3] }
  | _ => none }
def RoiCoversWrongFalsely : Prop := roiCoversRow.holds Try.pinned (OpenSpec.ofChange roiCoversWrong)

/- THE SECOND FORM. 'bulk': how many values and letters a reading holds, each counted each time it is reached (what is shared counts as often as it is met; a slice's spare places count too). A statement '..UptoSaid' is the law's where the arguments, and the package variables that the reading takes, are together of bulk at most 1048576: NARROWER than '..Said'. Prove '..Said' where nothing that the law and all that it calls make is longer than what came in: it says more and counts as full. Else prove '..UptoSaid'. A law counts once. -/
mutual
def uptoBulk {H : Type} : DataW H → Nat
  | .lit (.string bytes) => bytes.length + 1
  | .lit _ => 1
  | .nil => 1
  | .ptr d => uptoBulk d + 1
  | .slice elems spare => uptoBulkAll elems + uptoBulkAll spare + 1
  | .agg parts => uptoBulkAll parts + 1
  | .iface _ d => uptoBulk d + 1
  | .map entries => uptoBulkEntries entries + 1
  | .held _ => 1
def uptoBulkAll {H : Type} : List (DataW H) → Nat
  | [] => 0
  | d :: r => uptoBulk d + uptoBulkAll r
def uptoBulkEntries {H : Type} : List (Lit × DataW H) → Nat
  | [] => 0
  | x :: r => uptoBulkEntry x + uptoBulkEntries r
def uptoBulkEntry {H : Type} : Lit × DataW H → Nat
  | (.string bytes, d) => bytes.length + uptoBulk d + 1
  | (_, d) => uptoBulk d + 1
 end
def uptoSmall : (H : Type) → List (DataW H) → Bool := fun _ ds => decide (uptoBulkAll ds ≤ 1048576)
def OpenSpec.upto (s : _root_.Go.ChangeSpec) : _root_.Go.OpenSpec := { _root_.Go.OpenSpec.ofChange s with cond := some uptoSmall }

/-- 'waveletlaw30.RoiValidates', WHERE WHAT IT READS IS OF BULK AT MOST 1048576: true; the input reads as it did. -/
def roiValidatesUptoRow : OpenClaim := { program := "ytjbgacjgnhnecaa", sum := "42c66eb25f94ffd700486f830870eae09f4b69b6c3724f5b2ce59bd515fc5c0f", func := "wavelet/waveletlaw30.RoiValidates", spec := "roiValidates", unfollowed := true, recurses := true, apart := false, narrowed := true }
def RoiValidatesUptoSaid : Prop := roiValidatesUptoRow.holds Try.pinned (OpenSpec.upto roiValidatesSpec)

/-- 'waveletlaw30.RoiBands', WHERE WHAT IT READS IS OF BULK AT MOST 1048576: true; the input reads as it did. -/
def roiBandsUptoRow : OpenClaim := { program := "ytjbgacjgnhnecaa", sum := "42c66eb25f94ffd700486f830870eae09f4b69b6c3724f5b2ce59bd515fc5c0f", func := "wavelet/waveletlaw30.RoiBands", spec := "roiBands", unfollowed := true, recurses := true, apart := false, narrowed := true }
def RoiBandsUptoSaid : Prop := roiBandsUptoRow.holds Try.pinned (OpenSpec.upto roiBandsSpec)

/-- 'waveletlaw30.RoiScales', WHERE WHAT IT READS IS OF BULK AT MOST 1048576: true; the input reads as it did. -/
def roiScalesUptoRow : OpenClaim := { program := "ytjbgacjgnhnecaa", sum := "42c66eb25f94ffd700486f830870eae09f4b69b6c3724f5b2ce59bd515fc5c0f", func := "wavelet/waveletlaw30.RoiScales", spec := "roiScales", unfollowed := true, recurses := true, apart := false, narrowed := true }
def RoiScalesUptoSaid : Prop := roiScalesUptoRow.holds Try.pinned (OpenSpec.upto roiScalesSpec)

/-- 'waveletlaw30.RoiRestores', WHERE WHAT IT READS IS OF BULK AT MOST 1048576: true; the input reads as it did. -/
def roiRestoresUptoRow : OpenClaim := { program := "ytjbgacjgnhnecaa", sum := "42c66eb25f94ffd700486f830870eae09f4b69b6c3724f5b2ce59bd515fc5c0f", func := "wavelet/waveletlaw30.RoiRestores", spec := "roiRestores", unfollowed := true, recurses := true, apart := false, narrowed := true }
def RoiRestoresUptoSaid : Prop := roiRestoresUptoRow.holds Try.pinned (OpenSpec.upto roiRestoresSpec)

/-- 'waveletlaw30.RoiCovers', WHERE WHAT IT READS IS OF BULK AT MOST 1048576: true; the input reads as it did. -/
def roiCoversUptoRow : OpenClaim := { program := "ytjbgacjgnhnecaa", sum := "42c66eb25f94ffd700486f830870eae09f4b69b6c3724f5b2ce59bd515fc5c0f", func := "wavelet/waveletlaw30.RoiCovers", spec := "roiCovers", unfollowed := true, recurses := true, apart := false, narrowed := true }
def RoiCoversUptoSaid : Prop := roiCoversUptoRow.holds Try.pinned (OpenSpec.upto roiCoversSpec)

end Rows
end Go.Proofs.Ytjbgacjgnhnecaa
