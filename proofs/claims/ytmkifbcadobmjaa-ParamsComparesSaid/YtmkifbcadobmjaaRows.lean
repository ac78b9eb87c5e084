/-
  No cell of these rows narrows 'for every input' (looked for: loops, veiled, ifaces, maps, wideKeys, modest, calm, conditions, laid).
  DERIVED. THE GIVEN ROWS OF THIS SEAT. 7 by the template 'for every input the law returns true; each argument reads behind the call as it read before'; 0 by the template 'total and deterministic' (their statements: YtmkifbcadobmjaaTotals.lean).
  GIVEN WITH THE SEED: the statements are not yours to turn. If you find one false, say at which input.
  Laid BY PROGRAM, IN A SANDBOX (cutbox-rows.mjs): the forced cells as the released guide's own fill.sh prints them over the translation 085063d193dac56c… (all of the seat's roots in one cut). By AI agents, Wed Nov 11 2026. No macro, syntax, notation, axiom, sorry.
-/
import Derived.Test.YtmkifbcadobmjaaChecked
import GoSem.Claim
import GoSem.ClaimJoined
import GoSem.ClaimMapViews
import Derived.JoinedTies
import Derived.KernelRfl
namespace Go.Proofs.Ytmkifbcadobmjaa
/- THE CELL 'sum', in the pinned program and in every row, IS THE sha256 OF THE DUMP (.gsa) THAT YtmkifbcadobmjaaProg.lean LOADS. Nothing in Lean hashes anything: it is a label: what it is worth is what the hold of that sum in a sandbox is worth. -/
noncomputable def Try.pinned : Pinned := { name := "ytmkifbcadobmjaa", sum := "085063d193dac56c2c6c241b668d2f407abaa70954c95095cb0c9b497f9d9b38", checked := Try.checked }
namespace Rows
def none {H : Type} : Left H := { results := [], args := [] }

/-- 'waveletlaw23.ParamsHeaders': WHATEVER THE INPUT: true; the input reads as it did. -/
def paramsHeadersSpec : ChangeSpec := { name := "paramsHeaders", fn := fun _ => fun
  | [d] => { results := [.lit (.bool true)], args := [d] }
  | _ => none }
def paramsHeadersRow : OpenClaim := { program := "ytmkifbcadobmjaa", sum := "085063d193dac56c2c6c241b668d2f407abaa70954c95095cb0c9b497f9d9b38", func := "wavelet/waveletlaw23.ParamsHeaders", spec := "paramsHeaders", apart := false }
def ParamsHeadersSaid : Prop := paramsHeadersRow.holds Try.pinned (OpenSpec.ofChange paramsHeadersSpec)

/-- ITS FALSE NEIGHBOUR: 'it returns false'. Refute it at one input. -/
def paramsHeadersWrong : ChangeSpec := { name := "paramsHeaders", fn := fun _ => fun
  | [d] => { results := [.lit (.bool false)], args := [d] }
  | _ => none }
def ParamsHeadersWrongFalsely : Prop := paramsHeadersRow.holds Try.pinned (OpenSpec.ofChange paramsHeadersWrong)

/-- 'waveletlaw23.ParamsChecks': WHATEVER THE INPUT: true; the input reads as it did. -/
def paramsChecksSpec : ChangeSpec := { name := "paramsChecks", fn := fun _ => fun
  | [d1, d2] => { results := [.lit (.bool true)], args := [d1, d2] }
  | _ => none }
def paramsChecksRow : OpenClaim := { program := "ytmkifbcadobmjaa", sum := "085063d193dac56c2c6c241b668d2f407abaa70954c95095cb0c9b497f9d9b38", func := "wavelet/waveletlaw23.ParamsChecks", spec := "paramsChecks", apart := false }
def ParamsChecksSaid : Prop := paramsChecksRow.holds Try.pinned (OpenSpec.ofChange paramsChecksSpec)

/-- ITS FALSE NEIGHBOUR: 'it returns false'. Refute it at one input. -/
def paramsChecksWrong : ChangeSpec := { name := "paramsChecks", fn := fun _ => fun
  | [d1, d2] => { results := [.lit (.bool false)], args := [d1, d2] }
  | _ => none }
def ParamsChecksWrongFalsely : Prop := paramsChecksRow.holds Try.pinned (OpenSpec.ofChange paramsChecksWrong)

/-- 'waveletlaw23.ParamsNumbers': WHATEVER THE INPUT: true; the input reads as it did. -/
def paramsNumbersSpec : ChangeSpec := { name := "paramsNumbers", fn := fun _ => fun
  | [d1, d2, d3] => { results := [.lit (.bool true)], args := [d1, d2, d3] }
  | _ => none }
def paramsNumbersRow : OpenClaim := { program := "ytmkifbcadobmjaa", sum := "085063d193dac56c2c6c241b668d2f407abaa70954c95095cb0c9b497f9d9b38", func := "wavelet/waveletlaw23.ParamsNumbers", spec := "paramsNumbers", recurses := true, apart := false }
def ParamsNumbersSaid : Prop := paramsNumbersRow.holds Try.pinned (OpenSpec.ofChange paramsNumbersSpec)

/-- ITS FALSE NEIGHBOUR: 'it returns false'. Refute it at one input. -/
def paramsNumbersWrong : ChangeSpec := { name := "paramsNumbers", fn := fun _ => fun
  | [d1, d2, d3] => { results := [.lit (.bool false)], args := [d1, d2, d3] }
  | _ => none }
def ParamsNumbersWrongFalsely : Prop := paramsNumbersRow.holds Try.pinned (OpenSpec.ofChange paramsNumbersWrong)

/-- 'waveletlaw23.ParamsBounds': WHATEVER THE INPUT: true; the input reads as it did. -/
def paramsBoundsSpec : ChangeSpec := { name := "paramsBounds", fn := fun _ => fun
  | [d1, d2] => { results := [.lit (.bool true)], args := [d1, d2] }
  | _ => none }
def paramsBoundsRow : OpenClaim := { program := "ytmkifbcadobmjaa", sum := "085063d193dac56c2c6c241b668d2f407abaa70954c95095cb0c9b497f9d9b38", func := "wavelet/waveletlaw23.ParamsBounds", spec := "paramsBounds", apart := false }
def ParamsBoundsSaid : Prop := paramsBoundsRow.holds Try.pinned (OpenSpec.ofChange paramsBoundsSpec)

/-- ITS FALSE NEIGHBOUR: 'it returns false'. Refute it at one input. -/
def paramsBoundsWrong : ChangeSpec := { name := "paramsBounds", fn := fun _ => fun
  | [d1, d2] => { results := [.lit (.bool false)], args := [d1, d2] }
  | _ => none }
def ParamsBoundsWrongFalsely : Prop := paramsBoundsRow.holds Try.pinned (OpenSpec.ofChange paramsBoundsWrong)

/-- 'waveletlaw23.ParamsIgnores': WHATEVER THE INPUT: true; the input reads as it did. -/
def paramsIgnoresSpec : ChangeSpec := { name := "paramsIgnores", fn := fun _ => fun
  | [d1, d2, d3] => { results := [.lit (.bool true)], args := [d1, d2, d3] }
  | _ => none }
def paramsIgnoresRow : OpenClaim := { program := "ytmkifbcadobmjaa", sum := "085063d193dac56c2c6c241b668d2f407abaa70954c95095cb0c9b497f9d9b38", func := "wavelet/waveletlaw23.ParamsIgnores", spec := "paramsIgnores", apart := false }
def ParamsIgnoresSaid : Prop := paramsIgnoresRow.holds Try.pinned (OpenSpec.ofChange paramsIgnoresSpec)

/-- ITS FALSE NEIGHBOUR: 'it returns false'. Refute it at one input. -/
def paramsIgnoresWrong : ChangeSpec := { name := "paramsIgnores", fn := fun _ => fun
  | [d1, d2, d3] => { results := [.lit (.bool false)], args := [d1, d2, d3] }
  | _ => none }
def ParamsIgnoresWrongFalsely : Prop := paramsIgnoresRow.holds Try.pinned (OpenSpec.ofChange paramsIgnoresWrong)

/-- 'waveletlaw23.ParamsCompares': WHATEVER THE INPUT: true; the input reads as it did. -/
def paramsComparesSpec : ChangeSpec := { name := "paramsCompares", fn := fun _ => fun
  | [d] => { results := [.lit (.bool true)], args := [d] }
  | _ => none }
def paramsComparesRow : OpenClaim := { program := "ytmkifbcadobmjaa", sum := "085063d193dac56c2c6c241b668d2f407abaa70954c95095cb0c9b497f9d9b38", func := "wavelet/waveletlaw23.ParamsCompares", spec := "paramsCompares", apart := false }
def ParamsComparesSaid : Prop := paramsComparesRow.holds Try.pinned (OpenSpec.ofChange paramsComparesSpec)

/-- ITS FALSE NEIGHBOUR: 'it returns false'. Refute it at one input. -/
def paramsComparesWrong : ChangeSpec := { name := "paramsCompares", fn := fun _ => fun
  | [d] => { results := [.lit (.bool false)], args := [d] }
  | _ => none }
def ParamsComparesWrongFalsely : Prop := paramsComparesRow.holds Try.pinned (OpenSpec.ofChange paramsComparesWrong)

/-- 'waveletlaw23.ParamsClones': WHATEVER THE INPUT: true; the input reads as it did. -/
def paramsClonesSpec : ChangeSpec := { name := "paramsClones", fn := fun _ => fun
  | [d1, d2] => { results := [.lit (.bool true)], args := [d1, d2] }
  | _ => none }
def paramsClonesRow : OpenClaim := { program := "ytmkifbcadobmjaa", sum := "085063d193dac56c2c6c241b668d2f407abaa70954c95095cb0c9b497f9d9b38", func := "wavelet/waveletlaw23.ParamsClones", spec := "paramsClones", apart := false }
def ParamsClonesSaid : Prop := paramsClonesRow.holds Try.pinned (OpenSpec.ofChange paramsClonesSpec)

/-- ITS FALSE NEIGHBOUR: 'it returns false'. Refute it at one input. -/
def paramsClonesWrong : ChangeSpec := { name := "paramsClones", fn := fun _ => fun
  | [d1, d2] => { results := [.lit (.bool false)], args := [d1, d2] }
  | _ => none }
def ParamsClonesWrongFalsely : Prop := paramsClonesRow.holds Try.pinned (OpenSpec.ofChange paramsClonesWrong)

/- THE SECOND FORM. 'bulk': how many values and letters a reading holds, each counted each time it is reached (what is shared counts as often as it is met; a slice's spare places count too). A statement '..UptoSaid' is the law's where the arguments, and the package variables that the reading takes, are together of bulk at most 1048576: NARROWER than '..Said'. Prove '..Said' where nothing that the law and all that it calls make is longer than what came in: it says more and counts as full. Else prove '..UptoSaid'. A law counts once. -/
mutual
def uptoBulk {H : Type} : DataW H → Nat
  | .lit (.string bytes) => bytes.length + 1
  | .lit _ => 1
  | .nil => 1
  | .ptr d => uptoBulk d + 1
  | .slice elems spare => uptoBulkAll elems + uptoBulkAll spare + 1
  | .agg parts => uptoBulkAll parts + 1
  | .iface _ d => uptoBulk d + 1
  | .map entries => uptoBulkEntries entries + 1
  | .held _ => 1
def uptoBulkAll {H : Type} : List (DataW H) → Nat
  | [] => 0
  | d :: r => uptoBulk d + uptoBulkAll r
def uptoBulkEntries {H : Type} : List (Lit × DataW H) → Nat
  | [] => 0
  | x :: r => uptoBulkEntry x + uptoBulkEntries r
def uptoBulkEntry {H : Type} : Lit × DataW H → Nat
  | (.string bytes, d) => bytes.length + uptoBulk d + 1
  | (_, d) => uptoBulk d + 1
 end
def uptoSmall : (H : Type) → List (DataW H) → Bool := fun _ ds => decide (uptoBulkAll ds ≤ 1048576)
def OpenSpec.upto (s : _root_.Go.ChangeSpec) : _root_.Go.OpenSpec := { _root_.Go.OpenSpec.ofChange s with cond := some uptoSmall }

/-- 'waveletlaw23.ParamsHeaders', WHERE WHAT IT READS IS OF BULK AT MOST 1048576: true; the input reads as it did. -/
def paramsHeadersUptoRow : OpenClaim := { program := "ytmkifbcadobmjaa", sum := "085063d193dac56c2c6c241b668d2f407abaa70954c95095cb0c9b497f9d9b38", func := "wavelet/waveletlaw23.ParamsHeaders", spec := "paramsHeaders", apart := false, narrowed := true }
def ParamsHeadersUptoSaid : Prop := paramsHeadersUptoRow.holds Try.pinned (OpenSpec.upto paramsHeadersSpec)

/-- 'waveletlaw23.ParamsChecks', WHERE WHAT IT READS IS OF BULK AT MOST 1048576: true; the input reads as it did. -/
def paramsChecksUptoRow : OpenClaim := { program := "ytmkifbcadobmjaa", sum := "085063d193dac56c2c6c241b668d2f407abaa70954c95095cb0c9b497f9d9b38", func := "wavelet/waveletlaw23.ParamsChecks", spec := "paramsChecks", apart := false, narrowed := true }
def ParamsChecksUptoSaid : Prop := paramsChecksUptoRow.holds Try.pinned (OpenSpec.upto paramsChecksSpec)

/-- 'waveletlaw23.ParamsNumbers', WHERE WHAT IT READS IS OF BULK AT MOST 1048576: true; the input reads as it did. -/
def paramsNumbersUptoRow : OpenClaim := { program := "ytmkifbcadobmjaa", sum := "085063d193dac56c2c6c241b668d2f407abaa70954c95095cb0c9b497f9d9b38", func := "wavelet/waveletlaw23.ParamsNumbers", spec := "paramsNumbers", recurses := true, apart := false, narrowed := true }
def ParamsNumbersUptoSaid : Prop := paramsNumbersUptoRow.holds Try.pinned (OpenSpec.upto paramsNumbersSpec)

/-- 'waveletlaw23.ParamsBounds', WHERE WHAT IT READS IS OF BULK AT MOST 1048576: true; the input reads as it did. -/
def paramsBoundsUptoRow : OpenClaim := { program := "ytmkifbcadobmjaa", sum := "085063d193dac56c2c6c241b668d2f407abaa70954c95095cb0c9b497f9d9b38", func := "wavelet/waveletlaw23.ParamsBounds", spec := "paramsBounds", apart := false, narrowed := true }
def ParamsBoundsUptoSaid : Prop := paramsBoundsUptoRow.holds Try.pinned (OpenSpec.upto paramsBoundsSpec)

/-- 'waveletlaw23.ParamsIgnores', WHERE WHAT IT READS IS OF BULK AT MOST 1048576: true; the input reads as it did. -/
def paramsIgnoresUptoRow : OpenClaim := { program := "ytmkifbcadobmjaa", sum := "085063d193dac56c2c6c241b668d2f407abaa70954c95095cb0c9b497f9d9b38", func := "wavelet/waveletlaw23.ParamsIgnores", spec := "paramsIgnores", apart := false, narrowed := true }
def ParamsIgnoresUptoSaid : Prop := paramsIgnoresUptoRow.holds Try.pinned (OpenSpec.upto paramsIgnoresSpec)

/-- 'waveletlaw23.ParamsCompares', WHERE WHAT IT READS IS OF BULK AT MOST 1048576: true; the input reads as it did. -/
def paramsComparesUptoRow : OpenClaim := { program := "ytmkifbcadobmjaa", sum := "085063d193dac56c2c6c241b668d2f407abaa70954c95095cb0c9b497f9d9b38", func := "wavelet/waveletlaw23.ParamsCompares", spec := "paramsCompares", apart := false, narrowed := true }
def ParamsComparesUptoSaid : Prop := paramsComparesUptoRow.holds Try.pinned (OpenSpec.upto paramsComparesSpec)

/-- 'waveletlaw23.ParamsClones', WHERE WHAT IT READS IS OF BULK AT MOST 1048576: true; the input reads as it did. -/
def paramsClonesUptoRow : OpenClaim := { program := "ytmkifbcadobmjaa", sum := "085063d193dac56c2c6c241b668d2f407abaa70954c95095cb0c9b497f9d9b38", func := "wavelet/waveletlaw23.ParamsClones", spec := "paramsClones", apart := false, narrowed := true }
def ParamsClonesUptoSaid : Prop := paramsClonesUptoRow.holds Try.pinned (OpenSpec.upto paramsClonesSpec)

end Rows
end Go.Proofs.Ytmkifbcadobmjaa
