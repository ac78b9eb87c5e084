/- PyramidNumbers: the law's row holds at every input. The function's walk is the executor's (Rx), sound by s_PyramidNumbers; its arguments are opened here. -/
import Derived.Test.YtcdmkbpmgeeghaaRows
import Derived.Test.YtcdmkbpmgeeghaaRS5
import Derived.Test.YtcdmkbpmgeeghaaRxD
import Derived.WalkKit
import Derived.ProofKit
import Derived.OpenShut
import Derived.ShutString
import Derived.ChangeOld
import Derived.Below
import Derived.SizedLaws
namespace Go.Proofs.Ytcdmkbpmgeeghaa.pyramidNumbers
open Go Go.Rx Go.Rx.Ch06
open Go.ChangeShapes Go.WideShapes Go.ChangeAt Go.RowKit
set_option linter.unusedVariables false
set_option maxRecDepth 100000
theorem own : ownKnob Try.prog.godebug = none := by kernel_rfl
theorem laidOut : laidOutB Try.prog = true := by kernel_rfl
set_option maxRecDepth 100000 in
theorem lifted (os : Os) (started : os.Started) (H : Type) (enc : TypeId × Value → H) :
    ReturnsInHanded {} Try.checked os 3 .any (Rows.pyramidNumbersSpec.pre6 enc Try.prog Try.f3 Rows.pyramidNumbersRow.domain false) (Rows.pyramidNumbersSpec.post enc Try.prog Try.f3 false true false false) := by
  refine returnsInHanded_of_change_sized (C := Try.checked) own started (by kernel_rfl) Try.func3
    (ChangeSpec.witness6 (enc := enc) (C := Try.checked) false ⟨#[], #[.int .i64 0, .int .i64 0], []⟩ 8 (by kernel_rfl) (by kernel_rfl) (by kernel_rfl) (by kernel_rfl)) ?_
  intro W base args ds gs before hval0 hW hcnd hsz0 _
  have hval : ∀ (j : Nat) t v, Try.f3.params[j]? = some t → args[j]? = some v → Value.okWide Try.prog W .any base t v := hval0
  have hW' := hW
  obtain ⟨p, q, hA0, hV, rfl, hfz, hnd⟩ := hW
  have hA : DataW.TrodAll enc Try.prog W 0 (fun _ => true) true Try.f3.params.toList args.toList ds p := hA0
  rw [Try.params3] at hA hval
  obtain ⟨v0, vs0, d0, ds0, p0, q0, hargs, rfl, rfl, h0, r0⟩ := trodAll_cons hA
  obtain ⟨v1, vs1, d1, ds1, p1, q1, rfl, rfl, rfl, h1, r1⟩ := trodAll_cons r0
  obtain ⟨rfl, rfl, rfl⟩ := trodAll_nil r1
  obtain rfl : args = #[v0, v1] := by cases args; simp_all
  obtain ⟨rfl, rfl⟩ := trodVars_none hV
  obtain ⟨x0, rfl, rfl, rfl, wx0⟩ := open_int Try.underlying3 (hval 0 3 v0 rfl rfl) h0
  obtain ⟨x1, rfl, rfl, rfl, wx1⟩ := open_int Try.underlying3 (hval 1 3 v1 rfl rfl) h1
  have hok : ok_PyramidNumbers x0 x1 = true := by
    first
    | rfl
    | (have bwx0 := bounds_i64 wx0
       have bwx1 := bounds_i64 wx1
       simp only [ok_PyramidNumbers, i64B, inr, Bool.and_eq_true, decide_eq_true_eq]
       omega)
  have hG : G_PyramidNumbers [.one (.int .i64 x0), .one (.int .i64 x1)] [] = some (true, ⟨.one (.bool true), [], []⟩) := by
    have e : G_PyramidNumbers [.one (.int .i64 x0), .one (.int .i64 x1)] [] = some (ok_PyramidNumbers x0 x1, ⟨.one (.bool true), [], []⟩) := by kernel_rfl
    rw [e, hok]
  refine (law_calls s_PyramidNumbers hG rfl (W := W) (vals := [_, _]) ⟨rfl, ⟨rfl, trivial⟩⟩).mono ?_
  rintro e W' ⟨rfl, bel⟩
  exact ⟨_, rfl, _, _, _, [], _, [], hW', trodAll_mk1 (shut_bool Try.underlying4 _), (trodAll_cons_mk (shut_int Try.underlying3 wx0) (trodAll_cons_mk (shut_int Try.underlying3 wx1) trodAll_mk0)), rfl, bel.frame _, fun h => by cases h⟩
theorem over : Rows.pyramidNumbersRow.holds Try.pinned (OpenSpec.ofChange Rows.pyramidNumbersSpec) :=
  OpenClaim.holds_of_wide 3 Try.f3 rfl rfl rfl rfl rfl rfl rfl ⟨rfl, rfl, rfl, rfl, rfl⟩ rfl rfl rfl rfl rfl (by kernel_rfl) Try.func3 (by kernel_rfl)
    (of_decide_eq_true (by kernel_rfl)) (by unfold Func.isWrapper; first | (rw [if_pos (by decide +kernel)]; kernel_rfl) | (rw [if_neg (by decide +kernel)]; exact ⟨rfl, rfl⟩))
    (fun os started H enc _ => lifted os started H enc)
theorem proved : Rows.PyramidNumbersSaid := over
end Go.Proofs.Ytcdmkbpmgeeghaa.pyramidNumbers
namespace Go.Proofs.Ytcdmkbpmgeeghaa
/-- The row, under a short name, for the claim. -/
theorem pyramidNumbers_holds : Rows.PyramidNumbersSaid := pyramidNumbers.proved
#print axioms pyramidNumbers_holds
end Go.Proofs.Ytcdmkbpmgeeghaa
