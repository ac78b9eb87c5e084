/- RoiValidates: the law's row holds at every input. The function's walk is the executor's (Rx), sound by s_RoiValidates; its arguments are opened here. -/
import Derived.Test.YtjbgacjgnhnecaaRows
import Derived.Test.YtjbgacjgnhnecaaRS2
import Derived.Test.YtjbgacjgnhnecaaRxD
import Derived.WalkKit
import Derived.ProofKit
import Derived.OpenShut
import Derived.ShutString
import Derived.ChangeOld
import Derived.Below
import Derived.SizedLaws
namespace Go.Proofs.Ytjbgacjgnhnecaa.roiValidates
open Go Go.Rx Go.Rx.Ch30
open Go.ChangeShapes Go.WideShapes Go.ChangeAt Go.RowKit
set_option linter.unusedVariables false
set_option maxRecDepth 100000
theorem own : ownKnob Try.prog.godebug = none := by kernel_rfl
theorem laidOut : laidOutB Try.prog = true := by kernel_rfl
theorem opT_28 {H : Type} {enc : TypeId × Value → H} {w : World} : OpT enc Try.prog w (.pair (.int .i64) (.pair (.int .i64) (.pair (.int .i64) (.int .i64)))) 28 (fun (y : (Int × Int × Int × Int)) => ((Lit.int .i64 (y).1).wf = true) ∧ ((Lit.int .i64 (y).2.1).wf = true) ∧ ((Lit.int .i64 (y).2.2.1).wf = true) ∧ ((Lit.int .i64 (y).2.2.2).wf = true)) := by
  intro base fuel spare held cs x h
  obtain ⟨ys, n, _, _, hlen, hyl, hf⟩ := DataW.trod_struct Try.underlying28 h
  obtain ⟨a0, h0, w0⟩ := fldT (s := (.int .i64)) hyl hf 0 _ rfl 1 (by kernel_rfl) (opT_int Try.underlying3)
  obtain ⟨a1, h1, w1⟩ := fldT (s := (.int .i64)) hyl hf 1 _ rfl 1 (by kernel_rfl) (opT_int Try.underlying3)
  obtain ⟨a2, h2, w2⟩ := fldT (s := (.int .i64)) hyl hf 2 _ rfl 1 (by kernel_rfl) (opT_int Try.underlying3)
  obtain ⟨a3, h3, w3⟩ := fldT (s := (.int .i64)) hyl hf 3 _ rfl 1 (by kernel_rfl) (opT_int Try.underlying3)
  have hl : cs.length = 4 := hlen.trans (by kernel_rfl)
  refine ⟨(a0, (a1, (a2, a3))), ?_, ⟨w0, w1, w2, w3⟩⟩
  show RT w _ (.pair (.int .i64) (.pair (.int .i64) (.pair (.int .i64) (.int .i64)))) (a0, (a1, (a2, a3))) (cs.drop 0)
  exact (catqT 0 1 h0 (catqT 1 1 h1 (catqT 2 1 h2 (endqT 3 1 h3 hl))))
set_option maxRecDepth 100000 in
theorem lifted (os : Os) (started : os.Started) (H : Type) (enc : TypeId × Value → H) :
    ReturnsInHanded {} Try.checked os 3 .any (Rows.roiValidatesSpec.pre6 enc Try.prog Try.f3 Rows.roiValidatesRow.domain false) (Rows.roiValidatesSpec.post enc Try.prog Try.f3 false true false false) := by
  refine returnsInHanded_of_change_sized (C := Try.checked) own started (by kernel_rfl) Try.func3
    (ChangeSpec.witness6 (enc := enc) (C := Try.checked) false ⟨#[], #[.slice none 0 0], []⟩ 8 (by kernel_rfl) (by kernel_rfl) (by kernel_rfl) (by kernel_rfl)) ?_
  intro W base args ds gs before hval0 hW hcnd hsz0 _
  have hval : ∀ (j : Nat) t v, Try.f3.params[j]? = some t → args[j]? = some v → Value.okWide Try.prog W .any base t v := hval0
  have hW' := hW
  obtain ⟨p, q, hA0, hV, rfl, hfz, hnd⟩ := hW
  have hA : DataW.TrodAll enc Try.prog W 0 (fun _ => true) true Try.f3.params.toList args.toList ds p := hA0
  rw [Try.params3] at hA hval
  obtain ⟨v0, vs0, d0, ds0, p0, q0, hargs, rfl, rfl, h0, r0⟩ := trodAll_cons hA
  obtain ⟨rfl, rfl, rfl⟩ := trodAll_nil r0
  obtain rfl : args = #[v0] := by cases args; simp_all
  obtain ⟨rfl, rfl⟩ := trodVars_none hV
  have k0 := h0
  have lt0 : ∀ x ∈ p0, x.block < W.heap.size := by obtain ⟨m, hm⟩ := k0; exact DataW.trod_lt m _ _ _ hm
  obtain ⟨a0, len0, cap0, rfl⟩ := okWide_slice Try.underlying22 (hval 0 22 v0 rfl rfl)
  obtain ⟨fu0, hf0⟩ := h0
  obtain ⟨q0, hq0, x0, rfl, wx0⟩ := (opC_list (s := (.pair (.int .i64) (.pair (.int .i64) (.pair (.int .i64) (.int .i64))))) Try.underlying22 (by kernel_rfl) opT_28) _ _ _ _ _ _ hf0
  have hok : ok_RoiValidates x0 = true := by
    first
    | rfl
    | (simp only [ok_RoiValidates, i64B, inr, Bool.and_eq_true, decide_eq_true_eq]
       omega)
  have hG : G_RoiValidates [.one (.lst (.pair (.int .i64) (.pair (.int .i64) (.pair (.int .i64) (.int .i64)))) x0)] [] = some (true, ⟨.one (.bool true), [], []⟩) := by
    have e : G_RoiValidates [.one (.lst (.pair (.int .i64) (.pair (.int .i64) (.pair (.int .i64) (.int .i64)))) x0)] [] = some (ok_RoiValidates x0, ⟨.one (.bool true), [], []⟩) := by kernel_rfl
    rw [e, hok]
  refine (law_calls s_RoiValidates hG rfl (W := W) (vals := [_]) ⟨hq0.1, trivial⟩).mono ?_
  rintro e W' ⟨rfl, bel⟩
  exact ⟨_, rfl, _, _, _, [], _, [], hW', trodAll_mk1 (shut_bool Try.underlying4 _), (trodAll_cons_mk (Below.trod laidOut (by kernel_rfl) (of_decide_eq_true (by kernel_rfl)) k0 bel lt0) trodAll_mk0), rfl, bel.frame _, fun h => by cases h⟩
theorem over : Rows.roiValidatesRow.holds Try.pinned (OpenSpec.ofChange Rows.roiValidatesSpec) :=
  OpenClaim.holds_of_wide 3 Try.f3 rfl rfl rfl rfl rfl rfl rfl ⟨rfl, rfl, rfl, rfl, rfl⟩ rfl rfl rfl rfl rfl (by kernel_rfl) Try.func3 (by kernel_rfl)
    (of_decide_eq_true (by kernel_rfl)) (by unfold Func.isWrapper; first | (rw [if_pos (by decide +kernel)]; kernel_rfl) | (rw [if_neg (by decide +kernel)]; exact ⟨rfl, rfl⟩))
    (fun os started H enc _ => lifted os started H enc)
theorem proved : Rows.RoiValidatesSaid := over
end Go.Proofs.Ytjbgacjgnhnecaa.roiValidates
namespace Go.Proofs.Ytjbgacjgnhnecaa
/-- The row, under a short name, for the claim. -/
theorem roiValidates_holds : Rows.RoiValidatesSaid := roiValidates.proved
#print axioms roiValidates_holds
end Go.Proofs.Ytjbgacjgnhnecaa
