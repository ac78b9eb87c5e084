/- PyramidNeeded: the law's row holds at every input. The function's walk is the executor's (Rx), sound by s_PyramidNeeded; its arguments are opened here. -/
import Derived.Test.YtcdmkbpmgeeghaaRows
import Derived.Test.YtcdmkbpmgeeghaaRS5
import Derived.Test.YtcdmkbpmgeeghaaRxD
import Derived.WalkKit
import Derived.ProofKit
import Derived.OpenShut
import Derived.ShutString
import Derived.ChangeOld
import Derived.Below
import Derived.SizedLaws
namespace Go.Proofs.Ytcdmkbpmgeeghaa.pyramidNeeded
open Go Go.Rx Go.Rx.Ch06
open Go.ChangeShapes Go.WideShapes Go.ChangeAt Go.RowKit
set_option linter.unusedVariables false
set_option maxRecDepth 100000
theorem own : ownKnob Try.prog.godebug = none := by kernel_rfl
theorem laidOut : laidOutB Try.prog = true := by kernel_rfl
theorem opC_31 {H : Type} {enc : TypeId × Value → H} {w : World} : OpC enc Try.prog w 31 (fun q => ∃ (x0 : Int) (x1 : Int) (x2 : Int) (x3 : Int), q = [.int .i64 x0, .int .i64 x1, .int .i64 x2, .int .i64 x3] ∧ (Lit.int .i64 x0).wf = true ∧ (Lit.int .i64 x1).wf = true ∧ (Lit.int .i64 x2).wf = true ∧ (Lit.int .i64 x3).wf = true) := by
  intro base fuel spare held cs x h
  obtain ⟨ys, n, _, _, hlen, hyl, hf⟩ := DataW.trod_struct Try.underlying31 h
  obtain ⟨q0, h0, x0, rfl, wx0⟩ := fldC hyl hf 0 _ rfl 1 (by kernel_rfl) (opC_int Try.underlying3)
  obtain ⟨q1, h1, x1, rfl, wx1⟩ := fldC hyl hf 1 _ rfl 1 (by kernel_rfl) (opC_int Try.underlying3)
  obtain ⟨q2, h2, x2, rfl, wx2⟩ := fldC hyl hf 2 _ rfl 1 (by kernel_rfl) (opC_int Try.underlying3)
  obtain ⟨q3, h3, x3, rfl, wx3⟩ := fldC hyl hf 3 _ rfl 1 (by kernel_rfl) (opC_int Try.underlying3)
  have hl : cs.length = 4 := hlen.trans (by kernel_rfl)
  exact ⟨_, (show F2 (RC (fun _ => False) w (LB []) (fun _ => none)) _ (cs.drop 0) from (catqC 0 1 h0 (catqC 1 1 h1 (catqC 2 1 h2 (endqC 3 1 h3 hl))))), x0, x1, x2, x3, rfl, wx0, wx1, wx2, wx3⟩
theorem opC_42 {H : Type} {enc : TypeId × Value → H} {w : World} : OpC enc Try.prog w 42 (fun q => ∃ (x0 : Int) (x1 : Int) (x2 : Int) (x3 : Int) (x4 : Int) (x5 : Int) (x6 : Int) (x7 : Int), q = [.int .i64 x0, .int .i64 x1, .int .i64 x2, .int .i64 x3, .int .i64 x4, .int .i64 x5, .int .i64 x6, .int .i64 x7] ∧ (Lit.int .i64 x0).wf = true ∧ (Lit.int .i64 x1).wf = true ∧ (Lit.int .i64 x2).wf = true ∧ (Lit.int .i64 x3).wf = true ∧ (Lit.int .i64 x4).wf = true ∧ (Lit.int .i64 x5).wf = true ∧ (Lit.int .i64 x6).wf = true ∧ (Lit.int .i64 x7).wf = true) := by
  intro base fuel spare held cs x h
  obtain ⟨ys, n, _, _, hlen, hyl, hf⟩ := DataW.trod_struct Try.underlying42 h
  obtain ⟨q0, h0, x0, x1, x2, x3, rfl, wx0, wx1, wx2, wx3⟩ := fldC hyl hf 0 _ rfl 4 (by kernel_rfl) opC_31
  obtain ⟨q1, h1, x4, x5, x6, x7, rfl, wx4, wx5, wx6, wx7⟩ := fldC hyl hf 1 _ rfl 4 (by kernel_rfl) opC_31
  have hl : cs.length = 8 := hlen.trans (by kernel_rfl)
  exact ⟨_, (show F2 (RC (fun _ => False) w (LB []) (fun _ => none)) _ (cs.drop 0) from (catqC 0 4 h0 (endqC 4 4 h1 hl))), x0, x1, x2, x3, x4, x5, x6, x7, rfl, wx0, wx1, wx2, wx3, wx4, wx5, wx6, wx7⟩
theorem opC_44 {H : Type} {enc : TypeId × Value → H} {w : World} : OpC enc Try.prog w 44 (fun q => ∃ (x0 : Int) (x1 : Int) (x2 : Int), q = [.int .i64 x0, .int .i64 x1, .int .i64 x2] ∧ (Lit.int .i64 x0).wf = true ∧ (Lit.int .i64 x1).wf = true ∧ (Lit.int .i64 x2).wf = true) := by
  intro base fuel spare held cs x h
  obtain ⟨ys, n, _, _, hlen, hyl, hf⟩ := DataW.trod_struct Try.underlying44 h
  obtain ⟨q0, h0, x0, rfl, wx0⟩ := fldC hyl hf 0 _ rfl 1 (by kernel_rfl) (opC_int Try.underlying3)
  obtain ⟨q1, h1, x1, rfl, wx1⟩ := fldC hyl hf 1 _ rfl 1 (by kernel_rfl) (opC_int Try.underlying3)
  obtain ⟨q2, h2, x2, rfl, wx2⟩ := fldC hyl hf 2 _ rfl 1 (by kernel_rfl) (opC_int Try.underlying34)
  have hl : cs.length = 3 := hlen.trans (by kernel_rfl)
  exact ⟨_, (show F2 (RC (fun _ => False) w (LB []) (fun _ => none)) _ (cs.drop 0) from (catqC 0 1 h0 (catqC 1 1 h1 (endqC 2 1 h2 hl)))), x0, x1, x2, rfl, wx0, wx1, wx2⟩
set_option maxRecDepth 100000 in
theorem lifted (os : Os) (started : os.Started) (H : Type) (enc : TypeId × Value → H) :
    ReturnsInHanded {} Try.checked os 5 .any (Rows.pyramidNeededSpec.pre6 enc Try.prog Try.f5 Rows.pyramidNeededRow.domain false) (Rows.pyramidNeededSpec.post enc Try.prog Try.f5 false true false false) := by
  refine returnsInHanded_of_change_sized (C := Try.checked) own started (by kernel_rfl) Try.func5
    (ChangeSpec.witness6 (enc := enc) (C := Try.checked) false ⟨#[], #[.agg #[.int .i64 0, .int .i64 0, .int .i64 0, .int .i64 0, .int .i64 0, .int .i64 0, .int .i64 0, .int .i64 0], .agg #[.int .i64 0, .int .i64 0, .int .i64 0]], []⟩ 8 (by kernel_rfl) (by kernel_rfl) (by kernel_rfl) (by kernel_rfl)) ?_
  intro W base args ds gs before hval0 hW hcnd hsz0 _
  have hval : ∀ (j : Nat) t v, Try.f5.params[j]? = some t → args[j]? = some v → Value.okWide Try.prog W .any base t v := hval0
  have hW' := hW
  obtain ⟨p, q, hA0, hV, rfl, hfz, hnd⟩ := hW
  have hA : DataW.TrodAll enc Try.prog W 0 (fun _ => true) true Try.f5.params.toList args.toList ds p := hA0
  rw [Try.params5] at hA hval
  obtain ⟨v0, vs0, d0, ds0, p0, q0, hargs, rfl, rfl, h0, r0⟩ := trodAll_cons hA
  obtain ⟨v1, vs1, d1, ds1, p1, q1, rfl, rfl, rfl, h1, r1⟩ := trodAll_cons r0
  obtain ⟨rfl, rfl, rfl⟩ := trodAll_nil r1
  obtain rfl : args = #[v0, v1] := by cases args; simp_all
  obtain ⟨rfl, rfl⟩ := trodVars_none hV
  have k0 := h0
  have lt0 : ∀ x ∈ p0, x.block < W.heap.size := by obtain ⟨m, hm⟩ := k0; exact DataW.trod_lt m _ _ _ hm
  obtain ⟨cs0, rfl, hz0⟩ := okWide_struct Try.underlying42 (hval 0 42 v0 rfl rfl)
  obtain ⟨fu0, hf0⟩ := h0
  obtain ⟨q0, hq0, x0_0, x0_1, x0_2, x0_3, x0_4, x0_5, x0_6, x0_7, rfl, wx0_0, wx0_1, wx0_2, wx0_3, wx0_4, wx0_5, wx0_6, wx0_7⟩ := opC_42 _ _ _ _ _ _ hf0
  have k1 := h1
  have lt1 : ∀ x ∈ p1, x.block < W.heap.size := by obtain ⟨m, hm⟩ := k1; exact DataW.trod_lt m _ _ _ hm
  obtain ⟨cs1, rfl, hz1⟩ := okWide_struct Try.underlying44 (hval 1 44 v1 rfl rfl)
  obtain ⟨fu1, hf1⟩ := h1
  obtain ⟨q1, hq1, x1_0, x1_1, x1_2, rfl, wx1_0, wx1_1, wx1_2⟩ := opC_44 _ _ _ _ _ _ hf1
  have hok : ok_PyramidNeeded x0_0 x0_1 x0_2 x0_3 x0_4 x0_5 x0_6 x0_7 x1_0 x1_1 x1_2 = true := by
    first
    | rfl
    | (have bwx0_0 := bounds_i64 wx0_0
       have bwx0_1 := bounds_i64 wx0_1
       have bwx0_2 := bounds_i64 wx0_2
       have bwx0_3 := bounds_i64 wx0_3
       have bwx0_4 := bounds_i64 wx0_4
       have bwx0_5 := bounds_i64 wx0_5
       have bwx0_6 := bounds_i64 wx0_6
       have bwx0_7 := bounds_i64 wx0_7
       have bwx1_0 := bounds_i64 wx1_0
       have bwx1_1 := bounds_i64 wx1_1
       have bwx1_2 := bounds_i64 wx1_2
       simp only [ok_PyramidNeeded, i64B, inr, Bool.and_eq_true, decide_eq_true_eq]
       omega)
  have hG : G_PyramidNeeded [.agg [.int .i64 x0_0, .int .i64 x0_1, .int .i64 x0_2, .int .i64 x0_3, .int .i64 x0_4, .int .i64 x0_5, .int .i64 x0_6, .int .i64 x0_7], .agg [.int .i64 x1_0, .int .i64 x1_1, .int .i64 x1_2]] [] = some (true, ⟨.one (.bool true), [], []⟩) := by
    have e : G_PyramidNeeded [.agg [.int .i64 x0_0, .int .i64 x0_1, .int .i64 x0_2, .int .i64 x0_3, .int .i64 x0_4, .int .i64 x0_5, .int .i64 x0_6, .int .i64 x0_7], .agg [.int .i64 x1_0, .int .i64 x1_1, .int .i64 x1_2]] [] = some (ok_PyramidNeeded x0_0 x0_1 x0_2 x0_3 x0_4 x0_5 x0_6 x0_7 x1_0 x1_1 x1_2, ⟨.one (.bool true), [], []⟩) := by kernel_rfl
    rw [e, hok]
  refine (law_calls s_PyramidNeeded hG rfl (W := W) (vals := [.agg cs0, .agg cs1]) ⟨⟨cs0, rfl, hq0⟩, ⟨⟨cs1, rfl, hq1⟩, trivial⟩⟩).mono ?_
  rintro e W' ⟨rfl, bel⟩
  exact ⟨_, rfl, _, _, _, [], _, [], hW', trodAll_mk1 (shut_bool Try.underlying4 _), (trodAll_cons_mk (Below.trod laidOut (by kernel_rfl) (of_decide_eq_true (by kernel_rfl)) k0 bel lt0) (trodAll_cons_mk (Below.trod laidOut (by kernel_rfl) (of_decide_eq_true (by kernel_rfl)) k1 bel lt1) trodAll_mk0)), rfl, bel.frame _, fun h => by cases h⟩
theorem over : Rows.pyramidNeededRow.holds Try.pinned (OpenSpec.ofChange Rows.pyramidNeededSpec) :=
  OpenClaim.holds_of_wide 5 Try.f5 rfl rfl rfl rfl rfl rfl rfl ⟨rfl, rfl, rfl, rfl, rfl⟩ rfl rfl rfl rfl rfl (by kernel_rfl) Try.func5 (by kernel_rfl)
    (of_decide_eq_true (by kernel_rfl)) (by unfold Func.isWrapper; first | (rw [if_pos (by decide +kernel)]; kernel_rfl) | (rw [if_neg (by decide +kernel)]; exact ⟨rfl, rfl⟩))
    (fun os started H enc _ => lifted os started H enc)
theorem proved : Rows.PyramidNeededSaid := over
end Go.Proofs.Ytcdmkbpmgeeghaa.pyramidNeeded
namespace Go.Proofs.Ytcdmkbpmgeeghaa
/-- The row, under a short name, for the claim. -/
theorem pyramidNeeded_holds : Rows.PyramidNeededSaid := pyramidNeeded.proved
#print axioms pyramidNeeded_holds
end Go.Proofs.Ytcdmkbpmgeeghaa
