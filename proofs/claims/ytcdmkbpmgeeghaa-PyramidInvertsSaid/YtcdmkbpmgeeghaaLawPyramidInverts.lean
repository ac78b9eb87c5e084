/- PyramidInverts: the law's row holds at every input. The function's walk is the executor's (Rx), sound by s_PyramidInverts; its arguments are opened here. -/
import Derived.Test.YtcdmkbpmgeeghaaRows
import Derived.Test.YtcdmkbpmgeeghaaRS5
import Derived.Test.YtcdmkbpmgeeghaaRxD
import Derived.WalkKit
import Derived.ProofKit
import Derived.OpenShut
import Derived.ShutString
import Derived.ChangeOld
import Derived.Below
import Derived.SizedLaws
namespace Go.Proofs.Ytcdmkbpmgeeghaa.pyramidInverts
open Go Go.Rx Go.Rx.Ch06
open Go.ChangeShapes Go.WideShapes Go.ChangeAt Go.RowKit
set_option linter.unusedVariables false
set_option maxRecDepth 100000
theorem own : ownKnob Try.prog.godebug = none := by kernel_rfl
theorem laidOut : laidOutB Try.prog = true := by kernel_rfl
theorem opC_31 {H : Type} {enc : TypeId × Value → H} {w : World} : OpC enc Try.prog w 31 (fun q => ∃ (x0 : Int) (x1 : Int) (x2 : Int) (x3 : Int), q = [.int .i64 x0, .int .i64 x1, .int .i64 x2, .int .i64 x3] ∧ (Lit.int .i64 x0).wf = true ∧ (Lit.int .i64 x1).wf = true ∧ (Lit.int .i64 x2).wf = true ∧ (Lit.int .i64 x3).wf = true) := by
  intro base fuel spare held cs x h
  obtain ⟨ys, n, _, _, hlen, hyl, hf⟩ := DataW.trod_struct Try.underlying31 h
  obtain ⟨q0, h0, x0, rfl, wx0⟩ := fldC hyl hf 0 _ rfl 1 (by kernel_rfl) (opC_int Try.underlying3)
  obtain ⟨q1, h1, x1, rfl, wx1⟩ := fldC hyl hf 1 _ rfl 1 (by kernel_rfl) (opC_int Try.underlying3)
  obtain ⟨q2, h2, x2, rfl, wx2⟩ := fldC hyl hf 2 _ rfl 1 (by kernel_rfl) (opC_int Try.underlying3)
  obtain ⟨q3, h3, x3, rfl, wx3⟩ := fldC hyl hf 3 _ rfl 1 (by kernel_rfl) (opC_int Try.underlying3)
  have hl : cs.length = 4 := hlen.trans (by kernel_rfl)
  exact ⟨_, (show F2 (RC (fun _ => False) w (LB []) (fun _ => none)) _ (cs.drop 0) from (catqC 0 1 h0 (catqC 1 1 h1 (catqC 2 1 h2 (endqC 3 1 h3 hl))))), x0, x1, x2, x3, rfl, wx0, wx1, wx2, wx3⟩
theorem opC_33 {H : Type} {enc : TypeId × Value → H} {w : World} : OpC enc Try.prog w 33 (fun q => ∃ (x0 : Int) (x1 : Int) (x2 : Int) (x3 : Int) (x4 : List Int), q = [.int .i64 x0, .int .i64 x1, .int .i64 x2, .int .i64 x3, .lst (.int .i64) x4] ∧ (Lit.int .i64 x0).wf = true ∧ (Lit.int .i64 x1).wf = true ∧ (Lit.int .i64 x2).wf = true ∧ (Lit.int .i64 x3).wf = true ∧ (x4.length ≤ maxLen ∧ ∀ z2 ∈ (x4 : List Int), (Lit.int .i64 z2).wf = true)) := by
  intro base fuel spare held cs x h
  obtain ⟨ys, n, _, _, hlen, hyl, hf⟩ := DataW.trod_struct Try.underlying33 h
  obtain ⟨q0, h0, x0, x1, x2, x3, rfl, wx0, wx1, wx2, wx3⟩ := fldC hyl hf 0 _ rfl 4 (by kernel_rfl) opC_31
  obtain ⟨q1, h1, x4, rfl, wx4⟩ := fldC hyl hf 1 _ rfl 1 (by kernel_rfl) (opC_list (s := (.int .i64)) Try.underlying26 (by kernel_rfl) (opT_int Try.underlying3))
  have hl : cs.length = 5 := hlen.trans (by kernel_rfl)
  exact ⟨_, (show F2 (RC (fun _ => False) w (LB []) (fun _ => none)) _ (cs.drop 0) from (catqC 0 4 h0 (endqC 4 1 h1 hl))), x0, x1, x2, x3, x4, rfl, wx0, wx1, wx2, wx3, wx4⟩
set_option maxRecDepth 100000 in
theorem lifted (os : Os) (started : os.Started) (H : Type) (enc : TypeId × Value → H) :
    ReturnsInHanded {} Try.checked os 9 .any (Rows.pyramidInvertsSpec.pre6 enc Try.prog Try.f9 Rows.pyramidInvertsRow.domain false) (Rows.pyramidInvertsSpec.post enc Try.prog Try.f9 false true false false) := by
  refine returnsInHanded_of_change_sized (C := Try.checked) own started (by kernel_rfl) Try.func9
    (ChangeSpec.witness6 (enc := enc) (C := Try.checked) false ⟨#[], #[.agg #[.int .i64 0, .int .i64 0, .int .i64 0, .int .i64 0, .slice none 0 0], .int .i64 0, .int .i64 0], []⟩ 8 (by kernel_rfl) (by kernel_rfl) (by kernel_rfl) (by kernel_rfl)) ?_
  intro W base args ds gs before hval0 hW hcnd hsz0 _
  have hval : ∀ (j : Nat) t v, Try.f9.params[j]? = some t → args[j]? = some v → Value.okWide Try.prog W .any base t v := hval0
  have hW' := hW
  obtain ⟨p, q, hA0, hV, rfl, hfz, hnd⟩ := hW
  have hA : DataW.TrodAll enc Try.prog W 0 (fun _ => true) true Try.f9.params.toList args.toList ds p := hA0
  rw [Try.params9] at hA hval
  obtain ⟨v0, vs0, d0, ds0, p0, q0, hargs, rfl, rfl, h0, r0⟩ := trodAll_cons hA
  obtain ⟨v1, vs1, d1, ds1, p1, q1, rfl, rfl, rfl, h1, r1⟩ := trodAll_cons r0
  obtain ⟨v2, vs2, d2, ds2, p2, q2, rfl, rfl, rfl, h2, r2⟩ := trodAll_cons r1
  obtain ⟨rfl, rfl, rfl⟩ := trodAll_nil r2
  obtain rfl : args = #[v0, v1, v2] := by cases args; simp_all
  obtain ⟨rfl, rfl⟩ := trodVars_none hV
  have k0 := h0
  have lt0 : ∀ x ∈ p0, x.block < W.heap.size := by obtain ⟨m, hm⟩ := k0; exact DataW.trod_lt m _ _ _ hm
  obtain ⟨cs0, rfl, hz0⟩ := okWide_struct Try.underlying33 (hval 0 33 v0 rfl rfl)
  obtain ⟨fu0, hf0⟩ := h0
  obtain ⟨q0, hq0, x0_0, x0_1, x0_2, x0_3, x0_4, rfl, wx0_0, wx0_1, wx0_2, wx0_3, wx0_4⟩ := opC_33 _ _ _ _ _ _ hf0
  obtain ⟨x1, rfl, rfl, rfl, wx1⟩ := open_int Try.underlying3 (hval 1 3 v1 rfl rfl) h1
  obtain ⟨x2, rfl, rfl, rfl, wx2⟩ := open_int Try.underlying34 (hval 2 34 v2 rfl rfl) h2
  have hok : ok_PyramidInverts x0_0 x0_1 x0_2 x0_3 x0_4 x1 x2 = true := by
    first
    | rfl
    | (have bwx0_0 := bounds_i64 wx0_0
       have bwx0_1 := bounds_i64 wx0_1
       have bwx0_2 := bounds_i64 wx0_2
       have bwx0_3 := bounds_i64 wx0_3
       have bwx1 := bounds_i64 wx1
       have bwx2 := bounds_i64 wx2
       simp only [ok_PyramidInverts, i64B, inr, Bool.and_eq_true, decide_eq_true_eq]
       omega)
  have hG : G_PyramidInverts [.agg [.int .i64 x0_0, .int .i64 x0_1, .int .i64 x0_2, .int .i64 x0_3, .lst (.int .i64) x0_4], .one (.int .i64 x1), .one (.int .i64 x2)] [] = some (true, ⟨.one (.bool true), [], []⟩) := by
    have e : G_PyramidInverts [.agg [.int .i64 x0_0, .int .i64 x0_1, .int .i64 x0_2, .int .i64 x0_3, .lst (.int .i64) x0_4], .one (.int .i64 x1), .one (.int .i64 x2)] [] = some (ok_PyramidInverts x0_0 x0_1 x0_2 x0_3 x0_4 x1 x2, ⟨.one (.bool true), [], []⟩) := by kernel_rfl
    rw [e, hok]
  refine (law_calls s_PyramidInverts hG rfl (W := W) (vals := [.agg cs0, _, _]) ⟨⟨cs0, rfl, hq0⟩, ⟨rfl, ⟨rfl, trivial⟩⟩⟩).mono ?_
  rintro e W' ⟨rfl, bel⟩
  exact ⟨_, rfl, _, _, _, [], _, [], hW', trodAll_mk1 (shut_bool Try.underlying4 _), (trodAll_cons_mk (Below.trod laidOut (by kernel_rfl) (of_decide_eq_true (by kernel_rfl)) k0 bel lt0) (trodAll_cons_mk (shut_int Try.underlying3 wx1) (trodAll_cons_mk (shut_int Try.underlying34 wx2) trodAll_mk0))), rfl, bel.frame _, fun h => by cases h⟩
theorem over : Rows.pyramidInvertsRow.holds Try.pinned (OpenSpec.ofChange Rows.pyramidInvertsSpec) :=
  OpenClaim.holds_of_wide 9 Try.f9 rfl rfl rfl rfl rfl rfl rfl ⟨rfl, rfl, rfl, rfl, rfl⟩ rfl rfl rfl rfl rfl (by kernel_rfl) Try.func9 (by kernel_rfl)
    (of_decide_eq_true (by kernel_rfl)) (by unfold Func.isWrapper; first | (rw [if_pos (by decide +kernel)]; kernel_rfl) | (rw [if_neg (by decide +kernel)]; exact ⟨rfl, rfl⟩))
    (fun os started H enc _ => lifted os started H enc)
theorem proved : Rows.PyramidInvertsSaid := over
end Go.Proofs.Ytcdmkbpmgeeghaa.pyramidInverts
namespace Go.Proofs.Ytcdmkbpmgeeghaa
/-- The row, under a short name, for the claim. -/
theorem pyramidInverts_holds : Rows.PyramidInvertsSaid := pyramidInverts.proved
#print axioms pyramidInverts_holds
end Go.Proofs.Ytcdmkbpmgeeghaa
