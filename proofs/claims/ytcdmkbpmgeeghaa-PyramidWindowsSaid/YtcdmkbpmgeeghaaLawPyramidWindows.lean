/- PyramidWindows: the law's row holds at every input. The function's walk is the executor's (Rx), sound by s_PyramidWindows; its arguments are opened here. -/
import Derived.Test.YtcdmkbpmgeeghaaRows
import Derived.Test.YtcdmkbpmgeeghaaRS5
import Derived.Test.YtcdmkbpmgeeghaaRxD
import Derived.WalkKit
import Derived.ProofKit
import Derived.OpenShut
import Derived.ShutString
import Derived.ChangeOld
import Derived.Below
import Derived.SizedLaws
namespace Go.Proofs.Ytcdmkbpmgeeghaa.pyramidWindows
open Go Go.Rx Go.Rx.Ch06
open Go.ChangeShapes Go.WideShapes Go.ChangeAt Go.RowKit
set_option linter.unusedVariables false
set_option maxRecDepth 100000
theorem own : ownKnob Try.prog.godebug = none := by kernel_rfl
theorem laidOut : laidOutB Try.prog = true := by kernel_rfl
theorem opT_31 {H : Type} {enc : TypeId × Value → H} {w : World} : OpT enc Try.prog w (.pair (.int .i64) (.pair (.int .i64) (.pair (.int .i64) (.int .i64)))) 31 (fun (y : (Int × Int × Int × Int)) => ((Lit.int .i64 (y).1).wf = true) ∧ ((Lit.int .i64 (y).2.1).wf = true) ∧ ((Lit.int .i64 (y).2.2.1).wf = true) ∧ ((Lit.int .i64 (y).2.2.2).wf = true)) := by
  intro base fuel spare held cs x h
  obtain ⟨ys, n, _, _, hlen, hyl, hf⟩ := DataW.trod_struct Try.underlying31 h
  obtain ⟨a0, h0, w0⟩ := fldT (s := (.int .i64)) hyl hf 0 _ rfl 1 (by kernel_rfl) (opT_int Try.underlying3)
  obtain ⟨a1, h1, w1⟩ := fldT (s := (.int .i64)) hyl hf 1 _ rfl 1 (by kernel_rfl) (opT_int Try.underlying3)
  obtain ⟨a2, h2, w2⟩ := fldT (s := (.int .i64)) hyl hf 2 _ rfl 1 (by kernel_rfl) (opT_int Try.underlying3)
  obtain ⟨a3, h3, w3⟩ := fldT (s := (.int .i64)) hyl hf 3 _ rfl 1 (by kernel_rfl) (opT_int Try.underlying3)
  have hl : cs.length = 4 := hlen.trans (by kernel_rfl)
  refine ⟨(a0, (a1, (a2, a3))), ?_, ⟨w0, w1, w2, w3⟩⟩
  show RT w _ (.pair (.int .i64) (.pair (.int .i64) (.pair (.int .i64) (.int .i64)))) (a0, (a1, (a2, a3))) (cs.drop 0)
  exact (catqT 0 1 h0 (catqT 1 1 h1 (catqT 2 1 h2 (endqT 3 1 h3 hl))))
theorem opT_33 {H : Type} {enc : TypeId × Value → H} {w : World} : OpT enc Try.prog w (.pair (.pair (.int .i64) (.pair (.int .i64) (.pair (.int .i64) (.int .i64)))) (.sl (.int .i64))) 33 (fun (y : ((Int × Int × Int × Int) × List Int)) => (((Lit.int .i64 ((y).1).1).wf = true) ∧ ((Lit.int .i64 ((y).1).2.1).wf = true) ∧ ((Lit.int .i64 ((y).1).2.2.1).wf = true) ∧ ((Lit.int .i64 ((y).1).2.2.2).wf = true)) ∧ (((y).2.length ≤ maxLen ∧ ∀ z5 ∈ ((y).2 : List Int), (Lit.int .i64 z5).wf = true))) := by
  intro base fuel spare held cs x h
  obtain ⟨ys, n, _, _, hlen, hyl, hf⟩ := DataW.trod_struct Try.underlying33 h
  obtain ⟨a0, h0, w0⟩ := fldT (s := (.pair (.int .i64) (.pair (.int .i64) (.pair (.int .i64) (.int .i64))))) hyl hf 0 _ rfl 4 (by kernel_rfl) opT_31
  obtain ⟨a1, h1, w1⟩ := fldT (s := (.sl (.int .i64))) hyl hf 1 _ rfl 1 (by kernel_rfl) (opT_list Try.underlying26 (by kernel_rfl) (opT_int Try.underlying3))
  have hl : cs.length = 5 := hlen.trans (by kernel_rfl)
  refine ⟨(a0, a1), ?_, ⟨w0, w1⟩⟩
  show RT w _ (.pair (.pair (.int .i64) (.pair (.int .i64) (.pair (.int .i64) (.int .i64)))) (.sl (.int .i64))) (a0, a1) (cs.drop 0)
  exact (catqT 0 4 h0 (endqT 4 1 h1 hl))
theorem opC_31 {H : Type} {enc : TypeId × Value → H} {w : World} : OpC enc Try.prog w 31 (fun q => ∃ (x0 : Int) (x1 : Int) (x2 : Int) (x3 : Int), q = [.int .i64 x0, .int .i64 x1, .int .i64 x2, .int .i64 x3] ∧ (Lit.int .i64 x0).wf = true ∧ (Lit.int .i64 x1).wf = true ∧ (Lit.int .i64 x2).wf = true ∧ (Lit.int .i64 x3).wf = true) := by
  intro base fuel spare held cs x h
  obtain ⟨ys, n, _, _, hlen, hyl, hf⟩ := DataW.trod_struct Try.underlying31 h
  obtain ⟨q0, h0, x0, rfl, wx0⟩ := fldC hyl hf 0 _ rfl 1 (by kernel_rfl) (opC_int Try.underlying3)
  obtain ⟨q1, h1, x1, rfl, wx1⟩ := fldC hyl hf 1 _ rfl 1 (by kernel_rfl) (opC_int Try.underlying3)
  obtain ⟨q2, h2, x2, rfl, wx2⟩ := fldC hyl hf 2 _ rfl 1 (by kernel_rfl) (opC_int Try.underlying3)
  obtain ⟨q3, h3, x3, rfl, wx3⟩ := fldC hyl hf 3 _ rfl 1 (by kernel_rfl) (opC_int Try.underlying3)
  have hl : cs.length = 4 := hlen.trans (by kernel_rfl)
  exact ⟨_, (show F2 (RC (fun _ => False) w (LB []) (fun _ => none)) _ (cs.drop 0) from (catqC 0 1 h0 (catqC 1 1 h1 (catqC 2 1 h2 (endqC 3 1 h3 hl))))), x0, x1, x2, x3, rfl, wx0, wx1, wx2, wx3⟩
theorem opC_54 {H : Type} {enc : TypeId × Value → H} {w : World} : OpC enc Try.prog w 54 (fun q => ∃ (x0 : List (((Int × Int × Int × Int) × List Int))) (x1 : Int) (x2 : Int) (x3 : Int) (x4 : Int), q = [.lst (.pair (.pair (.int .i64) (.pair (.int .i64) (.pair (.int .i64) (.int .i64)))) (.sl (.int .i64))) x0, .int .i64 x1, .int .i64 x2, .int .i64 x3, .int .i64 x4] ∧ (x0.length ≤ maxLen ∧ ∀ z2 ∈ (x0 : List (((Int × Int × Int × Int) × List Int))), (((Lit.int .i64 ((z2).1).1).wf = true) ∧ ((Lit.int .i64 ((z2).1).2.1).wf = true) ∧ ((Lit.int .i64 ((z2).1).2.2.1).wf = true) ∧ ((Lit.int .i64 ((z2).1).2.2.2).wf = true)) ∧ (((z2).2.length ≤ maxLen ∧ ∀ z6 ∈ ((z2).2 : List Int), (Lit.int .i64 z6).wf = true))) ∧ (Lit.int .i64 x1).wf = true ∧ (Lit.int .i64 x2).wf = true ∧ (Lit.int .i64 x3).wf = true ∧ (Lit.int .i64 x4).wf = true) := by
  intro base fuel spare held cs x h
  obtain ⟨ys, n, _, _, hlen, hyl, hf⟩ := DataW.trod_struct Try.underlying54 h
  obtain ⟨q0, h0, x0, rfl, wx0⟩ := fldC hyl hf 0 _ rfl 1 (by kernel_rfl) (opC_list (s := (.pair (.pair (.int .i64) (.pair (.int .i64) (.pair (.int .i64) (.int .i64)))) (.sl (.int .i64)))) Try.underlying35 (by kernel_rfl) opT_33)
  obtain ⟨q1, h1, x1, x2, x3, x4, rfl, wx1, wx2, wx3, wx4⟩ := fldC hyl hf 1 _ rfl 4 (by kernel_rfl) opC_31
  have hl : cs.length = 5 := hlen.trans (by kernel_rfl)
  exact ⟨_, (show F2 (RC (fun _ => False) w (LB []) (fun _ => none)) _ (cs.drop 0) from (catqC 0 1 h0 (endqC 1 4 h1 hl))), x0, x1, x2, x3, x4, rfl, wx0, wx1, wx2, wx3, wx4⟩
theorem opC_44 {H : Type} {enc : TypeId × Value → H} {w : World} : OpC enc Try.prog w 44 (fun q => ∃ (x0 : Int) (x1 : Int) (x2 : Int), q = [.int .i64 x0, .int .i64 x1, .int .i64 x2] ∧ (Lit.int .i64 x0).wf = true ∧ (Lit.int .i64 x1).wf = true ∧ (Lit.int .i64 x2).wf = true) := by
  intro base fuel spare held cs x h
  obtain ⟨ys, n, _, _, hlen, hyl, hf⟩ := DataW.trod_struct Try.underlying44 h
  obtain ⟨q0, h0, x0, rfl, wx0⟩ := fldC hyl hf 0 _ rfl 1 (by kernel_rfl) (opC_int Try.underlying3)
  obtain ⟨q1, h1, x1, rfl, wx1⟩ := fldC hyl hf 1 _ rfl 1 (by kernel_rfl) (opC_int Try.underlying3)
  obtain ⟨q2, h2, x2, rfl, wx2⟩ := fldC hyl hf 2 _ rfl 1 (by kernel_rfl) (opC_int Try.underlying34)
  have hl : cs.length = 3 := hlen.trans (by kernel_rfl)
  exact ⟨_, (show F2 (RC (fun _ => False) w (LB []) (fun _ => none)) _ (cs.drop 0) from (catqC 0 1 h0 (catqC 1 1 h1 (endqC 2 1 h2 hl)))), x0, x1, x2, rfl, wx0, wx1, wx2⟩
set_option maxRecDepth 100000 in
theorem lifted (os : Os) (started : os.Started) (H : Type) (enc : TypeId × Value → H) :
    ReturnsInHanded {} Try.checked os 10 .any (Rows.pyramidWindowsSpec.pre6 enc Try.prog Try.f10 Rows.pyramidWindowsRow.domain false) (Rows.pyramidWindowsSpec.post enc Try.prog Try.f10 false true false false) := by
  refine returnsInHanded_of_change_sized (C := Try.checked) own started (by kernel_rfl) Try.func10
    (ChangeSpec.witness6 (enc := enc) (C := Try.checked) false ⟨#[], #[.agg #[.slice none 0 0, .int .i64 0, .int .i64 0, .int .i64 0, .int .i64 0], .agg #[.int .i64 0, .int .i64 0, .int .i64 0, .int .i64 0], .agg #[.int .i64 0, .int .i64 0, .int .i64 0]], []⟩ 8 (by kernel_rfl) (by kernel_rfl) (by kernel_rfl) (by kernel_rfl)) ?_
  intro W base args ds gs before hval0 hW hcnd hsz0 _
  have hval : ∀ (j : Nat) t v, Try.f10.params[j]? = some t → args[j]? = some v → Value.okWide Try.prog W .any base t v := hval0
  have hW' := hW
  obtain ⟨p, q, hA0, hV, rfl, hfz, hnd⟩ := hW
  have hA : DataW.TrodAll enc Try.prog W 0 (fun _ => true) true Try.f10.params.toList args.toList ds p := hA0
  rw [Try.params10] at hA hval
  obtain ⟨v0, vs0, d0, ds0, p0, q0, hargs, rfl, rfl, h0, r0⟩ := trodAll_cons hA
  obtain ⟨v1, vs1, d1, ds1, p1, q1, rfl, rfl, rfl, h1, r1⟩ := trodAll_cons r0
  obtain ⟨v2, vs2, d2, ds2, p2, q2, rfl, rfl, rfl, h2, r2⟩ := trodAll_cons r1
  obtain ⟨rfl, rfl, rfl⟩ := trodAll_nil r2
  obtain rfl : args = #[v0, v1, v2] := by cases args; simp_all
  obtain ⟨rfl, rfl⟩ := trodVars_none hV
  have k0 := h0
  have lt0 : ∀ x ∈ p0, x.block < W.heap.size := by obtain ⟨m, hm⟩ := k0; exact DataW.trod_lt m _ _ _ hm
  obtain ⟨cs0, rfl, hz0⟩ := okWide_struct Try.underlying54 (hval 0 54 v0 rfl rfl)
  obtain ⟨fu0, hf0⟩ := h0
  obtain ⟨q0, hq0, x0_0, x0_1, x0_2, x0_3, x0_4, rfl, wx0_0, wx0_1, wx0_2, wx0_3, wx0_4⟩ := opC_54 _ _ _ _ _ _ hf0
  have k1 := h1
  have lt1 : ∀ x ∈ p1, x.block < W.heap.size := by obtain ⟨m, hm⟩ := k1; exact DataW.trod_lt m _ _ _ hm
  obtain ⟨cs1, rfl, hz1⟩ := okWide_struct Try.underlying31 (hval 1 31 v1 rfl rfl)
  obtain ⟨fu1, hf1⟩ := h1
  obtain ⟨q1, hq1, x1_0, x1_1, x1_2, x1_3, rfl, wx1_0, wx1_1, wx1_2, wx1_3⟩ := opC_31 _ _ _ _ _ _ hf1
  have k2 := h2
  have lt2 : ∀ x ∈ p2, x.block < W.heap.size := by obtain ⟨m, hm⟩ := k2; exact DataW.trod_lt m _ _ _ hm
  obtain ⟨cs2, rfl, hz2⟩ := okWide_struct Try.underlying44 (hval 2 44 v2 rfl rfl)
  obtain ⟨fu2, hf2⟩ := h2
  obtain ⟨q2, hq2, x2_0, x2_1, x2_2, rfl, wx2_0, wx2_1, wx2_2⟩ := opC_44 _ _ _ _ _ _ hf2
  have hok : ok_PyramidWindows x0_0 x0_1 x0_2 x0_3 x0_4 x1_0 x1_1 x1_2 x1_3 x2_0 x2_1 x2_2 = true := by
    first
    | rfl
    | (have bwx0_1 := bounds_i64 wx0_1
       have bwx0_2 := bounds_i64 wx0_2
       have bwx0_3 := bounds_i64 wx0_3
       have bwx0_4 := bounds_i64 wx0_4
       have bwx1_0 := bounds_i64 wx1_0
       have bwx1_1 := bounds_i64 wx1_1
       have bwx1_2 := bounds_i64 wx1_2
       have bwx1_3 := bounds_i64 wx1_3
       have bwx2_0 := bounds_i64 wx2_0
       have bwx2_1 := bounds_i64 wx2_1
       have bwx2_2 := bounds_i64 wx2_2
       simp only [ok_PyramidWindows, i64B, inr, Bool.and_eq_true, decide_eq_true_eq]
       omega)
  have hG : G_PyramidWindows [.agg [.lst (.pair (.pair (.int .i64) (.pair (.int .i64) (.pair (.int .i64) (.int .i64)))) (.sl (.int .i64))) x0_0, .int .i64 x0_1, .int .i64 x0_2, .int .i64 x0_3, .int .i64 x0_4], .agg [.int .i64 x1_0, .int .i64 x1_1, .int .i64 x1_2, .int .i64 x1_3], .agg [.int .i64 x2_0, .int .i64 x2_1, .int .i64 x2_2]] [] = some (true, ⟨.one (.bool true), [], []⟩) := by
    have e : G_PyramidWindows [.agg [.lst (.pair (.pair (.int .i64) (.pair (.int .i64) (.pair (.int .i64) (.int .i64)))) (.sl (.int .i64))) x0_0, .int .i64 x0_1, .int .i64 x0_2, .int .i64 x0_3, .int .i64 x0_4], .agg [.int .i64 x1_0, .int .i64 x1_1, .int .i64 x1_2, .int .i64 x1_3], .agg [.int .i64 x2_0, .int .i64 x2_1, .int .i64 x2_2]] [] = some (ok_PyramidWindows x0_0 x0_1 x0_2 x0_3 x0_4 x1_0 x1_1 x1_2 x1_3 x2_0 x2_1 x2_2, ⟨.one (.bool true), [], []⟩) := by kernel_rfl
    rw [e, hok]
  refine (law_calls s_PyramidWindows hG rfl (W := W) (vals := [.agg cs0, .agg cs1, .agg cs2]) ⟨⟨cs0, rfl, hq0⟩, ⟨⟨cs1, rfl, hq1⟩, ⟨⟨cs2, rfl, hq2⟩, trivial⟩⟩⟩).mono ?_
  rintro e W' ⟨rfl, bel⟩
  exact ⟨_, rfl, _, _, _, [], _, [], hW', trodAll_mk1 (shut_bool Try.underlying4 _), (trodAll_cons_mk (Below.trod laidOut (by kernel_rfl) (of_decide_eq_true (by kernel_rfl)) k0 bel lt0) (trodAll_cons_mk (Below.trod laidOut (by kernel_rfl) (of_decide_eq_true (by kernel_rfl)) k1 bel lt1) (trodAll_cons_mk (Below.trod laidOut (by kernel_rfl) (of_decide_eq_true (by kernel_rfl)) k2 bel lt2) trodAll_mk0))), rfl, bel.frame _, fun h => by cases h⟩
theorem over : Rows.pyramidWindowsRow.holds Try.pinned (OpenSpec.ofChange Rows.pyramidWindowsSpec) :=
  OpenClaim.holds_of_wide 10 Try.f10 rfl rfl rfl rfl rfl rfl rfl ⟨rfl, rfl, rfl, rfl, rfl⟩ rfl rfl rfl rfl rfl (by kernel_rfl) Try.func10 (by kernel_rfl)
    (of_decide_eq_true (by kernel_rfl)) (by unfold Func.isWrapper; first | (rw [if_pos (by decide +kernel)]; kernel_rfl) | (rw [if_neg (by decide +kernel)]; exact ⟨rfl, rfl⟩))
    (fun os started H enc _ => lifted os started H enc)
theorem proved : Rows.PyramidWindowsSaid := over
end Go.Proofs.Ytcdmkbpmgeeghaa.pyramidWindows
namespace Go.Proofs.Ytcdmkbpmgeeghaa
/-- The row, under a short name, for the claim. -/
theorem pyramidWindows_holds : Rows.PyramidWindowsSaid := pyramidWindows.proved
#print axioms pyramidWindows_holds
end Go.Proofs.Ytcdmkbpmgeeghaa
