/- LayoutPartitions: the law's row holds at every input. The function's walk is the executor's (Rx), sound by s_LayoutPartitions; its arguments are opened here. -/
import Derived.Test.YtnhjhjkhfdlapaaRows
import Derived.Test.YtnhjhjkhfdlapaaRS3
import Derived.Test.YtnhjhjkhfdlapaaRxD
import Derived.WalkKit
import Derived.ProofKit
import Derived.OpenShut
import Derived.ShutString
import Derived.ChangeOld
import Derived.Below
import Derived.SizedLaws
namespace Go.Proofs.Ytnhjhjkhfdlapaa.layoutPartitions
open Go Go.Rx Go.Rx.Ch24
open Go.ChangeShapes Go.WideShapes Go.ChangeAt Go.RowKit
set_option linter.unusedVariables false
set_option maxRecDepth 100000
theorem own : ownKnob Try.prog.godebug = none := by kernel_rfl
theorem laidOut : laidOutB Try.prog = true := by kernel_rfl
theorem opC_23 {H : Type} {enc : TypeId × Value → H} {w : World} : OpC enc Try.prog w 23 (fun q => ∃ (x0 : Int) (x1 : Int) (x2 : Int) (x3 : Int), q = [.int .i64 x0, .int .i64 x1, .int .i64 x2, .int .i64 x3] ∧ (Lit.int .i64 x0).wf = true ∧ (Lit.int .i64 x1).wf = true ∧ (Lit.int .i64 x2).wf = true ∧ (Lit.int .i64 x3).wf = true) := by
  intro base fuel spare held cs x h
  obtain ⟨ys, n, _, _, hlen, hyl, hf⟩ := DataW.trod_struct Try.underlying23 h
  obtain ⟨q0, h0, x0, rfl, wx0⟩ := fldC hyl hf 0 _ rfl 1 (by kernel_rfl) (opC_int Try.underlying3)
  obtain ⟨q1, h1, x1, rfl, wx1⟩ := fldC hyl hf 1 _ rfl 1 (by kernel_rfl) (opC_int Try.underlying3)
  obtain ⟨q2, h2, x2, rfl, wx2⟩ := fldC hyl hf 2 _ rfl 1 (by kernel_rfl) (opC_int Try.underlying3)
  obtain ⟨q3, h3, x3, rfl, wx3⟩ := fldC hyl hf 3 _ rfl 1 (by kernel_rfl) (opC_int Try.underlying3)
  have hl : cs.length = 4 := hlen.trans (by kernel_rfl)
  exact ⟨_, (show F2 (RC (fun _ => False) w (LB []) (fun _ => none)) _ (cs.drop 0) from (catqC 0 1 h0 (catqC 1 1 h1 (catqC 2 1 h2 (endqC 3 1 h3 hl))))), x0, x1, x2, x3, rfl, wx0, wx1, wx2, wx3⟩
theorem opT_73 {H : Type} {enc : TypeId × Value → H} {w : World} : OpT enc Try.prog w (.pair (.int .i64) (.pair .bool (.pair (.int .i64) (.int .i64)))) 73 (fun (y : (Int × Bool × Int × Int)) => ((Lit.int .i64 (y).1).wf = true) ∧ (True) ∧ ((Lit.int .i64 (y).2.2.1).wf = true) ∧ ((Lit.int .i64 (y).2.2.2).wf = true)) := by
  intro base fuel spare held cs x h
  obtain ⟨ys, n, _, _, hlen, hyl, hf⟩ := DataW.trod_struct Try.underlying73 h
  obtain ⟨a0, h0, w0⟩ := fldT (s := (.int .i64)) hyl hf 0 _ rfl 1 (by kernel_rfl) (opT_int Try.underlying3)
  obtain ⟨a1, h1, w1⟩ := fldT (s := .bool) hyl hf 1 _ rfl 1 (by kernel_rfl) (opT_bool Try.underlying4)
  obtain ⟨a2, h2, w2⟩ := fldT (s := (.int .i64)) hyl hf 2 _ rfl 1 (by kernel_rfl) (opT_int Try.underlying3)
  obtain ⟨a3, h3, w3⟩ := fldT (s := (.int .i64)) hyl hf 3 _ rfl 1 (by kernel_rfl) (opT_int Try.underlying3)
  have hl : cs.length = 4 := hlen.trans (by kernel_rfl)
  refine ⟨(a0, (a1, (a2, a3))), ?_, ⟨w0, w1, w2, w3⟩⟩
  show RT w _ (.pair (.int .i64) (.pair .bool (.pair (.int .i64) (.int .i64)))) (a0, (a1, (a2, a3))) (cs.drop 0)
  exact (catqT 0 1 h0 (catqT 1 1 h1 (catqT 2 1 h2 (endqT 3 1 h3 hl))))
theorem opC_26 {H : Type} {enc : TypeId × Value → H} {w : World} : OpC enc Try.prog w 26 (fun q => ∃ (x0 : Int) (x1 : Int) (x2 : Int) (x3 : Int) (x4 : Int) (x5 : Int) (x6 : List ((Int × Bool × Int × Int))), q = [.int .i64 x0, .int .i64 x1, .int .i64 x2, .int .i64 x3, .int .i64 x4, .int .i64 x5, .lst (.pair (.int .i64) (.pair .bool (.pair (.int .i64) (.int .i64)))) x6] ∧ (Lit.int .i64 x0).wf = true ∧ (Lit.int .i64 x1).wf = true ∧ (Lit.int .i64 x2).wf = true ∧ (Lit.int .i64 x3).wf = true ∧ (Lit.int .i64 x4).wf = true ∧ (Lit.int .i64 x5).wf = true ∧ (x6.length ≤ maxLen ∧ ∀ z2 ∈ (x6 : List ((Int × Bool × Int × Int))), ((Lit.int .i64 (z2).1).wf = true) ∧ (True) ∧ ((Lit.int .i64 (z2).2.2.1).wf = true) ∧ ((Lit.int .i64 (z2).2.2.2).wf = true))) := by
  intro base fuel spare held cs x h
  obtain ⟨ys, n, _, _, hlen, hyl, hf⟩ := DataW.trod_struct Try.underlying26 h
  obtain ⟨q0, h0, x0, x1, x2, x3, rfl, wx0, wx1, wx2, wx3⟩ := fldC hyl hf 0 _ rfl 4 (by kernel_rfl) opC_23
  obtain ⟨q1, h1, x4, rfl, wx4⟩ := fldC hyl hf 1 _ rfl 1 (by kernel_rfl) (opC_int Try.underlying3)
  obtain ⟨q2, h2, x5, rfl, wx5⟩ := fldC hyl hf 2 _ rfl 1 (by kernel_rfl) (opC_int Try.underlying3)
  obtain ⟨q3, h3, x6, rfl, wx6⟩ := fldC hyl hf 3 _ rfl 1 (by kernel_rfl) (opC_list (s := (.pair (.int .i64) (.pair .bool (.pair (.int .i64) (.int .i64))))) Try.underlying24 (by kernel_rfl) opT_73)
  have hl : cs.length = 7 := hlen.trans (by kernel_rfl)
  exact ⟨_, (show F2 (RC (fun _ => False) w (LB []) (fun _ => none)) _ (cs.drop 0) from (catqC 0 4 h0 (catqC 4 1 h1 (catqC 5 1 h2 (endqC 6 1 h3 hl))))), x0, x1, x2, x3, x4, x5, x6, rfl, wx0, wx1, wx2, wx3, wx4, wx5, wx6⟩
theorem opT_61 {H : Type} {enc : TypeId × Value → H} {w : World} : OpT enc Try.prog w (.pair (.int .i64) (.int .i64)) 61 (fun (y : (Int × Int)) => ((Lit.int .i64 (y).1).wf = true) ∧ ((Lit.int .i64 (y).2).wf = true)) := by
  intro base fuel spare held cs x h
  obtain ⟨ys, n, _, _, hlen, hyl, hf⟩ := DataW.trod_struct Try.underlying61 h
  obtain ⟨a0, h0, w0⟩ := fldT (s := (.int .i64)) hyl hf 0 _ rfl 1 (by kernel_rfl) (opT_int Try.underlying3)
  obtain ⟨a1, h1, w1⟩ := fldT (s := (.int .i64)) hyl hf 1 _ rfl 1 (by kernel_rfl) (opT_int Try.underlying3)
  have hl : cs.length = 2 := hlen.trans (by kernel_rfl)
  refine ⟨(a0, a1), ?_, ⟨w0, w1⟩⟩
  show RT w _ (.pair (.int .i64) (.int .i64)) (a0, a1) (cs.drop 0)
  exact (catqT 0 1 h0 (endqT 1 1 h1 hl))
theorem opC_33 {H : Type} {enc : TypeId × Value → H} {w : World} : OpC enc Try.prog w 33 (fun q => ∃ (x0 : Bool) (x1 : Bool) (x2 : Bool) (x3 : Bool) (x4 : Bool), q = [.bool x0, .bool x1, .bool x2, .bool x3, .bool x4] ∧ True ∧ True ∧ True ∧ True ∧ True) := by
  intro base fuel spare held cs x h
  obtain ⟨ys, n, _, _, hlen, hyl, hf⟩ := DataW.trod_struct Try.underlying33 h
  obtain ⟨q0, h0, x0, rfl⟩ := fldC hyl hf 0 _ rfl 1 (by kernel_rfl) (opC_bool Try.underlying4)
  obtain ⟨q1, h1, x1, rfl⟩ := fldC hyl hf 1 _ rfl 1 (by kernel_rfl) (opC_bool Try.underlying4)
  obtain ⟨q2, h2, x2, rfl⟩ := fldC hyl hf 2 _ rfl 1 (by kernel_rfl) (opC_bool Try.underlying4)
  obtain ⟨q3, h3, x3, rfl⟩ := fldC hyl hf 3 _ rfl 1 (by kernel_rfl) (opC_bool Try.underlying4)
  obtain ⟨q4, h4, x4, rfl⟩ := fldC hyl hf 4 _ rfl 1 (by kernel_rfl) (opC_bool Try.underlying4)
  have hl : cs.length = 5 := hlen.trans (by kernel_rfl)
  exact ⟨_, (show F2 (RC (fun _ => False) w (LB []) (fun _ => none)) _ (cs.drop 0) from (catqC 0 1 h0 (catqC 1 1 h1 (catqC 2 1 h2 (catqC 3 1 h3 (endqC 4 1 h4 hl)))))), x0, x1, x2, x3, x4, rfl, trivial, trivial, trivial, trivial, trivial⟩
theorem opC_36 {H : Type} {enc : TypeId × Value → H} {w : World} : OpC enc Try.prog w 36 (fun q => ∃ (x0 : Int) (x1 : Int) (x2 : Int) (x3 : Int) (x4 : Int) (x5 : List ((Int × Int))) (x6 : Int) (x7 : Int) (x8 : Bool) (x9 : Bool) (x10 : Bool) (x11 : Bool) (x12 : Bool) (x13 : Bool) (x14 : Bool) (x15 : Bool) (x16 : List Int) (x17 : Int) (x18 : Int), q = [.int .i64 x0, .int .i64 x1, .int .i64 x2, .int .i64 x3, .int .i64 x4, .lst (.pair (.int .i64) (.int .i64)) x5, .int .i64 x6, .int .i64 x7, .bool x8, .bool x9, .bool x10, .bool x11, .bool x12, .bool x13, .bool x14, .bool x15, .lst (.int .i64) x16, .int .i64 x17, .int .i64 x18] ∧ (Lit.int .i64 x0).wf = true ∧ (Lit.int .i64 x1).wf = true ∧ (Lit.int .i64 x2).wf = true ∧ (Lit.int .i64 x3).wf = true ∧ (Lit.int .i64 x4).wf = true ∧ (x5.length ≤ maxLen ∧ ∀ z2 ∈ (x5 : List ((Int × Int))), ((Lit.int .i64 (z2).1).wf = true) ∧ ((Lit.int .i64 (z2).2).wf = true)) ∧ (Lit.int .i64 x6).wf = true ∧ (Lit.int .i64 x7).wf = true ∧ True ∧ True ∧ True ∧ True ∧ True ∧ True ∧ True ∧ True ∧ (x16.length ≤ maxLen ∧ ∀ z3 ∈ (x16 : List Int), (Lit.int .i64 z3).wf = true) ∧ (Lit.int .i64 x17).wf = true ∧ (Lit.int .i64 x18).wf = true) := by
  intro base fuel spare held cs x h
  obtain ⟨ys, n, _, _, hlen, hyl, hf⟩ := DataW.trod_struct Try.underlying36 h
  obtain ⟨q0, h0, x0, rfl, wx0⟩ := fldC hyl hf 0 _ rfl 1 (by kernel_rfl) (opC_int Try.underlying28)
  obtain ⟨q1, h1, x1, rfl, wx1⟩ := fldC hyl hf 1 _ rfl 1 (by kernel_rfl) (opC_int Try.underlying3)
  obtain ⟨q2, h2, x2, rfl, wx2⟩ := fldC hyl hf 2 _ rfl 1 (by kernel_rfl) (opC_int Try.underlying29)
  obtain ⟨q3, h3, x3, rfl, wx3⟩ := fldC hyl hf 3 _ rfl 1 (by kernel_rfl) (opC_int Try.underlying3)
  obtain ⟨q4, h4, x4, rfl, wx4⟩ := fldC hyl hf 4 _ rfl 1 (by kernel_rfl) (opC_int Try.underlying3)
  obtain ⟨q5, h5, x5, rfl, wx5⟩ := fldC hyl hf 5 _ rfl 1 (by kernel_rfl) (opC_list (s := (.pair (.int .i64) (.int .i64))) Try.underlying30 (by kernel_rfl) opT_61)
  obtain ⟨q6, h6, x6, rfl, wx6⟩ := fldC hyl hf 6 _ rfl 1 (by kernel_rfl) (opC_int Try.underlying31)
  obtain ⟨q7, h7, x7, rfl, wx7⟩ := fldC hyl hf 7 _ rfl 1 (by kernel_rfl) (opC_int Try.underlying3)
  obtain ⟨q8, h8, x8, x9, x10, x11, x12, rfl, wx8, wx9, wx10, wx11, wx12⟩ := fldC hyl hf 8 _ rfl 5 (by kernel_rfl) opC_33
  obtain ⟨q9, h9, x13, rfl⟩ := fldC hyl hf 9 _ rfl 1 (by kernel_rfl) (opC_bool Try.underlying4)
  obtain ⟨q10, h10, x14, rfl⟩ := fldC hyl hf 10 _ rfl 1 (by kernel_rfl) (opC_bool Try.underlying4)
  obtain ⟨q11, h11, x15, rfl⟩ := fldC hyl hf 11 _ rfl 1 (by kernel_rfl) (opC_bool Try.underlying4)
  obtain ⟨q12, h12, x16, rfl, wx16⟩ := fldC hyl hf 12 _ rfl 1 (by kernel_rfl) (opC_list (s := (.int .i64)) Try.underlying34 (by kernel_rfl) (opT_int Try.underlying3))
  obtain ⟨q13, h13, x17, rfl, wx17⟩ := fldC hyl hf 13 _ rfl 1 (by kernel_rfl) (opC_int Try.underlying3)
  obtain ⟨q14, h14, x18, rfl, wx18⟩ := fldC hyl hf 14 _ rfl 1 (by kernel_rfl) (opC_int Try.underlying3)
  have hl : cs.length = 19 := hlen.trans (by kernel_rfl)
  exact ⟨_, (show F2 (RC (fun _ => False) w (LB []) (fun _ => none)) _ (cs.drop 0) from (catqC 0 1 h0 (catqC 1 1 h1 (catqC 2 1 h2 (catqC 3 1 h3 (catqC 4 1 h4 (catqC 5 1 h5 (catqC 6 1 h6 (catqC 7 1 h7 (catqC 8 5 h8 (catqC 13 1 h9 (catqC 14 1 h10 (catqC 15 1 h11 (catqC 16 1 h12 (catqC 17 1 h13 (endqC 18 1 h14 hl)))))))))))))))), x0, x1, x2, x3, x4, x5, x6, x7, x8, x9, x10, x11, x12, x13, x14, x15, x16, x17, x18, rfl, wx0, wx1, wx2, wx3, wx4, wx5, wx6, wx7, wx8, wx9, wx10, wx11, wx12, trivial, trivial, trivial, wx16, wx17, wx18⟩
theorem opC_43 {H : Type} {enc : TypeId × Value → H} {w : World} : OpC enc Try.prog w 43 (fun q => ∃ (x0 : Int) (x1 : Int) (x2 : Int) (x3 : Int) (x4 : Int), q = [.int .i64 x0, .int .i64 x1, .int .i64 x2, .int .i64 x3, .int .i64 x4] ∧ (Lit.int .i64 x0).wf = true ∧ (Lit.int .i64 x1).wf = true ∧ (Lit.int .i64 x2).wf = true ∧ (Lit.int .i64 x3).wf = true ∧ (Lit.int .i64 x4).wf = true) := by
  intro base fuel spare held cs x h
  obtain ⟨ys, n, _, _, hlen, hyl, hf⟩ := DataW.trod_struct Try.underlying43 h
  obtain ⟨q0, h0, x0, rfl, wx0⟩ := fldC hyl hf 0 _ rfl 1 (by kernel_rfl) (opC_int Try.underlying3)
  obtain ⟨q1, h1, x1, rfl, wx1⟩ := fldC hyl hf 1 _ rfl 1 (by kernel_rfl) (opC_int Try.underlying3)
  obtain ⟨q2, h2, x2, rfl, wx2⟩ := fldC hyl hf 2 _ rfl 1 (by kernel_rfl) (opC_int Try.underlying3)
  obtain ⟨q3, h3, x3, rfl, wx3⟩ := fldC hyl hf 3 _ rfl 1 (by kernel_rfl) (opC_int Try.underlying3)
  obtain ⟨q4, h4, x4, rfl, wx4⟩ := fldC hyl hf 4 _ rfl 1 (by kernel_rfl) (opC_int Try.underlying3)
  have hl : cs.length = 5 := hlen.trans (by kernel_rfl)
  exact ⟨_, (show F2 (RC (fun _ => False) w (LB []) (fun _ => none)) _ (cs.drop 0) from (catqC 0 1 h0 (catqC 1 1 h1 (catqC 2 1 h2 (catqC 3 1 h3 (endqC 4 1 h4 hl)))))), x0, x1, x2, x3, x4, rfl, wx0, wx1, wx2, wx3, wx4⟩
set_option maxRecDepth 100000 in
theorem lifted (os : Os) (started : os.Started) (H : Type) (enc : TypeId × Value → H) :
    ReturnsInHanded {} Try.checked os 7 .any (Rows.layoutPartitionsSpec.pre6 enc Try.prog Try.f7 Rows.layoutPartitionsRow.domain false) (Rows.layoutPartitionsSpec.post enc Try.prog Try.f7 false true false false) := by
  refine returnsInHanded_of_change_sized (C := Try.checked) own started (by kernel_rfl) Try.func7
    (ChangeSpec.witness6 (enc := enc) (C := Try.checked) false ⟨#[], #[.agg #[.int .i64 0, .int .i64 0, .int .i64 0, .int .i64 0, .int .i64 0, .int .i64 0, .slice none 0 0], .agg #[.int .i64 0, .int .i64 0, .int .i64 0, .int .i64 0, .int .i64 0, .slice none 0 0, .int .i64 0, .int .i64 0, .bool false, .bool false, .bool false, .bool false, .bool false, .bool false, .bool false, .bool false, .slice none 0 0, .int .i64 0, .int .i64 0], .agg #[.int .i64 0, .int .i64 0, .int .i64 0, .int .i64 0, .int .i64 0]], []⟩ 8 (by kernel_rfl) (by kernel_rfl) (by kernel_rfl) (by kernel_rfl)) ?_
  intro W base args ds gs before hval0 hW hcnd hsz0 _
  have hval : ∀ (j : Nat) t v, Try.f7.params[j]? = some t → args[j]? = some v → Value.okWide Try.prog W .any base t v := hval0
  have hW' := hW
  obtain ⟨p, q, hA0, hV, rfl, hfz, hnd⟩ := hW
  have hA : DataW.TrodAll enc Try.prog W 0 (fun _ => true) true Try.f7.params.toList args.toList ds p := hA0
  rw [Try.params7] at hA hval
  obtain ⟨v0, vs0, d0, ds0, p0, q0, hargs, rfl, rfl, h0, r0⟩ := trodAll_cons hA
  obtain ⟨v1, vs1, d1, ds1, p1, q1, rfl, rfl, rfl, h1, r1⟩ := trodAll_cons r0
  obtain ⟨v2, vs2, d2, ds2, p2, q2, rfl, rfl, rfl, h2, r2⟩ := trodAll_cons r1
  obtain ⟨rfl, rfl, rfl⟩ := trodAll_nil r2
  obtain rfl : args = #[v0, v1, v2] := by cases args; simp_all
  obtain ⟨rfl, rfl⟩ := trodVars_none hV
  have k0 := h0
  have lt0 : ∀ x ∈ p0, x.block < W.heap.size := by obtain ⟨m, hm⟩ := k0; exact DataW.trod_lt m _ _ _ hm
  obtain ⟨cs0, rfl, hz0⟩ := okWide_struct Try.underlying26 (hval 0 26 v0 rfl rfl)
  obtain ⟨fu0, hf0⟩ := h0
  obtain ⟨q0, hq0, x0_0, x0_1, x0_2, x0_3, x0_4, x0_5, x0_6, rfl, wx0_0, wx0_1, wx0_2, wx0_3, wx0_4, wx0_5, wx0_6⟩ := opC_26 _ _ _ _ _ _ hf0
  have k1 := h1
  have lt1 : ∀ x ∈ p1, x.block < W.heap.size := by obtain ⟨m, hm⟩ := k1; exact DataW.trod_lt m _ _ _ hm
  obtain ⟨cs1, rfl, hz1⟩ := okWide_struct Try.underlying36 (hval 1 36 v1 rfl rfl)
  obtain ⟨fu1, hf1⟩ := h1
  obtain ⟨q1, hq1, x1_0, x1_1, x1_2, x1_3, x1_4, x1_5, x1_6, x1_7, x1_8, x1_9, x1_10, x1_11, x1_12, x1_13, x1_14, x1_15, x1_16, x1_17, x1_18, rfl, wx1_0, wx1_1, wx1_2, wx1_3, wx1_4, wx1_5, wx1_6, wx1_7, wx1_8, wx1_9, wx1_10, wx1_11, wx1_12, wx1_13, wx1_14, wx1_15, wx1_16, wx1_17, wx1_18⟩ := opC_36 _ _ _ _ _ _ hf1
  have k2 := h2
  have lt2 : ∀ x ∈ p2, x.block < W.heap.size := by obtain ⟨m, hm⟩ := k2; exact DataW.trod_lt m _ _ _ hm
  obtain ⟨cs2, rfl, hz2⟩ := okWide_struct Try.underlying43 (hval 2 43 v2 rfl rfl)
  obtain ⟨fu2, hf2⟩ := h2
  obtain ⟨q2, hq2, x2_0, x2_1, x2_2, x2_3, x2_4, rfl, wx2_0, wx2_1, wx2_2, wx2_3, wx2_4⟩ := opC_43 _ _ _ _ _ _ hf2
  have hok : ok_LayoutPartitions (⟨x0_0, x0_1, x0_2, x0_3, x0_4, x0_5, x0_6⟩ : Hd) (⟨x1_0, x1_1, x1_2, x1_3, x1_4, x1_5, x1_6, x1_7, x1_8, x1_9, x1_10, x1_11, x1_12, x1_13, x1_14, x1_15, x1_16, x1_17, x1_18⟩ : Pm) x2_0 x2_1 x2_2 x2_3 x2_4 = true := by
    rfl
  have hG : G_LayoutPartitions [.agg [.int .i64 x0_0, .int .i64 x0_1, .int .i64 x0_2, .int .i64 x0_3, .int .i64 x0_4, .int .i64 x0_5, .lst (.pair (.int .i64) (.pair .bool (.pair (.int .i64) (.int .i64)))) x0_6], .agg [.int .i64 x1_0, .int .i64 x1_1, .int .i64 x1_2, .int .i64 x1_3, .int .i64 x1_4, .lst (.pair (.int .i64) (.int .i64)) x1_5, .int .i64 x1_6, .int .i64 x1_7, .bool x1_8, .bool x1_9, .bool x1_10, .bool x1_11, .bool x1_12, .bool x1_13, .bool x1_14, .bool x1_15, .lst (.int .i64) x1_16, .int .i64 x1_17, .int .i64 x1_18], .agg [.int .i64 x2_0, .int .i64 x2_1, .int .i64 x2_2, .int .i64 x2_3, .int .i64 x2_4]] [] = some (true, ⟨.one (.bool true), [], []⟩) := by
    have e : G_LayoutPartitions [.agg [.int .i64 x0_0, .int .i64 x0_1, .int .i64 x0_2, .int .i64 x0_3, .int .i64 x0_4, .int .i64 x0_5, .lst (.pair (.int .i64) (.pair .bool (.pair (.int .i64) (.int .i64)))) x0_6], .agg [.int .i64 x1_0, .int .i64 x1_1, .int .i64 x1_2, .int .i64 x1_3, .int .i64 x1_4, .lst (.pair (.int .i64) (.int .i64)) x1_5, .int .i64 x1_6, .int .i64 x1_7, .bool x1_8, .bool x1_9, .bool x1_10, .bool x1_11, .bool x1_12, .bool x1_13, .bool x1_14, .bool x1_15, .lst (.int .i64) x1_16, .int .i64 x1_17, .int .i64 x1_18], .agg [.int .i64 x2_0, .int .i64 x2_1, .int .i64 x2_2, .int .i64 x2_3, .int .i64 x2_4]] [] = some (ok_LayoutPartitions (⟨x0_0, x0_1, x0_2, x0_3, x0_4, x0_5, x0_6⟩ : Hd) (⟨x1_0, x1_1, x1_2, x1_3, x1_4, x1_5, x1_6, x1_7, x1_8, x1_9, x1_10, x1_11, x1_12, x1_13, x1_14, x1_15, x1_16, x1_17, x1_18⟩ : Pm) x2_0 x2_1 x2_2 x2_3 x2_4, ⟨.one (.bool true), [], []⟩) := by kernel_rfl
    rw [e, hok]
  refine (law_calls s_LayoutPartitions hG rfl (W := W) (vals := [.agg cs0, .agg cs1, .agg cs2]) ⟨⟨cs0, rfl, hq0⟩, ⟨⟨cs1, rfl, hq1⟩, ⟨⟨cs2, rfl, hq2⟩, trivial⟩⟩⟩).mono ?_
  rintro e W' ⟨rfl, bel⟩
  exact ⟨_, rfl, _, _, _, [], _, [], hW', trodAll_mk1 (shut_bool Try.underlying4 _), (trodAll_cons_mk (Below.trod laidOut (by kernel_rfl) (of_decide_eq_true (by kernel_rfl)) k0 bel lt0) (trodAll_cons_mk (Below.trod laidOut (by kernel_rfl) (of_decide_eq_true (by kernel_rfl)) k1 bel lt1) (trodAll_cons_mk (Below.trod laidOut (by kernel_rfl) (of_decide_eq_true (by kernel_rfl)) k2 bel lt2) trodAll_mk0))), rfl, bel.frame _, fun h => by cases h⟩
theorem over : Rows.layoutPartitionsRow.holds Try.pinned (OpenSpec.ofChange Rows.layoutPartitionsSpec) :=
  OpenClaim.holds_of_wide 7 Try.f7 rfl rfl rfl rfl rfl rfl rfl ⟨rfl, rfl, rfl, rfl, rfl⟩ rfl rfl rfl rfl rfl (by kernel_rfl) Try.func7 (by kernel_rfl)
    (of_decide_eq_true (by kernel_rfl)) (by unfold Func.isWrapper; first | (rw [if_pos (by decide +kernel)]; kernel_rfl) | (rw [if_neg (by decide +kernel)]; exact ⟨rfl, rfl⟩))
    (fun os started H enc _ => lifted os started H enc)
theorem proved : Rows.LayoutPartitionsSaid := over
end Go.Proofs.Ytnhjhjkhfdlapaa.layoutPartitions
namespace Go.Proofs.Ytnhjhjkhfdlapaa
/-- The row, under a short name, for the claim. -/
theorem layoutPartitions_holds : Rows.LayoutPartitionsSaid := layoutPartitions.proved
#print axioms layoutPartitions_holds
end Go.Proofs.Ytnhjhjkhfdlapaa
