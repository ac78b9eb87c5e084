/- DwtMerges: the law's row holds at every input. The function's walk is the executor's (Rx), sound by s_DwtMerges; its arguments are opened here. -/
import Derived.Test.YtfobgkchlcbniaaRows
import Derived.Test.YtfobgkchlcbniaaRS5
import Derived.Test.YtfobgkchlcbniaaRxD
import Derived.WalkKit
import Derived.ProofKit
import Derived.OpenShut
import Derived.ShutString
import Derived.ChangeOld
import Derived.Below
import Derived.SizedLaws
namespace Go.Proofs.Ytfobgkchlcbniaa.dwtMerges
open Go Go.Rx Go.Rx.Ch05
open Go.ChangeShapes Go.WideShapes Go.ChangeAt Go.RowKit
set_option linter.unusedVariables false
set_option maxRecDepth 100000
theorem own : ownKnob Try.prog.godebug = none := by kernel_rfl
theorem laidOut : laidOutB Try.prog = true := by kernel_rfl
theorem opC_23 {H : Type} {enc : TypeId × Value → H} {w : World} : OpC enc Try.prog w 23 (fun q => ∃ (x0 : Int) (x1 : Int) (x2 : Int) (x3 : Int), q = [.int .i64 x0, .int .i64 x1, .int .i64 x2, .int .i64 x3] ∧ (Lit.int .i64 x0).wf = true ∧ (Lit.int .i64 x1).wf = true ∧ (Lit.int .i64 x2).wf = true ∧ (Lit.int .i64 x3).wf = true) := by
  intro base fuel spare held cs x h
  obtain ⟨ys, n, _, _, hlen, hyl, hf⟩ := DataW.trod_struct Try.underlying23 h
  obtain ⟨q0, h0, x0, rfl, wx0⟩ := fldC hyl hf 0 _ rfl 1 (by kernel_rfl) (opC_int Try.underlying3)
  obtain ⟨q1, h1, x1, rfl, wx1⟩ := fldC hyl hf 1 _ rfl 1 (by kernel_rfl) (opC_int Try.underlying3)
  obtain ⟨q2, h2, x2, rfl, wx2⟩ := fldC hyl hf 2 _ rfl 1 (by kernel_rfl) (opC_int Try.underlying3)
  obtain ⟨q3, h3, x3, rfl, wx3⟩ := fldC hyl hf 3 _ rfl 1 (by kernel_rfl) (opC_int Try.underlying3)
  have hl : cs.length = 4 := hlen.trans (by kernel_rfl)
  exact ⟨_, (show F2 (RC (fun _ => False) w (LB []) (fun _ => none)) _ (cs.drop 0) from (catqC 0 1 h0 (catqC 1 1 h1 (catqC 2 1 h2 (endqC 3 1 h3 hl))))), x0, x1, x2, x3, rfl, wx0, wx1, wx2, wx3⟩
theorem opC_30 {H : Type} {enc : TypeId × Value → H} {w : World} : OpC enc Try.prog w 30 (fun q => ∃ (x0 : Int) (x1 : Int) (x2 : Int) (x3 : Int) (x4 : List Int), q = [.int .i64 x0, .int .i64 x1, .int .i64 x2, .int .i64 x3, .lst (.int .i64) x4] ∧ (Lit.int .i64 x0).wf = true ∧ (Lit.int .i64 x1).wf = true ∧ (Lit.int .i64 x2).wf = true ∧ (Lit.int .i64 x3).wf = true ∧ (x4.length ≤ maxLen ∧ ∀ z2 ∈ (x4 : List Int), (Lit.int .i64 z2).wf = true)) := by
  intro base fuel spare held cs x h
  obtain ⟨ys, n, _, _, hlen, hyl, hf⟩ := DataW.trod_struct Try.underlying30 h
  obtain ⟨q0, h0, x0, x1, x2, x3, rfl, wx0, wx1, wx2, wx3⟩ := fldC hyl hf 0 _ rfl 4 (by kernel_rfl) opC_23
  obtain ⟨q1, h1, x4, rfl, wx4⟩ := fldC hyl hf 1 _ rfl 1 (by kernel_rfl) (opC_list (s := (.int .i64)) Try.underlying28 (by kernel_rfl) (opT_int Try.underlying3))
  have hl : cs.length = 5 := hlen.trans (by kernel_rfl)
  exact ⟨_, (show F2 (RC (fun _ => False) w (LB []) (fun _ => none)) _ (cs.drop 0) from (catqC 0 4 h0 (endqC 4 1 h1 hl))), x0, x1, x2, x3, x4, rfl, wx0, wx1, wx2, wx3, wx4⟩
theorem opC_33 {H : Type} {enc : TypeId × Value → H} {w : World} : OpC enc Try.prog w 33 (fun q => ∃ (x0 : Int) (x1 : Int) (x2 : Int) (x3 : Int) (x4 : List Int) (x5 : Int) (x6 : Int) (x7 : Int) (x8 : Int) (x9 : List Int) (x10 : Int) (x11 : Int) (x12 : Int) (x13 : Int) (x14 : List Int) (x15 : Int) (x16 : Int) (x17 : Int) (x18 : Int) (x19 : List Int), q = [.int .i64 x0, .int .i64 x1, .int .i64 x2, .int .i64 x3, .lst (.int .i64) x4, .int .i64 x5, .int .i64 x6, .int .i64 x7, .int .i64 x8, .lst (.int .i64) x9, .int .i64 x10, .int .i64 x11, .int .i64 x12, .int .i64 x13, .lst (.int .i64) x14, .int .i64 x15, .int .i64 x16, .int .i64 x17, .int .i64 x18, .lst (.int .i64) x19] ∧ (Lit.int .i64 x0).wf = true ∧ (Lit.int .i64 x1).wf = true ∧ (Lit.int .i64 x2).wf = true ∧ (Lit.int .i64 x3).wf = true ∧ (x4.length ≤ maxLen ∧ ∀ z2 ∈ (x4 : List Int), (Lit.int .i64 z2).wf = true) ∧ (Lit.int .i64 x5).wf = true ∧ (Lit.int .i64 x6).wf = true ∧ (Lit.int .i64 x7).wf = true ∧ (Lit.int .i64 x8).wf = true ∧ (x9.length ≤ maxLen ∧ ∀ z2 ∈ (x9 : List Int), (Lit.int .i64 z2).wf = true) ∧ (Lit.int .i64 x10).wf = true ∧ (Lit.int .i64 x11).wf = true ∧ (Lit.int .i64 x12).wf = true ∧ (Lit.int .i64 x13).wf = true ∧ (x14.length ≤ maxLen ∧ ∀ z3 ∈ (x14 : List Int), (Lit.int .i64 z3).wf = true) ∧ (Lit.int .i64 x15).wf = true ∧ (Lit.int .i64 x16).wf = true ∧ (Lit.int .i64 x17).wf = true ∧ (Lit.int .i64 x18).wf = true ∧ (x19.length ≤ maxLen ∧ ∀ z3 ∈ (x19 : List Int), (Lit.int .i64 z3).wf = true)) := by
  intro base fuel spare held cs x h
  obtain ⟨ys, n, _, _, hlen, hyl, hf⟩ := DataW.trod_array Try.underlying33 h
  obtain ⟨q0, h0, x0, x1, x2, x3, x4, rfl, wx0, wx1, wx2, wx3, wx4⟩ := fldA hyl hf 0 (by decide) 5 (by kernel_rfl) opC_30
  obtain ⟨q1, h1, x5, x6, x7, x8, x9, rfl, wx5, wx6, wx7, wx8, wx9⟩ := fldA hyl hf 1 (by decide) 5 (by kernel_rfl) opC_30
  obtain ⟨q2, h2, x10, x11, x12, x13, x14, rfl, wx10, wx11, wx12, wx13, wx14⟩ := fldA hyl hf 2 (by decide) 5 (by kernel_rfl) opC_30
  obtain ⟨q3, h3, x15, x16, x17, x18, x19, rfl, wx15, wx16, wx17, wx18, wx19⟩ := fldA hyl hf 3 (by decide) 5 (by kernel_rfl) opC_30
  have hl : cs.length = 20 := hlen.trans (by kernel_rfl)
  exact ⟨_, (show F2 (RC (fun _ => False) w (LB []) (fun _ => none)) _ (cs.drop 0) from (catqC 0 5 h0 (catqC 5 5 h1 (catqC 10 5 h2 (endqC 15 5 h3 hl))))), x0, x1, x2, x3, x4, x5, x6, x7, x8, x9, x10, x11, x12, x13, x14, x15, x16, x17, x18, x19, rfl, wx0, wx1, wx2, wx3, wx4, wx5, wx6, wx7, wx8, wx9, wx10, wx11, wx12, wx13, wx14, wx15, wx16, wx17, wx18, wx19⟩
set_option maxRecDepth 100000 in
theorem lifted (os : Os) (started : os.Started) (H : Type) (enc : TypeId × Value → H) :
    ReturnsInHanded {} Try.checked os 5 .any (Rows.dwtMergesSpec.pre6 enc Try.prog Try.f5 Rows.dwtMergesRow.domain false) (Rows.dwtMergesSpec.post enc Try.prog Try.f5 false true false false) := by
  refine returnsInHanded_of_change_sized (C := Try.checked) own started (by kernel_rfl) Try.func5
    (ChangeSpec.witness6 (enc := enc) (C := Try.checked) false ⟨#[], #[.agg #[.int .i64 0, .int .i64 0, .int .i64 0, .int .i64 0, .slice none 0 0, .int .i64 0, .int .i64 0, .int .i64 0, .int .i64 0, .slice none 0 0, .int .i64 0, .int .i64 0, .int .i64 0, .int .i64 0, .slice none 0 0, .int .i64 0, .int .i64 0, .int .i64 0, .int .i64 0, .slice none 0 0], .agg #[.int .i64 0, .int .i64 0, .int .i64 0, .int .i64 0], .int .i64 0], []⟩ 8 (by kernel_rfl) (by kernel_rfl) (by kernel_rfl) (by kernel_rfl)) ?_
  intro W base args ds gs before hval0 hW hcnd hsz0 _
  have hval : ∀ (j : Nat) t v, Try.f5.params[j]? = some t → args[j]? = some v → Value.okWide Try.prog W .any base t v := hval0
  have hW' := hW
  obtain ⟨p, q, hA0, hV, rfl, hfz, hnd⟩ := hW
  have hA : DataW.TrodAll enc Try.prog W 0 (fun _ => true) true Try.f5.params.toList args.toList ds p := hA0
  rw [Try.params5] at hA hval
  obtain ⟨v0, vs0, d0, ds0, p0, q0, hargs, rfl, rfl, h0, r0⟩ := trodAll_cons hA
  obtain ⟨v1, vs1, d1, ds1, p1, q1, rfl, rfl, rfl, h1, r1⟩ := trodAll_cons r0
  obtain ⟨v2, vs2, d2, ds2, p2, q2, rfl, rfl, rfl, h2, r2⟩ := trodAll_cons r1
  obtain ⟨rfl, rfl, rfl⟩ := trodAll_nil r2
  obtain rfl : args = #[v0, v1, v2] := by cases args; simp_all
  obtain ⟨rfl, rfl⟩ := trodVars_none hV
  have k0 := h0
  have lt0 : ∀ x ∈ p0, x.block < W.heap.size := by obtain ⟨m, hm⟩ := k0; exact DataW.trod_lt m _ _ _ hm
  obtain ⟨cs0, rfl, hz0⟩ := okWide_arr Try.underlying33 (hval 0 33 v0 rfl rfl)
  obtain ⟨fu0, hf0⟩ := h0
  obtain ⟨q0, hq0, x0_0, x0_1, x0_2, x0_3, x0_4, x0_5, x0_6, x0_7, x0_8, x0_9, x0_10, x0_11, x0_12, x0_13, x0_14, x0_15, x0_16, x0_17, x0_18, x0_19, rfl, wx0_0, wx0_1, wx0_2, wx0_3, wx0_4, wx0_5, wx0_6, wx0_7, wx0_8, wx0_9, wx0_10, wx0_11, wx0_12, wx0_13, wx0_14, wx0_15, wx0_16, wx0_17, wx0_18, wx0_19⟩ := opC_33 _ _ _ _ _ _ hf0
  have k1 := h1
  have lt1 : ∀ x ∈ p1, x.block < W.heap.size := by obtain ⟨m, hm⟩ := k1; exact DataW.trod_lt m _ _ _ hm
  obtain ⟨cs1, rfl, hz1⟩ := okWide_struct Try.underlying23 (hval 1 23 v1 rfl rfl)
  obtain ⟨fu1, hf1⟩ := h1
  obtain ⟨q1, hq1, x1_0, x1_1, x1_2, x1_3, rfl, wx1_0, wx1_1, wx1_2, wx1_3⟩ := opC_23 _ _ _ _ _ _ hf1
  obtain ⟨x2, rfl, rfl, rfl, wx2⟩ := open_int Try.underlying31 (hval 2 31 v2 rfl rfl) h2
  have hok : ok_DwtMerges x0_0 x0_1 x0_2 x0_3 x0_4 x0_5 x0_6 x0_7 x0_8 x0_9 x0_10 x0_11 x0_12 x0_13 x0_14 x0_15 x0_16 x0_17 x0_18 x0_19 x1_0 x1_1 x1_2 x1_3 x2 = true := by
    rfl
  have hG : G_DwtMerges [.agg [.int .i64 x0_0, .int .i64 x0_1, .int .i64 x0_2, .int .i64 x0_3, .lst (.int .i64) x0_4, .int .i64 x0_5, .int .i64 x0_6, .int .i64 x0_7, .int .i64 x0_8, .lst (.int .i64) x0_9, .int .i64 x0_10, .int .i64 x0_11, .int .i64 x0_12, .int .i64 x0_13, .lst (.int .i64) x0_14, .int .i64 x0_15, .int .i64 x0_16, .int .i64 x0_17, .int .i64 x0_18, .lst (.int .i64) x0_19], .agg [.int .i64 x1_0, .int .i64 x1_1, .int .i64 x1_2, .int .i64 x1_3], .one (.int .i64 x2)] [] = some (true, ⟨.one (.bool true), [], []⟩) := by
    have e : G_DwtMerges [.agg [.int .i64 x0_0, .int .i64 x0_1, .int .i64 x0_2, .int .i64 x0_3, .lst (.int .i64) x0_4, .int .i64 x0_5, .int .i64 x0_6, .int .i64 x0_7, .int .i64 x0_8, .lst (.int .i64) x0_9, .int .i64 x0_10, .int .i64 x0_11, .int .i64 x0_12, .int .i64 x0_13, .lst (.int .i64) x0_14, .int .i64 x0_15, .int .i64 x0_16, .int .i64 x0_17, .int .i64 x0_18, .lst (.int .i64) x0_19], .agg [.int .i64 x1_0, .int .i64 x1_1, .int .i64 x1_2, .int .i64 x1_3], .one (.int .i64 x2)] [] = some (ok_DwtMerges x0_0 x0_1 x0_2 x0_3 x0_4 x0_5 x0_6 x0_7 x0_8 x0_9 x0_10 x0_11 x0_12 x0_13 x0_14 x0_15 x0_16 x0_17 x0_18 x0_19 x1_0 x1_1 x1_2 x1_3 x2, ⟨.one (.bool true), [], []⟩) := by kernel_rfl
    rw [e, hok]
  refine (law_calls s_DwtMerges hG rfl (W := W) (vals := [.agg cs0, .agg cs1, _]) ⟨⟨cs0, rfl, hq0⟩, ⟨⟨cs1, rfl, hq1⟩, ⟨rfl, trivial⟩⟩⟩).mono ?_
  rintro e W' ⟨rfl, bel⟩
  exact ⟨_, rfl, _, _, _, [], _, [], hW', trodAll_mk1 (shut_bool Try.underlying4 _), (trodAll_cons_mk (Below.trod laidOut (by kernel_rfl) (of_decide_eq_true (by kernel_rfl)) k0 bel lt0) (trodAll_cons_mk (Below.trod laidOut (by kernel_rfl) (of_decide_eq_true (by kernel_rfl)) k1 bel lt1) (trodAll_cons_mk (shut_int Try.underlying31 wx2) trodAll_mk0))), rfl, bel.frame _, fun h => by cases h⟩
theorem over : Rows.dwtMergesRow.holds Try.pinned (OpenSpec.ofChange Rows.dwtMergesSpec) :=
  OpenClaim.holds_of_wide 5 Try.f5 rfl rfl rfl rfl rfl rfl rfl ⟨rfl, rfl, rfl, rfl, rfl⟩ rfl rfl rfl rfl rfl (by kernel_rfl) Try.func5 (by kernel_rfl)
    (of_decide_eq_true (by kernel_rfl)) (by unfold Func.isWrapper; first | (rw [if_pos (by decide +kernel)]; kernel_rfl) | (rw [if_neg (by decide +kernel)]; exact ⟨rfl, rfl⟩))
    (fun os started H enc _ => lifted os started H enc)
theorem proved : Rows.DwtMergesSaid := over
end Go.Proofs.Ytfobgkchlcbniaa.dwtMerges
namespace Go.Proofs.Ytfobgkchlcbniaa
/-- The row, under a short name, for the claim. -/
theorem dwtMerges_holds : Rows.DwtMergesSaid := dwtMerges.proved
#print axioms dwtMerges_holds
end Go.Proofs.Ytfobgkchlcbniaa
