-- Written by wip/tools/wprint.py (the prover's own program over the kit's print) for this claim. Not trusted: Lean checks it.
import Derived.Test.YtlldikkbbpjigaaRows
import Derived.Test.YtlldikkbbpjigaaPAx22
import Derived.Test.YtlldikkbbpjigaaPurePartitionBandCovers
import Derived.Test.YtlldikkbbpjigaaOW
import Derived.WalkKit
import Derived.ProofKit
import Derived.OpenShut
import Derived.ShutString
import Derived.ChangeOld
import Derived.Below
import Derived.SizedLaws
import Derived.Test.YtlldikkbbpjigaaWSized
namespace Go.Proofs.Ytlldikkbbpjigaa.partitionBandCovers
open Go.ChangeShapes Go.WideShapes Go.ChangeAt Go.RowKit Go.Proofs.YtlldikkbbpjigaaW.PrintWords
open Go.ChangeMaps (open_string shut_string)
set_option linter.unusedVariables false
set_option maxRecDepth 100000
theorem own : ownKnob Try.prog.godebug = none := by kernel_rfl
theorem laidOut : laidOutB Try.prog = true := by kernel_rfl
theorem opens_T23 {H : Type} {enc : TypeId × Value → H} {w : World} : Opens enc Try.prog w PA.k23 23 (fun x => ((Lit.int .i64 x.f0).wf = true ∧ (Lit.int .i64 x.f1).wf = true ∧ (Lit.int .i64 x.f2).wf = true ∧ (Lit.int .i64 x.f3).wf = true)) := by
  intro base fuel spare held cs x h
  obtain ⟨ys, n, _, _, hlen, hyl, hf⟩ := DataW.trod_struct Try.underlying23 h
  obtain ⟨a0, h0, w0⟩ := field_at (d := (Kd.int .i64)) hyl hf 0 _ rfl 1 (by kernel_rfl) (opens_int Try.underlying3)
  obtain ⟨a1, h1, w1⟩ := field_at (d := (Kd.int .i64)) hyl hf 1 _ rfl 1 (by kernel_rfl) (opens_int Try.underlying3)
  obtain ⟨a2, h2, w2⟩ := field_at (d := (Kd.int .i64)) hyl hf 2 _ rfl 1 (by kernel_rfl) (opens_int Try.underlying3)
  obtain ⟨a3, h3, w3⟩ := field_at (d := (Kd.int .i64)) hyl hf 3 _ rfl 1 (by kernel_rfl) (opens_int Try.underlying3)
  have hl : cs.length = 4 := hlen.trans (by kernel_rfl)
  refine ⟨⟨a0, a1, a2, a3⟩, ?_, ?_⟩
  · show (Kd.pair (Kd.int .i64) (Kd.pair (Kd.int .i64) (Kd.pair (Kd.int .i64) (Kd.int .i64)))).K w (a0, (a1, (a2, a3))) (cs.drop 0)
    exact (pair_at 0 1 h0 (pair_at 1 1 h1 (pair_at 2 1 h2 (last_at 3 1 h3 hl))))
  · exact ⟨w0, w1, w2, w3⟩
set_option maxRecDepth 100000 in
theorem lifted (os : Os) (started : os.Started) (H : Type) (enc : TypeId × Value → H) :
    ReturnsInHanded {} Try.checked os 7 .any (Rows.partitionBandCoversSpec.pre6 enc Try.prog Try.f7 Rows.partitionBandCoversRow.domain false) (Rows.partitionBandCoversSpec.post enc Try.prog Try.f7 false true false false) := by
  refine returnsInHanded_of_change_sized (C := Try.checked) own started (by kernel_rfl) Try.func7
    (ChangeSpec.witness6 (enc := enc) (C := Try.checked) false ⟨#[], #[.agg #[.int .i64 0, .int .i64 0, .int .i64 0, .int .i64 0], .int .i64 0, .int .i64 0, .int .i64 0], []⟩ 8 (by kernel_rfl) (by kernel_rfl) (by kernel_rfl) (by kernel_rfl)) ?_
  intro W base args ds gs before hval0 hW hcnd hsz0 _
  have hsz : (DataW.weightsEach Try.prog (Try.f7.params.toList ++ Rows.partitionBandCoversSpec.plain.varTypes Try.prog) (ds ++ gs)).all (· ≤ reachBytes) = true := hsz0
  have hval : ∀ (j : Nat) t v, Try.f7.params[j]? = some t → args[j]? = some v → Value.okWide Try.prog W .any base t v := hval0
  have hW' := hW
  obtain ⟨p, q, hA0, hV, rfl, hfz, hnd⟩ := hW
  have hA : DataW.TrodAll enc Try.prog W 0 (fun _ => true) true Try.f7.params.toList args.toList ds p := hA0
  rw [Try.params7] at hA hval hsz
  obtain ⟨v0, vs0, d0, ds0, p0, q0, hargs, rfl, rfl, h0, r0⟩ := trodAll_cons hA
  obtain ⟨v1, vs1, d1, ds1, p1, q1, rfl, rfl, rfl, h1, r1⟩ := trodAll_cons r0
  obtain ⟨v2, vs2, d2, ds2, p2, q2, rfl, rfl, rfl, h2, r2⟩ := trodAll_cons r1
  obtain ⟨v3, vs3, d3, ds3, p3, q3, rfl, rfl, rfl, h3, r3⟩ := trodAll_cons r2
  obtain ⟨rfl, rfl, rfl⟩ := trodAll_nil r3
  obtain rfl : args = #[v0, v1, v2, v3] := by cases args; simp_all
  obtain ⟨rfl, rfl⟩ := trodVars_none hV
  have k0 := h0
  have lt0 : ∀ x ∈ p0, x.block < W.heap.size := by obtain ⟨m, hm⟩ := k0; exact DataW.trod_lt m _ _ _ hm
  obtain ⟨cs0, rfl, hz0⟩ := okWide_struct Try.underlying23 (hval 0 23 v0 rfl rfl)
  obtain ⟨fu0, hf0⟩ := h0
  obtain ⟨x0, hK0, wl0⟩ := opens_T23 _ _ _ _ _ _ hf0
  have hcs0 := PA.k23_open hK0
  obtain rfl : cs0 = #[.int .i64 x0.f0, .int .i64 x0.f1, .int .i64 x0.f2, .int .i64 x0.f3] := Array.toList_inj.1 hcs0
  obtain ⟨a1, rfl, rfl, rfl, w1⟩ := open_int Try.underlying3 (hval 1 3 v1 rfl rfl) h1
  obtain ⟨a2, rfl, rfl, rfl, w2⟩ := open_int Try.underlying3 (hval 2 3 v2 rfl rfl) h2
  obtain ⟨a3, rfl, rfl, rfl, w3⟩ := open_int Try.underlying30 (hval 3 30 v3 rfl rfl) h3
  clear hA0 hval0 hsz0 hsz
  obtain ⟨kr, hk⟩ := Pure.PartitionBandCovers x0.f0 x0.f1 x0.f2 x0.f3 a1 a2 a3 wl0 w1 w2 w3
  refine (PA.waveletlaw22_PartitionBandCovers.calls kr x0.f0 x0.f1 x0.f2 x0.f3 a1 a2 a3 true W hk).mono ?_
  rintro e W' ⟨rfl, bel0⟩
  have bel : Below W.heap.size W W' := bel0
  exact ⟨_, rfl, _, _, _, [], _, [], hW', trodAll_mk1 (shut_bool Try.underlying4 _), (trodAll_cons_mk (Below.trod laidOut (by kernel_rfl) (of_decide_eq_true (by kernel_rfl)) k0 bel lt0) (trodAll_cons_mk (shut_int Try.underlying3 w1) (trodAll_cons_mk (shut_int Try.underlying3 w2) (trodAll_cons_mk (shut_int Try.underlying30 w3) trodAll_mk0)))), rfl, bel.frame _, fun h => by cases h⟩
theorem over : Rows.partitionBandCoversRow.holds Try.pinned (OpenSpec.ofChange Rows.partitionBandCoversSpec) :=
  OpenClaim.holds_of_wide 7 Try.f7 rfl rfl rfl rfl rfl rfl rfl ⟨rfl, rfl, rfl, rfl, rfl⟩ rfl rfl rfl rfl rfl (by kernel_rfl) Try.func7 (by kernel_rfl)
    (of_decide_eq_true (by kernel_rfl)) (by unfold Func.isWrapper; first | (rw [if_pos (by decide +kernel)]; kernel_rfl) | (rw [if_neg (by decide +kernel)]; exact ⟨rfl, rfl⟩))
    (fun os started H enc _ => lifted os started H enc)
theorem proved : Rows.PartitionBandCoversSaid := over
#print axioms proved
end Go.Proofs.Ytlldikkbbpjigaa.partitionBandCovers
namespace Go.Proofs.Ytlldikkbbpjigaa
/-- The row, under a short name, for the claim. -/
theorem partitionBandCovers_holds : Rows.PartitionBandCoversSaid := partitionBandCovers.proved
end Go.Proofs.Ytlldikkbbpjigaa
