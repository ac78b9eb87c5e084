-- Written by wip/tools/wprint.py (the prover's own program over the kit's print) for this claim. Not trusted: Lean checks it.
import Derived.Test.YtkpehgakdooodaaPAx0
import Derived.Test.YtkpehgakdooodaaPAx9
import Derived.Test.YtkpehgakdooodaaPAx18
import Derived.Test.YtkpehgakdooodaaPAx20
namespace Go.Proofs.Ytkpehgakdooodaa.PA
open Go.RowKit Go.Proofs.YtkpehgakdooodaaW.PrintWords Go.Proofs.YtkpehgakdooodaaW.PrintLast Go.Proofs.YtkpehgakdooodaaW.PrintMore
attribute [local go_sem] max2_int min2_int max_two min_two max_three min_three max_four min_four   -- for this text's walks alone
set_option linter.unusedVariables false
set_option linter.unusedSimpArgs false

/-! ### waveletlaw04_LiftBounds: function 9 -/
def waveletlaw04_LiftBounds.f (k : Nat) (a0 : Int) (a1 : Int) : Option (Bool) := (lift_Margin.f k a1).bind fun t455 => ((waveletref04_Margin.f k a1).bind fun t456 => (if t455 = t456 then ((lift_HighBound.f k a0 a1).bind fun t457 => ((waveletref04_HighBound.f k a0 a1).bind fun t458 => (if t457 = t458 then ((lift_LowBound.f k a0 a1).bind fun t459 => ((waveletref04_LowBound.f k a0 a1).bind fun t460 => (if t459 = t460 then ((waveletlaw04_exampleHolds.f k).bind fun t461 => (some t461)) else (some false)))) else (some false)))) else (some false)))
theorem waveletlaw04_LiftBounds.mono : ∀ a0 a1 k, LeO (waveletlaw04_LiftBounds.f k a0 a1) (waveletlaw04_LiftBounds.f (k + 1) a0 a1) := by
  intro a0 a1 k
  unfold waveletlaw04_LiftBounds.f
  repeat' first
      | (with_reducible exact lift_HighBound.mono _ _ _)
      | (with_reducible exact lift_LowBound.mono _ _ _)
      | (with_reducible exact lift_Margin.mono _ _)
      | (with_reducible exact waveletlaw04_exampleHolds.mono _)
      | (with_reducible exact waveletref04_HighBound.mono _ _ _)
      | (with_reducible exact waveletref04_LowBound.mono _ _ _)
      | (with_reducible exact waveletref04_Margin.mono _ _)
      | (with_reducible exact LeO.refl _)
      | (with_reducible exact LeO.none _)
      | (with_reducible refine LeO.ite ?_ ?_)
      | (with_reducible refine LeO.bind ?_ (fun _ => ?_))
      | exact lift_HighBound.mono _ _ _
      | exact lift_LowBound.mono _ _ _
      | exact lift_Margin.mono _ _
      | exact waveletlaw04_exampleHolds.mono _
      | exact waveletref04_HighBound.mono _ _ _
      | exact waveletref04_LowBound.mono _ _ _
      | exact waveletref04_Margin.mono _ _
      | exact LeO.none _
      | refine LeO.ite ?_ ?_
      | refine LeO.bind ?_ (fun _ => ?_)
set_option maxHeartbeats 8000000 in
set_option maxRecDepth 100000 in
theorem waveletlaw04_LiftBounds.calls (k : Nat) (a0 : Int) (a1 : Int) (r : Bool) (w : World) (h : waveletlaw04_LiftBounds.f k a0 a1 = some r) :
    Calls Try.prog 9 #[.int .i64 a0, .int .i64 a1] w fun e w' => e = .returned (.bool r) ∧ Below w.heap.size w w' := by
  have HB := Aside0.mk (Below.refl w.heap.size w)
  have H : ((lift_Margin.f k a1).bind fun t455 => ((waveletref04_Margin.f k a1).bind fun t456 => (if t455 = t456 then ((lift_HighBound.f k a0 a1).bind fun t457 => ((waveletref04_HighBound.f k a0 a1).bind fun t458 => (if t457 = t458 then ((lift_LowBound.f k a0 a1).bind fun t459 => ((waveletref04_LowBound.f k a0 a1).bind fun t460 => (if t459 = t460 then ((waveletlaw04_exampleHolds.f k).bind fun t461 => (some t461)) else (some false)))) else (some false)))) else (some false)))) = some r := h
  clear h
  replace H := Option.bind_eq_some_iff.mp H
  obtain ⟨t455, A30, H⟩ := H
  replace H : ((waveletref04_Margin.f k a1).bind fun t456 => (if t455 = t456 then ((lift_HighBound.f k a0 a1).bind fun t457 => ((waveletref04_HighBound.f k a0 a1).bind fun t458 => (if t457 = t458 then ((lift_LowBound.f k a0 a1).bind fun t459 => ((waveletref04_LowBound.f k a0 a1).bind fun t460 => (if t459 = t460 then ((waveletlaw04_exampleHolds.f k).bind fun t461 => (some t461)) else (some false)))) else (some false)))) else (some false))) = some r := H
  have A3 := Aside0.mk A30
  clear A30
  replace H := Option.bind_eq_some_iff.mp H
  obtain ⟨t456, A40, H⟩ := H
  replace H : (if t455 = t456 then ((lift_HighBound.f k a0 a1).bind fun t457 => ((waveletref04_HighBound.f k a0 a1).bind fun t458 => (if t457 = t458 then ((lift_LowBound.f k a0 a1).bind fun t459 => ((waveletref04_LowBound.f k a0 a1).bind fun t460 => (if t459 = t460 then ((waveletlaw04_exampleHolds.f k).bind fun t461 => (some t461)) else (some false)))) else (some false)))) else (some false)) = some r := H
  have A4 := Aside0.mk A40
  clear A40
  by_cases c5 : t455 = t456
  · rw [if_pos c5] at H
    have c5b0 : (t455 == t456) = true := beq_iff_eq.mpr c5
    have c5b1 : (t455 != t456) = false := bne_eq_false_iff_eq.mpr c5
    clear c5
    replace H := Option.bind_eq_some_iff.mp H
    obtain ⟨t457, A60, H⟩ := H
    replace H : ((waveletref04_HighBound.f k a0 a1).bind fun t458 => (if t457 = t458 then ((lift_LowBound.f k a0 a1).bind fun t459 => ((waveletref04_LowBound.f k a0 a1).bind fun t460 => (if t459 = t460 then ((waveletlaw04_exampleHolds.f k).bind fun t461 => (some t461)) else (some false)))) else (some false))) = some r := H
    have A6 := Aside0.mk A60
    clear A60
    replace H := Option.bind_eq_some_iff.mp H
    obtain ⟨t458, A70, H⟩ := H
    replace H : (if t457 = t458 then ((lift_LowBound.f k a0 a1).bind fun t459 => ((waveletref04_LowBound.f k a0 a1).bind fun t460 => (if t459 = t460 then ((waveletlaw04_exampleHolds.f k).bind fun t461 => (some t461)) else (some false)))) else (some false)) = some r := H
    have A7 := Aside0.mk A70
    clear A70
    by_cases c8 : t457 = t458
    · rw [if_pos c8] at H
      have c8b0 : (t457 == t458) = true := beq_iff_eq.mpr c8
      have c8b1 : (t457 != t458) = false := bne_eq_false_iff_eq.mpr c8
      clear c8
      replace H := Option.bind_eq_some_iff.mp H
      obtain ⟨t459, A90, H⟩ := H
      replace H : ((waveletref04_LowBound.f k a0 a1).bind fun t460 => (if t459 = t460 then ((waveletlaw04_exampleHolds.f k).bind fun t461 => (some t461)) else (some false))) = some r := H
      have A9 := Aside0.mk A90
      clear A90
      replace H := Option.bind_eq_some_iff.mp H
      obtain ⟨t460, A100, H⟩ := H
      replace H : (if t459 = t460 then ((waveletlaw04_exampleHolds.f k).bind fun t461 => (some t461)) else (some false)) = some r := H
      have A10 := Aside0.mk A100
      clear A100
      by_cases c11 : t459 = t460
      · rw [if_pos c11] at H
        have c11b0 : (t459 == t460) = true := beq_iff_eq.mpr c11
        have c11b1 : (t459 != t460) = false := bne_eq_false_iff_eq.mpr c11
        clear c11
        replace H := Option.bind_eq_some_iff.mp H
        obtain ⟨t461, A120, H⟩ := H
        replace H : (some t461) = some r := H
        have A12 := Aside0.mk A120
        clear A120
        obtain rfl := Option.some.inj H
        go_enter Try.func9, Try.ntmps9
        go_wp2_with (first | ((with_reducible refine gate_callee (f := 21) rfl ?_); refine goesL_ (some 6) rfl rfl Try.func21 (by kernel_rfl) rfl #[.int .i64 a1] rfl (by (try simp only [List.map_toArray, List.map_cons, List.map_nil]); first | done | rfl | (simp only [List.length_drop, List.length_take]; rfl)) ?_; (with_reducible refine (lift_Margin.calls k a1 t455 _ A3.out).mono ?_); rintro e w' ⟨rfl, ⟨nd, rfl⟩⟩; refine ⟨_, rfl, ?_⟩) | ((with_reducible refine gate_callee (f := 22) rfl ?_); refine goesL_ (some 8) rfl rfl Try.func22 (by kernel_rfl) rfl #[.int .i64 a1] rfl (by (try simp only [List.map_toArray, List.map_cons, List.map_nil]); first | done | rfl | (simp only [List.length_drop, List.length_take]; rfl)) ?_; (with_reducible refine (waveletref04_Margin.calls k a1 t456 _ A4.out).mono ?_); rintro e w' ⟨rfl, ⟨nd, rfl⟩⟩; refine ⟨_, rfl, ?_⟩) | (go_at_call 20; (with_reducible refine (lift_HighBound.calls k a0 a1 t457 _ A6.out).mono ?_); rintro e w' ⟨rfl, ⟨nd, rfl⟩⟩) | (go_at_call 23; (with_reducible refine (waveletref04_HighBound.calls k a0 a1 t458 _ A7.out).mono ?_); rintro e w' ⟨rfl, ⟨nd, rfl⟩⟩) | (go_at_call 19; (with_reducible refine (lift_LowBound.calls k a0 a1 t459 _ A9.out).mono ?_); rintro e w' ⟨rfl, ⟨nd, rfl⟩⟩) | (go_at_call 24; (with_reducible refine (waveletref04_LowBound.calls k a0 a1 t460 _ A10.out).mono ?_); rintro e w' ⟨rfl, ⟨nd, rfl⟩⟩) | (go_at_call 11; (with_reducible refine (waveletlaw04_exampleHolds.calls k  t461 _ A12.out).mono ?_); rintro e w13 ⟨rfl, hb⟩; have n0_ := Aside0.mk (below_step (by repeat (first | (with_reducible first | exact HB.out | apply below_alloc | apply pw_below_drewN | apply below_drew1) | exact HB.out)) hb); clear HB; have HB := n0_; clear n0_; (try clear hb); (try clear hb2); (try clear hk); (try clear hi)))
        go_ret
        exact ⟨by first | rfl | (simp [errW_none, errW_some] <;> rfl) | (simp [*, errW_none, errW_some] <;> rfl), by repeat (first | (with_reducible first | exact HB.out | apply below_alloc | apply pw_below_drewN | apply below_drew1) | exact HB.out)⟩
      · rw [if_neg c11] at H
        have c11b0 : (t459 == t460) = false := beq_eq_false_iff_ne.mpr c11
        have c11b1 : (t459 != t460) = true := bne_iff_ne.mpr c11
        obtain rfl := Option.some.inj H
        go_enter Try.func9, Try.ntmps9
        go_wp2_with (first | ((with_reducible refine gate_callee (f := 21) rfl ?_); refine goesL_ (some 6) rfl rfl Try.func21 (by kernel_rfl) rfl #[.int .i64 a1] rfl (by (try simp only [List.map_toArray, List.map_cons, List.map_nil]); first | done | rfl | (simp only [List.length_drop, List.length_take]; rfl)) ?_; (with_reducible refine (lift_Margin.calls k a1 t455 _ A3.out).mono ?_); rintro e w' ⟨rfl, ⟨nd, rfl⟩⟩; refine ⟨_, rfl, ?_⟩) | ((with_reducible refine gate_callee (f := 22) rfl ?_); refine goesL_ (some 8) rfl rfl Try.func22 (by kernel_rfl) rfl #[.int .i64 a1] rfl (by (try simp only [List.map_toArray, List.map_cons, List.map_nil]); first | done | rfl | (simp only [List.length_drop, List.length_take]; rfl)) ?_; (with_reducible refine (waveletref04_Margin.calls k a1 t456 _ A4.out).mono ?_); rintro e w' ⟨rfl, ⟨nd, rfl⟩⟩; refine ⟨_, rfl, ?_⟩) | (go_at_call 20; (with_reducible refine (lift_HighBound.calls k a0 a1 t457 _ A6.out).mono ?_); rintro e w' ⟨rfl, ⟨nd, rfl⟩⟩) | (go_at_call 23; (with_reducible refine (waveletref04_HighBound.calls k a0 a1 t458 _ A7.out).mono ?_); rintro e w' ⟨rfl, ⟨nd, rfl⟩⟩) | (go_at_call 19; (with_reducible refine (lift_LowBound.calls k a0 a1 t459 _ A9.out).mono ?_); rintro e w' ⟨rfl, ⟨nd, rfl⟩⟩) | (go_at_call 24; (with_reducible refine (waveletref04_LowBound.calls k a0 a1 t460 _ A10.out).mono ?_); rintro e w' ⟨rfl, ⟨nd, rfl⟩⟩))
        go_ret
        exact ⟨by first | rfl | (simp [errW_none, errW_some] <;> rfl) | (simp [*, errW_none, errW_some] <;> rfl), by repeat (first | (with_reducible first | exact HB.out | apply below_alloc | apply pw_below_drewN | apply below_drew1) | exact HB.out)⟩
    · rw [if_neg c8] at H
      have c8b0 : (t457 == t458) = false := beq_eq_false_iff_ne.mpr c8
      have c8b1 : (t457 != t458) = true := bne_iff_ne.mpr c8
      obtain rfl := Option.some.inj H
      go_enter Try.func9, Try.ntmps9
      go_wp2_with (first | ((with_reducible refine gate_callee (f := 21) rfl ?_); refine goesL_ (some 6) rfl rfl Try.func21 (by kernel_rfl) rfl #[.int .i64 a1] rfl (by (try simp only [List.map_toArray, List.map_cons, List.map_nil]); first | done | rfl | (simp only [List.length_drop, List.length_take]; rfl)) ?_; (with_reducible refine (lift_Margin.calls k a1 t455 _ A3.out).mono ?_); rintro e w' ⟨rfl, ⟨nd, rfl⟩⟩; refine ⟨_, rfl, ?_⟩) | ((with_reducible refine gate_callee (f := 22) rfl ?_); refine goesL_ (some 8) rfl rfl Try.func22 (by kernel_rfl) rfl #[.int .i64 a1] rfl (by (try simp only [List.map_toArray, List.map_cons, List.map_nil]); first | done | rfl | (simp only [List.length_drop, List.length_take]; rfl)) ?_; (with_reducible refine (waveletref04_Margin.calls k a1 t456 _ A4.out).mono ?_); rintro e w' ⟨rfl, ⟨nd, rfl⟩⟩; refine ⟨_, rfl, ?_⟩) | (go_at_call 20; (with_reducible refine (lift_HighBound.calls k a0 a1 t457 _ A6.out).mono ?_); rintro e w' ⟨rfl, ⟨nd, rfl⟩⟩) | (go_at_call 23; (with_reducible refine (waveletref04_HighBound.calls k a0 a1 t458 _ A7.out).mono ?_); rintro e w' ⟨rfl, ⟨nd, rfl⟩⟩))
      go_ret
      exact ⟨by first | rfl | (simp [errW_none, errW_some] <;> rfl) | (simp [*, errW_none, errW_some] <;> rfl), by repeat (first | (with_reducible first | exact HB.out | apply below_alloc | apply pw_below_drewN | apply below_drew1) | exact HB.out)⟩
  · rw [if_neg c5] at H
    have c5b0 : (t455 == t456) = false := beq_eq_false_iff_ne.mpr c5
    have c5b1 : (t455 != t456) = true := bne_iff_ne.mpr c5
    obtain rfl := Option.some.inj H
    go_enter Try.func9, Try.ntmps9
    go_wp2_with (first | ((with_reducible refine gate_callee (f := 21) rfl ?_); refine goesL_ (some 6) rfl rfl Try.func21 (by kernel_rfl) rfl #[.int .i64 a1] rfl (by (try simp only [List.map_toArray, List.map_cons, List.map_nil]); first | done | rfl | (simp only [List.length_drop, List.length_take]; rfl)) ?_; (with_reducible refine (lift_Margin.calls k a1 t455 _ A3.out).mono ?_); rintro e w' ⟨rfl, ⟨nd, rfl⟩⟩; refine ⟨_, rfl, ?_⟩) | ((with_reducible refine gate_callee (f := 22) rfl ?_); refine goesL_ (some 8) rfl rfl Try.func22 (by kernel_rfl) rfl #[.int .i64 a1] rfl (by (try simp only [List.map_toArray, List.map_cons, List.map_nil]); first | done | rfl | (simp only [List.length_drop, List.length_take]; rfl)) ?_; (with_reducible refine (waveletref04_Margin.calls k a1 t456 _ A4.out).mono ?_); rintro e w' ⟨rfl, ⟨nd, rfl⟩⟩; refine ⟨_, rfl, ?_⟩))
    go_ret
    exact ⟨by first | rfl | (simp [errW_none, errW_some] <;> rfl) | (simp [*, errW_none, errW_some] <;> rfl), by repeat (first | (with_reducible first | exact HB.out | apply below_alloc | apply pw_below_drewN | apply below_drew1) | exact HB.out)⟩

/-- THE ONE PURE STATEMENT of waveletlaw04_LiftBounds: yours. -/
def waveletlaw04_LiftBounds.Pure : Prop := ∀ (a0 : Int) (a1 : Int), (Lit.int .i64 a0).wf = true → (Lit.int .i64 a1).wf = true → ∃ k, waveletlaw04_LiftBounds.f k a0 a1 = some true
theorem waveletlaw04_LiftBounds.walk (P : waveletlaw04_LiftBounds.Pure) (a0 : Int) (a1 : Int) (w : World) (w0 : (Lit.int .i64 a0).wf = true) (w1 : (Lit.int .i64 a1).wf = true) :
    Calls Try.prog 9 #[.int .i64 a0, .int .i64 a1] w fun e w' => e = .returned (.bool true) ∧ Below w.heap.size w w' := by
  obtain ⟨k, h⟩ := P a0 a1 w0 w1
  refine (waveletlaw04_LiftBounds.calls k a0 a1 true w h).mono ?_
  rintro e w' ⟨rfl, hd⟩
  exact ⟨rfl, hd⟩

end Go.Proofs.Ytkpehgakdooodaa.PA
