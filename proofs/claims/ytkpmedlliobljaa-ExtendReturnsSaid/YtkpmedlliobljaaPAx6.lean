-- Written by wip/tools/wprint.py (the prover's own program over the kit's print) for this claim. Not trusted: Lean checks it.
import Derived.Test.YtkpmedlliobljaaPAx0
import Derived.Test.YtkpmedlliobljaaPAx1
import Derived.Test.YtkpmedlliobljaaPAx3
import Derived.Test.YtkpmedlliobljaaPAx4
import Derived.Test.YtkpmedlliobljaaPAx5
namespace Go.Proofs.Ytkpmedlliobljaa.PA
open Go.RowKit Go.Proofs.YtkpmedlliobljaaW.PrintWords Go.Proofs.YtkpmedlliobljaaW.PrintLast Go.Proofs.YtkpmedlliobljaaW.PrintMore
attribute [local go_sem] max2_int min2_int max_two min_two max_three min_three max_four min_four   -- for this text's walks alone
set_option linter.unusedVariables false
set_option linter.unusedSimpArgs false

/-! ### waveletlaw03_ExtendAt: function 7 -/
def waveletlaw03_ExtendAt.f (k : Nat) (l0 : List Int) (a1 : Int) (a2 : Int) : Option (Bool) := if (l0.length : Int) > 5000 then ((waveletlaw03_exampleHolds.f k).bind fun t251 => (some t251)) else ((extend_At.f k l0 a1 a2).bind fun bt252 => ((waveletref03_At.f k l0 a1 a2).bind fun bt254 => (if bt252.1 = bt254.1 then (if (bt252.2 == bt254.2) = true then ((waveletlaw03_exampleHolds.f k).bind fun t256 => (some t256)) else (some false)) else (some false))))
theorem waveletlaw03_ExtendAt.mono : ∀ a0 a1 a2 k, LeO (waveletlaw03_ExtendAt.f k a0 a1 a2) (waveletlaw03_ExtendAt.f (k + 1) a0 a1 a2) := by
  intro a0 a1 a2 k
  unfold waveletlaw03_ExtendAt.f
  repeat' first
      | (with_reducible exact extend_At.mono _ _ _ _)
      | (with_reducible exact waveletlaw03_exampleHolds.mono _)
      | (with_reducible exact waveletref03_At.mono _ _ _ _)
      | (with_reducible exact LeO.refl _)
      | (with_reducible exact LeO.none _)
      | (with_reducible refine LeO.ite ?_ ?_)
      | (with_reducible refine LeO.bind ?_ (fun _ => ?_))
      | exact extend_At.mono _ _ _ _
      | exact waveletlaw03_exampleHolds.mono _
      | exact waveletref03_At.mono _ _ _ _
      | exact LeO.none _
      | refine LeO.ite ?_ ?_
      | refine LeO.bind ?_ (fun _ => ?_)
set_option maxHeartbeats 8000000 in
set_option maxRecDepth 100000 in
theorem waveletlaw03_ExtendAt.calls (k : Nat) (A0 : Option Addr) (c0 : Nat) (l0 : List Int) (a1 : Int) (a2 : Int) (r : Bool) (w : World) (hr0 : Kd.C (Kd.int .i64) w A0 l0.length l0) (hc0 : l0.length ≤ c0) (h : waveletlaw03_ExtendAt.f k l0 a1 a2 = some r) :
    Calls Try.prog 7 #[.slice A0 l0.length c0, .int .i64 a1, .int .i64 a2] w fun e w' => e = .returned (.bool r) ∧ Below w.heap.size w w' := by
  have HR0 := Aside0.mk hr0
  have HC0 := Aside0.mk hc0
  clear hr0 hc0
  have HB := Aside0.mk (Below.refl w.heap.size w)
  have H : (if (l0.length : Int) > 5000 then ((waveletlaw03_exampleHolds.f k).bind fun t251 => (some t251)) else ((extend_At.f k l0 a1 a2).bind fun bt252 => ((waveletref03_At.f k l0 a1 a2).bind fun bt254 => (if bt252.1 = bt254.1 then (if (bt252.2 == bt254.2) = true then ((waveletlaw03_exampleHolds.f k).bind fun t256 => (some t256)) else (some false)) else (some false))))) = some r := h
  clear h
  by_cases c4 : (l0.length : Int) > 5000
  · rw [if_pos c4] at H
    have c4b0 : decide (5000 < (l0.length : Int)) = true := decide_eq_true c4
    have c4b1 : decide (5000 < l0.length) = true := decide_eq_true (by omega)
    clear c4
    replace H := Option.bind_eq_some_iff.mp H
    obtain ⟨t251, A50, H⟩ := H
    replace H : (some t251) = some r := H
    have A5 := Aside0.mk A50
    clear A50
    obtain rfl := Option.some.inj H
    go_enter Try.func7, Try.ntmps7
    go_wp2_with (first | ((with_reducible refine gate_callee (f := 12) rfl ?_); refine goesL_ (some 14) rfl rfl Try.func12 (by kernel_rfl) rfl #[] rfl (by (try simp only [List.map_toArray, List.map_cons, List.map_nil]); first | done | rfl | (simp only [List.length_drop, List.length_take]; rfl)) ?_; (with_reducible refine (waveletlaw03_exampleHolds.calls k  t251 _ A5.out).mono ?_); rintro e w6 ⟨rfl, hb⟩; refine ⟨_, rfl, ?_⟩; have n0_ := Aside0.mk (below_step (by repeat (first | (with_reducible first | exact HB.out | apply below_alloc | apply pw_below_drewN | apply below_drew1) | exact HB.out)) hb); clear HB; have HB := n0_; clear n0_; (try clear hb); (try clear hb2); (try clear hk); (try clear hi)))
    go_ret
    exact ⟨by first | rfl | (simp [errW_none, errW_some] <;> rfl) | (simp [*, errW_none, errW_some] <;> rfl), by repeat (first | (with_reducible first | exact HB.out | apply below_alloc | apply pw_below_drewN | apply below_drew1) | exact HB.out)⟩
  · rw [if_neg c4] at H
    have c4b0 : decide (5000 < (l0.length : Int)) = false := decide_eq_false c4
    have c4b1 : decide (5000 < l0.length) = false := decide_eq_false (by omega)
    clear c4
    replace H := Option.bind_eq_some_iff.mp H
    obtain ⟨⟨t252, t253⟩, A70, H⟩ := H
    replace H : ((waveletref03_At.f k l0 a1 a2).bind fun bt254 => (if t252 = bt254.1 then (if (t253 == bt254.2) = true then ((waveletlaw03_exampleHolds.f k).bind fun t256 => (some t256)) else (some false)) else (some false))) = some r := H
    have A7 := Aside0.mk A70
    clear A70
    replace H := Option.bind_eq_some_iff.mp H
    obtain ⟨⟨t254, t255⟩, A80, H⟩ := H
    replace H : (if t252 = t254 then (if (t253 == t255) = true then ((waveletlaw03_exampleHolds.f k).bind fun t256 => (some t256)) else (some false)) else (some false)) = some r := H
    have A8 := Aside0.mk A80
    clear A80
    by_cases c9 : t252 = t254
    · rw [if_pos c9] at H
      have c9b0 : (t252 == t254) = true := beq_iff_eq.mpr c9
      have c9b1 : (t252 != t254) = false := bne_eq_false_iff_eq.mpr c9
      clear c9
      by_cases c10 : (t253 == t255) = true
      · rw [if_pos c10] at H
        have c10b0 : (t253 == t255) = true := c10
        (try (have c10b1 : decide (t253 = t255) = true := by simpa using c10))
        (try (have c10b2 : (t253 == t255) = true := by simpa using c10))
        clear c10
        replace H := Option.bind_eq_some_iff.mp H
        obtain ⟨t256, A110, H⟩ := H
        replace H : (some t256) = some r := H
        have A11 := Aside0.mk A110
        clear A110
        obtain rfl := Option.some.inj H
        go_enter Try.func7, Try.ntmps7
        go_wp2_with (first | ((with_reducible refine gate_callee (f := 20) rfl ?_); refine goesL_ (some 19) rfl rfl Try.func20 (by kernel_rfl) rfl #[.slice A0 l0.length c0, .int .i64 a1, .int .i64 a2] rfl (by (try simp only [List.map_toArray, List.map_cons, List.map_nil]); first | done | rfl | (simp only [List.length_drop, List.length_take]; rfl)) ?_; (with_reducible refine (extend_At.calls k _ _ l0 a1 a2 t252 t253 _ ?side1 ?side2 A7.out).mono ?_); (case side1 => repeat (first | exact HR0.out | (with_reducible refine Kd.C_alloc ?_ _) | (with_reducible refine Kd.C_drewN ?_ _) | (with_reducible refine Kd.C_drew ?_))); (case side2 => exact HC0.out); rintro e w' ⟨rfl, ⟨nd, rfl⟩⟩; refine ⟨_, rfl, ?_⟩) | ((with_reducible refine gate_callee (f := 21) rfl ?_); refine goesL_ (some 26) rfl rfl Try.func21 (by kernel_rfl) rfl #[.slice A0 l0.length c0, .int .i64 a1, .int .i64 a2] rfl (by (try simp only [List.map_toArray, List.map_cons, List.map_nil]); first | done | rfl | (simp only [List.length_drop, List.length_take]; rfl)) ?_; (with_reducible refine (waveletref03_At.calls k _ _ l0 a1 a2 t254 t255 _ ?side1 ?side2 A8.out).mono ?_); (case side1 => repeat (first | exact HR0.out | (with_reducible refine Kd.C_alloc ?_ _) | (with_reducible refine Kd.C_drewN ?_ _) | (with_reducible refine Kd.C_drew ?_))); (case side2 => exact HC0.out); rintro e w' ⟨rfl, ⟨nd, rfl⟩⟩; refine ⟨_, rfl, ?_⟩) | (go_at_call 12; (with_reducible refine (waveletlaw03_exampleHolds.calls k  t256 _ A11.out).mono ?_); rintro e w12 ⟨rfl, hb⟩; have n0_ := Aside0.mk (below_step (by repeat (first | (with_reducible first | exact HB.out | apply below_alloc | apply pw_below_drewN | apply below_drew1) | exact HB.out)) hb); clear HB; have HB := n0_; clear n0_; (try clear hb); (try clear hb2); (try clear hk); (try clear hi)))
        go_ret
        exact ⟨by first | rfl | (simp [errW_none, errW_some] <;> rfl) | (simp [*, errW_none, errW_some] <;> rfl), by repeat (first | (with_reducible first | exact HB.out | apply below_alloc | apply pw_below_drewN | apply below_drew1) | exact HB.out)⟩
      · rw [if_neg c10] at H
        have c10b0 : (t253 == t255) = false := by simpa using c10
        (try (have c10b1 : decide (t253 = t255) = false := by simpa using c10))
        (try (have c10b2 : (t253 == t255) = false := by simpa using c10))
        (try (have c10b3 : ¬ (t253 = t255) := by simpa using c10))
        clear c10
        obtain rfl := Option.some.inj H
        go_enter Try.func7, Try.ntmps7
        go_wp2_with (first | ((with_reducible refine gate_callee (f := 20) rfl ?_); refine goesL_ (some 19) rfl rfl Try.func20 (by kernel_rfl) rfl #[.slice A0 l0.length c0, .int .i64 a1, .int .i64 a2] rfl (by (try simp only [List.map_toArray, List.map_cons, List.map_nil]); first | done | rfl | (simp only [List.length_drop, List.length_take]; rfl)) ?_; (with_reducible refine (extend_At.calls k _ _ l0 a1 a2 t252 t253 _ ?side1 ?side2 A7.out).mono ?_); (case side1 => repeat (first | exact HR0.out | (with_reducible refine Kd.C_alloc ?_ _) | (with_reducible refine Kd.C_drewN ?_ _) | (with_reducible refine Kd.C_drew ?_))); (case side2 => exact HC0.out); rintro e w' ⟨rfl, ⟨nd, rfl⟩⟩; refine ⟨_, rfl, ?_⟩) | ((with_reducible refine gate_callee (f := 21) rfl ?_); refine goesL_ (some 26) rfl rfl Try.func21 (by kernel_rfl) rfl #[.slice A0 l0.length c0, .int .i64 a1, .int .i64 a2] rfl (by (try simp only [List.map_toArray, List.map_cons, List.map_nil]); first | done | rfl | (simp only [List.length_drop, List.length_take]; rfl)) ?_; (with_reducible refine (waveletref03_At.calls k _ _ l0 a1 a2 t254 t255 _ ?side1 ?side2 A8.out).mono ?_); (case side1 => repeat (first | exact HR0.out | (with_reducible refine Kd.C_alloc ?_ _) | (with_reducible refine Kd.C_drewN ?_ _) | (with_reducible refine Kd.C_drew ?_))); (case side2 => exact HC0.out); rintro e w' ⟨rfl, ⟨nd, rfl⟩⟩; refine ⟨_, rfl, ?_⟩))
        go_ret
        exact ⟨by first | rfl | (simp [errW_none, errW_some] <;> rfl) | (simp [*, errW_none, errW_some] <;> rfl), by repeat (first | (with_reducible first | exact HB.out | apply below_alloc | apply pw_below_drewN | apply below_drew1) | exact HB.out)⟩
    · rw [if_neg c9] at H
      have c9b0 : (t252 == t254) = false := beq_eq_false_iff_ne.mpr c9
      have c9b1 : (t252 != t254) = true := bne_iff_ne.mpr c9
      obtain rfl := Option.some.inj H
      go_enter Try.func7, Try.ntmps7
      go_wp2_with (first | ((with_reducible refine gate_callee (f := 20) rfl ?_); refine goesL_ (some 19) rfl rfl Try.func20 (by kernel_rfl) rfl #[.slice A0 l0.length c0, .int .i64 a1, .int .i64 a2] rfl (by (try simp only [List.map_toArray, List.map_cons, List.map_nil]); first | done | rfl | (simp only [List.length_drop, List.length_take]; rfl)) ?_; (with_reducible refine (extend_At.calls k _ _ l0 a1 a2 t252 t253 _ ?side1 ?side2 A7.out).mono ?_); (case side1 => repeat (first | exact HR0.out | (with_reducible refine Kd.C_alloc ?_ _) | (with_reducible refine Kd.C_drewN ?_ _) | (with_reducible refine Kd.C_drew ?_))); (case side2 => exact HC0.out); rintro e w' ⟨rfl, ⟨nd, rfl⟩⟩; refine ⟨_, rfl, ?_⟩) | ((with_reducible refine gate_callee (f := 21) rfl ?_); refine goesL_ (some 26) rfl rfl Try.func21 (by kernel_rfl) rfl #[.slice A0 l0.length c0, .int .i64 a1, .int .i64 a2] rfl (by (try simp only [List.map_toArray, List.map_cons, List.map_nil]); first | done | rfl | (simp only [List.length_drop, List.length_take]; rfl)) ?_; (with_reducible refine (waveletref03_At.calls k _ _ l0 a1 a2 t254 t255 _ ?side1 ?side2 A8.out).mono ?_); (case side1 => repeat (first | exact HR0.out | (with_reducible refine Kd.C_alloc ?_ _) | (with_reducible refine Kd.C_drewN ?_ _) | (with_reducible refine Kd.C_drew ?_))); (case side2 => exact HC0.out); rintro e w' ⟨rfl, ⟨nd, rfl⟩⟩; refine ⟨_, rfl, ?_⟩))
      go_ret
      exact ⟨by first | rfl | (simp [errW_none, errW_some] <;> rfl) | (simp [*, errW_none, errW_some] <;> rfl), by repeat (first | (with_reducible first | exact HB.out | apply below_alloc | apply pw_below_drewN | apply below_drew1) | exact HB.out)⟩

/-- THE ONE PURE STATEMENT of waveletlaw03_ExtendAt: yours. -/
def waveletlaw03_ExtendAt.Pure : Prop := ∀ (l0 : List Int) (a1 : Int) (a2 : Int), l0.length ≤ maxLen → l0.length * 8 ≤ 140737488351232 → (∀ x ∈ l0, (Lit.int .i64 x).wf = true) → (Lit.int .i64 a1).wf = true → (Lit.int .i64 a2).wf = true → ∃ k, waveletlaw03_ExtendAt.f k l0 a1 a2 = some true
theorem waveletlaw03_ExtendAt.walk (P : waveletlaw03_ExtendAt.Pure) (a0 : Option Addr) (len0 cap0 : Nat) (z0 : List Int) (a1 : Int) (a2 : Int) (w : World) (w0 : (a0 = none ∧ len0 = 0 ∧ cap0 = 0 ∧ z0 = []) ∨ ∃ x, a0 = some x ∧ len0 ≤ cap0 ∧ cap0 ≤ maxLen ∧ z0.length = cap0 ∧ (∀ i, i < z0.length → w.cell? (x.add i) = some (.int .i64 (z0.getD i 0))) ∧ ∀ n ∈ z0, (Lit.int .i64 n).wf = true) (y0 : len0 * 8 ≤ 140737488351232) (w1 : (Lit.int .i64 a1).wf = true) (w2 : (Lit.int .i64 a2).wf = true) :
    Calls Try.prog 7 #[.slice a0 len0 cap0, .int .i64 a1, .int .i64 a2] w fun e w' => e = .returned (.bool true) ∧ Below w.heap.size w w' := by
  obtain ⟨l0, rfl, hr0, hm0, hw0, hc0⟩ := ReadsInt.ofRowC w0
  obtain ⟨k, h⟩ := P l0 a1 a2 hm0 y0 hw0 w1 w2
  refine (waveletlaw03_ExtendAt.calls k _ _ l0 a1 a2 true w (Kd.C_of_reads (d := (0 : Int)) (h1 := fun _ => rfl) hr0) hc0 h).mono ?_
  rintro e w' ⟨rfl, hd⟩
  exact ⟨rfl, hd⟩

/-! ### waveletlaw03_ExtendReflects: function 8 -/
mutual
def waveletlaw03_ExtendReflects.j0 : Nat → Int → Int → Int → Bool → Option (Bool)
  | 0, _, _, _, _ => none
  | k + 1, x0, x1, x2, x28 => if x28 = true then ((waveletlaw03_exampleHolds.f k).bind fun t257 => (some t257)) else ((extend_Mirror.f k x0 x1 x2).bind fun t258 => (if t258 < x1 then (waveletlaw03_ExtendReflects.j1 k x0 x1 x2 t258 true) else (if t258 ≥ x2 then (waveletlaw03_ExtendReflects.j1 k x0 x1 x2 t258 true) else ((extend_Mirror.f k t258 x1 x2).bind fun t259 => (if t259 = t258 then (if x0 ≥ x1 then (if x0 < x2 then (waveletlaw03_ExtendReflects.j1 k x0 x1 x2 t258 (t258 != x0)) else (waveletlaw03_ExtendReflects.j1 k x0 x1 x2 t258 false)) else (waveletlaw03_ExtendReflects.j1 k x0 x1 x2 t258 false)) else (waveletlaw03_ExtendReflects.j1 k x0 x1 x2 t258 true))))))
def waveletlaw03_ExtendReflects.j1 : Nat → Int → Int → Int → Int → Bool → Option (Bool)
  | 0, _, _, _, _, _ => none
  | k + 1, x0, x1, x2, x7, x64 => if x64 = true then (some false) else (if (wrap64 (x2 - x1)) ≥ 2 then (waveletlaw03_ExtendReflects.j2 k x0 x1 x2 x7 ((Int.tmod (wrap64 (x0 - x7)) 2) != 0)) else (waveletlaw03_ExtendReflects.j2 k x0 x1 x2 x7 false))
def waveletlaw03_ExtendReflects.j2 : Nat → Int → Int → Int → Int → Bool → Option (Bool)
  | 0, _, _, _, _, _ => none
  | k + 1, x0, x1, x2, x7, x75 => if x75 = true then (some false) else (if (wrap64 ((wrap64 (2 * x1)) - x0)) ≥ (-281474976710656) then (if (wrap64 ((wrap64 (2 * x1)) - x0)) ≤ 281474976710656 then ((extend_Mirror.f k (wrap64 ((wrap64 (2 * x1)) - x0)) x1 x2).bind fun t260 => (waveletlaw03_ExtendReflects.j3 k x1 x2 x7 (wrap64 ((wrap64 (2 * (wrap64 (x2 - 1)))) - x0)) (t260 != x7))) else (waveletlaw03_ExtendReflects.j3 k x1 x2 x7 (wrap64 ((wrap64 (2 * (wrap64 (x2 - 1)))) - x0)) false)) else (waveletlaw03_ExtendReflects.j3 k x1 x2 x7 (wrap64 ((wrap64 (2 * (wrap64 (x2 - 1)))) - x0)) false))
def waveletlaw03_ExtendReflects.j3 : Nat → Int → Int → Int → Int → Bool → Option (Bool)
  | 0, _, _, _, _, _ => none
  | k + 1, x1, x2, x7, x9, x98 => if x98 = true then (some false) else (if x9 ≥ (-281474976710656) then (if x9 ≤ 281474976710656 then ((extend_Mirror.f k x9 x1 x2).bind fun t261 => (if t261 = x7 then ((waveletlaw03_exampleHolds.f k).bind fun t262 => (some t262)) else (some false))) else ((waveletlaw03_exampleHolds.f k).bind fun t263 => (some t263))) else ((waveletlaw03_exampleHolds.f k).bind fun t264 => (some t264)))
end
def waveletlaw03_ExtendReflects.f (k : Nat) (a0 : Int) (a1 : Int) (a2 : Int) : Option (Bool) := if a1 ≥ a2 then (waveletlaw03_ExtendReflects.j0 k a0 a1 a2 true) else (if a1 < (-281474976710656) then (waveletlaw03_ExtendReflects.j0 k a0 a1 a2 true) else (if a2 > 281474976710656 then (waveletlaw03_ExtendReflects.j0 k a0 a1 a2 true) else (if a0 < (-281474976710656) then (waveletlaw03_ExtendReflects.j0 k a0 a1 a2 true) else (waveletlaw03_ExtendReflects.j0 k a0 a1 a2 (decide (a0 > 281474976710656))))))
theorem waveletlaw03_ExtendReflects.mono_l : ∀ k, (∀ y0 y1 y2 y3, LeO (waveletlaw03_ExtendReflects.j0 k y0 y1 y2 y3) (waveletlaw03_ExtendReflects.j0 (k + 1) y0 y1 y2 y3)) ∧ (∀ y0 y1 y2 y3 y4, LeO (waveletlaw03_ExtendReflects.j1 k y0 y1 y2 y3 y4) (waveletlaw03_ExtendReflects.j1 (k + 1) y0 y1 y2 y3 y4)) ∧ (∀ y0 y1 y2 y3 y4, LeO (waveletlaw03_ExtendReflects.j2 k y0 y1 y2 y3 y4) (waveletlaw03_ExtendReflects.j2 (k + 1) y0 y1 y2 y3 y4)) ∧ (∀ y0 y1 y2 y3 y4, LeO (waveletlaw03_ExtendReflects.j3 k y0 y1 y2 y3 y4) (waveletlaw03_ExtendReflects.j3 (k + 1) y0 y1 y2 y3 y4))
  | 0 => ⟨fun _ _ _ _ r h => by simp [waveletlaw03_ExtendReflects.j0] at h, fun _ _ _ _ _ r h => by simp [waveletlaw03_ExtendReflects.j1] at h, fun _ _ _ _ _ r h => by simp [waveletlaw03_ExtendReflects.j2] at h, fun _ _ _ _ _ r h => by simp [waveletlaw03_ExtendReflects.j3] at h⟩
  | k + 1 => by
    obtain ⟨ih0, ih1, ih2, ih3⟩ := waveletlaw03_ExtendReflects.mono_l k
    refine ⟨?_, ?_, ?_, ?_⟩
    · intro y0 y1 y2 y3
      unfold waveletlaw03_ExtendReflects.j0
      repeat' first
      | (with_reducible exact ih0 _ _ _ _)
      | (with_reducible exact ih1 _ _ _ _ _)
      | (with_reducible exact ih2 _ _ _ _ _)
      | (with_reducible exact ih3 _ _ _ _ _)
      | (with_reducible exact extend_Mirror.mono _ _ _ _)
      | (with_reducible exact waveletlaw03_exampleHolds.mono _)
      | (with_reducible exact LeO.refl _)
      | (with_reducible exact LeO.none _)
      | (with_reducible refine LeO.ite ?_ ?_)
      | (with_reducible refine LeO.bind ?_ (fun _ => ?_))
      | exact ih0 _ _ _ _
      | exact ih1 _ _ _ _ _
      | exact ih2 _ _ _ _ _
      | exact ih3 _ _ _ _ _
      | exact extend_Mirror.mono _ _ _ _
      | exact waveletlaw03_exampleHolds.mono _
      | exact LeO.none _
      | refine LeO.ite ?_ ?_
      | refine LeO.bind ?_ (fun _ => ?_)
    · intro y0 y1 y2 y3 y4
      unfold waveletlaw03_ExtendReflects.j1
      repeat' first
      | (with_reducible exact ih0 _ _ _ _)
      | (with_reducible exact ih1 _ _ _ _ _)
      | (with_reducible exact ih2 _ _ _ _ _)
      | (with_reducible exact ih3 _ _ _ _ _)
      | (with_reducible exact extend_Mirror.mono _ _ _ _)
      | (with_reducible exact waveletlaw03_exampleHolds.mono _)
      | (with_reducible exact LeO.refl _)
      | (with_reducible exact LeO.none _)
      | (with_reducible refine LeO.ite ?_ ?_)
      | (with_reducible refine LeO.bind ?_ (fun _ => ?_))
      | exact ih0 _ _ _ _
      | exact ih1 _ _ _ _ _
      | exact ih2 _ _ _ _ _
      | exact ih3 _ _ _ _ _
      | exact extend_Mirror.mono _ _ _ _
      | exact waveletlaw03_exampleHolds.mono _
      | exact LeO.none _
      | refine LeO.ite ?_ ?_
      | refine LeO.bind ?_ (fun _ => ?_)
    · intro y0 y1 y2 y3 y4
      unfold waveletlaw03_ExtendReflects.j2
      repeat' first
      | (with_reducible exact ih0 _ _ _ _)
      | (with_reducible exact ih1 _ _ _ _ _)
      | (with_reducible exact ih2 _ _ _ _ _)
      | (with_reducible exact ih3 _ _ _ _ _)
      | (with_reducible exact extend_Mirror.mono _ _ _ _)
      | (with_reducible exact waveletlaw03_exampleHolds.mono _)
      | (with_reducible exact LeO.refl _)
      | (with_reducible exact LeO.none _)
      | (with_reducible refine LeO.ite ?_ ?_)
      | (with_reducible refine LeO.bind ?_ (fun _ => ?_))
      | exact ih0 _ _ _ _
      | exact ih1 _ _ _ _ _
      | exact ih2 _ _ _ _ _
      | exact ih3 _ _ _ _ _
      | exact extend_Mirror.mono _ _ _ _
      | exact waveletlaw03_exampleHolds.mono _
      | exact LeO.none _
      | refine LeO.ite ?_ ?_
      | refine LeO.bind ?_ (fun _ => ?_)
    · intro y0 y1 y2 y3 y4
      unfold waveletlaw03_ExtendReflects.j3
      repeat' first
      | (with_reducible exact ih0 _ _ _ _)
      | (with_reducible exact ih1 _ _ _ _ _)
      | (with_reducible exact ih2 _ _ _ _ _)
      | (with_reducible exact ih3 _ _ _ _ _)
      | (with_reducible exact extend_Mirror.mono _ _ _ _)
      | (with_reducible exact waveletlaw03_exampleHolds.mono _)
      | (with_reducible exact LeO.refl _)
      | (with_reducible exact LeO.none _)
      | (with_reducible refine LeO.ite ?_ ?_)
      | (with_reducible refine LeO.bind ?_ (fun _ => ?_))
      | exact ih0 _ _ _ _
      | exact ih1 _ _ _ _ _
      | exact ih2 _ _ _ _ _
      | exact ih3 _ _ _ _ _
      | exact extend_Mirror.mono _ _ _ _
      | exact waveletlaw03_exampleHolds.mono _
      | exact LeO.none _
      | refine LeO.ite ?_ ?_
      | refine LeO.bind ?_ (fun _ => ?_)
theorem waveletlaw03_ExtendReflects.mono : ∀ a0 a1 a2 k, LeO (waveletlaw03_ExtendReflects.f k a0 a1 a2) (waveletlaw03_ExtendReflects.f (k + 1) a0 a1 a2) := by
  intro a0 a1 a2 k
  obtain ⟨ih0, ih1, ih2, ih3⟩ := waveletlaw03_ExtendReflects.mono_l k
  unfold waveletlaw03_ExtendReflects.f
  repeat' first
      | (with_reducible exact ih0 _ _ _ _)
      | (with_reducible exact ih1 _ _ _ _ _)
      | (with_reducible exact ih2 _ _ _ _ _)
      | (with_reducible exact ih3 _ _ _ _ _)
      | (with_reducible exact extend_Mirror.mono _ _ _ _)
      | (with_reducible exact waveletlaw03_exampleHolds.mono _)
      | (with_reducible exact LeO.refl _)
      | (with_reducible exact LeO.none _)
      | (with_reducible refine LeO.ite ?_ ?_)
      | (with_reducible refine LeO.bind ?_ (fun _ => ?_))
      | exact ih0 _ _ _ _
      | exact ih1 _ _ _ _ _
      | exact ih2 _ _ _ _ _
      | exact ih3 _ _ _ _ _
      | exact extend_Mirror.mono _ _ _ _
      | exact waveletlaw03_exampleHolds.mono _
      | exact LeO.none _
      | refine LeO.ite ?_ ?_
      | refine LeO.bind ?_ (fun _ => ?_)
set_option maxHeartbeats 8000000 in
set_option maxRecDepth 100000 in
theorem waveletlaw03_ExtendReflects.calls (k : Nat) (a0 : Int) (a1 : Int) (a2 : Int) (r : Bool) (w : World) (h : waveletlaw03_ExtendReflects.f k a0 a1 a2 = some r) :
    Calls Try.prog 8 #[.int .i64 a0, .int .i64 a1, .int .i64 a2] w fun e w' => e = .returned (.bool r) ∧ Below w.heap.size w w' := by
  have HB := Aside0.mk (Below.refl w.heap.size w)
  have H : (if a1 ≥ a2 then (waveletlaw03_ExtendReflects.j0 k a0 a1 a2 true) else (if a1 < (-281474976710656) then (waveletlaw03_ExtendReflects.j0 k a0 a1 a2 true) else (if a2 > 281474976710656 then (waveletlaw03_ExtendReflects.j0 k a0 a1 a2 true) else (if a0 < (-281474976710656) then (waveletlaw03_ExtendReflects.j0 k a0 a1 a2 true) else (waveletlaw03_ExtendReflects.j0 k a0 a1 a2 (decide (a0 > 281474976710656))))))) = some r := h
  clear h
  have HC4 := Aside0.mk H
  clear H
  go_enter Try.func8, Try.ntmps8
  go_upto_region 1 with (fail)
  go_cut [28] (fun v28 wc => ∃ (kq : Nat) (x28_3 : Bool), v28 = .bool x28_3 ∧ Aside0 (waveletlaw03_ExtendReflects.j0 kq a0 a1 a2 x28_3 = some r) ∧ Aside0 (kq ≤ k) ∧ Aside0 (Below w.heap.size w wc))
  case first =>
    have H := HC4.out
    clear HC4
    by_cases c5 : a1 ≥ a2
    · rw [if_pos c5] at H
      have c5b0 : decide (a2 ≤ a1) = true := decide_eq_true c5
      clear c5
      (first | rw [c5b0] | (simp only [i64_w, i32_w]; rw [c5b0]) | skip)
      have H' := Aside0.mk H
      clear H
      go_wp2
      go_meet
      case rel => exact ⟨_, (true), (by first | rfl | (simp; done) | (simp [*]; done)), H', ⟨by first | omega | exact Nat.le_refl _⟩, ⟨by repeat (first | (with_reducible first | exact HB.out | apply below_alloc | apply pw_below_drewN | apply below_drew1) | exact HB.out)⟩⟩
    · rw [if_neg c5] at H
      have c5b0 : decide (a2 ≤ a1) = false := decide_eq_false c5
      clear c5
      (first | rw [c5b0] | (simp only [i64_w, i32_w]; rw [c5b0]) | skip)
      by_cases c6 : a1 < (-281474976710656)
      · rw [if_pos c6] at H
        have c6b0 : decide (a1 < (-281474976710656)) = true := decide_eq_true c6
        clear c6
        have H' := Aside0.mk H
        clear H
        go_wp2
        go_meet
        case rel => exact ⟨_, (true), (by first | rfl | (simp; done) | (simp [*]; done)), H', ⟨by first | omega | exact Nat.le_refl _⟩, ⟨by repeat (first | (with_reducible first | exact HB.out | apply below_alloc | apply pw_below_drewN | apply below_drew1) | exact HB.out)⟩⟩
      · rw [if_neg c6] at H
        have c6b0 : decide (a1 < (-281474976710656)) = false := decide_eq_false c6
        clear c6
        by_cases c7 : a2 > 281474976710656
        · rw [if_pos c7] at H
          have c7b0 : decide (281474976710656 < a2) = true := decide_eq_true c7
          clear c7
          have H' := Aside0.mk H
          clear H
          go_wp2
          go_meet
          case rel => exact ⟨_, (true), (by first | rfl | (simp; done) | (simp [*]; done)), H', ⟨by first | omega | exact Nat.le_refl _⟩, ⟨by repeat (first | (with_reducible first | exact HB.out | apply below_alloc | apply pw_below_drewN | apply below_drew1) | exact HB.out)⟩⟩
        · rw [if_neg c7] at H
          have c7b0 : decide (281474976710656 < a2) = false := decide_eq_false c7
          clear c7
          by_cases c8 : a0 < (-281474976710656)
          · rw [if_pos c8] at H
            have c8b0 : decide (a0 < (-281474976710656)) = true := decide_eq_true c8
            clear c8
            have H' := Aside0.mk H
            clear H
            go_wp2
            go_meet
            case rel => exact ⟨_, (true), (by first | rfl | (simp; done) | (simp [*]; done)), H', ⟨by first | omega | exact Nat.le_refl _⟩, ⟨by repeat (first | (with_reducible first | exact HB.out | apply below_alloc | apply pw_below_drewN | apply below_drew1) | exact HB.out)⟩⟩
          · rw [if_neg c8] at H
            have c8b0 : decide (a0 < (-281474976710656)) = false := decide_eq_false c8
            clear c8
            have H' := Aside0.mk H
            clear H
            go_wp2
            go_meet
            case rel => exact ⟨_, (decide (a0 > 281474976710656)), (by first | rfl | (simp; done) | (simp [*]; done)), H', ⟨by first | omega | exact Nat.le_refl _⟩, ⟨by repeat (first | (with_reducible first | exact HB.out | apply below_alloc | apply pw_below_drewN | apply below_drew1) | exact HB.out)⟩⟩
  case rest =>
    clear HC4
    try clear p2
    try clear c5
    try clear c5b0
    try clear c6
    try clear c6b0
    try clear c7
    try clear c7b0
    try clear c8
    try clear c8b0
    obtain ⟨kq, x28_3, rfl, HA, HJ3, HB⟩ := hcut
    cases kq with
    | zero => exact absurd HA.out (by simp [waveletlaw03_ExtendReflects.j0])
    | succ kj3 =>
      have H := HA.out
      clear HA
      simp only [waveletlaw03_ExtendReflects.j0] at H
      by_cases c9 : x28_3 = true
      · subst c9
        have H1 : ((waveletlaw03_exampleHolds.f kj3).bind fun t257 => (some t257)) = some r := by rw [if_pos rfl] at H; exact H
        clear H
        have H := H1
        clear H1
        replace H := Option.bind_eq_some_iff.mp H
        obtain ⟨t257, A100, H⟩ := H
        replace H : (some t257) = some r := H
        have A10 := Aside0.mk A100
        clear A100
        obtain rfl := Option.some.inj H
        go_wp2_with (first | ((with_reducible refine gate_callee (f := 12) rfl ?_); refine goesL_ (some 29) rfl rfl Try.func12 (by kernel_rfl) rfl #[] rfl (by (try simp only [List.map_toArray, List.map_cons, List.map_nil]); first | done | rfl | (simp only [List.length_drop, List.length_take]; rfl)) ?_; (with_reducible refine (waveletlaw03_exampleHolds.calls kj3  t257 _ A10.out).mono ?_); rintro e w11 ⟨rfl, hb⟩; refine ⟨_, rfl, ?_⟩; have n0_ := Aside0.mk (below_step (by repeat (first | (with_reducible first | exact HB.out | apply below_alloc | apply pw_below_drewN | apply below_drew1) | exact HB.out)) hb); clear HB; have HB := n0_; clear n0_; (try clear hb); (try clear hb2); (try clear hk); (try clear hi)))
        go_ret
        exact ⟨by first | rfl | (simp [errW_none, errW_some] <;> rfl) | (simp [*, errW_none, errW_some] <;> rfl), by repeat (first | (with_reducible first | exact HB.out | apply below_alloc | apply pw_below_drewN | apply below_drew1) | exact HB.out)⟩
      · replace c9 := Bool.eq_false_iff.mpr c9
        subst c9
        have H1 : ((extend_Mirror.f kj3 a0 a1 a2).bind fun t258 => (if t258 < a1 then (waveletlaw03_ExtendReflects.j1 kj3 a0 a1 a2 t258 true) else (if t258 ≥ a2 then (waveletlaw03_ExtendReflects.j1 kj3 a0 a1 a2 t258 true) else ((extend_Mirror.f kj3 t258 a1 a2).bind fun t259 => (if t259 = t258 then (if a0 ≥ a1 then (if a0 < a2 then (waveletlaw03_ExtendReflects.j1 kj3 a0 a1 a2 t258 (t258 != a0)) else (waveletlaw03_ExtendReflects.j1 kj3 a0 a1 a2 t258 false)) else (waveletlaw03_ExtendReflects.j1 kj3 a0 a1 a2 t258 false)) else (waveletlaw03_ExtendReflects.j1 kj3 a0 a1 a2 t258 true)))))) = some r := by rw [if_neg (show ¬ (false = true) by decide)] at H; exact H
        clear H
        have H := H1
        clear H1
        replace H := Option.bind_eq_some_iff.mp H
        obtain ⟨t258, A120, H⟩ := H
        replace H : (if t258 < a1 then (waveletlaw03_ExtendReflects.j1 kj3 a0 a1 a2 t258 true) else (if t258 ≥ a2 then (waveletlaw03_ExtendReflects.j1 kj3 a0 a1 a2 t258 true) else ((extend_Mirror.f kj3 t258 a1 a2).bind fun t259 => (if t259 = t258 then (if a0 ≥ a1 then (if a0 < a2 then (waveletlaw03_ExtendReflects.j1 kj3 a0 a1 a2 t258 (t258 != a0)) else (waveletlaw03_ExtendReflects.j1 kj3 a0 a1 a2 t258 false)) else (waveletlaw03_ExtendReflects.j1 kj3 a0 a1 a2 t258 false)) else (waveletlaw03_ExtendReflects.j1 kj3 a0 a1 a2 t258 true))))) = some r := H
        have A12 := Aside0.mk A120
        clear A120
        have HC13 := Aside0.mk H
        clear H
        go_upto_region 4 with (first | ((with_reducible refine gate_callee (f := 10) rfl ?_); refine goesL_ (some 33) rfl rfl Try.func10 (by kernel_rfl) rfl #[.int .i64 a0, .int .i64 a1, .int .i64 a2] rfl (by (try simp only [List.map_toArray, List.map_cons, List.map_nil]); first | done | rfl | (simp only [List.length_drop, List.length_take]; rfl)) ?_; (with_reducible refine (extend_Mirror.calls kj3 a0 a1 a2 t258 _ A12.out).mono ?_); rintro e w' ⟨rfl, ⟨nd, rfl⟩⟩; refine ⟨_, rfl, ?_⟩))
        (try simp only [Act.put, List.setIfInBounds_toArray, List.set_cons_zero, List.set_cons_succ])
        go_cut [64] (fun v64 wc => ∃ (kq : Nat) (x64_12 : Bool), v64 = .bool x64_12 ∧ Aside0 (waveletlaw03_ExtendReflects.j1 kq a0 a1 a2 t258 x64_12 = some r) ∧ Aside0 (kq ≤ kj3) ∧ Aside0 (Below w.heap.size w wc))
        case first =>
          have H := HC13.out
          clear HC13
          by_cases c14 : t258 < a1
          · rw [if_pos c14] at H
            have c14b0 : decide (t258 < a1) = true := decide_eq_true c14
            clear c14
            (first | rw [c14b0] | (simp only [i64_w, i32_w]; rw [c14b0]) | skip)
            have H' := Aside0.mk H
            clear H
            go_wp2
            go_meet
            case rel => exact ⟨_, (true), (by first | rfl | (simp; done) | (simp [*]; done)), H', ⟨by have := HJ3.out; first | omega | exact Nat.le_refl _⟩, ⟨by repeat (first | (with_reducible first | exact HB.out | apply below_alloc | apply pw_below_drewN | apply below_drew1) | exact HB.out)⟩⟩
          · rw [if_neg c14] at H
            have c14b0 : decide (t258 < a1) = false := decide_eq_false c14
            clear c14
            (first | rw [c14b0] | (simp only [i64_w, i32_w]; rw [c14b0]) | skip)
            by_cases c15 : t258 ≥ a2
            · rw [if_pos c15] at H
              have c15b0 : decide (a2 ≤ t258) = true := decide_eq_true c15
              clear c15
              have H' := Aside0.mk H
              clear H
              go_wp2
              go_meet
              case rel => exact ⟨_, (true), (by first | rfl | (simp; done) | (simp [*]; done)), H', ⟨by have := HJ3.out; first | omega | exact Nat.le_refl _⟩, ⟨by repeat (first | (with_reducible first | exact HB.out | apply below_alloc | apply pw_below_drewN | apply below_drew1) | exact HB.out)⟩⟩
            · rw [if_neg c15] at H
              have c15b0 : decide (a2 ≤ t258) = false := decide_eq_false c15
              clear c15
              replace H := Option.bind_eq_some_iff.mp H
              obtain ⟨t259, A160, H⟩ := H
              replace H : (if t259 = t258 then (if a0 ≥ a1 then (if a0 < a2 then (waveletlaw03_ExtendReflects.j1 kj3 a0 a1 a2 t258 (t258 != a0)) else (waveletlaw03_ExtendReflects.j1 kj3 a0 a1 a2 t258 false)) else (waveletlaw03_ExtendReflects.j1 kj3 a0 a1 a2 t258 false)) else (waveletlaw03_ExtendReflects.j1 kj3 a0 a1 a2 t258 true)) = some r := H
              have A16 := Aside0.mk A160
              clear A160
              by_cases c17 : t259 = t258
              · rw [if_pos c17] at H
                have c17b0 : (t259 == t258) = true := beq_iff_eq.mpr c17
                have c17b1 : (t259 != t258) = false := bne_eq_false_iff_eq.mpr c17
                clear c17
                by_cases c18 : a0 ≥ a1
                · rw [if_pos c18] at H
                  have c18b0 : decide (a1 ≤ a0) = true := decide_eq_true c18
                  clear c18
                  by_cases c19 : a0 < a2
                  · rw [if_pos c19] at H
                    have c19b0 : decide (a0 < a2) = true := decide_eq_true c19
                    clear c19
                    have H' := Aside0.mk H
                    clear H
                    go_wp2_with (first | (go_at_call 10; (with_reducible refine (extend_Mirror.calls kj3 t258 a1 a2 t259 _ A16.out).mono ?_); rintro e w' ⟨rfl, ⟨nd, rfl⟩⟩))
                    go_meet
                    case rel => exact ⟨_, ((t258 != a0)), (by first | rfl | (simp; done) | (simp [*]; done)), H', ⟨by have := HJ3.out; first | omega | exact Nat.le_refl _⟩, ⟨by repeat (first | (with_reducible first | exact HB.out | apply below_alloc | apply pw_below_drewN | apply below_drew1) | exact HB.out)⟩⟩
                  · rw [if_neg c19] at H
                    have c19b0 : decide (a0 < a2) = false := decide_eq_false c19
                    clear c19
                    have H' := Aside0.mk H
                    clear H
                    go_wp2_with (first | (go_at_call 10; (with_reducible refine (extend_Mirror.calls kj3 t258 a1 a2 t259 _ A16.out).mono ?_); rintro e w' ⟨rfl, ⟨nd, rfl⟩⟩))
                    go_meet
                    case rel => exact ⟨_, (false), (by first | rfl | (simp; done) | (simp [*]; done)), H', ⟨by have := HJ3.out; first | omega | exact Nat.le_refl _⟩, ⟨by repeat (first | (with_reducible first | exact HB.out | apply below_alloc | apply pw_below_drewN | apply below_drew1) | exact HB.out)⟩⟩
                · rw [if_neg c18] at H
                  have c18b0 : decide (a1 ≤ a0) = false := decide_eq_false c18
                  clear c18
                  have H' := Aside0.mk H
                  clear H
                  go_wp2_with (first | (go_at_call 10; (with_reducible refine (extend_Mirror.calls kj3 t258 a1 a2 t259 _ A16.out).mono ?_); rintro e w' ⟨rfl, ⟨nd, rfl⟩⟩))
                  go_meet
                  case rel => exact ⟨_, (false), (by first | rfl | (simp; done) | (simp [*]; done)), H', ⟨by have := HJ3.out; first | omega | exact Nat.le_refl _⟩, ⟨by repeat (first | (with_reducible first | exact HB.out | apply below_alloc | apply pw_below_drewN | apply below_drew1) | exact HB.out)⟩⟩
              · rw [if_neg c17] at H
                have c17b0 : (t259 == t258) = false := beq_eq_false_iff_ne.mpr c17
                have c17b1 : (t259 != t258) = true := bne_iff_ne.mpr c17
                have H' := Aside0.mk H
                clear H
                go_wp2_with (first | (go_at_call 10; (with_reducible refine (extend_Mirror.calls kj3 t258 a1 a2 t259 _ A16.out).mono ?_); rintro e w' ⟨rfl, ⟨nd, rfl⟩⟩))
                go_meet
                case rel => exact ⟨_, (true), (by first | rfl | (simp; done) | (simp [*]; done)), H', ⟨by have := HJ3.out; first | omega | exact Nat.le_refl _⟩, ⟨by repeat (first | (with_reducible first | exact HB.out | apply below_alloc | apply pw_below_drewN | apply below_drew1) | exact HB.out)⟩⟩
        case rest =>
          clear HC13
          try clear c1
          try clear p2
          try clear c5
          try clear c5b0
          try clear c6
          try clear c6b0
          try clear c7
          try clear c7b0
          try clear c8
          try clear c8b0
          try clear c9
          try clear c10
          try clear c12
          try clear c14
          try clear c14b0
          try clear c15
          try clear c15b0
          try clear c17
          try clear c17b0
          try clear c17b1
          try clear c18
          try clear c18b0
          try clear c19
          try clear c19b0
          try clear p2
          obtain ⟨kq, x64_12, rfl, HA, HJ12, HB⟩ := hcut
          cases kq with
          | zero => exact absurd HA.out (by simp [waveletlaw03_ExtendReflects.j1])
          | succ kj12 =>
            have H := HA.out
            clear HA
            simp only [waveletlaw03_ExtendReflects.j1] at H
            by_cases c20 : x64_12 = true
            · subst c20
              have H1 : (some false) = some r := by rw [if_pos rfl] at H; exact H
              clear H
              have H := H1
              clear H1
              obtain rfl := Option.some.inj H
              go_wp2
              go_ret
              exact ⟨by first | rfl | (simp [errW_none, errW_some] <;> rfl) | (simp [*, errW_none, errW_some] <;> rfl), by repeat (first | (with_reducible first | exact HB.out | apply below_alloc | apply pw_below_drewN | apply below_drew1) | exact HB.out)⟩
            · replace c20 := Bool.eq_false_iff.mpr c20
              subst c20
              have H1 : (if (wrap64 (a2 - a1)) ≥ 2 then (waveletlaw03_ExtendReflects.j2 kj12 a0 a1 a2 t258 ((Int.tmod (wrap64 (a0 - t258)) 2) != 0)) else (waveletlaw03_ExtendReflects.j2 kj12 a0 a1 a2 t258 false)) = some r := by rw [if_neg (show ¬ (false = true) by decide)] at H; exact H
              clear H
              have H := H1
              clear H1
              have HC21 := Aside0.mk H
              clear H
              go_upto_region 6 with (fail)
              go_cut [75] (fun v75 wc => ∃ (kq : Nat) (x75_20 : Bool), v75 = .bool x75_20 ∧ Aside0 (waveletlaw03_ExtendReflects.j2 kq a0 a1 a2 t258 x75_20 = some r) ∧ Aside0 (kq ≤ kj12) ∧ Aside0 (Below w.heap.size w wc))
              case first =>
                have H := HC21.out
                clear HC21
                by_cases c22 : (wrap64 (a2 - a1)) ≥ 2
                · rw [if_pos c22] at H
                  have c22b0 : decide (2 ≤ (wrap64 (a2 - a1))) = true := decide_eq_true c22
                  clear c22
                  (first | rw [c22b0] | (simp only [i64_w, i32_w]; rw [c22b0]) | skip)
                  have H' := Aside0.mk H
                  clear H
                  go_wp2
                  go_meet
                  case rel => exact ⟨_, (((Int.tmod (wrap64 (a0 - t258)) 2) != 0)), (by first | rfl | (simp; done) | (simp [*]; done)), H', ⟨by have := HJ3.out; have := HJ12.out; first | omega | exact Nat.le_refl _⟩, ⟨by repeat (first | (with_reducible first | exact HB.out | apply below_alloc | apply pw_below_drewN | apply below_drew1) | exact HB.out)⟩⟩
                · rw [if_neg c22] at H
                  have c22b0 : decide (2 ≤ (wrap64 (a2 - a1))) = false := decide_eq_false c22
                  clear c22
                  (first | rw [c22b0] | (simp only [i64_w, i32_w]; rw [c22b0]) | skip)
                  have H' := Aside0.mk H
                  clear H
                  go_wp2
                  go_meet
                  case rel => exact ⟨_, (false), (by first | rfl | (simp; done) | (simp [*]; done)), H', ⟨by have := HJ3.out; have := HJ12.out; first | omega | exact Nat.le_refl _⟩, ⟨by repeat (first | (with_reducible first | exact HB.out | apply below_alloc | apply pw_below_drewN | apply below_drew1) | exact HB.out)⟩⟩
              case rest =>
                clear HC21
                try clear c1
                try clear c2
                try clear p2
                try clear c5
                try clear c5b0
                try clear c6
                try clear c6b0
                try clear p6
                try clear c7
                try clear c7b0
                try clear c8
                try clear c8b0
                try clear c9
                try clear c10
                try clear c12
                try clear c14
                try clear c14b0
                try clear c15
                try clear c15b0
                try clear c17
                try clear c17b0
                try clear c17b1
                try clear c18
                try clear c18b0
                try clear c19
                try clear c19b0
                try clear c20
                try clear c22
                try clear c22b0
                try clear p2
                obtain ⟨kq, x75_20, rfl, HA, HJ20, HB⟩ := hcut
                cases kq with
                | zero => exact absurd HA.out (by simp [waveletlaw03_ExtendReflects.j2])
                | succ kj20 =>
                  have H := HA.out
                  clear HA
                  simp only [waveletlaw03_ExtendReflects.j2] at H
                  by_cases c23 : x75_20 = true
                  · subst c23
                    have H1 : (some false) = some r := by rw [if_pos rfl] at H; exact H
                    clear H
                    have H := H1
                    clear H1
                    obtain rfl := Option.some.inj H
                    go_wp2
                    go_ret
                    exact ⟨by first | rfl | (simp [errW_none, errW_some] <;> rfl) | (simp [*, errW_none, errW_some] <;> rfl), by repeat (first | (with_reducible first | exact HB.out | apply below_alloc | apply pw_below_drewN | apply below_drew1) | exact HB.out)⟩
                  · replace c23 := Bool.eq_false_iff.mpr c23
                    subst c23
                    have H1 : (if (wrap64 ((wrap64 (2 * a1)) - a0)) ≥ (-281474976710656) then (if (wrap64 ((wrap64 (2 * a1)) - a0)) ≤ 281474976710656 then ((extend_Mirror.f kj20 (wrap64 ((wrap64 (2 * a1)) - a0)) a1 a2).bind fun t260 => (waveletlaw03_ExtendReflects.j3 kj20 a1 a2 t258 (wrap64 ((wrap64 (2 * (wrap64 (a2 - 1)))) - a0)) (t260 != t258))) else (waveletlaw03_ExtendReflects.j3 kj20 a1 a2 t258 (wrap64 ((wrap64 (2 * (wrap64 (a2 - 1)))) - a0)) false)) else (waveletlaw03_ExtendReflects.j3 kj20 a1 a2 t258 (wrap64 ((wrap64 (2 * (wrap64 (a2 - 1)))) - a0)) false)) = some r := by rw [if_neg (show ¬ (false = true) by decide)] at H; exact H
                    clear H
                    have H := H1
                    clear H1
                    have HC24 := Aside0.mk H
                    clear H
                    go_upto_region 9 with (fail)
                    go_cut [98] (fun v98 wc => ∃ (kq : Nat) (x98_23 : Bool), v98 = .bool x98_23 ∧ Aside0 (waveletlaw03_ExtendReflects.j3 kq a1 a2 t258 (wrap64 ((wrap64 (2 * (wrap64 (a2 - 1)))) - a0)) x98_23 = some r) ∧ Aside0 (kq ≤ kj20) ∧ Aside0 (Below w.heap.size w wc))
                    case first =>
                      have H := HC24.out
                      clear HC24
                      by_cases c25 : (wrap64 ((wrap64 (2 * a1)) - a0)) ≥ (-281474976710656)
                      · rw [if_pos c25] at H
                        have c25b0 : decide ((-281474976710656) ≤ (wrap64 ((wrap64 (2 * a1)) - a0))) = true := decide_eq_true c25
                        clear c25
                        (first | rw [c25b0] | (simp only [i64_w, i32_w]; rw [c25b0]) | skip)
                        by_cases c26 : (wrap64 ((wrap64 (2 * a1)) - a0)) ≤ 281474976710656
                        · rw [if_pos c26] at H
                          have c26b0 : decide ((wrap64 ((wrap64 (2 * a1)) - a0)) ≤ 281474976710656) = true := decide_eq_true c26
                          clear c26
                          replace H := Option.bind_eq_some_iff.mp H
                          obtain ⟨t260, A270, H⟩ := H
                          replace H : (waveletlaw03_ExtendReflects.j3 kj20 a1 a2 t258 (wrap64 ((wrap64 (2 * (wrap64 (a2 - 1)))) - a0)) (t260 != t258)) = some r := H
                          have A27 := Aside0.mk A270
                          clear A270
                          have H' := Aside0.mk H
                          clear H
                          go_wp2_with (first | (go_at_call 10; (with_reducible refine (extend_Mirror.calls kj20 (wrap64 ((wrap64 (2 * a1)) - a0)) a1 a2 t260 _ A27.out).mono ?_); rintro e w' ⟨rfl, ⟨nd, rfl⟩⟩))
                          go_meet
                          case rel => exact ⟨_, ((t260 != t258)), (by first | rfl | (simp; done) | (simp [*]; done)), H', ⟨by have := HJ3.out; have := HJ12.out; have := HJ20.out; first | omega | exact Nat.le_refl _⟩, ⟨by repeat (first | (with_reducible first | exact HB.out | apply below_alloc | apply pw_below_drewN | apply below_drew1) | exact HB.out)⟩⟩
                        · rw [if_neg c26] at H
                          have c26b0 : decide ((wrap64 ((wrap64 (2 * a1)) - a0)) ≤ 281474976710656) = false := decide_eq_false c26
                          clear c26
                          have H' := Aside0.mk H
                          clear H
                          go_wp2
                          go_meet
                          case rel => exact ⟨_, (false), (by first | rfl | (simp; done) | (simp [*]; done)), H', ⟨by have := HJ3.out; have := HJ12.out; have := HJ20.out; first | omega | exact Nat.le_refl _⟩, ⟨by repeat (first | (with_reducible first | exact HB.out | apply below_alloc | apply pw_below_drewN | apply below_drew1) | exact HB.out)⟩⟩
                      · rw [if_neg c25] at H
                        have c25b0 : decide ((-281474976710656) ≤ (wrap64 ((wrap64 (2 * a1)) - a0))) = false := decide_eq_false c25
                        clear c25
                        (first | rw [c25b0] | (simp only [i64_w, i32_w]; rw [c25b0]) | skip)
                        have H' := Aside0.mk H
                        clear H
                        go_wp2
                        go_meet
                        case rel => exact ⟨_, (false), (by first | rfl | (simp; done) | (simp [*]; done)), H', ⟨by have := HJ3.out; have := HJ12.out; have := HJ20.out; first | omega | exact Nat.le_refl _⟩, ⟨by repeat (first | (with_reducible first | exact HB.out | apply below_alloc | apply pw_below_drewN | apply below_drew1) | exact HB.out)⟩⟩
                    case rest =>
                      clear HC24
                      try clear c1
                      try clear c2
                      try clear p2
                      try clear c5
                      try clear c5b0
                      try clear c6
                      try clear c6b0
                      try clear p6
                      try clear c7
                      try clear c7b0
                      try clear c8
                      try clear c8b0
                      try clear c9
                      try clear c10
                      try clear c12
                      try clear c14
                      try clear c14b0
                      try clear c15
                      try clear c15b0
                      try clear c17
                      try clear c17b0
                      try clear c17b1
                      try clear c18
                      try clear c18b0
                      try clear c19
                      try clear c19b0
                      try clear c20
                      try clear c22
                      try clear c22b0
                      try clear c23
                      try clear c25
                      try clear c25b0
                      try clear c26
                      try clear c26b0
                      try clear p2
                      try clear p6
                      obtain ⟨kq, x98_23, rfl, HA, HJ23, HB⟩ := hcut
                      cases kq with
                      | zero => exact absurd HA.out (by simp [waveletlaw03_ExtendReflects.j3])
                      | succ kj23 =>
                        have H := HA.out
                        clear HA
                        simp only [waveletlaw03_ExtendReflects.j3] at H
                        by_cases c28 : x98_23 = true
                        · subst c28
                          have H1 : (some false) = some r := by rw [if_pos rfl] at H; exact H
                          clear H
                          have H := H1
                          clear H1
                          obtain rfl := Option.some.inj H
                          go_wp2
                          go_ret
                          exact ⟨by first | rfl | (simp [errW_none, errW_some] <;> rfl) | (simp [*, errW_none, errW_some] <;> rfl), by repeat (first | (with_reducible first | exact HB.out | apply below_alloc | apply pw_below_drewN | apply below_drew1) | exact HB.out)⟩
                        · replace c28 := Bool.eq_false_iff.mpr c28
                          subst c28
                          have H1 : (if (wrap64 ((wrap64 (2 * (wrap64 (a2 - 1)))) - a0)) ≥ (-281474976710656) then (if (wrap64 ((wrap64 (2 * (wrap64 (a2 - 1)))) - a0)) ≤ 281474976710656 then ((extend_Mirror.f kj23 (wrap64 ((wrap64 (2 * (wrap64 (a2 - 1)))) - a0)) a1 a2).bind fun t261 => (if t261 = t258 then ((waveletlaw03_exampleHolds.f kj23).bind fun t262 => (some t262)) else (some false))) else ((waveletlaw03_exampleHolds.f kj23).bind fun t263 => (some t263))) else ((waveletlaw03_exampleHolds.f kj23).bind fun t264 => (some t264))) = some r := by rw [if_neg (show ¬ (false = true) by decide)] at H; exact H
                          clear H
                          have H := H1
                          clear H1
                          by_cases c29 : (wrap64 ((wrap64 (2 * (wrap64 (a2 - 1)))) - a0)) ≥ (-281474976710656)
                          · rw [if_pos c29] at H
                            have c29b0 : decide ((-281474976710656) ≤ (wrap64 ((wrap64 (2 * (wrap64 (a2 - 1)))) - a0))) = true := decide_eq_true c29
                            clear c29
                            by_cases c30 : (wrap64 ((wrap64 (2 * (wrap64 (a2 - 1)))) - a0)) ≤ 281474976710656
                            · rw [if_pos c30] at H
                              have c30b0 : decide ((wrap64 ((wrap64 (2 * (wrap64 (a2 - 1)))) - a0)) ≤ 281474976710656) = true := decide_eq_true c30
                              clear c30
                              replace H := Option.bind_eq_some_iff.mp H
                              obtain ⟨t261, A310, H⟩ := H
                              replace H : (if t261 = t258 then ((waveletlaw03_exampleHolds.f kj23).bind fun t262 => (some t262)) else (some false)) = some r := H
                              have A31 := Aside0.mk A310
                              clear A310
                              by_cases c32 : t261 = t258
                              · rw [if_pos c32] at H
                                have c32b0 : (t261 == t258) = true := beq_iff_eq.mpr c32
                                have c32b1 : (t261 != t258) = false := bne_eq_false_iff_eq.mpr c32
                                clear c32
                                replace H := Option.bind_eq_some_iff.mp H
                                obtain ⟨t262, A330, H⟩ := H
                                replace H : (some t262) = some r := H
                                have A33 := Aside0.mk A330
                                clear A330
                                obtain rfl := Option.some.inj H
                                go_wp2_with (first | (go_at_call 10; (with_reducible refine (extend_Mirror.calls kj23 (wrap64 ((wrap64 (2 * (wrap64 (a2 - 1)))) - a0)) a1 a2 t261 _ A31.out).mono ?_); rintro e w' ⟨rfl, ⟨nd, rfl⟩⟩) | ((with_reducible refine gate_callee (f := 12) rfl ?_); refine goesL_ (some 113) rfl rfl Try.func12 (by kernel_rfl) rfl #[] rfl (by (try simp only [List.map_toArray, List.map_cons, List.map_nil]); first | done | rfl | (simp only [List.length_drop, List.length_take]; rfl)) ?_; (with_reducible refine (waveletlaw03_exampleHolds.calls kj23  t262 _ A33.out).mono ?_); rintro e w34 ⟨rfl, hb⟩; refine ⟨_, rfl, ?_⟩; have n0_ := Aside0.mk (below_step (by repeat (first | (with_reducible first | exact HB.out | apply below_alloc | apply pw_below_drewN | apply below_drew1) | exact HB.out)) hb); clear HB; have HB := n0_; clear n0_; (try clear hb); (try clear hb2); (try clear hk); (try clear hi)))
                                go_ret
                                exact ⟨by first | rfl | (simp [errW_none, errW_some] <;> rfl) | (simp [*, errW_none, errW_some] <;> rfl), by repeat (first | (with_reducible first | exact HB.out | apply below_alloc | apply pw_below_drewN | apply below_drew1) | exact HB.out)⟩
                              · rw [if_neg c32] at H
                                have c32b0 : (t261 == t258) = false := beq_eq_false_iff_ne.mpr c32
                                have c32b1 : (t261 != t258) = true := bne_iff_ne.mpr c32
                                obtain rfl := Option.some.inj H
                                go_wp2_with (first | (go_at_call 10; (with_reducible refine (extend_Mirror.calls kj23 (wrap64 ((wrap64 (2 * (wrap64 (a2 - 1)))) - a0)) a1 a2 t261 _ A31.out).mono ?_); rintro e w' ⟨rfl, ⟨nd, rfl⟩⟩))
                                go_ret
                                exact ⟨by first | rfl | (simp [errW_none, errW_some] <;> rfl) | (simp [*, errW_none, errW_some] <;> rfl), by repeat (first | (with_reducible first | exact HB.out | apply below_alloc | apply pw_below_drewN | apply below_drew1) | exact HB.out)⟩
                            · rw [if_neg c30] at H
                              have c30b0 : decide ((wrap64 ((wrap64 (2 * (wrap64 (a2 - 1)))) - a0)) ≤ 281474976710656) = false := decide_eq_false c30
                              clear c30
                              replace H := Option.bind_eq_some_iff.mp H
                              obtain ⟨t263, A350, H⟩ := H
                              replace H : (some t263) = some r := H
                              have A35 := Aside0.mk A350
                              clear A350
                              obtain rfl := Option.some.inj H
                              go_wp2_with (first | ((with_reducible refine gate_callee (f := 12) rfl ?_); refine goesL_ (some 113) rfl rfl Try.func12 (by kernel_rfl) rfl #[] rfl (by (try simp only [List.map_toArray, List.map_cons, List.map_nil]); first | done | rfl | (simp only [List.length_drop, List.length_take]; rfl)) ?_; (with_reducible refine (waveletlaw03_exampleHolds.calls kj23  t263 _ A35.out).mono ?_); rintro e w36 ⟨rfl, hb⟩; refine ⟨_, rfl, ?_⟩; have n0_ := Aside0.mk (below_step (by repeat (first | (with_reducible first | exact HB.out | apply below_alloc | apply pw_below_drewN | apply below_drew1) | exact HB.out)) hb); clear HB; have HB := n0_; clear n0_; (try clear hb); (try clear hb2); (try clear hk); (try clear hi)))
                              go_ret
                              exact ⟨by first | rfl | (simp [errW_none, errW_some] <;> rfl) | (simp [*, errW_none, errW_some] <;> rfl), by repeat (first | (with_reducible first | exact HB.out | apply below_alloc | apply pw_below_drewN | apply below_drew1) | exact HB.out)⟩
                          · rw [if_neg c29] at H
                            have c29b0 : decide ((-281474976710656) ≤ (wrap64 ((wrap64 (2 * (wrap64 (a2 - 1)))) - a0))) = false := decide_eq_false c29
                            clear c29
                            replace H := Option.bind_eq_some_iff.mp H
                            obtain ⟨t264, A370, H⟩ := H
                            replace H : (some t264) = some r := H
                            have A37 := Aside0.mk A370
                            clear A370
                            obtain rfl := Option.some.inj H
                            go_wp2_with (first | ((with_reducible refine gate_callee (f := 12) rfl ?_); refine goesL_ (some 113) rfl rfl Try.func12 (by kernel_rfl) rfl #[] rfl (by (try simp only [List.map_toArray, List.map_cons, List.map_nil]); first | done | rfl | (simp only [List.length_drop, List.length_take]; rfl)) ?_; (with_reducible refine (waveletlaw03_exampleHolds.calls kj23  t264 _ A37.out).mono ?_); rintro e w38 ⟨rfl, hb⟩; refine ⟨_, rfl, ?_⟩; have n0_ := Aside0.mk (below_step (by repeat (first | (with_reducible first | exact HB.out | apply below_alloc | apply pw_below_drewN | apply below_drew1) | exact HB.out)) hb); clear HB; have HB := n0_; clear n0_; (try clear hb); (try clear hb2); (try clear hk); (try clear hi)))
                            go_ret
                            exact ⟨by first | rfl | (simp [errW_none, errW_some] <;> rfl) | (simp [*, errW_none, errW_some] <;> rfl), by repeat (first | (with_reducible first | exact HB.out | apply below_alloc | apply pw_below_drewN | apply below_drew1) | exact HB.out)⟩

/-- THE ONE PURE STATEMENT of waveletlaw03_ExtendReflects: yours. -/
def waveletlaw03_ExtendReflects.Pure : Prop := ∀ (a0 : Int) (a1 : Int) (a2 : Int), (Lit.int .i64 a0).wf = true → (Lit.int .i64 a1).wf = true → (Lit.int .i64 a2).wf = true → ∃ k, waveletlaw03_ExtendReflects.f k a0 a1 a2 = some true
theorem waveletlaw03_ExtendReflects.walk (P : waveletlaw03_ExtendReflects.Pure) (a0 : Int) (a1 : Int) (a2 : Int) (w : World) (w0 : (Lit.int .i64 a0).wf = true) (w1 : (Lit.int .i64 a1).wf = true) (w2 : (Lit.int .i64 a2).wf = true) :
    Calls Try.prog 8 #[.int .i64 a0, .int .i64 a1, .int .i64 a2] w fun e w' => e = .returned (.bool true) ∧ Below w.heap.size w w' := by
  obtain ⟨k, h⟩ := P a0 a1 a2 w0 w1 w2
  refine (waveletlaw03_ExtendReflects.calls k a0 a1 a2 true w h).mono ?_
  rintro e w' ⟨rfl, hd⟩
  exact ⟨rfl, hd⟩

end Go.Proofs.Ytkpmedlliobljaa.PA
