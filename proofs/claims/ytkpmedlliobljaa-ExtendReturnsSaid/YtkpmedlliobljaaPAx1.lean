-- Written by wip/tools/wprint.py (the prover's own program over the kit's print) for this claim. Not trusted: Lean checks it.
import Derived.Test.YtkpmedlliobljaaPAx0
namespace Go.Proofs.Ytkpmedlliobljaa.PA
open Go.RowKit Go.Proofs.YtkpmedlliobljaaW.PrintWords Go.Proofs.YtkpmedlliobljaaW.PrintLast Go.Proofs.YtkpmedlliobljaaW.PrintMore
attribute [local go_sem] max2_int min2_int max_two min_two max_three min_three max_four min_four   -- for this text's walks alone
set_option linter.unusedVariables false
set_option linter.unusedSimpArgs false

/-! ### extend_inRange: function 22 -/
def extend_inRange.f (a0 : Int) : Option (Bool) := if a0 ≥ (-281474976710656) then (some (decide (a0 ≤ 281474976710656))) else (some false)
set_option maxHeartbeats 8000000 in
set_option maxRecDepth 100000 in
theorem extend_inRange.calls (a0 : Int) (r : Bool) (w : World) (h : extend_inRange.f a0 = some r) :
    Calls Try.prog 22 #[.int .i64 a0] w fun e w' => e = .returned (.bool r) ∧ Drawn0 w w' := by
  have H : (if a0 ≥ (-281474976710656) then (some (decide (a0 ≤ 281474976710656))) else (some false)) = some r := h
  clear h
  by_cases c2 : a0 ≥ (-281474976710656)
  · rw [if_pos c2] at H
    have c2b0 : decide ((-281474976710656) ≤ a0) = true := decide_eq_true c2
    clear c2
    obtain rfl := Option.some.inj H
    go_enter Try.func22, Try.ntmps22
    go_wp2
    go_ret
    exact ⟨by first | rfl | (simp; done) | (simp [*]; done), by repeat (first | exact Drawn0.refl _ | apply Drawn0.step)⟩
  · rw [if_neg c2] at H
    have c2b0 : decide ((-281474976710656) ≤ a0) = false := decide_eq_false c2
    clear c2
    obtain rfl := Option.some.inj H
    go_enter Try.func22, Try.ntmps22
    go_wp2
    go_ret
    exact ⟨by first | rfl | (simp; done) | (simp [*]; done), by repeat (first | exact Drawn0.refl _ | apply Drawn0.step)⟩

/-! ### extend_Mirror: function 10 -/
def extend_Mirror.j0 : Nat → Int → Int → Int → Bool → Option (Int)
  | 0, _, _, _, _ => none
  | k + 1, x0, x1, x2, x27 => if x27 = true then (some 0) else (if (wrap64 (x2 - x1)) = 1 then (some x1) else (if (wrap64 (2 * (wrap64 ((wrap64 (x2 - x1)) - 1)))) = 0 then (none) else (if (Int.tmod (wrap64 (x0 - x1)) (wrap64 (2 * (wrap64 ((wrap64 (x2 - x1)) - 1))))) < 0 then (if (wrap64 ((Int.tmod (wrap64 (x0 - x1)) (wrap64 (2 * (wrap64 ((wrap64 (x2 - x1)) - 1))))) + (wrap64 (2 * (wrap64 ((wrap64 (x2 - x1)) - 1)))))) ≥ (wrap64 (x2 - x1)) then (some (wrap64 (x1 + (wrap64 ((wrap64 (2 * (wrap64 ((wrap64 (x2 - x1)) - 1)))) - (wrap64 ((Int.tmod (wrap64 (x0 - x1)) (wrap64 (2 * (wrap64 ((wrap64 (x2 - x1)) - 1))))) + (wrap64 (2 * (wrap64 ((wrap64 (x2 - x1)) - 1))))))))))) else (some (wrap64 (x1 + (wrap64 ((Int.tmod (wrap64 (x0 - x1)) (wrap64 (2 * (wrap64 ((wrap64 (x2 - x1)) - 1))))) + (wrap64 (2 * (wrap64 ((wrap64 (x2 - x1)) - 1)))))))))) else (if (Int.tmod (wrap64 (x0 - x1)) (wrap64 (2 * (wrap64 ((wrap64 (x2 - x1)) - 1))))) ≥ (wrap64 (x2 - x1)) then (some (wrap64 (x1 + (wrap64 ((wrap64 (2 * (wrap64 ((wrap64 (x2 - x1)) - 1)))) - (Int.tmod (wrap64 (x0 - x1)) (wrap64 (2 * (wrap64 ((wrap64 (x2 - x1)) - 1)))))))))) else (some (wrap64 (x1 + (Int.tmod (wrap64 (x0 - x1)) (wrap64 (2 * (wrap64 ((wrap64 (x2 - x1)) - 1))))))))))))
def extend_Mirror.f (k : Nat) (a0 : Int) (a1 : Int) (a2 : Int) : Option (Int) := if a1 ≥ a2 then (extend_Mirror.j0 k a0 a1 a2 true) else ((extend_inRange.f a0).bind fun t101 => (if t101 = true then ((extend_inRange.f a1).bind fun t102 => (if t102 = true then ((extend_inRange.f a2).bind fun t103 => (extend_Mirror.j0 k a0 a1 a2 (!t103))) else (extend_Mirror.j0 k a0 a1 a2 true))) else (extend_Mirror.j0 k a0 a1 a2 true)))
theorem extend_Mirror.mono_l : ∀ k, (∀ y0 y1 y2 y3, LeO (extend_Mirror.j0 k y0 y1 y2 y3) (extend_Mirror.j0 (k + 1) y0 y1 y2 y3))
  | 0 => fun _ _ _ _ r h => by simp [extend_Mirror.j0] at h
  | k + 1 => by
    have ih0 := extend_Mirror.mono_l k
    · intro y0 y1 y2 y3
      unfold extend_Mirror.j0
      repeat' first
      | (with_reducible exact ih0 _ _ _ _)
      | (with_reducible exact LeO.refl _)
      | (with_reducible exact LeO.none _)
      | (with_reducible refine LeO.ite ?_ ?_)
      | (with_reducible refine LeO.bind ?_ (fun _ => ?_))
      | exact ih0 _ _ _ _
      | exact LeO.none _
      | refine LeO.ite ?_ ?_
      | refine LeO.bind ?_ (fun _ => ?_)
theorem extend_Mirror.mono : ∀ a0 a1 a2 k, LeO (extend_Mirror.f k a0 a1 a2) (extend_Mirror.f (k + 1) a0 a1 a2) := by
  intro a0 a1 a2 k
  have ih0 := extend_Mirror.mono_l k
  unfold extend_Mirror.f
  repeat' first
      | (with_reducible exact ih0 _ _ _ _)
      | (with_reducible exact LeO.refl _)
      | (with_reducible exact LeO.none _)
      | (with_reducible refine LeO.ite ?_ ?_)
      | (with_reducible refine LeO.bind ?_ (fun _ => ?_))
      | exact ih0 _ _ _ _
      | exact LeO.none _
      | refine LeO.ite ?_ ?_
      | refine LeO.bind ?_ (fun _ => ?_)
set_option maxHeartbeats 8000000 in
set_option maxRecDepth 100000 in
theorem extend_Mirror.calls (k : Nat) (a0 : Int) (a1 : Int) (a2 : Int) (r : Int) (w : World) (h : extend_Mirror.f k a0 a1 a2 = some r) :
    Calls Try.prog 10 #[.int .i64 a0, .int .i64 a1, .int .i64 a2] w fun e w' => e = .returned (.int .i64 r) ∧ Drawn0 w w' := by
  have H : (if a1 ≥ a2 then (extend_Mirror.j0 k a0 a1 a2 true) else ((extend_inRange.f a0).bind fun t101 => (if t101 = true then ((extend_inRange.f a1).bind fun t102 => (if t102 = true then ((extend_inRange.f a2).bind fun t103 => (extend_Mirror.j0 k a0 a1 a2 (!t103))) else (extend_Mirror.j0 k a0 a1 a2 true))) else (extend_Mirror.j0 k a0 a1 a2 true)))) = some r := h
  clear h
  have HC4 := Aside0.mk H
  clear H
  go_enter Try.func10, Try.ntmps10
  go_upto_region 1 with (fail)
  go_cut [27] (fun v27 wc => ∃ (kq : Nat) (x27_3 : Bool), v27 = .bool x27_3 ∧ Aside0 (extend_Mirror.j0 kq a0 a1 a2 x27_3 = some r) ∧ Aside0 (kq ≤ k) ∧ Drawn0 w wc)
  case first =>
    have H := HC4.out
    clear HC4
    by_cases c5 : a1 ≥ a2
    · rw [if_pos c5] at H
      have c5b0 : decide (a2 ≤ a1) = true := decide_eq_true c5
      clear c5
      (first | rw [c5b0] | (simp only [i64_w, i32_w]; rw [c5b0]) | skip)
      have H' := Aside0.mk H
      clear H
      go_wp2
      go_meet
      case rel => exact ⟨_, (true), (by first | rfl | (simp; done) | (simp [*]; done)), H', ⟨by first | omega | exact Nat.le_refl _⟩, by repeat (first | exact Drawn0.refl _ | apply Drawn0.step)⟩
    · rw [if_neg c5] at H
      have c5b0 : decide (a2 ≤ a1) = false := decide_eq_false c5
      clear c5
      (first | rw [c5b0] | (simp only [i64_w, i32_w]; rw [c5b0]) | skip)
      replace H := Option.bind_eq_some_iff.mp H
      obtain ⟨t101, A60, H⟩ := H
      replace H : (if t101 = true then ((extend_inRange.f a1).bind fun t102 => (if t102 = true then ((extend_inRange.f a2).bind fun t103 => (extend_Mirror.j0 k a0 a1 a2 (!t103))) else (extend_Mirror.j0 k a0 a1 a2 true))) else (extend_Mirror.j0 k a0 a1 a2 true)) = some r := H
      have A6 := Aside0.mk A60
      clear A60
      by_cases c7 : t101 = true
      · subst c7
        have H1 : ((extend_inRange.f a1).bind fun t102 => (if t102 = true then ((extend_inRange.f a2).bind fun t103 => (extend_Mirror.j0 k a0 a1 a2 (!t103))) else (extend_Mirror.j0 k a0 a1 a2 true))) = some r := by rw [if_pos rfl] at H; exact H
        clear H
        have H := H1
        clear H1
        replace H := Option.bind_eq_some_iff.mp H
        obtain ⟨t102, A80, H⟩ := H
        replace H : (if t102 = true then ((extend_inRange.f a2).bind fun t103 => (extend_Mirror.j0 k a0 a1 a2 (!t103))) else (extend_Mirror.j0 k a0 a1 a2 true)) = some r := H
        have A8 := Aside0.mk A80
        clear A80
        by_cases c9 : t102 = true
        · subst c9
          have H1 : ((extend_inRange.f a2).bind fun t103 => (extend_Mirror.j0 k a0 a1 a2 (!t103))) = some r := by rw [if_pos rfl] at H; exact H
          clear H
          have H := H1
          clear H1
          replace H := Option.bind_eq_some_iff.mp H
          obtain ⟨t103, A100, H⟩ := H
          replace H : (extend_Mirror.j0 k a0 a1 a2 (!t103)) = some r := H
          have A10 := Aside0.mk A100
          clear A100
          have H' := Aside0.mk H
          clear H
          go_wp2_with (first | (go_at_call 22; (with_reducible refine (extend_inRange.calls a0 true _ A6.out).mono ?_); rintro e w' ⟨rfl, ⟨nd, rfl⟩⟩) | (go_at_call 22; (with_reducible refine (extend_inRange.calls a1 true _ A8.out).mono ?_); rintro e w' ⟨rfl, ⟨nd, rfl⟩⟩) | (go_at_call 22; (with_reducible refine (extend_inRange.calls a2 t103 _ A10.out).mono ?_); rintro e w' ⟨rfl, ⟨nd, rfl⟩⟩))
          go_meet
          case rel => exact ⟨_, (!t103), (by first | rfl | (simp; done) | (simp [*]; done)), H', ⟨by first | omega | exact Nat.le_refl _⟩, by repeat (first | exact Drawn0.refl _ | apply Drawn0.step)⟩
        · replace c9 := Bool.eq_false_iff.mpr c9
          subst c9
          have H1 : (extend_Mirror.j0 k a0 a1 a2 true) = some r := by rw [if_neg (show ¬ (false = true) by decide)] at H; exact H
          clear H
          have H := H1
          clear H1
          have H' := Aside0.mk H
          clear H
          go_wp2_with (first | (go_at_call 22; (with_reducible refine (extend_inRange.calls a0 true _ A6.out).mono ?_); rintro e w' ⟨rfl, ⟨nd, rfl⟩⟩) | (go_at_call 22; (with_reducible refine (extend_inRange.calls a1 false _ A8.out).mono ?_); rintro e w' ⟨rfl, ⟨nd, rfl⟩⟩))
          go_meet
          case rel => exact ⟨_, (true), (by first | rfl | (simp; done) | (simp [*]; done)), H', ⟨by first | omega | exact Nat.le_refl _⟩, by repeat (first | exact Drawn0.refl _ | apply Drawn0.step)⟩
      · replace c7 := Bool.eq_false_iff.mpr c7
        subst c7
        have H1 : (extend_Mirror.j0 k a0 a1 a2 true) = some r := by rw [if_neg (show ¬ (false = true) by decide)] at H; exact H
        clear H
        have H := H1
        clear H1
        have H' := Aside0.mk H
        clear H
        go_wp2_with (first | (go_at_call 22; (with_reducible refine (extend_inRange.calls a0 false _ A6.out).mono ?_); rintro e w' ⟨rfl, ⟨nd, rfl⟩⟩))
        go_meet
        case rel => exact ⟨_, (true), (by first | rfl | (simp; done) | (simp [*]; done)), H', ⟨by first | omega | exact Nat.le_refl _⟩, by repeat (first | exact Drawn0.refl _ | apply Drawn0.step)⟩
  case rest =>
    clear HC4
    try clear c1
    try clear p2
    try clear c5
    try clear c5b0
    try clear c7
    try clear c9
    try clear c10
    obtain ⟨kq, x27_3, rfl, HA, HJ3, ⟨mc3, rfl⟩⟩ := hcut
    cases kq with
    | zero => exact absurd HA.out (by simp [extend_Mirror.j0])
    | succ kj3 =>
      have H := HA.out
      clear HA
      simp only [extend_Mirror.j0] at H
      by_cases c11 : x27_3 = true
      · subst c11
        have H1 : (some 0) = some r := by rw [if_pos rfl] at H; exact H
        clear H
        have H := H1
        clear H1
        obtain rfl := Option.some.inj H
        go_wp2
        go_ret
        exact ⟨by first | rfl | (simp; done) | (simp [*]; done), by repeat (first | exact Drawn0.refl _ | apply Drawn0.step)⟩
      · replace c11 := Bool.eq_false_iff.mpr c11
        subst c11
        have H1 : (if (wrap64 (a2 - a1)) = 1 then (some a1) else (if (wrap64 (2 * (wrap64 ((wrap64 (a2 - a1)) - 1)))) = 0 then (none) else (if (Int.tmod (wrap64 (a0 - a1)) (wrap64 (2 * (wrap64 ((wrap64 (a2 - a1)) - 1))))) < 0 then (if (wrap64 ((Int.tmod (wrap64 (a0 - a1)) (wrap64 (2 * (wrap64 ((wrap64 (a2 - a1)) - 1))))) + (wrap64 (2 * (wrap64 ((wrap64 (a2 - a1)) - 1)))))) ≥ (wrap64 (a2 - a1)) then (some (wrap64 (a1 + (wrap64 ((wrap64 (2 * (wrap64 ((wrap64 (a2 - a1)) - 1)))) - (wrap64 ((Int.tmod (wrap64 (a0 - a1)) (wrap64 (2 * (wrap64 ((wrap64 (a2 - a1)) - 1))))) + (wrap64 (2 * (wrap64 ((wrap64 (a2 - a1)) - 1))))))))))) else (some (wrap64 (a1 + (wrap64 ((Int.tmod (wrap64 (a0 - a1)) (wrap64 (2 * (wrap64 ((wrap64 (a2 - a1)) - 1))))) + (wrap64 (2 * (wrap64 ((wrap64 (a2 - a1)) - 1)))))))))) else (if (Int.tmod (wrap64 (a0 - a1)) (wrap64 (2 * (wrap64 ((wrap64 (a2 - a1)) - 1))))) ≥ (wrap64 (a2 - a1)) then (some (wrap64 (a1 + (wrap64 ((wrap64 (2 * (wrap64 ((wrap64 (a2 - a1)) - 1)))) - (Int.tmod (wrap64 (a0 - a1)) (wrap64 (2 * (wrap64 ((wrap64 (a2 - a1)) - 1)))))))))) else (some (wrap64 (a1 + (Int.tmod (wrap64 (a0 - a1)) (wrap64 (2 * (wrap64 ((wrap64 (a2 - a1)) - 1)))))))))))) = some r := by rw [if_neg (show ¬ (false = true) by decide)] at H; exact H
        clear H
        have H := H1
        clear H1
        by_cases c12 : (wrap64 (a2 - a1)) = 1
        · rw [if_pos c12] at H
          have c12b0 : ((wrap64 (a2 - a1)) == 1) = true := beq_iff_eq.mpr c12
          have c12b1 : ((wrap64 (a2 - a1)) != 1) = false := bne_eq_false_iff_eq.mpr c12
          clear c12
          obtain rfl := Option.some.inj H
          go_wp2
          go_ret
          exact ⟨by first | rfl | (simp; done) | (simp [*]; done), by repeat (first | exact Drawn0.refl _ | apply Drawn0.step)⟩
        · rw [if_neg c12] at H
          have c12b0 : ((wrap64 (a2 - a1)) == 1) = false := beq_eq_false_iff_ne.mpr c12
          have c12b1 : ((wrap64 (a2 - a1)) != 1) = true := bne_iff_ne.mpr c12
          by_cases c13 : (wrap64 (2 * (wrap64 ((wrap64 (a2 - a1)) - 1)))) = 0
          · rw [if_pos c13] at H
            exact absurd H (by simp)
          · rw [if_neg c13] at H
            have c13b0 : ((wrap64 (2 * (wrap64 ((wrap64 (a2 - a1)) - 1)))) == 0) = false := beq_eq_false_iff_ne.mpr c13
            have c13b1 : ((wrap64 (2 * (wrap64 ((wrap64 (a2 - a1)) - 1)))) != 0) = true := bne_iff_ne.mpr c13
            by_cases c14 : (Int.tmod (wrap64 (a0 - a1)) (wrap64 (2 * (wrap64 ((wrap64 (a2 - a1)) - 1))))) < 0
            · rw [if_pos c14] at H
              have c14b0 : decide ((Int.tmod (wrap64 (a0 - a1)) (wrap64 (2 * (wrap64 ((wrap64 (a2 - a1)) - 1))))) < 0) = true := decide_eq_true c14
              clear c14
              by_cases c15 : (wrap64 ((Int.tmod (wrap64 (a0 - a1)) (wrap64 (2 * (wrap64 ((wrap64 (a2 - a1)) - 1))))) + (wrap64 (2 * (wrap64 ((wrap64 (a2 - a1)) - 1)))))) ≥ (wrap64 (a2 - a1))
              · rw [if_pos c15] at H
                have c15b0 : decide ((wrap64 (a2 - a1)) ≤ (wrap64 ((Int.tmod (wrap64 (a0 - a1)) (wrap64 (2 * (wrap64 ((wrap64 (a2 - a1)) - 1))))) + (wrap64 (2 * (wrap64 ((wrap64 (a2 - a1)) - 1))))))) = true := decide_eq_true c15
                clear c15
                obtain rfl := Option.some.inj H
                go_wp2
                go_ret
                exact ⟨by first | rfl | (simp; done) | (simp [*]; done), by repeat (first | exact Drawn0.refl _ | apply Drawn0.step)⟩
              · rw [if_neg c15] at H
                have c15b0 : decide ((wrap64 (a2 - a1)) ≤ (wrap64 ((Int.tmod (wrap64 (a0 - a1)) (wrap64 (2 * (wrap64 ((wrap64 (a2 - a1)) - 1))))) + (wrap64 (2 * (wrap64 ((wrap64 (a2 - a1)) - 1))))))) = false := decide_eq_false c15
                clear c15
                obtain rfl := Option.some.inj H
                go_wp2
                go_ret
                exact ⟨by first | rfl | (simp; done) | (simp [*]; done), by repeat (first | exact Drawn0.refl _ | apply Drawn0.step)⟩
            · rw [if_neg c14] at H
              have c14b0 : decide ((Int.tmod (wrap64 (a0 - a1)) (wrap64 (2 * (wrap64 ((wrap64 (a2 - a1)) - 1))))) < 0) = false := decide_eq_false c14
              clear c14
              by_cases c16 : (Int.tmod (wrap64 (a0 - a1)) (wrap64 (2 * (wrap64 ((wrap64 (a2 - a1)) - 1))))) ≥ (wrap64 (a2 - a1))
              · rw [if_pos c16] at H
                have c16b0 : decide ((wrap64 (a2 - a1)) ≤ (Int.tmod (wrap64 (a0 - a1)) (wrap64 (2 * (wrap64 ((wrap64 (a2 - a1)) - 1)))))) = true := decide_eq_true c16
                clear c16
                obtain rfl := Option.some.inj H
                go_wp2
                go_ret
                exact ⟨by first | rfl | (simp; done) | (simp [*]; done), by repeat (first | exact Drawn0.refl _ | apply Drawn0.step)⟩
              · rw [if_neg c16] at H
                have c16b0 : decide ((wrap64 (a2 - a1)) ≤ (Int.tmod (wrap64 (a0 - a1)) (wrap64 (2 * (wrap64 ((wrap64 (a2 - a1)) - 1)))))) = false := decide_eq_false c16
                clear c16
                obtain rfl := Option.some.inj H
                go_wp2
                go_ret
                exact ⟨by first | rfl | (simp; done) | (simp [*]; done), by repeat (first | exact Drawn0.refl _ | apply Drawn0.step)⟩

/-! ### waveletref03_ValidIndex: function 23 -/
def waveletref03_ValidIndex.f (a0 : Int) : Option (Bool) := if a0 ≥ (-281474976710656) then (some (decide (a0 ≤ 281474976710656))) else (some false)
set_option maxHeartbeats 8000000 in
set_option maxRecDepth 100000 in
theorem waveletref03_ValidIndex.calls (a0 : Int) (r : Bool) (w : World) (h : waveletref03_ValidIndex.f a0 = some r) :
    Calls Try.prog 23 #[.int .i64 a0] w fun e w' => e = .returned (.bool r) ∧ Drawn0 w w' := by
  have H : (if a0 ≥ (-281474976710656) then (some (decide (a0 ≤ 281474976710656))) else (some false)) = some r := h
  clear h
  by_cases c2 : a0 ≥ (-281474976710656)
  · rw [if_pos c2] at H
    have c2b0 : decide ((-281474976710656) ≤ a0) = true := decide_eq_true c2
    clear c2
    obtain rfl := Option.some.inj H
    go_enter Try.func23, Try.ntmps23
    go_wp2
    go_ret
    exact ⟨by first | rfl | (simp; done) | (simp [*]; done), by repeat (first | exact Drawn0.refl _ | apply Drawn0.step)⟩
  · rw [if_neg c2] at H
    have c2b0 : decide ((-281474976710656) ≤ a0) = false := decide_eq_false c2
    clear c2
    obtain rfl := Option.some.inj H
    go_enter Try.func23, Try.ntmps23
    go_wp2
    go_ret
    exact ⟨by first | rfl | (simp; done) | (simp [*]; done), by repeat (first | exact Drawn0.refl _ | apply Drawn0.step)⟩

/-! ### waveletref03_Mirror: function 11 -/
def waveletref03_Mirror.j0 : Nat → Int → Int → Int → Bool → Option (Int)
  | 0, _, _, _, _ => none
  | k + 1, x0, x1, x2, x27 => if x27 = true then (some 0) else (if (wrap64 (x2 - x1)) = 1 then (some x1) else (if (wrap64 (2 * (wrap64 ((wrap64 (x2 - x1)) - 1)))) = 0 then (none) else (if (Int.tmod (wrap64 (x0 - x1)) (wrap64 (2 * (wrap64 ((wrap64 (x2 - x1)) - 1))))) < 0 then (if (wrap64 ((Int.tmod (wrap64 (x0 - x1)) (wrap64 (2 * (wrap64 ((wrap64 (x2 - x1)) - 1))))) + (wrap64 (2 * (wrap64 ((wrap64 (x2 - x1)) - 1)))))) < (wrap64 (x2 - x1)) then (some (wrap64 (x1 + (wrap64 ((Int.tmod (wrap64 (x0 - x1)) (wrap64 (2 * (wrap64 ((wrap64 (x2 - x1)) - 1))))) + (wrap64 (2 * (wrap64 ((wrap64 (x2 - x1)) - 1))))))))) else (some (wrap64 ((wrap64 (x1 + (wrap64 (2 * (wrap64 ((wrap64 (x2 - x1)) - 1)))))) - (wrap64 ((Int.tmod (wrap64 (x0 - x1)) (wrap64 (2 * (wrap64 ((wrap64 (x2 - x1)) - 1))))) + (wrap64 (2 * (wrap64 ((wrap64 (x2 - x1)) - 1)))))))))) else (if (Int.tmod (wrap64 (x0 - x1)) (wrap64 (2 * (wrap64 ((wrap64 (x2 - x1)) - 1))))) < (wrap64 (x2 - x1)) then (some (wrap64 (x1 + (Int.tmod (wrap64 (x0 - x1)) (wrap64 (2 * (wrap64 ((wrap64 (x2 - x1)) - 1)))))))) else (some (wrap64 ((wrap64 (x1 + (wrap64 (2 * (wrap64 ((wrap64 (x2 - x1)) - 1)))))) - (Int.tmod (wrap64 (x0 - x1)) (wrap64 (2 * (wrap64 ((wrap64 (x2 - x1)) - 1))))))))))))
def waveletref03_Mirror.f (k : Nat) (a0 : Int) (a1 : Int) (a2 : Int) : Option (Int) := if a1 ≥ a2 then (waveletref03_Mirror.j0 k a0 a1 a2 true) else ((waveletref03_ValidIndex.f a0).bind fun t104 => (if t104 = true then ((waveletref03_ValidIndex.f a1).bind fun t105 => (if t105 = true then ((waveletref03_ValidIndex.f a2).bind fun t106 => (waveletref03_Mirror.j0 k a0 a1 a2 (!t106))) else (waveletref03_Mirror.j0 k a0 a1 a2 true))) else (waveletref03_Mirror.j0 k a0 a1 a2 true)))
theorem waveletref03_Mirror.mono_l : ∀ k, (∀ y0 y1 y2 y3, LeO (waveletref03_Mirror.j0 k y0 y1 y2 y3) (waveletref03_Mirror.j0 (k + 1) y0 y1 y2 y3))
  | 0 => fun _ _ _ _ r h => by simp [waveletref03_Mirror.j0] at h
  | k + 1 => by
    have ih0 := waveletref03_Mirror.mono_l k
    · intro y0 y1 y2 y3
      unfold waveletref03_Mirror.j0
      repeat' first
      | (with_reducible exact ih0 _ _ _ _)
      | (with_reducible exact LeO.refl _)
      | (with_reducible exact LeO.none _)
      | (with_reducible refine LeO.ite ?_ ?_)
      | (with_reducible refine LeO.bind ?_ (fun _ => ?_))
      | exact ih0 _ _ _ _
      | exact LeO.none _
      | refine LeO.ite ?_ ?_
      | refine LeO.bind ?_ (fun _ => ?_)
theorem waveletref03_Mirror.mono : ∀ a0 a1 a2 k, LeO (waveletref03_Mirror.f k a0 a1 a2) (waveletref03_Mirror.f (k + 1) a0 a1 a2) := by
  intro a0 a1 a2 k
  have ih0 := waveletref03_Mirror.mono_l k
  unfold waveletref03_Mirror.f
  repeat' first
      | (with_reducible exact ih0 _ _ _ _)
      | (with_reducible exact LeO.refl _)
      | (with_reducible exact LeO.none _)
      | (with_reducible refine LeO.ite ?_ ?_)
      | (with_reducible refine LeO.bind ?_ (fun _ => ?_))
      | exact ih0 _ _ _ _
      | exact LeO.none _
      | refine LeO.ite ?_ ?_
      | refine LeO.bind ?_ (fun _ => ?_)
set_option maxHeartbeats 8000000 in
set_option maxRecDepth 100000 in
theorem waveletref03_Mirror.calls (k : Nat) (a0 : Int) (a1 : Int) (a2 : Int) (r : Int) (w : World) (h : waveletref03_Mirror.f k a0 a1 a2 = some r) :
    Calls Try.prog 11 #[.int .i64 a0, .int .i64 a1, .int .i64 a2] w fun e w' => e = .returned (.int .i64 r) ∧ Drawn0 w w' := by
  have H : (if a1 ≥ a2 then (waveletref03_Mirror.j0 k a0 a1 a2 true) else ((waveletref03_ValidIndex.f a0).bind fun t104 => (if t104 = true then ((waveletref03_ValidIndex.f a1).bind fun t105 => (if t105 = true then ((waveletref03_ValidIndex.f a2).bind fun t106 => (waveletref03_Mirror.j0 k a0 a1 a2 (!t106))) else (waveletref03_Mirror.j0 k a0 a1 a2 true))) else (waveletref03_Mirror.j0 k a0 a1 a2 true)))) = some r := h
  clear h
  have HC4 := Aside0.mk H
  clear H
  go_enter Try.func11, Try.ntmps11
  go_upto_region 1 with (fail)
  go_cut [27] (fun v27 wc => ∃ (kq : Nat) (x27_3 : Bool), v27 = .bool x27_3 ∧ Aside0 (waveletref03_Mirror.j0 kq a0 a1 a2 x27_3 = some r) ∧ Aside0 (kq ≤ k) ∧ Drawn0 w wc)
  case first =>
    have H := HC4.out
    clear HC4
    by_cases c5 : a1 ≥ a2
    · rw [if_pos c5] at H
      have c5b0 : decide (a2 ≤ a1) = true := decide_eq_true c5
      clear c5
      (first | rw [c5b0] | (simp only [i64_w, i32_w]; rw [c5b0]) | skip)
      have H' := Aside0.mk H
      clear H
      go_wp2
      go_meet
      case rel => exact ⟨_, (true), (by first | rfl | (simp; done) | (simp [*]; done)), H', ⟨by first | omega | exact Nat.le_refl _⟩, by repeat (first | exact Drawn0.refl _ | apply Drawn0.step)⟩
    · rw [if_neg c5] at H
      have c5b0 : decide (a2 ≤ a1) = false := decide_eq_false c5
      clear c5
      (first | rw [c5b0] | (simp only [i64_w, i32_w]; rw [c5b0]) | skip)
      replace H := Option.bind_eq_some_iff.mp H
      obtain ⟨t104, A60, H⟩ := H
      replace H : (if t104 = true then ((waveletref03_ValidIndex.f a1).bind fun t105 => (if t105 = true then ((waveletref03_ValidIndex.f a2).bind fun t106 => (waveletref03_Mirror.j0 k a0 a1 a2 (!t106))) else (waveletref03_Mirror.j0 k a0 a1 a2 true))) else (waveletref03_Mirror.j0 k a0 a1 a2 true)) = some r := H
      have A6 := Aside0.mk A60
      clear A60
      by_cases c7 : t104 = true
      · subst c7
        have H1 : ((waveletref03_ValidIndex.f a1).bind fun t105 => (if t105 = true then ((waveletref03_ValidIndex.f a2).bind fun t106 => (waveletref03_Mirror.j0 k a0 a1 a2 (!t106))) else (waveletref03_Mirror.j0 k a0 a1 a2 true))) = some r := by rw [if_pos rfl] at H; exact H
        clear H
        have H := H1
        clear H1
        replace H := Option.bind_eq_some_iff.mp H
        obtain ⟨t105, A80, H⟩ := H
        replace H : (if t105 = true then ((waveletref03_ValidIndex.f a2).bind fun t106 => (waveletref03_Mirror.j0 k a0 a1 a2 (!t106))) else (waveletref03_Mirror.j0 k a0 a1 a2 true)) = some r := H
        have A8 := Aside0.mk A80
        clear A80
        by_cases c9 : t105 = true
        · subst c9
          have H1 : ((waveletref03_ValidIndex.f a2).bind fun t106 => (waveletref03_Mirror.j0 k a0 a1 a2 (!t106))) = some r := by rw [if_pos rfl] at H; exact H
          clear H
          have H := H1
          clear H1
          replace H := Option.bind_eq_some_iff.mp H
          obtain ⟨t106, A100, H⟩ := H
          replace H : (waveletref03_Mirror.j0 k a0 a1 a2 (!t106)) = some r := H
          have A10 := Aside0.mk A100
          clear A100
          have H' := Aside0.mk H
          clear H
          go_wp2_with (first | (go_at_call 23; (with_reducible refine (waveletref03_ValidIndex.calls a0 true _ A6.out).mono ?_); rintro e w' ⟨rfl, ⟨nd, rfl⟩⟩) | (go_at_call 23; (with_reducible refine (waveletref03_ValidIndex.calls a1 true _ A8.out).mono ?_); rintro e w' ⟨rfl, ⟨nd, rfl⟩⟩) | (go_at_call 23; (with_reducible refine (waveletref03_ValidIndex.calls a2 t106 _ A10.out).mono ?_); rintro e w' ⟨rfl, ⟨nd, rfl⟩⟩))
          go_meet
          case rel => exact ⟨_, (!t106), (by first | rfl | (simp; done) | (simp [*]; done)), H', ⟨by first | omega | exact Nat.le_refl _⟩, by repeat (first | exact Drawn0.refl _ | apply Drawn0.step)⟩
        · replace c9 := Bool.eq_false_iff.mpr c9
          subst c9
          have H1 : (waveletref03_Mirror.j0 k a0 a1 a2 true) = some r := by rw [if_neg (show ¬ (false = true) by decide)] at H; exact H
          clear H
          have H := H1
          clear H1
          have H' := Aside0.mk H
          clear H
          go_wp2_with (first | (go_at_call 23; (with_reducible refine (waveletref03_ValidIndex.calls a0 true _ A6.out).mono ?_); rintro e w' ⟨rfl, ⟨nd, rfl⟩⟩) | (go_at_call 23; (with_reducible refine (waveletref03_ValidIndex.calls a1 false _ A8.out).mono ?_); rintro e w' ⟨rfl, ⟨nd, rfl⟩⟩))
          go_meet
          case rel => exact ⟨_, (true), (by first | rfl | (simp; done) | (simp [*]; done)), H', ⟨by first | omega | exact Nat.le_refl _⟩, by repeat (first | exact Drawn0.refl _ | apply Drawn0.step)⟩
      · replace c7 := Bool.eq_false_iff.mpr c7
        subst c7
        have H1 : (waveletref03_Mirror.j0 k a0 a1 a2 true) = some r := by rw [if_neg (show ¬ (false = true) by decide)] at H; exact H
        clear H
        have H := H1
        clear H1
        have H' := Aside0.mk H
        clear H
        go_wp2_with (first | (go_at_call 23; (with_reducible refine (waveletref03_ValidIndex.calls a0 false _ A6.out).mono ?_); rintro e w' ⟨rfl, ⟨nd, rfl⟩⟩))
        go_meet
        case rel => exact ⟨_, (true), (by first | rfl | (simp; done) | (simp [*]; done)), H', ⟨by first | omega | exact Nat.le_refl _⟩, by repeat (first | exact Drawn0.refl _ | apply Drawn0.step)⟩
  case rest =>
    clear HC4
    try clear c1
    try clear p2
    try clear c5
    try clear c5b0
    try clear c7
    try clear c9
    obtain ⟨kq, x27_3, rfl, HA, HJ3, ⟨mc3, rfl⟩⟩ := hcut
    cases kq with
    | zero => exact absurd HA.out (by simp [waveletref03_Mirror.j0])
    | succ kj3 =>
      have H := HA.out
      clear HA
      simp only [waveletref03_Mirror.j0] at H
      by_cases c11 : x27_3 = true
      · subst c11
        have H1 : (some 0) = some r := by rw [if_pos rfl] at H; exact H
        clear H
        have H := H1
        clear H1
        obtain rfl := Option.some.inj H
        go_wp2
        go_ret
        exact ⟨by first | rfl | (simp; done) | (simp [*]; done), by repeat (first | exact Drawn0.refl _ | apply Drawn0.step)⟩
      · replace c11 := Bool.eq_false_iff.mpr c11
        subst c11
        have H1 : (if (wrap64 (a2 - a1)) = 1 then (some a1) else (if (wrap64 (2 * (wrap64 ((wrap64 (a2 - a1)) - 1)))) = 0 then (none) else (if (Int.tmod (wrap64 (a0 - a1)) (wrap64 (2 * (wrap64 ((wrap64 (a2 - a1)) - 1))))) < 0 then (if (wrap64 ((Int.tmod (wrap64 (a0 - a1)) (wrap64 (2 * (wrap64 ((wrap64 (a2 - a1)) - 1))))) + (wrap64 (2 * (wrap64 ((wrap64 (a2 - a1)) - 1)))))) < (wrap64 (a2 - a1)) then (some (wrap64 (a1 + (wrap64 ((Int.tmod (wrap64 (a0 - a1)) (wrap64 (2 * (wrap64 ((wrap64 (a2 - a1)) - 1))))) + (wrap64 (2 * (wrap64 ((wrap64 (a2 - a1)) - 1))))))))) else (some (wrap64 ((wrap64 (a1 + (wrap64 (2 * (wrap64 ((wrap64 (a2 - a1)) - 1)))))) - (wrap64 ((Int.tmod (wrap64 (a0 - a1)) (wrap64 (2 * (wrap64 ((wrap64 (a2 - a1)) - 1))))) + (wrap64 (2 * (wrap64 ((wrap64 (a2 - a1)) - 1)))))))))) else (if (Int.tmod (wrap64 (a0 - a1)) (wrap64 (2 * (wrap64 ((wrap64 (a2 - a1)) - 1))))) < (wrap64 (a2 - a1)) then (some (wrap64 (a1 + (Int.tmod (wrap64 (a0 - a1)) (wrap64 (2 * (wrap64 ((wrap64 (a2 - a1)) - 1)))))))) else (some (wrap64 ((wrap64 (a1 + (wrap64 (2 * (wrap64 ((wrap64 (a2 - a1)) - 1)))))) - (Int.tmod (wrap64 (a0 - a1)) (wrap64 (2 * (wrap64 ((wrap64 (a2 - a1)) - 1)))))))))))) = some r := by rw [if_neg (show ¬ (false = true) by decide)] at H; exact H
        clear H
        have H := H1
        clear H1
        by_cases c12 : (wrap64 (a2 - a1)) = 1
        · rw [if_pos c12] at H
          have c12b0 : ((wrap64 (a2 - a1)) == 1) = true := beq_iff_eq.mpr c12
          have c12b1 : ((wrap64 (a2 - a1)) != 1) = false := bne_eq_false_iff_eq.mpr c12
          clear c12
          obtain rfl := Option.some.inj H
          go_wp2
          go_ret
          exact ⟨by first | rfl | (simp; done) | (simp [*]; done), by repeat (first | exact Drawn0.refl _ | apply Drawn0.step)⟩
        · rw [if_neg c12] at H
          have c12b0 : ((wrap64 (a2 - a1)) == 1) = false := beq_eq_false_iff_ne.mpr c12
          have c12b1 : ((wrap64 (a2 - a1)) != 1) = true := bne_iff_ne.mpr c12
          by_cases c13 : (wrap64 (2 * (wrap64 ((wrap64 (a2 - a1)) - 1)))) = 0
          · rw [if_pos c13] at H
            exact absurd H (by simp)
          · rw [if_neg c13] at H
            have c13b0 : ((wrap64 (2 * (wrap64 ((wrap64 (a2 - a1)) - 1)))) == 0) = false := beq_eq_false_iff_ne.mpr c13
            have c13b1 : ((wrap64 (2 * (wrap64 ((wrap64 (a2 - a1)) - 1)))) != 0) = true := bne_iff_ne.mpr c13
            by_cases c14 : (Int.tmod (wrap64 (a0 - a1)) (wrap64 (2 * (wrap64 ((wrap64 (a2 - a1)) - 1))))) < 0
            · rw [if_pos c14] at H
              have c14b0 : decide ((Int.tmod (wrap64 (a0 - a1)) (wrap64 (2 * (wrap64 ((wrap64 (a2 - a1)) - 1))))) < 0) = true := decide_eq_true c14
              clear c14
              by_cases c15 : (wrap64 ((Int.tmod (wrap64 (a0 - a1)) (wrap64 (2 * (wrap64 ((wrap64 (a2 - a1)) - 1))))) + (wrap64 (2 * (wrap64 ((wrap64 (a2 - a1)) - 1)))))) < (wrap64 (a2 - a1))
              · rw [if_pos c15] at H
                have c15b0 : decide ((wrap64 ((Int.tmod (wrap64 (a0 - a1)) (wrap64 (2 * (wrap64 ((wrap64 (a2 - a1)) - 1))))) + (wrap64 (2 * (wrap64 ((wrap64 (a2 - a1)) - 1)))))) < (wrap64 (a2 - a1))) = true := decide_eq_true c15
                clear c15
                obtain rfl := Option.some.inj H
                go_wp2
                go_ret
                exact ⟨by first | rfl | (simp; done) | (simp [*]; done), by repeat (first | exact Drawn0.refl _ | apply Drawn0.step)⟩
              · rw [if_neg c15] at H
                have c15b0 : decide ((wrap64 ((Int.tmod (wrap64 (a0 - a1)) (wrap64 (2 * (wrap64 ((wrap64 (a2 - a1)) - 1))))) + (wrap64 (2 * (wrap64 ((wrap64 (a2 - a1)) - 1)))))) < (wrap64 (a2 - a1))) = false := decide_eq_false c15
                clear c15
                obtain rfl := Option.some.inj H
                go_wp2
                go_ret
                exact ⟨by first | rfl | (simp; done) | (simp [*]; done), by repeat (first | exact Drawn0.refl _ | apply Drawn0.step)⟩
            · rw [if_neg c14] at H
              have c14b0 : decide ((Int.tmod (wrap64 (a0 - a1)) (wrap64 (2 * (wrap64 ((wrap64 (a2 - a1)) - 1))))) < 0) = false := decide_eq_false c14
              clear c14
              by_cases c16 : (Int.tmod (wrap64 (a0 - a1)) (wrap64 (2 * (wrap64 ((wrap64 (a2 - a1)) - 1))))) < (wrap64 (a2 - a1))
              · rw [if_pos c16] at H
                have c16b0 : decide ((Int.tmod (wrap64 (a0 - a1)) (wrap64 (2 * (wrap64 ((wrap64 (a2 - a1)) - 1))))) < (wrap64 (a2 - a1))) = true := decide_eq_true c16
                clear c16
                obtain rfl := Option.some.inj H
                go_wp2
                go_ret
                exact ⟨by first | rfl | (simp; done) | (simp [*]; done), by repeat (first | exact Drawn0.refl _ | apply Drawn0.step)⟩
              · rw [if_neg c16] at H
                have c16b0 : decide ((Int.tmod (wrap64 (a0 - a1)) (wrap64 (2 * (wrap64 ((wrap64 (a2 - a1)) - 1))))) < (wrap64 (a2 - a1))) = false := decide_eq_false c16
                clear c16
                obtain rfl := Option.some.inj H
                go_wp2
                go_ret
                exact ⟨by first | rfl | (simp; done) | (simp [*]; done), by repeat (first | exact Drawn0.refl _ | apply Drawn0.step)⟩

/-! ### extend_Counts_1: function 24 -/
def extend_Counts_1.f (a0 : Int) : Option (Int) := some (wrap64 (Int.tdiv (wrap64 (a0 + 1)) 2))
set_option maxHeartbeats 8000000 in
set_option maxRecDepth 100000 in
theorem extend_Counts_1.calls (a0 : Int) (r : Int) (w : World) (h : extend_Counts_1.f a0 = some r) :
    Calls Try.prog 24 #[.int .i64 a0] w fun e w' => e = .returned (.int .i64 r) ∧ Drawn0 w w' := by
  have H : (some (wrap64 (Int.tdiv (wrap64 (a0 + 1)) 2))) = some r := h
  clear h
  obtain rfl := Option.some.inj H
  go_enter Try.func24, Try.ntmps24
  go_wp2
  go_ret
  exact ⟨by first | rfl | (simp; done) | (simp [*]; done), by repeat (first | exact Drawn0.refl _ | apply Drawn0.step)⟩

/-! ### extend_Counts: function 13 -/
def extend_Counts.j0 : Nat → Int → Int → Bool → Option (Int × Int)
  | 0, _, _, _ => none
  | k + 1, x0, x1, x20 => if x20 = true then (some (0, 0)) else ((extend_Counts_1.f (wrap64 (x0 + x1))).bind fun t107 => ((extend_Counts_1.f x0).bind fun t108 => (some (wrap64 (t107 - t108), wrap64 (x1 - (wrap64 (t107 - t108)))))))
def extend_Counts.f (k : Nat) (a0 : Int) (a1 : Int) : Option (Int × Int) := if a0 < 0 then (extend_Counts.j0 k a0 a1 true) else (if a0 > 4096 then (extend_Counts.j0 k a0 a1 true) else (if a1 < 0 then (extend_Counts.j0 k a0 a1 true) else (extend_Counts.j0 k a0 a1 (decide (a1 > 4096)))))
theorem extend_Counts.mono_l : ∀ k, (∀ y0 y1 y2, LeO (extend_Counts.j0 k y0 y1 y2) (extend_Counts.j0 (k + 1) y0 y1 y2))
  | 0 => fun _ _ _ r h => by simp [extend_Counts.j0] at h
  | k + 1 => by
    have ih0 := extend_Counts.mono_l k
    · intro y0 y1 y2
      unfold extend_Counts.j0
      repeat' first
      | (with_reducible exact ih0 _ _ _)
      | (with_reducible exact LeO.refl _)
      | (with_reducible exact LeO.none _)
      | (with_reducible refine LeO.ite ?_ ?_)
      | (with_reducible refine LeO.bind ?_ (fun _ => ?_))
      | exact ih0 _ _ _
      | exact LeO.none _
      | refine LeO.ite ?_ ?_
      | refine LeO.bind ?_ (fun _ => ?_)
theorem extend_Counts.mono : ∀ a0 a1 k, LeO (extend_Counts.f k a0 a1) (extend_Counts.f (k + 1) a0 a1) := by
  intro a0 a1 k
  have ih0 := extend_Counts.mono_l k
  unfold extend_Counts.f
  repeat' first
      | (with_reducible exact ih0 _ _ _)
      | (with_reducible exact LeO.refl _)
      | (with_reducible exact LeO.none _)
      | (with_reducible refine LeO.ite ?_ ?_)
      | (with_reducible refine LeO.bind ?_ (fun _ => ?_))
      | exact ih0 _ _ _
      | exact LeO.none _
      | refine LeO.ite ?_ ?_
      | refine LeO.bind ?_ (fun _ => ?_)
set_option maxHeartbeats 8000000 in
set_option maxRecDepth 100000 in
theorem extend_Counts.calls (k : Nat) (a0 : Int) (a1 : Int) (r1 : Int) (r2 : Int) (w : World) (h : extend_Counts.f k a0 a1 = some (r1, r2)) :
    Calls Try.prog 13 #[.int .i64 a0, .int .i64 a1] w fun e w' => e = .returned (.tuple #[.int .i64 r1, .int .i64 r2]) ∧ Drawn0 w w' := by
  have H : (if a0 < 0 then (extend_Counts.j0 k a0 a1 true) else (if a0 > 4096 then (extend_Counts.j0 k a0 a1 true) else (if a1 < 0 then (extend_Counts.j0 k a0 a1 true) else (extend_Counts.j0 k a0 a1 (decide (a1 > 4096)))))) = some (r1, r2) := h
  clear h
  have HC3 := Aside0.mk H
  clear H
  go_enter Try.func13, Try.ntmps13
  go_upto_region 1 with (fail)
  go_cut [20] (fun v20 wc => ∃ (kq : Nat) (x20_2 : Bool), v20 = .bool x20_2 ∧ Aside0 (extend_Counts.j0 kq a0 a1 x20_2 = some (r1, r2)) ∧ Aside0 (kq ≤ k) ∧ Drawn0 w wc)
  case first =>
    have H := HC3.out
    clear HC3
    by_cases c4 : a0 < 0
    · rw [if_pos c4] at H
      have c4b0 : decide (a0 < 0) = true := decide_eq_true c4
      clear c4
      (first | rw [c4b0] | (simp only [i64_w, i32_w]; rw [c4b0]) | skip)
      have H' := Aside0.mk H
      clear H
      go_wp2
      go_meet
      case rel => exact ⟨_, (true), (by first | rfl | (simp; done) | (simp [*]; done)), H', ⟨by first | omega | exact Nat.le_refl _⟩, by repeat (first | exact Drawn0.refl _ | apply Drawn0.step)⟩
    · rw [if_neg c4] at H
      have c4b0 : decide (a0 < 0) = false := decide_eq_false c4
      clear c4
      (first | rw [c4b0] | (simp only [i64_w, i32_w]; rw [c4b0]) | skip)
      by_cases c5 : a0 > 4096
      · rw [if_pos c5] at H
        have c5b0 : decide (4096 < a0) = true := decide_eq_true c5
        clear c5
        have H' := Aside0.mk H
        clear H
        go_wp2
        go_meet
        case rel => exact ⟨_, (true), (by first | rfl | (simp; done) | (simp [*]; done)), H', ⟨by first | omega | exact Nat.le_refl _⟩, by repeat (first | exact Drawn0.refl _ | apply Drawn0.step)⟩
      · rw [if_neg c5] at H
        have c5b0 : decide (4096 < a0) = false := decide_eq_false c5
        clear c5
        by_cases c6 : a1 < 0
        · rw [if_pos c6] at H
          have c6b0 : decide (a1 < 0) = true := decide_eq_true c6
          clear c6
          have H' := Aside0.mk H
          clear H
          go_wp2
          go_meet
          case rel => exact ⟨_, (true), (by first | rfl | (simp; done) | (simp [*]; done)), H', ⟨by first | omega | exact Nat.le_refl _⟩, by repeat (first | exact Drawn0.refl _ | apply Drawn0.step)⟩
        · rw [if_neg c6] at H
          have c6b0 : decide (a1 < 0) = false := decide_eq_false c6
          clear c6
          have H' := Aside0.mk H
          clear H
          go_wp2
          go_meet
          case rel => exact ⟨_, (decide (a1 > 4096)), (by first | rfl | (simp; done) | (simp [*]; done)), H', ⟨by first | omega | exact Nat.le_refl _⟩, by repeat (first | exact Drawn0.refl _ | apply Drawn0.step)⟩
  case rest =>
    clear HC3
    try clear c1
    try clear p2
    try clear c4
    try clear c4b0
    try clear c5
    try clear c5b0
    try clear c6
    try clear c6b0
    obtain ⟨kq, x20_2, rfl, HA, HJ2, ⟨mc2, rfl⟩⟩ := hcut
    cases kq with
    | zero => exact absurd HA.out (by simp [extend_Counts.j0])
    | succ kj2 =>
      have H := HA.out
      clear HA
      simp only [extend_Counts.j0] at H
      by_cases c7 : x20_2 = true
      · subst c7
        have H1 : (some (0, 0)) = some (r1, r2) := by rw [if_pos rfl] at H; exact H
        clear H
        have H := H1
        clear H1
        simp only [Option.some.injEq, Prod.mk.injEq] at H
        obtain ⟨rfl, rfl⟩ := H
        go_wp2
        go_ret2
        exact ⟨by first | rfl | (simp; done) | (simp [*]; done), by repeat (first | exact Drawn0.refl _ | apply Drawn0.step)⟩
      · replace c7 := Bool.eq_false_iff.mpr c7
        subst c7
        have H1 : ((extend_Counts_1.f (wrap64 (a0 + a1))).bind fun t107 => ((extend_Counts_1.f a0).bind fun t108 => (some (wrap64 (t107 - t108), wrap64 (a1 - (wrap64 (t107 - t108))))))) = some (r1, r2) := by rw [if_neg (show ¬ (false = true) by decide)] at H; exact H
        clear H
        have H := H1
        clear H1
        replace H := Option.bind_eq_some_iff.mp H
        obtain ⟨t107, A80, H⟩ := H
        replace H : ((extend_Counts_1.f a0).bind fun t108 => (some (wrap64 (t107 - t108), wrap64 (a1 - (wrap64 (t107 - t108)))))) = some (r1, r2) := H
        have A8 := Aside0.mk A80
        clear A80
        replace H := Option.bind_eq_some_iff.mp H
        obtain ⟨t108, A90, H⟩ := H
        replace H : (some (wrap64 (t107 - t108), wrap64 (a1 - (wrap64 (t107 - t108))))) = some (r1, r2) := H
        have A9 := Aside0.mk A90
        clear A90
        simp only [Option.some.injEq, Prod.mk.injEq] at H
        obtain ⟨rfl, rfl⟩ := H
        go_wp2_with (first | ((with_reducible refine gate_dst (N := 25) rfl ?_); refine goesLV_ (some 25) rfl rfl (x := (.tmp 21)) Try.func24 (by kernel_rfl) rfl #[.int .i64 (wrap64 (a0 + a1))] rfl rfl (by (try simp only [List.map_toArray, List.map_cons, List.map_nil]); first | done | rfl | (simp only [List.length_drop, List.length_take]; rfl)) ?_; (with_reducible refine (extend_Counts_1.calls (wrap64 (a0 + a1)) t107 _ A8.out).mono ?_); rintro e w' ⟨rfl, ⟨nd, rfl⟩⟩; refine ⟨_, rfl, ?_⟩) | ((with_reducible refine gate_dst (N := 28) rfl ?_); refine goesLV_ (some 28) rfl rfl (x := (.tmp 26)) Try.func24 (by kernel_rfl) rfl #[.int .i64 a0] rfl rfl (by (try simp only [List.map_toArray, List.map_cons, List.map_nil]); first | done | rfl | (simp only [List.length_drop, List.length_take]; rfl)) ?_; (with_reducible refine (extend_Counts_1.calls a0 t108 _ A9.out).mono ?_); rintro e w' ⟨rfl, ⟨nd, rfl⟩⟩; refine ⟨_, rfl, ?_⟩))
        go_ret2
        exact ⟨by first | rfl | (simp; done) | (simp [*]; done), by repeat (first | exact Drawn0.refl _ | apply Drawn0.step)⟩

end Go.Proofs.Ytkpmedlliobljaa.PA
