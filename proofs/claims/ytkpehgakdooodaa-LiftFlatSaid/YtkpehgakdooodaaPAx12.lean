-- Written by wip/tools/wprint.py (the prover's own program over the kit's print) for this claim. Not trusted: Lean checks it.
import Derived.Test.YtkpehgakdooodaaPAx0
import Derived.Test.YtkpehgakdooodaaPAx11
namespace Go.Proofs.Ytkpehgakdooodaa.PA
open Go.RowKit Go.Proofs.YtkpehgakdooodaaW.PrintWords Go.Proofs.YtkpehgakdooodaaW.PrintLast Go.Proofs.YtkpehgakdooodaaW.PrintMore
attribute [local go_sem] max2_int min2_int max_two min_two max_three min_three max_four min_four   -- for this text's walks alone
set_option linter.unusedVariables false
set_option linter.unusedSimpArgs false

/-! ### waveletref03_Mirror: function 48 -/
def waveletref03_Mirror.j0 : Nat → Int → Int → Int → Bool → Option (Int)
  | 0, _, _, _, _ => none
  | k + 1, x0, x1, x2, x27 => if x27 = true then (some 0) else (if (wrap64 (x2 - x1)) = 1 then (some x1) else (if (wrap64 (2 * (wrap64 ((wrap64 (x2 - x1)) - 1)))) = 0 then (none) else (if (Int.tmod (wrap64 (x0 - x1)) (wrap64 (2 * (wrap64 ((wrap64 (x2 - x1)) - 1))))) < 0 then (if (wrap64 ((Int.tmod (wrap64 (x0 - x1)) (wrap64 (2 * (wrap64 ((wrap64 (x2 - x1)) - 1))))) + (wrap64 (2 * (wrap64 ((wrap64 (x2 - x1)) - 1)))))) < (wrap64 (x2 - x1)) then (some (wrap64 (x1 + (wrap64 ((Int.tmod (wrap64 (x0 - x1)) (wrap64 (2 * (wrap64 ((wrap64 (x2 - x1)) - 1))))) + (wrap64 (2 * (wrap64 ((wrap64 (x2 - x1)) - 1))))))))) else (some (wrap64 ((wrap64 (x1 + (wrap64 (2 * (wrap64 ((wrap64 (x2 - x1)) - 1)))))) - (wrap64 ((Int.tmod (wrap64 (x0 - x1)) (wrap64 (2 * (wrap64 ((wrap64 (x2 - x1)) - 1))))) + (wrap64 (2 * (wrap64 ((wrap64 (x2 - x1)) - 1)))))))))) else (if (Int.tmod (wrap64 (x0 - x1)) (wrap64 (2 * (wrap64 ((wrap64 (x2 - x1)) - 1))))) < (wrap64 (x2 - x1)) then (some (wrap64 (x1 + (Int.tmod (wrap64 (x0 - x1)) (wrap64 (2 * (wrap64 ((wrap64 (x2 - x1)) - 1)))))))) else (some (wrap64 ((wrap64 (x1 + (wrap64 (2 * (wrap64 ((wrap64 (x2 - x1)) - 1)))))) - (Int.tmod (wrap64 (x0 - x1)) (wrap64 (2 * (wrap64 ((wrap64 (x2 - x1)) - 1))))))))))))
def waveletref03_Mirror.f (k : Nat) (a0 : Int) (a1 : Int) (a2 : Int) : Option (Int) := if a1 ≥ a2 then (waveletref03_Mirror.j0 k a0 a1 a2 true) else ((waveletref03_ValidIndex.f a0).bind fun t245 => (if t245 = true then ((waveletref03_ValidIndex.f a1).bind fun t246 => (if t246 = true then ((waveletref03_ValidIndex.f a2).bind fun t247 => (waveletref03_Mirror.j0 k a0 a1 a2 (!t247))) else (waveletref03_Mirror.j0 k a0 a1 a2 true))) else (waveletref03_Mirror.j0 k a0 a1 a2 true)))
theorem waveletref03_Mirror.mono_l : ∀ k, (∀ y0 y1 y2 y3, LeO (waveletref03_Mirror.j0 k y0 y1 y2 y3) (waveletref03_Mirror.j0 (k + 1) y0 y1 y2 y3))
  | 0 => fun _ _ _ _ r h => by simp [waveletref03_Mirror.j0] at h
  | k + 1 => by
    have ih0 := waveletref03_Mirror.mono_l k
    · intro y0 y1 y2 y3
      unfold waveletref03_Mirror.j0
      repeat' first
      | (with_reducible exact ih0 _ _ _ _)
      | (with_reducible exact LeO.refl _)
      | (with_reducible exact LeO.none _)
      | (with_reducible refine LeO.ite ?_ ?_)
      | (with_reducible refine LeO.bind ?_ (fun _ => ?_))
      | exact ih0 _ _ _ _
      | exact LeO.none _
      | refine LeO.ite ?_ ?_
      | refine LeO.bind ?_ (fun _ => ?_)
theorem waveletref03_Mirror.mono : ∀ a0 a1 a2 k, LeO (waveletref03_Mirror.f k a0 a1 a2) (waveletref03_Mirror.f (k + 1) a0 a1 a2) := by
  intro a0 a1 a2 k
  have ih0 := waveletref03_Mirror.mono_l k
  unfold waveletref03_Mirror.f
  repeat' first
      | (with_reducible exact ih0 _ _ _ _)
      | (with_reducible exact LeO.refl _)
      | (with_reducible exact LeO.none _)
      | (with_reducible refine LeO.ite ?_ ?_)
      | (with_reducible refine LeO.bind ?_ (fun _ => ?_))
      | exact ih0 _ _ _ _
      | exact LeO.none _
      | refine LeO.ite ?_ ?_
      | refine LeO.bind ?_ (fun _ => ?_)
set_option maxHeartbeats 8000000 in
set_option maxRecDepth 100000 in
theorem waveletref03_Mirror.calls (k : Nat) (a0 : Int) (a1 : Int) (a2 : Int) (r : Int) (w : World) (h : waveletref03_Mirror.f k a0 a1 a2 = some r) :
    Calls Try.prog 48 #[.int .i64 a0, .int .i64 a1, .int .i64 a2] w fun e w' => e = .returned (.int .i64 r) ∧ Drawn0 w w' := by
  have H : (if a1 ≥ a2 then (waveletref03_Mirror.j0 k a0 a1 a2 true) else ((waveletref03_ValidIndex.f a0).bind fun t245 => (if t245 = true then ((waveletref03_ValidIndex.f a1).bind fun t246 => (if t246 = true then ((waveletref03_ValidIndex.f a2).bind fun t247 => (waveletref03_Mirror.j0 k a0 a1 a2 (!t247))) else (waveletref03_Mirror.j0 k a0 a1 a2 true))) else (waveletref03_Mirror.j0 k a0 a1 a2 true)))) = some r := h
  clear h
  have HC4 := Aside0.mk H
  clear H
  go_enter Try.func48, Try.ntmps48
  go_upto_region 1 with (fail)
  go_cut [27] (fun v27 wc => ∃ (kq : Nat) (x27_3 : Bool), v27 = .bool x27_3 ∧ Aside0 (waveletref03_Mirror.j0 kq a0 a1 a2 x27_3 = some r) ∧ Aside0 (kq ≤ k) ∧ Drawn0 w wc)
  case first =>
    have H := HC4.out
    clear HC4
    by_cases c5 : a1 ≥ a2
    · rw [if_pos c5] at H
      have c5b0 : decide (a2 ≤ a1) = true := decide_eq_true c5
      clear c5
      (first | rw [c5b0] | (simp only [i64_w, i32_w]; rw [c5b0]) | skip)
      have H' := Aside0.mk H
      clear H
      go_wp2
      go_meet
      case rel => exact ⟨_, (true), (by first | rfl | (simp; done) | (simp [*]; done)), H', ⟨by first | omega | exact Nat.le_refl _⟩, by repeat (first | exact Drawn0.refl _ | apply Drawn0.step)⟩
    · rw [if_neg c5] at H
      have c5b0 : decide (a2 ≤ a1) = false := decide_eq_false c5
      clear c5
      (first | rw [c5b0] | (simp only [i64_w, i32_w]; rw [c5b0]) | skip)
      replace H := Option.bind_eq_some_iff.mp H
      obtain ⟨t245, A60, H⟩ := H
      replace H : (if t245 = true then ((waveletref03_ValidIndex.f a1).bind fun t246 => (if t246 = true then ((waveletref03_ValidIndex.f a2).bind fun t247 => (waveletref03_Mirror.j0 k a0 a1 a2 (!t247))) else (waveletref03_Mirror.j0 k a0 a1 a2 true))) else (waveletref03_Mirror.j0 k a0 a1 a2 true)) = some r := H
      have A6 := Aside0.mk A60
      clear A60
      by_cases c7 : t245 = true
      · subst c7
        have H1 : ((waveletref03_ValidIndex.f a1).bind fun t246 => (if t246 = true then ((waveletref03_ValidIndex.f a2).bind fun t247 => (waveletref03_Mirror.j0 k a0 a1 a2 (!t247))) else (waveletref03_Mirror.j0 k a0 a1 a2 true))) = some r := by rw [if_pos rfl] at H; exact H
        clear H
        have H := H1
        clear H1
        replace H := Option.bind_eq_some_iff.mp H
        obtain ⟨t246, A80, H⟩ := H
        replace H : (if t246 = true then ((waveletref03_ValidIndex.f a2).bind fun t247 => (waveletref03_Mirror.j0 k a0 a1 a2 (!t247))) else (waveletref03_Mirror.j0 k a0 a1 a2 true)) = some r := H
        have A8 := Aside0.mk A80
        clear A80
        by_cases c9 : t246 = true
        · subst c9
          have H1 : ((waveletref03_ValidIndex.f a2).bind fun t247 => (waveletref03_Mirror.j0 k a0 a1 a2 (!t247))) = some r := by rw [if_pos rfl] at H; exact H
          clear H
          have H := H1
          clear H1
          replace H := Option.bind_eq_some_iff.mp H
          obtain ⟨t247, A100, H⟩ := H
          replace H : (waveletref03_Mirror.j0 k a0 a1 a2 (!t247)) = some r := H
          have A10 := Aside0.mk A100
          clear A100
          have H' := Aside0.mk H
          clear H
          go_wp2_with (first | (go_at_call 49; (with_reducible refine (waveletref03_ValidIndex.calls a0 true _ A6.out).mono ?_); rintro e w' ⟨rfl, ⟨nd, rfl⟩⟩) | (go_at_call 49; (with_reducible refine (waveletref03_ValidIndex.calls a1 true _ A8.out).mono ?_); rintro e w' ⟨rfl, ⟨nd, rfl⟩⟩) | (go_at_call 49; (with_reducible refine (waveletref03_ValidIndex.calls a2 t247 _ A10.out).mono ?_); rintro e w' ⟨rfl, ⟨nd, rfl⟩⟩))
          go_meet
          case rel => exact ⟨_, (!t247), (by first | rfl | (simp; done) | (simp [*]; done)), H', ⟨by first | omega | exact Nat.le_refl _⟩, by repeat (first | exact Drawn0.refl _ | apply Drawn0.step)⟩
        · replace c9 := Bool.eq_false_iff.mpr c9
          subst c9
          have H1 : (waveletref03_Mirror.j0 k a0 a1 a2 true) = some r := by rw [if_neg (show ¬ (false = true) by decide)] at H; exact H
          clear H
          have H := H1
          clear H1
          have H' := Aside0.mk H
          clear H
          go_wp2_with (first | (go_at_call 49; (with_reducible refine (waveletref03_ValidIndex.calls a0 true _ A6.out).mono ?_); rintro e w' ⟨rfl, ⟨nd, rfl⟩⟩) | (go_at_call 49; (with_reducible refine (waveletref03_ValidIndex.calls a1 false _ A8.out).mono ?_); rintro e w' ⟨rfl, ⟨nd, rfl⟩⟩))
          go_meet
          case rel => exact ⟨_, (true), (by first | rfl | (simp; done) | (simp [*]; done)), H', ⟨by first | omega | exact Nat.le_refl _⟩, by repeat (first | exact Drawn0.refl _ | apply Drawn0.step)⟩
      · replace c7 := Bool.eq_false_iff.mpr c7
        subst c7
        have H1 : (waveletref03_Mirror.j0 k a0 a1 a2 true) = some r := by rw [if_neg (show ¬ (false = true) by decide)] at H; exact H
        clear H
        have H := H1
        clear H1
        have H' := Aside0.mk H
        clear H
        go_wp2_with (first | (go_at_call 49; (with_reducible refine (waveletref03_ValidIndex.calls a0 false _ A6.out).mono ?_); rintro e w' ⟨rfl, ⟨nd, rfl⟩⟩))
        go_meet
        case rel => exact ⟨_, (true), (by first | rfl | (simp; done) | (simp [*]; done)), H', ⟨by first | omega | exact Nat.le_refl _⟩, by repeat (first | exact Drawn0.refl _ | apply Drawn0.step)⟩
  case rest =>
    clear HC4
    try clear p2
    try clear c4
    try clear c5
    try clear c5b0
    try clear c7
    try clear c9
    obtain ⟨kq, x27_3, rfl, HA, HJ3, ⟨mc3, rfl⟩⟩ := hcut
    cases kq with
    | zero => exact absurd HA.out (by simp [waveletref03_Mirror.j0])
    | succ kj3 =>
      have H := HA.out
      clear HA
      simp only [waveletref03_Mirror.j0] at H
      by_cases c11 : x27_3 = true
      · subst c11
        have H1 : (some 0) = some r := by rw [if_pos rfl] at H; exact H
        clear H
        have H := H1
        clear H1
        obtain rfl := Option.some.inj H
        go_wp2
        go_ret
        exact ⟨by first | rfl | (simp; done) | (simp [*]; done), by repeat (first | exact Drawn0.refl _ | apply Drawn0.step)⟩
      · replace c11 := Bool.eq_false_iff.mpr c11
        subst c11
        have H1 : (if (wrap64 (a2 - a1)) = 1 then (some a1) else (if (wrap64 (2 * (wrap64 ((wrap64 (a2 - a1)) - 1)))) = 0 then (none) else (if (Int.tmod (wrap64 (a0 - a1)) (wrap64 (2 * (wrap64 ((wrap64 (a2 - a1)) - 1))))) < 0 then (if (wrap64 ((Int.tmod (wrap64 (a0 - a1)) (wrap64 (2 * (wrap64 ((wrap64 (a2 - a1)) - 1))))) + (wrap64 (2 * (wrap64 ((wrap64 (a2 - a1)) - 1)))))) < (wrap64 (a2 - a1)) then (some (wrap64 (a1 + (wrap64 ((Int.tmod (wrap64 (a0 - a1)) (wrap64 (2 * (wrap64 ((wrap64 (a2 - a1)) - 1))))) + (wrap64 (2 * (wrap64 ((wrap64 (a2 - a1)) - 1))))))))) else (some (wrap64 ((wrap64 (a1 + (wrap64 (2 * (wrap64 ((wrap64 (a2 - a1)) - 1)))))) - (wrap64 ((Int.tmod (wrap64 (a0 - a1)) (wrap64 (2 * (wrap64 ((wrap64 (a2 - a1)) - 1))))) + (wrap64 (2 * (wrap64 ((wrap64 (a2 - a1)) - 1)))))))))) else (if (Int.tmod (wrap64 (a0 - a1)) (wrap64 (2 * (wrap64 ((wrap64 (a2 - a1)) - 1))))) < (wrap64 (a2 - a1)) then (some (wrap64 (a1 + (Int.tmod (wrap64 (a0 - a1)) (wrap64 (2 * (wrap64 ((wrap64 (a2 - a1)) - 1)))))))) else (some (wrap64 ((wrap64 (a1 + (wrap64 (2 * (wrap64 ((wrap64 (a2 - a1)) - 1)))))) - (Int.tmod (wrap64 (a0 - a1)) (wrap64 (2 * (wrap64 ((wrap64 (a2 - a1)) - 1)))))))))))) = some r := by rw [if_neg (show ¬ (false = true) by decide)] at H; exact H
        clear H
        have H := H1
        clear H1
        by_cases c12 : (wrap64 (a2 - a1)) = 1
        · rw [if_pos c12] at H
          have c12b0 : ((wrap64 (a2 - a1)) == 1) = true := beq_iff_eq.mpr c12
          have c12b1 : ((wrap64 (a2 - a1)) != 1) = false := bne_eq_false_iff_eq.mpr c12
          clear c12
          obtain rfl := Option.some.inj H
          go_wp2
          go_ret
          exact ⟨by first | rfl | (simp; done) | (simp [*]; done), by repeat (first | exact Drawn0.refl _ | apply Drawn0.step)⟩
        · rw [if_neg c12] at H
          have c12b0 : ((wrap64 (a2 - a1)) == 1) = false := beq_eq_false_iff_ne.mpr c12
          have c12b1 : ((wrap64 (a2 - a1)) != 1) = true := bne_iff_ne.mpr c12
          by_cases c13 : (wrap64 (2 * (wrap64 ((wrap64 (a2 - a1)) - 1)))) = 0
          · rw [if_pos c13] at H
            exact absurd H (by simp)
          · rw [if_neg c13] at H
            have c13b0 : ((wrap64 (2 * (wrap64 ((wrap64 (a2 - a1)) - 1)))) == 0) = false := beq_eq_false_iff_ne.mpr c13
            have c13b1 : ((wrap64 (2 * (wrap64 ((wrap64 (a2 - a1)) - 1)))) != 0) = true := bne_iff_ne.mpr c13
            by_cases c14 : (Int.tmod (wrap64 (a0 - a1)) (wrap64 (2 * (wrap64 ((wrap64 (a2 - a1)) - 1))))) < 0
            · rw [if_pos c14] at H
              have c14b0 : decide ((Int.tmod (wrap64 (a0 - a1)) (wrap64 (2 * (wrap64 ((wrap64 (a2 - a1)) - 1))))) < 0) = true := decide_eq_true c14
              clear c14
              by_cases c15 : (wrap64 ((Int.tmod (wrap64 (a0 - a1)) (wrap64 (2 * (wrap64 ((wrap64 (a2 - a1)) - 1))))) + (wrap64 (2 * (wrap64 ((wrap64 (a2 - a1)) - 1)))))) < (wrap64 (a2 - a1))
              · rw [if_pos c15] at H
                have c15b0 : decide ((wrap64 ((Int.tmod (wrap64 (a0 - a1)) (wrap64 (2 * (wrap64 ((wrap64 (a2 - a1)) - 1))))) + (wrap64 (2 * (wrap64 ((wrap64 (a2 - a1)) - 1)))))) < (wrap64 (a2 - a1))) = true := decide_eq_true c15
                clear c15
                obtain rfl := Option.some.inj H
                go_wp2
                go_ret
                exact ⟨by first | rfl | (simp; done) | (simp [*]; done), by repeat (first | exact Drawn0.refl _ | apply Drawn0.step)⟩
              · rw [if_neg c15] at H
                have c15b0 : decide ((wrap64 ((Int.tmod (wrap64 (a0 - a1)) (wrap64 (2 * (wrap64 ((wrap64 (a2 - a1)) - 1))))) + (wrap64 (2 * (wrap64 ((wrap64 (a2 - a1)) - 1)))))) < (wrap64 (a2 - a1))) = false := decide_eq_false c15
                clear c15
                obtain rfl := Option.some.inj H
                go_wp2
                go_ret
                exact ⟨by first | rfl | (simp; done) | (simp [*]; done), by repeat (first | exact Drawn0.refl _ | apply Drawn0.step)⟩
            · rw [if_neg c14] at H
              have c14b0 : decide ((Int.tmod (wrap64 (a0 - a1)) (wrap64 (2 * (wrap64 ((wrap64 (a2 - a1)) - 1))))) < 0) = false := decide_eq_false c14
              clear c14
              by_cases c16 : (Int.tmod (wrap64 (a0 - a1)) (wrap64 (2 * (wrap64 ((wrap64 (a2 - a1)) - 1))))) < (wrap64 (a2 - a1))
              · rw [if_pos c16] at H
                have c16b0 : decide ((Int.tmod (wrap64 (a0 - a1)) (wrap64 (2 * (wrap64 ((wrap64 (a2 - a1)) - 1))))) < (wrap64 (a2 - a1))) = true := decide_eq_true c16
                clear c16
                obtain rfl := Option.some.inj H
                go_wp2
                go_ret
                exact ⟨by first | rfl | (simp; done) | (simp [*]; done), by repeat (first | exact Drawn0.refl _ | apply Drawn0.step)⟩
              · rw [if_neg c16] at H
                have c16b0 : decide ((Int.tmod (wrap64 (a0 - a1)) (wrap64 (2 * (wrap64 ((wrap64 (a2 - a1)) - 1))))) < (wrap64 (a2 - a1))) = false := decide_eq_false c16
                clear c16
                obtain rfl := Option.some.inj H
                go_wp2
                go_ret
                exact ⟨by first | rfl | (simp; done) | (simp [*]; done), by repeat (first | exact Drawn0.refl _ | apply Drawn0.step)⟩

/-! ### waveletref04_at: function 45 -/
def waveletref04_at.f (k : Nat) (l0 : List Int) (a1 : Int) (a2 : Int) : Option (Int) := (waveletref03_Mirror.f k a2 a1 (wrap64 (a1 + (l0.length : Int)))).bind fun t248 => (if 0 ≤ (wrap64 (t248 - a1)) then (if (wrap64 (t248 - a1)) < (l0.length : Int) then (some (rd l0 (wrap64 (t248 - a1)))) else (none)) else (none))
theorem waveletref04_at.mono : ∀ a0 a1 a2 k, LeO (waveletref04_at.f k a0 a1 a2) (waveletref04_at.f (k + 1) a0 a1 a2) := by
  intro a0 a1 a2 k
  unfold waveletref04_at.f
  repeat' first
      | (with_reducible exact waveletref03_Mirror.mono _ _ _ _)
      | (with_reducible exact LeO.refl _)
      | (with_reducible exact LeO.none _)
      | (with_reducible refine LeO.ite ?_ ?_)
      | (with_reducible refine LeO.bind ?_ (fun _ => ?_))
      | exact waveletref03_Mirror.mono _ _ _ _
      | exact LeO.none _
      | refine LeO.ite ?_ ?_
      | refine LeO.bind ?_ (fun _ => ?_)
set_option maxHeartbeats 8000000 in
set_option maxRecDepth 100000 in
theorem waveletref04_at.calls (k : Nat) (A0 : Option Addr) (c0 : Nat) (l0 : List Int) (a1 : Int) (a2 : Int) (r : Int) (w : World) (hr0 : Kd.C (Kd.int .i64) w A0 l0.length l0) (hc0 : l0.length ≤ c0) (h : waveletref04_at.f k l0 a1 a2 = some r) :
    Calls Try.prog 45 #[.slice A0 l0.length c0, .int .i64 a1, .int .i64 a2] w fun e w' => e = .returned (.int .i64 r) ∧ Drawn0 w w' := by
  have HR0 := Aside0.mk hr0
  have HC0 := Aside0.mk hc0
  clear hr0 hc0
  have H : ((waveletref03_Mirror.f k a2 a1 (wrap64 (a1 + (l0.length : Int)))).bind fun t248 => (if 0 ≤ (wrap64 (t248 - a1)) then (if (wrap64 (t248 - a1)) < (l0.length : Int) then (some (rd l0 (wrap64 (t248 - a1)))) else (none)) else (none))) = some r := h
  clear h
  replace H := Option.bind_eq_some_iff.mp H
  obtain ⟨t248, A40, H⟩ := H
  replace H : (if 0 ≤ (wrap64 (t248 - a1)) then (if (wrap64 (t248 - a1)) < (l0.length : Int) then (some (rd l0 (wrap64 (t248 - a1)))) else (none)) else (none)) = some r := H
  have A4 := Aside0.mk A40
  clear A40
  obtain ⟨ji5, hji5⟩ : ∃ j_ : Int, (wrap64 (t248 - a1)) = j_ := ⟨_, rfl⟩
  replace H : (if 0 ≤ (ji5) then (if (ji5) < (l0.length : Int) then (some (rd l0 (ji5))) else (none)) else (none)) = some r := by first | (rw [hji5] at H; exact H) | (simp only [hji5] at H ⊢; exact H)
  (try rw [hji5] at A4)
  have hji5w : (IntKind.i64.wrap (t248 - a1)) = ji5 := (i64_w _).trans hji5
  by_cases c6 : 0 ≤ (ji5)
  · rw [if_pos c6] at H
    have c6b0 : decide (0 ≤ (ji5)) = true := decide_eq_true c6
    clear c6
    by_cases c7 : (ji5) < (l0.length : Int)
    · rw [if_pos c7] at H
      have c7b0 : decide ((ji5) < (l0.length : Int)) = true := decide_eq_true c7
      clear c7
      obtain rfl := Option.some.inj H
      go_enter Try.func45, Try.ntmps45
      go_wp2_with (first | ((with_reducible refine gate_callee (f := 48) rfl ?_); refine goesL_ (some 14) rfl rfl Try.func48 (by kernel_rfl) rfl #[.int .i64 a2, .int .i64 a1, .int .i64 (wrap64 (a1 + (l0.length : Int)))] rfl (by (try simp only [List.map_toArray, List.map_cons, List.map_nil]); first | done | rfl | (simp only [List.length_drop, List.length_take]; rfl)) ?_; (with_reducible refine (waveletref03_Mirror.calls k a2 a1 (wrap64 (a1 + (l0.length : Int))) t248 _ A4.out).mono ?_); rintro e w' ⟨rfl, ⟨nd, rfl⟩⟩; refine ⟨_, rfl, ?_⟩; have p249 : 0 ≤ ((ji5) : Int) := of_decide_eq_true (by first | (with_reducible assumption) | assumption); have q249 : (ji5) < (l0.length : Int) := of_decide_eq_true (by first | (with_reducible assumption) | assumption); obtain ⟨ad249, e249, hx249_0⟩ := Kd.at_int HR0.out (ji5) p249 q249; cases e249; replace p249 := eq_true p249; replace q249 := eq_true q249))
      go_ret
      exact ⟨by first | rfl | (simp; done) | (simp only [← hji5] <;> (first | rfl | simp)) | (simp [*]; done), by repeat (first | exact Drawn0.refl _ | apply Drawn0.step)⟩
    · rw [if_neg c7] at H
      exact absurd H (by simp)
  · rw [if_neg c6] at H
    exact absurd H (by simp)

/-! ### waveletref04_FloorDiv: function 46 -/
def waveletref04_FloorDiv.f (a0 : Int) (a1 : Int) : Option (Int) := if a1 = 0 then (none) else (if (Int.tmod a0 a1) < 0 then (some (wrap64 ((wrap64 (Int.tdiv a0 a1)) - 1))) else (some (wrap64 (Int.tdiv a0 a1))))
set_option maxHeartbeats 8000000 in
set_option maxRecDepth 100000 in
theorem waveletref04_FloorDiv.calls (a0 : Int) (a1 : Int) (r : Int) (w : World) (h : waveletref04_FloorDiv.f a0 a1 = some r) :
    Calls Try.prog 46 #[.int .i64 a0, .int .i64 a1] w fun e w' => e = .returned (.int .i64 r) ∧ Drawn0 w w' := by
  have H : (if a1 = 0 then (none) else (if (Int.tmod a0 a1) < 0 then (some (wrap64 ((wrap64 (Int.tdiv a0 a1)) - 1))) else (some (wrap64 (Int.tdiv a0 a1))))) = some r := h
  clear h
  by_cases c3 : a1 = 0
  · rw [if_pos c3] at H
    exact absurd H (by simp)
  · rw [if_neg c3] at H
    have c3b0 : (a1 == 0) = false := beq_eq_false_iff_ne.mpr c3
    have c3b1 : (a1 != 0) = true := bne_iff_ne.mpr c3
    by_cases c4 : (Int.tmod a0 a1) < 0
    · rw [if_pos c4] at H
      have c4b0 : decide ((Int.tmod a0 a1) < 0) = true := decide_eq_true c4
      clear c4
      obtain rfl := Option.some.inj H
      go_enter Try.func46, Try.ntmps46
      go_wp2
      go_ret
      exact ⟨by first | rfl | (simp; done) | (simp [*]; done), by repeat (first | exact Drawn0.refl _ | apply Drawn0.step)⟩
    · rw [if_neg c4] at H
      have c4b0 : decide ((Int.tmod a0 a1) < 0) = false := decide_eq_false c4
      clear c4
      obtain rfl := Option.some.inj H
      go_enter Try.func46, Try.ntmps46
      go_wp2
      go_ret
      exact ⟨by first | rfl | (simp; done) | (simp [*]; done), by repeat (first | exact Drawn0.refl _ | apply Drawn0.step)⟩

/-! ### waveletref04_predict: function 34 -/
def waveletref04_predict.f (k : Nat) (l0 : List Int) (a1 : Int) (a2 : Int) (a3 : Int) : Option (Int) := if a3 = 1 then ((waveletref04_at.f k l0 a1 (wrap64 (a2 - 1))).bind fun t250 => (some t250)) else (if a3 = 2 then ((waveletref04_at.f k l0 a1 (wrap64 (a2 - 1))).bind fun t251 => ((waveletref04_at.f k l0 a1 (wrap64 (a2 + 1))).bind fun t252 => ((waveletref04_FloorDiv.f (wrap64 (t251 + t252)) 2).bind fun t253 => (some t253)))) else ((waveletref04_at.f k l0 a1 (wrap64 (a2 - 1))).bind fun t254 => ((waveletref04_at.f k l0 a1 (wrap64 (a2 + 1))).bind fun t255 => ((waveletref04_at.f k l0 a1 (wrap64 (a2 - 3))).bind fun t256 => ((waveletref04_at.f k l0 a1 (wrap64 (a2 + 3))).bind fun t257 => ((waveletref04_FloorDiv.f (wrap64 ((wrap64 ((wrap64 (9 * (wrap64 (t254 + t255)))) - (wrap64 (t256 + t257)))) + 8)) 16).bind fun t258 => (some t258)))))))
theorem waveletref04_predict.mono : ∀ a0 a1 a2 a3 k, LeO (waveletref04_predict.f k a0 a1 a2 a3) (waveletref04_predict.f (k + 1) a0 a1 a2 a3) := by
  intro a0 a1 a2 a3 k
  unfold waveletref04_predict.f
  repeat' first
      | (with_reducible exact waveletref04_at.mono _ _ _ _)
      | (with_reducible exact LeO.refl _)
      | (with_reducible exact LeO.none _)
      | (with_reducible refine LeO.ite ?_ ?_)
      | (with_reducible refine LeO.bind ?_ (fun _ => ?_))
      | exact waveletref04_at.mono _ _ _ _
      | exact LeO.none _
      | refine LeO.ite ?_ ?_
      | refine LeO.bind ?_ (fun _ => ?_)
set_option maxHeartbeats 8000000 in
set_option maxRecDepth 100000 in
theorem waveletref04_predict.calls (k : Nat) (A0 : Option Addr) (c0 : Nat) (l0 : List Int) (a1 : Int) (a2 : Int) (a3 : Int) (r : Int) (w : World) (hr0 : Kd.C (Kd.int .i64) w A0 l0.length l0) (hc0 : l0.length ≤ c0) (h : waveletref04_predict.f k l0 a1 a2 a3 = some r) :
    Calls Try.prog 34 #[.slice A0 l0.length c0, .int .i64 a1, .int .i64 a2, .int .i64 a3] w fun e w' => e = .returned (.int .i64 r) ∧ Drawn0 w w' := by
  have HR0 := Aside0.mk hr0
  have HC0 := Aside0.mk hc0
  clear hr0 hc0
  have H : (if a3 = 1 then ((waveletref04_at.f k l0 a1 (wrap64 (a2 - 1))).bind fun t250 => (some t250)) else (if a3 = 2 then ((waveletref04_at.f k l0 a1 (wrap64 (a2 - 1))).bind fun t251 => ((waveletref04_at.f k l0 a1 (wrap64 (a2 + 1))).bind fun t252 => ((waveletref04_FloorDiv.f (wrap64 (t251 + t252)) 2).bind fun t253 => (some t253)))) else ((waveletref04_at.f k l0 a1 (wrap64 (a2 - 1))).bind fun t254 => ((waveletref04_at.f k l0 a1 (wrap64 (a2 + 1))).bind fun t255 => ((waveletref04_at.f k l0 a1 (wrap64 (a2 - 3))).bind fun t256 => ((waveletref04_at.f k l0 a1 (wrap64 (a2 + 3))).bind fun t257 => ((waveletref04_FloorDiv.f (wrap64 ((wrap64 ((wrap64 (9 * (wrap64 (t254 + t255)))) - (wrap64 (t256 + t257)))) + 8)) 16).bind fun t258 => (some t258)))))))) = some r := h
  clear h
  by_cases c5 : a3 = 1
  · rw [if_pos c5] at H
    have c5b0 : (a3 == 1) = true := beq_iff_eq.mpr c5
    have c5b1 : (a3 != 1) = false := bne_eq_false_iff_eq.mpr c5
    clear c5
    replace H := Option.bind_eq_some_iff.mp H
    obtain ⟨t250, A60, H⟩ := H
    replace H : (some t250) = some r := H
    have A6 := Aside0.mk A60
    clear A60
    obtain rfl := Option.some.inj H
    go_enter Try.func34, Try.ntmps34
    go_wp2_with (first | ((with_reducible refine gate_callee (f := 45) rfl ?_); refine goesL_ (some 16) rfl rfl Try.func45 (by kernel_rfl) rfl #[.slice A0 l0.length c0, .int .i64 a1, .int .i64 (wrap64 (a2 - 1))] rfl (by (try simp only [List.map_toArray, List.map_cons, List.map_nil]); first | done | rfl | (simp only [List.length_drop, List.length_take]; rfl)) ?_; (with_reducible refine (waveletref04_at.calls k _ _ l0 a1 (wrap64 (a2 - 1)) t250 _ ?side1 ?side2 A6.out).mono ?_); (case side1 => repeat (first | exact HR0.out | (with_reducible refine Kd.C_alloc ?_ _) | (with_reducible refine Kd.C_drewN ?_ _) | (with_reducible refine Kd.C_drew ?_))); (case side2 => exact HC0.out); rintro e w' ⟨rfl, ⟨nd, rfl⟩⟩; refine ⟨_, rfl, ?_⟩))
    go_ret
    exact ⟨by first | rfl | (simp; done) | (simp [*]; done), by repeat (first | exact Drawn0.refl _ | apply Drawn0.step)⟩
  · rw [if_neg c5] at H
    have c5b0 : (a3 == 1) = false := beq_eq_false_iff_ne.mpr c5
    have c5b1 : (a3 != 1) = true := bne_iff_ne.mpr c5
    by_cases c7 : a3 = 2
    · rw [if_pos c7] at H
      have c7b0 : (a3 == 2) = true := beq_iff_eq.mpr c7
      have c7b1 : (a3 != 2) = false := bne_eq_false_iff_eq.mpr c7
      clear c7
      replace H := Option.bind_eq_some_iff.mp H
      obtain ⟨t251, A80, H⟩ := H
      replace H : ((waveletref04_at.f k l0 a1 (wrap64 (a2 + 1))).bind fun t252 => ((waveletref04_FloorDiv.f (wrap64 (t251 + t252)) 2).bind fun t253 => (some t253))) = some r := H
      have A8 := Aside0.mk A80
      clear A80
      replace H := Option.bind_eq_some_iff.mp H
      obtain ⟨t252, A90, H⟩ := H
      replace H : ((waveletref04_FloorDiv.f (wrap64 (t251 + t252)) 2).bind fun t253 => (some t253)) = some r := H
      have A9 := Aside0.mk A90
      clear A90
      replace H := Option.bind_eq_some_iff.mp H
      obtain ⟨t253, A100, H⟩ := H
      replace H : (some t253) = some r := H
      have A10 := Aside0.mk A100
      clear A100
      obtain rfl := Option.some.inj H
      go_enter Try.func34, Try.ntmps34
      go_wp2_with (first | ((with_reducible refine gate_callee (f := 45) rfl ?_); refine goesL_ (some 23) rfl rfl Try.func45 (by kernel_rfl) rfl #[.slice A0 l0.length c0, .int .i64 a1, .int .i64 (wrap64 (a2 - 1))] rfl (by (try simp only [List.map_toArray, List.map_cons, List.map_nil]); first | done | rfl | (simp only [List.length_drop, List.length_take]; rfl)) ?_; (with_reducible refine (waveletref04_at.calls k _ _ l0 a1 (wrap64 (a2 - 1)) t251 _ ?side1 ?side2 A8.out).mono ?_); (case side1 => repeat (first | exact HR0.out | (with_reducible refine Kd.C_alloc ?_ _) | (with_reducible refine Kd.C_drewN ?_ _) | (with_reducible refine Kd.C_drew ?_))); (case side2 => exact HC0.out); rintro e w' ⟨rfl, ⟨nd, rfl⟩⟩; refine ⟨_, rfl, ?_⟩) | ((with_reducible refine gate_callee (f := 45) rfl ?_); refine goesL_ (some 28) rfl rfl Try.func45 (by kernel_rfl) rfl #[.slice A0 l0.length c0, .int .i64 a1, .int .i64 (wrap64 (a2 + 1))] rfl (by (try simp only [List.map_toArray, List.map_cons, List.map_nil]); first | done | rfl | (simp only [List.length_drop, List.length_take]; rfl)) ?_; (with_reducible refine (waveletref04_at.calls k _ _ l0 a1 (wrap64 (a2 + 1)) t252 _ ?side1 ?side2 A9.out).mono ?_); (case side1 => repeat (first | exact HR0.out | (with_reducible refine Kd.C_alloc ?_ _) | (with_reducible refine Kd.C_drewN ?_ _) | (with_reducible refine Kd.C_drew ?_))); (case side2 => exact HC0.out); rintro e w' ⟨rfl, ⟨nd, rfl⟩⟩; refine ⟨_, rfl, ?_⟩) | ((with_reducible refine gate_callee (f := 46) rfl ?_); refine goesL_ (some 30) rfl rfl Try.func46 (by kernel_rfl) rfl #[.int .i64 (wrap64 (t251 + t252)), .int .i64 2] rfl (by (try simp only [List.map_toArray, List.map_cons, List.map_nil]); first | done | rfl | (simp only [List.length_drop, List.length_take]; rfl)) ?_; (with_reducible refine (waveletref04_FloorDiv.calls (wrap64 (t251 + t252)) 2 t253 _ A10.out).mono ?_); rintro e w' ⟨rfl, ⟨nd, rfl⟩⟩; refine ⟨_, rfl, ?_⟩))
      go_ret
      exact ⟨by first | rfl | (simp; done) | (simp [*]; done), by repeat (first | exact Drawn0.refl _ | apply Drawn0.step)⟩
    · rw [if_neg c7] at H
      have c7b0 : (a3 == 2) = false := beq_eq_false_iff_ne.mpr c7
      have c7b1 : (a3 != 2) = true := bne_iff_ne.mpr c7
      replace H := Option.bind_eq_some_iff.mp H
      obtain ⟨t254, A110, H⟩ := H
      replace H : ((waveletref04_at.f k l0 a1 (wrap64 (a2 + 1))).bind fun t255 => ((waveletref04_at.f k l0 a1 (wrap64 (a2 - 3))).bind fun t256 => ((waveletref04_at.f k l0 a1 (wrap64 (a2 + 3))).bind fun t257 => ((waveletref04_FloorDiv.f (wrap64 ((wrap64 ((wrap64 (9 * (wrap64 (t254 + t255)))) - (wrap64 (t256 + t257)))) + 8)) 16).bind fun t258 => (some t258))))) = some r := H
      have A11 := Aside0.mk A110
      clear A110
      replace H := Option.bind_eq_some_iff.mp H
      obtain ⟨t255, A120, H⟩ := H
      replace H : ((waveletref04_at.f k l0 a1 (wrap64 (a2 - 3))).bind fun t256 => ((waveletref04_at.f k l0 a1 (wrap64 (a2 + 3))).bind fun t257 => ((waveletref04_FloorDiv.f (wrap64 ((wrap64 ((wrap64 (9 * (wrap64 (t254 + t255)))) - (wrap64 (t256 + t257)))) + 8)) 16).bind fun t258 => (some t258)))) = some r := H
      have A12 := Aside0.mk A120
      clear A120
      replace H := Option.bind_eq_some_iff.mp H
      obtain ⟨t256, A130, H⟩ := H
      replace H : ((waveletref04_at.f k l0 a1 (wrap64 (a2 + 3))).bind fun t257 => ((waveletref04_FloorDiv.f (wrap64 ((wrap64 ((wrap64 (9 * (wrap64 (t254 + t255)))) - (wrap64 (t256 + t257)))) + 8)) 16).bind fun t258 => (some t258))) = some r := H
      have A13 := Aside0.mk A130
      clear A130
      replace H := Option.bind_eq_some_iff.mp H
      obtain ⟨t257, A140, H⟩ := H
      replace H : ((waveletref04_FloorDiv.f (wrap64 ((wrap64 ((wrap64 (9 * (wrap64 (t254 + t255)))) - (wrap64 (t256 + t257)))) + 8)) 16).bind fun t258 => (some t258)) = some r := H
      have A14 := Aside0.mk A140
      clear A140
      replace H := Option.bind_eq_some_iff.mp H
      obtain ⟨t258, A150, H⟩ := H
      replace H : (some t258) = some r := H
      have A15 := Aside0.mk A150
      clear A150
      obtain rfl := Option.some.inj H
      go_enter Try.func34, Try.ntmps34
      go_wp2_with (first | ((with_reducible refine gate_callee (f := 45) rfl ?_); refine goesL_ (some 35) rfl rfl Try.func45 (by kernel_rfl) rfl #[.slice A0 l0.length c0, .int .i64 a1, .int .i64 (wrap64 (a2 - 1))] rfl (by (try simp only [List.map_toArray, List.map_cons, List.map_nil]); first | done | rfl | (simp only [List.length_drop, List.length_take]; rfl)) ?_; (with_reducible refine (waveletref04_at.calls k _ _ l0 a1 (wrap64 (a2 - 1)) t254 _ ?side1 ?side2 A11.out).mono ?_); (case side1 => repeat (first | exact HR0.out | (with_reducible refine Kd.C_alloc ?_ _) | (with_reducible refine Kd.C_drewN ?_ _) | (with_reducible refine Kd.C_drew ?_))); (case side2 => exact HC0.out); rintro e w' ⟨rfl, ⟨nd, rfl⟩⟩; refine ⟨_, rfl, ?_⟩) | ((with_reducible refine gate_callee (f := 45) rfl ?_); refine goesL_ (some 40) rfl rfl Try.func45 (by kernel_rfl) rfl #[.slice A0 l0.length c0, .int .i64 a1, .int .i64 (wrap64 (a2 + 1))] rfl (by (try simp only [List.map_toArray, List.map_cons, List.map_nil]); first | done | rfl | (simp only [List.length_drop, List.length_take]; rfl)) ?_; (with_reducible refine (waveletref04_at.calls k _ _ l0 a1 (wrap64 (a2 + 1)) t255 _ ?side1 ?side2 A12.out).mono ?_); (case side1 => repeat (first | exact HR0.out | (with_reducible refine Kd.C_alloc ?_ _) | (with_reducible refine Kd.C_drewN ?_ _) | (with_reducible refine Kd.C_drew ?_))); (case side2 => exact HC0.out); rintro e w' ⟨rfl, ⟨nd, rfl⟩⟩; refine ⟨_, rfl, ?_⟩) | ((with_reducible refine gate_callee (f := 45) rfl ?_); refine goesL_ (some 47) rfl rfl Try.func45 (by kernel_rfl) rfl #[.slice A0 l0.length c0, .int .i64 a1, .int .i64 (wrap64 (a2 - 3))] rfl (by (try simp only [List.map_toArray, List.map_cons, List.map_nil]); first | done | rfl | (simp only [List.length_drop, List.length_take]; rfl)) ?_; (with_reducible refine (waveletref04_at.calls k _ _ l0 a1 (wrap64 (a2 - 3)) t256 _ ?side1 ?side2 A13.out).mono ?_); (case side1 => repeat (first | exact HR0.out | (with_reducible refine Kd.C_alloc ?_ _) | (with_reducible refine Kd.C_drewN ?_ _) | (with_reducible refine Kd.C_drew ?_))); (case side2 => exact HC0.out); rintro e w' ⟨rfl, ⟨nd, rfl⟩⟩; refine ⟨_, rfl, ?_⟩) | ((with_reducible refine gate_callee (f := 45) rfl ?_); refine goesL_ (some 52) rfl rfl Try.func45 (by kernel_rfl) rfl #[.slice A0 l0.length c0, .int .i64 a1, .int .i64 (wrap64 (a2 + 3))] rfl (by (try simp only [List.map_toArray, List.map_cons, List.map_nil]); first | done | rfl | (simp only [List.length_drop, List.length_take]; rfl)) ?_; (with_reducible refine (waveletref04_at.calls k _ _ l0 a1 (wrap64 (a2 + 3)) t257 _ ?side1 ?side2 A14.out).mono ?_); (case side1 => repeat (first | exact HR0.out | (with_reducible refine Kd.C_alloc ?_ _) | (with_reducible refine Kd.C_drewN ?_ _) | (with_reducible refine Kd.C_drew ?_))); (case side2 => exact HC0.out); rintro e w' ⟨rfl, ⟨nd, rfl⟩⟩; refine ⟨_, rfl, ?_⟩) | ((with_reducible refine gate_callee (f := 46) rfl ?_); refine goesL_ (some 56) rfl rfl Try.func46 (by kernel_rfl) rfl #[.int .i64 (wrap64 ((wrap64 ((wrap64 (9 * (wrap64 (t254 + t255)))) - (wrap64 (t256 + t257)))) + 8)), .int .i64 16] rfl (by (try simp only [List.map_toArray, List.map_cons, List.map_nil]); first | done | rfl | (simp only [List.length_drop, List.length_take]; rfl)) ?_; (with_reducible refine (waveletref04_FloorDiv.calls (wrap64 ((wrap64 ((wrap64 (9 * (wrap64 (t254 + t255)))) - (wrap64 (t256 + t257)))) + 8)) 16 t258 _ A15.out).mono ?_); rintro e w' ⟨rfl, ⟨nd, rfl⟩⟩; refine ⟨_, rfl, ?_⟩))
      go_ret
      exact ⟨by first | rfl | (simp; done) | (simp [*]; done), by repeat (first | exact Drawn0.refl _ | apply Drawn0.step)⟩

end Go.Proofs.Ytkpehgakdooodaa.PA
