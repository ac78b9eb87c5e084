-- Written by wip/tools/wprint.py (the prover's own program over the kit's print) for this claim. Not trusted: Lean checks it.
import Derived.Test.YtlldikkbbpjigaaPAx0
namespace Go.Proofs.Ytlldikkbbpjigaa.PA
open Go.RowKit Go.Proofs.YtlldikkbbpjigaaW.PrintWords Go.Proofs.YtlldikkbbpjigaaW.PrintLast Go.Proofs.YtlldikkbbpjigaaW.PrintMore
attribute [local go_sem] max2_int min2_int max_two min_two max_three min_three max_four min_four   -- for this text's walks alone
set_option linter.unusedVariables false
set_option linter.unusedSimpArgs false

/-! ### waveletlaw22_half: function 20 -/
def waveletlaw22_half.f (a0 : Int) (a1 : Int) (a2 : Bool) : Option (Int × Int) := if a2 = true then (some (wrap64 (Int.tdiv a0 2), wrap64 (Int.tdiv a1 2))) else (some (wrap64 (Int.tdiv (wrap64 (a0 + 1)) 2), wrap64 (Int.tdiv (wrap64 (a1 + 1)) 2)))
set_option maxHeartbeats 8000000 in
set_option maxRecDepth 100000 in
theorem waveletlaw22_half.calls (a0 : Int) (a1 : Int) (a2 : Bool) (r1 : Int) (r2 : Int) (w : World) (h : waveletlaw22_half.f a0 a1 a2 = some (r1, r2)) :
    Calls Try.prog 20 #[.int .i64 a0, .int .i64 a1, .bool a2] w fun e w' => e = .returned (.tuple #[.int .i64 r1, .int .i64 r2]) ∧ Drawn0 w w' := by
  have H : (if a2 = true then (some (wrap64 (Int.tdiv a0 2), wrap64 (Int.tdiv a1 2))) else (some (wrap64 (Int.tdiv (wrap64 (a0 + 1)) 2), wrap64 (Int.tdiv (wrap64 (a1 + 1)) 2)))) = some (r1, r2) := h
  clear h
  by_cases c4 : a2 = true
  · subst c4
    have H1 : (some (wrap64 (Int.tdiv a0 2), wrap64 (Int.tdiv a1 2))) = some (r1, r2) := by rw [if_pos rfl] at H; exact H
    clear H
    have H := H1
    clear H1
    simp only [Option.some.injEq, Prod.mk.injEq] at H
    obtain ⟨rfl, rfl⟩ := H
    go_enter Try.func20, Try.ntmps20
    go_wp2
    go_ret2
    exact ⟨by first | rfl | (simp; done) | (simp [*]; done), by repeat (first | exact Drawn0.refl _ | apply Drawn0.step)⟩
  · replace c4 := Bool.eq_false_iff.mpr c4
    subst c4
    have H1 : (some (wrap64 (Int.tdiv (wrap64 (a0 + 1)) 2), wrap64 (Int.tdiv (wrap64 (a1 + 1)) 2))) = some (r1, r2) := by rw [if_neg (show ¬ (false = true) by decide)] at H; exact H
    clear H
    have H := H1
    clear H1
    simp only [Option.some.injEq, Prod.mk.injEq] at H
    obtain ⟨rfl, rfl⟩ := H
    go_enter Try.func20, Try.ntmps20
    go_wp2
    go_ret2
    exact ⟨by first | rfl | (simp; done) | (simp [*]; done), by repeat (first | exact Drawn0.refl _ | apply Drawn0.step)⟩

end Go.Proofs.Ytlldikkbbpjigaa.PA
