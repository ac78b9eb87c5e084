/- The examples of chapter 04 hold; lengths of what Forward and Inverse return. -/
import Derived.Test.YtkpehgakdooodaaE04F
import Derived.Test.YtkpehgakdooodaaE04K
import Derived.Test.YtkpehgakdooodaaPAx20
set_option linter.unusedVariables false
namespace Go.Proofs.Ytkpehgakdooodaa.E04
open Go.RowKit Go.Proofs.YtkpehgakdooodaaW.PrintWords Go.Proofs.YtkpehgakdooodaaW.PrintMore Go.Proofs.Ytkpehgakdooodaa.PA Go.Proofs.Ytkpehgakdooodaa.Ar Go.Proofs.Ytkpehgakdooodaa.E03
theorem example_holds (k : Nat) (hk : 100 ≤ k) : waveletlaw04_exampleHolds.f k = some true :=
  at_rounds (g := fun k => waveletlaw04_exampleHolds.f k) (fun k => waveletlaw04_exampleHolds.mono k) hk (by kernel_rfl : waveletlaw04_exampleHolds.f 100 = some true)
theorem ev_len (s : Int) (l : List Int) : (evs s l).length ≤ l.length ∧ (ods s l).length ≤ l.length := by
  have h1 := evs_length l s
  have h2 := ods_length l s
  have h3 := cev_bd (s := s) (n := l.length) (by omega)
  omega
theorem fwd_len (kk s : Int) (l : List Int) : (fwd kk s l).length = l.length := by unfold fwd; rw [stp_length, stp_length]
theorem inv_len (kk s : Int) (l : List Int) : (inv kk s l).length = l.length := by unfold inv; rw [stp_length, stp_length]
theorem fw_len (l : List Int) (s kk : Int) : (fw l s kk).1.length ≤ 4096 ∧ (fw l s kk).2.1.length ≤ 4096 := by
  unfold fw
  split
  · simp
  · split
    · simp
    · next h =>
      have h := Classical.not_not.1 h
      split
      · have := ev_len s (fwd kk s l)
        rw [fwd_len] at this
        exact ⟨by simp only; omega, by simp only; omega⟩
      · have := ev_len s l
        exact ⟨by simp only; omega, by simp only; omega⟩
theorem iv_len (a b : List Int) (s kk : Int) : (iv a b s kk).1.length ≤ 4096 := by
  unfold iv
  split
  · simp
  · split
    · simp
    · next h =>
      have h := Classical.not_not.1 h
      split
      · next h7 =>
        have hl := jn_len a b s h7
        split
        · simp only [inv_len]; omega
        · simp only; omega
      · simp
end Go.Proofs.Ytkpehgakdooodaa.E04
