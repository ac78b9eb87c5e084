/- The law LiftReturns over plain lists: Inverse restores a valid signal from what Forward returns. -/
import Derived.Test.YtkpehgakdooodaaE04V
import Derived.Test.YtkpehgakdooodaaPAx23
namespace Go.Proofs.Ytkpehgakdooodaa.Pure
open Go.RowKit Go.Proofs.Ytkpehgakdooodaa.PA Go.Proofs.YtkpehgakdooodaaW.PrintWords Go.Proofs.YtkpehgakdooodaaW.PrintLast Go.Proofs.Ytkpehgakdooodaa.Ar Go.Proofs.Ytkpehgakdooodaa.E03 Go.Proofs.Ytkpehgakdooodaa.E04
theorem LiftReturns : waveletlaw04_LiftReturns.Pure := by
  intro l s kk _ _ _ _ _
  obtain ⟨k, hk⟩ : ∃ k : Nat, 40000 ≤ k := ⟨40000, Nat.le_refl _⟩
  refine ⟨k, ?_⟩
  unfold waveletlaw04_LiftReturns.f
  rw [vok_eq _ _ _ _ (by omega)]
  simp only [Option.bind_some, decide_eq_true_eq, List.nil_append, List.length_nil]
  by_cases h : vok l s kk
  · obtain ⟨h1, h2, h3, h4⟩ := h
    have hf := fz_low h3 h4 (by omega) (s := s)
    have hg := hb_ge (b := 281474976710656) (by omega) h3
    have hg2 := lb_ge (b := 281474976710656) (by omega) h3
    rw [if_pos ⟨h1, h2, h3, h4⟩, if_pos (by omega), Forward_eq _ _ _ _ (by omega), fw_ok h3 h2 (by omega) h4]
    simp only [Option.bind_some, if_true]
    rw [Inverse_eq _ _ _ _ _ (by omega), iv_ok h3 h2 (by rw [fz_len]; omega) (fit_mono hf.1 (by omega)) (fit_mono hf.2 (by omega)), iz_fz]
    simp only [Option.bind_some, if_true]
    rw [SameInts_eq _ _ _ (by omega) (by omega), example_holds _ (by omega)]
    simp
  · rw [if_neg h, example_holds _ (by omega)]; rfl
end Go.Proofs.Ytkpehgakdooodaa.Pure
