/- The law LiftRestores over plain lists: Forward of what Inverse returns gives the subbands back. -/
import Derived.Test.YtkpehgakdooodaaE04V
import Derived.Test.YtkpehgakdooodaaPAx24
namespace Go.Proofs.Ytkpehgakdooodaa.Pure
open Go.RowKit Go.Proofs.Ytkpehgakdooodaa.PA Go.Proofs.YtkpehgakdooodaaW.PrintWords Go.Proofs.YtkpehgakdooodaaW.PrintLast Go.Proofs.Ytkpehgakdooodaa.Ar Go.Proofs.Ytkpehgakdooodaa.E03 Go.Proofs.Ytkpehgakdooodaa.E04
theorem LiftRestores : waveletlaw04_LiftRestores.Pure := by
  intro a b s kk _
  obtain ⟨k, hk⟩ : ∃ k : Nat, 40000 ≤ k := ⟨40000, Nat.le_refl _⟩
  refine ⟨k + 1, ?_⟩
  have hx : waveletlaw04_LiftRestores.j0 (k + 1) true a b s kk = some true := by rw [waveletlaw04_LiftRestores.j0, if_pos rfl, example_holds _ (by omega)]; rfl
  unfold waveletlaw04_LiftRestores.f
  by_cases h : (a.length : Int) > 100
  · rw [if_pos h, hx]
  · rw [if_neg h]
    by_cases h1 : (b.length : Int) > 100
    · rw [decide_eq_true h1, hx]
    · rw [decide_eq_false h1, waveletlaw04_LiftRestores.j0, if_neg (by decide), Inverse_eq _ _ _ _ _ (by omega), example_holds _ (by omega)]
      simp only [Option.bind_some]
      by_cases h2 : (iv a b s kk).2 = 0
      · obtain ⟨hk3, hs, hj, hz⟩ := iv_some h2
        have hl := (jn_ok a b s hj)
        rw [if_pos h2, hz, iz_len, jn_len a b s hj, w64 (n := (a.length : Int) + (b.length : Int)) (by omega) (by omega), if_pos (by omega), few_eq _ _ (by omega) _ (by rw [iz_len, jn_len a b s hj]; omega) (by rw [iz_len, jn_len a b s hj]; omega)]
        simp only [Option.bind_some, decide_eq_true_eq]
        by_cases h3 : fit 281474976710656 (iz (jn a b s).1 s kk)
        · have he := evs_ilv (a.length + b.length) s a b (by rw [hl.2.1]; congr 1) (by have := hl.2.1; push_cast at this ⊢; omega)
          rw [if_pos h3, Forward_eq _ _ _ _ (by omega), fw_ok hk3 hs (by rw [iz_len, jn_len a b s hj]; omega) h3, fz_iz, hl.2.2, he.1, he.2]
          simp only [Option.bind_some, if_true]
          rw [SameInts_eq _ _ _ (by omega) (by omega), SameInts_eq _ _ _ (by omega) (by omega)]
          simp
        · rw [if_neg h3]
      · rw [if_neg h2, iv_err h2]; rfl
end Go.Proofs.Ytkpehgakdooodaa.Pure
