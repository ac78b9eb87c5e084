/- Forward and Inverse of layer 4 in closed form. -/
import Derived.Test.YtkpehgakdooodaaE04I
import Derived.Test.YtkpehgakdooodaaPAx6
import Derived.Test.YtkpehgakdooodaaPAx8
set_option linter.unusedVariables false
namespace Go.Proofs.Ytkpehgakdooodaa.E04
open Go.RowKit Go.Proofs.YtkpehgakdooodaaW.PrintWords Go.Proofs.YtkpehgakdooodaaW.PrintMore Go.Proofs.Ytkpehgakdooodaa.PA Go.Proofs.Ytkpehgakdooodaa.Ar Go.Proofs.Ytkpehgakdooodaa.E03
theorem Forward_eq (k : Nat) (l : List Int) (s kk : Int) (hk : 30000 ≤ k) : lift_Forward.f k l s kk = some (fw l s kk) := by
  obtain ⟨m, rfl, hm⟩ := one_more (n := 29999) hk
  have hj : lift_Forward.j0 (m + 1) l s kk true = some ([], [], 2) := by rw [lift_Forward.j0, if_pos rfl]
  unfold lift_Forward.f fw
  rw [known_eq]
  simp only [Option.bind_some, decide_eq_true_eq]
  by_cases h0 : 1 ≤ kk ∧ kk ≤ 3
  · rw [if_pos h0, if_neg (not_not_intro h0)]
    by_cases h1 : s < 0
    · rw [if_pos h1, if_pos (by omega), hj]
    · rw [if_neg h1]
      by_cases h2 : s > 4096
      · rw [if_pos h2, if_pos (by omega), hj]
      · rw [if_neg h2]
        by_cases h3 : (l.length : Int) > 4096
        · rw [if_pos h3, if_pos (by omega), hj]
        · rw [if_neg h3, bounded_eq _ _ (by omega) l (by omega) (by omega)]
          simp only [Option.bind_some]
          by_cases h4 : fit 281474976710656 l
          · rw [decide_eq_true h4, if_neg (not_not_intro (⟨by omega, by omega, by omega, h4⟩ : 0 ≤ s ∧ s ≤ 4096 ∧ l.length ≤ 4096 ∧ fit 281474976710656 l))]
            rw [lift_Forward.j0, if_neg (by decide), if_pos (by simp; omega)]
            simp only [Option.bind_some, List.nil_append]
            by_cases h5 : l.length > 1
            · have hb : Bd 281474976710656 l := Bd.of_mem (by omega) h4
              have hn : 2 ≤ l.length ∧ l.length ≤ 4096 := ⟨by omega, by omega⟩
              have e1 : lift_line_predict.f m l s kk = some (pf kk) := rfl
              rw [if_pos (show (l.length : Int) > 1 by omega), if_pos h5, e1]
              simp only [Option.bind_some]
              rw [step_predict m kk l s (-1) _ ⟨by omega, by omega⟩ hn (.inr rfl) hb (by omega) (by omega) (by omega)]
              simp only [Option.bind_some]
              have hb2 := stp_bd (par := 1) (s := s) (sg := -1) hb (by omega) (.inr rfl) (fun i _ => prd_bd kk hb (by omega) hn.1 i)
              have hl2 := stp_length 1 (-1) (prd kk) s l
              have e2 : lift_line_update.f m (stp 1 (-1) (prd kk) s l) s kk = some (uf kk) := rfl
              rw [e2]
              simp only [Option.bind_some]
              rw [step_update m kk _ s 1 _ ⟨by omega, by omega⟩ (by rw [hl2]; exact hn) (.inl rfl) hb2 (by omega) (by omega) (by omega)]
              simp only [Option.bind_some]
              have hl3 := stp_length 0 1 (upd kk) s (stp 1 (-1) (prd kk) s l)
              rw [Split_eq _ _ _ (by rw [hl3, hl2]; omega)]
              simp only [Option.bind_some]
              unfold spl; rw [if_pos ⟨by omega, by omega, by rw [hl3, hl2]; omega⟩]
              rfl
            · rw [if_neg (show ¬ (l.length : Int) > 1 by omega), if_neg h5, Split_eq _ _ _ (by omega)]
              simp only [Option.bind_some]
              unfold spl; rw [if_pos ⟨by omega, by omega, by omega⟩]
          · rw [decide_eq_false h4, if_pos (fun h => h4 h.2.2.2)]
            exact hj
  · rw [if_neg h0, if_pos h0]
theorem Inverse_eq (k : Nat) (a b : List Int) (s kk : Int) (hk : 30000 ≤ k) : lift_Inverse.f k a b s kk = some (iv a b s kk) := by
  obtain ⟨m, rfl, hm⟩ := one_more (n := 29999) hk
  have hj : lift_Inverse.j0 (m + 1) a b s kk true = some ([], 2) := by rw [lift_Inverse.j0, if_pos rfl]
  unfold lift_Inverse.f iv
  rw [known_eq]
  simp only [Option.bind_some, decide_eq_true_eq]
  by_cases h0 : 1 ≤ kk ∧ kk ≤ 3
  · rw [if_pos h0, if_neg (not_not_intro h0)]
    by_cases h1 : s < 0
    · rw [if_pos h1, if_pos (by omega), hj]
    · rw [if_neg h1]
      by_cases h2 : s > 4096
      · rw [if_pos h2, if_pos (by omega), hj]
      · rw [if_neg h2]
        by_cases h3 : (a.length : Int) > 4096
        · rw [if_pos h3, if_pos (by omega), hj]
        · rw [if_neg h3, w64 (n := 4096 - (a.length : Int)) (by omega) (by omega)]
          by_cases h4 : (b.length : Int) > 4096 - (a.length : Int)
          · rw [decide_eq_true h4, if_pos (by omega), hj]
          · rw [decide_eq_false h4]
            obtain ⟨m, rfl, hm2⟩ := one_more (n := 29998) hm
            have hj1 : lift_Inverse.j1 (m + 1) a b s kk true = some ([], 2) := by rw [lift_Inverse.j1, if_pos rfl]
            rw [lift_Inverse.j0, if_neg (by decide), bounded_eq _ _ (by omega) a (by omega) (by omega)]
            simp only [Option.bind_some, decide_eq_true_eq]
            by_cases h5 : fit 1125899906842624 a
            · rw [if_pos h5, bounded_eq _ _ (by omega) b (by omega) (by omega)]
              simp only [Option.bind_some]
              by_cases h6 : fit 1125899906842624 b
              · rw [decide_eq_true h6, if_neg (not_not_intro (⟨by omega, by omega, by omega, h5, h6⟩ : 0 ≤ s ∧ s ≤ 4096 ∧ a.length + b.length ≤ 4096 ∧ fit 1125899906842624 a ∧ fit 1125899906842624 b))]
                rw [lift_Inverse.j1, if_neg (by decide), Join_eq _ _ _ _ (by omega) (by omega)]
                simp only [Option.bind_some]
                by_cases h7 : (jn a b s).2 = 0
                · rw [if_pos h7, if_pos h7]
                  have hjl := jn_len a b s h7
                  have hjb := jn_bd a b s (by omega) h5 h6 h7
                  generalize (jn a b s).1 = y at hjl hjb ⊢
                  by_cases h8 : y.length > 1
                  · have hn : 2 ≤ y.length ∧ y.length ≤ 4096 := ⟨by omega, by omega⟩
                    have e1 : lift_line_update.f m y s kk = some (uf kk) := rfl
                    rw [if_pos (show (y.length : Int) > 1 by omega), if_pos h8, e1]
                    simp only [Option.bind_some]
                    rw [step_update m kk y s (-1) _ ⟨by omega, by omega⟩ hn (.inr rfl) hjb (by omega) (by omega) (by omega)]
                    simp only [Option.bind_some]
                    have hb2 := stp_bd (par := 0) (s := s) (sg := -1) hjb (by omega) (.inr rfl) (fun i _ => upd_bd kk hjb (by omega) hn.1 i)
                    have hl2 := stp_length 0 (-1) (upd kk) s y
                    have e2 : lift_line_predict.f m (stp 0 (-1) (upd kk) s y) s kk = some (pf kk) := rfl
                    rw [e2]
                    simp only [Option.bind_some]
                    rw [step_predict m kk _ s 1 _ ⟨by omega, by omega⟩ (by rw [hl2]; exact hn) (.inl rfl) hb2 (by omega) (by omega) (by omega)]
                    rfl
                  · rw [if_neg (show ¬ (y.length : Int) > 1 by omega), if_neg h8]
                · rw [if_neg h7, if_neg h7]
              · rw [decide_eq_false h6, if_pos (fun h => h6 h.2.2.2.2)]
                exact hj1
            · rw [if_neg h5, if_pos (fun h => h5 h.2.2.2.1), hj1]
  · rw [if_neg h0, if_pos h0]
end Go.Proofs.Ytkpehgakdooodaa.E04
