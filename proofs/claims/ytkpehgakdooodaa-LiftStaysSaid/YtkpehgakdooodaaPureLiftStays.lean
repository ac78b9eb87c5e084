/- The law LiftStays over plain lists: both subbands lie within the two bounds of the greatest absolute value. -/
import Derived.Test.YtkpehgakdooodaaE04V
import Derived.Test.YtkpehgakdooodaaPAx25
namespace Go.Proofs.Ytkpehgakdooodaa.Pure
open Go.RowKit Go.Proofs.Ytkpehgakdooodaa.PA Go.Proofs.YtkpehgakdooodaaW.PrintWords Go.Proofs.YtkpehgakdooodaaW.PrintMore Go.Proofs.YtkpehgakdooodaaW.PrintLast Go.Proofs.Ytkpehgakdooodaa.Ar Go.Proofs.Ytkpehgakdooodaa.E03 Go.Proofs.Ytkpehgakdooodaa.E04
theorem most_l0 (l : List Int) (s kk : Int) (h : vok l s kk) (K : Nat) (hK : 40000 ≤ K) : ∀ (d k i : Nat) (m : Int), i + d = l.length → d + K + 1 ≤ k → 0 ≤ m ∧ m ≤ 281474976710656 → (∀ q : Nat, q < i → -m ≤ rd l q ∧ rd l q ≤ m) →
    waveletlaw04_LiftStays.l0 k l s kk m l (l.length : Int) (i : Int) = some true := by
  obtain ⟨h1, h2, h3, h4⟩ := h
  intro d
  induction d with
  | zero =>
    intro k i m hi hk hm hq
    obtain ⟨k, rfl, _⟩ := one_more (n := K) (by omega : K + 1 ≤ k)
    have hfit : fit m l := fun x hx => by
      obtain ⟨q, hq', rfl⟩ := List.getElem_of_mem hx
      have := hq q (by omega)
      rwa [rd_nat l q hq'] at this
    have hf := fz_low h3 hfit hm (s := s)
    have hg := hb_ge hm h3
    have hg2 := lb_ge hm h3
    have e1 := ev_len s (fz l s kk)
    rw [fz_len] at e1
    rw [waveletlaw04_LiftStays.l0, if_neg (by omega), Forward_eq _ _ _ _ (by omega), fw_ok h3 h2 (by omega) h4]
    simp only [Option.bind_some, if_true]
    rw [Low_eq _ _ _ (by omega), High_eq _ _ _ (by omega)]
    simp only [Option.bind_some]
    rw [few_eq _ _ (by omega) _ (by omega) (by omega), few_eq _ _ (by omega) _ (by omega) (by omega), decide_eq_true hf.1, decide_eq_true hf.2, example_holds _ (by omega)]
    rfl
  | succ d IH =>
    intro k i m hi hk hm hq
    obtain ⟨k, rfl, _⟩ := one_more (n := d + K + 1) (by omega : d + K + 1 + 1 ≤ k)
    have hv : -281474976710656 ≤ rd l i ∧ rd l i ≤ 281474976710656 := Bd.of_mem (by omega) h4 i
    rw [waveletlaw04_LiftStays.l0, if_pos (by omega), if_pos (by omega), if_pos (by omega), w64 (n := -rd l i) (by omega) (by omega), w64 (n := (i : Int) + 1) (by omega) (by omega)]
    refine IH k (i + 1) _ (by omega) (by omega) ?_ ?_
    · unfold mx; split <;> split <;> omega
    · intro q hq2
      have hm2 : m ≤ mx (mx m (rd l i)) (-rd l i) ∧ rd l i ≤ mx (mx m (rd l i)) (-rd l i) ∧ -rd l i ≤ mx (mx m (rd l i)) (-rd l i) := by unfold mx; split <;> split <;> omega
      by_cases e : q = i
      · subst e; omega
      · have := hq q (by omega); omega
theorem LiftStays : waveletlaw04_LiftStays.Pure := by
  intro l s kk _ _ _ _ _
  obtain ⟨K, hK⟩ : ∃ k : Nat, 40000 ≤ k := ⟨40000, Nat.le_refl _⟩
  refine ⟨l.length + K + 1, ?_⟩
  unfold waveletlaw04_LiftStays.f
  rw [vok_eq _ _ _ _ (by omega)]
  simp only [Option.bind_some, decide_eq_true_eq]
  by_cases h : vok l s kk
  · rw [if_pos h]
    exact most_l0 l s kk h K hK l.length _ 0 0 (by omega) (by omega) (by omega) (fun q hq => by omega)
  · rw [if_neg h, example_holds _ (by omega)]; rfl
end Go.Proofs.Ytkpehgakdooodaa.Pure
