/- The law LiftReaches over plain lists: a changed number of the subbands changes only samples within the margin. -/
import Derived.Test.YtkpehgakdooodaaE04V
import Derived.Test.YtkpehgakdooodaaPAx9
import Derived.Test.YtkpehgakdooodaaPAx28
namespace Go.Proofs.Ytkpehgakdooodaa.Pure
open Go.RowKit Go.Proofs.Ytkpehgakdooodaa.PA Go.Proofs.YtkpehgakdooodaaW.PrintWords Go.Proofs.YtkpehgakdooodaaW.PrintLast Go.Proofs.Ytkpehgakdooodaa.Ar Go.Proofs.Ytkpehgakdooodaa.E03 Go.Proofs.Ytkpehgakdooodaa.E04
theorem Margin_eq (k : Nat) (kk : Int) (h : 1 ≤ kk ∧ kk ≤ 3) : lift_Margin.f (k + 1) kk = some (if kk = 1 ∨ kk = 2 then 2 else 4) := by
  rcases (show kk = 1 ∨ kk = 2 ∨ kk = 3 by omega) with rfl | rfl | rfl <;> rfl
theorem reach_l0 (p : Nat) (u w : List Int) (m : Int) (_hm : 0 ≤ m ∧ m ≤ 10) (h : Near m p u w) (hn : u.length ≤ 4096) (hp : p ≤ 4096) : ∀ (d k i : Nat), i + d = u.length → d + 200 ≤ k →
    waveletlaw04_LiftReaches.l0 k p u w m (u.length : Int) (i : Int) = some true := by
  have hl := h.1
  intro d
  induction d with
  | zero =>
    intro k i hi hk
    obtain ⟨k, rfl, _⟩ := one_more (n := 199) (by omega : 199 + 1 ≤ k)
    rw [waveletlaw04_LiftReaches.l0, if_neg (by omega), example_holds _ (by omega)]; rfl
  | succ d IH =>
    intro k i hi hk
    obtain ⟨k, rfl, _⟩ := one_more (n := d + 200) (by omega : d + 200 + 1 ≤ k)
    have ih := IH k (i + 1) (by omega) (by omega)
    rw [waveletlaw04_LiftReaches.l0, if_pos (by omega), if_pos (by omega), if_pos (by omega), if_pos (by omega), w64 (n := (i : Int) + 1) (by omega) (by omega), w64 (n := (i : Int) - p) (by omega) (by omega), w64 (n := (p : Int) - i) (by omega) (by omega)]
    by_cases e : rd u i = rd w i
    · rw [if_pos e]; exact ih
    · have hd : ¬ m < (((i : Int) - p).natAbs : Int) := fun hd => e (h.2 i (by omega) hd)
      rw [if_neg e, if_neg (by omega), if_neg (by omega)]; exact ih
theorem LiftReaches : waveletlaw04_LiftReaches.Pure := by
  intro a b s kk p v _ _ _
  obtain ⟨k, hk⟩ : ∃ k : Nat, 40000 ≤ k := ⟨40000, Nat.le_refl _⟩
  refine ⟨k + 1 + 1, ?_⟩
  have hx : ∀ n, waveletlaw04_LiftReaches.j0 (k + 1 + 1) p v n true a b s kk = some true := fun n => by rw [waveletlaw04_LiftReaches.j0, if_pos rfl, example_holds _ (by omega)]; rfl
  unfold waveletlaw04_LiftReaches.f
  by_cases h1 : (a.length : Int) > 100
  · rw [if_pos h1, hx]
  · rw [if_neg h1]
    by_cases h2 : (b.length : Int) > 100
    · rw [if_pos h2, hx]
    · rw [if_neg h2, w64 (n := (a.length : Int) + (b.length : Int)) (by omega) (by omega)]
      by_cases h3 : p < 0
      · rw [if_pos h3, hx]
      · rw [if_neg h3]
        by_cases h4 : p ≥ (a.length : Int) + (b.length : Int)
        · rw [if_pos h4, hx]
        · rw [if_neg h4]
          by_cases h5 : v > 281474976710656
          · rw [if_pos h5, hx]
          · rw [if_neg h5]
            by_cases h6 : v < -281474976710656
            · rw [decide_eq_true h6, hx]
            · rw [decide_eq_false h6, waveletlaw04_LiftReaches.j0, if_neg (by decide), Inverse_eq _ _ _ _ _ (by omega)]
              simp only [Option.bind_some]
              by_cases h7 : (iv a b s kk).2 = 0
              · obtain ⟨hk3, hs, hj, hz⟩ := iv_some h7
                obtain ⟨hfa, hfb⟩ := iv_fit h7
                have hlen := jn_len a b s hj
                have hbd := jn_bd a b s (by omega) hfa hfb hj
                rw [if_pos h7, hz, refJoin_eq _ _ _ _ (by omega)]
                simp only [Option.bind_some]
                rw [if_pos hj, if_pos (by omega), if_pos (by omega)]
                generalize (jn a b s).1 = y at hlen hbd ⊢
                obtain ⟨q, rfl⟩ := Int.eq_ofNat_of_zero_le (show 0 ≤ p by omega)
                rw [Int.toNat_natCast, refSplit_eq _ _ _ (by rw [List.length_set]; omega)]
                have hnear := near_iz (s := s) kk (near_set y q v (by omega))
                have hset : Bd 1125899906842624 (y.set q v) := fun i => by
                  rw [rd_set _ _ _ _ (by omega)]
                  have := hbd i
                  split <;> omega
                have hsf : fit 1125899906842624 (y.set q v) := hset.mem
                have hsl : (y.set q v).length = y.length := by simp
                generalize y.set q v = z at hnear hsf hsl ⊢
                simp only [Option.bind_some]
                unfold spl
                rw [if_pos ⟨hs.1, hs.2, by omega⟩, Inverse_eq _ _ _ _ _ (by omega), iv_ok hk3 hs (by omega) (evs_fit hsf (by omega)) (ods_fit hsf (by omega))]
                simp only [Option.bind_some, if_true, iz_len]
                rw [if_pos (by omega), show (((z.length : Int) != (a.length : Int) + (b.length : Int)) = false) from bne_eq_false_iff_eq.mpr (by omega), waveletlaw04_LiftReaches.j1, if_neg (by decide)]
                obtain ⟨k, rfl, _⟩ := one_more (n := 39999) hk
                rw [Margin_eq _ _ hk3]
                simp only [Option.bind_some]
                have := reach_l0 q (iz y s kk) (iz z s kk) _ (by split <;> omega) hnear (by rw [iz_len]; omega) (by omega) y.length (k + 1) 0 (by rw [iz_len]; omega) (by omega)
                exact this
              · rw [if_neg h7, example_holds _ (by omega)]; rfl
end Go.Proofs.Ytkpehgakdooodaa.Pure
