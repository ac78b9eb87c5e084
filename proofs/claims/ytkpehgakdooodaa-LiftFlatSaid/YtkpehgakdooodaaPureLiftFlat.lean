/- The law LiftFlat over plain lists: flat signals, and signals that begin two indices later. -/
import Derived.Test.YtkpehgakdooodaaE04V
import Derived.Test.YtkpehgakdooodaaPAx26
namespace Go.Proofs.Ytkpehgakdooodaa.Pure
open Go.RowKit Go.Proofs.Ytkpehgakdooodaa.PA Go.Proofs.YtkpehgakdooodaaW.PrintWords Go.Proofs.YtkpehgakdooodaaW.PrintLast Go.Proofs.Ytkpehgakdooodaa.Ar Go.Proofs.Ytkpehgakdooodaa.E03 Go.Proofs.Ytkpehgakdooodaa.E04
theorem flat_l1 (v : Int) (x : List Int) (s kk : Int) (h : vok x s kk) (hs : s ≤ 4094) (z : List Int) (hz : ∀ y ∈ z, y = v) (hn : z.length ≤ 4096) (K : Nat) (hK : 40000 ≤ K) : ∀ (d k i : Nat), i + d = z.length → d + K + 1 ≤ k →
    waveletlaw04_LiftFlat.l1 k v x s kk z (z.length : Int) (i : Int) = some true := by
  obtain ⟨h1, h2, h3, h4⟩ := h
  intro d
  induction d with
  | zero =>
    intro k i hi hk
    obtain ⟨k, rfl, _⟩ := one_more (n := K) (by omega : K + 1 ≤ k)
    have e1 := ev_len s (fz x s kk)
    rw [fz_len] at e1
    rw [waveletlaw04_LiftFlat.l1, if_neg (by omega), w64 (n := s + 2) (by omega) (by omega), Forward_eq _ _ _ _ (by omega), Forward_eq _ _ _ _ (by omega), fw_ok h3 h2 (by omega) h4, fw_ok h3 (by omega) (by omega) h4, fz_two, (evs_two _ s).1, (evs_two _ s).2]
    simp only [Option.bind_some, if_true]
    rw [SameInts_eq _ _ _ (by omega) (by omega), SameInts_eq _ _ _ (by omega) (by omega), example_holds _ (by omega)]
    simp
  | succ d IH =>
    intro k i hi hk
    obtain ⟨k, rfl, _⟩ := one_more (n := d + K + 1) (by omega : d + K + 1 + 1 ≤ k)
    rw [waveletlaw04_LiftFlat.l1, if_pos (by omega), if_pos (by omega), if_pos (by omega), rd_nat z i (by omega), if_pos (hz _ (List.getElem_mem _)), w64 (n := (i : Int) + 1) (by omega) (by omega)]
    exact IH k (i + 1) (by omega) (by omega)
theorem flat_end (v : Int) (n : Nat) (x : List Int) (s kk : Int) (h : vok x s kk) (hs : s ≤ 4094) (hv : -281474976710656 ≤ v ∧ v ≤ 281474976710656) (hn : 2 ≤ n ∧ n ≤ 200) (K : Nat) (hK : 40000 ≤ K) (k : Nat) (hk : n + K + 1 ≤ k) :
    ((lift_Forward.f (k + 1) (List.replicate n v) s kk).bind fun bt426 => (if bt426.2.2 = 0 then (if (wrap64 ((bt426.1.length : Int) + (bt426.2.1.length : Int))) = (n : Int) then ((waveletref04_FewValues.f (k + 1) bt426.2.1 0).bind fun t433 => (waveletlaw04_LiftFlat.j2 (k + 1) v x s kk bt426.1 (!t433))) else (waveletlaw04_LiftFlat.j2 (k + 1) v x s kk bt426.1 true)) else (waveletlaw04_LiftFlat.j2 (k + 1) v x s kk bt426.1 true))) = some true := by
  obtain ⟨h1, h2, h3, h4⟩ := id h
  have hf : fit 281474976710656 (List.replicate n v) := fun y hy => by rw [List.eq_of_mem_replicate hy]; exact hv
  have hz : fz (List.replicate n v) s kk = fwd kk s (List.replicate n v) := by unfold fz; rw [if_pos (by rw [List.length_replicate]; omega)]
  have e1 := ev_len s (fwd kk s (List.replicate n v))
  have e2 := evs_length (fwd kk s (List.replicate n v)) s
  have e3 := ods_length (fwd kk s (List.replicate n v)) s
  have e4 := flat_evs (v := v) (kk := kk) (s := s) hn.1
  have e5 := flat_ods (v := v) (kk := kk) (s := s) hn.1
  rw [fwd_len, List.length_replicate] at e1 e2 e3
  rw [Forward_eq _ _ _ _ (by omega), fw_ok h3 h2 (by rw [List.length_replicate]; omega) hf, hz]
  generalize evs s (fwd kk s (List.replicate n v)) = a at e1 e2 e4 ⊢
  generalize ods s (fwd kk s (List.replicate n v)) = b at e1 e3 e5 ⊢
  obtain ⟨p, hp⟩ : ∃ p : List Int × List Int × Int, p = (a, b, 0) := ⟨_, rfl⟩
  have p1 : p.1 = a := by rw [hp]
  have p2 : p.2.1 = b := by rw [hp]
  have p3 : p.2.2 = 0 := by rw [hp]
  rw [← hp, Option.bind_some, if_pos p3, p1, p2, w64 (n := (a.length : Int) + (b.length : Int)) (by omega) (by omega), if_pos (by omega), few_eq _ _ (by omega) b (by omega) (by omega), decide_eq_true e5, Option.bind_some, Bool.not_true]
  rw [waveletlaw04_LiftFlat.j2, if_neg (by decide)]
  exact flat_l1 v x s kk h hs a e4 (by omega) K hK a.length k 0 (by omega) (by omega)
theorem flat_l0 (v : Int) (n : Nat) (x : List Int) (s kk : Int) (h : vok x s kk) (hs : s ≤ 4094) (hv : -281474976710656 ≤ v ∧ v ≤ 281474976710656) (hn : 2 ≤ n ∧ n ≤ 200) (K : Nat) (hK : 40000 ≤ K) : ∀ (d k i : Nat) (c : List Int), i + d = n → d + n + K + 3 ≤ k → c.length = n → (∀ q : Nat, q < i → rd c q = v) →
    waveletlaw04_LiftFlat.l0 k v n x s kk c (n : Int) (i : Int) = some true := by
  intro d
  induction d with
  | zero =>
    intro k i c hi hk hl hc
    obtain ⟨k, rfl⟩ : ∃ m, k = m + 1 := ⟨k - 1, by omega⟩
    obtain ⟨k, rfl⟩ : ∃ m, k = m + 1 := ⟨k - 1, by omega⟩
    have hcr : c = List.replicate n v := ext_rd (by simpa using hl) fun q hq => by
      rw [hc q (by omega), rd_nat _ _ (by rw [List.length_replicate]; omega), List.getElem_replicate]
    rw [waveletlaw04_LiftFlat.l0, if_neg (by omega), hcr]
    exact flat_end v n x s kk h hs hv hn K hK k (by omega)
  | succ d IH =>
    intro k i c hi hk hl hc
    obtain ⟨k, rfl⟩ : ∃ m, k = m + 1 := ⟨k - 1, by omega⟩
    rw [waveletlaw04_LiftFlat.l0, if_pos (by omega), if_pos (by omega), if_pos (by omega), w64 (n := (i : Int) + 1) (by omega) (by omega), Int.toNat_natCast]
    refine IH k (i + 1) _ (by omega) (by omega) (by simpa using hl) fun q hq => ?_
    rw [rd_set _ _ _ _ (by omega)]
    by_cases e : q = i
    · rw [if_pos e]
    · rw [if_neg e]; exact hc q (by omega)
theorem LiftFlat : waveletlaw04_LiftFlat.Pure := by
  intro v n x s kk _ _ _ _ _ _ _
  obtain ⟨K, hK⟩ : ∃ k : Nat, 40000 ≤ k := ⟨40000, Nat.le_refl _⟩
  refine ⟨200 + 200 + K + 4 + 1, ?_⟩
  have hx : waveletlaw04_LiftFlat.j0 (200 + 200 + K + 4 + 1) v n x s kk true = some true := by rw [waveletlaw04_LiftFlat.j0, if_pos rfl, example_holds _ (by omega)]; rfl
  unfold waveletlaw04_LiftFlat.f
  by_cases h1 : n < 2
  · rw [if_pos h1, hx]
  · rw [if_neg h1]
    by_cases h2 : n > 200
    · rw [if_pos h2, hx]
    · rw [if_neg h2]
      by_cases h3 : v > 281474976710656
      · rw [if_pos h3, hx]
      · rw [if_neg h3]
        by_cases h4 : v < -281474976710656
        · rw [if_pos h4, hx]
        · rw [if_neg h4]
          by_cases h5 : s > 4094
          · rw [if_pos h5, hx]
          · rw [if_neg h5, vok_eq _ _ _ _ (by omega)]
            simp only [Option.bind_some]
            by_cases h6 : vok x s kk
            · obtain ⟨n, rfl⟩ := Int.eq_ofNat_of_zero_le (show 0 ≤ n by omega)
              rw [decide_eq_true h6, Bool.not_true, waveletlaw04_LiftFlat.j0, if_neg (by decide), if_pos (by omega), Int.toNat_natCast, if_pos (by omega)]
              simp only [Option.bind_some, List.length_replicate]
              exact flat_l0 v n x s kk h6 (by omega) ⟨by omega, by omega⟩ ⟨by omega, by omega⟩ K hK n _ 0 _ (by omega) (by omega) (by simp) (fun q hq => by omega)
            · rw [decide_eq_false h6]; exact hx
end Go.Proofs.Ytkpehgakdooodaa.Pure
