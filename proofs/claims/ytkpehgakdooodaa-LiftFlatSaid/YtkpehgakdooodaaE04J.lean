/- Layer 3's Split and Join in closed form (from E03.lean). -/
import Derived.Test.YtkpehgakdooodaaE04B
import Derived.Test.YtkpehgakdooodaaPAx5
import Derived.Test.YtkpehgakdooodaaPAx7
import Derived.Test.YtkpehgakdooodaaPAx4
set_option linter.unusedVariables false
namespace Go.Proofs.Ytkpehgakdooodaa.E03
open Go.RowKit Go.Proofs.YtkpehgakdooodaaW.PrintWords Go.Proofs.YtkpehgakdooodaaW.PrintMore Go.Proofs.Ytkpehgakdooodaa.PA Go.Proofs.Ytkpehgakdooodaa.Ar
theorem below_eq {i : Int} (h0 : 0 ≤ i) (h1 : i ≤ 10000) : extend_Counts_1.f i = some ((i + 1) / 2) := by
  unfold extend_Counts_1.f
  rw [w64 (n := i + 1) (by omega) (by omega), tdivn (by omega), w64 (by omega) (by omega)]
theorem Counts_eq (k : Nat) (s n : Int) : extend_Counts.f (k + 1) s n = some (cnt s n) := by
  have hz : extend_Counts.j0 (k + 1) s n true = some (0, 0) := by rw [extend_Counts.j0, if_pos rfl]
  unfold extend_Counts.f cnt
  by_cases h : cok s n
  · rw [if_pos h]
    obtain ⟨h1, h2, h3, h4⟩ := h
    rw [if_neg (by omega), if_neg (by omega), if_neg (by omega)]
    have e : decide (n > 4096) = false := by simp; omega
    rw [e]
    rw [extend_Counts.j0]
    rw [if_neg (by decide), w64 (n := s + n) (by omega) (by omega), below_eq (by omega) (by omega), below_eq (by omega) (by omega)]
    simp only [Option.bind_some]
    unfold cev
    rw [w64 (n := (s + n + 1) / 2 - (s + 1) / 2) (by omega) (by omega), w64 (by omega) (by omega)]
  · rw [if_neg h]
    by_cases h1 : s < 0
    · rw [if_pos h1, hz]
    · rw [if_neg h1]
      by_cases h2 : s > 4096
      · rw [if_pos h2, hz]
      · rw [if_neg h2]
        by_cases h3 : n < 0
        · rw [if_pos h3, hz]
        · rw [if_neg h3]
          have e : decide (n > 4096) = true := by
            simp only [decide_eq_true_eq]
            by_cases h4 : n > 4096
            · exact h4
            · exact absurd ⟨by omega, by omega, by omega, by omega⟩ h
          rw [e, hz]
theorem Split_l0 (s : Int) (xs : List Int) (hs : 0 ≤ s ∧ s ≤ 4096) (hn : xs.length ≤ 4096) : ∀ (d k i : Nat) (e o : List Int), i + d = xs.length → d < k → e.length ≤ i → o.length ≤ i →
    extend_Split.l0 k s e o xs (xs.length : Int) (i : Int) = some (e ++ evs (s + i) (xs.drop i), o ++ ods (s + i) (xs.drop i), 0)
  | 0, k, i, e, o, hi, hk, _, _ => by
    obtain ⟨k, rfl, _⟩ := one_more hk
    rw [extend_Split.l0, if_neg (by omega), List.drop_of_length_le (by omega)]
    simp [evs, ods]
  | d + 1, k, i, e, o, hi, hk, he, ho => by
    obtain ⟨k, rfl, hk'⟩ := one_more hk
    have hlt : i < xs.length := by omega
    rw [extend_Split.l0, if_pos (by omega), if_pos (by omega), if_pos (by omega), w64 (n := s + i) (by omega) (by omega), w64 (n := (i : Int) + 1) (by omega) (by omega), drop_at hlt]
    unfold evs ods
    have hc : (i : Int) + 1 = ((i + 1 : Nat) : Int) := by omega
    by_cases h : (s + i) % 2 = 0
    · rw [if_pos ((tmod2_zero _).2 h), if_pos (by omega), hc, Split_l0 s xs hs hn d k (i + 1) _ _ (by omega) (by omega) (by simp; omega) (by omega)]
      simp only [if_pos h, ← hc, Int.add_assoc, List.append_assoc, List.singleton_append]
    · rw [if_neg (fun hh => h ((tmod2_zero _).1 hh)), if_pos (by omega), hc, Split_l0 s xs hs hn d k (i + 1) _ _ (by omega) (by omega) (by omega) (by simp; omega)]
      simp only [if_neg h, ← hc, Int.add_assoc, List.append_assoc, List.singleton_append]
theorem Split_eq (k : Nat) (xs : List Int) (s : Int) (hk : xs.length + 3 ≤ k) : extend_Split.f k xs s = some (spl xs s) := by
  obtain ⟨k, rfl, hk'⟩ := one_more hk
  have hz : extend_Split.j0 (k + 1) xs s true = some ([], [], 2) := by rw [extend_Split.j0, if_pos rfl]
  unfold extend_Split.f spl
  by_cases h : sok xs s
  · rw [if_pos h]
    obtain ⟨h1, h2, h3⟩ := h
    obtain ⟨k, rfl, hk''⟩ := one_more hk'
    have e : decide ((xs.length : Int) > 4096) = false := by simp; omega
    have hb := cev_bd (s := s) (n := xs.length) (by omega)
    have hcn : cnt s xs.length = (cev s xs.length, (xs.length : Int) - cev s xs.length) := if_pos ⟨h1, h2, by omega, by omega⟩
    rw [if_neg (by omega), if_neg (by omega), e, extend_Split.j0, if_neg (by decide), Counts_eq, hcn]
    simp only [Option.bind_some]
    rw [if_pos hb.1, if_pos (by omega), if_pos (by omega), if_pos (by omega)]
    have := Split_l0 s xs ⟨h1, h2⟩ h3 xs.length (k + 1) 0 [] [] (by omega) (by omega) (by simp) (by simp)
    simpa using this
  · rw [if_neg h]
    by_cases h1 : s < 0
    · rw [if_pos h1, hz]
    · rw [if_neg h1]
      by_cases h2 : s > 4096
      · rw [if_pos h2, hz]
      · rw [if_neg h2]
        have e : decide ((xs.length : Int) > 4096) = true := by
          simp only [decide_eq_true_eq]
          by_cases h4 : (xs.length : Int) > 4096
          · exact h4
          · exact absurd ⟨by omega, by omega, by omega⟩ h
        rw [e, hz]
theorem Join_l0 (e o : List Int) (s : Int) (hs : 0 ≤ s ∧ s ≤ 4096) (hn : e.length + o.length ≤ 4096) (n : Nat) (hnn : n ≤ 4096) : ∀ (d k i a b : Nat) (acc : List Int), i + d = n → d < k → acc.length = i → a ≤ e.length → b ≤ o.length → (e.length : Int) - a = cev (s + i) d → (o.length : Int) - b = d - cev (s + i) d →
    extend_Join.l0 k e o s (acc ++ List.replicate d 0) (a : Int) (b : Int) (n : Int) (i : Int) = some (acc ++ ilv (s + i) d (e.drop a) (o.drop b), 0)
  | 0, k, i, a, b, acc, hi, hk, _, _, _, _, _ => by
    obtain ⟨k, rfl, _⟩ := one_more hk
    rw [extend_Join.l0, if_neg (by omega)]
    simp [ilv]
  | d + 1, k, i, a, b, acc, hi, hk, hacc, ha, hb, he, ho => by
    obtain ⟨k, rfl, hk'⟩ := one_more hk
    have hc : (i : Int) + 1 = ((i + 1 : Nat) : Int) := by omega
    simp only [Int.natCast_add, Int.cast_ofNat_Int] at he ho
    have hbd := cev_bd (s := s + i + 1) (n := d) (by omega)
    rw [extend_Join.l0, if_pos (by omega), w64 (n := s + i) (by omega) (by omega), w64 (n := (i : Int) + 1) (by omega) (by omega), w64 (n := (a : Int) + 1) (by omega) (by omega), w64 (n := (b : Int) + 1) (by omega) (by omega)]
    have hlen : ((acc ++ List.replicate (d + 1) 0).length : Int) = i + (d + 1) := by simp [hacc]
    have hset : ∀ y, (acc ++ List.replicate (d + 1) 0).set (i : Int).toNat y = (acc ++ [y]) ++ List.replicate d 0 := by
      intro y; rw [Int.toNat_natCast, ← hacc]; exact set_mid acc 0 y _
    unfold ilv
    by_cases h : (s + i) % 2 = 0
    · rw [cev_even h] at he ho
      have hlt : a < e.length := by omega
      rw [if_pos ((tmod2_zero _).2 h), if_pos (by omega), if_pos (by omega), if_pos (by omega), if_pos (by omega), hset, hc, show (a : Int) + 1 = ((a + 1 : Nat) : Int) by omega,
        Join_l0 e o s hs hn n hnn d k (i + 1) (a + 1) b _ (by omega) (by omega) (by simp [hacc]) (by omega) hb (by simp only [← hc, Int.natCast_add, Int.cast_ofNat_Int, ← Int.add_assoc]; omega) (by simp only [← hc, ← Int.add_assoc]; omega)]
      simp only [if_pos h, ← hc, Int.add_assoc, drop_at hlt, List.headD_cons, List.tail_cons, List.append_assoc, List.singleton_append]
    · rw [cev_odd h] at he ho
      have hlt : b < o.length := by omega
      rw [if_neg (fun hh => h ((tmod2_zero _).1 hh)), if_pos (by omega), if_pos (by omega), if_pos (by omega), if_pos (by omega), hset, hc, show (b : Int) + 1 = ((b + 1 : Nat) : Int) by omega,
        Join_l0 e o s hs hn n hnn d k (i + 1) a (b + 1) _ (by omega) (by omega) (by simp [hacc]) ha (by omega) (by simp only [← hc, ← Int.add_assoc]; omega) (by simp only [← hc, Int.natCast_add, Int.cast_ofNat_Int, ← Int.add_assoc]; omega)]
      simp only [if_neg h, ← hc, Int.add_assoc, drop_at hlt, List.headD_cons, List.tail_cons, List.append_assoc, List.singleton_append]
theorem Join_eq (k : Nat) (e o : List Int) (s : Int) (he : e.length ≤ 4611686018427387904) (hk : e.length + o.length + 4 ≤ k) : extend_Join.f k e o s = some (jn e o s) := by
  obtain ⟨k, rfl, hk1⟩ := one_more hk
  obtain ⟨k, rfl, hk2⟩ := one_more hk1
  obtain ⟨k, rfl, hk3⟩ := one_more hk2
  have hz : extend_Join.j0 (k + 1 + 1 + 1) e o s true = some ([], 2) := by rw [extend_Join.j0, if_pos rfl]
  unfold extend_Join.f jn
  by_cases h : jok e o s
  · rw [if_pos h]
    have hcn := cnt_sum h
    obtain ⟨h1, h2, h3⟩ := h
    have hd : decide ((o.length : Int) > wrap64 (4096 - (e.length : Int))) = false := by rw [w64 (by omega) (by omega)]; simp; omega
    rw [if_neg (by omega), if_neg (by omega), if_neg (by omega), hd, extend_Join.j0, if_neg (by decide), w64 (n := (e.length : Int) + (o.length : Int)) (by omega) (by omega), Counts_eq, hcn]
    simp only [Option.bind_some]
    by_cases hc : (e.length : Int) = cev s ((e.length : Int) + (o.length : Int))
    · have hne : ((((e.length : Int) + (o.length : Int)) - cev s ((e.length : Int) + (o.length : Int))) != (o.length : Int)) = false := by simp; omega
      rw [if_pos hc.symm, if_pos hc, hne, extend_Join.j1, if_neg (by decide), if_pos (by omega), if_pos (by omega)]
      have ht : ((e.length : Int) + (o.length : Int)) = ((e.length + o.length : Nat) : Int) := by omega
      have := Join_l0 e o s ⟨h1, h2⟩ h3 (e.length + o.length) h3 (e.length + o.length) (k + 1) 0 0 0 [] (by omega) (by omega) rfl (by omega) (by omega) (by simpa using hc) (by simp; omega)
      rw [ht, Int.toNat_natCast]
      simpa using this
    · rw [if_neg (fun hh => hc hh.symm), if_neg hc, extend_Join.j1, if_pos rfl]
  · rw [if_neg h]
    by_cases h1 : s < 0
    · rw [if_pos h1, hz]
    · rw [if_neg h1]
      by_cases h2 : s > 4096
      · rw [if_pos h2, hz]
      · rw [if_neg h2]
        by_cases h3 : (e.length : Int) > 4096
        · rw [if_pos h3, hz]
        · rw [if_neg h3, w64 (by omega) (by omega)]
          have hd : decide ((o.length : Int) > 4096 - (e.length : Int)) = true := by
            simp only [decide_eq_true_eq]
            by_cases h4 : (o.length : Int) > 4096 - (e.length : Int)
            · exact h4
            · exact absurd ⟨by omega, by omega, by omega⟩ h
          rw [hd, hz]
end Go.Proofs.Ytkpehgakdooodaa.E03
