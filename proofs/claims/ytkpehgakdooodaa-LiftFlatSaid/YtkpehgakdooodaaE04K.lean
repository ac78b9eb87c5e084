/- Layer 3's references in closed form (from E03.lean). -/
import Derived.Test.YtkpehgakdooodaaE04B
import Derived.Test.YtkpehgakdooodaaPAx11
import Derived.Test.YtkpehgakdooodaaPAx16
import Derived.Test.YtkpehgakdooodaaPAx15
import Derived.Test.YtkpehgakdooodaaPAx10
import Derived.Test.YtkpehgakdooodaaPAx12
set_option linter.unusedVariables false
namespace Go.Proofs.Ytkpehgakdooodaa.E03
open Go.RowKit Go.Proofs.YtkpehgakdooodaaW.PrintWords Go.Proofs.YtkpehgakdooodaaW.PrintMore Go.Proofs.Ytkpehgakdooodaa.PA Go.Proofs.Ytkpehgakdooodaa.Ar
theorem inRange_yes {i : Int} (h1 : -281474976710656 ≤ i) (h2 : i ≤ 281474976710656) : waveletref03_ValidIndex.f i = some true := by
  unfold waveletref03_ValidIndex.f; rw [if_pos h1]; simp [h2]
theorem inRange_no {i : Int} (h : ¬ (-281474976710656 ≤ i ∧ i ≤ 281474976710656)) : waveletref03_ValidIndex.f i = some false := by
  unfold waveletref03_ValidIndex.f
  by_cases h1 : i ≥ -281474976710656
  · rw [if_pos h1]; simp; omega
  · rw [if_neg h1]
theorem refMirror_j0 (k : Nat) (i lo hi : Int) (h : mok i lo hi) : waveletref03_Mirror.j0 (k + 1) i lo hi false = some (mir i lo hi) := by
  obtain ⟨h0, h1, h2, h3, h4, h5, h6⟩ := h
  have hm : mok i lo hi := ⟨h0, h1, h2, h3, h4, h5, h6⟩
  unfold mir; rw [if_pos hm]
  rw [waveletref03_Mirror.j0]
  rw [if_neg (by decide)]
  rw [w64 (n := hi - lo) (by omega) (by omega), w64 (n := hi - lo - 1) (by omega) (by omega), w64 (n := 2 * (hi - lo - 1)) (by omega) (by omega), w64 (n := i - lo) (by omega) (by omega)]
  by_cases e : hi - lo = 1
  · rw [if_pos e, if_pos e]
  · rw [if_neg e, if_neg e, if_neg (by omega)]
    have hp : 0 < 2 * (hi - lo - 1) := by omega
    have hb : 2 * (hi - lo - 1) ≤ 2 * 562949953421312 := by omega
    have hn : hi - lo ≤ 562949953421312 := by omega
    generalize 2 * (hi - lo - 1) = p at hp hb ⊢
    have hf := tmod_fix (x := i - lo) hp
    have hd := tmod_bd (x := i - lo) hp
    generalize Int.tmod (i - lo) p = t at hf hd ⊢
    have hq := Int.emod_nonneg (i - lo) (Int.ne_of_gt hp)
    have hr := Int.emod_lt_of_pos (i - lo) hp
    by_cases ht : t < 0
    · rw [if_pos ht] at hf ⊢
      rw [w64 (n := t + p) (by omega) (by omega), hf]
      generalize (i - lo) % p = m at hf hq hr ⊢
      by_cases hg : m ≥ hi - lo
      · rw [if_neg (by omega), if_pos hg, w64 (n := lo + p) (by omega) (by omega), w64 (by omega) (by omega)]
        congr 1; omega
      · rw [if_pos (by omega), if_neg hg, w64 (by omega) (by omega)]
    · rw [if_neg ht] at hf ⊢
      rw [hf]
      generalize (i - lo) % p = m at hf hq hr ⊢
      by_cases hg : m ≥ hi - lo
      · rw [if_neg (by omega), if_pos hg, w64 (n := lo + p) (by omega) (by omega), w64 (by omega) (by omega)]
        congr 1; omega
      · rw [if_pos (by omega), if_neg hg, w64 (by omega) (by omega)]
theorem refMirror_eq (k : Nat) (i lo hi : Int) : waveletref03_Mirror.f (k + 1) i lo hi = some (mir i lo hi) := by
  have hz : waveletref03_Mirror.j0 (k + 1) i lo hi true = some 0 := by rw [waveletref03_Mirror.j0, if_pos rfl]
  by_cases h : mok i lo hi
  · have hj := refMirror_j0 k i lo hi h
    obtain ⟨h0, h1, h2, h3, h4, h5, h6⟩ := h
    unfold waveletref03_Mirror.f
    rw [if_neg (by omega), inRange_yes h1 h2, inRange_yes h3 h4, inRange_yes h5 h6]
    simpa using hj
  · unfold mir; rw [if_neg h]
    unfold waveletref03_Mirror.f
    by_cases h0 : lo ≥ hi
    · rw [if_pos h0, hz]
    · rw [if_neg h0]
      by_cases h1 : -281474976710656 ≤ i ∧ i ≤ 281474976710656
      · rw [inRange_yes h1.1 h1.2]
        by_cases h2 : -281474976710656 ≤ lo ∧ lo ≤ 281474976710656
        · rw [inRange_yes h2.1 h2.2]
          by_cases h3 : -281474976710656 ≤ hi ∧ hi ≤ 281474976710656
          · exact absurd ⟨by omega, h1.1, h1.2, h2.1, h2.2, h3.1, h3.2⟩ h
          · rw [inRange_no h3]; simpa using hz
        · rw [inRange_no h2]; simpa using hz
      · rw [inRange_no h1]; simpa using hz
theorem refCounts_eq (s n : Int) : waveletref03_Counts.f s n = some (cnt s n) := by
  unfold waveletref03_Counts.f cnt
  by_cases h : cok s n
  · rw [if_pos h]
    obtain ⟨h1, h2, h3, h4⟩ := h
    rw [if_neg (by omega), if_neg (by omega), if_neg (by omega), if_neg (by omega)]
    unfold cev
    rw [w64 (n := s + n) (by omega) (by omega), w64 (n := s + n + 1) (by omega) (by omega), w64 (n := s + 1) (by omega) (by omega), tdivn (by omega), tdivn (by omega), w64 (n := (s + n + 1) / 2) (by omega) (by omega), w64 (n := (s + 1) / 2) (by omega) (by omega)]
    rw [w64 (n := (s + n + 1) / 2 - (s + 1) / 2) (by omega) (by omega), w64 (by omega) (by omega)]
  · rw [if_neg h]
    repeat' split
    all_goals first | rfl | exact absurd ⟨by omega, by omega, by omega, by omega⟩ h
theorem refSplit_l0 (s : Int) (xs : List Int) (hs : 0 ≤ s ∧ s ≤ 4096) (hn : xs.length ≤ 4096) : ∀ (d k i : Nat) (e o : List Int), i + d = xs.length → d < k → e.length ≤ i → o.length ≤ i →
    waveletref03_Split.l0 k s e o xs (xs.length : Int) (i : Int) = some (e ++ evs (s + i) (xs.drop i), o ++ ods (s + i) (xs.drop i), 0)
  | 0, k, i, e, o, hi, hk, _, _ => by
    obtain ⟨k, rfl, _⟩ := one_more hk
    rw [waveletref03_Split.l0, if_neg (by omega), List.drop_of_length_le (by omega)]
    simp [evs, ods]
  | d + 1, k, i, e, o, hi, hk, he, ho => by
    obtain ⟨k, rfl, hk'⟩ := one_more hk
    have hlt : i < xs.length := by omega
    rw [waveletref03_Split.l0, if_pos (by omega), if_pos (by omega), if_pos (by omega), w64 (n := s + i) (by omega) (by omega), w64 (n := (i : Int) + 1) (by omega) (by omega), drop_at hlt]
    unfold evs ods
    have hc : (i : Int) + 1 = ((i + 1 : Nat) : Int) := by omega
    by_cases h : (s + i) % 2 = 0
    · rw [if_pos ((tmod2_zero _).2 h), if_pos (by omega), hc, refSplit_l0 s xs hs hn d k (i + 1) _ _ (by omega) (by omega) (by simp; omega) (by omega)]
      simp only [if_pos h, ← hc, Int.add_assoc, List.append_assoc, List.singleton_append]
    · rw [if_neg (fun hh => h ((tmod2_zero _).1 hh)), if_pos (by omega), hc, refSplit_l0 s xs hs hn d k (i + 1) _ _ (by omega) (by omega) (by omega) (by simp; omega)]
      simp only [if_neg h, ← hc, Int.add_assoc, List.append_assoc, List.singleton_append]
theorem refSplit_eq (k : Nat) (xs : List Int) (s : Int) (hk : xs.length + 3 ≤ k) : waveletref03_Split.f k xs s = some (spl xs s) := by
  obtain ⟨k, rfl, hk'⟩ := one_more hk
  have hz : waveletref03_Split.j0 (k + 1) xs s true = some ([], [], 2) := by rw [waveletref03_Split.j0, if_pos rfl]
  unfold waveletref03_Split.f spl
  by_cases h : sok xs s
  · rw [if_pos h]
    obtain ⟨h1, h2, h3⟩ := h
    have e : decide ((xs.length : Int) > 4096) = false := by simp; omega
    rw [if_neg (by omega), if_neg (by omega), e, waveletref03_Split.j0, if_neg (by decide)]
    have := refSplit_l0 s xs ⟨h1, h2⟩ h3 xs.length k 0 [] [] (by omega) (by omega) (by simp) (by simp)
    simpa using this
  · rw [if_neg h]
    by_cases h1 : s < 0
    · rw [if_pos h1, hz]
    · rw [if_neg h1]
      by_cases h2 : s > 4096
      · rw [if_pos h2, hz]
      · rw [if_neg h2]
        have e : decide ((xs.length : Int) > 4096) = true := by
          simp only [decide_eq_true_eq]
          by_cases h4 : (xs.length : Int) > 4096
          · exact h4
          · exact absurd ⟨by omega, by omega, by omega⟩ h
        rw [e, hz]
theorem Same_l0 (a b : List Int) (hl : a.length = b.length) (hn : a.length ≤ 4611686018427387904) : ∀ (d k i : Nat), i + d = a.length → d < k →
    waveletref03_SameInts.l0 k a b (a.length : Int) (i : Int) = some (decide (a.drop i = b.drop i))
  | 0, k, i, hi, hk => by
    obtain ⟨k, rfl, _⟩ := one_more hk
    rw [waveletref03_SameInts.l0, if_neg (by omega), List.drop_of_length_le (by omega), List.drop_of_length_le (by omega)]
    simp
  | d + 1, k, i, hi, hk => by
    obtain ⟨k, rfl, hk'⟩ := one_more hk
    have hlt : i < a.length := by omega
    have hc : (i : Int) + 1 = ((i + 1 : Nat) : Int) := by omega
    rw [waveletref03_SameInts.l0, if_pos (by omega), if_pos (by omega), if_pos (by omega), if_pos (by omega), w64 (n := (i : Int) + 1) (by omega) (by omega), drop_at hlt, drop_at (xs := b) (by omega)]
    by_cases h : rd a i = rd b i
    · rw [if_pos h, hc, Same_l0 a b hl hn d k (i + 1) (by omega) (by omega), h]
      simp
    · rw [if_neg h]
      simp [h]
theorem SameInts_eq (k : Nat) (a b : List Int) (hk : a.length + 1 ≤ k) (hn : a.length ≤ 4611686018427387904) : waveletref03_SameInts.f k a b = some (decide (a = b)) := by
  unfold waveletref03_SameInts.f
  by_cases h : a.length = b.length
  · rw [if_pos (by omega)]
    have := Same_l0 a b h hn a.length k 0 (by omega) (by omega)
    simpa using this
  · rw [if_neg (by omega)]
    have : a ≠ b := fun e => h (by rw [e])
    simp [this]
theorem refJoin_l0 (e o : List Int) (s : Int) (hs : 0 ≤ s ∧ s ≤ 4096) (hn : e.length + o.length ≤ 4096) (n : Nat) (hnn : n ≤ 4096) : ∀ (d k i a b : Nat) (acc : List Int), i + d = n → d < k → acc.length = i → a ≤ e.length → b ≤ o.length → (e.length : Int) - a = cev (s + i) d → (o.length : Int) - b = d - cev (s + i) d →
    waveletref03_Join.l0 k e o s (n : Int) acc (a : Int) (b : Int) (i : Int) = some (acc ++ ilv (s + i) d (e.drop a) (o.drop b), 0)
  | 0, k, i, a, b, acc, hi, hk, _, _, _, _, _ => by
    obtain ⟨k, rfl, _⟩ := one_more hk
    rw [waveletref03_Join.l0, if_neg (by omega)]
    simp [ilv]
  | d + 1, k, i, a, b, acc, hi, hk, hacc, ha, hb, he, ho => by
    obtain ⟨k, rfl, hk'⟩ := one_more hk
    have hc : (i : Int) + 1 = ((i + 1 : Nat) : Int) := by omega
    simp only [Int.natCast_add, Int.cast_ofNat_Int] at he ho
    have hbd := cev_bd (s := s + i + 1) (n := d) (by omega)
    rw [waveletref03_Join.l0, if_pos (by omega), w64 (n := s + i) (by omega) (by omega), w64 (n := (i : Int) + 1) (by omega) (by omega), w64 (n := (a : Int) + 1) (by omega) (by omega), w64 (n := (b : Int) + 1) (by omega) (by omega)]
    unfold ilv
    by_cases h : (s + i) % 2 = 0
    · rw [cev_even h] at he ho
      have hlt : a < e.length := by omega
      rw [if_pos ((tmod2_zero _).2 h), if_pos (by omega), if_pos (by omega), if_pos (by omega), hc, show (a : Int) + 1 = ((a + 1 : Nat) : Int) by omega,
        refJoin_l0 e o s hs hn n hnn d k (i + 1) (a + 1) b _ (by omega) (by omega) (by simp [hacc]) (by omega) hb (by simp only [← hc, Int.natCast_add, Int.cast_ofNat_Int, ← Int.add_assoc]; omega) (by simp only [← hc, ← Int.add_assoc]; omega)]
      simp only [if_pos h, ← hc, Int.add_assoc, drop_at hlt, List.headD_cons, List.tail_cons, List.append_assoc, List.singleton_append]
    · rw [cev_odd h] at he ho
      have hlt : b < o.length := by omega
      rw [if_neg (fun hh => h ((tmod2_zero _).1 hh)), if_pos (by omega), if_pos (by omega), if_pos (by omega), hc, show (b : Int) + 1 = ((b + 1 : Nat) : Int) by omega,
        refJoin_l0 e o s hs hn n hnn d k (i + 1) a (b + 1) _ (by omega) (by omega) (by simp [hacc]) ha (by omega) (by simp only [← hc, ← Int.add_assoc]; omega) (by simp only [← hc, Int.natCast_add, Int.cast_ofNat_Int, ← Int.add_assoc]; omega)]
      simp only [if_neg h, ← hc, Int.add_assoc, drop_at hlt, List.headD_cons, List.tail_cons, List.append_assoc, List.singleton_append]
theorem refJoin_eq (k : Nat) (e o : List Int) (s : Int) (hk : e.length + o.length + 4 ≤ k) : waveletref03_Join.f k e o s = some (jn e o s) := by
  obtain ⟨k, rfl, hk1⟩ := one_more hk
  obtain ⟨k, rfl, hk2⟩ := one_more hk1
  have hz : waveletref03_Join.j0 (k + 1 + 1) e o s true = some ([], 2) := by rw [waveletref03_Join.j0, if_pos rfl]
  unfold waveletref03_Join.f jn
  by_cases h : jok e o s
  · rw [if_pos h]
    have hcn := cnt_sum h
    obtain ⟨h1, h2, h3⟩ := h
    have hd : decide (wrap64 ((e.length : Int) + (o.length : Int)) > 4096) = false := by rw [w64 (by omega) (by omega)]; simp; omega
    rw [if_neg (by omega), if_neg (by omega), if_neg (by omega), if_neg (by omega), hd, waveletref03_Join.j0, if_neg (by decide), w64 (n := (e.length : Int) + (o.length : Int)) (by omega) (by omega), refCounts_eq, hcn]
    simp only [Option.bind_some]
    by_cases hc : (e.length : Int) = cev s ((e.length : Int) + (o.length : Int))
    · have hne : ((((e.length : Int) + (o.length : Int)) - cev s ((e.length : Int) + (o.length : Int))) != (o.length : Int)) = false := by simp; omega
      rw [if_pos hc.symm, if_pos hc, hne, waveletref03_Join.j1, if_neg (by decide)]
      have ht : ((e.length : Int) + (o.length : Int)) = ((e.length + o.length : Nat) : Int) := by omega
      have := refJoin_l0 e o s ⟨h1, h2⟩ h3 (e.length + o.length) h3 (e.length + o.length) k 0 0 0 [] (by omega) (by omega) rfl (by omega) (by omega) (by simpa using hc) (by simp; omega)
      rw [ht]
      simpa using this
    · rw [if_neg (fun hh => hc hh.symm), if_neg hc, waveletref03_Join.j1, if_pos rfl]
  · rw [if_neg h]
    by_cases h1 : s < 0
    · rw [if_pos h1, hz]
    · rw [if_neg h1]
      by_cases h2 : s > 4096
      · rw [if_pos h2, hz]
      · rw [if_neg h2]
        by_cases h3 : (e.length : Int) > 4096
        · rw [if_pos h3, hz]
        · rw [if_neg h3]
          by_cases h4 : (o.length : Int) > 4096
          · rw [if_pos h4, hz]
          · rw [if_neg h4, w64 (by omega) (by omega)]
            have hd : decide ((e.length : Int) + (o.length : Int) > 4096) = true := by
              simp only [decide_eq_true_eq]
              by_cases h5 : (e.length : Int) + (o.length : Int) > 4096
              · exact h5
              · exact absurd ⟨by omega, by omega, by omega⟩ h
            rw [hd, hz]
end Go.Proofs.Ytkpehgakdooodaa.E03
