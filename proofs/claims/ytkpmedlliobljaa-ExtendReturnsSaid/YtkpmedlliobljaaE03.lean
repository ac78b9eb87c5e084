/- Layer 3 (extend) and its reference, in closed form: what the printed functions of this seat return, for all arguments. -/
import Derived.Test.YtkpmedlliobljaaAr
import Derived.Test.YtkpmedlliobljaaPAx
namespace Go.Proofs.Ytkpmedlliobljaa.E03
open Go.RowKit Go.Proofs.YtkpmedlliobljaaW.PrintWords Go.Proofs.YtkpmedlliobljaaW.PrintMore Go.Proofs.Ytkpmedlliobljaa.PA Go.Proofs.Ytkpmedlliobljaa.Ar
theorem inRange_yes {i : Int} (h1 : -281474976710656 ≤ i) (h2 : i ≤ 281474976710656) : extend_inRange.f i = some true := by
  unfold extend_inRange.f; rw [if_pos h1]; simp [h2]
theorem inRange_no {i : Int} (h : ¬ (-281474976710656 ≤ i ∧ i ≤ 281474976710656)) : extend_inRange.f i = some false := by
  unfold extend_inRange.f
  by_cases h1 : i ≥ -281474976710656
  · rw [if_pos h1]; simp; omega
  · rw [if_neg h1]
theorem ValidIndex_eq (i : Int) : waveletref03_ValidIndex.f i = extend_inRange.f i := rfl
/-- The arguments that Mirror takes. -/
def mok (i lo hi : Int) : Prop := lo < hi ∧ -281474976710656 ≤ i ∧ i ≤ 281474976710656 ∧ -281474976710656 ≤ lo ∧ lo ≤ 281474976710656 ∧ -281474976710656 ≤ hi ∧ hi ≤ 281474976710656
instance (i lo hi : Int) : Decidable (mok i lo hi) := by unfold mok; infer_instance
/-- The mirrored index. -/
def mir (i lo hi : Int) : Int :=
  if mok i lo hi then (if hi - lo = 1 then lo else if (i - lo) % (2 * (hi - lo - 1)) ≥ hi - lo then lo + (2 * (hi - lo - 1) - (i - lo) % (2 * (hi - lo - 1))) else lo + (i - lo) % (2 * (hi - lo - 1))) else 0
theorem Mirror_j0 (k : Nat) (i lo hi : Int) (h : mok i lo hi) : extend_Mirror.j0 (k + 1) i lo hi false = some (mir i lo hi) := by
  obtain ⟨h0, h1, h2, h3, h4, h5, h6⟩ := h
  have hm : mok i lo hi := ⟨h0, h1, h2, h3, h4, h5, h6⟩
  unfold mir; rw [if_pos hm]
  rw [extend_Mirror.j0]
  rw [if_neg (by decide)]
  rw [w64 (n := hi - lo) (by omega) (by omega), w64 (n := hi - lo - 1) (by omega) (by omega), w64 (n := 2 * (hi - lo - 1)) (by omega) (by omega), w64 (n := i - lo) (by omega) (by omega)]
  by_cases e : hi - lo = 1
  · rw [if_pos e, if_pos e]
  · rw [if_neg e, if_neg e, if_neg (by omega)]
    have hp : 0 < 2 * (hi - lo - 1) := by omega
    have hb : 2 * (hi - lo - 1) ≤ 2 * 562949953421312 := by omega
    have hn : hi - lo ≤ 562949953421312 := by omega
    generalize 2 * (hi - lo - 1) = p at hp hb ⊢
    have hf := tmod_fix (x := i - lo) hp
    have hd := tmod_bd (x := i - lo) hp
    generalize Int.tmod (i - lo) p = t at hf hd ⊢
    by_cases ht : t < 0
    · rw [if_pos ht] at hf ⊢
      rw [w64 (n := t + p) (by omega) (by omega), hf]
      have hq := Int.emod_nonneg (i - lo) (Int.ne_of_gt hp)
      have hr := Int.emod_lt_of_pos (i - lo) hp
      generalize (i - lo) % p = m at hf hq hr ⊢
      by_cases hg : m ≥ hi - lo
      · rw [if_pos hg, if_pos hg, w64 (n := p - m) (by omega) (by omega), w64 (by omega) (by omega)]
      · rw [if_neg hg, if_neg hg, w64 (by omega) (by omega)]
    · rw [if_neg ht] at hf ⊢
      rw [hf]
      have hq := Int.emod_nonneg (i - lo) (Int.ne_of_gt hp)
      have hr := Int.emod_lt_of_pos (i - lo) hp
      generalize (i - lo) % p = m at hf hq hr ⊢
      by_cases hg : m ≥ hi - lo
      · rw [if_pos hg, if_pos hg, w64 (n := p - m) (by omega) (by omega), w64 (by omega) (by omega)]
      · rw [if_neg hg, if_neg hg, w64 (by omega) (by omega)]
theorem Mirror_eq (k : Nat) (i lo hi : Int) : extend_Mirror.f (k + 1) i lo hi = some (mir i lo hi) := by
  have hz : extend_Mirror.j0 (k + 1) i lo hi true = some 0 := by rw [extend_Mirror.j0, if_pos rfl]
  by_cases h : mok i lo hi
  · have hj := Mirror_j0 k i lo hi h
    obtain ⟨h0, h1, h2, h3, h4, h5, h6⟩ := h
    unfold extend_Mirror.f
    rw [if_neg (by omega), inRange_yes h1 h2, inRange_yes h3 h4, inRange_yes h5 h6]
    simpa using hj
  · unfold mir; rw [if_neg h]
    unfold extend_Mirror.f
    by_cases h0 : lo ≥ hi
    · rw [if_pos h0, hz]
    · rw [if_neg h0]
      by_cases h1 : -281474976710656 ≤ i ∧ i ≤ 281474976710656
      · rw [inRange_yes h1.1 h1.2]
        by_cases h2 : -281474976710656 ≤ lo ∧ lo ≤ 281474976710656
        · rw [inRange_yes h2.1 h2.2]
          by_cases h3 : -281474976710656 ≤ hi ∧ hi ≤ 281474976710656
          · exact absurd ⟨by omega, h1.1, h1.2, h2.1, h2.2, h3.1, h3.2⟩ h
          · rw [inRange_no h3]; simpa using hz
        · rw [inRange_no h2]; simpa using hz
      · rw [inRange_no h1]; simpa using hz
theorem refMirror_j0 (k : Nat) (i lo hi : Int) (h : mok i lo hi) : waveletref03_Mirror.j0 (k + 1) i lo hi false = some (mir i lo hi) := by
  obtain ⟨h0, h1, h2, h3, h4, h5, h6⟩ := h
  have hm : mok i lo hi := ⟨h0, h1, h2, h3, h4, h5, h6⟩
  unfold mir; rw [if_pos hm]
  rw [waveletref03_Mirror.j0]
  rw [if_neg (by decide)]
  rw [w64 (n := hi - lo) (by omega) (by omega), w64 (n := hi - lo - 1) (by omega) (by omega), w64 (n := 2 * (hi - lo - 1)) (by omega) (by omega), w64 (n := i - lo) (by omega) (by omega)]
  by_cases e : hi - lo = 1
  · rw [if_pos e, if_pos e]
  · rw [if_neg e, if_neg e, if_neg (by omega)]
    have hp : 0 < 2 * (hi - lo - 1) := by omega
    have hb : 2 * (hi - lo - 1) ≤ 2 * 562949953421312 := by omega
    have hn : hi - lo ≤ 562949953421312 := by omega
    generalize 2 * (hi - lo - 1) = p at hp hb ⊢
    have hf := tmod_fix (x := i - lo) hp
    have hd := tmod_bd (x := i - lo) hp
    generalize Int.tmod (i - lo) p = t at hf hd ⊢
    have hq := Int.emod_nonneg (i - lo) (Int.ne_of_gt hp)
    have hr := Int.emod_lt_of_pos (i - lo) hp
    by_cases ht : t < 0
    · rw [if_pos ht] at hf ⊢
      rw [w64 (n := t + p) (by omega) (by omega), hf]
      generalize (i - lo) % p = m at hf hq hr ⊢
      by_cases hg : m ≥ hi - lo
      · rw [if_neg (by omega), if_pos hg, w64 (n := lo + p) (by omega) (by omega), w64 (by omega) (by omega)]
        congr 1; omega
      · rw [if_pos (by omega), if_neg hg, w64 (by omega) (by omega)]
    · rw [if_neg ht] at hf ⊢
      rw [hf]
      generalize (i - lo) % p = m at hf hq hr ⊢
      by_cases hg : m ≥ hi - lo
      · rw [if_neg (by omega), if_pos hg, w64 (n := lo + p) (by omega) (by omega), w64 (by omega) (by omega)]
        congr 1; omega
      · rw [if_pos (by omega), if_neg hg, w64 (by omega) (by omega)]
theorem refMirror_eq (k : Nat) (i lo hi : Int) : waveletref03_Mirror.f (k + 1) i lo hi = some (mir i lo hi) := by
  have hz : waveletref03_Mirror.j0 (k + 1) i lo hi true = some 0 := by rw [waveletref03_Mirror.j0, if_pos rfl]
  by_cases h : mok i lo hi
  · have hj := refMirror_j0 k i lo hi h
    obtain ⟨h0, h1, h2, h3, h4, h5, h6⟩ := h
    unfold waveletref03_Mirror.f
    simp only [ValidIndex_eq]
    rw [if_neg (by omega), inRange_yes h1 h2, inRange_yes h3 h4, inRange_yes h5 h6]
    simpa using hj
  · unfold mir; rw [if_neg h]
    unfold waveletref03_Mirror.f
    simp only [ValidIndex_eq]
    by_cases h0 : lo ≥ hi
    · rw [if_pos h0, hz]
    · rw [if_neg h0]
      by_cases h1 : -281474976710656 ≤ i ∧ i ≤ 281474976710656
      · rw [inRange_yes h1.1 h1.2]
        by_cases h2 : -281474976710656 ≤ lo ∧ lo ≤ 281474976710656
        · rw [inRange_yes h2.1 h2.2]
          by_cases h3 : -281474976710656 ≤ hi ∧ hi ≤ 281474976710656
          · exact absurd ⟨by omega, h1.1, h1.2, h2.1, h2.2, h3.1, h3.2⟩ h
          · rw [inRange_no h3]; simpa using hz
        · rw [inRange_no h2]; simpa using hz
      · rw [inRange_no h1]; simpa using hz
/-- The arguments that Counts takes. -/
def cok (s n : Int) : Prop := 0 ≤ s ∧ s ≤ 4096 ∧ 0 ≤ n ∧ n ≤ 4096
instance (s n : Int) : Decidable (cok s n) := by unfold cok; infer_instance
/-- How many even indices, and how many odd ones. -/
def cev (s n : Int) : Int := (s + n + 1) / 2 - (s + 1) / 2
def cnt (s n : Int) : Int × Int := if cok s n then (cev s n, n - cev s n) else (0, 0)
theorem below_eq {i : Int} (h0 : 0 ≤ i) (h1 : i ≤ 10000) : extend_Counts_1.f i = some ((i + 1) / 2) := by
  unfold extend_Counts_1.f
  rw [w64 (n := i + 1) (by omega) (by omega), tdivn (by omega), w64 (by omega) (by omega)]
theorem Counts_eq (k : Nat) (s n : Int) : extend_Counts.f (k + 1) s n = some (cnt s n) := by
  have hz : extend_Counts.j0 (k + 1) s n true = some (0, 0) := by rw [extend_Counts.j0, if_pos rfl]
  unfold extend_Counts.f cnt
  by_cases h : cok s n
  · rw [if_pos h]
    obtain ⟨h1, h2, h3, h4⟩ := h
    rw [if_neg (by omega), if_neg (by omega), if_neg (by omega)]
    have e : decide (n > 4096) = false := by simp; omega
    rw [e]
    rw [extend_Counts.j0]
    rw [if_neg (by decide), w64 (n := s + n) (by omega) (by omega), below_eq (by omega) (by omega), below_eq (by omega) (by omega)]
    simp only [Option.bind_some]
    unfold cev
    rw [w64 (n := (s + n + 1) / 2 - (s + 1) / 2) (by omega) (by omega), w64 (by omega) (by omega)]
  · rw [if_neg h]
    by_cases h1 : s < 0
    · rw [if_pos h1, hz]
    · rw [if_neg h1]
      by_cases h2 : s > 4096
      · rw [if_pos h2, hz]
      · rw [if_neg h2]
        by_cases h3 : n < 0
        · rw [if_pos h3, hz]
        · rw [if_neg h3]
          have e : decide (n > 4096) = true := by
            simp only [decide_eq_true_eq]
            by_cases h4 : n > 4096
            · exact h4
            · exact absurd ⟨by omega, by omega, by omega, by omega⟩ h
          rw [e, hz]
theorem refCounts_eq (s n : Int) : waveletref03_Counts.f s n = some (cnt s n) := by
  unfold waveletref03_Counts.f cnt
  by_cases h : cok s n
  · rw [if_pos h]
    obtain ⟨h1, h2, h3, h4⟩ := h
    rw [if_neg (by omega), if_neg (by omega), if_neg (by omega), if_neg (by omega)]
    unfold cev
    rw [w64 (n := s + n) (by omega) (by omega), w64 (n := s + n + 1) (by omega) (by omega), w64 (n := s + 1) (by omega) (by omega), tdivn (by omega), tdivn (by omega), w64 (n := (s + n + 1) / 2) (by omega) (by omega), w64 (n := (s + 1) / 2) (by omega) (by omega)]
    rw [w64 (n := (s + n + 1) / 2 - (s + 1) / 2) (by omega) (by omega), w64 (by omega) (by omega)]
  · rw [if_neg h]
    repeat' split
    all_goals first | rfl | exact absurd ⟨by omega, by omega, by omega, by omega⟩ h
theorem example_holds (k : Nat) (hk : 30 ≤ k) : waveletlaw03_exampleHolds.f k = some true :=
  at_rounds (g := fun k => waveletlaw03_exampleHolds.f k) (fun k => waveletlaw03_exampleHolds.mono k) hk (by decide +kernel : waveletlaw03_exampleHolds.f 30 = some true)
/-- The samples at even indices, and those at odd ones, of a signal that begins at s. -/
def evs : Int → List Int → List Int
  | _, [] => []
  | s, x :: xs => if s % 2 = 0 then x :: evs (s + 1) xs else evs (s + 1) xs
def ods : Int → List Int → List Int
  | _, [] => []
  | s, x :: xs => if s % 2 = 0 then ods (s + 1) xs else x :: ods (s + 1) xs
/-- n samples from index s on, taken from two lists in turn. -/
def ilv : Int → Nat → List Int → List Int → List Int
  | _, 0, _, _ => []
  | s, n + 1, e, o => if s % 2 = 0 then e.headD 0 :: ilv (s + 1) n e.tail o else o.headD 0 :: ilv (s + 1) n e o.tail
theorem cev_zero (s : Int) : cev s 0 = 0 := by unfold cev; omega
theorem cev_even {s n : Int} (h : s % 2 = 0) : cev s (n + 1) = cev (s + 1) n + 1 := by unfold cev; omega
theorem cev_odd {s n : Int} (h : ¬ s % 2 = 0) : cev s (n + 1) = cev (s + 1) n := by unfold cev; omega
theorem cev_bd {s n : Int} (h : 0 ≤ n) : 0 ≤ cev s n ∧ cev s n ≤ n := by unfold cev; omega
theorem evs_length : ∀ (xs : List Int) (s : Int), ((evs s xs).length : Int) = cev s xs.length
  | [], s => by simp [evs, cev_zero]
  | x :: xs, s => by
    have ih := evs_length xs (s + 1)
    unfold evs
    by_cases h : s % 2 = 0
    · rw [if_pos h]; simp only [List.length_cons, Int.natCast_add, Int.cast_ofNat_Int]; rw [ih, cev_even h]
    · rw [if_neg h]; simp only [List.length_cons, Int.natCast_add, Int.cast_ofNat_Int]; rw [ih, cev_odd h]
theorem ods_length : ∀ (xs : List Int) (s : Int), ((ods s xs).length : Int) = xs.length - cev s xs.length
  | [], s => by simp [ods, cev_zero]
  | x :: xs, s => by
    have ih := ods_length xs (s + 1)
    unfold ods
    by_cases h : s % 2 = 0
    · rw [if_pos h]; simp only [List.length_cons, Int.natCast_add, Int.cast_ofNat_Int]; rw [ih, cev_even h]; omega
    · rw [if_neg h]; simp only [List.length_cons, Int.natCast_add, Int.cast_ofNat_Int]; rw [ih, cev_odd h]; omega
theorem ilv_length : ∀ (n : Nat) (s : Int) (e o : List Int), (ilv s n e o).length = n
  | 0, _, _, _ => rfl
  | n + 1, s, e, o => by unfold ilv; split <;> simp [ilv_length n]
theorem ilv_split : ∀ (xs : List Int) (s : Int), ilv s xs.length (evs s xs) (ods s xs) = xs
  | [], s => rfl
  | x :: xs, s => by
    have ih := ilv_split xs (s + 1)
    simp only [List.length_cons]
    unfold ilv evs ods
    by_cases h : s % 2 = 0
    · simp only [if_pos h, List.headD_cons, List.tail_cons]; rw [ih]
    · simp only [if_neg h, List.headD_cons, List.tail_cons]; rw [ih]
theorem evs_ilv : ∀ (n : Nat) (s : Int) (e o : List Int), (e.length : Int) = cev s n → (o.length : Int) = n - cev s n → evs s (ilv s n e o) = e ∧ ods s (ilv s n e o) = o
  | 0, s, e, o, he, ho => by
    have h0 : cev s ((0 : Nat) : Int) = 0 := cev_zero s
    rw [h0] at he ho
    have : e = [] := List.length_eq_zero_iff.1 (by omega)
    have : o = [] := List.length_eq_zero_iff.1 (by omega)
    subst_vars
    exact ⟨rfl, rfl⟩
  | n + 1, s, e, o, he, ho => by
    simp only [Int.natCast_add, Int.cast_ofNat_Int] at he ho
    have hb := cev_bd (s := s + 1) (n := n) (by omega)
    unfold ilv
    by_cases h : s % 2 = 0
    · rw [cev_even h] at he ho
      cases e with
      | nil => simp at he; omega
      | cons x e =>
        simp only [List.length_cons, Int.natCast_add, Int.cast_ofNat_Int] at he
        have ih := evs_ilv n (s + 1) e o (by omega) (by omega)
        simp only [if_pos h, List.headD_cons, List.tail_cons]
        unfold evs ods
        simp only [if_pos h]
        rw [ih.1, ih.2]; exact ⟨rfl, rfl⟩
    · rw [cev_odd h] at he ho
      cases o with
      | nil => simp at ho; omega
      | cons x o =>
        simp only [List.length_cons, Int.natCast_add, Int.cast_ofNat_Int] at ho
        have ih := evs_ilv n (s + 1) e o (by omega) (by omega)
        simp only [if_neg h, List.headD_cons, List.tail_cons]
        unfold evs ods
        simp only [if_neg h]
        rw [ih.1, ih.2]; exact ⟨rfl, rfl⟩
theorem drop_at {xs : List Int} {i : Nat} (h : i < xs.length) : xs.drop i = rd xs i :: xs.drop (i + 1) := by
  rw [rd_nat xs i h]; exact List.drop_eq_getElem_cons h
theorem Split_l0 (s : Int) (xs : List Int) (hs : 0 ≤ s ∧ s ≤ 4096) (hn : xs.length ≤ 4096) : ∀ (d k i : Nat) (e o : List Int), i + d = xs.length → d < k → e.length ≤ i → o.length ≤ i →
    extend_Split.l0 k s e o xs (xs.length : Int) (i : Int) = some (e ++ evs (s + i) (xs.drop i), o ++ ods (s + i) (xs.drop i), 0)
  | 0, k, i, e, o, hi, hk, _, _ => by
    obtain ⟨k, rfl, _⟩ := one_more hk
    rw [extend_Split.l0, if_neg (by omega), List.drop_of_length_le (by omega)]
    simp [evs, ods]
  | d + 1, k, i, e, o, hi, hk, he, ho => by
    obtain ⟨k, rfl, hk'⟩ := one_more hk
    have hlt : i < xs.length := by omega
    rw [extend_Split.l0, if_pos (by omega), if_pos (by omega), if_pos (by omega), w64 (n := s + i) (by omega) (by omega), w64 (n := (i : Int) + 1) (by omega) (by omega), drop_at hlt]
    unfold evs ods
    have hc : (i : Int) + 1 = ((i + 1 : Nat) : Int) := by omega
    by_cases h : (s + i) % 2 = 0
    · rw [if_pos ((tmod2_zero _).2 h), if_pos (by omega), hc, Split_l0 s xs hs hn d k (i + 1) _ _ (by omega) (by omega) (by simp; omega) (by omega)]
      simp only [if_pos h, ← hc, Int.add_assoc, List.append_assoc, List.singleton_append]
    · rw [if_neg (fun hh => h ((tmod2_zero _).1 hh)), if_pos (by omega), hc, Split_l0 s xs hs hn d k (i + 1) _ _ (by omega) (by omega) (by omega) (by simp; omega)]
      simp only [if_neg h, ← hc, Int.add_assoc, List.append_assoc, List.singleton_append]
theorem refSplit_l0 (s : Int) (xs : List Int) (hs : 0 ≤ s ∧ s ≤ 4096) (hn : xs.length ≤ 4096) : ∀ (d k i : Nat) (e o : List Int), i + d = xs.length → d < k → e.length ≤ i → o.length ≤ i →
    waveletref03_Split.l0 k s e o xs (xs.length : Int) (i : Int) = some (e ++ evs (s + i) (xs.drop i), o ++ ods (s + i) (xs.drop i), 0)
  | 0, k, i, e, o, hi, hk, _, _ => by
    obtain ⟨k, rfl, _⟩ := one_more hk
    rw [waveletref03_Split.l0, if_neg (by omega), List.drop_of_length_le (by omega)]
    simp [evs, ods]
  | d + 1, k, i, e, o, hi, hk, he, ho => by
    obtain ⟨k, rfl, hk'⟩ := one_more hk
    have hlt : i < xs.length := by omega
    rw [waveletref03_Split.l0, if_pos (by omega), if_pos (by omega), if_pos (by omega), w64 (n := s + i) (by omega) (by omega), w64 (n := (i : Int) + 1) (by omega) (by omega), drop_at hlt]
    unfold evs ods
    have hc : (i : Int) + 1 = ((i + 1 : Nat) : Int) := by omega
    by_cases h : (s + i) % 2 = 0
    · rw [if_pos ((tmod2_zero _).2 h), if_pos (by omega), hc, refSplit_l0 s xs hs hn d k (i + 1) _ _ (by omega) (by omega) (by simp; omega) (by omega)]
      simp only [if_pos h, ← hc, Int.add_assoc, List.append_assoc, List.singleton_append]
    · rw [if_neg (fun hh => h ((tmod2_zero _).1 hh)), if_pos (by omega), hc, refSplit_l0 s xs hs hn d k (i + 1) _ _ (by omega) (by omega) (by omega) (by simp; omega)]
      simp only [if_neg h, ← hc, Int.add_assoc, List.append_assoc, List.singleton_append]
/-- What Split takes. -/
def sok (xs : List Int) (s : Int) : Prop := 0 ≤ s ∧ s ≤ 4096 ∧ xs.length ≤ 4096
instance (xs : List Int) (s : Int) : Decidable (sok xs s) := by unfold sok; infer_instance
def spl (xs : List Int) (s : Int) : List Int × List Int × Int := if sok xs s then (evs s xs, ods s xs, 0) else ([], [], 2)
theorem Split_eq (k : Nat) (xs : List Int) (s : Int) (hk : xs.length + 3 ≤ k) : extend_Split.f k xs s = some (spl xs s) := by
  obtain ⟨k, rfl, hk'⟩ := one_more hk
  have hz : extend_Split.j0 (k + 1) xs s true = some ([], [], 2) := by rw [extend_Split.j0, if_pos rfl]
  unfold extend_Split.f spl
  by_cases h : sok xs s
  · rw [if_pos h]
    obtain ⟨h1, h2, h3⟩ := h
    obtain ⟨k, rfl, hk''⟩ := one_more hk'
    have e : decide ((xs.length : Int) > 4096) = false := by simp; omega
    have hb := cev_bd (s := s) (n := xs.length) (by omega)
    have hcn : cnt s xs.length = (cev s xs.length, (xs.length : Int) - cev s xs.length) := if_pos ⟨h1, h2, by omega, by omega⟩
    rw [if_neg (by omega), if_neg (by omega), e, extend_Split.j0, if_neg (by decide), Counts_eq, hcn]
    simp only [Option.bind_some]
    rw [if_pos hb.1, if_pos (by omega), if_pos (by omega), if_pos (by omega)]
    have := Split_l0 s xs ⟨h1, h2⟩ h3 xs.length (k + 1) 0 [] [] (by omega) (by omega) (by simp) (by simp)
    simpa using this
  · rw [if_neg h]
    by_cases h1 : s < 0
    · rw [if_pos h1, hz]
    · rw [if_neg h1]
      by_cases h2 : s > 4096
      · rw [if_pos h2, hz]
      · rw [if_neg h2]
        have e : decide ((xs.length : Int) > 4096) = true := by
          simp only [decide_eq_true_eq]
          by_cases h4 : (xs.length : Int) > 4096
          · exact h4
          · exact absurd ⟨by omega, by omega, by omega⟩ h
        rw [e, hz]
theorem refSplit_eq (k : Nat) (xs : List Int) (s : Int) (hk : xs.length + 3 ≤ k) : waveletref03_Split.f k xs s = some (spl xs s) := by
  obtain ⟨k, rfl, hk'⟩ := one_more hk
  have hz : waveletref03_Split.j0 (k + 1) xs s true = some ([], [], 2) := by rw [waveletref03_Split.j0, if_pos rfl]
  unfold waveletref03_Split.f spl
  by_cases h : sok xs s
  · rw [if_pos h]
    obtain ⟨h1, h2, h3⟩ := h
    have e : decide ((xs.length : Int) > 4096) = false := by simp; omega
    rw [if_neg (by omega), if_neg (by omega), e, waveletref03_Split.j0, if_neg (by decide)]
    have := refSplit_l0 s xs ⟨h1, h2⟩ h3 xs.length k 0 [] [] (by omega) (by omega) (by simp) (by simp)
    simpa using this
  · rw [if_neg h]
    by_cases h1 : s < 0
    · rw [if_pos h1, hz]
    · rw [if_neg h1]
      by_cases h2 : s > 4096
      · rw [if_pos h2, hz]
      · rw [if_neg h2]
        have e : decide ((xs.length : Int) > 4096) = true := by
          simp only [decide_eq_true_eq]
          by_cases h4 : (xs.length : Int) > 4096
          · exact h4
          · exact absurd ⟨by omega, by omega, by omega⟩ h
        rw [e, hz]
theorem Same_l0 (a b : List Int) (hl : a.length = b.length) (hn : a.length ≤ 4611686018427387904) : ∀ (d k i : Nat), i + d = a.length → d < k →
    waveletref03_SameInts.l0 k a b (a.length : Int) (i : Int) = some (decide (a.drop i = b.drop i))
  | 0, k, i, hi, hk => by
    obtain ⟨k, rfl, _⟩ := one_more hk
    rw [waveletref03_SameInts.l0, if_neg (by omega), List.drop_of_length_le (by omega), List.drop_of_length_le (by omega)]
    simp
  | d + 1, k, i, hi, hk => by
    obtain ⟨k, rfl, hk'⟩ := one_more hk
    have hlt : i < a.length := by omega
    have hc : (i : Int) + 1 = ((i + 1 : Nat) : Int) := by omega
    rw [waveletref03_SameInts.l0, if_pos (by omega), if_pos (by omega), if_pos (by omega), if_pos (by omega), w64 (n := (i : Int) + 1) (by omega) (by omega), drop_at hlt, drop_at (xs := b) (by omega)]
    by_cases h : rd a i = rd b i
    · rw [if_pos h, hc, Same_l0 a b hl hn d k (i + 1) (by omega) (by omega), h]
      simp
    · rw [if_neg h]
      simp [h]
theorem SameInts_eq (k : Nat) (a b : List Int) (hk : a.length + 1 ≤ k) (hn : a.length ≤ 4611686018427387904) : waveletref03_SameInts.f k a b = some (decide (a = b)) := by
  unfold waveletref03_SameInts.f
  by_cases h : a.length = b.length
  · rw [if_pos (by omega)]
    have := Same_l0 a b h hn a.length k 0 (by omega) (by omega)
    simpa using this
  · rw [if_neg (by omega)]
    have : a ≠ b := fun e => h (by rw [e])
    simp [this]
theorem set_mid (acc : List Int) (x y : Int) (r : List Int) : (acc ++ x :: r).set acc.length y = (acc ++ [y]) ++ r := by
  simp [List.set_append_right]
theorem Join_l0 (e o : List Int) (s : Int) (hs : 0 ≤ s ∧ s ≤ 4096) (hn : e.length + o.length ≤ 4096) (n : Nat) (hnn : n ≤ 4096) : ∀ (d k i a b : Nat) (acc : List Int), i + d = n → d < k → acc.length = i → a ≤ e.length → b ≤ o.length → (e.length : Int) - a = cev (s + i) d → (o.length : Int) - b = d - cev (s + i) d →
    extend_Join.l0 k e o s (acc ++ List.replicate d 0) (a : Int) (b : Int) (n : Int) (i : Int) = some (acc ++ ilv (s + i) d (e.drop a) (o.drop b), 0)
  | 0, k, i, a, b, acc, hi, hk, _, _, _, _, _ => by
    obtain ⟨k, rfl, _⟩ := one_more hk
    rw [extend_Join.l0, if_neg (by omega)]
    simp [ilv]
  | d + 1, k, i, a, b, acc, hi, hk, hacc, ha, hb, he, ho => by
    obtain ⟨k, rfl, hk'⟩ := one_more hk
    have hc : (i : Int) + 1 = ((i + 1 : Nat) : Int) := by omega
    simp only [Int.natCast_add, Int.cast_ofNat_Int] at he ho
    have hbd := cev_bd (s := s + i + 1) (n := d) (by omega)
    rw [extend_Join.l0, if_pos (by omega), w64 (n := s + i) (by omega) (by omega), w64 (n := (i : Int) + 1) (by omega) (by omega), w64 (n := (a : Int) + 1) (by omega) (by omega), w64 (n := (b : Int) + 1) (by omega) (by omega)]
    have hlen : ((acc ++ List.replicate (d + 1) 0).length : Int) = i + (d + 1) := by simp [hacc]
    have hset : ∀ y, (acc ++ List.replicate (d + 1) 0).set (i : Int).toNat y = (acc ++ [y]) ++ List.replicate d 0 := by
      intro y; rw [Int.toNat_natCast, ← hacc]; exact set_mid acc 0 y _
    unfold ilv
    by_cases h : (s + i) % 2 = 0
    · rw [cev_even h] at he ho
      have hlt : a < e.length := by omega
      rw [if_pos ((tmod2_zero _).2 h), if_pos (by omega), if_pos (by omega), if_pos (by omega), if_pos (by omega), hset, hc, show (a : Int) + 1 = ((a + 1 : Nat) : Int) by omega,
        Join_l0 e o s hs hn n hnn d k (i + 1) (a + 1) b _ (by omega) (by omega) (by simp [hacc]) (by omega) hb (by simp only [← hc, Int.natCast_add, Int.cast_ofNat_Int, ← Int.add_assoc]; omega) (by simp only [← hc, ← Int.add_assoc]; omega)]
      simp only [if_pos h, ← hc, Int.add_assoc, drop_at hlt, List.headD_cons, List.tail_cons, List.append_assoc, List.singleton_append]
    · rw [cev_odd h] at he ho
      have hlt : b < o.length := by omega
      rw [if_neg (fun hh => h ((tmod2_zero _).1 hh)), if_pos (by omega), if_pos (by omega), if_pos (by omega), if_pos (by omega), hset, hc, show (b : Int) + 1 = ((b + 1 : Nat) : Int) by omega,
        Join_l0 e o s hs hn n hnn d k (i + 1) a (b + 1) _ (by omega) (by omega) (by simp [hacc]) ha (by omega) (by simp only [← hc, ← Int.add_assoc]; omega) (by simp only [← hc, Int.natCast_add, Int.cast_ofNat_Int, ← Int.add_assoc]; omega)]
      simp only [if_neg h, ← hc, Int.add_assoc, drop_at hlt, List.headD_cons, List.tail_cons, List.append_assoc, List.singleton_append]
theorem refJoin_l0 (e o : List Int) (s : Int) (hs : 0 ≤ s ∧ s ≤ 4096) (hn : e.length + o.length ≤ 4096) (n : Nat) (hnn : n ≤ 4096) : ∀ (d k i a b : Nat) (acc : List Int), i + d = n → d < k → acc.length = i → a ≤ e.length → b ≤ o.length → (e.length : Int) - a = cev (s + i) d → (o.length : Int) - b = d - cev (s + i) d →
    waveletref03_Join.l0 k e o s (n : Int) acc (a : Int) (b : Int) (i : Int) = some (acc ++ ilv (s + i) d (e.drop a) (o.drop b), 0)
  | 0, k, i, a, b, acc, hi, hk, _, _, _, _, _ => by
    obtain ⟨k, rfl, _⟩ := one_more hk
    rw [waveletref03_Join.l0, if_neg (by omega)]
    simp [ilv]
  | d + 1, k, i, a, b, acc, hi, hk, hacc, ha, hb, he, ho => by
    obtain ⟨k, rfl, hk'⟩ := one_more hk
    have hc : (i : Int) + 1 = ((i + 1 : Nat) : Int) := by omega
    simp only [Int.natCast_add, Int.cast_ofNat_Int] at he ho
    have hbd := cev_bd (s := s + i + 1) (n := d) (by omega)
    rw [waveletref03_Join.l0, if_pos (by omega), w64 (n := s + i) (by omega) (by omega), w64 (n := (i : Int) + 1) (by omega) (by omega), w64 (n := (a : Int) + 1) (by omega) (by omega), w64 (n := (b : Int) + 1) (by omega) (by omega)]
    unfold ilv
    by_cases h : (s + i) % 2 = 0
    · rw [cev_even h] at he ho
      have hlt : a < e.length := by omega
      rw [if_pos ((tmod2_zero _).2 h), if_pos (by omega), if_pos (by omega), if_pos (by omega), hc, show (a : Int) + 1 = ((a + 1 : Nat) : Int) by omega,
        refJoin_l0 e o s hs hn n hnn d k (i + 1) (a + 1) b _ (by omega) (by omega) (by simp [hacc]) (by omega) hb (by simp only [← hc, Int.natCast_add, Int.cast_ofNat_Int, ← Int.add_assoc]; omega) (by simp only [← hc, ← Int.add_assoc]; omega)]
      simp only [if_pos h, ← hc, Int.add_assoc, drop_at hlt, List.headD_cons, List.tail_cons, List.append_assoc, List.singleton_append]
    · rw [cev_odd h] at he ho
      have hlt : b < o.length := by omega
      rw [if_neg (fun hh => h ((tmod2_zero _).1 hh)), if_pos (by omega), if_pos (by omega), if_pos (by omega), hc, show (b : Int) + 1 = ((b + 1 : Nat) : Int) by omega,
        refJoin_l0 e o s hs hn n hnn d k (i + 1) a (b + 1) _ (by omega) (by omega) (by simp [hacc]) ha (by omega) (by simp only [← hc, ← Int.add_assoc]; omega) (by simp only [← hc, Int.natCast_add, Int.cast_ofNat_Int, ← Int.add_assoc]; omega)]
      simp only [if_neg h, ← hc, Int.add_assoc, drop_at hlt, List.headD_cons, List.tail_cons, List.append_assoc, List.singleton_append]
/-- What Join takes: the place and the lengths; and that the lengths fit. -/
def jok (e o : List Int) (s : Int) : Prop := 0 ≤ s ∧ s ≤ 4096 ∧ e.length + o.length ≤ 4096
instance (e o : List Int) (s : Int) : Decidable (jok e o s) := by unfold jok; infer_instance
def jn (e o : List Int) (s : Int) : List Int × Int :=
  if jok e o s then (if (e.length : Int) = cev s ((e.length : Int) + (o.length : Int)) then (ilv s (e.length + o.length) e o, 0) else ([], 4)) else ([], 2)
theorem cnt_sum {e o : List Int} {s : Int} (h : jok e o s) : cnt s ((e.length : Int) + (o.length : Int)) = (cev s ((e.length : Int) + (o.length : Int)), ((e.length : Int) + (o.length : Int)) - cev s ((e.length : Int) + (o.length : Int))) := by
  obtain ⟨h1, h2, h3⟩ := h
  unfold cnt; rw [if_pos ⟨h1, h2, by omega, by omega⟩]
theorem Join_eq (k : Nat) (e o : List Int) (s : Int) (he : e.length ≤ 4611686018427387904) (hk : e.length + o.length + 4 ≤ k) : extend_Join.f k e o s = some (jn e o s) := by
  obtain ⟨k, rfl, hk1⟩ := one_more hk
  obtain ⟨k, rfl, hk2⟩ := one_more hk1
  obtain ⟨k, rfl, hk3⟩ := one_more hk2
  have hz : extend_Join.j0 (k + 1 + 1 + 1) e o s true = some ([], 2) := by rw [extend_Join.j0, if_pos rfl]
  unfold extend_Join.f jn
  by_cases h : jok e o s
  · rw [if_pos h]
    have hcn := cnt_sum h
    obtain ⟨h1, h2, h3⟩ := h
    have hd : decide ((o.length : Int) > wrap64 (4096 - (e.length : Int))) = false := by rw [w64 (by omega) (by omega)]; simp; omega
    rw [if_neg (by omega), if_neg (by omega), if_neg (by omega), hd, extend_Join.j0, if_neg (by decide), w64 (n := (e.length : Int) + (o.length : Int)) (by omega) (by omega), Counts_eq, hcn]
    simp only [Option.bind_some]
    by_cases hc : (e.length : Int) = cev s ((e.length : Int) + (o.length : Int))
    · have hne : ((((e.length : Int) + (o.length : Int)) - cev s ((e.length : Int) + (o.length : Int))) != (o.length : Int)) = false := by simp; omega
      rw [if_pos hc.symm, if_pos hc, hne, extend_Join.j1, if_neg (by decide), if_pos (by omega), if_pos (by omega)]
      have ht : ((e.length : Int) + (o.length : Int)) = ((e.length + o.length : Nat) : Int) := by omega
      have := Join_l0 e o s ⟨h1, h2⟩ h3 (e.length + o.length) h3 (e.length + o.length) (k + 1) 0 0 0 [] (by omega) (by omega) rfl (by omega) (by omega) (by simpa using hc) (by simp; omega)
      rw [ht, Int.toNat_natCast]
      simpa using this
    · rw [if_neg (fun hh => hc hh.symm), if_neg hc, extend_Join.j1, if_pos rfl]
  · rw [if_neg h]
    by_cases h1 : s < 0
    · rw [if_pos h1, hz]
    · rw [if_neg h1]
      by_cases h2 : s > 4096
      · rw [if_pos h2, hz]
      · rw [if_neg h2]
        by_cases h3 : (e.length : Int) > 4096
        · rw [if_pos h3, hz]
        · rw [if_neg h3, w64 (by omega) (by omega)]
          have hd : decide ((o.length : Int) > 4096 - (e.length : Int)) = true := by
            simp only [decide_eq_true_eq]
            by_cases h4 : (o.length : Int) > 4096 - (e.length : Int)
            · exact h4
            · exact absurd ⟨by omega, by omega, by omega⟩ h
          rw [hd, hz]
theorem refJoin_eq (k : Nat) (e o : List Int) (s : Int) (hk : e.length + o.length + 4 ≤ k) : waveletref03_Join.f k e o s = some (jn e o s) := by
  obtain ⟨k, rfl, hk1⟩ := one_more hk
  obtain ⟨k, rfl, hk2⟩ := one_more hk1
  have hz : waveletref03_Join.j0 (k + 1 + 1) e o s true = some ([], 2) := by rw [waveletref03_Join.j0, if_pos rfl]
  unfold waveletref03_Join.f jn
  by_cases h : jok e o s
  · rw [if_pos h]
    have hcn := cnt_sum h
    obtain ⟨h1, h2, h3⟩ := h
    have hd : decide (wrap64 ((e.length : Int) + (o.length : Int)) > 4096) = false := by rw [w64 (by omega) (by omega)]; simp; omega
    rw [if_neg (by omega), if_neg (by omega), if_neg (by omega), if_neg (by omega), hd, waveletref03_Join.j0, if_neg (by decide), w64 (n := (e.length : Int) + (o.length : Int)) (by omega) (by omega), refCounts_eq, hcn]
    simp only [Option.bind_some]
    by_cases hc : (e.length : Int) = cev s ((e.length : Int) + (o.length : Int))
    · have hne : ((((e.length : Int) + (o.length : Int)) - cev s ((e.length : Int) + (o.length : Int))) != (o.length : Int)) = false := by simp; omega
      rw [if_pos hc.symm, if_pos hc, hne, waveletref03_Join.j1, if_neg (by decide)]
      have ht : ((e.length : Int) + (o.length : Int)) = ((e.length + o.length : Nat) : Int) := by omega
      have := refJoin_l0 e o s ⟨h1, h2⟩ h3 (e.length + o.length) h3 (e.length + o.length) k 0 0 0 [] (by omega) (by omega) rfl (by omega) (by omega) (by simpa using hc) (by simp; omega)
      rw [ht]
      simpa using this
    · rw [if_neg (fun hh => hc hh.symm), if_neg hc, waveletref03_Join.j1, if_pos rfl]
  · rw [if_neg h]
    by_cases h1 : s < 0
    · rw [if_pos h1, hz]
    · rw [if_neg h1]
      by_cases h2 : s > 4096
      · rw [if_pos h2, hz]
      · rw [if_neg h2]
        by_cases h3 : (e.length : Int) > 4096
        · rw [if_pos h3, hz]
        · rw [if_neg h3]
          by_cases h4 : (o.length : Int) > 4096
          · rw [if_pos h4, hz]
          · rw [if_neg h4, w64 (by omega) (by omega)]
            have hd : decide ((e.length : Int) + (o.length : Int) > 4096) = true := by
              simp only [decide_eq_true_eq]
              by_cases h5 : (e.length : Int) + (o.length : Int) > 4096
              · exact h5
              · exact absurd ⟨by omega, by omega, by omega⟩ h
            rw [hd, hz]
theorem refMirror_same (k : Nat) (i lo hi : Int) : waveletref03_Mirror.f (k + 1) i lo hi = extend_Mirror.f (k + 1) i lo hi := by rw [refMirror_eq, Mirror_eq]
theorem At_same (k : Nat) (xs : List Int) (s i : Int) : waveletref03_At.f (k + 1) xs s i = extend_At.f (k + 1) xs s i := by
  unfold waveletref03_At.f extend_At.f
  simp only [ValidIndex_eq, refMirror_same]
/-- A mirrored index lies in the range. -/
theorem mir_in {i lo hi : Int} (h : mok i lo hi) : lo ≤ mir i lo hi ∧ mir i lo hi < hi := by
  unfold mir; rw [if_pos h]
  obtain ⟨h0, _⟩ := h
  by_cases e : hi - lo = 1
  · rw [if_pos e]; omega
  · rw [if_neg e]
    have hp : 0 < 2 * (hi - lo - 1) := by omega
    have hq := Int.emod_nonneg (i - lo) (Int.ne_of_gt hp)
    have hr := Int.emod_lt_of_pos (i - lo) hp
    generalize (i - lo) % (2 * (hi - lo - 1)) = m at hq hr ⊢
    by_cases hg : m ≥ hi - lo
    · rw [if_pos hg]; omega
    · rw [if_neg hg]; omega
/-- At doesn't panic. -/
theorem At_some (k : Nat) (xs : List Int) (s i : Int) (hn : xs.length ≤ 562949953421312) : ∃ r, extend_At.f (k + 1) xs s i = some r := by
  unfold extend_At.f
  by_cases h0 : (xs.length : Int) = 0
  · exact ⟨_, if_pos h0⟩
  · rw [if_neg h0]
    by_cases h1 : -281474976710656 ≤ i ∧ i ≤ 281474976710656
    · rw [inRange_yes h1.1 h1.2]
      by_cases h2 : -281474976710656 ≤ s ∧ s ≤ 281474976710656
      · rw [inRange_yes h2.1 h2.2]
        simp only [Option.bind_some, if_true]
        rw [w64 (n := s + (xs.length : Int)) (by omega) (by omega)]
        by_cases h3 : -281474976710656 ≤ s + (xs.length : Int) ∧ s + (xs.length : Int) ≤ 281474976710656
        · rw [inRange_yes h3.1 h3.2, Mirror_eq]
          simp only [Option.bind_some, if_true]
          have hm := mir_in (i := i) (lo := s) (hi := s + xs.length) ⟨by omega, h1.1, h1.2, h2.1, h2.2, h3.1, h3.2⟩
          rw [w64 (by omega) (by omega), if_pos (by omega), if_pos (by omega)]
          exact ⟨_, rfl⟩
        · rw [inRange_no h3]; exact ⟨_, rfl⟩
      · rw [inRange_no h2]; exact ⟨_, rfl⟩
    · rw [inRange_no h1]; exact ⟨_, rfl⟩
end Go.Proofs.Ytkpmedlliobljaa.E03
