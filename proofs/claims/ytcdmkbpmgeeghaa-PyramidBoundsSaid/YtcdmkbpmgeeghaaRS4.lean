/- The summaries of these functions are sound. -/
import Derived.Test.YtcdmkbpmgeeghaaRE2
import Derived.Test.YtcdmkbpmgeeghaaRS3
set_option linter.unnecessarySimpa false
set_option linter.unusedVariables false
set_option linter.unusedSimpArgs false
set_option linter.unusedVariables false
set_option linter.unusedSimpArgs false
set_option maxRecDepth 100000
set_option maxHeartbeats 40000000
open Go Go.Rx Go.Proofs
namespace Go.Rx.Ch06
theorem small_d {n : Nat} (h : n ≤ 16777216) : small n = true := by simp only [small, decide_eq_true_eq]; omega
theorem bw_le (a b c d o : Int) (h0 : 0 ≤ o) (h1 : o ≤ 3) : bw a b c d o ≤ 4096 ∧ bh a b c d o ≤ 4096 := by
  have hb := valid_b (valid_bnd (a := a) (b := b) (c := c) (d := d) h0 h1)
  unfold bw bh
  omega
theorem mat_le {n g : Nat} {f : Nat → List Int} (hn : n ≤ 4096) (hg : g ≤ 4096) : (matC n g f).length ≤ 16777216 := by
  rw [matC_len]
  exact Nat.mul_le_mul hn hg
theorem spD_le (a b c d k : Int) (l : List Int) : (spD0 a b c d k l).length ≤ 16777216 ∧ (spD1 a b c d k l).length ≤ 16777216 ∧ (spD2 a b c d k l).length ≤ 16777216 ∧ (spD3 a b c d k l).length ≤ 16777216 := by
  have h0 := bw_le a b c d 0 (by omega) (by omega)
  have h1 := bw_le a b c d 1 (by omega) (by omega)
  have h2 := bw_le a b c d 2 (by omega) (by omega)
  have h3 := bw_le a b c d 3 (by omega) (by omega)
  refine ⟨?_, ?_, ?_, ?_⟩
  · unfold spD0; split
    · exact mat_le h0.2 h0.1
    · simp
  · unfold spD1; split
    · exact mat_le h1.2 h1.1
    · simp
  · unfold spD2; split
    · exact mat_le h2.2 h0.1
    · simp
  · unfold spD3; split
    · exact mat_le h3.2 h1.1
    · simp
theorem anS_small {k : Int} {q : Rc × List Int} (h : small q.2.length = true) : ∀ j, small (anS k j q).2.length = true
  | 0 => h
  | j + 1 => small_d (spD_le ..).1
theorem spDo_small (o : Int) (r : Rc) (k : Int) (l : List Int) : small (spDo o r k l).length = true := by
  have h := spD_le r.1 r.2.1 r.2.2.1 r.2.2.2 k l
  unfold spDo
  split
  · exact small_d h.1
  · split
    · exact small_d h.2.1
    · split
      · exact small_d h.2.2.1
      · exact small_d h.2.2.2
theorem anF_small {a b c d n k : Int} {l : List Int} (h : small l.length = true) : small (anF a b c d n k l).length = true ∧ smAll (anF a b c d n k l) = true := by
  unfold anF
  split
  · rename_i e
    have hn : inr 0 5 n = true := by
      cases hn : inr 0 5 n
      · simp only [anErr, hn] at e
        revert e
        cases plV a b c d l <;> cases inr 1 3 k <;> simp
      · rfl
    have hb := inr_b hn
    constructor
    · rw [List.length_map, List.length_range]; exact small_d (by omega)
    · unfold smAll
      rw [List.all_eq_true]
      intro x hx
      obtain ⟨i, _, rfl⟩ := List.mem_map.1 hx
      unfold anAt
      split
      · exact anS_small (q := ((a, b, c, d), l)) h _
      · exact spDo_small ..
  · exact ⟨rfl, rfl⟩
end Go.Rx.Ch06

set_option linter.unusedVariables false
set_option linter.unusedSimpArgs false
set_option maxRecDepth 100000
set_option maxHeartbeats 40000000
open Go Go.Rx Go.Proofs
namespace Go.Rx.Ch06
theorem mxN_bd {B : Int} {l : List Int} (h0 : 0 ≤ B) (h : fit B l) : ∀ j, (0 ≤ mxN l j ∧ mxN l j ≤ B) ∧ ∀ i, i < j → -mxN l j ≤ gI l i ∧ gI l i ≤ mxN l j
  | 0 => ⟨⟨by unfold mxN; omega, by unfold mxN; omega⟩, fun i hi => by omega⟩
  | j + 1 => by
    have ih := mxN_bd h0 h j
    have hj := gI_fit h0 h j
    have e : mxN l (j + 1) = max (max (mxN l j) (gI l j)) (-gI l j) := rfl
    refine ⟨by omega, fun i hi => ?_⟩
    by_cases hij : i = j
    · subst hij; omega
    · have := ih.2 i (by omega)
      omega
theorem mxN_fit {B : Int} {l : List Int} (h0 : 0 ≤ B) (h : fit B l) : fit (mxN l l.length) l := fun x hx => by
  obtain ⟨i, hi, rfl⟩ := List.getElem_of_mem hx
  have := (mxN_bd h0 h l.length).2 i hi
  simpa [gI, List.getD_eq_getElem?_getD, hi] using this
theorem bnB_b {k b : Int} (hk : inr 1 3 k = true) (h0 : 0 ≤ b ∧ b ≤ 1048576) : ∀ j, j ≤ 5 → 0 ≤ bnB k b j ∧ bnB k b j ≤ 6 ^ j * 1048576
  | 0, _ => by simpa [bnB] using h0
  | j + 1, hj => by
    have ih := bnB_b hk h0 j (by omega)
    have hB : (1 : Int) ≤ 6 ^ j ∧ (6 : Int) ^ j ≤ 1296 := by
      have : ∀ m : Nat, m < 5 → (1 : Int) ≤ 6 ^ m ∧ (6 : Int) ^ m ≤ 1296 := by decide
      exact this j (by omega)
    have e6 : (6 : Int) ^ (j + 1) = 6 ^ j * 6 := rfl
    have q0 := hb_le (b := bnB k b j) (k := k) (by omega) (inr_b hk)
    have q1 := hb_le (b := lb (bnB k b j) k) (k := k) (by omega) (inr_b hk)
    have e : bnB k b (j + 1) = lb (lb (bnB k b j) k) k := rfl
    rw [e, e6]
    omega
theorem anS_fit {k b : Int} {q : Rc × List Int} (hv : plVR q = true) (hk : inr 1 3 k = true) (h0 : 0 ≤ b ∧ b ≤ 1048576) (hf : fit b q.2) : ∀ j, j ≤ 5 → fit (bnB k b j) (anS k j q).2
  | 0, _ => hf
  | j + 1, hj => by
    have ih := anS_fit hv hk h0 hf j (by omega)
    have ok := anS_ok hv hk (fit_mono hf h0.2) j (by omega)
    have hb := bnB_b hk h0 j (by omega)
    have hB : (1 : Int) ≤ 6 ^ j ∧ (6 : Int) ^ j ≤ 1296 := by
      have : ∀ m : Nat, m < 5 → (1 : Int) ≤ 6 ^ m ∧ (6 : Int) ^ m ≤ 1296 := by decide
      exact this j (by omega)
    exact (spD_fit ok.2.2 (by omega) ih).1
theorem anAt_fit {n k b : Int} {q : Rc × List Int} (hn : inr 0 5 n = true) (hv : plVR q = true) (hk : inr 1 3 k = true) (h0 : 0 ≤ b ∧ b ≤ 1048576) (hf : fit b q.2) (i : Nat) (hi : (i : Int) ≤ 3 * n) : fit (bdP b n i k) (anAt n k q i).2 := by
  have hb := inr_b hn
  have hp : plOk i n = true := by
    simp only [plOk, count, hn, if_true, Bool.and_eq_true, decide_eq_true_eq]; omega
  have h1 : decide (0 ≤ b) = true := by rw [decide_eq_true_eq]; omega
  have h2 : decide (b ≤ 1048576) = true := by rw [decide_eq_true_eq]; omega
  unfold bdP
  rw [h1, h2, hp, hk, if_pos (show (true && true && true && true) = true from rfl)]
  unfold anAt
  by_cases hz : i = 0
  · subst hz
    have hp0 : plOk 0 n = true := hp
    have e1 : plLv ((0 : Nat) : Int) n = n := by show plLv 0 n = n; simp [plLv, hp0]
    have e2 : plOr ((0 : Nat) : Int) n = 0 := by show plOr 0 n = 0; simp [plOr]
    rw [if_pos rfl, e1, e2]
    have := anS_fit hv hk h0 hf n.toNat (by omega)
    simpa [bdO, plT] using this
  · have hz' : ¬ (i : Int) = 0 := by omega
    have e1 : plLv i n = n - (i + 2 : Nat) / 3 + 1 := by simp [plLv, hp, hz]
    have e2 : plOr i n = i - 3 * ((i + 2 : Nat) / 3) + 3 := by simp [plOr, hp, hz]
    rw [if_neg hz, if_neg hz', e1, e2, show n - ((i + 2 : Nat) : Int) / 3 + 1 - 1 = n - ((i + 2 : Nat) : Int) / 3 by omega]
    have hj : (n - ((i + 2 : Nat) : Int) / 3).toNat ≤ 4 := by omega
    generalize (n - ((i + 2 : Nat) : Int) / 3).toNat = j at hj ⊢
    have f := anS_fit hv hk h0 hf j (by omega)
    have ok := anS_ok hv hk (fit_mono hf h0.2) j (by omega)
    have hbb := bnB_b hk h0 j (by omega)
    have hB : (1 : Int) ≤ 6 ^ j ∧ (6 : Int) ^ j ≤ 1296 := by
      have : ∀ m : Nat, m < 5 → (1 : Int) ≤ 6 ^ m ∧ (6 : Int) ^ m ≤ 1296 := by decide
      exact this j (by omega)
    have sf := spD_fit ok.2.2 (by omega) f
    have ho : (i : Int) - 3 * (((i + 2 : Nat) : Int) / 3) + 3 = 1 ∨ (i : Int) - 3 * (((i + 2 : Nat) : Int) / 3) + 3 = 2 ∨ (i : Int) - 3 * (((i + 2 : Nat) : Int) / 3) + 3 = 3 := by omega
    rcases ho with ho | ho | ho <;> rw [ho]
    · exact sf.2.1
    · exact sf.2.2.1
    · exact sf.2.2.2
theorem bdAll_at {v : List (Rc × List Int)} {m n1 k : Int} (h : bdAll v m n1 k = true) {j : Nat} (hj : j < v.length) : fitB (bdP m n1 j k) (gN v j).2 = true ∧ (0 ≤ bdP m n1 j k ∧ bdP m n1 j k ≤ 4503599627370496) ∧ small (gN v j).2.length = true := by
  unfold bdAll at h
  rw [List.all_eq_true] at h
  have := h j (List.mem_range.2 hj)
  simp only [Bool.and_eq_true, decide_eq_true_eq] at this
  exact ⟨this.1.1.1, ⟨this.1.1.2, this.1.2⟩, this.2⟩
theorem bdP_b {b n i k : Int} (h0 : 0 ≤ b ∧ b ≤ 1048576) : 0 ≤ bdP b n i k ∧ bdP b n i k ≤ 4503599627370496 := by
  unfold bdP
  split
  · rename_i h
    simp only [Bool.and_eq_true, decide_eq_true_eq] at h
    have hk := h.2
    have pb := pl_b h.1.2
    have hj : (plLv i n - (if i = 0 then 0 else 1)).toNat ≤ 5 := by
      by_cases hi : i = 0
      · have hp0 : plOk 0 n = true := by rw [← hi]; exact h.1.2
        have : plLv i n = n := by rw [hi]; simp [plLv, hp0]
        rw [if_pos hi, this]; omega
      · have := pl_d h.1.2 hi
        rw [if_neg hi]; omega
    generalize (plLv i n - (if i = 0 then 0 else 1)).toNat = j at hj
    have hbn := bnB_b hk h0 j hj
    have hB : (6 : Int) ^ j ≤ 7776 := by
      have : ∀ m : Nat, m < 6 → (6 : Int) ^ m ≤ 7776 := by decide
      exact this j (by omega)
    have q0 := hb_le (b := bnB k b j) (k := k) (by omega) (inr_b hk)
    have q1 := hb_le (b := lb (bnB k b j) k) (k := k) (by omega) (inr_b hk)
    have q2 := hb_le (b := hb (bnB k b j) k) (k := k) (by omega) (inr_b hk)
    unfold bdO
    split
    · omega
    · split
      · omega
      · split <;> omega
  · omega
theorem anErr_s {a b c d n k : Int} {l : List Int} (h : anErr a b c d n k l = 0) : plV a b c d l = true ∧ inr 1 3 k = true ∧ inr 0 5 n = true ∧ fitB 1048576 l = true := by
  cases h1 : plV a b c d l
  · simp [anErr, h1] at h
  cases h2 : inr 1 3 k
  · simp [anErr, h1, h2] at h
  cases h3 : inr 0 5 n
  · simp [anErr, h1, h2, h3] at h
  cases h4 : fitB 1048576 l
  · simp [anErr, h1, h2, h3, h4] at h
  exact ⟨rfl, rfl, rfl, rfl⟩
theorem bd_an {a b c d n k : Int} {l : List Int} (e : anErr a b c d n k l = 0) (hs : small l.length = true) : bdAll (anF a b c d n k l) (mxN l l.length) n k = true := by
  obtain ⟨hv, hk, hn, hq⟩ := anErr_s e
  have hb := inr_b hn
  have hB := (mxN_bd (by omega) (fitB_fit hq) l.length).1
  have hF := mxN_fit (by omega) (fitB_fit hq)
  have sm := (anF_small (a := a) (b := b) (c := c) (d := d) (n := n) (k := k) hs).2
  have el : anF a b c d n k l = (List.range (3 * n + 1).toNat).map (anAt n k ((a, b, c, d), l)) := by unfold anF; rw [if_pos e]
  unfold bdAll
  rw [List.all_eq_true]
  intro j hj
  have hj' := List.mem_range.1 hj
  have hl : (anF a b c d n k l).length = (3 * n + 1).toNat := by rw [el]; simp
  have eg : gN (anF a b c d n k l) j = (anF a b c d n k l)[j] := by simp [gN, List.getD_eq_getElem?_getD, hj']
  have ea : gN (anF a b c d n k l) j = anAt n k ((a, b, c, d), l) j := by
    rw [el]
    have : j < (3 * n + 1).toNat := by omega
    simp [gN, List.getD_eq_getElem?_getD, this]
  have f := anAt_fit (q := ((a, b, c, d), l)) hn hv hk hB hF j (by omega)
  rw [← ea] at f
  have bb := bdP_b (n := n) (i := j) (k := k) hB
  have s1 := smAll_ix sm hj'
  rw [← eg] at s1
  simp only [fit_fitB f, s1, bb.1, bb.2, decide_true, Bool.and_self]
theorem r_PyramidBounds_0 : RoundOk Try.prog t_PyramidBounds (annOf []) l_PyramidBounds Out 20 0 95 [2, 4, 7, 9, 50, 51, 52] (kxOf [2, 4, 7, 9] [6]) (loopOf Try.f6 0) T_PyramidBounds_0 := by
  intro vs bl Kc r h
  unfold T_PyramidBounds_0 at h
  obtain ⟨t, y0', h'⟩ := getD_run h
  obtain ⟨c', vs, rfl, y1'⟩ := pO_s y0'
  obtain ⟨kk, rfl, y2'⟩ := kI_s y1'
  obtain ⟨c', vs, rfl, y3'⟩ := pO_s y2'
  obtain ⟨rfl, y4'⟩ := kP_s y3'
  obtain ⟨c', vs, rfl, y5'⟩ := pO_s y4'
  obtain ⟨rfl, y6'⟩ := kR_s y5'
  obtain ⟨c', vs, rfl, y7'⟩ := pO_s y6'
  obtain ⟨m, rfl, y8'⟩ := kI_s y7'
  obtain ⟨c', vs, rfl, y9'⟩ := pO_s y8'
  obtain ⟨l, rfl, y10'⟩ := kLI_s y9'
  obtain ⟨c', vs, rfl, y11'⟩ := pO_s y10'
  obtain ⟨n, rfl, y12'⟩ := kI_s y11'
  obtain ⟨c', vs, rfl, y13'⟩ := pO_s y12'
  obtain ⟨i, rfl, y14'⟩ := kI_s y13'
  obtain ⟨rfl, y15'⟩ := pE_s y14'
  obtain ⟨q', bl, rfl, y16'⟩ := bB_s y15'
  obtain ⟨c', q', rfl, y17'⟩ := tC_s y16'
  obtain ⟨n0, rfl, y18'⟩ := kI_s y17'
  obtain ⟨c', q', rfl, y19'⟩ := tC_s y18'
  obtain ⟨n1, rfl, y20'⟩ := kI_s y19'
  obtain ⟨c', q', rfl, y21'⟩ := tC_s y20'
  obtain ⟨n2, rfl, y22'⟩ := kI_s y21'
  obtain ⟨rfl, y23'⟩ := tE_s y22'
  obtain ⟨v, bl, rfl, y24'⟩ := bAN_s y23'
  obtain ⟨rfl, y25'⟩ := bE_s y24'
  have yy' := y25'
  cases yy'
  exact (b_PyramidBounds_0 ..).trans ((congrArg (LT.runc · Kc) (tu_PyramidBounds_0 ..)).trans h')
theorem r_PyramidBounds_1 : RoundOk Try.prog t_PyramidBounds (annOf []) l_PyramidBounds Out 20 0 95 [2, 4, 7, 9, 63, 64] (kxOf [] [6]) (loopOf Try.f6 1) T_PyramidBounds_1 := by
  intro vs bl Kc r h
  unfold T_PyramidBounds_1 at h
  obtain ⟨t, y0', h'⟩ := getD_run h
  obtain ⟨c', vs, rfl, y1'⟩ := pO_s y0'
  obtain ⟨kk, rfl, y2'⟩ := kI_s y1'
  obtain ⟨c', vs, rfl, y3'⟩ := pO_s y2'
  obtain ⟨rfl, y4'⟩ := kP_s y3'
  obtain ⟨c', vs, rfl, y5'⟩ := pO_s y4'
  obtain ⟨rfl, y6'⟩ := kR_s y5'
  obtain ⟨c', vs, rfl, y7'⟩ := pO_s y6'
  obtain ⟨m, rfl, y8'⟩ := kI_s y7'
  obtain ⟨c', vs, rfl, y9'⟩ := pO_s y8'
  obtain ⟨n, rfl, y10'⟩ := kI_s y9'
  obtain ⟨c', vs, rfl, y11'⟩ := pO_s y10'
  obtain ⟨i, rfl, y12'⟩ := kI_s y11'
  obtain ⟨rfl, y13'⟩ := pE_s y12'
  obtain ⟨q', bl, rfl, y14'⟩ := bB_s y13'
  obtain ⟨c', q', rfl, y15'⟩ := tC_s y14'
  obtain ⟨n0, rfl, y16'⟩ := kI_s y15'
  obtain ⟨c', q', rfl, y17'⟩ := tC_s y16'
  obtain ⟨n1, rfl, y18'⟩ := kI_s y17'
  obtain ⟨c', q', rfl, y19'⟩ := tC_s y18'
  obtain ⟨n2, rfl, y20'⟩ := kI_s y19'
  obtain ⟨rfl, y21'⟩ := tE_s y20'
  obtain ⟨v, bl, rfl, y22'⟩ := bAN_s y21'
  obtain ⟨rfl, y23'⟩ := bE_s y22'
  have yy' := y23'
  cases yy'
  exact (b_PyramidBounds_1 ..).trans ((congrArg (LT.runc · Kc) (tu_PyramidBounds_1 ..)).trans h')
theorem r_PyramidBounds_2 : RoundOk Try.prog t_PyramidBounds (annOf []) l_PyramidBounds Out 20 0 95 [2, 4, 7, 9, 13, 63, 64, 77, 78, 79] (kxOf [2, 4, 7, 9, 63, 64] [6]) (loopOf Try.f6 2) T_PyramidBounds_2 := by
  intro vs bl Kc r h
  unfold T_PyramidBounds_2 at h
  obtain ⟨t, y0', h'⟩ := getD_run h
  obtain ⟨c', vs, rfl, y1'⟩ := pO_s y0'
  obtain ⟨kk, rfl, y2'⟩ := kI_s y1'
  obtain ⟨c', vs, rfl, y3'⟩ := pO_s y2'
  obtain ⟨rfl, y4'⟩ := kP_s y3'
  obtain ⟨c', vs, rfl, y5'⟩ := pO_s y4'
  obtain ⟨rfl, y6'⟩ := kR_s y5'
  obtain ⟨c', vs, rfl, y7'⟩ := pO_s y6'
  obtain ⟨m, rfl, y8'⟩ := kI_s y7'
  obtain ⟨c', vs, rfl, y9'⟩ := pO_s y8'
  obtain ⟨b, rfl, y10'⟩ := kI_s y9'
  obtain ⟨c', vs, rfl, y11'⟩ := pO_s y10'
  obtain ⟨x1, rfl, y12'⟩ := kI_s y11'
  obtain ⟨c', vs, rfl, y13'⟩ := pO_s y12'
  obtain ⟨x2, rfl, y14'⟩ := kI_s y13'
  obtain ⟨c', vs, rfl, y15'⟩ := pO_s y14'
  obtain ⟨u, rfl, y16'⟩ := kLI_s y15'
  obtain ⟨c', vs, rfl, y17'⟩ := pO_s y16'
  obtain ⟨n, rfl, y18'⟩ := kI_s y17'
  obtain ⟨c', vs, rfl, y19'⟩ := pO_s y18'
  obtain ⟨i, rfl, y20'⟩ := kI_s y19'
  obtain ⟨rfl, y21'⟩ := pE_s y20'
  obtain ⟨q', bl, rfl, y22'⟩ := bB_s y21'
  obtain ⟨c', q', rfl, y23'⟩ := tC_s y22'
  obtain ⟨n0, rfl, y24'⟩ := kI_s y23'
  obtain ⟨c', q', rfl, y25'⟩ := tC_s y24'
  obtain ⟨n1, rfl, y26'⟩ := kI_s y25'
  obtain ⟨c', q', rfl, y27'⟩ := tC_s y26'
  obtain ⟨n2, rfl, y28'⟩ := kI_s y27'
  obtain ⟨rfl, y29'⟩ := tE_s y28'
  obtain ⟨v, bl, rfl, y30'⟩ := bAN_s y29'
  obtain ⟨rfl, y31'⟩ := bE_s y30'
  have yy' := y31'
  cases yy'
  exact (b_PyramidBounds_2 ..).trans ((congrArg (LT.runc · Kc) (tu_PyramidBounds_2 ..)).trans h')
theorem o_PyramidBounds : loopsOf (bodyOf Try.f6) = [loopOf Try.f6 0, loopOf Try.f6 1, loopOf Try.f6 2] := by kernel_rfl
theorem zz_PyramidBounds_0 (n0 n1 n2 kk m n i : Int) (l : List Int) (v : List (Rc × List Int)) (hk : k_PyramidBounds_0 n0 n1 n2 kk m n i l v = true) : ∃ k, ∀ (K : Ex → List V → List (Option Blk) → Option Out) r, (c_PyramidBounds_0 n0 n1 n2 kk m n i l v).run K = some r → (iter T_PyramidBounds_0 k [.one (.int .i64 kk), .one (.ptr 0 0), .one (.row 1), .one (.int .i64 m), .one (.lst (.int .i64) l), .one (.int .i64 n), .one (.int .i64 i)] [some (.box [.int .i64 n0, .int .i64 n1, .int .i64 n2]), some (.arr 33 (.pair (.pair (.int .i64) (.pair (.int .i64) (.pair (.int .i64) (.int .i64)))) (.sl (.int .i64))) v)]).run K = some r := by
  simp only [k_PyramidBounds_0, Bool.and_eq_true, decide_eq_true_eq] at hk
  obtain ⟨⟨⟨⟨rfl, rfl⟩, rfl⟩, hq⟩, hs⟩ := hk
  have hf := fitB_fit hq
  refine Exists.elim (z_fold (T := T_PyramidBounds_0) (st := fun j => ([.one (.int .i64 kk), .one (.ptr 0 0), .one (.row 1), .one (.int .i64 (mxN l j)), .one (.lst (.int .i64) l), .one (.int .i64 (l.length : Int)), .one (.int .i64 (j : Int))], [some (.box [.int .i64 n0, .int .i64 n1, .int .i64 n2]), some (.arr 33 (.pair (.pair (.int .i64) (.pair (.int .i64) (.pair (.int .i64) (.int .i64)))) (.sl (.int .i64))) v)])) l.length (.leaf (.exit 0) [.one (.int .i64 kk), .one (.ptr 0 0), .one (.row 1), .one (.int .i64 (mxN l l.length))] [some (.box [.int .i64 n0, .int .i64 n1, .int .i64 n2]), some (.arr 33 (.pair (.pair (.int .i64) (.pair (.int .i64) (.pair (.int .i64) (.int .i64)))) (.sl (.int .i64))) v)]) (fun j hj F K => ?_) (fun F K => ?_)) (fun k hk => ⟨k, fun K r h => ?_⟩)
  · have hg := gI_fit (by omega) hf j
    simp only [tu_PyramidBounds_0, U_PyramidBounds_0, LT.next, LT.run, ite2_bool, decide_eq_true_eq, Int.toNat_natCast]
    rw [if_pos (by omega), if_pos (by omega), wrap_next hj hs, wrap_in (n := 0 - gI l j) (by omega) (by omega), Int.zero_sub, mx_eq, mx_eq]
    rfl
  · simp only [tu_PyramidBounds_0, U_PyramidBounds_0, LT.next, LT.run, ite2_bool, decide_eq_true_eq]
    rw [if_neg (by omega)]
  · exact hk K r h
theorem z_PyramidBounds_0 : ∀ vs bl t, S_PyramidBounds_0 vs bl = some (true, t) → ∃ n, ∀ (K : Ex → List V → List (Option Blk) → Option Out) r, t.run K = some r → (iter T_PyramidBounds_0 n vs bl).run K = some r := by
  intro vs bl t y0'
  unfold S_PyramidBounds_0 at y0'
  obtain ⟨c', vs, rfl, y1'⟩ := pO_s y0'
  obtain ⟨kk, rfl, y2'⟩ := kI_s y1'
  obtain ⟨c', vs, rfl, y3'⟩ := pO_s y2'
  obtain ⟨rfl, y4'⟩ := kP_s y3'
  obtain ⟨c', vs, rfl, y5'⟩ := pO_s y4'
  obtain ⟨rfl, y6'⟩ := kR_s y5'
  obtain ⟨c', vs, rfl, y7'⟩ := pO_s y6'
  obtain ⟨m, rfl, y8'⟩ := kI_s y7'
  obtain ⟨c', vs, rfl, y9'⟩ := pO_s y8'
  obtain ⟨l, rfl, y10'⟩ := kLI_s y9'
  obtain ⟨c', vs, rfl, y11'⟩ := pO_s y10'
  obtain ⟨n, rfl, y12'⟩ := kI_s y11'
  obtain ⟨c', vs, rfl, y13'⟩ := pO_s y12'
  obtain ⟨i, rfl, y14'⟩ := kI_s y13'
  obtain ⟨rfl, y15'⟩ := pE_s y14'
  obtain ⟨q', bl, rfl, y16'⟩ := bB_s y15'
  obtain ⟨c', q', rfl, y17'⟩ := tC_s y16'
  obtain ⟨n0, rfl, y18'⟩ := kI_s y17'
  obtain ⟨c', q', rfl, y19'⟩ := tC_s y18'
  obtain ⟨n1, rfl, y20'⟩ := kI_s y19'
  obtain ⟨c', q', rfl, y21'⟩ := tC_s y20'
  obtain ⟨n2, rfl, y22'⟩ := kI_s y21'
  obtain ⟨rfl, y23'⟩ := tE_s y22'
  obtain ⟨v, bl, rfl, y24'⟩ := bAN_s y23'
  obtain ⟨rfl, y25'⟩ := bE_s y24'
  have yy' := y25'
  obtain ⟨hk, rfl⟩ := Prod.mk.inj (Option.some.inj yy')
  exact zz_PyramidBounds_0 _ _ _ _ _ _ _ _ _ hk
theorem zz_PyramidBounds_1 (n0 n1 n2 kk m n i : Int) (v : List (Rc × List Int)) (hk : k_PyramidBounds_1 n0 n1 n2 kk m n i v = true) : ∃ k, ∀ (K : Ex → List V → List (Option Blk) → Option Out) r, (c_PyramidBounds_1 n0 n1 n2 kk m n i v).run K = some r → (iter T_PyramidBounds_1 k [.one (.int .i64 kk), .one (.ptr 0 0), .one (.row 1), .one (.int .i64 m), .one (.int .i64 n), .one (.int .i64 i)] [some (.box [.int .i64 n0, .int .i64 n1, .int .i64 n2]), some (.arr 33 (.pair (.pair (.int .i64) (.pair (.int .i64) (.pair (.int .i64) (.int .i64)))) (.sl (.int .i64))) v)]).run K = some r := by
  simp only [k_PyramidBounds_1, Bool.and_eq_true, decide_eq_true_eq] at hk
  obtain ⟨⟨⟨rfl, rfl⟩, hs⟩, hb⟩ := hk
  refine Exists.elim (z_fold (T := T_PyramidBounds_1) (st := fun j => ([.one (.int .i64 kk), .one (.ptr 0 0), .one (.row 1), .one (.int .i64 m), .one (.int .i64 (v.length : Int)), .one (.int .i64 (j : Int))], [some (.box [.int .i64 n0, .int .i64 n1, .int .i64 n2]), some (.arr 33 (.pair (.pair (.int .i64) (.pair (.int .i64) (.pair (.int .i64) (.int .i64)))) (.sl (.int .i64))) v)])) v.length (.leaf (.exit 2) [] []) (fun j hj F K => ?_) (fun F K => ?_)) (fun k hk => ⟨k, fun K r h => ?_⟩)
  · obtain ⟨h1, h2, h3⟩ := bdAll_at hb hj
    simp only [tu_PyramidBounds_1, U_PyramidBounds_1, LT.next, LT.run, ite2_bool, decide_eq_true_eq, Int.toNat_natCast]
    rw [if_pos (by omega), if_pos (by omega), if_pos hj, if_pos (by simp only [k_PyramidBounds_2, h2.1, h2.2, h3, decide_true, Bool.and_self]), if_pos (by unfold p_PyramidBounds_2; exact h1), wrap_next hj hs]
  · simp only [tu_PyramidBounds_1, U_PyramidBounds_1, LT.next, LT.run, ite2_bool, decide_eq_true_eq]
    rw [if_neg (by omega)]
  · exact hk K r h
theorem z_PyramidBounds_1 : ∀ vs bl t, S_PyramidBounds_1 vs bl = some (true, t) → ∃ n, ∀ (K : Ex → List V → List (Option Blk) → Option Out) r, t.run K = some r → (iter T_PyramidBounds_1 n vs bl).run K = some r := by
  intro vs bl t y0'
  unfold S_PyramidBounds_1 at y0'
  obtain ⟨c', vs, rfl, y1'⟩ := pO_s y0'
  obtain ⟨kk, rfl, y2'⟩ := kI_s y1'
  obtain ⟨c', vs, rfl, y3'⟩ := pO_s y2'
  obtain ⟨rfl, y4'⟩ := kP_s y3'
  obtain ⟨c', vs, rfl, y5'⟩ := pO_s y4'
  obtain ⟨rfl, y6'⟩ := kR_s y5'
  obtain ⟨c', vs, rfl, y7'⟩ := pO_s y6'
  obtain ⟨m, rfl, y8'⟩ := kI_s y7'
  obtain ⟨c', vs, rfl, y9'⟩ := pO_s y8'
  obtain ⟨n, rfl, y10'⟩ := kI_s y9'
  obtain ⟨c', vs, rfl, y11'⟩ := pO_s y10'
  obtain ⟨i, rfl, y12'⟩ := kI_s y11'
  obtain ⟨rfl, y13'⟩ := pE_s y12'
  obtain ⟨q', bl, rfl, y14'⟩ := bB_s y13'
  obtain ⟨c', q', rfl, y15'⟩ := tC_s y14'
  obtain ⟨n0, rfl, y16'⟩ := kI_s y15'
  obtain ⟨c', q', rfl, y17'⟩ := tC_s y16'
  obtain ⟨n1, rfl, y18'⟩ := kI_s y17'
  obtain ⟨c', q', rfl, y19'⟩ := tC_s y18'
  obtain ⟨n2, rfl, y20'⟩ := kI_s y19'
  obtain ⟨rfl, y21'⟩ := tE_s y20'
  obtain ⟨v, bl, rfl, y22'⟩ := bAN_s y21'
  obtain ⟨rfl, y23'⟩ := bE_s y22'
  have yy' := y23'
  obtain ⟨hk, rfl⟩ := Prod.mk.inj (Option.some.inj yy')
  exact zz_PyramidBounds_1 _ _ _ _ _ _ _ _ hk
theorem zz_PyramidBounds_2 (n0 n1 n2 kk m b x1 x2 : Int) (u : List Int) (v : List (Rc × List Int)) (hsm : small (u.length) = true) (hc : (decide (0 ≤ b) && decide (b ≤ 4503599627370496)) = true) : ∃ k, ∀ (K : Ex → List V → List (Option Blk) → Option Out) r, (c_PyramidBounds_2 n0 n1 n2 kk m b x1 x2 u v).run K = some r → (iter T_PyramidBounds_2 k [.one (.int .i64 kk), .one (.ptr 0 0), .one (.row 1), .one (.int .i64 m), .one (.int .i64 b), .one (.int .i64 x1), .one (.int .i64 x2), .one (.lst (.int .i64) u), .one (.int .i64 (u.length : Int)), .one (.int .i64 0)] [some (.box [.int .i64 n0, .int .i64 n1, .int .i64 n2]), some (.arr 33 (.pair (.pair (.int .i64) (.pair (.int .i64) (.pair (.int .i64) (.int .i64)))) (.sl (.int .i64))) v)]).run K = some r := by
  refine z_list (st := fun i => ([.one (.int .i64 kk), .one (.ptr 0 0), .one (.row 1), .one (.int .i64 m), .one (.int .i64 b), .one (.int .i64 x1), .one (.int .i64 x2), .one (.lst (.int .i64) u), .one (.int .i64 (u.length : Int)), .one (.int .i64 ((i : Nat) : Int))], [some (.box [.int .i64 n0, .int .i64 n1, .int .i64 n2]), some (.arr 33 (.pair (.pair (.int .i64) (.pair (.int .i64) (.pair (.int .i64) (.int .i64)))) (.sl (.int .i64))) v)])) u 0 (inr (-b) b) _ _ (fun i hi F K => ?_) (fun F K => ?_)
  · have hi' : (i : Int) < (u.length : Int) := by omega
    have hc' := hc
    simp only [Bool.and_eq_true, decide_eq_true_eq] at hc'
    simp only [tu_PyramidBounds_2, U_PyramidBounds_2, LT.next, LT.run, ite2_dec, ite2_bool, wrap_next hi hsm, Int.toNat_natCast, hi', Int.natCast_nonneg, and_self, if_true, gI, gP, gC, gR]
    rw [show (0 : Int) - b = -b by omega, wrap_in (n := -b) (by omega) (by omega)]
    simp only [inr, Bool.and_eq_true, decide_eq_true_eq]
    by_cases h1 : u[i]?.getD 0 < -b
    · have h3 : ¬ -b ≤ u[i]?.getD 0 := by omega
      simp [h1, h3, gI]
    by_cases h2 : b < u[i]?.getD 0
    · have h3 : ¬ u[i]?.getD 0 ≤ b := by omega
      simp [h1, h2, h3, gI]
    have h3 : -b ≤ u[i]?.getD 0 := by omega
    have h4 : u[i]?.getD 0 ≤ b := by omega
    have h5 : ¬ b < u[i]?.getD 0 := by omega
    simp [h1, h3, h4, h5, gI]
  · simp only [tu_PyramidBounds_2, U_PyramidBounds_2, LT.next, LT.run, ite2_dec, Int.lt_irrefl, if_false]
    try rfl
theorem z_PyramidBounds_2 : ∀ vs bl t, S_PyramidBounds_2 vs bl = some (true, t) → ∃ n, ∀ (K : Ex → List V → List (Option Blk) → Option Out) r, t.run K = some r → (iter T_PyramidBounds_2 n vs bl).run K = some r := by
  intro vs bl t y0'
  unfold S_PyramidBounds_2 at y0'
  obtain ⟨c', vs, rfl, y1'⟩ := pO_s y0'
  obtain ⟨kk, rfl, y2'⟩ := kI_s y1'
  obtain ⟨c', vs, rfl, y3'⟩ := pO_s y2'
  obtain ⟨rfl, y4'⟩ := kP_s y3'
  obtain ⟨c', vs, rfl, y5'⟩ := pO_s y4'
  obtain ⟨rfl, y6'⟩ := kR_s y5'
  obtain ⟨c', vs, rfl, y7'⟩ := pO_s y6'
  obtain ⟨m, rfl, y8'⟩ := kI_s y7'
  obtain ⟨c', vs, rfl, y9'⟩ := pO_s y8'
  obtain ⟨b, rfl, y10'⟩ := kI_s y9'
  obtain ⟨c', vs, rfl, y11'⟩ := pO_s y10'
  obtain ⟨x1, rfl, y12'⟩ := kI_s y11'
  obtain ⟨c', vs, rfl, y13'⟩ := pO_s y12'
  obtain ⟨x2, rfl, y14'⟩ := kI_s y13'
  obtain ⟨c', vs, rfl, y15'⟩ := pO_s y14'
  obtain ⟨u, rfl, y16'⟩ := kLI_s y15'
  obtain ⟨c', vs, rfl, y17'⟩ := pO_s y16'
  obtain ⟨n, rfl, y18'⟩ := kI_s y17'
  obtain ⟨c', vs, rfl, y19'⟩ := pO_s y18'
  obtain ⟨i, rfl, y20'⟩ := kI_s y19'
  obtain ⟨rfl, y21'⟩ := pE_s y20'
  obtain ⟨q', bl, rfl, y22'⟩ := bB_s y21'
  obtain ⟨c', q', rfl, y23'⟩ := tC_s y22'
  obtain ⟨n0, rfl, y24'⟩ := kI_s y23'
  obtain ⟨c', q', rfl, y25'⟩ := tC_s y24'
  obtain ⟨n1, rfl, y26'⟩ := kI_s y25'
  obtain ⟨c', q', rfl, y27'⟩ := tC_s y26'
  obtain ⟨n2, rfl, y28'⟩ := kI_s y27'
  obtain ⟨rfl, y29'⟩ := tE_s y28'
  obtain ⟨v, bl, rfl, y30'⟩ := bAN_s y29'
  obtain ⟨rfl, y31'⟩ := bE_s y30'
  have yy' := y31'
  obtain ⟨hk, rfl⟩ := Prod.mk.inj (Option.some.inj yy')
  unfold k_PyramidBounds_2 at hk
  simp only [Bool.and_eq_true, decide_eq_true_eq, and_assoc] at hk
  obtain ⟨rfl, rfl, hsm, hc⟩ := hk
  exact zz_PyramidBounds_2 _ _ _ _ _ _ _ _ _ _ hsm (by first | exact hc | simpa using hc | simpa only [Bool.and_eq_true, decide_eq_true_eq, and_assoc] using hc)
theorem q_PyramidBounds (a b c d : Int) (l : List Int) (n0 n1 n2 k : Int) (hok : ok_PyramidBounds a b c d l n0 n1 n2 k = true) : funR Try.prog t_PyramidBounds (annOf []) l_PyramidBounds 20 Try.f6 [.agg [.int .i64 a, .int .i64 b, .int .i64 c, .int .i64 d, .lst (.int .i64) l], .agg [.int .i64 n0, .int .i64 n1, .int .i64 n2], .one (.int .i64 k)] [] = some ⟨.one (.bool true), [], []⟩ := by
    refine (e_PyramidBounds ..).trans ?_
    simp only [ite2_bool, decide_eq_true_eq, bne_self_eq_false, Bool.false_eq_true, if_false]
    by_cases hl : (l.length : Int) > 4000
    · rw [if_pos hl]
    have hs : small l.length = true := small_d (by omega)
    have ha := anF_small (a := a) (b := b) (c := c) (d := d) (n := n1) (k := k) hs
    rw [if_neg hl, if_pos hs]
    by_cases e : anErr a b c d n1 k l = 0
    rotate_left
    · rw [if_pos (by simpa using e)]
    obtain ⟨hv, hk, hn, hq⟩ := anErr_s e
    rw [if_neg (by simp [e]), if_pos (by simp only [k_PyramidBounds_0, hq, hs, decide_true, Bool.and_self]), if_pos (by simp only [k_PyramidBounds_1, ha.1, bd_an e hs, decide_true, Bool.and_self])]
theorem s_PyramidBounds : SoundFun Try.prog 6 G_PyramidBounds := by
  refine fun_ok (tab := t_PyramidBounds) (ann := annOf []) (lt := l_PyramidBounds) (tab_cons s_awake (tab_cons s_pyr_Analyze (tab_cons s_pyr_Bound (tab_cons s_ref06_Bound tab_nil)))) (by kernel_rfl) (fn := Try.f6) (by kernel_rfl) (by decide) (c := bodyOf Try.f6) (by kernel_rfl) (by
    intro m b hb
    have hb' : b ∈ loopsOf (bodyOf Try.f6) := hb
    rw [o_PyramidBounds] at hb'
    simp only [List.mem_cons, List.not_mem_nil, or_false] at hb'
    rcases hb' with rfl | rfl | rfl
    · exact loop_ok (key := 10) (by kernel_rfl) rfl r_PyramidBounds_0 z_PyramidBounds_0 m
    · exact loop_ok (key := 15) (by kernel_rfl) rfl r_PyramidBounds_1 z_PyramidBounds_1 m
    · exact loop_ok (key := 19) (by kernel_rfl) rfl r_PyramidBounds_2 z_PyramidBounds_2 m
    ) ?_ (keep_nil (by kernel_rfl))
  intro args lent o y0'
  unfold G_PyramidBounds at y0'
  obtain ⟨q', args, rfl, y1'⟩ := pA_s y0'
  obtain ⟨c', q', rfl, y2'⟩ := tC_s y1'
  obtain ⟨a, rfl, y3'⟩ := kI_s y2'
  obtain ⟨c', q', rfl, y4'⟩ := tC_s y3'
  obtain ⟨b, rfl, y5'⟩ := kI_s y4'
  obtain ⟨c', q', rfl, y6'⟩ := tC_s y5'
  obtain ⟨c, rfl, y7'⟩ := kI_s y6'
  obtain ⟨c', q', rfl, y8'⟩ := tC_s y7'
  obtain ⟨d, rfl, y9'⟩ := kI_s y8'
  obtain ⟨c', q', rfl, y10'⟩ := tC_s y9'
  obtain ⟨l, rfl, y11'⟩ := kLI_s y10'
  obtain ⟨rfl, y12'⟩ := tE_s y11'
  obtain ⟨q', args, rfl, y13'⟩ := pA_s y12'
  obtain ⟨c', q', rfl, y14'⟩ := tC_s y13'
  obtain ⟨n0, rfl, y15'⟩ := kI_s y14'
  obtain ⟨c', q', rfl, y16'⟩ := tC_s y15'
  obtain ⟨n1, rfl, y17'⟩ := kI_s y16'
  obtain ⟨c', q', rfl, y18'⟩ := tC_s y17'
  obtain ⟨n2, rfl, y19'⟩ := kI_s y18'
  obtain ⟨rfl, y20'⟩ := tE_s y19'
  obtain ⟨c', args, rfl, y21'⟩ := pO_s y20'
  obtain ⟨k, rfl, y22'⟩ := kI_s y21'
  obtain ⟨rfl, y23'⟩ := pE_s y22'
  obtain ⟨rfl, y24'⟩ := nE_s y23'
  have yy' := y24'
  unfold H_PyramidBounds at yy'
  obtain ⟨hok, rfl⟩ := Prod.mk.inj (Option.some.inj yy')
  exact ⟨20, q_PyramidBounds _ _ _ _ _ _ _ _ _ hok⟩
end Go.Rx.Ch06

set_option linter.unusedVariables false
set_option linter.unusedSimpArgs false
set_option maxRecDepth 100000
set_option maxHeartbeats 40000000
open Go Go.Rx Go.Proofs
namespace Go.Rx.Ch06
end Go.Rx.Ch06

