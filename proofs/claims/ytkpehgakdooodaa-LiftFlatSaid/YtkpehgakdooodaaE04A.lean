/- Layer 4 (lift) as plain laws on lists of integers: mirrored reading, the two steps, what they bound, keep and undo. No program in sight. -/
import Derived.Test.YtkpehgakdooodaaAr
import Derived.Test.YtkpehgakdooodaaE04B
set_option linter.unusedVariables false
namespace Go.Proofs.Ytkpehgakdooodaa.E04
open Go.RowKit Go.Proofs.YtkpehgakdooodaaW.PrintWords Go.Proofs.YtkpehgakdooodaaW.PrintMore Go.Proofs.Ytkpehgakdooodaa.Ar Go.Proofs.Ytkpehgakdooodaa.E03
theorem em {x p r : Int} (d : Int) (h : x = r + p * d) (h0 : 0 ≤ r) (h1 : r < p) : x % p = r := by
  rw [h, Int.add_mul_emod_self_left]; exact Int.emod_eq_of_lt h0 h1
/-- The mirrored position in a row of n. -/
def mr (n i : Int) : Int := if i % (2 * (n - 1)) ≥ n then 2 * (n - 1) - i % (2 * (n - 1)) else i % (2 * (n - 1))
theorem mr_in {n : Int} (i : Int) (hn : 2 ≤ n) : 0 ≤ mr n i ∧ mr n i < n := by
  unfold mr
  have h0 := Int.emod_nonneg i (show 2 * (n - 1) ≠ 0 by omega)
  have h1 := Int.emod_lt_of_pos i (show 0 < 2 * (n - 1) by omega)
  generalize i % (2 * (n - 1)) = r at h0 h1
  split <;> omega
theorem mr_id {n i : Int} (h0 : 0 ≤ i) (h1 : i < n) (hn : 2 ≤ n) : mr n i = i := by
  unfold mr
  rw [Int.emod_eq_of_lt h0 (by omega), if_neg (by omega)]
theorem mr_neg {n : Int} (i : Int) (hn : 2 ≤ n) : mr n (-i) = mr n i := by
  unfold mr
  have h0 := Int.emod_nonneg i (show 2 * (n - 1) ≠ 0 by omega)
  have h1 := Int.emod_lt_of_pos i (show 0 < 2 * (n - 1) by omega)
  have h2 := Int.emod_add_mul_ediv i (2 * (n - 1))
  have hp : ∃ p, p = 2 * (n - 1) := ⟨_, rfl⟩
  obtain ⟨p, hp⟩ := hp
  rw [← hp] at h0 h1 h2 ⊢
  by_cases hz : i % p = 0
  · have : (-i) % p = 0 := em (-(i / p)) (by rw [Int.mul_neg]; omega) (by omega) (by omega)
    rw [this, hz]
  · have : (-i) % p = p - i % p := em (-(i / p) - 1) (by rw [Int.mul_sub, Int.mul_neg, Int.mul_one]; omega) (by omega) (by omega)
    rw [this]
    generalize i % p = r at *
    by_cases a : p - r ≥ n <;> by_cases b : r ≥ n <;> simp only [a, b, if_true, if_false] <;> omega
theorem mr_refl {n : Int} (i : Int) (hn : 2 ≤ n) : mr n (2 * (n - 1) - i) = mr n i := by
  rw [← mr_neg i hn]
  unfold mr
  rw [show 2 * (n - 1) - i = 2 * (n - 1) + -i by omega, Int.add_emod_left]
theorem mr_par {n : Int} (i : Int) : mr n i % 2 = i % 2 := by
  unfold mr
  have h2 := Int.emod_add_mul_ediv i (2 * (n - 1))
  rw [Int.mul_assoc] at h2
  generalize i % (2 * (n - 1)) = r at *
  generalize (n - 1) * (i / (2 * (n - 1))) = t at h2
  split <;> omega
/-- The measure of the program's reflecting loop. -/
def ms (i : Int) : Nat := 2 * i.natAbs + (if i < 0 then 1 else 0)
theorem ms_neg {i : Int} (h : i < 0) : ms (-i) < ms i := by unfold ms; rw [if_pos h, if_neg (by omega)]; omega
theorem ms_refl {n i : Int} (hn : 2 ≤ n) (h : n - 1 < i) : ms (2 * (n - 1) - i) < ms i := by
  unfold ms
  rw [if_neg (show ¬ i < 0 by omega)]
  split <;> omega
theorem mr_lip {n : Int} (hn : 2 ≤ n) (j : Int) (hj : 0 ≤ j ∧ j < n) : ∀ (m : Nat) (i : Int), ms i ≤ m → (mr n i - j).natAbs ≤ (i - j).natAbs
  | 0, i, h => by
    have : i = 0 := by unfold ms at h; omega
    subst this
    rw [mr_id (by omega) (by omega) hn]; omega
  | m + 1, i, h => by
    by_cases h0 : i < 0
    · have := mr_lip hn j hj m (-i) (by have := ms_neg h0; omega)
      rw [mr_neg i hn] at this; omega
    · by_cases h1 : n - 1 < i
      · have := mr_lip hn j hj m (2 * (n - 1) - i) (by have := ms_refl hn h1; omega)
        rw [mr_refl i hn] at this; omega
      · rw [mr_id (by omega) (by omega) hn]; omega
theorem mr_near {n : Int} (hn : 2 ≤ n) {j : Int} (hj : 0 ≤ j ∧ j < n) (i : Int) : (mr n i - j).natAbs ≤ (i - j).natAbs := mr_lip hn j hj _ i (Nat.le_refl _)
/-- The sample at a position, mirrored into the row. -/
def at_ (l : List Int) (i : Int) : Int := rd l (mr l.length i)
/-- What is subtracted from an odd sample, and what is added to an even one. -/
def prd (kk : Int) (l : List Int) (i : Int) : Int :=
  if kk = 1 then at_ l (i - 1) else if kk = 2 then (at_ l (i - 1) + at_ l (i + 1)) / 2 else (9 * (at_ l (i - 1) + at_ l (i + 1)) - (at_ l (i - 3) + at_ l (i + 3)) + 8) / 16
def upd (kk : Int) (l : List Int) (i : Int) : Int :=
  if kk = 1 then at_ l (i + 1) / 2 else (at_ l (i - 1) + at_ l (i + 1) + 2) / 4
/-- Each sample at an index of a parity is changed by sg times F. -/
def stp (par sg : Int) (F : List Int → Int → Int) (s : Int) (l : List Int) : List Int :=
  (List.range l.length).map fun (i : Nat) => if (s + (i : Int)) % 2 = par then rd l (i : Int) + sg * F l (i : Int) else rd l (i : Int)
theorem stp_length (par sg : Int) (F : List Int → Int → Int) (s : Int) (l : List Int) : (stp par sg F s l).length = l.length := by simp [stp]
theorem rd_out (l : List Int) (i : Nat) (h : l.length ≤ i) : rd l (i : Int) = 0 := by simp [rd, List.getElem?_eq_none h]
theorem rd_stp (par sg : Int) (F : List Int → Int → Int) (s : Int) (l : List Int) (i : Nat) (h : i < l.length) : rd (stp par sg F s l) (i : Int) = if (s + i) % 2 = par then rd l i + sg * F l i else rd l i := by
  rw [rd_nat _ _ (by rw [stp_length]; exact h)]
  simp [stp]
theorem ext_rd {a b : List Int} (hl : a.length = b.length) (h : ∀ i : Nat, i < a.length → rd a i = rd b i) : a = b := by
  refine List.ext_getElem hl fun i h1 h2 => ?_
  have := h i h1
  rwa [rd_nat _ _ h1, rd_nat _ _ h2] at this
/-- F at an index of the parity reads only samples at the other one. -/
def Far (par s : Int) (F : List Int → Int → Int) : Prop := ∀ (a b : List Int) (i : Int), a.length = b.length → 2 ≤ a.length → (s + i) % 2 = par → (∀ q : Nat, q < a.length → (s + q) % 2 ≠ par → rd a q = rd b q) → F a i = F b i
theorem at_far {a b : List Int} {par s i e : Int} (hl : a.length = b.length) (hn : 2 ≤ a.length) (hp : (s + i) % 2 = par) (he : e % 2 = 1) (h : ∀ q : Nat, q < a.length → (s + q) % 2 ≠ par → rd a q = rd b q) : at_ a (i + e) = at_ b (i + e) := by
  unfold at_
  rw [← hl]
  have h1 := mr_in (n := a.length) (i + e) (by omega)
  have h2 := mr_par (n := a.length) (i + e)
  obtain ⟨q, hq⟩ := Int.eq_ofNat_of_zero_le h1.1
  rw [hq] at h1 h2 ⊢
  exact h q (by omega) (by omega)
theorem prd_far (kk par s : Int) : Far par s (prd kk) := by
  intro a b i hl hn hp h
  have h1 := at_far (e := -1) hl hn hp (by decide) h
  have h2 := at_far (e := 1) hl hn hp (by decide) h
  have h3 := at_far (e := -3) hl hn hp (by decide) h
  have h4 := at_far (e := 3) hl hn hp (by decide) h
  simp only [prd, Int.sub_eq_add_neg] at *
  rw [h1, h2, h3, h4]
theorem upd_far (kk par s : Int) : Far par s (upd kk) := by
  intro a b i hl hn hp h
  have h1 := at_far (e := -1) hl hn hp (by decide) h
  have h2 := at_far (e := 1) hl hn hp (by decide) h
  simp only [upd, Int.sub_eq_add_neg] at *
  rw [h1, h2]
/-- A step undoes the step of the other sign. -/
theorem stp_undo {par sg s : Int} {F : List Int → Int → Int} (hF : Far par s F) (l : List Int) (hn : 2 ≤ l.length) : stp par (-sg) F s (stp par sg F s l) = l := by
  refine ext_rd (by rw [stp_length, stp_length]) fun i hi => ?_
  rw [stp_length, stp_length] at hi
  rw [rd_stp _ _ _ _ _ _ (by rw [stp_length]; exact hi), rd_stp _ _ _ _ _ _ hi]
  by_cases h : (s + i) % 2 = par
  · rw [if_pos h, if_pos h, hF (stp par sg F s l) l i (stp_length ..) (by rw [stp_length]; exact hn) h (fun q hq hne => by rw [stp_length] at hq; rw [rd_stp _ _ _ _ _ _ hq, if_neg hne])]
    rw [Int.neg_mul]; omega
  · rw [if_neg h, if_neg h]
/-- All samples lie within a bound. -/
def Bd (b : Int) (l : List Int) : Prop := ∀ q : Nat, -b ≤ rd l q ∧ rd l q ≤ b
theorem Bd.at {b : Int} {l : List Int} (h : Bd b l) (i : Int) (hn : 2 ≤ l.length) : -b ≤ at_ l i ∧ at_ l i ≤ b := by
  unfold at_
  have h1 := mr_in (n := l.length) i (by omega)
  obtain ⟨q, hq⟩ := Int.eq_ofNat_of_zero_le h1.1
  rw [hq]; exact h q
theorem Bd.mono {b c : Int} {l : List Int} (h : Bd b l) (hc : b ≤ c) : Bd c l := fun q => by have := h q; omega
theorem Bd.of_mem {b : Int} {l : List Int} (h0 : 0 ≤ b) (h : ∀ x ∈ l, -b ≤ x ∧ x ≤ b) : Bd b l := fun q => by
  by_cases hq : q < l.length
  · rw [rd_nat l q hq]; exact h _ (List.getElem_mem hq)
  · rw [rd_out l q (by omega)]; omega
theorem Bd.mem {b : Int} {l : List Int} (h : Bd b l) : ∀ x ∈ l, -b ≤ x ∧ x ≤ b := fun x hx => by
  obtain ⟨q, hq, rfl⟩ := List.getElem_of_mem hx
  have := h q; rwa [rd_nat l q hq] at this
theorem prd_bd {b : Int} (kk : Int) {l : List Int} (h : Bd b l) (h0 : 0 ≤ b) (hn : 2 ≤ l.length) (i : Int) : -(2 * b + 1) ≤ prd kk l i ∧ prd kk l i ≤ 2 * b + 1 := by
  have h1 := h.at (i - 1) hn
  have h2 := h.at (i + 1) hn
  have h3 := h.at (i - 3) hn
  have h4 := h.at (i + 3) hn
  unfold prd
  split
  · omega
  · split <;> omega
theorem upd_bd {b : Int} (kk : Int) {l : List Int} (h : Bd b l) (h0 : 0 ≤ b) (hn : 2 ≤ l.length) (i : Int) : -(b + 1) ≤ upd kk l i ∧ upd kk l i ≤ b + 1 := by
  have h1 := h.at (i - 1) hn
  have h2 := h.at (i + 1) hn
  unfold upd
  split <;> omega
theorem stp_bd {par sg s b f : Int} {F : List Int → Int → Int} {l : List Int} (h : Bd b l) (hf : 0 ≤ f) (hs : sg = 1 ∨ sg = -1) (hF : ∀ i : Nat, i < l.length → -f ≤ F l i ∧ F l i ≤ f) : Bd (b + f) (stp par sg F s l) := fun q => by
  have hb := h q
  by_cases hq : q < l.length
  · rw [rd_stp _ _ _ _ _ _ hq]
    have := hF q hq
    split
    · rcases hs with rfl | rfl <;> omega
    · omega
  · rw [rd_out _ q (by rw [stp_length]; omega)]
    rw [rd_out _ q (by omega)] at hb
    omega
theorem rd_set (c : List Int) (i q : Nat) (v : Int) (hi : i < c.length) : rd (c.set i v) (q : Int) = if q = i then v else rd c q := by
  by_cases hq : q < c.length
  · rw [rd_nat _ _ (by simpa using hq), List.getElem_set, rd_nat _ _ hq]
    by_cases e : q = i
    · rw [if_pos e, if_pos e.symm]
    · rw [if_neg e, if_neg (fun h => e h.symm)]
  · rw [rd_out _ _ (by simpa using hq), if_neg (by omega), rd_out _ _ (by omega)]
theorem stp_val {par sg s : Int} {F : List Int → Int → Int} {l : List Int} (q : Nat) (hq : q < l.length) (hp : (s + q) % 2 = par) : rd (stp par sg F s l) q = rd l q + sg * F l q := by rw [rd_stp _ _ _ _ _ _ hq, if_pos hp]
theorem stp_keep {par sg s : Int} {F : List Int → Int → Int} {l : List Int} (q : Nat) (hp : ¬ (s + q) % 2 = par) : rd (stp par sg F s l) q = rd l q := by
  by_cases hq : q < l.length
  · rw [rd_stp _ _ _ _ _ _ hq, if_neg hp]
  · rw [rd_out _ _ (by rw [stp_length]; omega), rd_out _ _ (by omega)]
/-- A loop's way through a step: the samples behind i are done. -/
theorem way_next {par sg s : Int} {F : List Int → Int → Int} {l c : List Int} {i : Nat} {v : Int} (hc : ∀ q : Nat, rd c q = if q < i then rd (stp par sg F s l) q else rd l q) (hl : c.length = l.length) (hi : i < l.length) (hp : (s + i) % 2 = par) (hv : v = rd l i + sg * F l i) :
    ∀ q : Nat, rd (c.set i v) q = if q < i + 1 then rd (stp par sg F s l) q else rd l q := fun q => by
  rw [rd_set _ _ _ _ (by omega)]
  by_cases e : q = i
  · subst e; rw [if_pos rfl, if_pos (by omega), stp_val q hi hp, hv]
  · rw [if_neg e, hc q]
    by_cases hq : q < i
    · rw [if_pos hq, if_pos (by omega)]
    · rw [if_neg hq, if_neg (by omega)]
theorem way_skip {par sg s : Int} {F : List Int → Int → Int} {l c : List Int} {i : Nat} (hc : ∀ q : Nat, rd c q = if q < i then rd (stp par sg F s l) q else rd l q) (hp : ¬ (s + i) % 2 = par) :
    ∀ q : Nat, rd c q = if q < i + 1 then rd (stp par sg F s l) q else rd l q := fun q => by
  rw [hc q]
  by_cases e : q = i
  · subst e; rw [if_neg (by omega), if_pos (by omega), stp_keep q hp]
  · by_cases hq : q < i
    · rw [if_pos hq, if_pos (by omega)]
    · rw [if_neg hq, if_neg (by omega)]
theorem way_end {par sg s : Int} {F : List Int → Int → Int} {l c : List Int} {i : Nat} (hc : ∀ q : Nat, rd c q = if q < i then rd (stp par sg F s l) q else rd l q) (hl : c.length = l.length) (hi : l.length ≤ i) : c = stp par sg F s l :=
  ext_rd (by rw [stp_length]; exact hl) fun q hq => by rw [hc q, if_pos (by omega)]
/-- All numbers lie within a bound. -/
def fit (b : Int) (l : List Int) : Prop := ∀ x ∈ l, -b ≤ x ∧ x ≤ b
instance (b : Int) (l : List Int) : Decidable (fit b l) := by unfold fit; infer_instance
theorem fit_cons (b x : Int) (l : List Int) : fit b (x :: l) ↔ (-b ≤ x ∧ x ≤ b) ∧ fit b l := by simp [fit]
/-- Both steps of the transform, and of its inverse. -/
def fwd (kk s : Int) (l : List Int) : List Int := stp 0 1 (upd kk) s (stp 1 (-1) (prd kk) s l)
def inv (kk s : Int) (l : List Int) : List Int := stp 1 1 (prd kk) s (stp 0 (-1) (upd kk) s l)
/-- What Forward returns, and what Inverse returns. -/
def fw (l : List Int) (s kk : Int) : List Int × List Int × Int :=
  if ¬ (1 ≤ kk ∧ kk ≤ 3) then ([], [], 3) else if ¬ (0 ≤ s ∧ s ≤ 4096 ∧ l.length ≤ 4096 ∧ fit 281474976710656 l) then ([], [], 2) else
  if l.length > 1 then (evs s (fwd kk s l), ods s (fwd kk s l), 0) else (evs s l, ods s l, 0)
def iv (a b : List Int) (s kk : Int) : List Int × Int :=
  if ¬ (1 ≤ kk ∧ kk ≤ 3) then ([], 3) else if ¬ (0 ≤ s ∧ s ≤ 4096 ∧ a.length + b.length ≤ 4096 ∧ fit 1125899906842624 a ∧ fit 1125899906842624 b) then ([], 2) else
  if (jn a b s).2 = 0 then (if (jn a b s).1.length > 1 then (inv kk s (jn a b s).1, 0) else ((jn a b s).1, 0)) else ([], (jn a b s).2)
theorem ilv_bd {c : Int} (hc : 0 ≤ c) : ∀ (n : Nat) (s : Int) (a b : List Int), fit c a → fit c b → fit c (ilv s n a b)
  | 0, s, a, b, ha, hb => by simp [ilv, fit]
  | n + 1, s, a, b, ha, hb => by
    unfold ilv
    split
    · rw [fit_cons]
      refine ⟨?_, ilv_bd hc n (s + 1) a.tail b (fun x hx => ha x (List.mem_of_mem_tail hx)) hb⟩
      cases a with
      | nil => simp; omega
      | cons x a => exact ha x (by simp)
    · rw [fit_cons]
      refine ⟨?_, ilv_bd hc n (s + 1) a b.tail ha (fun x hx => hb x (List.mem_of_mem_tail hx))⟩
      cases b with
      | nil => simp; omega
      | cons x b => exact hb x (by simp)
theorem jn_ok (a b : List Int) (s : Int) (h : (jn a b s).2 = 0) : jok a b s ∧ (a.length : Int) = cev s ((a.length : Int) + (b.length : Int)) ∧ (jn a b s).1 = ilv s (a.length + b.length) a b := by
  unfold jn at h ⊢
  by_cases h1 : jok a b s
  · rw [if_pos h1] at h ⊢
    by_cases h2 : (a.length : Int) = cev s ((a.length : Int) + (b.length : Int))
    · rw [if_pos h2]; exact ⟨h1, h2, rfl⟩
    · rw [if_neg h2] at h; simp at h
  · rw [if_neg h1] at h; simp at h
theorem jn_err (a b : List Int) (s : Int) (h : ¬ (jn a b s).2 = 0) : (jn a b s).1 = [] := by
  unfold jn at h ⊢
  split at h
  · split at h
    · exact absurd rfl h
    · next h1 h2 => rw [if_pos h1, if_neg h2]
  · next h1 => rw [if_neg h1]
theorem jn_len (a b : List Int) (s : Int) (h : (jn a b s).2 = 0) : (jn a b s).1.length = a.length + b.length := by rw [(jn_ok a b s h).2.2, ilv_length]
theorem jn_bd (a b : List Int) (s : Int) {c : Int} (hc : 0 ≤ c) (ha : fit c a) (hb : fit c b) (h : (jn a b s).2 = 0) : Bd c (jn a b s).1 := by
  rw [(jn_ok a b s h).2.2]
  exact Bd.of_mem hc (ilv_bd hc _ s a b ha hb)
end Go.Proofs.Ytkpehgakdooodaa.E04
