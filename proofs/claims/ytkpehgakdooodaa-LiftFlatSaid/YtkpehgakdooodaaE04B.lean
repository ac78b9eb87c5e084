/- Layer 3 in closed form, for the seat of chapter 04: what stands in no program (from E03.lean). -/
import Derived.Test.YtkpehgakdooodaaAr
set_option linter.unusedVariables false
namespace Go.Proofs.Ytkpehgakdooodaa.E03
open Go.RowKit Go.Proofs.YtkpehgakdooodaaW.PrintWords Go.Proofs.YtkpehgakdooodaaW.PrintMore Go.Proofs.Ytkpehgakdooodaa.Ar
/-- The arguments that Mirror takes. -/
def mok (i lo hi : Int) : Prop := lo < hi ∧ -281474976710656 ≤ i ∧ i ≤ 281474976710656 ∧ -281474976710656 ≤ lo ∧ lo ≤ 281474976710656 ∧ -281474976710656 ≤ hi ∧ hi ≤ 281474976710656
instance (i lo hi : Int) : Decidable (mok i lo hi) := by unfold mok; infer_instance
/-- The mirrored index. -/
def mir (i lo hi : Int) : Int :=
  if mok i lo hi then (if hi - lo = 1 then lo else if (i - lo) % (2 * (hi - lo - 1)) ≥ hi - lo then lo + (2 * (hi - lo - 1) - (i - lo) % (2 * (hi - lo - 1))) else lo + (i - lo) % (2 * (hi - lo - 1))) else 0
/-- The arguments that Counts takes. -/
def cok (s n : Int) : Prop := 0 ≤ s ∧ s ≤ 4096 ∧ 0 ≤ n ∧ n ≤ 4096
instance (s n : Int) : Decidable (cok s n) := by unfold cok; infer_instance
/-- How many even indices, and how many odd ones. -/
def cev (s n : Int) : Int := (s + n + 1) / 2 - (s + 1) / 2
def cnt (s n : Int) : Int × Int := if cok s n then (cev s n, n - cev s n) else (0, 0)
/-- The samples at even indices, and those at odd ones, of a signal that begins at s. -/
def evs : Int → List Int → List Int
  | _, [] => []
  | s, x :: xs => if s % 2 = 0 then x :: evs (s + 1) xs else evs (s + 1) xs
def ods : Int → List Int → List Int
  | _, [] => []
  | s, x :: xs => if s % 2 = 0 then ods (s + 1) xs else x :: ods (s + 1) xs
/-- n samples from index s on, taken from two lists in turn. -/
def ilv : Int → Nat → List Int → List Int → List Int
  | _, 0, _, _ => []
  | s, n + 1, e, o => if s % 2 = 0 then e.headD 0 :: ilv (s + 1) n e.tail o else o.headD 0 :: ilv (s + 1) n e o.tail
theorem cev_zero (s : Int) : cev s 0 = 0 := by unfold cev; omega
theorem cev_even {s n : Int} (h : s % 2 = 0) : cev s (n + 1) = cev (s + 1) n + 1 := by unfold cev; omega
theorem cev_odd {s n : Int} (h : ¬ s % 2 = 0) : cev s (n + 1) = cev (s + 1) n := by unfold cev; omega
theorem cev_bd {s n : Int} (h : 0 ≤ n) : 0 ≤ cev s n ∧ cev s n ≤ n := by unfold cev; omega
theorem evs_length : ∀ (xs : List Int) (s : Int), ((evs s xs).length : Int) = cev s xs.length
  | [], s => by simp [evs, cev_zero]
  | x :: xs, s => by
    have ih := evs_length xs (s + 1)
    unfold evs
    by_cases h : s % 2 = 0
    · rw [if_pos h]; simp only [List.length_cons, Int.natCast_add, Int.cast_ofNat_Int]; rw [ih, cev_even h]
    · rw [if_neg h]; simp only [List.length_cons, Int.natCast_add, Int.cast_ofNat_Int]; rw [ih, cev_odd h]
theorem ods_length : ∀ (xs : List Int) (s : Int), ((ods s xs).length : Int) = xs.length - cev s xs.length
  | [], s => by simp [ods, cev_zero]
  | x :: xs, s => by
    have ih := ods_length xs (s + 1)
    unfold ods
    by_cases h : s % 2 = 0
    · rw [if_pos h]; simp only [List.length_cons, Int.natCast_add, Int.cast_ofNat_Int]; rw [ih, cev_even h]; omega
    · rw [if_neg h]; simp only [List.length_cons, Int.natCast_add, Int.cast_ofNat_Int]; rw [ih, cev_odd h]; omega
theorem ilv_length : ∀ (n : Nat) (s : Int) (e o : List Int), (ilv s n e o).length = n
  | 0, _, _, _ => rfl
  | n + 1, s, e, o => by unfold ilv; split <;> simp [ilv_length n]
theorem ilv_split : ∀ (xs : List Int) (s : Int), ilv s xs.length (evs s xs) (ods s xs) = xs
  | [], s => rfl
  | x :: xs, s => by
    have ih := ilv_split xs (s + 1)
    simp only [List.length_cons]
    unfold ilv evs ods
    by_cases h : s % 2 = 0
    · simp only [if_pos h, List.headD_cons, List.tail_cons]; rw [ih]
    · simp only [if_neg h, List.headD_cons, List.tail_cons]; rw [ih]
theorem evs_ilv : ∀ (n : Nat) (s : Int) (e o : List Int), (e.length : Int) = cev s n → (o.length : Int) = n - cev s n → evs s (ilv s n e o) = e ∧ ods s (ilv s n e o) = o
  | 0, s, e, o, he, ho => by
    have h0 : cev s ((0 : Nat) : Int) = 0 := cev_zero s
    rw [h0] at he ho
    have : e = [] := List.length_eq_zero_iff.1 (by omega)
    have : o = [] := List.length_eq_zero_iff.1 (by omega)
    subst_vars
    exact ⟨rfl, rfl⟩
  | n + 1, s, e, o, he, ho => by
    simp only [Int.natCast_add, Int.cast_ofNat_Int] at he ho
    have hb := cev_bd (s := s + 1) (n := n) (by omega)
    unfold ilv
    by_cases h : s % 2 = 0
    · rw [cev_even h] at he ho
      cases e with
      | nil => simp at he; omega
      | cons x e =>
        simp only [List.length_cons, Int.natCast_add, Int.cast_ofNat_Int] at he
        have ih := evs_ilv n (s + 1) e o (by omega) (by omega)
        simp only [if_pos h, List.headD_cons, List.tail_cons]
        unfold evs ods
        simp only [if_pos h]
        rw [ih.1, ih.2]; exact ⟨rfl, rfl⟩
    · rw [cev_odd h] at he ho
      cases o with
      | nil => simp at ho; omega
      | cons x o =>
        simp only [List.length_cons, Int.natCast_add, Int.cast_ofNat_Int] at ho
        have ih := evs_ilv n (s + 1) e o (by omega) (by omega)
        simp only [if_neg h, List.headD_cons, List.tail_cons]
        unfold evs ods
        simp only [if_neg h]
        rw [ih.1, ih.2]; exact ⟨rfl, rfl⟩
theorem drop_at {xs : List Int} {i : Nat} (h : i < xs.length) : xs.drop i = rd xs i :: xs.drop (i + 1) := by
  rw [rd_nat xs i h]; exact List.drop_eq_getElem_cons h
/-- What Split takes. -/
def sok (xs : List Int) (s : Int) : Prop := 0 ≤ s ∧ s ≤ 4096 ∧ xs.length ≤ 4096
instance (xs : List Int) (s : Int) : Decidable (sok xs s) := by unfold sok; infer_instance
def spl (xs : List Int) (s : Int) : List Int × List Int × Int := if sok xs s then (evs s xs, ods s xs, 0) else ([], [], 2)
theorem set_mid (acc : List Int) (x y : Int) (r : List Int) : (acc ++ x :: r).set acc.length y = (acc ++ [y]) ++ r := by
  simp [List.set_append_right]
/-- What Join takes: the place and the lengths; and that the lengths fit. -/
def jok (e o : List Int) (s : Int) : Prop := 0 ≤ s ∧ s ≤ 4096 ∧ e.length + o.length ≤ 4096
instance (e o : List Int) (s : Int) : Decidable (jok e o s) := by unfold jok; infer_instance
def jn (e o : List Int) (s : Int) : List Int × Int :=
  if jok e o s then (if (e.length : Int) = cev s ((e.length : Int) + (o.length : Int)) then (ilv s (e.length + o.length) e o, 0) else ([], 4)) else ([], 2)
theorem cnt_sum {e o : List Int} {s : Int} (h : jok e o s) : cnt s ((e.length : Int) + (o.length : Int)) = (cev s ((e.length : Int) + (o.length : Int)), ((e.length : Int) + (o.length : Int)) - cev s ((e.length : Int) + (o.length : Int))) := by
  obtain ⟨h1, h2, h3⟩ := h
  unfold cnt; rw [if_pos ⟨h1, h2, by omega, by omega⟩]
/-- A mirrored index lies in the range. -/
theorem mir_in {i lo hi : Int} (h : mok i lo hi) : lo ≤ mir i lo hi ∧ mir i lo hi < hi := by
  unfold mir; rw [if_pos h]
  obtain ⟨h0, _⟩ := h
  by_cases e : hi - lo = 1
  · rw [if_pos e]; omega
  · rw [if_neg e]
    have hp : 0 < 2 * (hi - lo - 1) := by omega
    have hq := Int.emod_nonneg (i - lo) (Int.ne_of_gt hp)
    have hr := Int.emod_lt_of_pos (i - lo) hp
    generalize (i - lo) % (2 * (hi - lo - 1)) = m at hq hr ⊢
    by_cases hg : m ≥ hi - lo
    · rw [if_pos hg]; omega
    · rw [if_neg hg]; omega
end Go.Proofs.Ytkpehgakdooodaa.E03
