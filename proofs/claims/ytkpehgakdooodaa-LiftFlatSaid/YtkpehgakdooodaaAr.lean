/- Plain arithmetic of 64 bits for the proofs of this seat: sums within the bounds do not wrap; Go's quotient and remainder of numbers that are not negative; what a test's branches come to. -/
import Derived.IntWalk
import Derived.Test.YtkpehgakdooodaaWWords
import Derived.Test.YtkpehgakdooodaaWMore
namespace Go.Proofs.Ytkpehgakdooodaa.Ar
open Go.RowKit Go.Proofs.YtkpehgakdooodaaW.PrintWords Go.Proofs.YtkpehgakdooodaaW.PrintMore
theorem w64 {n : Int} (h1 : -9223372036854775808 ≤ n) (h2 : n ≤ 9223372036854775807) : wrap64 n = n := by unfold wrap64; omega
theorem wf64 {n : Int} (h : (Lit.int .i64 n).wf = true) : -9223372036854775808 ≤ n ∧ n ≤ 9223372036854775807 := by
  simp only [Lit.wf, IntKind.min, IntKind.max, IntKind.signed, IntKind.bits, Bool.and_eq_true, decide_eq_true_eq, if_true] at h
  omega
theorem tdivn {a b : Int} (h : 0 ≤ a) : Int.tdiv a b = a / b := Int.tdiv_eq_ediv_of_nonneg h
theorem tmodn {a b : Int} (h : 0 ≤ a) : Int.tmod a b = a % b := Int.tmod_eq_emod_of_nonneg h
/-- Go's remainder, and the divisor added where it is negative: the remainder rounded down. -/
theorem tmod_fix {x p : Int} (hp : 0 < p) : (if Int.tmod x p < 0 then Int.tmod x p + p else Int.tmod x p) = x % p := by
  have h1 := Int.emod_nonneg x (Int.ne_of_gt hp)
  have h2 := Int.emod_lt_of_pos x hp
  rw [Int.tmod_eq_emod]
  by_cases h : 0 ≤ x ∨ p ∣ x
  · rw [if_pos h]
    simp
    omega
  · rw [if_neg h]
    have : ((p.natAbs : Nat) : Int) = p := Int.natAbs_of_nonneg (Int.le_of_lt hp)
    rw [this]
    rw [if_pos (by omega)]
    omega
/-- The remainder by a positive divisor, in bounds. -/
theorem tmod_bd {x p : Int} (hp : 0 < p) : -p < Int.tmod x p ∧ Int.tmod x p < p := by
  have h1 := Int.emod_nonneg x (Int.ne_of_gt hp)
  have h2 := Int.emod_lt_of_pos x hp
  rw [Int.tmod_eq_emod]
  by_cases h : 0 ≤ x ∨ p ∣ x
  · rw [if_pos h]; simp; omega
  · rw [if_neg h]
    have h3 : ((p.natAbs : Nat) : Int) = p := Int.natAbs_of_nonneg (Int.le_of_lt hp)
    rw [h3]
    by_cases h0 : x % p = 0
    · exact absurd (.inr (Int.dvd_of_emod_eq_zero h0)) h
    · omega
theorem tmod2_zero (x : Int) : Int.tmod x 2 = 0 ↔ x % 2 = 0 := by
  rw [Int.tmod_eq_emod]
  by_cases h : 0 ≤ x ∨ (2 : Int) ∣ x
  · rw [if_pos h]; simp
  · rw [if_neg h]
    have h0 : ¬ x % 2 = 0 := fun h0 => h (.inr (Int.dvd_of_emod_eq_zero h0))
    have h1 := Int.emod_nonneg x (b := 2) (by decide)
    have h2 := Int.emod_lt_of_pos x (b := 2) (by decide)
    constructor
    · intro h3; simp at h3; omega
    · intro h3; exact absurd h3 h0
theorem rd_cons_zero (x : Int) (xs : List Int) : rd (x :: xs) 0 = x := rfl
theorem rd_nat (xs : List Int) (i : Nat) (h : i < xs.length) : rd xs (i : Int) = xs[i] := by simp [rd, h]
theorem one_more {k n : Nat} (h : n + 1 ≤ k) : ∃ m, k = m + 1 ∧ n ≤ m := ⟨k - 1, by omega, by omega⟩
theorem dec_iff {p q : Prop} [Decidable p] [Decidable q] (h : p ↔ q) : some (decide p) = some (decide q) := by rw [decide_eq_decide.2 h]
theorem dec_tt {p : Prop} [Decidable p] (h : p) : some true = some (decide p) := by rw [decide_eq_true h]
theorem dec_ff {p : Prop} [Decidable p] (h : ¬ p) : some false = some (decide p) := by rw [decide_eq_false h]
end Go.Proofs.Ytkpehgakdooodaa.Ar
