/- The law ExtendReflects over plain numbers: a mirrored index lies in the range, stays where it is when mirrored again, keeps its parity, and is the same for the index reflected about either end; and the chapter's examples hold. No condition beyond the law's own. -/
import Derived.Test.YtkpmedlliobljaaE03
import Derived.Test.YtkpmedlliobljaaPAx6
namespace Go.Proofs.Ytkpmedlliobljaa.Pure
open Go.RowKit Go.Proofs.Ytkpmedlliobljaa.PA Go.Proofs.YtkpmedlliobljaaW.PrintWords Go.Proofs.YtkpmedlliobljaaW.PrintLast Go.Proofs.Ytkpmedlliobljaa.Ar Go.Proofs.Ytkpmedlliobljaa.E03
theorem neg_mod {x p : Int} (hp : 0 < p) : (-x) % p = if x % p = 0 then 0 else p - x % p := by
  have h0 := Int.emod_nonneg x (Int.ne_of_gt hp)
  have h1 := Int.emod_lt_of_pos x hp
  have h2 := Int.emod_add_mul_ediv x p
  by_cases h : x % p = 0
  · rw [if_pos h]
    refine ((Int.ediv_emod_unique (q := -(x / p)) hp).2 ⟨?_, by omega, hp⟩).2
    rw [Int.mul_neg]; omega
  · rw [if_neg h]
    refine ((Int.ediv_emod_unique (q := -(x / p) - 1) hp).2 ⟨?_, by omega, by omega⟩).2
    rw [Int.mul_sub, Int.mul_neg, Int.mul_one]; omega
theorem mir_big {i lo hi : Int} (h : mok i lo hi) (e : ¬ hi - lo = 1) : mir i lo hi = if (i - lo) % (2 * (hi - lo - 1)) ≥ hi - lo then lo + (2 * (hi - lo - 1) - (i - lo) % (2 * (hi - lo - 1))) else lo + (i - lo) % (2 * (hi - lo - 1)) := by
  unfold mir; rw [if_pos h, if_neg e]
theorem mir_one {i lo hi : Int} (h : mok i lo hi) (e : hi - lo = 1) : mir i lo hi = lo := by
  unfold mir; rw [if_pos h, if_pos e]
theorem mir_stays {i lo hi : Int} (h : mok i lo hi) (h1 : lo ≤ i) (h2 : i < hi) : mir i lo hi = i := by
  by_cases e : hi - lo = 1
  · rw [mir_one h e]; omega
  · rw [mir_big h e, Int.emod_eq_of_lt (by omega) (by omega), if_neg (by omega)]; omega
theorem mir_parity {i lo hi : Int} (h : mok i lo hi) (e : 2 ≤ hi - lo) : (i - mir i lo hi) % 2 = 0 := by
  rw [mir_big h (by omega)]
  have h2 : (i - lo) % (2 * (hi - lo - 1)) % 2 = (i - lo) % 2 := Int.emod_emod_of_dvd _ ⟨_, rfl⟩
  generalize (i - lo) % (2 * (hi - lo - 1)) = m at h2 ⊢
  split <;> omega
theorem mir_neg {i i' lo hi : Int} (h : mok i lo hi) (h' : mok i' lo hi) (e : (i' - lo) % (2 * (hi - lo - 1)) = (-(i - lo)) % (2 * (hi - lo - 1))) : mir i' lo hi = mir i lo hi := by
  by_cases e1 : hi - lo = 1
  · rw [mir_one h e1, mir_one h' e1]
  · rw [mir_big h e1, mir_big h' e1, e]
    obtain ⟨h0, _⟩ := h
    have hp : 0 < 2 * (hi - lo - 1) := by omega
    rw [neg_mod hp]
    have hq := Int.emod_nonneg (i - lo) (Int.ne_of_gt hp)
    have hr := Int.emod_lt_of_pos (i - lo) hp
    generalize (i - lo) % (2 * (hi - lo - 1)) = m at hq hr ⊢
    by_cases hm : m = 0
    · rw [if_pos hm]; subst hm; rw [if_neg (by omega)]
    · rw [if_neg hm]
      split <;> split <;> omega
theorem ExtendReflects : waveletlaw03_ExtendReflects.Pure := by
  intro i lo hi _ _ _
  refine ⟨39 + 1 + 1 + 1 + 1, ?_⟩
  have hx : waveletlaw03_ExtendReflects.j0 (39 + 1 + 1 + 1 + 1) i lo hi true = some true := by
    rw [waveletlaw03_ExtendReflects.j0, if_pos rfl, example_holds _ (by omega)]; rfl
  by_cases h : mok i lo hi ∧ -281474976710656 ≤ lo ∧ hi ≤ 281474976710656
  · obtain ⟨hm, h1, h2⟩ := h
    obtain ⟨g0, g1, g2, g3, g4, g5, g6⟩ := id hm
    unfold waveletlaw03_ExtendReflects.f
    rw [if_neg (by omega), if_neg (by omega), if_neg (by omega), if_neg (by omega), decide_eq_false (by omega), waveletlaw03_ExtendReflects.j0, if_neg (by decide), Mirror_eq]
    simp only [Option.bind_some]
    have hj := mir_in hm
    have hmj : mok (mir i lo hi) lo hi := ⟨g0, by omega, by omega, g3, g4, g5, g6⟩
    have hs := mir_stays hmj hj.1 hj.2
    rw [if_neg (by omega), if_neg (by omega), Mirror_eq, hs]
    simp only [Option.bind_some, if_true]
    have h3 : waveletlaw03_ExtendReflects.j3 (39 + 1) lo hi (mir i lo hi) (wrap64 (wrap64 (2 * wrap64 (hi - 1)) - i)) false = some true := by
      rw [waveletlaw03_ExtendReflects.j3, if_neg (by decide), w64 (n := hi - 1) (by omega) (by omega), w64 (n := 2 * (hi - 1)) (by omega) (by omega), w64 (n := 2 * (hi - 1) - i) (by omega) (by omega), example_holds _ (by omega)]
      by_cases a1 : 2 * (hi - 1) - i ≥ -281474976710656
      · rw [if_pos a1]
        by_cases a2 : 2 * (hi - 1) - i ≤ 281474976710656
        · rw [if_pos a2, Mirror_eq, mir_neg hm ⟨g0, a1, a2, g3, g4, g5, g6⟩ (by
            rw [show 2 * (hi - 1) - i - lo = -(i - lo) + 2 * (hi - lo - 1) * 1 by omega, Int.add_mul_emod_self_left])]
          simp
        · rw [if_neg a2]; rfl
      · rw [if_neg a1]; rfl
    have h2' : waveletlaw03_ExtendReflects.j2 (39 + 1 + 1) i lo hi (mir i lo hi) false = some true := by
      rw [waveletlaw03_ExtendReflects.j2, if_neg (by decide), h3, w64 (n := 2 * lo) (by omega) (by omega), w64 (n := 2 * lo - i) (by omega) (by omega)]
      by_cases a1 : 2 * lo - i ≥ -281474976710656
      · rw [if_pos a1]
        by_cases a2 : 2 * lo - i ≤ 281474976710656
        · rw [if_pos a2, Mirror_eq, mir_neg hm ⟨g0, a1, a2, g3, g4, g5, g6⟩ (by rw [show 2 * lo - i - lo = -(i - lo) by omega])]
          simp only [Option.bind_some]
          rw [show (mir i lo hi != mir i lo hi) = false by simp, h3]
        · rw [if_neg a2]
      · rw [if_neg a1]
    have h1' : waveletlaw03_ExtendReflects.j1 (39 + 1 + 1 + 1) i lo hi (mir i lo hi) false = some true := by
      rw [waveletlaw03_ExtendReflects.j1, if_neg (by decide), h2', w64 (n := hi - lo) (by omega) (by omega), w64 (n := i - mir i lo hi) (by omega) (by omega)]
      by_cases a1 : hi - lo ≥ 2
      · rw [if_pos a1]
        have := (tmod2_zero _).2 (mir_parity hm a1)
        rw [this]
        exact h2'
      · rw [if_neg a1]
    by_cases b1 : i ≥ lo
    · rw [if_pos b1]
      by_cases b2 : i < hi
      · rw [if_pos b2]
        have := mir_stays hm b1 b2
        rw [show (mir i lo hi != i) = false by simp [this], h1']
      · rw [if_neg b2, h1']
    · rw [if_neg b1, h1']
  · unfold waveletlaw03_ExtendReflects.f
    by_cases c1 : lo ≥ hi
    · rw [if_pos c1, hx]
    · rw [if_neg c1]
      by_cases c2 : lo < -281474976710656
      · rw [if_pos c2, hx]
      · rw [if_neg c2]
        by_cases c3 : hi > 281474976710656
        · rw [if_pos c3, hx]
        · rw [if_neg c3]
          by_cases c4 : i < -281474976710656
          · rw [if_pos c4, hx]
          · rw [if_neg c4]
            by_cases c5 : i > 281474976710656
            · rw [decide_eq_true c5, hx]
            · exact absurd ⟨⟨by omega, by omega, by omega, by omega, by omega, by omega, by omega⟩, by omega, by omega⟩ h
end Go.Proofs.Ytkpmedlliobljaa.Pure
