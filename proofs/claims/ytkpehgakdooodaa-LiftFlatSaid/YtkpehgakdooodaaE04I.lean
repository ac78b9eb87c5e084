/- Layer 4 (lift) itself, in closed form. -/
import Derived.Test.YtkpehgakdooodaaE04A
import Derived.Test.YtkpehgakdooodaaE04J
import Derived.Test.YtkpehgakdooodaaPAx1
import Derived.Test.YtkpehgakdooodaaPAx2
import Derived.Test.YtkpehgakdooodaaPAx3
set_option linter.unusedVariables false
namespace Go.Proofs.Ytkpehgakdooodaa.E04
open Go.RowKit Go.Proofs.YtkpehgakdooodaaW.PrintWords Go.Proofs.YtkpehgakdooodaaW.PrintMore Go.Proofs.Ytkpehgakdooodaa.PA Go.Proofs.Ytkpehgakdooodaa.Ar Go.Proofs.Ytkpehgakdooodaa.E03
theorem known_eq (kk : Int) : lift_known.f kk = some (decide (1 ≤ kk ∧ kk ≤ 3)) := by
  unfold lift_known.f
  by_cases h : kk ≥ 1
  · rw [if_pos h]; exact dec_iff ⟨fun x => ⟨h, x⟩, fun x => x.2⟩
  · rw [if_neg h]; exact dec_ff (by omega)
theorem bounded_l0 (b : Int) (hb : 0 ≤ b ∧ b ≤ 1125899906842624) (l : List Int) (hn : l.length ≤ 4611686018427387904) : ∀ (d k i : Nat), i + d = l.length → d < k → lift_bounded.l0 k b l (l.length : Int) (i : Int) = some (decide (fit b (l.drop i)))
  | 0, k, i, h, hk => by
    obtain ⟨m, rfl, _⟩ := one_more (n := 0) (by omega : 0 + 1 ≤ k)
    rw [lift_bounded.l0, if_neg (by omega), List.drop_eq_nil_of_le (by omega)]
    exact dec_tt (by simp [fit])
  | d + 1, k, i, h, hk => by
    obtain ⟨m, rfl, _⟩ := one_more (n := d + 1) (by omega : d + 1 + 1 ≤ k)
    rw [lift_bounded.l0, if_pos (by omega), if_pos (by omega), if_pos (by omega), w64 (n := -b) (by omega) (by omega), w64 (n := (i : Int) + 1) (by omega) (by omega), drop_at (by omega)]
    have ih := bounded_l0 b hb l hn d m (i + 1) (by omega) (by omega)
    simp only [Int.natCast_add, Int.cast_ofNat_Int] at ih
    by_cases h1 : rd l i < -b
    · rw [if_pos h1]; exact dec_ff (by rw [fit_cons]; omega)
    · rw [if_neg h1]
      by_cases h2 : rd l i > b
      · rw [if_pos h2]; exact dec_ff (by rw [fit_cons]; omega)
      · rw [if_neg h2, ih]; exact dec_iff (by rw [fit_cons]; exact ⟨fun x => ⟨⟨by omega, by omega⟩, x⟩, fun x => x.2⟩)
theorem bounded_eq (k : Nat) (b : Int) (hb : 0 ≤ b ∧ b ≤ 1125899906842624) (l : List Int) (hn : l.length ≤ 4611686018427387904) (hk : l.length < k) : lift_bounded.f k l b = some (decide (fit b l)) := by
  unfold lift_bounded.f
  have := bounded_l0 b hb l hn l.length k 0 (by omega) hk
  simpa using this
theorem line_at_l0 (l : List Int) (s : Int) (hn : 2 ≤ l.length ∧ l.length ≤ 4096) : ∀ (m k : Nat) (i : Int), ms i ≤ m → i.natAbs ≤ 10000 → 2 * m + 2 ≤ k → lift_line_at.l0 k i ((l.length : Int) - 1) l s = some (at_ l i)
  | m, k, i, hm, hi, hk => by
    obtain ⟨k1, rfl, h1⟩ := one_more (n := 2 * m + 1) hk
    obtain ⟨k2, rfl, h2⟩ := one_more (n := 2 * m) h1
    rw [lift_line_at.l0]
    by_cases h0 : i < 0
    · have hd := ms_neg h0
      obtain ⟨m', rfl, hm'⟩ := one_more (k := m) (n := 0) (by omega)
      rw [if_pos h0, lift_line_at.j1, if_pos rfl, if_pos h0, w64 (by omega) (by omega), line_at_l0 l s hn m' k2 (-i) (by omega) (by omega) (by omega)]
      unfold at_; rw [mr_neg i (by omega)]
    · rw [if_neg h0]
      by_cases h3 : i > (l.length : Int) - 1
      · have hd := ms_refl (n := l.length) (i := i) (by omega) (by omega)
        obtain ⟨m', rfl, hm'⟩ := one_more (k := m) (n := 0) (by omega)
        rw [decide_eq_true h3, lift_line_at.j1, if_pos rfl, if_neg h0, w64 (n := 2 * ((l.length : Int) - 1)) (by omega) (by omega), w64 (by omega) (by omega), line_at_l0 l s hn m' k2 _ (by omega) (by omega) (by omega)]
        unfold at_; rw [mr_refl i (by omega)]
      · rw [decide_eq_false h3, lift_line_at.j1, if_neg (by decide), if_pos (by omega), if_pos (by omega)]
        unfold at_; rw [mr_id (by omega) (by omega) (by omega)]
theorem line_at (k : Nat) (l : List Int) (s i : Int) (hn : 2 ≤ l.length ∧ l.length ≤ 4096) (hi : i.natAbs ≤ 4200) (hk : 17000 ≤ k) : lift_line_at.f k l s i = some (at_ l i) := by
  unfold lift_line_at.f
  rw [w64 (n := (l.length : Int) - 1) (by omega) (by omega)]
  exact line_at_l0 l s hn (ms i) k i (Nat.le_refl _) (by omega) (by unfold ms; split <;> omega)
def pf (kk : Int) : Int := if kk = 1 then 38 else if kk = 2 then 40 else 41
def uf (kk : Int) : Int := if kk = 1 then 42 else 43
theorem fn_predict (kk : Int) (k : Nat) (l : List Int) (s i : Int) (hn : 2 ≤ l.length ∧ l.length ≤ 4096) (hb : Bd 36028797018963968 l) (hi : 0 ≤ i ∧ i < l.length) (hk : 17000 ≤ k) : lift_fn.f k l s (pf kk) i = some (prd kk l i) := by
  have h1 := hb.at (i - 1) hn.1
  have h2 := hb.at (i + 1) hn.1
  have h3 := hb.at (i - 3) hn.1
  have h4 := hb.at (i + 3) hn.1
  have e1 := line_at k l s (i - 1) hn (by omega) hk
  have e2 := line_at k l s (i + 1) hn (by omega) hk
  have e3 := line_at k l s (i - 3) hn (by omega) hk
  have e4 := line_at k l s (i + 3) hn (by omega) hk
  unfold pf prd
  by_cases a : kk = 1
  · rw [if_pos a, if_pos a]; unfold lift_fn.f; rw [if_pos rfl]; unfold lift_line_predict_1.f
    rw [w64 (n := i - 1) (by omega) (by omega), e1]; rfl
  · rw [if_neg a, if_neg a]
    by_cases b : kk = 2
    · rw [if_pos b, if_pos b]; unfold lift_fn.f; rw [if_neg (by decide), if_pos rfl]; unfold lift_line_predict_2.f
      rw [w64 (n := i - 1) (by omega) (by omega), w64 (n := i + 1) (by omega) (by omega), e1, e2]
      simp only [Option.bind_some]; rw [w64 (by omega) (by omega)]
    · rw [if_neg b, if_neg b]; unfold lift_fn.f; rw [if_neg (by decide), if_neg (by decide), if_pos rfl]; unfold lift_line_predict_3.f
      rw [w64 (n := i - 1) (by omega) (by omega), w64 (n := i + 1) (by omega) (by omega), w64 (n := i - 3) (by omega) (by omega), w64 (n := i + 3) (by omega) (by omega), e1, e2, e3, e4]
      simp only [Option.bind_some]
      rw [w64 (n := at_ l (i - 1) + at_ l (i + 1)) (by omega) (by omega), w64 (n := 9 * (at_ l (i - 1) + at_ l (i + 1))) (by omega) (by omega), w64 (n := at_ l (i - 3) + at_ l (i + 3)) (by omega) (by omega), w64 (n := 9 * (at_ l (i - 1) + at_ l (i + 1)) - (at_ l (i - 3) + at_ l (i + 3))) (by omega) (by omega), w64 (by omega) (by omega)]
theorem fn_update (kk : Int) (k : Nat) (l : List Int) (s i : Int) (hn : 2 ≤ l.length ∧ l.length ≤ 4096) (hb : Bd 36028797018963968 l) (hi : 0 ≤ i ∧ i < l.length) (hk : 17000 ≤ k) : lift_fn.f k l s (uf kk) i = some (upd kk l i) := by
  have h1 := hb.at (i - 1) hn.1
  have h2 := hb.at (i + 1) hn.1
  have e1 := line_at k l s (i - 1) hn (by omega) hk
  have e2 := line_at k l s (i + 1) hn (by omega) hk
  unfold uf upd
  by_cases a : kk = 1
  · rw [if_pos a, if_pos a]; unfold lift_fn.f; rw [if_neg (by decide), if_neg (by decide), if_neg (by decide), if_pos rfl]; unfold lift_line_update_1.f
    rw [w64 (n := i + 1) (by omega) (by omega), e2]; rfl
  · rw [if_neg a, if_neg a]; unfold lift_fn.f; rw [if_neg (by decide), if_neg (by decide), if_neg (by decide), if_neg (by decide), if_pos rfl]; unfold lift_line_update_2.f
    rw [w64 (n := i - 1) (by omega) (by omega), w64 (n := i + 1) (by omega) (by omega), e1, e2]
    simp only [Option.bind_some]
    rw [w64 (n := at_ l (i - 1) + at_ l (i + 1)) (by omega) (by omega), w64 (by omega) (by omega)]
theorem step_l0 (K : Nat) (l : List Int) (s par sg a b f : Int) (F : List Int → Int → Int) (hs : 0 ≤ s ∧ s ≤ 4096) (hn : 2 ≤ l.length ∧ l.length ≤ 4096) (hsg : sg = 1 ∨ sg = -1) (hF : Far par s F)
    (hcall : ∀ (c : List Int) (i : Int) (k : Nat), c.length = l.length → Bd 36028797018963968 c → 0 ≤ i ∧ i < l.length → K ≤ k → lift_fn.f k c s a i = some (F c i))
    (hB : Bd b l) (hf : 0 ≤ f) (hFb : ∀ i : Nat, i < l.length → -f ≤ F l i ∧ F l i ≤ f) (hbf : b + f ≤ 36028797018963968) :
    ∀ (d k i : Nat) (c : List Int), i + d = l.length → d + K + 1 ≤ k → c.length = l.length → (∀ q : Nat, rd c q = if q < i then rd (stp par sg F s l) q else rd l q) → lift_line_step.l0 k par sg a (l.length : Int) (i : Int) c s = some (stp par sg F s l) := by
  intro d
  induction d with
  | zero =>
    intro k i c h hk hl hc
    obtain ⟨m, rfl, _⟩ := one_more (n := 0) (by omega : 0 + 1 ≤ k)
    rw [lift_line_step.l0, if_neg (by omega)]
    rw [ext_rd (a := c) (b := stp par sg F s l) (by rw [stp_length]; exact hl) fun q hq => by rw [hc q, if_pos (by omega)]]
  | succ d IH =>
    intro k i c h hk hl hc
    obtain ⟨m, rfl, _⟩ := one_more (n := d + K + 1) (by omega : d + K + 1 + 1 ≤ k)
    have hci : rd c i = rd l i := by rw [hc i, if_neg (by omega)]
    have hbl := hB i
    have hst := stp_bd (sg := sg) (par := par) (s := s) hB hf hsg hFb
    rw [lift_line_step.l0, if_pos (by omega), w64 (n := s + (i : Int)) (by omega) (by omega), tmodn (by omega), w64 (n := (i : Int) + 1) (by omega) (by omega)]
    by_cases hp : (s + (i : Int)) % 2 = par
    · have hBc : Bd 36028797018963968 c := fun q => by
        rw [hc q]
        have h1 := hB q
        have h2 := hst q
        split <;> omega
      have hcF : F c i = F l i := hF c l i hl (by omega) hp fun q hq hne => by
        rw [hc q]
        split
        · exact stp_keep q hne
        · rfl
      have hv := hFb i (by omega)
      have hsv : sg * F l i = F l i ∨ sg * F l i = -F l i := by rcases hsg with rfl | rfl <;> omega
      rw [if_pos hp, if_pos (by omega), if_pos (by omega), hcall c i m hl hBc ⟨by omega, by omega⟩ (by omega)]
      simp only [Option.bind_some, Int.toNat_natCast]
      rw [hcF, hci, w64 (n := sg * F l i) (by omega) (by omega), w64 (by omega) (by omega)]
      have ih := IH m (i + 1) (c.set i (rd l i + sg * F l i)) (by omega) (by omega) (by simpa using hl) (fun q => by
        rw [rd_set _ _ _ _ (by omega)]
        by_cases e : q = i
        · subst e; rw [if_pos rfl, if_pos (by omega), stp_val q (by omega) hp]
        · rw [if_neg e, hc q]
          by_cases hq : q < i
          · rw [if_pos hq, if_pos (by omega)]
          · rw [if_neg hq, if_neg (by omega)])
      simpa using ih
    · rw [if_neg hp]
      have ih := IH m (i + 1) c (by omega) (by omega) hl (fun q => by
        rw [hc q]
        by_cases e : q = i
        · subst e; rw [if_neg (by omega), if_pos (by omega), stp_keep q hp]
        · by_cases hq : q < i
          · rw [if_pos hq, if_pos (by omega)]
          · rw [if_neg hq, if_neg (by omega)])
      simpa using ih
theorem step_eq (k : Nat) (l : List Int) (s par sg a b f : Int) (F : List Int → Int → Int) (hs : 0 ≤ s ∧ s ≤ 4096) (hn : 2 ≤ l.length ∧ l.length ≤ 4096) (hsg : sg = 1 ∨ sg = -1) (hF : Far par s F)
    (hcall : ∀ (c : List Int) (i : Int) (k : Nat), c.length = l.length → Bd 36028797018963968 c → 0 ≤ i ∧ i < l.length → 17000 ≤ k → lift_fn.f k c s a i = some (F c i))
    (hB : Bd b l) (hf : 0 ≤ f) (hFb : ∀ i : Nat, i < l.length → -f ≤ F l i ∧ F l i ≤ f) (hbf : b + f ≤ 36028797018963968) (hk : 22000 ≤ k) : lift_line_step.f k l s par sg a = some (stp par sg F s l) := by
  unfold lift_line_step.f
  exact step_l0 17000 l s par sg a b f F hs hn hsg hF hcall hB hf hFb hbf l.length k 0 l (by omega) (by omega) rfl (fun q => by rw [if_neg (by omega)])
theorem step_predict (k : Nat) (kk : Int) (l : List Int) (s sg b : Int) (hs : 0 ≤ s ∧ s ≤ 4096) (hn : 2 ≤ l.length ∧ l.length ≤ 4096) (hsg : sg = 1 ∨ sg = -1) (hB : Bd b l) (h0 : 0 ≤ b) (hbf : b ≤ 11000000000000000) (hk : 22000 ≤ k) : lift_line_step.f k l s 1 sg (pf kk) = some (stp 1 sg (prd kk) s l) :=
  step_eq k l s 1 sg (pf kk) b (2 * b + 1) (prd kk) hs hn hsg (prd_far kk 1 s) (fun c i k' hc hb hi hk' => fn_predict kk k' c s i (by omega) hb (by omega) hk') hB (by omega) (fun i _ => prd_bd kk hB h0 hn.1 i) (by omega) hk
theorem step_update (k : Nat) (kk : Int) (l : List Int) (s sg b : Int) (hs : 0 ≤ s ∧ s ≤ 4096) (hn : 2 ≤ l.length ∧ l.length ≤ 4096) (hsg : sg = 1 ∨ sg = -1) (hB : Bd b l) (h0 : 0 ≤ b) (hbf : b ≤ 11000000000000000) (hk : 22000 ≤ k) : lift_line_step.f k l s 0 sg (uf kk) = some (stp 0 sg (upd kk) s l) :=
  step_eq k l s 0 sg (uf kk) b (b + 1) (upd kk) hs hn hsg (upd_far kk 0 s) (fun c i k' hc hb hi hk' => fn_update kk k' c s i (by omega) hb (by omega) hk') hB (by omega) (fun i _ => upd_bd kk hB h0 hn.1 i) (by omega) hk
end Go.Proofs.Ytkpehgakdooodaa.E04
