/- The reference's Forward and Inverse in closed form. -/
import Derived.Test.YtkpehgakdooodaaE04R
import Derived.Test.YtkpehgakdooodaaPAx14
import Derived.Test.YtkpehgakdooodaaPAx17
set_option linter.unusedVariables false
namespace Go.Proofs.Ytkpehgakdooodaa.E04
open Go.RowKit Go.Proofs.YtkpehgakdooodaaW.PrintWords Go.Proofs.YtkpehgakdooodaaW.PrintMore Go.Proofs.Ytkpehgakdooodaa.PA Go.Proofs.Ytkpehgakdooodaa.Ar Go.Proofs.Ytkpehgakdooodaa.E03
theorem rF_l1 (K : Nat) (kk s b : Int) (z : List Int) (hs : 0 ≤ s ∧ s ≤ 4096) (hn : 2 ≤ z.length ∧ z.length ≤ 4096) (hK : z.length + 10 ≤ K) (hB : Bd b z) (h0 : 0 ≤ b) (hb : b ≤ 11000000000000000) :
    ∀ (d k i : Nat) (c : List Int), i + d = z.length → d + K ≤ k → c.length = z.length → (∀ q : Nat, rd c q = if q < i then rd (stp 0 1 (upd kk) s z) q else rd z q) →
      waveletref04_Forward.l1 k s kk c z (z.length : Int) (i : Int) = some (evs s (stp 0 1 (upd kk) s z), ods s (stp 0 1 (upd kk) s z), 0) := by
  intro d
  induction d with
  | zero =>
    intro k i c h hk hl hc
    obtain ⟨m, rfl, _⟩ := one_more (n := z.length + 9) (by omega : z.length + 9 + 1 ≤ k)
    rw [waveletref04_Forward.l1, if_neg (by omega), way_end hc hl (by omega), refSplit_eq _ _ _ (by rw [stp_length]; omega)]
    simp only [Option.bind_some]
    unfold spl; rw [if_pos ⟨by omega, by omega, by rw [stp_length]; omega⟩]
  | succ d IH =>
    intro k i c h hk hl hc
    obtain ⟨m, rfl, _⟩ := one_more (n := d + K) (by omega : d + K + 1 ≤ k)
    obtain ⟨m', rfl, _⟩ := one_more (n := 0) (by omega : 0 + 1 ≤ m)
    have hci : rd c i = rd z i := by rw [hc i, if_neg (by omega)]
    have hbl := hB i
    rw [waveletref04_Forward.l1, if_pos (by omega), w64 (n := s + (i : Int)) (by omega) (by omega), tmodn (by omega), w64 (n := (i : Int) + 1) (by omega) (by omega)]
    by_cases hp : (s + (i : Int)) % 2 = 0
    · have hv := upd_bd kk hB h0 hn.1 i
      rw [if_pos hp, if_pos (by omega), if_pos (by omega), ref_update kk m' z s i hn hs (hB.mono (by omega)) ⟨by omega, by omega⟩]
      simp only [Option.bind_some, Int.toNat_natCast]
      rw [hci, w64 (n := rd z i + upd kk z i) (by omega) (by omega)]
      simpa using IH (m' + 1) (i + 1) _ (by omega) (by omega) (by simpa using hl) (way_next hc hl (by omega) hp (v := rd z i + upd kk z i) (by omega))
    · rw [if_neg hp]
      simpa using IH (m' + 1) (i + 1) c (by omega) (by omega) hl (way_skip hc hp)
theorem rF_l0 (K : Nat) (kk s b : Int) (z : List Int) (hs : 0 ≤ s ∧ s ≤ 4096) (hn : 2 ≤ z.length ∧ z.length ≤ 4096) (hK : z.length + z.length + 30 ≤ K) (hB : Bd b z) (h0 : 0 ≤ b) (hb : b ≤ 3000000000000000) :
    ∀ (d k i : Nat) (c : List Int), i + d = z.length → d + K ≤ k → c.length = z.length → (∀ q : Nat, rd c q = if q < i then rd (stp 1 (-1) (prd kk) s z) q else rd z q) →
      waveletref04_Forward.l0 k z s kk c (z.length : Int) (i : Int) = some (evs s (fwd kk s z), ods s (fwd kk s z), 0) := by
  intro d
  induction d with
  | zero =>
    intro k i c h hk hl hc
    obtain ⟨m, rfl, _⟩ := one_more (n := z.length + z.length + 29) (by omega : z.length + z.length + 29 + 1 ≤ k)
    rw [waveletref04_Forward.l0, if_neg (by omega), way_end hc hl (by omega)]
    have hl2 := stp_length 1 (-1) (prd kk) s z
    have hb2 := stp_bd (par := 1) (s := s) (sg := -1) hB (by omega) (.inr rfl) (fun i _ => prd_bd kk hB h0 hn.1 i)
    simp only [Option.bind_some, List.nil_append, List.length_nil]
    rw [if_pos (by omega)]
    exact rF_l1 (z.length + 10) kk s _ (stp 1 (-1) (prd kk) s z) hs (by rw [hl2]; exact hn) (by omega) hb2 (by omega) (by omega) (stp 1 (-1) (prd kk) s z).length m 0 _ (by omega) (by omega) rfl (fun q => by rw [if_neg (by omega)])
  | succ d IH =>
    intro k i c h hk hl hc
    obtain ⟨m, rfl, _⟩ := one_more (n := d + K) (by omega : d + K + 1 ≤ k)
    obtain ⟨m', rfl, _⟩ := one_more (n := 0) (by omega : 0 + 1 ≤ m)
    have hci : rd c i = rd z i := by rw [hc i, if_neg (by omega)]
    have hbl := hB i
    rw [waveletref04_Forward.l0, if_pos (by omega), w64 (n := s + (i : Int)) (by omega) (by omega), tmodn (by omega), w64 (n := (i : Int) + 1) (by omega) (by omega)]
    by_cases hp : (s + (i : Int)) % 2 = 1
    · have hv := prd_bd kk hB h0 hn.1 i
      rw [if_pos hp, if_pos (by omega), if_pos (by omega), ref_predict kk m' z s i hn hs (hB.mono (by omega)) ⟨by omega, by omega⟩]
      simp only [Option.bind_some, Int.toNat_natCast]
      rw [hci, w64 (n := rd z i - prd kk z i) (by omega) (by omega)]
      simpa using IH (m' + 1) (i + 1) _ (by omega) (by omega) (by simpa using hl) (way_next hc hl (by omega) hp (v := rd z i - prd kk z i) (by omega))
    · rw [if_neg hp]
      simpa using IH (m' + 1) (i + 1) c (by omega) (by omega) hl (way_skip hc hp)
theorem refForward_eq (k : Nat) (l : List Int) (s kk : Int) (hk : 30000 ≤ k) : waveletref04_Forward.f k l s kk = some (fw l s kk) := by
  obtain ⟨m, rfl, hm⟩ := one_more (n := 29999) hk
  have hj : waveletref04_Forward.j0 (m + 1) l s kk true = some ([], [], 2) := by rw [waveletref04_Forward.j0, if_pos rfl]
  unfold waveletref04_Forward.f fw
  rw [valid_eq]
  simp only [Option.bind_some, decide_eq_true_eq]
  by_cases h0 : 1 ≤ kk ∧ kk ≤ 3
  · rw [if_neg (not_not_intro h0), if_pos h0]
    by_cases h1 : s < 0
    · rw [if_pos h1, if_pos (by omega), hj]
    · rw [if_neg h1]
      by_cases h2 : s > 4096
      · rw [if_pos h2, if_pos (by omega), hj]
      · rw [if_neg h2]
        by_cases h3 : (l.length : Int) > 4096
        · rw [if_pos h3, if_pos (by omega), hj]
        · rw [if_neg h3, few_eq _ _ (by omega) l (by omega) (by omega)]
          simp only [Option.bind_some]
          by_cases h4 : fit 281474976710656 l
          · rw [decide_eq_true h4, if_neg (not_not_intro (⟨by omega, by omega, by omega, h4⟩ : 0 ≤ s ∧ s ≤ 4096 ∧ l.length ≤ 4096 ∧ fit 281474976710656 l))]
            rw [waveletref04_Forward.j0, if_neg (by decide)]
            simp only [Option.bind_some, List.nil_append, List.length_nil]
            rw [if_pos (by omega)]
            by_cases h5 : l.length > 1
            · have hb : Bd 281474976710656 l := Bd.of_mem (by omega) h4
              rw [if_pos (show (l.length : Int) > 1 by omega), if_pos h5]
              exact rF_l0 (l.length + l.length + 30) kk s _ l ⟨by omega, by omega⟩ ⟨by omega, by omega⟩ (by omega) hb (by omega) (by omega) l.length m 0 l (by omega) (by omega) rfl (fun q => by rw [if_neg (by omega)])
            · rw [if_neg (show ¬ (l.length : Int) > 1 by omega), if_neg h5, refSplit_eq _ _ _ (by omega)]
              simp only [Option.bind_some]
              unfold spl; rw [if_pos ⟨by omega, by omega, by omega⟩]
          · rw [decide_eq_false h4, if_pos (fun h => h4 h.2.2.2)]
            exact hj
  · rw [if_neg h0, if_pos h0]
theorem rI_l1 (K : Nat) (kk s b : Int) (z : List Int) (hs : 0 ≤ s ∧ s ≤ 4096) (hn : 2 ≤ z.length ∧ z.length ≤ 4096) (hK : 10 ≤ K) (hB : Bd b z) (h0 : 0 ≤ b) (hb : b ≤ 11000000000000000) :
    ∀ (d k i : Nat) (c : List Int), i + d = z.length → d + K ≤ k → c.length = z.length → (∀ q : Nat, rd c q = if q < i then rd (stp 1 1 (prd kk) s z) q else rd z q) →
      waveletref04_Inverse.l1 k s kk c z (z.length : Int) (i : Int) = some (stp 1 1 (prd kk) s z, 0) := by
  intro d
  induction d with
  | zero =>
    intro k i c h hk hl hc
    obtain ⟨m, rfl, _⟩ := one_more (n := 9) (by omega : 9 + 1 ≤ k)
    rw [waveletref04_Inverse.l1, if_neg (by omega), way_end hc hl (by omega)]
  | succ d IH =>
    intro k i c h hk hl hc
    obtain ⟨m, rfl, _⟩ := one_more (n := d + K) (by omega : d + K + 1 ≤ k)
    obtain ⟨m', rfl, _⟩ := one_more (n := 0) (by omega : 0 + 1 ≤ m)
    have hci : rd c i = rd z i := by rw [hc i, if_neg (by omega)]
    have hbl := hB i
    rw [waveletref04_Inverse.l1, if_pos (by omega), w64 (n := s + (i : Int)) (by omega) (by omega), tmodn (by omega), w64 (n := (i : Int) + 1) (by omega) (by omega)]
    by_cases hp : (s + (i : Int)) % 2 = 1
    · have hv := prd_bd kk hB h0 hn.1 i
      rw [if_pos hp, if_pos (by omega), if_pos (by omega), ref_predict kk m' z s i hn hs (hB.mono (by omega)) ⟨by omega, by omega⟩]
      simp only [Option.bind_some, Int.toNat_natCast]
      rw [hci, w64 (n := rd z i + prd kk z i) (by omega) (by omega)]
      simpa using IH (m' + 1) (i + 1) _ (by omega) (by omega) (by simpa using hl) (way_next hc hl (by omega) hp (v := rd z i + prd kk z i) (by omega))
    · rw [if_neg hp]
      simpa using IH (m' + 1) (i + 1) c (by omega) (by omega) hl (way_skip hc hp)
theorem rI_l0 (K : Nat) (kk s b : Int) (z : List Int) (hs : 0 ≤ s ∧ s ≤ 4096) (hn : 2 ≤ z.length ∧ z.length ≤ 4096) (hK : z.length + 30 ≤ K) (hB : Bd b z) (h0 : 0 ≤ b) (hb : b ≤ 3000000000000000) :
    ∀ (d k i : Nat) (c : List Int), i + d = z.length → d + K ≤ k → c.length = z.length → (∀ q : Nat, rd c q = if q < i then rd (stp 0 (-1) (upd kk) s z) q else rd z q) →
      waveletref04_Inverse.l0 k s kk c z (z.length : Int) (i : Int) = some (inv kk s z, 0) := by
  intro d
  induction d with
  | zero =>
    intro k i c h hk hl hc
    obtain ⟨m, rfl, _⟩ := one_more (n := z.length + 29) (by omega : z.length + 29 + 1 ≤ k)
    rw [waveletref04_Inverse.l0, if_neg (by omega), way_end hc hl (by omega)]
    have hl2 := stp_length 0 (-1) (upd kk) s z
    have hb2 := stp_bd (par := 0) (s := s) (sg := -1) hB (by omega) (.inr rfl) (fun i _ => upd_bd kk hB h0 hn.1 i)
    simp only [Option.bind_some, List.nil_append, List.length_nil]
    rw [if_pos (by omega)]
    exact rI_l1 10 kk s _ (stp 0 (-1) (upd kk) s z) hs (by rw [hl2]; exact hn) (by omega) hb2 (by omega) (by omega) (stp 0 (-1) (upd kk) s z).length m 0 _ (by omega) (by omega) rfl (fun q => by rw [if_neg (by omega)])
  | succ d IH =>
    intro k i c h hk hl hc
    obtain ⟨m, rfl, _⟩ := one_more (n := d + K) (by omega : d + K + 1 ≤ k)
    obtain ⟨m', rfl, _⟩ := one_more (n := 0) (by omega : 0 + 1 ≤ m)
    have hci : rd c i = rd z i := by rw [hc i, if_neg (by omega)]
    have hbl := hB i
    rw [waveletref04_Inverse.l0, if_pos (by omega), w64 (n := s + (i : Int)) (by omega) (by omega), tmodn (by omega), w64 (n := (i : Int) + 1) (by omega) (by omega)]
    by_cases hp : (s + (i : Int)) % 2 = 0
    · have hv := upd_bd kk hB h0 hn.1 i
      rw [if_pos hp, if_pos (by omega), if_pos (by omega), ref_update kk m' z s i hn hs (hB.mono (by omega)) ⟨by omega, by omega⟩]
      simp only [Option.bind_some, Int.toNat_natCast]
      rw [hci, w64 (n := rd z i - upd kk z i) (by omega) (by omega)]
      simpa using IH (m' + 1) (i + 1) _ (by omega) (by omega) (by simpa using hl) (way_next hc hl (by omega) hp (v := rd z i - upd kk z i) (by omega))
    · rw [if_neg hp]
      simpa using IH (m' + 1) (i + 1) c (by omega) (by omega) hl (way_skip hc hp)
theorem refInverse_eq (k : Nat) (a b : List Int) (s kk : Int) (hk : 30000 ≤ k) : waveletref04_Inverse.f k a b s kk = some (iv a b s kk) := by
  obtain ⟨m, rfl, hm⟩ := one_more (n := 29999) hk
  have hj : waveletref04_Inverse.j0 (m + 1) a b s kk true = some ([], 2) := by rw [waveletref04_Inverse.j0, if_pos rfl]
  unfold waveletref04_Inverse.f iv
  rw [valid_eq]
  simp only [Option.bind_some, decide_eq_true_eq]
  by_cases h0 : 1 ≤ kk ∧ kk ≤ 3
  · rw [if_neg (not_not_intro h0), if_pos h0]
    by_cases h1 : s < 0
    · rw [if_pos h1, if_pos (by omega), hj]
    · rw [if_neg h1]
      by_cases h2 : s > 4096
      · rw [if_pos h2, if_pos (by omega), hj]
      · rw [if_neg h2]
        by_cases h3 : (a.length : Int) > 4096
        · rw [if_pos h3, if_pos (by omega), hj]
        · rw [if_neg h3]
          by_cases h3b : (b.length : Int) > 4096
          · rw [if_pos h3b, if_pos (by omega), hj]
          · rw [if_neg h3b, w64 (n := (a.length : Int) + (b.length : Int)) (by omega) (by omega)]
            by_cases h4 : (a.length : Int) + (b.length : Int) > 4096
            · rw [decide_eq_true h4, if_pos (by omega), hj]
            · rw [decide_eq_false h4]
              obtain ⟨m, rfl, hm2⟩ := one_more (n := 29998) hm
              have hj1 : waveletref04_Inverse.j1 (m + 1) a b s kk true = some ([], 2) := by rw [waveletref04_Inverse.j1, if_pos rfl]
              rw [waveletref04_Inverse.j0, if_neg (by decide), few_eq _ _ (by omega) a (by omega) (by omega)]
              simp only [Option.bind_some, decide_eq_true_eq]
              by_cases h5 : fit 1125899906842624 a
              · rw [if_pos h5, few_eq _ _ (by omega) b (by omega) (by omega)]
                simp only [Option.bind_some]
                by_cases h6 : fit 1125899906842624 b
                · rw [decide_eq_true h6, if_neg (not_not_intro (⟨by omega, by omega, by omega, h5, h6⟩ : 0 ≤ s ∧ s ≤ 4096 ∧ a.length + b.length ≤ 4096 ∧ fit 1125899906842624 a ∧ fit 1125899906842624 b))]
                  obtain ⟨m, rfl, hm3⟩ := one_more (n := 29997) hm2
                  rw [waveletref04_Inverse.j1, if_neg (by decide), refJoin_eq _ _ _ _ (by omega)]
                  simp only [Option.bind_some]
                  have hq : ∀ (y : List Int) (e : Int), waveletref04_Inverse.j2 (m + 1) s kk y e true = some (y, e) := fun y e => by rw [waveletref04_Inverse.j2, if_pos rfl]
                  by_cases h7 : (jn a b s).2 = 0
                  · rw [if_pos h7, if_pos h7]
                    have hjl := jn_len a b s h7
                    have hjb := jn_bd a b s (by omega) h5 h6 h7
                    rw [h7]
                    generalize (jn a b s).1 = y at hjl hjb ⊢
                    by_cases h8 : y.length > 1
                    · rw [if_pos h8, decide_eq_false (show ¬ (y.length : Int) < 2 by omega), waveletref04_Inverse.j2, if_neg (by decide)]
                      simp only [Option.bind_some, List.nil_append, List.length_nil]
                      rw [if_pos (by omega)]
                      exact rI_l0 (y.length + 30) kk s _ y ⟨by omega, by omega⟩ ⟨by omega, by omega⟩ (by omega) hjb (by omega) (by omega) y.length m 0 y (by omega) (by omega) rfl (fun q => by rw [if_neg (by omega)])
                    · rw [if_neg h8, decide_eq_true (show (y.length : Int) < 2 by omega), hq]
                  · rw [if_neg h7, if_neg h7, hq, jn_err a b s h7]
                · rw [decide_eq_false h6, if_pos (fun h => h6 h.2.2.2.2)]
                  exact hj1
              · rw [if_neg h5, if_pos (fun h => h5 h.2.2.2.1), hj1]
  · rw [if_neg h0, if_pos h0]
end Go.Proofs.Ytkpehgakdooodaa.E04
