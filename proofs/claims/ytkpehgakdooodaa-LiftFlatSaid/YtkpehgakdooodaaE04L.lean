/- Laws of the two steps on plain lists: they undo each other, what they bound, flat signals, how far a change reaches. -/
import Derived.Test.YtkpehgakdooodaaE04A
set_option linter.unusedVariables false
namespace Go.Proofs.Ytkpehgakdooodaa.E04
open Go.RowKit Go.Proofs.YtkpehgakdooodaaW.PrintWords Go.Proofs.YtkpehgakdooodaaW.PrintMore Go.Proofs.Ytkpehgakdooodaa.Ar Go.Proofs.Ytkpehgakdooodaa.E03
theorem inv_fwd (kk s : Int) (l : List Int) (hn : 2 ≤ l.length) : inv kk s (fwd kk s l) = l := by
  unfold inv fwd
  have h1 := stp_undo (sg := 1) (upd_far kk 0 s) (stp 1 (-1) (prd kk) s l) (by rw [stp_length]; exact hn)
  have h2 := stp_undo (sg := -1) (prd_far kk 1 s) l hn
  rw [show -(1 : Int) = -1 from rfl] at h1
  rw [show -(-1 : Int) = 1 from rfl] at h2
  rw [h1, h2]
theorem fwd_inv (kk s : Int) (l : List Int) (hn : 2 ≤ l.length) : fwd kk s (inv kk s l) = l := by
  unfold inv fwd
  have h1 := stp_undo (sg := 1) (prd_far kk 1 s) (stp 0 (-1) (upd kk) s l) (by rw [stp_length]; exact hn)
  have h2 := stp_undo (sg := -1) (upd_far kk 0 s) l hn
  rw [show -(1 : Int) = -1 from rfl] at h1
  rw [show -(-1 : Int) = 1 from rfl] at h2
  rw [h1, h2]
theorem rd_cons_nat (x : Int) (xs : List Int) (q : Nat) : rd (x :: xs) ((q + 1 : Nat) : Int) = rd xs q := by
  by_cases h : q < xs.length
  · rw [rd_nat _ _ (by simpa using h), rd_nat _ _ h]; rfl
  · rw [rd_out _ _ (by simpa using h), rd_out _ _ (by omega)]
theorem evs_mem : ∀ (l : List Int) (s x : Int), x ∈ evs s l → ∃ q : Nat, q < l.length ∧ (s + q) % 2 = 0 ∧ x = rd l q
  | [], s, x, h => by simp [evs] at h
  | y :: l, s, x, h => by
    unfold evs at h
    have up : x ∈ evs (s + 1) l → ∃ q : Nat, q < (y :: l).length ∧ (s + q) % 2 = 0 ∧ x = rd (y :: l) q := fun h => by
      obtain ⟨q, h1, h2, h3⟩ := evs_mem l (s + 1) x h
      exact ⟨q + 1, by simpa using h1, by omega, by rw [rd_cons_nat]; exact h3⟩
    split at h
    · next hp =>
      rcases List.mem_cons.1 h with rfl | h
      · exact ⟨0, by simp, by omega, by rfl⟩
      · exact up h
    · exact up h
theorem ods_mem : ∀ (l : List Int) (s x : Int), x ∈ ods s l → ∃ q : Nat, q < l.length ∧ (s + q) % 2 = 1 ∧ x = rd l q
  | [], s, x, h => by simp [ods] at h
  | y :: l, s, x, h => by
    unfold ods at h
    have up : x ∈ ods (s + 1) l → ∃ q : Nat, q < (y :: l).length ∧ (s + q) % 2 = 1 ∧ x = rd (y :: l) q := fun h => by
      obtain ⟨q, h1, h2, h3⟩ := ods_mem l (s + 1) x h
      exact ⟨q + 1, by simpa using h1, by omega, by rw [rd_cons_nat]; exact h3⟩
    split at h
    · exact up h
    · next hp =>
      rcases List.mem_cons.1 h with rfl | h
      · exact ⟨0, by simp, by omega, by rfl⟩
      · exact up h
/-- What the high and the low subband are bounded by. -/
def hb (b kk : Int) : Int := if 0 ≤ b ∧ b ≤ 281474976710656 ∧ 1 ≤ kk ∧ kk ≤ 3 then (if kk = 3 then b + (20 * b + 8) / 16 else 2 * b) else 0
def lb (b kk : Int) : Int := if 0 ≤ b ∧ b ≤ 281474976710656 ∧ 1 ≤ kk ∧ kk ≤ 3 then b + (2 * hb b kk + 2) / 4 else 0
theorem high_at {b kk : Int} {l : List Int} (h : Bd b l) (h0 : 0 ≤ b ∧ b ≤ 281474976710656) (hk : 1 ≤ kk ∧ kk ≤ 3) (hn : 2 ≤ l.length) (s : Int) (q : Nat) (hq : q < l.length) (hp : (s + q) % 2 = 1) :
    -(hb b kk) ≤ rd (stp 1 (-1) (prd kk) s l) q ∧ rd (stp 1 (-1) (prd kk) s l) q ≤ hb b kk := by
  rw [stp_val q hq hp]
  have h5 := h q
  have h1 := h.at (q - 1) hn
  have h2 := h.at (q + 1) hn
  have h3 := h.at (q - 3) hn
  have h4 := h.at (q + 3) hn
  unfold hb prd
  rw [if_pos ⟨h0.1, h0.2, hk⟩]
  by_cases a : kk = 1
  · rw [if_pos a, if_neg (by omega)]; omega
  · rw [if_neg a]
    by_cases c : kk = 2
    · rw [if_pos c, if_neg (by omega)]; omega
    · rw [if_neg c, if_pos (by omega)]; omega
theorem at_odd {b c s i e : Int} {l : List Int} (hn : 2 ≤ l.length) (h : ∀ q : Nat, q < l.length → (s + q) % 2 = 1 → -b ≤ rd l q ∧ rd l q ≤ b) (hp : (s + i) % 2 = 0) (he : e % 2 = 1) : -b ≤ at_ l (i + e) ∧ at_ l (i + e) ≤ b := by
  unfold at_
  have h1 := mr_in (n := l.length) (i + e) (by omega)
  have h2 := mr_par (n := l.length) (i + e)
  obtain ⟨q, hq⟩ := Int.eq_ofNat_of_zero_le h1.1
  rw [hq] at h1 h2 ⊢
  exact h q (by omega) (by omega)
theorem low_at {b kk : Int} {l : List Int} (h : Bd b l) (h0 : 0 ≤ b ∧ b ≤ 281474976710656) (hk : 1 ≤ kk ∧ kk ≤ 3) (hn : 2 ≤ l.length) (s : Int) (q : Nat) (hq : q < l.length) (hp : (s + q) % 2 = 0) :
    -(lb b kk) ≤ rd (fwd kk s l) q ∧ rd (fwd kk s l) q ≤ lb b kk := by
  unfold fwd
  have hl := stp_length 1 (-1) (prd kk) s l
  rw [stp_val q (by rw [hl]; exact hq) hp, stp_keep q (by omega)]
  have h5 := h q
  have h1 := at_odd (c := 0) (e := -1) (by rw [hl]; exact hn) (fun q hq hp => high_at h h0 hk hn s q (by rw [hl] at hq; exact hq) hp) hp (by decide)
  have h2 := at_odd (c := 0) (e := 1) (by rw [hl]; exact hn) (fun q hq hp => high_at h h0 hk hn s q (by rw [hl] at hq; exact hq) hp) hp (by decide)
  unfold lb upd
  rw [if_pos ⟨h0.1, h0.2, hk⟩]
  simp only [Int.sub_eq_add_neg] at *
  by_cases a : kk = 1
  · rw [if_pos a]
    have : hb b kk = 2 * b := by unfold hb; rw [if_pos ⟨h0.1, h0.2, hk⟩, if_neg (by omega)]
    omega
  · rw [if_neg a]; omega
theorem high_at2 {b kk : Int} {l : List Int} (h : Bd b l) (h0 : 0 ≤ b ∧ b ≤ 281474976710656) (hk : 1 ≤ kk ∧ kk ≤ 3) (hn : 2 ≤ l.length) (s : Int) (q : Nat) (hq : q < l.length) (hp : (s + q) % 2 = 1) :
    -(hb b kk) ≤ rd (fwd kk s l) q ∧ rd (fwd kk s l) q ≤ hb b kk := by
  unfold fwd
  rw [stp_keep q (by omega)]
  exact high_at h h0 hk hn s q hq hp
theorem hb_ge {b kk : Int} (h0 : 0 ≤ b ∧ b ≤ 281474976710656) (hk : 1 ≤ kk ∧ kk ≤ 3) : b ≤ hb b kk ∧ hb b kk ≤ 3 * b + 1 := by
  unfold hb; rw [if_pos ⟨h0.1, h0.2, hk⟩]; split <;> omega
theorem lb_ge {b kk : Int} (h0 : 0 ≤ b ∧ b ≤ 281474976710656) (hk : 1 ≤ kk ∧ kk ≤ 3) : b ≤ lb b kk ∧ lb b kk ≤ 3 * b + 1 := by
  have := hb_ge h0 hk
  unfold lb; rw [if_pos ⟨h0.1, h0.2, hk⟩]
  omega
theorem low_fit {b kk : Int} {l : List Int} (h : fit b l) (h0 : 0 ≤ b ∧ b ≤ 281474976710656) (hk : 1 ≤ kk ∧ kk ≤ 3) (hn : 2 ≤ l.length) (s : Int) : fit (lb b kk) (evs s (fwd kk s l)) := fun x hx => by
  have hb' : Bd b l := Bd.of_mem h0.1 h
  obtain ⟨q, h1, h2, rfl⟩ := evs_mem _ _ _ hx
  exact low_at hb' h0 hk hn s q (by unfold fwd at h1; rw [stp_length, stp_length] at h1; exact h1) h2
theorem high_fit {b kk : Int} {l : List Int} (h : fit b l) (h0 : 0 ≤ b ∧ b ≤ 281474976710656) (hk : 1 ≤ kk ∧ kk ≤ 3) (hn : 2 ≤ l.length) (s : Int) : fit (hb b kk) (ods s (fwd kk s l)) := fun x hx => by
  have hb' : Bd b l := Bd.of_mem h0.1 h
  obtain ⟨q, h1, h2, rfl⟩ := ods_mem _ _ _ hx
  exact high_at2 hb' h0 hk hn s q (by unfold fwd at h1; rw [stp_length, stp_length] at h1; exact h1) h2
theorem evs_fit {b s : Int} {l : List Int} (h : fit b l) (h0 : 0 ≤ b) : fit b (evs s l) := fun x hx => by
  obtain ⟨q, h1, h2, rfl⟩ := evs_mem _ _ _ hx
  exact Bd.of_mem h0 h q
theorem ods_fit {b s : Int} {l : List Int} (h : fit b l) (h0 : 0 ≤ b) : fit b (ods s l) := fun x hx => by
  obtain ⟨q, h1, h2, rfl⟩ := ods_mem _ _ _ hx
  exact Bd.of_mem h0 h q
theorem fit_mono {b c : Int} {l : List Int} (h : fit b l) (hc : b ≤ c) : fit c l := fun x hx => by have := h x hx; omega
/-- A list put together from what it was parted into. -/
theorem jn_split (s : Int) (z : List Int) (hs : 0 ≤ s ∧ s ≤ 4096) (hn : z.length ≤ 4096) : jn (evs s z) (ods s z) s = (z, 0) := by
  have h1 := evs_length z s
  have h2 := ods_length z s
  have h3 : (evs s z).length + (ods s z).length = z.length := by omega
  unfold jn
  rw [if_pos ⟨hs.1, hs.2, by omega⟩, if_pos (by rw [show ((evs s z).length : Int) + ((ods s z).length : Int) = (z.length : Int) by omega]; exact h1), h3, ilv_split]
/-- What Forward returns for a signal it accepts, whatever its length. -/
def fz (l : List Int) (s kk : Int) : List Int := if l.length > 1 then fwd kk s l else l
theorem fz_len (l : List Int) (s kk : Int) : (fz l s kk).length = l.length := by unfold fz fwd; split <;> simp [stp_length]
theorem fw_ok {l : List Int} {s kk : Int} (hk : 1 ≤ kk ∧ kk ≤ 3) (hs : 0 ≤ s ∧ s ≤ 4096) (hn : l.length ≤ 4096) (hf : fit 281474976710656 l) : fw l s kk = (evs s (fz l s kk), ods s (fz l s kk), 0) := by
  unfold fw fz
  rw [if_neg (not_not_intro hk), if_neg (not_not_intro ⟨hs.1, hs.2, hn, hf⟩)]
  split <;> rfl
theorem fz_low {b : Int} {l : List Int} {s kk : Int} (hk : 1 ≤ kk ∧ kk ≤ 3) (h : fit b l) (h0 : 0 ≤ b ∧ b ≤ 281474976710656) : fit (lb b kk) (evs s (fz l s kk)) ∧ fit (hb b kk) (ods s (fz l s kk)) := by
  unfold fz
  split
  · exact ⟨low_fit h h0 hk (by omega) s, high_fit h h0 hk (by omega) s⟩
  · exact ⟨fit_mono (evs_fit h h0.1) (lb_ge h0 hk).1, fit_mono (ods_fit h h0.1) (hb_ge h0 hk).1⟩
def iz (z : List Int) (s kk : Int) : List Int := if z.length > 1 then inv kk s z else z
theorem iv_ok {z : List Int} {s kk : Int} (hk : 1 ≤ kk ∧ kk ≤ 3) (hs : 0 ≤ s ∧ s ≤ 4096) (hn : z.length ≤ 4096) (h1 : fit 1125899906842624 (evs s z)) (h2 : fit 1125899906842624 (ods s z)) : iv (evs s z) (ods s z) s kk = (iz z s kk, 0) := by
  have h3 := evs_length z s
  have h4 := ods_length z s
  unfold iv iz
  rw [if_neg (not_not_intro hk), if_neg (not_not_intro ⟨hs.1, hs.2, by omega, h1, h2⟩), jn_split s z hs hn]
  simp only [if_pos]
  split <;> rfl
theorem iz_fz (l : List Int) (s kk : Int) : iz (fz l s kk) s kk = l := by
  unfold iz
  rw [fz_len]
  split
  · next h => unfold fz; rw [if_pos h, inv_fwd _ _ _ (by omega)]
  · next h => unfold fz; rw [if_neg h]
theorem iz_len (l : List Int) (s kk : Int) : (iz l s kk).length = l.length := by unfold iz inv; split <;> simp [stp_length]
theorem fz_iz (l : List Int) (s kk : Int) : fz (iz l s kk) s kk = l := by
  unfold fz
  rw [iz_len]
  split
  · next h => unfold iz; rw [if_pos h, fwd_inv _ _ _ (by omega)]
  · next h => unfold iz; rw [if_neg h]
theorem iv_some {a b : List Int} {s kk : Int} (h : (iv a b s kk).2 = 0) : (1 ≤ kk ∧ kk ≤ 3) ∧ (0 ≤ s ∧ s ≤ 4096) ∧ (jn a b s).2 = 0 ∧ (iv a b s kk).1 = iz (jn a b s).1 s kk := by
  unfold iv at h ⊢
  split at h
  · exact absurd h (by simp)
  · next h1 =>
    have h1' := Classical.not_not.1 h1
    split at h
    · exact absurd h (by simp)
    · next h2 =>
      have h2' := Classical.not_not.1 h2
      rw [if_neg h1, if_neg h2]
      by_cases h3 : (jn a b s).2 = 0
      · refine ⟨h1', ⟨h2'.1, h2'.2.1⟩, h3, ?_⟩
        rw [if_pos h3]; unfold iz
        split <;> rfl
      · rw [if_neg h3] at h; exact absurd h h3
theorem iv_err {a b : List Int} {s kk : Int} (h : ¬ (iv a b s kk).2 = 0) : (iv a b s kk).1 = [] := by
  unfold iv at h ⊢
  split
  · rfl
  · next h1 =>
    split
    · rfl
    · next h2 =>
      rw [if_neg h1, if_neg h2] at h
      split
      · next h3 => rw [if_pos h3] at h; split at h <;> exact absurd rfl h
      · rfl
theorem iv_fit {a b : List Int} {s kk : Int} (h : (iv a b s kk).2 = 0) : fit 1125899906842624 a ∧ fit 1125899906842624 b := by
  unfold iv at h
  split at h
  · exact absurd h (by simp)
  · split at h
    · exact absurd h (by simp)
    · next h2 => exact (Classical.not_not.1 h2).2.2.2
/-- A flat signal. -/
theorem at_flat {v : Int} {n : Nat} (hn : 2 ≤ n) (i : Int) : at_ (List.replicate n v) i = v := by
  unfold at_
  have h1 := mr_in (n := (List.replicate n v).length) i (by rw [List.length_replicate]; omega)
  obtain ⟨q, hq⟩ := Int.eq_ofNat_of_zero_le h1.1
  rw [hq] at h1 ⊢
  rw [rd_nat _ _ (by omega)]; simp
theorem flat_high {v kk s : Int} {n : Nat} (hn : 2 ≤ n) (q : Nat) (hq : q < n) (hp : (s + q) % 2 = 1) : rd (stp 1 (-1) (prd kk) s (List.replicate n v)) q = 0 := by
  rw [stp_val q (by simpa using hq) hp]
  unfold prd
  simp only [at_flat hn]
  rw [rd_nat _ _ (by simpa using hq), List.getElem_replicate]
  split
  · omega
  · split <;> omega
theorem flat_low {v kk s : Int} {n : Nat} (hn : 2 ≤ n) (q : Nat) (hq : q < n) (hp : (s + q) % 2 = 0) : rd (fwd kk s (List.replicate n v)) q = v := by
  unfold fwd
  have hl := stp_length 1 (-1) (prd kk) s (List.replicate n v)
  rw [List.length_replicate] at hl
  rw [stp_val q (by rw [hl]; exact hq) hp, stp_keep q (by omega), rd_nat _ _ (by simpa using hq), List.getElem_replicate]
  have h1 := at_odd (b := 0) (c := 0) (e := -1) (by rw [hl]; exact hn) (fun q hq hp => by rw [hl] at hq; rw [flat_high hn q hq hp]; omega) hp (by decide)
  have h2 := at_odd (b := 0) (c := 0) (e := 1) (by rw [hl]; exact hn) (fun q hq hp => by rw [hl] at hq; rw [flat_high hn q hq hp]; omega) hp (by decide)
  unfold upd
  simp only [Int.sub_eq_add_neg] at *
  split <;> omega
theorem flat_evs {v kk s : Int} {n : Nat} (hn : 2 ≤ n) : ∀ x ∈ evs s (fwd kk s (List.replicate n v)), x = v := fun x hx => by
  obtain ⟨q, h1, h2, rfl⟩ := evs_mem _ _ _ hx
  unfold fwd at h1
  rw [stp_length, stp_length, List.length_replicate] at h1
  exact flat_low hn q h1 h2
theorem flat_ods {v kk s : Int} {n : Nat} (hn : 2 ≤ n) : fit 0 (ods s (fwd kk s (List.replicate n v))) := fun x hx => by
  obtain ⟨q, h1, h2, rfl⟩ := ods_mem _ _ _ hx
  unfold fwd at h1 ⊢
  rw [stp_length, stp_length, List.length_replicate] at h1
  rw [stp_keep q (by omega), flat_high hn q h1 h2]
  omega
/-- A signal that begins two indices later. -/
theorem evs_two : ∀ (l : List Int) (s : Int), evs (s + 2) l = evs s l ∧ ods (s + 2) l = ods s l
  | [], s => ⟨rfl, rfl⟩
  | x :: l, s => by
    have ih := evs_two l (s + 1)
    rw [show s + 1 + 2 = s + 2 + 1 by omega] at ih
    unfold evs ods
    rw [ih.1, ih.2, show (s + 2) % 2 = s % 2 by omega]
    exact ⟨rfl, rfl⟩
theorem stp_two (par sg s : Int) (F : List Int → Int → Int) (l : List Int) : stp par sg F (s + 2) l = stp par sg F s l := by
  unfold stp
  congr 1
  funext i
  rw [show (s + 2 + (i : Int)) % 2 = (s + i) % 2 by omega]
theorem fz_two (l : List Int) (s kk : Int) : fz l (s + 2) kk = fz l s kk := by unfold fz fwd; rw [stp_two, stp_two]
/-- How far a change reaches. -/
def Near (r p : Int) (a b : List Int) : Prop := a.length = b.length ∧ ∀ q : Nat, q < a.length → r < (((q : Int) - p).natAbs : Int) → rd a q = rd b q
theorem at_near {r p : Int} {a b : List Int} (h : Near r p a b) (hn : 2 ≤ a.length) (i : Nat) (hi : i < a.length) (e : Int) (he : r + (e.natAbs : Int) < (((i : Int) - p).natAbs : Int)) : at_ a (i + e) = at_ b (i + e) := by
  unfold at_
  rw [← h.1]
  have h1 := mr_in (n := a.length) (i + e) (by omega)
  have h2 := mr_near (n := a.length) (by omega) (j := i) ⟨by omega, by omega⟩ (i + e)
  obtain ⟨q, hq⟩ := Int.eq_ofNat_of_zero_le h1.1
  rw [hq] at h1 h2 ⊢
  exact h.2 q (by omega) (by omega)
theorem near_stp {par sg s r p t : Int} {F : List Int → Int → Int} {a b : List Int} (h : Near r p a b) (ht : 0 ≤ t) (hF : ∀ i : Nat, i < a.length → r + t < (((i : Int) - p).natAbs : Int) → F a i = F b i) : Near (r + t) p (stp par sg F s a) (stp par sg F s b) := by
  refine ⟨by rw [stp_length, stp_length]; exact h.1, fun q hq hd => ?_⟩
  rw [stp_length] at hq
  have h0 := h.1
  rw [rd_stp _ _ _ _ _ _ hq, rd_stp _ _ _ _ _ _ (by omega), h.2 q hq (by omega), hF q hq hd]
theorem near_upd {sg s r p : Int} {a b : List Int} (kk : Int) (h : Near r p a b) (hn : 2 ≤ a.length) : Near (r + 1) p (stp 0 sg (upd kk) s a) (stp 0 sg (upd kk) s b) :=
  near_stp h (by omega) fun i hi hd => by
    have h1 := at_near h hn i hi (-1) (by omega)
    have h2 := at_near h hn i hi 1 (by omega)
    simp only [upd, Int.sub_eq_add_neg] at *
    rw [h1, h2]
theorem near_prd {sg s r p : Int} {a b : List Int} (kk : Int) (h : Near r p a b) (hn : 2 ≤ a.length) : Near (r + (if kk = 1 ∨ kk = 2 then 1 else 3)) p (stp 1 sg (prd kk) s a) (stp 1 sg (prd kk) s b) := by
  refine near_stp h (by split <;> omega) fun i hi hd => ?_
  unfold prd
  by_cases c : kk = 1
  · rw [if_pos (.inl c)] at hd
    have h1 := at_near h hn i hi (-1) (by omega)
    rw [if_pos c, if_pos c, Int.sub_eq_add_neg, h1]
  · by_cases d : kk = 2
    · rw [if_pos (.inr d)] at hd
      have h1 := at_near h hn i hi (-1) (by omega)
      have h2 := at_near h hn i hi 1 (by omega)
      simp only [Int.sub_eq_add_neg] at *
      rw [if_neg c, if_neg c, if_pos d, if_pos d, h1, h2]
    · rw [if_neg (by omega)] at hd
      have h1 := at_near h hn i hi (-1) (by omega)
      have h2 := at_near h hn i hi 1 (by omega)
      have h3 := at_near h hn i hi (-3) (by omega)
      have h4 := at_near h hn i hi 3 (by omega)
      simp only [Int.sub_eq_add_neg] at *
      rw [if_neg c, if_neg c, if_neg d, if_neg d, h1, h2, h3, h4]
theorem near_set (y : List Int) (p : Nat) (v : Int) (hp : p < y.length) : Near 0 p y (y.set p v) := by
  refine ⟨by simp, fun q hq hd => ?_⟩
  rw [rd_set _ _ _ _ hp, if_neg (by omega)]
theorem near_iz {p s : Int} {a b : List Int} (kk : Int) (h : Near 0 p a b) : Near (if kk = 1 ∨ kk = 2 then 2 else 4) p (iz a s kk) (iz b s kk) := by
  unfold iz
  rw [← h.1]
  by_cases hn : a.length > 1
  · have h1 := near_upd (sg := -1) (s := s) kk h (by omega)
    have h2 := near_prd (sg := 1) (s := s) kk h1 (by rw [stp_length]; omega)
    rw [if_pos hn, if_pos hn]
    unfold inv
    refine ⟨h2.1, fun q hq hd => h2.2 q hq ?_⟩
    by_cases c : kk = 1 ∨ kk = 2
    · rw [if_pos c] at hd ⊢; omega
    · rw [if_neg c] at hd ⊢; omega
  · rw [if_neg hn, if_neg hn]
    refine ⟨h.1, fun q hq hd => h.2 q hq ?_⟩
    by_cases c : kk = 1 ∨ kk = 2
    · rw [if_pos c] at hd; omega
    · rw [if_neg c] at hd; omega
end Go.Proofs.Ytkpehgakdooodaa.E04
