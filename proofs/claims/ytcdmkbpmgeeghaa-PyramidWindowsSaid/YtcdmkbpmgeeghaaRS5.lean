/- The summaries of these functions are sound. -/
import Derived.Test.YtcdmkbpmgeeghaaRE2
import Derived.Test.YtcdmkbpmgeeghaaRS4
set_option linter.unnecessarySimpa false
set_option linter.unusedVariables false
set_option linter.unusedSimpArgs false
set_option maxRecDepth 100000
set_option maxHeartbeats 40000000
open Go Go.Rx Go.Proofs
namespace Go.Rx.Ch06
theorem rd_tail (l : List Int) {t : Int} (h : 0 ≤ t) : rd l.tail t = rd l (t + 1) := by
  obtain ⟨n, rfl⟩ : ∃ n : Nat, t = n := ⟨t.toNat, by omega⟩
  cases l with
  | nil => simp [rd]
  | cons x xs => exact (rd_cons_nat x xs n).symm
theorem rd_head (l : List Int) : l.headD 0 = rd l 0 := by cases l <;> rfl
theorem ilv_rd : ∀ (n : Nat) (s : Int) (e o : List Int) (q : Nat), q < n → rd (ilv s n e o) q = if (s + q) % 2 = 0 then rd e ((s + q) / 2 - (s + 1) / 2) else rd o ((s + q) / 2 - s / 2)
  | n + 1, s, e, o, 0, _ => by
    by_cases h : s % 2 = 0
    · simp only [ilv, if_pos h]
      rw [if_pos (by omega), show (s + ((0 : Nat) : Int)) / 2 - (s + 1) / 2 = 0 by omega, rd_head]
      rfl
    · simp only [ilv, if_neg h]
      rw [if_neg (by omega), show (s + ((0 : Nat) : Int)) / 2 - s / 2 = 0 by omega, rd_head]
      rfl
  | n + 1, s, e, o, q + 1, hq => by
    by_cases h : s % 2 = 0
    · simp only [ilv, if_pos h]
      rw [rd_cons_nat, ilv_rd n (s + 1) e.tail o q (by omega), show s + 1 + (q : Int) = s + ((q + 1 : Nat) : Int) by omega]
      by_cases hp : (s + ((q + 1 : Nat) : Int)) % 2 = 0
      · rw [if_pos hp, if_pos hp, rd_tail _ (by omega)]
        congr 1
        omega
      · rw [if_neg hp, if_neg hp]
        congr 1
        omega
    · simp only [ilv, if_neg h]
      rw [rd_cons_nat, ilv_rd n (s + 1) e o.tail q (by omega), show s + 1 + (q : Int) = s + ((q + 1 : Nat) : Int) by omega]
      by_cases hp : (s + ((q + 1 : Nat) : Int)) % 2 = 0
      · rw [if_pos hp, if_pos hp]
        congr 1
        omega
      · rw [if_neg hp, if_neg hp, rd_tail _ (by omega)]
        congr 1
        omega
theorem iz_loc {s kk M : Int} (hM : M = if kk = 1 ∨ kk = 2 then 2 else 4) {a b : List Int} (hl : a.length = b.length) {i : Nat} (hi : i < a.length) (h : ∀ q : Nat, q < a.length → (((q : Int) - i).natAbs : Int) ≤ M → rd a q = rd b q) : rd (iz a s kk) i = rd (iz b s kk) i := by
  have key : ∀ t, t ≤ a.length → rd (iz (b.take t ++ a.drop t) s kk) i = rd (iz a s kk) i := by
    intro t
    induction t with
    | zero => intro _; simp
    | succ t ih =>
      intro ht
      rw [← ih (by omega)]
      have hlen : (b.take t ++ a.drop t).length = a.length := by simp; omega
      have hbt : t < b.length := by omega
      have hset : b.take (t + 1) ++ a.drop (t + 1) = (b.take t ++ a.drop t).set t b[t] := by
        apply List.ext_getElem (by simp; omega)
        intro j h1 h2
        simp only [List.getElem_set, List.getElem_append, List.length_take, List.getElem_take, List.getElem_drop]
        split
        · split
          · rename_i hj e; subst e; rfl
          · rename_i hj e; rw [dif_pos (by omega)]
        · split
          · omega
          · rw [dif_neg (by omega)]
            congr 1
            omega
      by_cases hd : (((t : Int) - i).natAbs : Int) ≤ M
      · have ht' := h t (by omega) hd
        have e : (b.take t ++ a.drop t).set t b[t] = b.take t ++ a.drop t := by
          apply List.ext_getElem (by simp)
          intro j h1 h2
          simp only [List.getElem_set]
          split
          · rename_i e; subst e
            rw [List.getElem_append_right (by simp; omega)]
            simp only [List.getElem_drop, List.length_take]
            have h3 : a[t] = b[t] := by
              rw [rd_nat a t (by omega), rd_nat b t hbt] at ht'
              exact ht'
            rw [← h3]
            congr 1
            omega
          · rfl
        rw [hset, e]
      · rw [hset]
        have hn := near_iz (s := s) kk (near_set (b.take t ++ a.drop t) t b[t] (by omega))
        rw [← hM] at hn
        exact (hn.2 i (by rw [iz_len]; omega) (by omega)).symm
  have h2 := key a.length (Nat.le_refl _)
  rw [List.drop_length, List.append_nil, hl, List.take_length] at h2
  exact h2.symm
theorem iv_eq {p q : List Int} {s k : Int} {n : Nat} (hk : inr 1 3 k = true) (hs : inr 0 4096 s = true) (hn : n ≤ 4096) (hp : (p.length : Int) = cev s n) (hq : (q.length : Int) = n - cev s n) (fp : fit 1125899906842624 p) (fq : fit 1125899906842624 q) : (iv p q s k).1 = iz (ilv s n p q) s k := by
  have h := evs_ilv n s p q hp hq
  have hl := ilv_length n s p q
  generalize ilv s n p q = z at h hl
  obtain ⟨rfl, rfl⟩ := h
  rw [iv_ok (inr_b hk) (inr_b hs) (by omega) fp fq]
theorem marg_M {k : Int} (hk : inr 1 3 k = true) : marg k = if k = 1 ∨ k = 2 then 2 else 4 := by
  have hb := inr_b hk
  unfold marg
  by_cases h : k = 1 ∨ k = 2
  · rw [if_pos h, inr_t (a := 1) (b := 2) (x := k) (by omega) (by omega), if_pos rfl]
  · have : inr 1 2 k = false := by simp [inr]; omega
    rw [if_neg h, this, if_neg (by decide), if_pos (by omega)]
theorem iv_loc {p q p' q' : List Int} {s k : Int} {n : Nat} (hk : inr 1 3 k = true) (hs : inr 0 4096 s = true) (hn : n ≤ 4096) (hp : (p.length : Int) = cev s n) (hq : (q.length : Int) = n - cev s n) (hp' : (p'.length : Int) = cev s n) (hq' : (q'.length : Int) = n - cev s n) (fp : fit 1125899906842624 p) (fq : fit 1125899906842624 q) (fp' : fit 1125899906842624 p') (fq' : fit 1125899906842624 q') {i : Nat} (hi : i < n)
    (h0 : ∀ t : Nat, t < n → (((t : Int) - i).natAbs : Int) ≤ marg k → (s + t) % 2 = 0 → gI p ((s + t) / 2 - (s + 1) / 2).toNat = gI p' ((s + t) / 2 - (s + 1) / 2).toNat)
    (h1 : ∀ t : Nat, t < n → (((t : Int) - i).natAbs : Int) ≤ marg k → (s + t) % 2 = 1 → gI q ((s + t) / 2 - s / 2).toNat = gI q' ((s + t) / 2 - s / 2).toNat) : gI (iv p q s k).1 i = gI (iv p' q' s k).1 i := by
  rw [iv_eq hk hs hn hp hq fp fq, iv_eq hk hs hn hp' hq' fp' fq', gI_rd, gI_rd]
  refine iz_loc (marg_M hk) (by rw [ilv_length, ilv_length]) (by rw [ilv_length]; exact hi) ?_
  intro t ht hd
  rw [ilv_length] at ht
  rw [ilv_rd n s p q t ht, ilv_rd n s p' q' t ht]
  split
  · rename_i hp
    have := h0 t ht hd hp
    rw [gI_rd, gI_rd, Int.toNat_of_nonneg (by omega)] at this
    exact this
  · rename_i hp
    have := h1 t ht hd (by omega)
    rw [gI_rd, gI_rd, Int.toNat_of_nonneg (by omega)] at this
    exact this
theorem rowAt_gI {l : List Int} {g y x : Nat} (hx : x < g) : gI (rowAt l g y) x = gI l (y * g + x) := by
  simp [rowAt, gI, List.getD_eq_getElem?_getD, List.getElem?_take, List.getElem?_drop, hx]
/-- one column of a half that is merged -/
theorem col_loc {a b c d k B xx : Int} {oo oe : Int} {l0 l2 l0' l2' : List Int} {W : Rc} (hv : valid a b c d = true) (hk : inr 1 3 k = true) (hB : 4 ≤ B ∧ B ≤ 281474976710656) (f0 : fit B l0) (f2 : fit B l2) (f0' : fit B l0') (f2' : fit B l2') {X : Nat} {g : Nat}
    (hg : g = bw a b c d oo) (ho : (oo = 0 ∧ oe = 2 ∧ xx = (a + 1) / 2) ∨ (oo = 1 ∧ oe = 3 ∧ xx = a / 2)) (hX : X < g)
    {y : Int} (hy : b ≤ y ∧ y < d)
    (A0 : ∀ y' : Int, b ≤ y' → y' < d → y - marg k ≤ y' → y' ≤ y + marg k → y' % 2 = 0 → gI l0 ((y' / 2 - (b + 1) / 2).toNat * g + X) = gI l0' ((y' / 2 - (b + 1) / 2).toNat * g + X))
    (A2 : ∀ y' : Int, b ≤ y' → y' < d → y - marg k ≤ y' → y' ≤ y + marg k → y' % 2 = 1 → gI l2 ((y' / 2 - b / 2).toNat * g + X) = gI l2' ((y' / 2 - b / 2).toNat * g + X)) :
    gI (mgCol l0 l2 g (bh a b c d oo) (bh a b c d oe) b k X) (y - b).toNat = gI (mgCol l0' l2' g (bh a b c d oo) (bh a b c d oe) b k X) (y - b).toNat := by
  have ab := valid_b hv
  have wb := bw_bh hv
  have hs : inr 0 4096 b = true := inr_t (by omega) (by omega)
  have cf := cev_bd (s := b) (n := d - b) (by omega)
  have hn : (((d - b).toNat : Nat) : Int) = d - b := by omega
  have e1 : ((bh a b c d oo : Nat) : Int) = cev b ((d - b).toNat : Nat) := by
    rw [hn]
    rcases ho with h | h
    · rw [h.1, wb.2.2.1]; omega
    · rw [h.1, wb.2.2.2.1]; omega
  have e2 : ((bh a b c d oe : Nat) : Int) = (((d - b).toNat : Nat) : Int) - cev b ((d - b).toNat : Nat) := by
    rw [hn]
    rcases ho with h | h
    · rw [h.2.1, wb.2.2.2.2.1]; omega
    · rw [h.2.1, wb.2.2.2.2.2]; omega
  unfold mgCol
  refine iv_loc (n := (d - b).toNat) hk hs (by omega) (by rw [colOf_len]; exact e1) (by rw [colOf_len]; exact e2) (by rw [colOf_len]; exact e1) (by rw [colOf_len]; exact e2) (fit_mono (fit_col (by omega) f0 _ _ _) (by omega)) (fit_mono (fit_col (by omega) f2 _ _ _) (by omega)) (fit_mono (fit_col (by omega) f0' _ _ _) (by omega)) (fit_mono (fit_col (by omega) f2' _ _ _) (by omega)) (by omega) ?_ ?_
  · intro t ht hd hp
    have hcev : cev b (((d - b).toNat : Nat) : Int) = (b + (d - b) + 1) / 2 - (b + 1) / 2 := by rw [hn]; rfl
    have hlt : ((b + (t : Int)) / 2 - (b + 1) / 2).toNat < bh a b c d oo := by omega
    rw [colOf_gI hlt, colOf_gI hlt]
    exact A0 (b + t) (by omega) (by omega) (by omega) (by omega) hp
  · intro t ht hd hp
    have hcev : cev b (((d - b).toNat : Nat) : Int) = (b + (d - b) + 1) / 2 - (b + 1) / 2 := by rw [hn]; rfl
    have hlt : ((b + (t : Int)) / 2 - b / 2).toNat < bh a b c d oe := by omega
    rw [colOf_gI hlt, colOf_gI hlt]
    exact A2 (b + t) (by omega) (by omega) (by omega) (by omega) hp
theorem mg_rows {a b c d k B : Int} {l0 l1 l2 l3 : List Int} (hv : valid a b c d = true) (hk : inr 1 3 k = true) (hB : 4 ≤ B ∧ B ≤ 281474976710656) (f0 : fit B l0) (f1 : fit B l1) (f2 : fit B l2) (f3 : fit B l3) : fit (4 * B) (mgLo a b c d k l0 l2) ∧ fit (4 * B) (mgHi a b c d k l1 l3) ∧ ∀ y, y < (d - b).toNat → (mgRow (mgLo a b c d k l0 l2) (mgHi a b c d k l1 l3) (bw a b c d 0) (bw a b c d 1) a k y).length = (c - a).toNat := by
  have ab := valid_b hv
  have wb := bw_bh hv
  have hs : inr 0 4096 b = true := inr_t (by omega) (by omega)
  have ha' : inr 0 4096 a = true := inr_t (by omega) (by omega)
  have ce := cev_bd (s := a) (n := c - a) (by omega)
  have cf := cev_bd (s := b) (n := d - b) (by omega)
  have cl := fun x => iv_bdB (k := k) (s := b) (n := d - b) (B := B) (p := colOf l0 (bw a b c d 0) x (bh a b c d 0)) (q := colOf l2 (bw a b c d 0) x (bh a b c d 2)) (by omega) hk hs (by omega) (by rw [colOf_len, wb.2.2.1]; omega) (by rw [colOf_len, wb.2.2.2.2.1]; omega) (fit_col (by omega) f0 _ _ _) (fit_col (by omega) f2 _ _ _)
  have ch := fun x => iv_bdB (k := k) (s := b) (n := d - b) (B := B) (p := colOf l1 (bw a b c d 1) x (bh a b c d 1)) (q := colOf l3 (bw a b c d 1) x (bh a b c d 3)) (by omega) hk hs (by omega) (by rw [colOf_len, wb.2.2.2.1]; omega) (by rw [colOf_len, wb.2.2.2.2.2]; omega) (fit_col (by omega) f1 _ _ _) (fit_col (by omega) f3 _ _ _)
  have flo : fit (4 * B) (mgLo a b c d k l0 l2) := fit_mat (by omega) fun x _ => (cl x).2
  have fhi : fit (4 * B) (mgHi a b c d k l1 l3) := fit_mat (by omega) fun x _ => (ch x).2
  have llo : (mgLo a b c d k l0 l2).length = (d - b).toNat * bw a b c d 0 := matC_len ..
  have lhi : (mgHi a b c d k l1 l3).length = (d - b).toNat * bw a b c d 1 := matC_len ..
  refine ⟨flo, fhi, fun y hy => ?_⟩
  have := (iv_bdB (k := k) (s := a) (n := c - a) (B := 4 * B) (p := rowAt (mgLo a b c d k l0 l2) (bw a b c d 0) y) (q := rowAt (mgHi a b c d k l1 l3) (bw a b c d 1) y) (by omega) hk ha' (by omega) (by rw [rowAt_len llo hy, wb.1]; omega) (by rw [rowAt_len lhi hy, wb.2.1]; omega) (fit_row flo _ _) (fit_row fhi _ _)).1
  unfold mgRow
  omega
theorem mg_loc {a b c d k B : Int} {l0 l1 l2 l3 l0' l1' l2' l3' : List Int} {W : Rc} (hv : valid a b c d = true) (hk : inr 1 3 k = true) (hB : 4 ≤ B ∧ B ≤ 281474976710656) (f0 : fit B l0) (f1 : fit B l1) (f2 : fit B l2) (f3 : fit B l3) (f0' : fit B l0') (f1' : fit B l1') (f2' : fit B l2') (f3' : fit B l3')
    (A0 : Agr (bnd a b c d 0) l0 l0' (bndR (inter (W.1 - marg k) (W.2.1 - marg k) (W.2.2.1 + marg k) (W.2.2.2 + marg k) a b c d) 0))
    (A1 : Agr (bnd a b c d 1) l1 l1' (bndR (inter (W.1 - marg k) (W.2.1 - marg k) (W.2.2.1 + marg k) (W.2.2.2 + marg k) a b c d) 1))
    (A2 : Agr (bnd a b c d 2) l2 l2' (bndR (inter (W.1 - marg k) (W.2.1 - marg k) (W.2.2.1 + marg k) (W.2.2.2 + marg k) a b c d) 2))
    (A3 : Agr (bnd a b c d 3) l3 l3' (bndR (inter (W.1 - marg k) (W.2.1 - marg k) (W.2.2.1 + marg k) (W.2.2.2 + marg k) a b c d) 3)) :
    Agr (a, b, c, d) (mgL 0 a b c d k l0 l1 l2 l3) (mgL 0 a b c d k l0' l1' l2' l3') W := by
  intro x y hR hK
  have hR : a ≤ x ∧ x < c ∧ b ≤ y ∧ y < d := hR
  have hK : W.1 ≤ x ∧ x < W.2.2.1 ∧ W.2.1 ≤ y ∧ y < W.2.2.2 := hK
  have ab := valid_b hv
  have wb := bw_bh hv
  have bv := bnd_v hv
  have hm : 2 ≤ marg k ∧ marg k ≤ 4 := by rw [marg_M hk]; split <;> omega
  obtain ⟨m, hme⟩ : ∃ m, marg k = m := ⟨_, rfl⟩
  rw [hme] at A0 A1 A2 A3 hm
  have hI : inter (W.1 - m) (W.2.1 - m) (W.2.2.1 + m) (W.2.2.2 + m) a b c d = (max (W.1 - m) a, max (W.2.1 - m) b, min (W.2.2.1 + m) c, min (W.2.2.2 + m) d) := by
    unfold inter
    have : empty (max (W.1 - m) a) (max (W.2.1 - m) b) (min (W.2.2.1 + m) c) (min (W.2.2.2 + m) d) = false := by
      simp only [empty, Bool.or_eq_false_iff, decide_eq_false_iff_not]
      omega
    rw [if_neg (by rw [this]; decide)]
  rw [hI] at A0 A1 A2 A3
  have hvE : valid (max (W.1 - m) a) (max (W.2.1 - m) b) (min (W.2.2.1 + m) c) (min (W.2.2.2 + m) d) = true := valid_i5 (by omega)
  have be := bnd_v hvE
  unfold bndR at A0 A1 A2 A3
  simp only at A0 A1 A2 A3
  rw [be.1, bv.1] at A0
  rw [be.2.1, bv.2.1] at A1
  rw [be.2.2.1, bv.2.2.1] at A2
  rw [be.2.2.2, bv.2.2.2] at A3
  have r := mg_rows hv hk hB f0 f1 f2 f3
  have r' := mg_rows hv hk hB f0' f1' f2' f3'
  have hY : (y - b).toNat < (d - b).toNat := by omega
  have hX : (x - a).toNat < (c - a).toNat := by omega
  have ha' : inr 0 4096 a = true := inr_t (by omega) (by omega)
  have hw : (((c - a).toNat : Nat) : Int) = c - a := by omega
  have ce := cev_bd (s := a) (n := c - a) (by omega)
  have llo : (mgLo a b c d k l0 l2).length = (d - b).toNat * bw a b c d 0 := matC_len ..
  have lhi : (mgHi a b c d k l1 l3).length = (d - b).toNat * bw a b c d 1 := matC_len ..
  have llo' : (mgLo a b c d k l0' l2').length = (d - b).toNat * bw a b c d 0 := matC_len ..
  have lhi' : (mgHi a b c d k l1' l3').length = (d - b).toNat * bw a b c d 1 := matC_len ..
  have g0 : bw a b c d 0 = ((c + 1) / 2 - (a + 1) / 2).toNat := by unfold bw; rw [bv.1]
  have g1 : bw a b c d 1 = (c / 2 - a / 2).toNat := by unfold bw; rw [bv.2.1]
  have c0 : ((bw a b c d 0 : Nat) : Int) = cev a ((c - a).toNat : Nat) := by rw [hw, wb.1]; omega
  have c1 : ((bw a b c d 1 : Nat) : Int) = (((c - a).toNat : Nat) : Int) - cev a ((c - a).toNat : Nat) := by rw [hw, wb.2.1]; omega
  have hcev : cev a (((c - a).toNat : Nat) : Int) = (a + (c - a) + 1) / 2 - (a + 1) / 2 := by rw [hw]; rfl
  show gI _ ((y - b).toNat * (c - a).toNat + (x - a).toNat) = gI _ ((y - b).toNat * (c - a).toNat + (x - a).toNat)
  unfold mgL
  rw [if_pos rfl, if_pos rfl, ← rowAt_gI hX, ← rowAt_gI hX, rowAt_cat _ r.2.2 hY, rowAt_cat _ r'.2.2 hY]
  refine iv_loc (n := (c - a).toNat) (p := rowAt (mgLo a b c d k l0 l2) (bw a b c d 0) (y - b).toNat) (q := rowAt (mgHi a b c d k l1 l3) (bw a b c d 1) (y - b).toNat) (p' := rowAt (mgLo a b c d k l0' l2') (bw a b c d 0) (y - b).toNat) (q' := rowAt (mgHi a b c d k l1' l3') (bw a b c d 1) (y - b).toNat) hk ha' (by omega) (by rw [rowAt_len llo hY]; exact c0) (by rw [rowAt_len lhi hY]; exact c1) (by rw [rowAt_len llo' hY]; exact c0) (by rw [rowAt_len lhi' hY]; exact c1) (fit_mono (fit_row r.1 _ _) (by omega)) (fit_mono (fit_row r.2.1 _ _) (by omega)) (fit_mono (fit_row r'.1 _ _) (by omega)) (fit_mono (fit_row r'.2.1 _ _) (by omega)) hX ?_ ?_
  · intro t ht hd hp
    rw [hme] at hd
    have hlt : ((a + (t : Int)) / 2 - (a + 1) / 2).toNat < bw a b c d 0 := by omega
    rw [rowAt_gI hlt, rowAt_gI hlt]
    unfold mgLo
    rw [matC_gI hlt _ hY, matC_gI hlt _ hY]
    refine col_loc (oo := 0) (oe := 2) (xx := (a + 1) / 2) (W := W) hv hk hB f0 f2 f0' f2' rfl (.inl ⟨rfl, rfl, rfl⟩) hlt hR.2.2 ?_ ?_
    · intro y' q1 q2 q3 q4 q5
      rw [hme] at q3 q4
      have hA := A0 ((a + t) / 2) (y' / 2) (by simp only [inK]; omega) (by simp only [inK]; omega)
      simp only [ixR] at hA
      rw [g0]
      exact hA
    · intro y' q1 q2 q3 q4 q5
      rw [hme] at q3 q4
      have hA := A2 ((a + t) / 2) (y' / 2) (by simp only [inK]; omega) (by simp only [inK]; omega)
      simp only [ixR] at hA
      rw [g0]
      exact hA
  · intro t ht hd hp
    rw [hme] at hd
    have hlt : ((a + (t : Int)) / 2 - a / 2).toNat < bw a b c d 1 := by omega
    rw [rowAt_gI hlt, rowAt_gI hlt]
    unfold mgHi
    rw [matC_gI hlt _ hY, matC_gI hlt _ hY]
    refine col_loc (oo := 1) (oe := 3) (xx := a / 2) (W := W) hv hk hB f1 f3 f1' f3' rfl (.inr ⟨rfl, rfl, rfl⟩) hlt hR.2.2 ?_ ?_
    · intro y' q1 q2 q3 q4 q5
      rw [hme] at q3 q4
      have hA := A1 ((a + t) / 2) (y' / 2) (by simp only [inK]; omega) (by simp only [inK]; omega)
      simp only [ixR] at hA
      rw [g1]
      exact hA
    · intro y' q1 q2 q3 q4 q5
      rw [hme] at q3 q4
      have hA := A3 ((a + t) / 2) (y' / 2) (by simp only [inK]; omega) (by simp only [inK]; omega)
      simp only [ixR] at hA
      rw [g1]
      exact hA
theorem nd_len {a b c d n r e f g h k : Int} (hO : ndOk a b c d n r k = true) : (ndF a b c d n r e f g h k).length = (count n).toNat := by
  have hn : inr 0 5 n = true := by
    simp only [ndOk, Bool.and_eq_true] at hO
    exact hO.1.1.2
  unfold ndF
  rw [if_pos hO]
  split
  · rw [List.length_replicate]
  · rw [List.length_set, ndL_len]
    simp only [count, hn, if_true]
/-- the window on its way down, and what is needed of each subband -/
theorem nd_gR {a b c d n r e f g h k : Int} (hO : ndOk a b c d n r k = true) (hE : empty (ndIn a b c d n r e f g h).1 (ndIn a b c d n r e f g h).2.1 (ndIn a b c d n r e f g h).2.2.1 (ndIn a b c d n r e f g h).2.2.2 = false) :
    gR (ndF a b c d n r e f g h k) 0 = ndW a b c d n (marg k) r (ndIn a b c d n r e f g h) r.toNat ∧ ∀ j t o : Nat, (j : Int) + 1 + t = r → 1 ≤ o → o ≤ 3 → gR (ndF a b c d n r e f g h k) (3 * j + o) = bndR (ndI a b c d n (marg k) r (ndW a b c d n (marg k) r (ndIn a b c d n r e f g h) t) t) o := by
  have hb := hO
  simp only [ndOk, Bool.and_eq_true] at hb
  have hn := inr_b hb.1.1.2
  have hr := inr_b hb.1.2
  have e1 : ndF a b c d n r e f g h k = (ndL a b c d n (marg k) r (ndIn a b c d n r e f g h) r.toNat).set 0 (ndW a b c d n (marg k) r (ndIn a b c d n r e f g h) r.toNat) := by
    unfold ndF
    rw [if_pos hO, if_neg (by rw [hE]; decide)]
  rw [e1]
  constructor
  · have hl := ndL_len (a := a) (b := b) (c := c) (d := d) (n := n) (m := marg k) (res := r) (w := ndIn a b c d n r e f g h) r.toNat
    have hpos : 0 < (ndL a b c d n (marg k) r (ndIn a b c d n r e f g h) r.toNat).length := by rw [hl]; omega
    simp [gR, List.getD_eq_getElem?_getD, List.getElem?_set, hpos]
  · intro j t o ht h1 h3
    have ha := ndAt_at (a := a) (b := b) (c := c) (d := d) (n := n) (m := marg k) (res := r) (w := ndIn a b c d n r e f g h) (j := t) (t := j + 1) (by omega) (by omega) o h1 h3
    rw [show 3 * (j + 1) - 3 + o = 3 * j + o by omega] at ha
    rw [← ha]
    have hi : 3 * j + o < (3 * n + 1).toNat := by omega
    have : gR ((ndL a b c d n (marg k) r (ndIn a b c d n r e f g h) r.toNat).set 0 (ndW a b c d n (marg k) r (ndIn a b c d n r e f g h) r.toNat)) (3 * j + o) = ndG a b c d n (marg k) r (ndIn a b c d n r e f g h) r.toNat (3 * j + o) := by
      have h0 : ¬ 0 = 3 * j + o := by omega
      simp [gR, List.getD_eq_getElem?_getD, List.getElem?_set, h0, ndL, hi]
    rw [this]
    unfold ndG
    rw [if_pos (by omega)]
theorem sy_loc {a b c d n r e f g h k : Int} {v v' : List (Rc × List Int)} (e1 : syErr a b c d n r k v = 0) (e2 : syErr a b c d n r k v' = 0) (hE : empty (ndIn a b c d n r e f g h).1 (ndIn a b c d n r e f g h).2.1 (ndIn a b c d n r e f g h).2.2.1 (ndIn a b c d n r e f g h).2.2.2 = false)
    (hA : ∀ i : Nat, (i : Int) ≤ 3 * r → Agr (bandR a b c d n i) (gN v i).2 (gN v' i).2 (gR (ndF a b c d n r e f g h k) i)) : ∀ j t : Nat, (j : Int) + t = r → Agr (resR a b c d n j) (syS a b c d n k v j).2 (syS a b c d n k v' j).2 (ndW a b c d n (marg k) r (ndIn a b c d n r e f g h) t) := by
  obtain ⟨h1, h2, h3, h4, h5, h6, h7, h8⟩ := syErr_s e1
  obtain ⟨_, _, _, _, _, _, h7', h8'⟩ := syErr_s e2
  have hb := inr_b h3
  have hn := inr_b h2
  have hO : ndOk a b c d n r k = true := by simp only [ndOk, h1, h2, h3, h5, Bool.and_self]
  have nd := nd_gR (e := e) (f := f) (g := g) (h := h) hO hE
  intro j
  induction j with
  | zero =>
    intro t ht
    have := hA 0 (by omega)
    rw [nd.1] at this
    have e0 : bandR a b c d n ((0 : Nat) : Int) = resR a b c d n ((0 : Nat) : Int) := band_0 h2 h1
    rw [e0, show r.toNat = t by omega] at this
    exact this
  | succ j ih =>
    intro t ht
    have hj : (j : Int) + 1 + t = r := by omega
    have p := p16 j (by omega)
    have i3 := (sy_inv e1 j (by omega)).2.2
    have i3' := (sy_inv e2 j (by omega)).2.2
    have F := fun o (ho : o ≤ 3) => fit_mono (syFit_at h8 (i := 3 * j + o) (by omega)) p.2.2
    have F' := fun o (ho : o ≤ 3) => fit_mono (syFit_at h8' (i := 3 * j + o) (by omega)) p.2.2
    have hc : ((j + 1 : Nat) : Int) = (j : Int) + 1 := rfl
    have vr := valid_resR6 a b c d n ((j : Int) + 1)
    have B0 := ih (t + 1) (by omega)
    rw [res_half h2 (show (0 : Int) ≤ j by omega) (by omega)] at B0
    have Bo := fun (o : Nat) (q1 : 1 ≤ o) (q3 : o ≤ 3) => hA (3 * j + o) (by omega)
    have B1 := Bo 1 (by omega) (by omega)
    have B2 := Bo 2 (by omega) (by omega)
    have B3 := Bo 3 (by omega) (by omega)
    rw [nd.2 j t 1 hj (by omega) (by omega), band_at h2 h1 (j := j) (o := 1) (by omega) (by omega) (by omega)] at B1
    rw [nd.2 j t 2 hj (by omega) (by omega), band_at h2 h1 (j := j) (o := 2) (by omega) (by omega) (by omega)] at B2
    rw [nd.2 j t 3 hj (by omega) (by omega), band_at h2 h1 (j := j) (o := 3) (by omega) (by omega) (by omega)] at B3
    rw [syS_s, syS_s, hc]
    have f1 := F 1 (by omega)
    have f2 := F 2 (by omega)
    have f3 := F 3 (by omega)
    have f1' := F' 1 (by omega)
    have f2' := F' 2 (by omega)
    have f3' := F' 3 (by omega)
    have hI : ∀ w, ndI a b c d n (marg k) r w t = inter (w.1 - marg k) (w.2.1 - marg k) (w.2.2.1 + marg k) (w.2.2.2 + marg k) (resR a b c d n ((j : Int) + 1)).1 (resR a b c d n ((j : Int) + 1)).2.1 (resR a b c d n ((j : Int) + 1)).2.2.1 (resR a b c d n ((j : Int) + 1)).2.2.2 := by
      intro w
      unfold ndI
      rw [show r - (t : Int) = (j : Int) + 1 by omega]
    have hW : ndW a b c d n (marg k) r (ndIn a b c d n r e f g h) (t + 1) = bndR (ndI a b c d n (marg k) r (ndW a b c d n (marg k) r (ndIn a b c d n r e f g h) t) t) 0 := rfl
    rw [hW] at B0
    rw [hI] at B0 B1 B2 B3
    generalize ndW a b c d n (marg k) r (ndIn a b c d n r e f g h) t = W at *
    generalize syB j = B at *
    generalize resR a b c d n ((j : Int) + 1) = R at *
    exact mg_loc vr h5 ⟨p.1, p.2.1⟩ i3 f1 f2 f3 i3' f1' f2' f3' B0 B1 B2 B3
theorem q_rect_Has (a b c d x y : Int) (hok : true = true) : funR Try.prog t_rect_Has (annOf []) l_rect_Has 20 Try.f73 [.agg [.int .i64 a, .int .i64 b, .int .i64 c, .int .i64 d], .agg [.int .i64 x, .int .i64 y]] [] = some ⟨.one (.bool (has a b c d x y)), [], []⟩ := by
    refine (e_rect_Has ..).trans ?_
    simp only [ite2_dec, ite2_bool, mx_eq, mn_eq, has]
    (repeat' split) <;> (try simp_all) <;> (try omega) <;> (try (rw [Bool.eq_iff_iff]; simp; omega))
theorem s_rect_Has : SoundFun Try.prog 73 G_rect_Has := by
  refine fun_ok (tab := t_rect_Has) (ann := annOf []) (lt := l_rect_Has) tab_nil (by kernel_rfl) (fn := Try.f73) (by kernel_rfl) (by decide) (c := bodyOf Try.f73) (by kernel_rfl) (no_loops (by kernel_rfl)) ?_ (keep_nil (by kernel_rfl))
  intro args lent o y0'
  unfold G_rect_Has at y0'
  obtain ⟨q', args, rfl, y1'⟩ := pA_s y0'
  obtain ⟨a, b, c, d, q', rfl, y2'⟩ := t4_s y1'
  obtain ⟨rfl, y3'⟩ := tE_s y2'
  obtain ⟨q', args, rfl, y4'⟩ := pA_s y3'
  obtain ⟨x, q', rfl, y5'⟩ := tI_s y4'
  obtain ⟨y, q', rfl, y6'⟩ := tI_s y5'
  obtain ⟨rfl, y7'⟩ := tE_s y6'
  obtain ⟨rfl, y8'⟩ := pE_s y7'
  obtain ⟨rfl, y9'⟩ := nE_s y8'
  have yy' := y9'
  unfold H_rect_Has at yy'
  obtain ⟨hok, rfl⟩ := Prod.mk.inj (Option.some.inj yy')
  exact ⟨20, q_rect_Has _ _ _ _ _ _ hok⟩
theorem cp_ix {e f g h x0 x1 x2 x3 : Int} {l : List Int} (hv : plV e f g h l = true) (hx : e ≤ x0 ∧ x0 ≤ x2 ∧ x2 ≤ g ∧ f ≤ x1 ∧ x3 ≤ h) {j : Nat} (hj : (j : Int) < x3 - x1) : ∃ F W : Nat, ((F : Nat) : Int) = (x1 + (j : Int) - f) * (g - e) + x0 - e ∧ (W : Int) = x2 - x0 ∧ F + W ≤ l.length ∧ 0 ≤ (x1 + (j : Int) - f) * (g - e) ∧ (x1 + (j : Int) - f) * (g - e) ≤ 16777216 ∧ l.length ≤ 1048576 := by
  have pb := plV_b hv
  have h1 : 0 ≤ (x1 + (j : Int) - f) * (g - e) := Int.mul_nonneg (by omega) (by omega)
  have h2 : (x1 + (j : Int) - f + 1) * (g - e) ≤ (h - f) * (g - e) := Int.mul_le_mul_of_nonneg_right (by omega) (by omega)
  have h3 : (h - f) * (g - e) = (g - e) * (h - f) := Int.mul_comm ..
  have h4 : (x1 + (j : Int) - f + 1) * (g - e) = (x1 + (j : Int) - f) * (g - e) + (g - e) := by rw [Int.add_mul, Int.one_mul]
  refine ⟨((x1 + (j : Int) - f) * (g - e) + x0 - e).toNat, (x2 - x0).toNat, ?_, ?_, ?_, h1, ?_, ?_⟩
  · rw [Int.toNat_of_nonneg (by omega)]
  · rw [Int.toNat_of_nonneg (by omega)]
  · omega
  · omega
  · omega
theorem cp_step (e f g : Int) (l : List Int) (x0 x1 x2 : Int) (u : List Int) {j F W : Nat} (hF : (F : Int) = (x1 + (j : Int) - f) * (g - e) + x0 - e) (hW : (W : Int) = x2 - x0) (hl : F + W ≤ l.length) (hc : (catR (cpR e f g l x0 x1 x2) j).length = j * W) :
    (cpT e f g l x0 x1 x2 u j).take (j * W) ++ ((l.drop F).take W).take W ++ (cpT e f g l x0 x1 x2 u j).drop (j * W + min ((l.drop F).take W).length W) = cpT e f g l x0 x1 x2 u (j + 1) := by
  have e1 : cpR e f g l x0 x1 x2 j = (l.drop F).take W := by
    unfold cpR
    rw [show (((j : Int) + x1 - f) * (g - e) + x0 - e).toNat = F by rw [Int.add_comm (j : Int) x1, ← hF]; omega, show (x2 - x0).toNat = W by omega]
  have e2 : ((l.drop F).take W).length = W := by rw [List.length_take, List.length_drop]; omega
  have e3 : (x2 - x0).toNat = W := by omega
  have hd : List.drop (j * W + W) (catR (cpR e f g l x0 x1 x2) j) = [] := List.drop_of_length_le (by omega)
  unfold cpT
  rw [e2, Nat.min_self, e3]
  simp only [catR]
  rw [List.take_append_of_le_length (by omega), List.take_of_length_le (by omega), e1, List.take_take, Nat.min_self, List.drop_append, hd, List.nil_append, hc, List.drop_drop, show j * W + (j * W + W - j * W) = (j + 1) * W by rw [Nat.succ_mul]; omega]
  all_goals (try rfl)
theorem cpR_len {e f g h x0 x1 x2 x3 : Int} {l : List Int} (hv : plV e f g h l = true) (hx : e ≤ x0 ∧ x0 ≤ x2 ∧ x2 ≤ g ∧ f ≤ x1 ∧ x3 ≤ h) {j : Nat} (hj : (j : Int) < x3 - x1) : (cpR e f g l x0 x1 x2 j).length = (x2 - x0).toNat := by
  obtain ⟨F, W, hF, hW, hl, _⟩ := cp_ix hv hx hj
  unfold cpR
  rw [show (((j : Int) + x1 - f) * (g - e) + x0 - e).toNat = F by rw [Int.add_comm (j : Int) x1, ← hF]; omega, List.length_take, List.length_drop]
  omega
theorem d_pl_part_0 {α : Type} {vs : List V} {bl : List (Option Blk)} {K} {r0' : α} {Q : Prop} (y0' : D_pl_part_0 vs bl K = some r0') (hh' : ∀ (a0 : Int) (a1 : Int) (a2 : Int) (a3 : Int) (e : Int) (f : Int) (g : Int) (h : Int) (x0 : Int) (x1 : Int) (x2 : Int) (x3 : Int) (y : Int) (u : List Int) (l : List Int), vs = [.one (.ptr 1 0), .one (.ptr 2 0), .one (.ptr 3 0), .one (.int .i64 y)] → bl = [some (.arr 3 (.int .i64) u), some (.box [.int .i64 a0, .int .i64 a1, .int .i64 a2, .int .i64 a3, .row 0]), some (.box [.int .i64 e, .int .i64 f, .int .i64 g, .int .i64 h, .lst (.int .i64) l]), some (.box [.int .i64 x0, .int .i64 x1, .int .i64 x2, .int .i64 x3])] → K a0 a1 a2 a3 e f g h x0 x1 x2 x3 y u l = some r0' → Q) : Q := by
  unfold D_pl_part_0 at y0'
  obtain ⟨vs, rfl, y1'⟩ := pP_s y0'
  obtain ⟨vs, rfl, y2'⟩ := pP_s y1'
  obtain ⟨vs, rfl, y3'⟩ := pP_s y2'
  obtain ⟨y, vs, rfl, y4'⟩ := pI_s y3'
  obtain ⟨rfl, y5'⟩ := pE_s y4'
  obtain ⟨u, bl, rfl, y6'⟩ := bAI_s y5'
  obtain ⟨q', bl, rfl, y7'⟩ := bB_s y6'
  obtain ⟨a0, a1, a2, a3, rfl, y8'⟩ := rd1P_s y7'
  obtain ⟨q', bl, rfl, y9'⟩ := bB_s y8'
  obtain ⟨e, f, g, h, q', rfl, y10'⟩ := t4_s y9'
  obtain ⟨c', q', rfl, y11'⟩ := tC_s y10'
  obtain ⟨l, rfl, y12'⟩ := kLI_s y11'
  obtain ⟨rfl, y13'⟩ := tE_s y12'
  obtain ⟨q', bl, rfl, y14'⟩ := bB_s y13'
  obtain ⟨x0, x1, x2, x3, q', rfl, y15'⟩ := t4_s y14'
  obtain ⟨rfl, y16'⟩ := tE_s y15'
  obtain ⟨rfl, y17'⟩ := bE_s y16'
  have yy' := y17'
  exact hh' _ _ _ _ _ _ _ _ _ _ _ _ _ _ _ rfl rfl yy'
theorem r_pl_part_0 : RoundOk Try.prog t_pl_part (annOf []) l_pl_part Out 20 1 70 [3, 4, 5, 6] (kxOf [] []) (loopOf Try.f75 0) T_pl_part_0 := by
  intro vs bl Kc r h
  unfold T_pl_part_0 at h
  obtain ⟨t, y0', h'⟩ := getD_run h
  refine d_pl_part_0 y0' fun a0 a1 a2 a3 e f g h x0 x1 x2 x3 y u l u1' u2' yy' => ?_
  subst u1' u2'
  cases yy'
  exact (b_pl_part_0 ..).trans h'
theorem o_pl_part : loopsOf (bodyOf Try.f75) = [loopOf Try.f75 0] := by kernel_rfl
theorem zz_pl_part_0 (a0 a1 a2 a3 e f g h x0 x1 x2 x3 y : Int) (u l : List Int) (hk : k_pl_part_0 a0 a1 a2 a3 e f g h x0 x1 x2 x3 y u l = true) : ZZ (c_pl_part_0 a0 a1 a2 a3 e f g h x0 x1 x2 x3 y u l) T_pl_part_0 [.one (.ptr 1 0), .one (.ptr 2 0), .one (.ptr 3 0), .one (.int .i64 y)] [some (.arr 3 (.int .i64) u), some (.box [.int .i64 a0, .int .i64 a1, .int .i64 a2, .int .i64 a3, .row 0]), some (.box [.int .i64 e, .int .i64 f, .int .i64 g, .int .i64 h, .lst (.int .i64) l]), some (.box [.int .i64 x0, .int .i64 x1, .int .i64 x2, .int .i64 x3])] := by
  simp only [k_pl_part_0, Bool.and_eq_true, decide_eq_true_eq, and_assoc, Prod.mk.injEq] at hk
  obtain ⟨rfl, rfl, rfl, rfl, rfl, hv, hr, q1, q2, q3, q4, hu⟩ := hk
  have pb := plV_b hv
  have rb := valid_b hr
  refine Exists.elim (z_fold (T := T_pl_part_0) (st := fun j => ([.one (.ptr 1 0), .one (.ptr 2 0), .one (.ptr 3 0), .one (.int .i64 (a1 + (j : Int)))], [some (.arr 3 (.int .i64) (cpT e f g l a0 a1 a2 u j)), some (.box [.int .i64 a0, .int .i64 a1, .int .i64 a2, .int .i64 a3, .row 0]), some (.box [.int .i64 e, .int .i64 f, .int .i64 g, .int .i64 h, .lst (.int .i64) l]), some (.box [.int .i64 a0, .int .i64 a1, .int .i64 a2, .int .i64 a3])])) (a3 - a1).toNat (.leaf (.exit 0) [] [some (.arr 3 (.int .i64) (cpL e f g l a0 a1 a2 a3))]) (fun j hj F K => ?_) (fun F K => ?_)) (fun k hk => ⟨k, fun K r h' => ?_⟩)
  · obtain ⟨F', W, hF, hW, hl, m1, m2, m3⟩ := cp_ix (x0 := a0) (x1 := a1) (x2 := a2) (x3 := a3) hv ⟨q1, by omega, q2, q3, q4⟩ (j := j) (by omega)
    have hcl := catR_len (f := cpR e f g l a0 a1 a2) (g := W) j (fun i hi => by rw [cpR_len (x3 := a3) hv ⟨q1, by omega, q2, q3, q4⟩ (by omega)]; omega)
    have hst := cp_step e f g l a0 a1 a2 u hF hW hl hcl
    have ej : (a1 + (j : Int) - a1) = (j : Int) := by omega
    have jW : (j : Int) * (W : Int) = ((j * W : Nat) : Int) := by rw [Int.natCast_mul]
    have jb : (j + 1) * W ≤ 4096 * 4096 := Nat.mul_le_mul (by omega) (by omega)
    rw [Nat.succ_mul] at jb
    have hn : (a3 - a1).toNat * W = (a3 - a1).toNat * (a2 - a0).toNat := by rw [show (a2 - a0).toNat = W by omega]
    have jn : (j + 1) * W ≤ (a3 - a1).toNat * W := Nat.mul_le_mul_right _ (by omega)
    rw [Nat.succ_mul] at jn
    have hlen : (cpT e f g l a0 a1 a2 u j).length = u.length := by
      unfold cpT
      rw [List.length_append, hcl, List.length_drop, show (a2 - a0).toNat = W by omega]
      omega
    have t1 : IntKind.wrap .i64 (IntKind.wrap .i64 (IntKind.wrap .i64 (IntKind.wrap .i64 (a1 + (j : Int) - a1) * IntKind.wrap .i64 (a2 - a0)) + a0) - a0) = ((j * W : Nat) : Int) := by
      rw [ej, wrap_in (n := (j : Int)) (by omega) (by omega), ← hW, wrap_in (n := (W : Int)) (by omega) (by omega), jW, wrap_in (n := ((j * W : Nat) : Int)) (by omega) (by omega), wrap_in (n := ((j * W : Nat) : Int) + a0) (by omega) (by omega), wrap_in (by omega) (by omega)]
      omega
    have t2 : IntKind.wrap .i64 (IntKind.wrap .i64 (((j * W : Nat) : Int) + a2) - a0) = ((j * W + W : Nat) : Int) := by
      rw [wrap_in (n := ((j * W : Nat) : Int) + a2) (by omega) (by omega), wrap_in (by omega) (by omega)]
      omega
    have s1 : IntKind.wrap .i64 (IntKind.wrap .i64 (IntKind.wrap .i64 (IntKind.wrap .i64 (a1 + (j : Int) - f) * IntKind.wrap .i64 (g - e)) + a0) - e) = (F' : Int) := by
      rw [wrap_in (n := a1 + (j : Int) - f) (by omega) (by omega), wrap_in (n := g - e) (by omega) (by omega), wrap_in (n := (a1 + (j : Int) - f) * (g - e)) (by omega) (by omega), wrap_in (n := (a1 + (j : Int) - f) * (g - e) + a0) (by omega) (by omega), wrap_in (by omega) (by omega), hF]
    have s2 : IntKind.wrap .i64 (IntKind.wrap .i64 ((F' : Int) + a2) - a0) = ((F' + W : Nat) : Int) := by
      rw [wrap_in (n := (F' : Int) + a2) (by omega) (by omega), wrap_in (by omega) (by omega)]
      omega
    simp only [tu_pl_part_0, U_pl_part_0, LT.next, LT.run, ite2_bool, decide_eq_true_eq, t1, s1, t2, s2, Int.toNat_natCast, hlen, Bool.and_eq_true, Nat.add_sub_cancel_left]
    rw [if_pos (by omega), if_pos (by omega), if_pos (by omega), wrap_in (n := a1 + (j : Int) + 1) (by omega) (by omega), show a1 + (j : Int) + 1 = a1 + ((j + 1 : Nat) : Int) by omega, ← hst]
    first
      | done
      | rfl
  · simp only [tu_pl_part_0, U_pl_part_0, LT.next, LT.run, ite2_bool, decide_eq_true_eq]
    rw [if_neg (by omega)]
    have : cpT e f g l a0 a1 a2 u (a3 - a1).toNat = cpL e f g l a0 a1 a2 a3 := by
      unfold cpT cpL
      rw [List.drop_of_length_le (by omega), List.append_nil]
    rw [this]
  · have h2 := hk K r h'
    rw [show a1 + ((0 : Nat) : Int) = a1 by simp, show cpT e f g l a0 a1 a2 u 0 = u by simp [cpT, catR]] at h2
    exact h2
theorem z_pl_part_0 : ZOk S_pl_part_0 T_pl_part_0 := by
  intro vs bl t y0'
  refine d_pl_part_0 y0' fun a0 a1 a2 a3 e f g h x0 x1 x2 x3 y u l u1' u2' yy' => ?_
  subst u1' u2'
  obtain ⟨hk, rfl⟩ := Prod.mk.inj (Option.some.inj yy')
  exact zz_pl_part_0 _ _ _ _ _ _ _ _ _ _ _ _ _ _ _ hk
theorem q_pl_part (a0 a1 a2 a3 e f g h x0 x1 x2 x3 : Int) (u l : List Int) (hok : (decide ((a0, a1, a2, a3) = (x0, x1, x2, x3)) && plV e f g h l && valid x0 x1 x2 x3 && decide (e ≤ x0) && decide (x2 ≤ g) && decide (f ≤ x1) && decide (x3 ≤ h) && decide (u.length = (x3 - x1).toNat * (x2 - x0).toNat)) = true) : funR Try.prog t_pl_part (annOf []) l_pl_part 20 Try.f75 [.agg [.int .i64 a0, .int .i64 a1, .int .i64 a2, .int .i64 a3, .row 0], .agg [.int .i64 e, .int .i64 f, .int .i64 g, .int .i64 h, .lst (.int .i64) l], .agg [.int .i64 x0, .int .i64 x1, .int .i64 x2, .int .i64 x3]] [.arr 3 (.int .i64) u] = some ⟨.tup [], [some (.arr 3 (.int .i64) (cpL e f g l x0 x1 x2 x3))], []⟩ := by
    refine (e_pl_part ..).trans ?_
    have hk : k_pl_part_0 a0 a1 a2 a3 e f g h x0 x1 x2 x3 x1 u l = true := by
      simp only [k_pl_part_0, hok, decide_true, Bool.and_self]
    rw [hk]
    rfl
theorem s_pl_part : SoundFun Try.prog 75 G_pl_part := by
  refine fun_ok (tab := t_pl_part) (ann := annOf []) (lt := l_pl_part) (tab_cons s_pl_width tab_nil) (by kernel_rfl) (fn := Try.f75) (by kernel_rfl) (by decide) (c := bodyOf Try.f75) (by kernel_rfl) (by
    intro m b hb
    have hb' : b ∈ loopsOf (bodyOf Try.f75) := hb
    rw [o_pl_part] at hb'
    simp only [List.mem_cons, List.not_mem_nil, or_false] at hb'
    rcases hb' with rfl
    · exact loop_ok (key := 2) (by kernel_rfl) rfl r_pl_part_0 z_pl_part_0 m
    ) ?_ (keep_nil (by kernel_rfl))
  intro args lent o y0'
  unfold G_pl_part at y0'
  replace y0' := lendG_s y0'
  obtain ⟨q', args, rfl, y1'⟩ := pA_s y0'
  obtain ⟨a0, a1, a2, a3, rfl, y2'⟩ := rd1P_s y1'
  obtain ⟨q', args, rfl, y3'⟩ := pA_s y2'
  obtain ⟨e, f, g, h, q', rfl, y4'⟩ := t4_s y3'
  obtain ⟨c', q', rfl, y5'⟩ := tC_s y4'
  obtain ⟨l, rfl, y6'⟩ := kLI_s y5'
  obtain ⟨rfl, y7'⟩ := tE_s y6'
  obtain ⟨q', args, rfl, y8'⟩ := pA_s y7'
  obtain ⟨x0, x1, x2, x3, q', rfl, y9'⟩ := t4_s y8'
  obtain ⟨rfl, y10'⟩ := tE_s y9'
  obtain ⟨rfl, y11'⟩ := pE_s y10'
  obtain ⟨u, lent, rfl, y12'⟩ := nAI_s y11'
  obtain ⟨rfl, y13'⟩ := nE_s y12'
  have yy' := y13'
  unfold H_pl_part at yy'
  obtain ⟨hok, rfl⟩ := Prod.mk.inj (Option.some.inj yy')
  exact ⟨20, q_pl_part _ _ _ _ _ _ _ _ _ _ _ _ _ _ hok⟩
theorem rpT_len (a b c : Int) (l : List Int) (e f g h s : Int) (j : Nat) : (rpT a b c l e f g h s j).length = l.length := by simp [rpT]
theorem rpT_0 (a b c : Int) (l : List Int) (e f g h s : Int) : rpT a b c l e f g h s 0 = List.replicate l.length 0 := by
  apply List.ext_getElem (by simp [rpT])
  intro i h1 h2
  simp [rpT]
theorem rpT_n (a b c : Int) (l : List Int) (e f g h s : Int) : rpT a b c l e f g h s l.length = rpL a b c l e f g h s := by
  unfold rpT rpL
  apply List.map_congr_left
  intro i hi
  rw [if_pos (List.mem_range.1 hi)]
theorem rpT_s {a b c : Int} {l : List Int} {e f g h s : Int} {j : Nat} {X : Int} (hX : rpF a b c l e f g h s j = X) : (rpT a b c l e f g h s j).set j X = rpT a b c l e f g h s (j + 1) := by
  apply List.ext_getElem (by simp [rpT])
  intro i h1 h2
  simp only [rpT, List.getElem_set, List.getElem_map, List.getElem_range]
  split
  · rename_i q; subst q; rw [if_pos (by omega), hX]
  · by_cases q : i < j
    · rw [if_pos q, if_pos (by omega)]
    · rw [if_neg q, if_neg (by omega)]
theorem d_law_replaced_0 {α : Type} {vs : List V} {bl : List (Option Blk)} {K} {r0' : α} {Q : Prop} (y0' : D_law_replaced_0 vs bl K = some r0') (hh' : ∀ (a : Int) (b : Int) (c : Int) (d : Int) (e : Int) (f : Int) (g : Int) (h : Int) (s : Int) (t : Int) (n : Int) (i : Int) (z0 : Int) (z1 : Int) (z2 : Int) (z3 : Int) (o0 : Int) (o1 : Int) (o2 : Int) (o3 : Int) (l : List Int) (y0 : List Int) (v : List Int), vs = [.one (.int .i64 s), .one (.ptr 0 0), .one (.ptr 1 0), .one (.ptr 2 0), .one (.ptr 3 0), .one (.int .i64 t), .one (.int .i64 n), .one (.int .i64 i)] → bl = [some (.box [.int .i64 a, .int .i64 b, .int .i64 c, .int .i64 d, .lst (.int .i64) l]), some (.box [.int .i64 e, .int .i64 f, .int .i64 g, .int .i64 h]), some (.box [.int .i64 z0, .int .i64 z1, .int .i64 z2, .int .i64 z3, .row 4]), some (.box [.int .i64 o0, .int .i64 o1, .int .i64 o2, .int .i64 o3, .row 5]), some (.arr 3 (.int .i64) y0), some (.arr 3 (.int .i64) v)] → K a b c d e f g h s t n i z0 z1 z2 z3 o0 o1 o2 o3 l y0 v = some r0' → Q) : Q := by
  unfold D_law_replaced_0 at y0'
  obtain ⟨s, vs, rfl, y1'⟩ := pI_s y0'
  obtain ⟨vs, rfl, y2'⟩ := pP_s y1'
  obtain ⟨vs, rfl, y3'⟩ := pP_s y2'
  obtain ⟨vs, rfl, y4'⟩ := pP_s y3'
  obtain ⟨vs, rfl, y5'⟩ := pP_s y4'
  obtain ⟨t, vs, rfl, y6'⟩ := pI_s y5'
  obtain ⟨n, vs, rfl, y7'⟩ := pI_s y6'
  obtain ⟨i, vs, rfl, y8'⟩ := pI_s y7'
  obtain ⟨rfl, y9'⟩ := pE_s y8'
  obtain ⟨q', bl, rfl, y10'⟩ := bB_s y9'
  obtain ⟨a, b, c, d, q', rfl, y11'⟩ := t4_s y10'
  obtain ⟨c', q', rfl, y12'⟩ := tC_s y11'
  obtain ⟨l, rfl, y13'⟩ := kLI_s y12'
  obtain ⟨rfl, y14'⟩ := tE_s y13'
  obtain ⟨q', bl, rfl, y15'⟩ := bB_s y14'
  obtain ⟨e, f, g, h, q', rfl, y16'⟩ := t4_s y15'
  obtain ⟨rfl, y17'⟩ := tE_s y16'
  obtain ⟨q', bl, rfl, y18'⟩ := bB_s y17'
  obtain ⟨z0, z1, z2, z3, rfl, y19'⟩ := rd1P_s y18'
  obtain ⟨q', bl, rfl, y20'⟩ := bB_s y19'
  obtain ⟨o0, o1, o2, o3, rfl, y21'⟩ := rd1P_s y20'
  obtain ⟨y0, bl, rfl, y22'⟩ := bAI_s y21'
  obtain ⟨v, bl, rfl, y23'⟩ := bAI_s y22'
  obtain ⟨rfl, y24'⟩ := bE_s y23'
  have yy' := y24'
  exact hh' _ _ _ _ _ _ _ _ _ _ _ _ _ _ _ _ _ _ _ _ _ _ _ rfl rfl yy'
theorem r_law_replaced_0 : RoundOk Try.prog t_law_replaced (annOf []) l_law_replaced Out 20 0 74 [2, 3, 4, 6, 7, 8, 26, 27] (kxOf [6, 7] [6]) (loopOf Try.f35 0) T_law_replaced_0 := by
  intro vs bl Kc r h
  unfold T_law_replaced_0 at h
  obtain ⟨t, y0', h'⟩ := getD_run h
  refine d_law_replaced_0 y0' fun a b c d e f g h s t n i z0 z1 z2 z3 o0 o1 o2 o3 l y0 v u1' u2' yy' => ?_
  subst u1' u2'
  cases yy'
  exact (b_law_replaced_0 ..).trans h'
theorem o_law_replaced : loopsOf (bodyOf Try.f35) = [loopOf Try.f35 0] := by kernel_rfl
theorem zz_law_replaced_0 (a b c d e f g h s t n i z0 z1 z2 z3 o0 o1 o2 o3 : Int) (l y0 v : List Int) (hk : k_law_replaced_0 a b c d e f g h s t n i z0 z1 z2 z3 o0 o1 o2 o3 l y0 v = true) : ZZ (c_law_replaced_0 a b c d e f g h s t n i z0 z1 z2 z3 o0 o1 o2 o3 l y0 v) T_law_replaced_0 [.one (.int .i64 s), .one (.ptr 0 0), .one (.ptr 1 0), .one (.ptr 2 0), .one (.ptr 3 0), .one (.int .i64 t), .one (.int .i64 n), .one (.int .i64 i)] [some (.box [.int .i64 a, .int .i64 b, .int .i64 c, .int .i64 d, .lst (.int .i64) l]), some (.box [.int .i64 e, .int .i64 f, .int .i64 g, .int .i64 h]), some (.box [.int .i64 z0, .int .i64 z1, .int .i64 z2, .int .i64 z3, .row 4]), some (.box [.int .i64 o0, .int .i64 o1, .int .i64 o2, .int .i64 o3, .row 5]), some (.arr 3 (.int .i64) y0), some (.arr 3 (.int .i64) v)] := by
  simp only [k_law_replaced_0, Bool.and_eq_true, decide_eq_true_eq, and_assoc] at hk
  obtain ⟨rfl, rfl, rfl, rfl, hs', hi⟩ := hk
  have hs : small l.length = true := small_d hs'
  have si := inr_b hi
  refine Exists.elim (z_fold (T := T_law_replaced_0) (st := fun j => ([.one (.int .i64 s), .one (.ptr 0 0), .one (.ptr 1 0), .one (.ptr 2 0), .one (.ptr 3 0), .one (.int .i64 (rpW a c)), .one (.int .i64 (l.length : Int)), .one (.int .i64 (j : Int))], [some (.box [.int .i64 a, .int .i64 b, .int .i64 c, .int .i64 d, .lst (.int .i64) l]), some (.box [.int .i64 e, .int .i64 f, .int .i64 g, .int .i64 h]), some (.box [.int .i64 z0, .int .i64 z1, .int .i64 z2, .int .i64 z3, .row 4]), some (.box [.int .i64 o0, .int .i64 o1, .int .i64 o2, .int .i64 o3, .row 5]), some (.arr 3 (.int .i64) y0), some (.arr 3 (.int .i64) (rpT a b c l e f g h s j))])) l.length (.leaf (.exit 0) [.one (.ptr 0 0), .one (.ptr 1 0)] [some (.box [.int .i64 z0, .int .i64 z1, .int .i64 z2, .int .i64 z3, .row 2]), some (.box [.int .i64 o0, .int .i64 o1, .int .i64 o2, .int .i64 o3, .row 3]), some (.arr 3 (.int .i64) y0), some (.arr 3 (.int .i64) (rpL a b c l e f g h s))]) (fun j hj F K => ?_) (fun F K => ?_)) (fun k hk => ⟨k, fun K r h' => ?_⟩)
  · have hl := rpT_len a b c l e f g h s j
    have hc : 0 ≤ (j : Int) ∧ (j : Int) < (l.length : Int) := by omega
    have jj : (j : Int) * (j : Int) ≤ 16777216 * 16777216 := Int.mul_le_mul (by omega) (by omega) (by omega) (by omega)
    have j0 : 0 ≤ (j : Int) * (j : Int) := Int.mul_nonneg (by omega) (by omega)
    have wv : IntKind.wrap .i64 (Int.tmod (IntKind.wrap .i64 (IntKind.wrap .i64 ((j : Int) * (j : Int)) + s)) 1000 - 500) = Int.tmod ((j : Int) * (j : Int) + s) 1000 - 500 := by
      rw [wrap_in (n := (j : Int) * (j : Int)) (by omega) (by omega), wrap_in (n := (j : Int) * (j : Int) + s) (by omega) (by omega), Int.tmod_eq_emod_of_nonneg (by omega), wrap_in (by omega) (by omega)]
    simp only [tu_law_replaced_0, U_law_replaced_0, LT.next, LT.run, ite2_bool, decide_eq_true_eq, Int.toNat_natCast, List.length_set, hl, if_pos hc, if_pos hc.2, if_pos hj, List.set_set, wv]
    rw [wrap_next hj hs]
    by_cases t0 : rpW a c > 0
    · have t1 : (!decide (rpW a c = 0)) = true := by simp; omega
      simp only [if_pos t0, t1, if_true]
      rcases Bool.eq_false_or_eq_true (has e f g h (IntKind.wrap .i64 (a + Int.tmod (j : Int) (rpW a c))) (IntKind.wrap .i64 (b + IntKind.wrap .i64 (Int.tdiv (j : Int) (rpW a c))))) with x | x
      · have hX : rpF a b c l e f g h s j = gI l j := by unfold rpF rpH; rw [x]; simp
        have hst := rpT_s hX
        rw [if_neg (by rw [x]; decide), ← hst]
        first
          | done
          | rfl
      · have hX : rpF a b c l e f g h s j = Int.tmod ((j : Int) * (j : Int) + s) 1000 - 500 := by unfold rpF rpH; rw [x]; simp [t0]
        have hst : ((rpT a b c l e f g h s j).set j (gI l j)).set j (Int.tmod ((j : Int) * (j : Int) + s) 1000 - 500) = rpT a b c l e f g h s (j + 1) := by rw [List.set_set]; exact rpT_s hX
        rw [if_pos (by rw [x]; rfl), ← hst]
        first
          | done
          | rfl
    · have hX : rpF a b c l e f g h s j = gI l j := by unfold rpF rpH; simp [t0]
      have hst := rpT_s hX
      rw [if_neg t0, ← hst]
      first
        | done
        | rfl
  · simp only [tu_law_replaced_0, U_law_replaced_0, LT.next, LT.run, ite2_bool, decide_eq_true_eq]
    rw [if_neg (by omega), rpT_n]
  · have h2 := hk K r h'
    rw [rpT_0] at h2
    exact h2
theorem z_law_replaced_0 : ZOk S_law_replaced_0 T_law_replaced_0 := by
  intro vs bl t y0'
  refine d_law_replaced_0 y0' fun a b c d e f g h s t n i z0 z1 z2 z3 o0 o1 o2 o3 l y0 v u1' u2' yy' => ?_
  subst u1' u2'
  obtain ⟨hk, rfl⟩ := Prod.mk.inj (Option.some.inj yy')
  exact zz_law_replaced_0 _ _ _ _ _ _ _ _ _ _ _ _ _ _ _ _ _ _ _ _ _ _ _ hk
theorem q_law_replaced (a b c d e f g h s : Int) (l : List Int) (hok : (decide (l.length ≤ 16777216) && inr 0 100 s) = true) : funR Try.prog t_law_replaced (annOf []) l_law_replaced 20 Try.f35 [.agg [.int .i64 a, .int .i64 b, .int .i64 c, .int .i64 d, .lst (.int .i64) l], .agg [.int .i64 e, .int .i64 f, .int .i64 g, .int .i64 h], .one (.int .i64 s)] [] = some ⟨.agg [.int .i64 a, .int .i64 b, .int .i64 c, .int .i64 d, .row 0], [], [.arr 3 (.int .i64) (rpL a b c l e f g h s)]⟩ := by
    refine (e_law_replaced ..).trans ?_
    simp only [Bool.and_eq_true] at hok
    have h1 := hok.1
    simp only [decide_eq_true_eq] at h1
    simp only [ite2_bool, decide_eq_true_eq, Int.toNat_natCast]
    rw [if_pos (by omega), if_pos (by simp only [k_law_replaced_0, rpW, hok.1, hok.2, decide_true, Bool.and_self])]
theorem s_law_replaced : SoundFun Try.prog 35 G_law_replaced := by
  refine fun_ok (tab := t_law_replaced) (ann := annOf []) (lt := l_law_replaced) (tab_cons s_rect_Has tab_nil) (by kernel_rfl) (fn := Try.f35) (by kernel_rfl) (by decide) (c := bodyOf Try.f35) (by kernel_rfl) (by
    intro m b hb
    have hb' : b ∈ loopsOf (bodyOf Try.f35) := hb
    rw [o_law_replaced] at hb'
    simp only [List.mem_cons, List.not_mem_nil, or_false] at hb'
    rcases hb' with rfl
    · exact loop_ok (key := 4) (by kernel_rfl) rfl r_law_replaced_0 z_law_replaced_0 m
    ) ?_ (keep_nil (by kernel_rfl))
  intro args lent o y0'
  unfold G_law_replaced at y0'
  obtain ⟨q', args, rfl, y1'⟩ := pA_s y0'
  obtain ⟨a, b, c, d, q', rfl, y2'⟩ := t4_s y1'
  obtain ⟨c', q', rfl, y3'⟩ := tC_s y2'
  obtain ⟨l, rfl, y4'⟩ := kLI_s y3'
  obtain ⟨rfl, y5'⟩ := tE_s y4'
  obtain ⟨q', args, rfl, y6'⟩ := pA_s y5'
  obtain ⟨e, f, g, h, q', rfl, y7'⟩ := t4_s y6'
  obtain ⟨rfl, y8'⟩ := tE_s y7'
  obtain ⟨s, args, rfl, y9'⟩ := pI_s y8'
  obtain ⟨rfl, y10'⟩ := pE_s y9'
  obtain ⟨rfl, y11'⟩ := nE_s y10'
  have yy' := y11'
  unfold H_law_replaced at yy'
  obtain ⟨hok, rfl⟩ := Prod.mk.inj (Option.some.inj yy')
  exact ⟨20, q_law_replaced _ _ _ _ _ _ _ _ _ _ hok⟩
theorem cont_s {e f g h x0 x1 x2 x3 : Int} (hc : contains e f g h x0 x1 x2 x3 = true) (he : empty x0 x1 x2 x3 = false) : e ≤ x0 ∧ x2 ≤ g ∧ f ≤ x1 ∧ x3 ≤ h := by
  unfold contains at hc
  rw [he, Bool.false_or, decide_eq_true_eq] at hc
  have he' := he
  simp only [empty, Bool.or_eq_false_iff, decide_eq_false_iff_not] at he'
  unfold inter at hc
  split at hc
  · have := Prod.mk.inj hc
    have h2 := Prod.mk.inj this.2
    have h3 := Prod.mk.inj h2.2
    omega
  · have := Prod.mk.inj hc
    have h2 := Prod.mk.inj this.2
    have h3 := Prod.mk.inj h2.2
    omega
theorem q_pl_Crop (e f g h x0 x1 x2 x3 : Int) (l : List Int) (hok : (plV e f g h l && valid x0 x1 x2 x3 && contains e f g h x0 x1 x2 x3) = true) : funR Try.prog t_pl_Crop (annOf []) l_pl_Crop 20 Try.f37 [.agg [.int .i64 e, .int .i64 f, .int .i64 g, .int .i64 h, .lst (.int .i64) l], .agg [.int .i64 x0, .int .i64 x1, .int .i64 x2, .int .i64 x3]] [] = some ⟨.tup [(true, [.int .i64 x0, .int .i64 x1, .int .i64 x2, .int .i64 x3, .row 0]), (false, [.int .i64 0])], [], [.arr 3 (.int .i64) (crL e f g l x0 x1 x2 x3)]⟩ := by
    refine (e_pl_Crop ..).trans ?_
    simp only [Bool.and_eq_true, and_assoc] at hok
    obtain ⟨hv, hr, hc⟩ := hok
    have av := area_v hr
    have rb := valid_b hr
    simp only [ite2_bool, decide_eq_true_eq, hv, hr, hc, Bool.not_true, Bool.false_eq_true, if_false]
    rw [if_pos (by omega)]
    rcases Bool.eq_false_or_eq_true (empty x0 x1 x2 x3) with x | x
    · have e1 : crL e f g l x0 x1 x2 x3 = List.replicate (area x0 x1 x2 x3).toNat 0 := by unfold crL; rw [if_pos x]
      rw [if_neg (by rw [x]; decide), e1]
      rfl
    · have q := cont_s hc x
      have hl : (area x0 x1 x2 x3).toNat = (x3 - x1).toNat * (x2 - x0).toNat := toNat_area hr
      have hld : decide ((List.replicate (area x0 x1 x2 x3).toNat (0 : Int)).length = (x3 - x1).toNat * (x2 - x0).toNat) = true := by rw [decide_eq_true_eq, List.length_replicate]; exact hl
      have e1 : crL e f g l x0 x1 x2 x3 = cpL e f g l x0 x1 x2 x3 := by unfold crL; rw [if_neg (by rw [x]; decide)]
      rw [if_pos (by rw [x]; rfl), e1]
      simp only [hld, q.1, q.2.1, q.2.2.1, q.2.2.2, decide_true, Bool.and_self, if_true]
theorem s_pl_Crop : SoundFun Try.prog 37 G_pl_Crop := by
  refine fun_ok (tab := t_pl_Crop) (ann := annOf []) (lt := l_pl_Crop) (tab_cons s_pl_Valid (tab_cons s_rect_Valid (tab_cons s_rect_Empty (tab_cons s_rect_Area (tab_cons s_rect_Contains (tab_cons s_pl_part tab_nil)))))) (by kernel_rfl) (fn := Try.f37) (by kernel_rfl) (by decide) (c := bodyOf Try.f37) (by kernel_rfl) (no_loops (by kernel_rfl)) ?_ (keep_nil (by kernel_rfl))
  intro args lent o y0'
  unfold G_pl_Crop at y0'
  obtain ⟨q', args, rfl, y1'⟩ := pA_s y0'
  obtain ⟨e, f, g, h, q', rfl, y2'⟩ := t4_s y1'
  obtain ⟨c', q', rfl, y3'⟩ := tC_s y2'
  obtain ⟨l, rfl, y4'⟩ := kLI_s y3'
  obtain ⟨rfl, y5'⟩ := tE_s y4'
  obtain ⟨q', args, rfl, y6'⟩ := pA_s y5'
  obtain ⟨x0, x1, x2, x3, q', rfl, y7'⟩ := t4_s y6'
  obtain ⟨rfl, y8'⟩ := tE_s y7'
  obtain ⟨rfl, y9'⟩ := pE_s y8'
  obtain ⟨rfl, y10'⟩ := nE_s y9'
  have yy' := y10'
  unfold H_pl_Crop at yy'
  obtain ⟨hok, rfl⟩ := Prod.mk.inj (Option.some.inj yy')
  exact ⟨20, q_pl_Crop _ _ _ _ _ _ _ _ _ hok⟩
theorem otT_len (v : List (Rc × List Int)) (u : List Rc) (j : Nat) : (otT v u j).length = v.length := by simp [otT]
theorem otT_0 (v : List (Rc × List Int)) (u : List Rc) : otT v u 0 = List.replicate v.length ((0, 0, 0, 0), []) := by
  apply List.ext_getElem (by simp [otT])
  intro i h1 h2
  simp [otT]
theorem otT_n (v : List (Rc × List Int)) (u : List Rc) : otT v u v.length = otL v u := by
  unfold otT otL
  apply List.map_congr_left
  intro i hi
  rw [if_pos (List.mem_range.1 hi)]
theorem otT_s (v : List (Rc × List Int)) (u : List Rc) (j : Nat) : (otT v u j).set j (otF v u j) = otT v u (j + 1) := by
  apply List.ext_getElem (by simp [otT])
  intro i h1 h2
  simp only [otT, List.getElem_set, List.getElem_map, List.getElem_range]
  split
  · rename_i q; subst q; rw [if_pos (by omega)]
  · by_cases q : i < j
    · rw [if_pos q, if_pos (by omega)]
    · rw [if_neg q, if_neg (by omega)]
theorem ix_b {r : Rc} {l : List Int} (hv : plVR (r, l) = true) {x y : Int} (hk : inK r x y) : ixR r x y < l.length ∧ 0 < r.2.2.1 - r.1 ∧ ((ixR r x y : Nat) : Int) = (y - r.2.1) * (r.2.2.1 - r.1) + (x - r.1) ∧ l.length ≤ 1048576 := by
  have pb := plV_b hv
  simp only at pb
  unfold inK at hk
  have h1 : (y - r.2.1 + 1) * (r.2.2.1 - r.1) ≤ (r.2.2.2 - r.2.1) * (r.2.2.1 - r.1) := Int.mul_le_mul_of_nonneg_right (by omega) (by omega)
  have h2 : (y - r.2.1 + 1) * (r.2.2.1 - r.1) = (y - r.2.1) * (r.2.2.1 - r.1) + (r.2.2.1 - r.1) := by rw [Int.add_mul, Int.one_mul]
  have h3 : (r.2.2.2 - r.2.1) * (r.2.2.1 - r.1) = (r.2.2.1 - r.1) * (r.2.2.2 - r.2.1) := Int.mul_comm ..
  have e : ((ixR r x y : Nat) : Int) = (y - r.2.1) * (r.2.2.1 - r.1) + (x - r.1) := by
    unfold ixR
    rw [Int.natCast_add, Int.natCast_mul, Int.toNat_of_nonneg (by omega), Int.toNat_of_nonneg (by omega), Int.toNat_of_nonneg (by omega)]
  refine ⟨?_, by omega, e, by omega⟩
  omega
theorem rp_keep {r : Rc} {l : List Int} {K : Rc} {s : Int} (hv : plVR (r, l) = true) : Agr r l (rpL r.1 r.2.1 r.2.2.1 l K.1 K.2.1 K.2.2.1 K.2.2.2 s) K := by
  intro x y hR hK
  have pb := plV_b hv
  simp only at pb
  obtain ⟨q1, q2, q3, q4⟩ := ix_b hv hR
  unfold inK at hR hK
  have e1 : rpW r.1 r.2.2.1 = r.2.2.1 - r.1 := by unfold rpW; rw [wrap_in (by omega) (by omega)]
  have h0 : 0 ≤ (y - r.2.1) * (r.2.2.1 - r.1) := Int.mul_nonneg (by omega) (by omega)
  have em : Int.tmod ((ixR r x y : Nat) : Int) (r.2.2.1 - r.1) = x - r.1 := by
    rw [Int.tmod_eq_emod_of_nonneg (by omega), q3, Int.add_comm, Int.add_mul_emod_self_right, Int.emod_eq_of_lt (by omega) (by omega)]
  have ed : Int.tdiv ((ixR r x y : Nat) : Int) (r.2.2.1 - r.1) = y - r.2.1 := by
    rw [Int.tdiv_eq_ediv_of_nonneg (by omega), q3, Int.add_comm, Int.add_mul_ediv_right _ _ (by omega), Int.ediv_eq_zero_of_lt (by omega) (by omega), Int.zero_add]
  have hF : rpF r.1 r.2.1 r.2.2.1 l K.1 K.2.1 K.2.2.1 K.2.2.2 s (ixR r x y) = gI l (ixR r x y) := by
    unfold rpF rpH
    rw [e1, em, ed, wrap_in (n := y - r.2.1) (by omega) (by omega), show r.1 + (x - r.1) = x by omega, show r.2.1 + (y - r.2.1) = y by omega, wrap_in (n := x) (by omega) (by omega), wrap_in (n := y) (by omega) (by omega)]
    have : has K.1 K.2.1 K.2.2.1 K.2.2.2 x y = true := by
      simp only [has, Bool.and_eq_true, decide_eq_true_eq]
      omega
    rw [this]
    simp
  have : gI (rpL r.1 r.2.1 r.2.2.1 l K.1 K.2.1 K.2.2.1 K.2.2.2 s) (ixR r x y) = rpF r.1 r.2.1 r.2.2.1 l K.1 K.2.1 K.2.2.1 K.2.2.2 s (ixR r x y) := by
    unfold rpL
    simp [gI, List.getD_eq_getElem?_getD, q1]
  rw [this, hF]
theorem rp_fit {a b c : Int} {l : List Int} {e f g h s B : Int} (hB : 1000 ≤ B) (hf : fit B l) (hs : 0 ≤ s) : fit B (rpL a b c l e f g h s) := by
  intro x hx
  unfold rpL at hx
  obtain ⟨i, hi, rfl⟩ := List.mem_map.1 hx
  have g := gI_fit (by omega) hf i
  unfold rpF
  split
  · have i0 : 0 ≤ (i : Int) * (i : Int) := Int.mul_nonneg (by omega) (by omega)
    rw [Int.tmod_eq_emod_of_nonneg (by omega)]
    omega
  · exact g
theorem rp_len (a b c : Int) (l : List Int) (e f g h s : Int) : (rpL a b c l e f g h s).length = l.length := by simp [rpL]
theorem ot_gN (v : List (Rc × List Int)) (u : List Rc) {i : Nat} (hi : i < v.length) : gN (otL v u) i = otF v u i := by
  simp [otL, gN, List.getD_eq_getElem?_getD, hi]
theorem ot_ok {a b c d n r k : Int} {v : List (Rc × List Int)} {u : List Rc} (e : syErr a b c d n r k v = 0) : syErr a b c d n r k (otL v u) = 0 := by
  obtain ⟨h1, h2, h3, h4, h5, h6, h7, h8⟩ := syErr_s e
  have hb := inr_b h3
  have hn := inr_b h2
  have ar' : decide (area (resR a b c d n r).1 (resR a b c d n r).2.1 (resR a b c d n r).2.2.1 (resR a b c d n r).2.2.2 > 1048576) = false := by
    rw [decide_eq_false_iff_not]
    unfold areaR at h4
    omega
  have hl : decide (((otL v u).length : Int) = count n) = true := by
    rw [decide_eq_true_eq]
    simp only [otL, List.length_map, List.length_range, h6, count, h2, if_true]
  have hB : syBnd a b c d n r (otL v u) = true := by
    unfold syBnd
    rw [List.all_eq_true]
    intro i hi
    have hi' := List.mem_range.1 hi
    have g := syBnd_at h7 (i := i) (by omega)
    rw [ot_gN v u (show i < v.length by omega), Bool.and_eq_true]
    refine ⟨?_, isR_e g.2⟩
    have g1 := g.1
    unfold plVR plV at g1 ⊢
    simp only [otF, rp_len]
    exact g1
  have hF : syFit r (otL v u) = true := by
    unfold syFit
    rw [List.all_eq_true]
    intro i hi
    have hi' := List.mem_range.1 hi
    rw [ot_gN v u (show i < v.length by omega)]
    exact fit_fitB (rp_fit (by omega) (syFit_at h8 (i := i) (by omega)) (by omega))
  simp only [syErr, h1, h2, h3, ar', h5, hl, hB, hF, Bool.not_true, Bool.or_self, Bool.false_eq_true, if_false]
theorem sy_R {a b c d n r k : Int} {v : List (Rc × List Int)} (e : syErr a b c d n r k v = 0) : syR a b c d n r k v = resR a b c d n r ∧ plV (resR a b c d n r).1 (resR a b c d n r).2.1 (resR a b c d n r).2.2.1 (resR a b c d n r).2.2.2 (syL a b c d n r k v) = true := by
  have hb := inr_b (syErr_s e).2.2.1
  obtain ⟨i1, i2, i3⟩ := sy_inv e r.toNat (by omega)
  rw [show ((r.toNat : Nat) : Int) = r by omega] at i2
  have e1 : syR a b c d n r k v = resR a b c d n r := by unfold syR; rw [if_pos e, i2]
  refine ⟨e1, ?_⟩
  have e2 : syL a b c d n r k v = (syS a b c d n k v r.toNat).2 := by unfold syL; rw [if_pos e]
  unfold plVR at i1
  rw [i2] at i1
  rw [e2]
  exact i1
theorem cp_eq {r W : Rc} {l l' : List Int} (hv : plV r.1 r.2.1 r.2.2.1 r.2.2.2 l = true) (hv' : plV r.1 r.2.1 r.2.2.1 r.2.2.2 l' = true) (hr : valid W.1 W.2.1 W.2.2.1 W.2.2.2 = true) (q : r.1 ≤ W.1 ∧ W.2.2.1 ≤ r.2.2.1 ∧ r.2.1 ≤ W.2.1 ∧ W.2.2.2 ≤ r.2.2.2) (hA : Agr r l l' W) : cpL r.1 r.2.1 r.2.2.1 l W.1 W.2.1 W.2.2.1 W.2.2.2 = cpL r.1 r.2.1 r.2.2.1 l' W.1 W.2.1 W.2.2.1 W.2.2.2 := by
  have rb := valid_b hr
  unfold cpL
  refine catR_congr _ fun j hj => ?_
  obtain ⟨F, w, hF, hW, hl, m1, m2, m3⟩ := cp_ix (x0 := W.1) (x1 := W.2.1) (x2 := W.2.2.1) (x3 := W.2.2.2) hv ⟨q.1, by omega, q.2.1, q.2.2.1, q.2.2.2⟩ (j := j) (by omega)
  obtain ⟨F', w', hF', hW', hl', _⟩ := cp_ix (x0 := W.1) (x1 := W.2.1) (x2 := W.2.2.1) (x3 := W.2.2.2) hv' ⟨q.1, by omega, q.2.1, q.2.2.1, q.2.2.2⟩ (j := j) (by omega)
  obtain rfl : F = F' := by omega
  obtain rfl : w = w' := by omega
  unfold cpR
  rw [show (((j : Int) + W.2.1 - r.2.1) * (r.2.2.1 - r.1) + W.1 - r.1).toNat = F by rw [Int.add_comm (j : Int) W.2.1, ← hF]; omega, show (W.2.2.1 - W.1).toNat = w by omega]
  apply list_ext (by simp; omega)
  intro t ht
  have ht' : t < w := by rw [List.length_take, List.length_drop] at ht; omega
  have g : ∀ m : List Int, gI ((m.drop F).take w) t = gI m (F + t) := by
    intro m
    simp [gI, List.getD_eq_getElem?_getD, List.getElem?_take, List.getElem?_drop, ht']
  rw [g, g]
  have hk : inK r (W.1 + t) (W.2.1 + j) := by unfold inK; omega
  have := hA (W.1 + t) (W.2.1 + j) hk (by unfold inK; omega)
  obtain ⟨_, _, e3, _⟩ := ix_b (r := r) (l := l) hv hk
  have : ixR r (W.1 + t) (W.2.1 + j) = F + t := by omega
  rw [← this]
  assumption
theorem inter_in {a b c d : Int} {R : Rc} (he : empty (inter a b c d R.1 R.2.1 R.2.2.1 R.2.2.2).1 (inter a b c d R.1 R.2.1 R.2.2.1 R.2.2.2).2.1 (inter a b c d R.1 R.2.1 R.2.2.1 R.2.2.2).2.2.1 (inter a b c d R.1 R.2.1 R.2.2.1 R.2.2.2).2.2.2 = false) : R.1 ≤ (inter a b c d R.1 R.2.1 R.2.2.1 R.2.2.2).1 ∧ (inter a b c d R.1 R.2.1 R.2.2.1 R.2.2.2).2.2.1 ≤ R.2.2.1 ∧ R.2.1 ≤ (inter a b c d R.1 R.2.1 R.2.2.1 R.2.2.2).2.1 ∧ (inter a b c d R.1 R.2.1 R.2.2.1 R.2.2.2).2.2.2 ≤ R.2.2.2 := by
  unfold inter at he ⊢
  split
  · rename_i h
    rw [if_pos h] at he
    exact absurd he (by decide)
  · simp only
    omega
theorem cont_i {R W : Rc} (hq : empty W.1 W.2.1 W.2.2.1 W.2.2.2 = false → R.1 ≤ W.1 ∧ W.2.2.1 ≤ R.2.2.1 ∧ R.2.1 ≤ W.2.1 ∧ W.2.2.2 ≤ R.2.2.2) : contains R.1 R.2.1 R.2.2.1 R.2.2.2 W.1 W.2.1 W.2.2.1 W.2.2.2 = true := by
  unfold contains
  rcases Bool.eq_false_or_eq_true (empty W.1 W.2.1 W.2.2.1 W.2.2.2) with x | x
  · rw [x, Bool.true_or]
  · have q := hq x
    have e : inter R.1 R.2.1 R.2.2.1 R.2.2.2 W.1 W.2.1 W.2.2.1 W.2.2.2 = (W.1, W.2.1, W.2.2.1, W.2.2.2) := by
      unfold inter
      rw [show max R.1 W.1 = W.1 by omega, show max R.2.1 W.2.1 = W.2.1 by omega, show min R.2.2.1 W.2.2.1 = W.2.2.1 by omega, show min R.2.2.2 W.2.2.2 = W.2.2.2 by omega, if_neg (by rw [x]; decide)]
    rw [e, x]
    simp
theorem catR_le6 {f : Nat → List Int} {g : Nat} (h : ∀ y, (f y).length ≤ g) : ∀ n, (catR f n).length ≤ n * g
  | 0 => by simp [catR]
  | n + 1 => by
    have := catR_le6 h n
    have := h n
    simp only [catR, List.length_append]
    rw [Nat.succ_mul]
    omega
theorem cr_small {R W : Rc} {l : List Int} (hr : valid W.1 W.2.1 W.2.2.1 W.2.2.2 = true) : small (crL R.1 R.2.1 R.2.2.1 l W.1 W.2.1 W.2.2.1 W.2.2.2).length = true := by
  have rb := valid_b hr
  have av := area_v hr
  apply small_d
  unfold crL
  split
  · rw [List.length_replicate]; omega
  · have h1 := catR_le6 (f := cpR R.1 R.2.1 R.2.2.1 l W.1 W.2.1 W.2.2.1) (g := 4096) (fun y => by unfold cpR; rw [List.length_take]; omega) (W.2.2.2 - W.2.1).toNat
    have h2 : (W.2.2.2 - W.2.1).toNat * 4096 ≤ 4096 * 4096 := Nat.mul_le_mul (by omega) (Nat.le_refl _)
    unfold cpL
    omega
theorem ot_sm {v : List (Rc × List Int)} {u : List Rc} (h : fewB v = true) : smAll (otL v u) = true := by
  have fs := few_s h
  unfold smAll
  rw [List.all_eq_true]
  intro x hx
  unfold otL at hx
  obtain ⟨i, hi, rfl⟩ := List.mem_map.1 hx
  have := fs.2.2 i
  simp only [otF, rp_len]
  exact small_d (by omega)
theorem cr_eq {a b c d e f g h n r k : Int} {v : List (Rc × List Int)} (e1 : syErr a b c d n r k v = 0) (hf : fewB v = true) :
    crL (resR a b c d n r).1 (resR a b c d n r).2.1 (resR a b c d n r).2.2.1 (syL a b c d n r k v) (ndIn a b c d n r e f g h).1 (ndIn a b c d n r e f g h).2.1 (ndIn a b c d n r e f g h).2.2.1 (ndIn a b c d n r e f g h).2.2.2 = crL (resR a b c d n r).1 (resR a b c d n r).2.1 (resR a b c d n r).2.2.1 (syL a b c d n r k (otL v (ndF a b c d n r e f g h k))) (ndIn a b c d n r e f g h).1 (ndIn a b c d n r e f g h).2.1 (ndIn a b c d n r e f g h).2.2.1 (ndIn a b c d n r e f g h).2.2.2 := by
  obtain ⟨h1, h2, h3, h4, h5, h6, h7, h8⟩ := syErr_s e1
  have hb := inr_b h3
  have hn := inr_b h2
  have e2 := ot_ok (u := ndF a b c d n r e f g h k) e1
  unfold crL
  rcases Bool.eq_false_or_eq_true (empty (ndIn a b c d n r e f g h).1 (ndIn a b c d n r e f g h).2.1 (ndIn a b c d n r e f g h).2.2.1 (ndIn a b c d n r e f g h).2.2.2) with x | x
  · rw [if_pos x, if_pos x]
  · rw [if_neg (by rw [x]; decide), if_neg (by rw [x]; decide)]
    have sR := sy_R e1
    have sR' := sy_R e2
    have vr := valid_resR6 a b c d n r
    refine cp_eq sR.2 sR'.2 (inter_v vr) (inter_in x) ?_
    have loc := sy_loc e1 e2 x (fun i hi => by
      rw [ot_gN v _ (show i < v.length by omega)]
      have gg := syBnd_at h7 (i := i) (by omega)
      have p := rp_keep (r := (gN v i).1) (l := (gN v i).2) (K := gR (ndF a b c d n r e f g h k) i) (s := i) gg.1
      unfold otF
      rw [← gg.2]
      exact p) r.toNat 0 (by omega)
    rw [show ((r.toNat : Nat) : Int) = r by omega] at loc
    have l1 : syL a b c d n r k v = (syS a b c d n k v r.toNat).2 := by unfold syL; rw [if_pos e1]
    have l2 : syL a b c d n r k (otL v (ndF a b c d n r e f g h k)) = (syS a b c d n k (otL v (ndF a b c d n r e f g h k)) r.toNat).2 := by unfold syL; rw [if_pos e2]
    rw [l1, l2]
    exact loc
theorem d_PyramidWindows_0 {α : Type} {vs : List V} {bl : List (Option Blk)} {K} {r0' : α} {Q : Prop} (y0' : D_PyramidWindows_0 vs bl K = some r0') (hh' : ∀ (v : List (Rc × List Int)) (w : List (Rc × List Int)) (a : Int) (b : Int) (c : Int) (d : Int) (e : Int) (f : Int) (g : Int) (h : Int) (n : Int) (r : Int) (k : Int) (p0 : Int) (p1 : Int) (p2 : Int) (p3 : Int) (m : Int) (i : Int) (u : List (Int × Int × Int × Int)) (y0 : List Int), vs = [.one (.ptr 0 0), .one (.ptr 1 0), .one (.ptr 2 0), .one (.ptr 3 0), .one (.row 4), .one (.row 5), .one (.int .i64 m), .one (.int .i64 i)] → bl = [some (.box [.lst (.pair (.pair (.int .i64) (.pair (.int .i64) (.pair (.int .i64) (.int .i64)))) (.sl (.int .i64))) v, .int .i64 a, .int .i64 b, .int .i64 c, .int .i64 d]), some (.box [.int .i64 e, .int .i64 f, .int .i64 g, .int .i64 h]), some (.box [.int .i64 n, .int .i64 r, .int .i64 k]), some (.box [.int .i64 p0, .int .i64 p1, .int .i64 p2, .int .i64 p3, .row 6]), some (.arr 31 (.pair (.int .i64) (.pair (.int .i64) (.pair (.int .i64) (.int .i64)))) u), some (.arr 33 (.pair (.pair (.int .i64) (.pair (.int .i64) (.pair (.int .i64) (.int .i64)))) (.sl (.int .i64))) w), some (.arr 3 (.int .i64) y0)] → K v w a b c d e f g h n r k p0 p1 p2 p3 m i u y0 = some r0' → Q) : Q := by
  unfold D_PyramidWindows_0 at y0'
  obtain ⟨vs, rfl, y1'⟩ := pP_s y0'
  obtain ⟨vs, rfl, y2'⟩ := pP_s y1'
  obtain ⟨vs, rfl, y3'⟩ := pP_s y2'
  obtain ⟨vs, rfl, y4'⟩ := pP_s y3'
  obtain ⟨c', vs, rfl, y5'⟩ := pO_s y4'
  obtain ⟨rfl, y6'⟩ := kR_s y5'
  obtain ⟨c', vs, rfl, y7'⟩ := pO_s y6'
  obtain ⟨rfl, y8'⟩ := kR_s y7'
  obtain ⟨m, vs, rfl, y9'⟩ := pI_s y8'
  obtain ⟨i, vs, rfl, y10'⟩ := pI_s y9'
  obtain ⟨rfl, y11'⟩ := pE_s y10'
  obtain ⟨q', bl, rfl, y12'⟩ := bB_s y11'
  obtain ⟨c', q', rfl, y13'⟩ := tC_s y12'
  obtain ⟨v, rfl, y14'⟩ := kLN_s y13'
  obtain ⟨a, b, c, d, q', rfl, y15'⟩ := t4_s y14'
  obtain ⟨rfl, y16'⟩ := tE_s y15'
  obtain ⟨q', bl, rfl, y17'⟩ := bB_s y16'
  obtain ⟨e, f, g, h, q', rfl, y18'⟩ := t4_s y17'
  obtain ⟨rfl, y19'⟩ := tE_s y18'
  obtain ⟨q', bl, rfl, y20'⟩ := bB_s y19'
  obtain ⟨n, q', rfl, y21'⟩ := tI_s y20'
  obtain ⟨r, q', rfl, y22'⟩ := tI_s y21'
  obtain ⟨k, q', rfl, y23'⟩ := tI_s y22'
  obtain ⟨rfl, y24'⟩ := tE_s y23'
  obtain ⟨q', bl, rfl, y25'⟩ := bB_s y24'
  obtain ⟨p0, p1, p2, p3, rfl, y26'⟩ := rd1P_s y25'
  obtain ⟨u, bl, rfl, y27'⟩ := bAR_s y26'
  obtain ⟨w, bl, rfl, y28'⟩ := bAN_s y27'
  obtain ⟨y0, bl, rfl, y29'⟩ := bAI_s y28'
  obtain ⟨rfl, y30'⟩ := bE_s y29'
  have yy' := y30'
  exact hh' _ _ _ _ _ _ _ _ _ _ _ _ _ _ _ _ _ _ _ _ _ rfl rfl yy'
theorem r_PyramidWindows_0 : RoundOk Try.prog t_PyramidWindows (annOf []) l_PyramidWindows Out 20 0 127 [3, 4, 5, 7, 9, 10, 63, 64] (kxOf [3, 4, 5, 7, 10] [6]) (loopOf Try.f10 0) T_PyramidWindows_0 := by
  intro vs bl Kc r h
  unfold T_PyramidWindows_0 at h
  obtain ⟨t, y0', h'⟩ := getD_run h
  refine d_PyramidWindows_0 y0' fun v w a b c d e f g h n r k p0 p1 p2 p3 m i u y0 u1' u2' yy' => ?_
  subst u1' u2'
  cases yy'
  exact (b_PyramidWindows_0 ..).trans h'
theorem o_PyramidWindows : loopsOf (bodyOf Try.f10) = [loopOf Try.f10 0] := by kernel_rfl
theorem zz_PyramidWindows_0 (v w : List (Rc × List Int)) (a b c d e f g h n r k p0 p1 p2 p3 m i : Int) (u : List (Int × Int × Int × Int)) (y0 : List Int) (hk : k_PyramidWindows_0 v w a b c d e f g h n r k p0 p1 p2 p3 m i u y0 = true) : ZZ (c_PyramidWindows_0 v w a b c d e f g h n r k p0 p1 p2 p3 m i u y0) T_PyramidWindows_0 [.one (.ptr 0 0), .one (.ptr 1 0), .one (.ptr 2 0), .one (.ptr 3 0), .one (.row 4), .one (.row 5), .one (.int .i64 m), .one (.int .i64 i)] [some (.box [.lst (.pair (.pair (.int .i64) (.pair (.int .i64) (.pair (.int .i64) (.int .i64)))) (.sl (.int .i64))) v, .int .i64 a, .int .i64 b, .int .i64 c, .int .i64 d]), some (.box [.int .i64 e, .int .i64 f, .int .i64 g, .int .i64 h]), some (.box [.int .i64 n, .int .i64 r, .int .i64 k]), some (.box [.int .i64 p0, .int .i64 p1, .int .i64 p2, .int .i64 p3, .row 6]), some (.arr 31 (.pair (.int .i64) (.pair (.int .i64) (.pair (.int .i64) (.int .i64)))) u), some (.arr 33 (.pair (.pair (.int .i64) (.pair (.int .i64) (.pair (.int .i64) (.int .i64)))) (.sl (.int .i64))) w), some (.arr 3 (.int .i64) y0)] := by
  simp only [k_PyramidWindows_0, Bool.and_eq_true, decide_eq_true_eq, and_assoc] at hk
  obtain ⟨rfl, rfl, hu, rfl, hf⟩ := hk
  have fs := few_s hf
  refine Exists.elim (z_fold (T := T_PyramidWindows_0) (st := fun j => ([.one (.ptr 0 0), .one (.ptr 1 0), .one (.ptr 2 0), .one (.ptr 3 0), .one (.row 4), .one (.row 5), .one (.int .i64 (v.length : Int)), .one (.int .i64 (j : Int))], [some (.box [.lst (.pair (.pair (.int .i64) (.pair (.int .i64) (.pair (.int .i64) (.int .i64)))) (.sl (.int .i64))) v, .int .i64 a, .int .i64 b, .int .i64 c, .int .i64 d]), some (.box [.int .i64 e, .int .i64 f, .int .i64 g, .int .i64 h]), some (.box [.int .i64 n, .int .i64 r, .int .i64 k]), some (.box [.int .i64 p0, .int .i64 p1, .int .i64 p2, .int .i64 p3, .row 6]), some (.arr 31 (.pair (.int .i64) (.pair (.int .i64) (.pair (.int .i64) (.int .i64)))) u), some (.arr 33 (.pair (.pair (.int .i64) (.pair (.int .i64) (.pair (.int .i64) (.int .i64)))) (.sl (.int .i64))) (otT v u j)), some (.arr 3 (.int .i64) y0)])) v.length (.leaf (.exit 0) [.one (.ptr 0 0), .one (.ptr 1 0), .one (.ptr 2 0), .one (.ptr 3 0), .one (.row 4)] [some (.box [.lst (.pair (.pair (.int .i64) (.pair (.int .i64) (.pair (.int .i64) (.int .i64)))) (.sl (.int .i64))) v, .int .i64 a, .int .i64 b, .int .i64 c, .int .i64 d]), some (.box [.int .i64 e, .int .i64 f, .int .i64 g, .int .i64 h]), some (.box [.int .i64 n, .int .i64 r, .int .i64 k]), some (.box [.int .i64 p0, .int .i64 p1, .int .i64 p2, .int .i64 p3, .row 5]), some (.arr 33 (.pair (.pair (.int .i64) (.pair (.int .i64) (.pair (.int .i64) (.int .i64)))) (.sl (.int .i64))) (otL v u)), some (.arr 3 (.int .i64) y0)]) (fun j hj F K => ?_) (fun F K => ?_)) (fun k' hk' => ⟨k', fun K r' h' => ?_⟩)
  · have hc : 0 ≤ (j : Int) ∧ (j : Int) < (v.length : Int) := by omega
    have hl := otT_len v u j
    have hst := otT_s v u j
    have f4 := fs.2.2 j
    have q : (decide ((gN v j).2.length ≤ 16777216) && inr 0 100 (j : Int)) = true := by
      rw [inr_t (a := 0) (b := 100) (x := (j : Int)) (by omega) (by omega), Bool.and_true, decide_eq_true_eq]
      omega
    simp only [tu_PyramidWindows_0, U_PyramidWindows_0, LT.next, LT.run, ite2_bool, decide_eq_true_eq, Int.toNat_natCast, hu, hl, if_pos hc, if_pos hc.2, if_pos hj]
    rw [if_pos q, wrap_in (n := (j : Int) + 1) (by omega) (by omega), ← hst]
    rfl
  · simp only [tu_PyramidWindows_0, U_PyramidWindows_0, LT.next, LT.run, ite2_bool, decide_eq_true_eq]
    rw [if_neg (by omega), otT_n]
  · have h2 := hk' K r' h'
    rw [otT_0] at h2
    exact h2
theorem z_PyramidWindows_0 : ZOk S_PyramidWindows_0 T_PyramidWindows_0 := by
  intro vs bl t y0'
  refine d_PyramidWindows_0 y0' fun v w a b c d e f g h n r k p0 p1 p2 p3 m i u y0 u1' u2' yy' => ?_
  subst u1' u2'
  obtain ⟨hk, rfl⟩ := Prod.mk.inj (Option.some.inj yy')
  exact zz_PyramidWindows_0 _ _ _ _ _ _ _ _ _ _ _ _ _ _ _ _ _ _ _ _ _ hk
theorem q_PyramidWindows (v : List (Rc × List Int)) (a b c d e f g h n r k : Int) (hok : ok_PyramidWindows v a b c d e f g h n r k = true) : funR Try.prog t_PyramidWindows (annOf []) l_PyramidWindows 20 Try.f10 [.agg [.lst (.pair (.pair (.int .i64) (.pair (.int .i64) (.pair (.int .i64) (.int .i64)))) (.sl (.int .i64))) v, .int .i64 a, .int .i64 b, .int .i64 c, .int .i64 d], .agg [.int .i64 e, .int .i64 f, .int .i64 g, .int .i64 h], .agg [.int .i64 n, .int .i64 r, .int .i64 k]] [] = some ⟨.one (.bool true), [], []⟩ := by
    refine (e_PyramidWindows ..).trans ?_
    simp only [ite2_bool, decide_eq_true_eq, Int.toNat_natCast]
    rcases Bool.eq_false_or_eq_true (fewB v) with hf | hf
    rotate_left
    · simp only [hf, Bool.not_false, if_true]
    have fs := few_s hf
    by_cases e1 : syErr a b c d n r k v = 0
    rotate_left
    · have e1' : (syErr a b c d n r k v != 0) = true := by simpa using e1
      simp only [hf, fs.2.1, e1', Bool.not_true, Bool.false_eq_true, if_false, if_true]
    obtain ⟨h1, h2, h3, h4, h5, h6, h7, h8⟩ := syErr_s e1
    have hb := inr_b h3
    have hn := inr_b h2
    have hO : ndOk a b c d n r k = true := by simp only [ndOk, h1, h2, h3, h5, Bool.and_self]
    have hc : count n = 3 * n + 1 := by simp only [count, h2, if_true]
    have hu : (ndF a b c d n r e f g h k).length = v.length := by
      have := nd_len (e := e) (f := f) (g := g) (h := h) hO
      omega
    have e2 := ot_ok (u := ndF a b c d n r e f g h k) e1
    have sR := sy_R e1
    have sR' := sy_R e2
    have sm := ot_sm (u := ndF a b c d n r e f g h k) hf
    have vr := valid_resR6 a b c d n r
    have vw := inter_v (a := e) (b := f) (c := g) (d := h) vr
    have ct := cont_i (R := resR a b c d n r) (W := inter e f g h (resR a b c d n r).1 (resR a b c d n r).2.1 (resR a b c d n r).2.2.1 (resR a b c d n r).2.2.2) (fun x => inter_in x)
    have cs := cr_small (R := resR a b c d n r) (l := syL a b c d n r k v) vw
    have ce := cr_eq (e := e) (f := f) (g := g) (h := h) e1 hf
    unfold ndIn at ce
    have h57 : 0 ≤ (v.length : Int) ∧ (v.length : Int) ≤ (v.length : Int) ∧ (v.length : Int) * 57 ≤ 140737488355328 := by omega
    simp only [hf, fs.2.1, e1, e2, hu, sm, sR.1, sR'.1, k_PyramidWindows_0, if_pos h57, bne_self_eq_false, decide_true, Bool.and_self, Bool.not_true, Bool.false_eq_true, if_false, if_true]
    simp only [sR.2, sR'.2, vw, ct, cs, ← ce, samePl_refl, Bool.and_self, if_true]
theorem s_PyramidWindows : SoundFun Try.prog 10 G_PyramidWindows := by
  refine fun_ok (tab := t_PyramidWindows) (ann := annOf []) (lt := l_PyramidWindows) (tab_cons s_awake (tab_cons s_pyr_Need (tab_cons s_law_few (tab_cons s_pyr_Synth (tab_cons s_law_same (tab_cons s_law_replaced (tab_cons s_rect_Intersect (tab_cons s_pl_Crop tab_nil)))))))) (by kernel_rfl) (fn := Try.f10) (by kernel_rfl) (by decide) (c := bodyOf Try.f10) (by kernel_rfl) (by
    intro m b hb
    have hb' : b ∈ loopsOf (bodyOf Try.f10) := hb
    rw [o_PyramidWindows] at hb'
    simp only [List.mem_cons, List.not_mem_nil, or_false] at hb'
    rcases hb' with rfl
    · exact loop_ok (key := 11) (by kernel_rfl) rfl r_PyramidWindows_0 z_PyramidWindows_0 m
    ) ?_ (keep_nil (by kernel_rfl))
  intro args lent o y0'
  unfold G_PyramidWindows at y0'
  obtain ⟨q', args, rfl, y1'⟩ := pA_s y0'
  obtain ⟨c', q', rfl, y2'⟩ := tC_s y1'
  obtain ⟨v, rfl, y3'⟩ := kLN_s y2'
  obtain ⟨a, b, c, d, q', rfl, y4'⟩ := t4_s y3'
  obtain ⟨rfl, y5'⟩ := tE_s y4'
  obtain ⟨q', args, rfl, y6'⟩ := pA_s y5'
  obtain ⟨e, f, g, h, q', rfl, y7'⟩ := t4_s y6'
  obtain ⟨rfl, y8'⟩ := tE_s y7'
  obtain ⟨q', args, rfl, y9'⟩ := pA_s y8'
  obtain ⟨n, q', rfl, y10'⟩ := tI_s y9'
  obtain ⟨r, q', rfl, y11'⟩ := tI_s y10'
  obtain ⟨k, q', rfl, y12'⟩ := tI_s y11'
  obtain ⟨rfl, y13'⟩ := tE_s y12'
  obtain ⟨rfl, y14'⟩ := pE_s y13'
  obtain ⟨rfl, y15'⟩ := nE_s y14'
  have yy' := y15'
  unfold H_PyramidWindows at yy'
  obtain ⟨hok, rfl⟩ := Prod.mk.inj (Option.some.inj yy')
  exact ⟨20, q_PyramidWindows _ _ _ _ _ _ _ _ _ _ _ _ hok⟩
end Go.Rx.Ch06
