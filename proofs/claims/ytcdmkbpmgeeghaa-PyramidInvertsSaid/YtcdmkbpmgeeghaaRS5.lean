/- The summaries of these functions are sound. -/
import Derived.Test.YtcdmkbpmgeeghaaRE3
import Derived.Test.YtcdmkbpmgeeghaaRS4
set_option linter.unnecessarySimpa false
set_option linter.unusedVariables false
set_option linter.unusedSimpArgs false
set_option linter.unusedVariables false
set_option linter.unusedSimpArgs false
set_option maxRecDepth 100000
set_option maxHeartbeats 40000000
open Go Go.Rx Go.Proofs
namespace Go.Rx.Ch06
theorem iz_bdB {B : Int} {l : List Int} {s k : Int} (hB : 4 ≤ B) (h : Bd B l) : Bd (4 * B) (iz l s k) := by
  unfold iz
  split
  rotate_left
  · exact h.mono (by omega)
  rename_i hn
  have hn : 2 ≤ l.length := by omega
  unfold inv
  generalize hm : stp 0 (-1) (upd k) s l = m
  have hml : m.length = l.length := by rw [← hm, stp_length]
  have m0 : ∀ q : Nat, q < m.length → (s + q) % 2 = 0 → -(2 * B) ≤ rd m q ∧ rd m q ≤ 2 * B := by
    intro q hq hp
    rw [← hm, stp_val q (by omega) hp]
    have a1 := h.at (q + 1) hn
    have a2 := h.at (q - 1) hn
    have a0 := h q
    unfold upd
    split <;> omega
  have m1 : ∀ q : Nat, q < m.length → (s + q) % 2 = 1 → -B ≤ rd m q ∧ rd m q ≤ B := by
    intro q hq hp
    rw [← hm, stp_keep q (by omega)]
    exact h q
  intro q
  by_cases hq : q < m.length
  rotate_left
  · rw [rd_out _ _ (by rw [stp_length]; omega)]; omega
  by_cases hp : (s + q) % 2 = 1
  · rw [stp_val q hq hp]
    have b1 := at_par (e := 1) (i := q) (by omega) m0 (by omega)
    have b2 := at_par (e := -1) (i := q) (by omega) m0 (by omega)
    have b3 := at_par (e := 3) (i := q) (by omega) m0 (by omega)
    have b4 := at_par (e := -3) (i := q) (by omega) m0 (by omega)
    have c1 := m1 q hq hp
    unfold prd
    simp only [Int.sub_eq_add_neg]
    split
    · omega
    · split <;> omega
  · rw [stp_keep q hp]
    have := m0 q hq (by omega)
    omega
theorem iv_bdB {p q : List Int} {s k n B : Int} (hB : 4 ≤ B ∧ B ≤ 1125899906842624) (hk : inr 1 3 k = true) (hs : inr 0 4096 s = true) (hn : 0 ≤ n ∧ n ≤ 4096) (hp : (p.length : Int) = cev s n) (hq : (q.length : Int) = n - cev s n) (fp : fit B p) (fq : fit B q) : ((iv p q s k).1.length : Int) = n ∧ fit (4 * B) (iv p q s k).1 := by
  obtain ⟨m, rfl⟩ : ∃ m : Nat, n = m := ⟨n.toNat, by omega⟩
  have h := evs_ilv m s p q hp hq
  have hl := ilv_length m s p q
  have hb := ilv_bd (c := B) (by omega) m s p q
  generalize ilv s m p q = z at h hl hb
  obtain ⟨rfl, rfl⟩ := h
  have e := iv_ok (inr_b hk) (inr_b hs) (by omega) (fit_mono fp hB.2) (fit_mono fq hB.2)
  rw [e]
  exact ⟨by rw [iz_len, hl], (iz_bdB hB.1 (Bd.of_mem (by omega) (hb fp fq))).mem⟩
theorem mg_good {a b c d k B : Int} {l0 l1 l2 l3 : List Int} (hv : valid a b c d = true) (ha : area a b c d ≤ 1048576) (hk : inr 1 3 k = true) (hB : 4 ≤ B ∧ B ≤ 281474976710656) (f0 : fit B l0) (f1 : fit B l1) (f2 : fit B l2) (f3 : fit B l3) : plV a b c d (mgL 0 a b c d k l0 l1 l2 l3) = true ∧ fit (16 * B) (mgL 0 a b c d k l0 l1 l2 l3) := by
  have ab := valid_b hv
  have av := area_v hv
  have wb := bw_bh hv
  have hs : inr 0 4096 b = true := inr_t (by omega) (by omega)
  have ha' : inr 0 4096 a = true := inr_t (by omega) (by omega)
  have ce := cev_bd (s := a) (n := c - a) (by omega)
  have cf := cev_bd (s := b) (n := d - b) (by omega)
  have cl := fun x => iv_bdB (k := k) (s := b) (n := d - b) (B := B) (p := colOf l0 (bw a b c d 0) x (bh a b c d 0)) (q := colOf l2 (bw a b c d 0) x (bh a b c d 2)) (by omega) hk hs (by omega) (by rw [colOf_len, wb.2.2.1]; omega) (by rw [colOf_len, wb.2.2.2.2.1]; omega) (fit_col (by omega) f0 _ _ _) (fit_col (by omega) f2 _ _ _)
  have ch := fun x => iv_bdB (k := k) (s := b) (n := d - b) (B := B) (p := colOf l1 (bw a b c d 1) x (bh a b c d 1)) (q := colOf l3 (bw a b c d 1) x (bh a b c d 3)) (by omega) hk hs (by omega) (by rw [colOf_len, wb.2.2.2.1]; omega) (by rw [colOf_len, wb.2.2.2.2.2]; omega) (fit_col (by omega) f1 _ _ _) (fit_col (by omega) f3 _ _ _)
  have flo : fit (4 * B) (mgLo a b c d k l0 l2) := fit_mat (by omega) fun x _ => (cl x).2
  have fhi : fit (4 * B) (mgHi a b c d k l1 l3) := fit_mat (by omega) fun x _ => (ch x).2
  have llo : (mgLo a b c d k l0 l2).length = (d - b).toNat * bw a b c d 0 := matC_len ..
  have lhi : (mgHi a b c d k l1 l3).length = (d - b).toNat * bw a b c d 1 := matC_len ..
  have rr := fun y (hy : y < (d - b).toNat) => iv_bdB (k := k) (s := a) (n := c - a) (B := 4 * B) (p := rowAt (mgLo a b c d k l0 l2) (bw a b c d 0) y) (q := rowAt (mgHi a b c d k l1 l3) (bw a b c d 1) y) (by omega) hk ha' (by omega) (by rw [rowAt_len llo hy, wb.1]; omega) (by rw [rowAt_len lhi hy, wb.2.1]; omega) (fit_row flo _ _) (fit_row fhi _ _)
  have hl := catR_len (f := mgRow (mgLo a b c d k l0 l2) (mgHi a b c d k l1 l3) (bw a b c d 0) (bw a b c d 1) a k) (g := (c - a).toNat) (d - b).toNat (fun y hy => by have := (rr y hy).1; unfold mgRow; omega)
  have hf : fit (16 * B) (catR (mgRow (mgLo a b c d k l0 l2) (mgHi a b c d k l1 l3) (bw a b c d 0) (bw a b c d 1) a k) (d - b).toNat) := fit_cat _ fun y hy => by
    have := (rr y hy).2
    rw [show 16 * B = 4 * (4 * B) by omega]
    exact this
  have e : mgL 0 a b c d k l0 l1 l2 l3 = catR (mgRow (mgLo a b c d k l0 l2) (mgHi a b c d k l1 l3) (bw a b c d 0) (bw a b c d 1) a k) (d - b).toNat := by unfold mgL; rw [if_pos rfl]
  rw [e]
  refine ⟨plV_i hv ?_ (by omega), hf⟩
  rw [hl, Int.natCast_mul, Int.toNat_of_nonneg (by omega), Int.toNat_of_nonneg (by omega), Int.mul_comm]
theorem pw_5 : pw 0 = 1 ∧ pw 1 = 2 ∧ pw 2 = 4 ∧ pw 3 = 8 ∧ pw 4 = 16 ∧ pw 5 = 32 := by decide
theorem cdiv_half {a x : Int} (h0 : 0 ≤ a) (h1 : a ≤ 4096) (hx : x = 1 ∨ x = 2 ∨ x = 4 ∨ x = 8 ∨ x = 16) : cdiv a (2 * x) = (cdiv a x + 1) / 2 := by
  rw [cdiv_e h0 h1 (by omega), cdiv_e h0 h1 (by omega)]
  rcases hx with rfl | rfl | rfl | rfl | rfl <;> split <;> split <;> omega
theorem res_half {a b c d n j : Int} (hn : inr 0 5 n = true) (h0 : 0 ≤ j) (h1 : j + 1 ≤ n) : resR a b c d n j = bndR (resR a b c d n (j + 1)) 0 := by
  have hb := inr_b hn
  unfold resR
  rw [hn, inr_t (a := 0) (b := n) (x := j) h0 (by omega), inr_t (a := 0) (b := n) (x := j + 1) (by omega) h1]
  simp only [Bool.and_self, if_true]
  obtain ⟨t, ht⟩ : ∃ t : Int, t = n - (j + 1) := ⟨_, rfl⟩
  have ht5 : t = 0 ∨ t = 1 ∨ t = 2 ∨ t = 3 ∨ t = 4 := by omega
  have e : pw (n - j) = 2 * pw (n - (j + 1)) ∧ (pw (n - (j + 1)) = 1 ∨ pw (n - (j + 1)) = 2 ∨ pw (n - (j + 1)) = 4 ∨ pw (n - (j + 1)) = 8 ∨ pw (n - (j + 1)) = 16) := by
    rw [show n - j = t + 1 by omega, ← ht]
    rcases ht5 with rfl | rfl | rfl | rfl | rfl <;> decide
  rw [e.1]
  have hx := e.2
  generalize pw (n - (j + 1)) = x at hx
  have hx1 : 1 ≤ x ∧ x ≤ 16 := by omega
  unfold reduce
  cases hv : valid a b c d
  · simp only [Bool.not_false, Bool.true_or, if_true]
    rfl
  · have vb := valid_b hv
    have e1 : decide (2 * x < 1) = false := by rw [decide_eq_false_iff_not]; omega
    have e2 : decide (2 * x > 4096) = false := by rw [decide_eq_false_iff_not]; omega
    have e3 : decide (x < 1) = false := by rw [decide_eq_false_iff_not]; omega
    have e4 : decide (x > 4096) = false := by rw [decide_eq_false_iff_not]; omega
    simp only [e1, e2, e3, e4, Bool.not_true, Bool.or_self, Bool.false_eq_true, if_false]
    have m1 := cdiv_mono vb.1 vb.2.1 vb.2.2.1 (show 1 ≤ x by omega)
    have m2 := cdiv_mono vb.2.2.2.1 vb.2.2.2.2.1 vb.2.2.2.2.2 (show 1 ≤ x by omega)
    have hv' : valid (cdiv a x) (cdiv b x) (cdiv c x) (cdiv d x) = true := valid_i (by omega)
    show _ = bnd (cdiv a x) (cdiv b x) (cdiv c x) (cdiv d x) 0
    rw [(bnd_v hv').1, cdiv_half vb.1 (by omega) hx, cdiv_half (show 0 ≤ b by omega) (by omega) hx, cdiv_half (show 0 ≤ c by omega) (by omega) hx, cdiv_half (show 0 ≤ d by omega) (by omega) hx]
theorem area_half {r : Rc} (hv : valid r.1 r.2.1 r.2.2.1 r.2.2.2 = true) : areaR (bndR r 0) ≤ areaR r := by
  obtain ⟨a, b, c, d⟩ := r
  have hv : valid a b c d = true := hv
  have vb := valid_b hv
  have a1 := area_v hv
  have a2 := area_v (valid_bnd (a := a) (b := b) (c := c) (d := d) (o := 0) (by omega) (by omega))
  show area (bnd a b c d 0).1 (bnd a b c d 0).2.1 (bnd a b c d 0).2.2.1 (bnd a b c d 0).2.2.2 ≤ area a b c d
  rw [a2.1, a1.1]
  have hB := (bnd_v hv).1
  simp only [hB]
  exact Int.mul_le_mul (by omega) (by omega) (by omega) (by omega)
theorem area_res {a b c d n r : Int} (hn : inr 0 5 n = true) (hr : inr 0 n r = true) (h : areaR (resR a b c d n r) ≤ 1048576) : ∀ t j : Nat, (j : Int) + t = r → areaR (resR a b c d n j) ≤ 1048576
  | 0, j, e => by rw [show (j : Int) = r by omega]; exact h
  | t + 1, j, e => by
    have hb := inr_b hr
    have ih := area_res hn hr h t (j + 1) (by omega)
    rw [res_half hn (show (0 : Int) ≤ j by omega) (by omega)]
    have := area_half (valid_resR a b c d n ((j : Int) + 1))
    have e2 : ((j + 1 : Nat) : Int) = (j : Int) + 1 := rfl
    rw [e2] at ih
    omega
theorem band_0 {a b c d n : Int} (hn : inr 0 5 n = true) (hv : valid a b c d = true) : bandR a b c d n 0 = resR a b c d n 0 := by
  have hb := inr_b hn
  have hp : plOk 0 n = true := by simp only [plOk, count, hn, if_true, Bool.and_eq_true, decide_eq_true_eq]; omega
  simp only [bandR, hp, hv, Bool.and_self, if_true]
theorem band_at {a b c d n : Int} (hn : inr 0 5 n = true) (hv : valid a b c d = true) {j o : Nat} (hj : (j : Int) + 1 ≤ n) (h1 : 1 ≤ o) (h3 : o ≤ 3) : bandR a b c d n ((3 * j + o : Nat) : Int) = bndR (resR a b c d n ((j : Int) + 1)) o := by
  have hb := inr_b hn
  have hp : plOk ((3 * j + o : Nat) : Int) n = true := by simp only [plOk, count, hn, if_true, Bool.and_eq_true, decide_eq_true_eq]; omega
  have hz : ¬ ((3 * j + o : Nat) : Int) = 0 := by omega
  have e1 : plLv ((3 * j + o : Nat) : Int) n = n - j := by simp only [plLv, hp, if_true, if_neg hz]; omega
  have e2 : plOr ((3 * j + o : Nat) : Int) n = o := by simp only [plOr, hp, if_true, if_neg hz]; omega
  simp only [bandR, hp, hv, Bool.and_self, if_true, if_neg hz, e1, e2]
  rw [show n - (n - (j : Int)) + 1 = (j : Int) + 1 by omega]
theorem syErr_s {a b c d n r k : Int} {v : List (Rc × List Int)} (h : syErr a b c d n r k v = 0) : valid a b c d = true ∧ inr 0 5 n = true ∧ inr 0 n r = true ∧ areaR (resR a b c d n r) ≤ 1048576 ∧ inr 1 3 k = true ∧ (v.length : Int) = 3 * n + 1 ∧ syBnd a b c d n r v = true ∧ syFit r v = true := by
  unfold syErr at h
  split at h
  · exact absurd h (by decide)
  rename_i h1
  split at h
  · exact absurd h (by decide)
  rename_i h2
  split at h
  · exact absurd h (by decide)
  rename_i h3
  split at h
  · exact absurd h (by decide)
  rename_i h4
  split at h
  · exact absurd h (by decide)
  rename_i h5
  simp only [Bool.or_eq_true, Bool.not_eq_true', decide_eq_true_eq, not_or, Bool.not_eq_false, decide_eq_false_iff_not, Classical.not_not] at h1 h2 h3 h4 h5
  obtain ⟨⟨⟨z1, z2⟩, z3⟩, z4⟩ := h1
  refine ⟨z1, z2, z3, ?_, h2, ?_, h4, h5⟩
  · show area _ _ _ _ ≤ 1048576
    omega
  · rw [h3]; simp only [count, z2, if_true]
theorem syBnd_at {a b c d n r : Int} {v : List (Rc × List Int)} (h : syBnd a b c d n r v = true) {i : Nat} (hi : (i : Int) ≤ 3 * r) : plVR (gN v i) = true ∧ (gN v i).1 = bandR a b c d n i := by
  unfold syBnd at h
  rw [List.all_eq_true] at h
  have h1 := h i (List.mem_range.2 (by omega))
  rw [Bool.and_eq_true] at h1
  obtain ⟨e1, e2, e3, e4⟩ := isR_s h1.2
  exact ⟨h1.1, Prod.ext e1 (Prod.ext e2 (Prod.ext e3 e4))⟩
theorem syFit_at {r : Int} {v : List (Rc × List Int)} (h : syFit r v = true) {i : Nat} (hi : (i : Int) ≤ 3 * r) : fit 4294967296 (gN v i).2 := by
  unfold syFit at h
  rw [List.all_eq_true] at h
  exact fitB_fit (h i (List.mem_range.2 (by omega)))
theorem isR_e {r s : Rc} (h : r = s) : isR r.1 r.2.1 r.2.2.1 r.2.2.2 s = true := by subst h; exact isR_refl r
def syB (j : Nat) : Int := 16 ^ j * 4294967296
theorem syB_z : syB 0 = 4294967296 := by decide
theorem p16 (j : Nat) (hj : j ≤ 4) : 4 ≤ syB j ∧ syB j ≤ 281474976710656 ∧ 4294967296 ≤ syB j := by
  have : ∀ m : Nat, m < 5 → 4 ≤ syB m ∧ syB m ≤ 281474976710656 ∧ 4294967296 ≤ syB m := by decide
  exact this j (by omega)
theorem p16s (j : Nat) : syB (j + 1) = 16 * syB j := by unfold syB; rw [Int.pow_succ, Int.mul_comm ((16 : Int) ^ j) 16, Int.mul_assoc]
attribute [irreducible] syB
theorem syS_s {a b c d n k : Int} {v : List (Rc × List Int)} (j : Nat) : syS a b c d n k v (j + 1) = (resR a b c d n ((j : Int) + 1), mgL 0 (resR a b c d n ((j : Int) + 1)).1 (resR a b c d n ((j : Int) + 1)).2.1 (resR a b c d n ((j : Int) + 1)).2.2.1 (resR a b c d n ((j : Int) + 1)).2.2.2 k (syS a b c d n k v j).2 (gN v (3 * j + 1)).2 (gN v (3 * j + 2)).2 (gN v (3 * j + 3)).2) := rfl
theorem sy_inv1 {a b c d n r k : Int} {v : List (Rc × List Int)} (e : syErr a b c d n r k v = 0) {j : Nat} (hj : (j : Int) + 1 ≤ r) {q : Rc × List Int} (i3 : fit (syB j) q.2) : plV (resR a b c d n ((j : Int) + 1)).1 (resR a b c d n ((j : Int) + 1)).2.1 (resR a b c d n ((j : Int) + 1)).2.2.1 (resR a b c d n ((j : Int) + 1)).2.2.2 (mgL 0 (resR a b c d n ((j : Int) + 1)).1 (resR a b c d n ((j : Int) + 1)).2.1 (resR a b c d n ((j : Int) + 1)).2.2.1 (resR a b c d n ((j : Int) + 1)).2.2.2 k q.2 (gN v (3 * j + 1)).2 (gN v (3 * j + 2)).2 (gN v (3 * j + 3)).2) = true ∧ fit (16 * syB j) (mgL 0 (resR a b c d n ((j : Int) + 1)).1 (resR a b c d n ((j : Int) + 1)).2.1 (resR a b c d n ((j : Int) + 1)).2.2.1 (resR a b c d n ((j : Int) + 1)).2.2.2 k q.2 (gN v (3 * j + 1)).2 (gN v (3 * j + 2)).2 (gN v (3 * j + 3)).2) := by
  obtain ⟨h1, h2, h3, h4, h5, h6, h7, h8⟩ := syErr_s e
  have hb := inr_b h3
  have hn := inr_b h2
  have p := p16 j (by omega)
  have ar : areaR (resR a b c d n ((j : Int) + 1)) ≤ 1048576 := area_res h2 h3 h4 (r - (j + 1)).toNat (j + 1) (by omega)
  have vr := valid_resR a b c d n ((j : Int) + 1)
  have f := fun o (ho : o ≤ 3) => fit_mono (syFit_at h8 (i := 3 * j + o) (by omega)) p.2.2
  have f1 := f 1 (by omega)
  have f2 := f 2 (by omega)
  have f3 := f 3 (by omega)
  generalize resR a b c d n ((j : Int) + 1) = R at ar vr ⊢
  generalize syB j = B at p i3 f1 f2 f3 ⊢
  exact mg_good vr ar h5 ⟨p.1, p.2.1⟩ i3 f1 f2 f3
theorem mgErr_i {R : Rc} {k : Int} {S0 S1 S2 S3 : Rc × List Int} (vr : valid R.1 R.2.1 R.2.2.1 R.2.2.2 = true) (ar : areaR R ≤ 1048576) (hk : inr 1 3 k = true) (q0 : plVR S0 = true) (q1 : plVR S1 = true) (q2 : plVR S2 = true) (q3 : plVR S3 = true) (e0 : isR S0.1.1 S0.1.2.1 S0.1.2.2.1 S0.1.2.2.2 (bndR R 0) = true) (e1 : isR S1.1.1 S1.1.2.1 S1.1.2.2.1 S1.1.2.2.2 (bndR R 1) = true) (e2 : isR S2.1.1 S2.1.2.1 S2.1.2.2.1 S2.1.2.2.2 (bndR R 2) = true) (e3 : isR S3.1.1 S3.1.2.1 S3.1.2.2.1 S3.1.2.2.2 (bndR R 3) = true) (t0 : fitB 281474976710656 S0.2 = true) (t1 : fitB 281474976710656 S1.2 = true) (t2 : fitB 281474976710656 S2.2 = true) (t3 : fitB 281474976710656 S3.2 = true) : mgErr S0.1.1 S0.1.2.1 S0.1.2.2.1 S0.1.2.2.2 S1.1.1 S1.1.2.1 S1.1.2.2.1 S1.1.2.2.2 S2.1.1 S2.1.2.1 S2.1.2.2.1 S2.1.2.2.2 S3.1.1 S3.1.2.1 S3.1.2.2.1 S3.1.2.2.2 R.1 R.2.1 R.2.2.1 R.2.2.2 k S0.2 S1.2 S2.2 S3.2 = 0 := by
  have ar' : decide (area R.1 R.2.1 R.2.2.1 R.2.2.2 > 1048576) = false := by
    rw [decide_eq_false_iff_not]
    unfold areaR at ar
    omega
  unfold plVR at q0 q1 q2 q3
  unfold bndR at e0 e1 e2 e3
  unfold mgErr
  simp only [vr, ar', hk, q0, q1, q2, q3, e0, e1, e2, e3, t0, t1, t2, t3, Bool.not_true, Bool.and_self, Bool.or_self, Bool.false_eq_true, if_false]
theorem sy_inv {a b c d n r k : Int} {v : List (Rc × List Int)} (e : syErr a b c d n r k v = 0) : ∀ j : Nat, (j : Int) ≤ r → plVR (syS a b c d n k v j) = true ∧ (syS a b c d n k v j).1 = resR a b c d n j ∧ fit (syB j) (syS a b c d n k v j).2 := by
  intro j
  induction j with
  | zero =>
    intro hj
    obtain ⟨h1, h2, h3, h4, h5, h6, h7, h8⟩ := syErr_s e
    have hb := inr_b h3
    have g := syBnd_at h7 (i := 0) (by omega)
    refine ⟨g.1, g.2.trans (band_0 h2 h1), ?_⟩
    have := syFit_at h8 (i := 0) (by omega)
    rw [syB_z]
    exact this
  | succ j ih =>
    intro hj
    have hj' : (j : Int) + 1 ≤ r := hj
    have g := sy_inv1 e hj' (ih (by omega)).2.2
    have hc : ((j + 1 : Nat) : Int) = (j : Int) + 1 := rfl
    rw [syS_s, p16s, hc]
    exact ⟨g.1, rfl, g.2⟩
theorem sy_ok {a b c d n r k : Int} {v : List (Rc × List Int)} (e : syErr a b c d n r k v = 0) {j : Nat} (hj : (j : Int) + 1 ≤ r) : syE a b c d n k ((j : Int) + 1) (syS a b c d n k v j).1 (syS a b c d n k v j).2 v = 0 := by
  obtain ⟨h1, h2, h3, h4, h5, h6, h7, h8⟩ := syErr_s e
  have hb := inr_b h3
  have hn := inr_b h2
  obtain ⟨i1, i2, i3⟩ := sy_inv e j (by omega)
  have p := p16 j (by omega)
  have ar : areaR (resR a b c d n ((j : Int) + 1)) ≤ 1048576 := area_res h2 h3 h4 (r - (j + 1)).toNat (j + 1) (by omega)
  have f := fun o (ho : o ≤ 3) => fit_fitB (fit_mono (syFit_at h8 (i := 3 * j + o) (by omega)) (show (4294967296 : Int) ≤ 281474976710656 by omega))
  have g := fun o (h1' : 1 ≤ o) (ho : o ≤ 3) => (syBnd_at h7 (i := 3 * j + o) (by omega))
  have vr := valid_resR a b c d n ((j : Int) + 1)
  have e0 := isR_e (i2.trans (res_half h2 (show (0 : Int) ≤ j by omega) (by omega)))
  have q1 := (g 1 (by omega) (by omega)).1
  have q2 := (g 2 (by omega) (by omega)).1
  have q3 := (g 3 (by omega) (by omega)).1
  have b1 := isR_e ((g 1 (by omega) (by omega)).2.trans (band_at h2 h1 (j := j) (o := 1) (by omega) (by omega) (by omega)))
  have b2 := isR_e ((g 2 (by omega) (by omega)).2.trans (band_at h2 h1 (j := j) (o := 2) (by omega) (by omega) (by omega)))
  have b3 := isR_e ((g 3 (by omega) (by omega)).2.trans (band_at h2 h1 (j := j) (o := 3) (by omega) (by omega) (by omega)))
  have t0 := fit_fitB (fit_mono i3 p.2.1)
  have t1 := f 1 (by omega)
  have t2 := f 2 (by omega)
  have t3 := f 3 (by omega)
  unfold syE
  rw [show (3 * ((j : Int) + 1) - 2).toNat = 3 * j + 1 by omega, show (3 * ((j : Int) + 1) - 1).toNat = 3 * j + 2 by omega, show (3 * ((j : Int) + 1)).toNat = 3 * j + 3 by omega]
  clear f g i2 i3 h7 h8 h4 e p
  generalize resR a b c d n ((j : Int) + 1) = R at *
  generalize syS a b c d n k v j = S0 at *
  generalize gN v (3 * j + 1) = S1 at *
  generalize gN v (3 * j + 2) = S2 at *
  generalize gN v (3 * j + 3) = S3 at *
  exact mgErr_i vr ar h5 i1 q1 q2 q3 e0 b1 b2 b3 t0 t1 t2 t3
theorem smN {v : List (Rc × List Int)} (h : smAll v = true) (i : Nat) : small (gN v i).2.length = true := by
  by_cases hi : i < v.length
  · have := smAll_ix h hi
    have e : gN v i = v[i] := by simp [gN, List.getD_eq_getElem?_getD, hi]
    rw [e]; exact this
  · have e : gN v i = ((0, 0, 0, 0), []) := by simp [gN, List.getD_eq_getElem?_getD, hi]
    rw [e]; rfl
theorem q_sy_step (a b c d n k q o0 o1 o2 o3 : Int) (u : List Int) (v : List (Rc × List Int)) (hok : (inr 1 5 q && decide (3 * q < (v.length : Int)) && smAll v && small u.length) = true) : funR Try.prog t_sy_step (annOf []) l_sy_step 20 Try.f61 [.one (.int .i64 q), .one (.ptr 0 0), .one (.ptr 1 0), .one (.ptr 2 0), .one (.ptr 3 0), .one (.ptr 4 0)] [.box [.int .i64 o0, .int .i64 o1, .int .i64 o2, .int .i64 o3, .row 5], .box [.lst (.pair (.pair (.int .i64) (.pair (.int .i64) (.pair (.int .i64) (.int .i64)))) (.sl (.int .i64))) v], .box [.int .i64 a, .int .i64 b, .int .i64 c, .int .i64 d], .box [.int .i64 n], .box [.int .i64 k], .arr 3 (.int .i64) u] = some ⟨.one (.int .i64 (syE a b c d n k q (o0, o1, o2, o3) u v)), [some (.box [.int .i64 ((syNR (syE a b c d n k q (o0, o1, o2, o3) u v) a b c d n q).1), .int .i64 ((syNR (syE a b c d n k q (o0, o1, o2, o3) u v) a b c d n q).2.1), .int .i64 ((syNR (syE a b c d n k q (o0, o1, o2, o3) u v) a b c d n q).2.2.1), .int .i64 ((syNR (syE a b c d n k q (o0, o1, o2, o3) u v) a b c d n q).2.2.2), .row 6]), some (.box [.lst (.pair (.pair (.int .i64) (.pair (.int .i64) (.pair (.int .i64) (.int .i64)))) (.sl (.int .i64))) v]), some (.box [.int .i64 a, .int .i64 b, .int .i64 c, .int .i64 d]), some (.box [.int .i64 n]), some (.box [.int .i64 k]), some (.arr 3 (.int .i64) u)], [.arr 3 (.int .i64) (syNL (syE a b c d n k q (o0, o1, o2, o3) u v) a b c d n k q u v)]⟩ := by
    refine (e_sy_step ..).trans ?_
    simp only [Bool.and_eq_true, decide_eq_true_eq, and_assoc] at hok
    obtain ⟨z1, h3, hs, hu⟩ := hok
    have b1 := inr_b z1
    have e3 : IntKind.wrap .i64 (3 * q) = 3 * q := wrap_in (by omega) (by omega)
    have e2 : IntKind.wrap .i64 (3 * q - 1) = 3 * q - 1 := wrap_in (by omega) (by omega)
    have e1 : IntKind.wrap .i64 (3 * q - 2) = 3 * q - 2 := wrap_in (by omega) (by omega)
    simp only [e3, e2, e1, ite2_bool, decide_eq_true_eq]
    rw [if_pos (by omega), if_pos (by omega), if_pos (by omega), if_pos (by rw [hu, smN hs, smN hs, smN hs]; rfl)]
    rfl
theorem s_sy_step : SoundFun Try.prog 61 G_sy_step := by
  refine fun_ok (tab := t_sy_step) (ann := annOf []) (lt := l_sy_step) (tab_cons s_pyr_Resolution (tab_cons s_dwt_Merge tab_nil)) (by kernel_rfl) (fn := Try.f61) (by kernel_rfl) (by decide) (c := bodyOf Try.f61) (by kernel_rfl) (fun m b hb => absurd hb (by show b ∉ loopsOf (bodyOf Try.f61); rw [show loopsOf (bodyOf Try.f61) = [] from by kernel_rfl]; exact List.not_mem_nil)) ?_ (keep_nil (by kernel_rfl))
  intro args lent o y0'
  unfold G_sy_step at y0'
  obtain ⟨c', args, rfl, y1'⟩ := pO_s y0'
  obtain ⟨q, rfl, y2'⟩ := kI_s y1'
  obtain ⟨c', args, rfl, y3'⟩ := pO_s y2'
  obtain ⟨rfl, y4'⟩ := kP_s y3'
  obtain ⟨c', args, rfl, y5'⟩ := pO_s y4'
  obtain ⟨rfl, y6'⟩ := kP_s y5'
  obtain ⟨c', args, rfl, y7'⟩ := pO_s y6'
  obtain ⟨rfl, y8'⟩ := kP_s y7'
  obtain ⟨c', args, rfl, y9'⟩ := pO_s y8'
  obtain ⟨rfl, y10'⟩ := kP_s y9'
  obtain ⟨c', args, rfl, y11'⟩ := pO_s y10'
  obtain ⟨rfl, y12'⟩ := kP_s y11'
  obtain ⟨rfl, y13'⟩ := pE_s y12'
  obtain ⟨q', lent, rfl, y14'⟩ := nB_s y13'
  obtain ⟨o0, o1, o2, o3, rfl, y15'⟩ := rd1P_s y14'
  obtain ⟨q', lent, rfl, y16'⟩ := nB_s y15'
  obtain ⟨c', q', rfl, y17'⟩ := tC_s y16'
  obtain ⟨v, rfl, y18'⟩ := kLN_s y17'
  obtain ⟨rfl, y19'⟩ := tE_s y18'
  obtain ⟨q', lent, rfl, y20'⟩ := nB_s y19'
  obtain ⟨c', q', rfl, y21'⟩ := tC_s y20'
  obtain ⟨a, rfl, y22'⟩ := kI_s y21'
  obtain ⟨c', q', rfl, y23'⟩ := tC_s y22'
  obtain ⟨b, rfl, y24'⟩ := kI_s y23'
  obtain ⟨c', q', rfl, y25'⟩ := tC_s y24'
  obtain ⟨c, rfl, y26'⟩ := kI_s y25'
  obtain ⟨c', q', rfl, y27'⟩ := tC_s y26'
  obtain ⟨d, rfl, y28'⟩ := kI_s y27'
  obtain ⟨rfl, y29'⟩ := tE_s y28'
  obtain ⟨q', lent, rfl, y30'⟩ := nB_s y29'
  obtain ⟨c', q', rfl, y31'⟩ := tC_s y30'
  obtain ⟨n, rfl, y32'⟩ := kI_s y31'
  obtain ⟨rfl, y33'⟩ := tE_s y32'
  obtain ⟨q', lent, rfl, y34'⟩ := nB_s y33'
  obtain ⟨c', q', rfl, y35'⟩ := tC_s y34'
  obtain ⟨k, rfl, y36'⟩ := kI_s y35'
  obtain ⟨rfl, y37'⟩ := tE_s y36'
  obtain ⟨u, lent, rfl, y38'⟩ := nAI_s y37'
  obtain ⟨rfl, y39'⟩ := nE_s y38'
  have yy' := y39'
  unfold H_sy_step at yy'
  obtain ⟨hok, rfl⟩ := Prod.mk.inj (Option.some.inj yy')
  exact ⟨20, q_sy_step _ _ _ _ _ _ _ _ _ _ _ _ _ hok⟩
theorem r_pyr_Synth_0 : RoundOk Try.prog t_pyr_Synth (annOf []) l_pyr_Synth Out 20 0 116 [3, 5, 6, 7, 9, 10, 12] (kxOf [3, 5, 6, 7, 9, 10] [10, 11]) (loopOf Try.f30 0) T_pyr_Synth_0 := by
  intro vs bl Kc r h
  unfold T_pyr_Synth_0 at h
  obtain ⟨t, y0', h'⟩ := getD_run h
  obtain ⟨c', vs, rfl, y1'⟩ := pO_s y0'
  obtain ⟨m, rfl, y2'⟩ := kI_s y1'
  obtain ⟨c', vs, rfl, y3'⟩ := pO_s y2'
  obtain ⟨rfl, y4'⟩ := kP_s y3'
  obtain ⟨c', vs, rfl, y5'⟩ := pO_s y4'
  obtain ⟨rfl, y6'⟩ := kP_s y5'
  obtain ⟨c', vs, rfl, y7'⟩ := pO_s y6'
  obtain ⟨rfl, y8'⟩ := kP_s y7'
  obtain ⟨c', vs, rfl, y9'⟩ := pO_s y8'
  obtain ⟨rfl, y10'⟩ := kP_s y9'
  obtain ⟨c', vs, rfl, y11'⟩ := pO_s y10'
  obtain ⟨rfl, y12'⟩ := kP_s y11'
  obtain ⟨c', vs, rfl, y13'⟩ := pO_s y12'
  obtain ⟨i, rfl, y14'⟩ := kI_s y13'
  obtain ⟨rfl, y15'⟩ := pE_s y14'
  obtain ⟨q', bl, rfl, y16'⟩ := bB_s y15'
  obtain ⟨c', q', rfl, y17'⟩ := tC_s y16'
  obtain ⟨v, rfl, y18'⟩ := kLN_s y17'
  obtain ⟨rfl, y19'⟩ := tE_s y18'
  obtain ⟨q', bl, rfl, y20'⟩ := bB_s y19'
  obtain ⟨c', q', rfl, y21'⟩ := tC_s y20'
  obtain ⟨a, rfl, y22'⟩ := kI_s y21'
  obtain ⟨c', q', rfl, y23'⟩ := tC_s y22'
  obtain ⟨b, rfl, y24'⟩ := kI_s y23'
  obtain ⟨c', q', rfl, y25'⟩ := tC_s y24'
  obtain ⟨c, rfl, y26'⟩ := kI_s y25'
  obtain ⟨c', q', rfl, y27'⟩ := tC_s y26'
  obtain ⟨d, rfl, y28'⟩ := kI_s y27'
  obtain ⟨rfl, y29'⟩ := tE_s y28'
  obtain ⟨q', bl, rfl, y30'⟩ := bB_s y29'
  obtain ⟨c', q', rfl, y31'⟩ := tC_s y30'
  obtain ⟨n, rfl, y32'⟩ := kI_s y31'
  obtain ⟨rfl, y33'⟩ := tE_s y32'
  obtain ⟨q', bl, rfl, y34'⟩ := bB_s y33'
  obtain ⟨c', q', rfl, y35'⟩ := tC_s y34'
  obtain ⟨kk, rfl, y36'⟩ := kI_s y35'
  obtain ⟨rfl, y37'⟩ := tE_s y36'
  obtain ⟨q', bl, rfl, y38'⟩ := bB_s y37'
  obtain ⟨z0, z1, z2, z3, rfl, y39'⟩ := rd1P_s y38'
  obtain ⟨y0, bl, rfl, y40'⟩ := bAI_s y39'
  obtain ⟨rfl, y41'⟩ := bE_s y40'
  have yy' := y41'
  cases yy'
  exact (b_pyr_Synth_0 ..).trans ((congrArg (LT.runc · Kc) (tu_pyr_Synth_0 ..)).trans h')
theorem r_pyr_Synth_1 : RoundOk Try.prog t_pyr_Synth (annOf []) l_pyr_Synth Out 20 0 116 [3, 5, 6, 7, 9, 10, 13] (kxOf [3, 5, 6, 7, 9, 10] [10, 11]) (loopOf Try.f30 1) T_pyr_Synth_1 := by
  intro vs bl Kc r h
  unfold T_pyr_Synth_1 at h
  obtain ⟨t, y0', h'⟩ := getD_run h
  obtain ⟨c', vs, rfl, y1'⟩ := pO_s y0'
  obtain ⟨m, rfl, y2'⟩ := kI_s y1'
  obtain ⟨c', vs, rfl, y3'⟩ := pO_s y2'
  obtain ⟨rfl, y4'⟩ := kP_s y3'
  obtain ⟨c', vs, rfl, y5'⟩ := pO_s y4'
  obtain ⟨rfl, y6'⟩ := kP_s y5'
  obtain ⟨c', vs, rfl, y7'⟩ := pO_s y6'
  obtain ⟨rfl, y8'⟩ := kP_s y7'
  obtain ⟨c', vs, rfl, y9'⟩ := pO_s y8'
  obtain ⟨rfl, y10'⟩ := kP_s y9'
  obtain ⟨c', vs, rfl, y11'⟩ := pO_s y10'
  obtain ⟨rfl, y12'⟩ := kP_s y11'
  obtain ⟨c', vs, rfl, y13'⟩ := pO_s y12'
  obtain ⟨i, rfl, y14'⟩ := kI_s y13'
  obtain ⟨rfl, y15'⟩ := pE_s y14'
  obtain ⟨q', bl, rfl, y16'⟩ := bB_s y15'
  obtain ⟨c', q', rfl, y17'⟩ := tC_s y16'
  obtain ⟨v, rfl, y18'⟩ := kLN_s y17'
  obtain ⟨rfl, y19'⟩ := tE_s y18'
  obtain ⟨q', bl, rfl, y20'⟩ := bB_s y19'
  obtain ⟨c', q', rfl, y21'⟩ := tC_s y20'
  obtain ⟨a, rfl, y22'⟩ := kI_s y21'
  obtain ⟨c', q', rfl, y23'⟩ := tC_s y22'
  obtain ⟨b, rfl, y24'⟩ := kI_s y23'
  obtain ⟨c', q', rfl, y25'⟩ := tC_s y24'
  obtain ⟨c, rfl, y26'⟩ := kI_s y25'
  obtain ⟨c', q', rfl, y27'⟩ := tC_s y26'
  obtain ⟨d, rfl, y28'⟩ := kI_s y27'
  obtain ⟨rfl, y29'⟩ := tE_s y28'
  obtain ⟨q', bl, rfl, y30'⟩ := bB_s y29'
  obtain ⟨c', q', rfl, y31'⟩ := tC_s y30'
  obtain ⟨n, rfl, y32'⟩ := kI_s y31'
  obtain ⟨rfl, y33'⟩ := tE_s y32'
  obtain ⟨q', bl, rfl, y34'⟩ := bB_s y33'
  obtain ⟨c', q', rfl, y35'⟩ := tC_s y34'
  obtain ⟨kk, rfl, y36'⟩ := kI_s y35'
  obtain ⟨rfl, y37'⟩ := tE_s y36'
  obtain ⟨q', bl, rfl, y38'⟩ := bB_s y37'
  obtain ⟨z0, z1, z2, z3, rfl, y39'⟩ := rd1P_s y38'
  obtain ⟨y0, bl, rfl, y40'⟩ := bAI_s y39'
  obtain ⟨rfl, y41'⟩ := bE_s y40'
  have yy' := y41'
  cases yy'
  exact (b_pyr_Synth_1 ..).trans ((congrArg (LT.runc · Kc) (tu_pyr_Synth_1 ..)).trans h')
theorem r_pyr_Synth_2 : RoundOk Try.prog t_pyr_Synth (annOf []) l_pyr_Synth Out 20 0 116 [3, 10, 14, 15, 16] (kxOf [10, 14] [10, 11]) (loopOf Try.f30 2) T_pyr_Synth_2 := by
  intro vs bl Kc r h
  unfold T_pyr_Synth_2 at h
  obtain ⟨t, y0', h'⟩ := getD_run h
  obtain ⟨c', vs, rfl, y1'⟩ := pO_s y0'
  obtain ⟨m, rfl, y2'⟩ := kI_s y1'
  obtain ⟨c', vs, rfl, y3'⟩ := pO_s y2'
  obtain ⟨rfl, y4'⟩ := kP_s y3'
  obtain ⟨c', vs, rfl, y5'⟩ := pO_s y4'
  obtain ⟨rfl, y6'⟩ := kP_s y5'
  obtain ⟨c', vs, rfl, y7'⟩ := pO_s y6'
  obtain ⟨rfl, y8'⟩ := kF_s y7'
  obtain ⟨c', vs, rfl, y9'⟩ := pO_s y8'
  obtain ⟨q, rfl, y10'⟩ := kI_s y9'
  obtain ⟨rfl, y11'⟩ := pE_s y10'
  obtain ⟨q', bl, rfl, y12'⟩ := bB_s y11'
  obtain ⟨z0, z1, z2, z3, rfl, y13'⟩ := rd1P_s y12'
  obtain ⟨q', bl, rfl, y14'⟩ := bB_s y13'
  obtain ⟨o0, o1, o2, o3, rfl, y15'⟩ := rd1P_s y14'
  obtain ⟨q', bl, rfl, y16'⟩ := bB_s y15'
  obtain ⟨c', q', rfl, y17'⟩ := tC_s y16'
  obtain ⟨v, rfl, y18'⟩ := kLN_s y17'
  obtain ⟨rfl, y19'⟩ := tE_s y18'
  obtain ⟨q', bl, rfl, y20'⟩ := bB_s y19'
  obtain ⟨c', q', rfl, y21'⟩ := tC_s y20'
  obtain ⟨a, rfl, y22'⟩ := kI_s y21'
  obtain ⟨c', q', rfl, y23'⟩ := tC_s y22'
  obtain ⟨b, rfl, y24'⟩ := kI_s y23'
  obtain ⟨c', q', rfl, y25'⟩ := tC_s y24'
  obtain ⟨c, rfl, y26'⟩ := kI_s y25'
  obtain ⟨c', q', rfl, y27'⟩ := tC_s y26'
  obtain ⟨d, rfl, y28'⟩ := kI_s y27'
  obtain ⟨rfl, y29'⟩ := tE_s y28'
  obtain ⟨q', bl, rfl, y30'⟩ := bB_s y29'
  obtain ⟨c', q', rfl, y31'⟩ := tC_s y30'
  obtain ⟨n, rfl, y32'⟩ := kI_s y31'
  obtain ⟨rfl, y33'⟩ := tE_s y32'
  obtain ⟨q', bl, rfl, y34'⟩ := bB_s y33'
  obtain ⟨c', q', rfl, y35'⟩ := tC_s y34'
  obtain ⟨kk, rfl, y36'⟩ := kI_s y35'
  obtain ⟨rfl, y37'⟩ := tE_s y36'
  obtain ⟨y0, bl, rfl, y38'⟩ := bAI_s y37'
  obtain ⟨u, bl, rfl, y39'⟩ := bAI_s y38'
  obtain ⟨rfl, y40'⟩ := bE_s y39'
  have yy' := y40'
  cases yy'
  exact (b_pyr_Synth_2 ..).trans ((congrArg (LT.runc · Kc) (tu_pyr_Synth_2 ..)).trans h')
theorem o_pyr_Synth : loopsOf (bodyOf Try.f30) = [loopOf Try.f30 0, loopOf Try.f30 1, loopOf Try.f30 2] := by kernel_rfl
theorem zz_pyr_Synth_0 (a b c d n kk z0 z1 z2 z3 m i : Int) (v : List (Rc × List Int)) (y0 : List Int) (hk : k_pyr_Synth_0 a b c d n kk z0 z1 z2 z3 m i v y0 = true) : ∃ k, ∀ (K : Ex → List V → List (Option Blk) → Option Out) r, (c_pyr_Synth_0 a b c d n kk z0 z1 z2 z3 m i v y0).run K = some r → (iter T_pyr_Synth_0 k [.one (.int .i64 m), .one (.ptr 0 0), .one (.ptr 1 0), .one (.ptr 2 0), .one (.ptr 3 0), .one (.ptr 4 0), .one (.int .i64 i)] [some (.box [.lst (.pair (.pair (.int .i64) (.pair (.int .i64) (.pair (.int .i64) (.int .i64)))) (.sl (.int .i64))) v]), some (.box [.int .i64 a, .int .i64 b, .int .i64 c, .int .i64 d]), some (.box [.int .i64 n]), some (.box [.int .i64 kk]), some (.box [.int .i64 z0, .int .i64 z1, .int .i64 z2, .int .i64 z3, .row 5]), some (.arr 3 (.int .i64) y0)]).run K = some r := by
  simp only [k_pyr_Synth_0, Bool.and_eq_true, decide_eq_true_eq, and_assoc] at hk
  obtain ⟨rfl, zm, hl⟩ := hk
  have b1 := inr_b zm
  refine Exists.elim (z_idx (T := T_pyr_Synth_0) (st := fun j => ([.one (.int .i64 m), .one (.ptr 0 0), .one (.ptr 1 0), .one (.ptr 2 0), .one (.ptr 3 0), .one (.ptr 4 0), .one (.int .i64 (j : Int))], [some (.box [.lst (.pair (.pair (.int .i64) (.pair (.int .i64) (.pair (.int .i64) (.int .i64)))) (.sl (.int .i64))) v]), some (.box [.int .i64 a, .int .i64 b, .int .i64 c, .int .i64 d]), some (.box [.int .i64 n]), some (.box [.int .i64 kk]), some (.box [.int .i64 z0, .int .i64 z1, .int .i64 z2, .int .i64 z3, .row 5]), some (.arr 3 (.int .i64) y0)])) (3 * m + 1).toNat (fun i => plVR (gN v i) && isR (gN v i).1.1 (gN v i).1.2.1 (gN v i).1.2.2.1 (gN v i).1.2.2.2 (bandR a b c d n i)) (.leaf (.exit 0) [.one (.int .i64 m), .one (.ptr 0 0), .one (.ptr 1 0), .one (.ptr 2 0), .one (.ptr 3 0), .one (.ptr 4 0)] [some (.box [.lst (.pair (.pair (.int .i64) (.pair (.int .i64) (.pair (.int .i64) (.int .i64)))) (.sl (.int .i64))) v]), some (.box [.int .i64 a, .int .i64 b, .int .i64 c, .int .i64 d]), some (.box [.int .i64 n]), some (.box [.int .i64 kk]), some (.box [.int .i64 z0, .int .i64 z1, .int .i64 z2, .int .i64 z3, .row 5]), some (.arr 3 (.int .i64) y0)]) (.leaf .ret [.one (.ptr 0 0), .one (.int .i64 1)] [some (.box [.int .i64 0, .int .i64 0, .int .i64 0, .int .i64 0, .row 1]), some (.arr 3 (.int .i64) [])]) (fun j hj F K => ?_) (fun F K => ?_)) (fun k hk => ⟨k, fun K r h => ?_⟩)
  · have hc : 0 ≤ (j : Int) ∧ (j : Int) < (v.length : Int) := by omega
    simp only [tu_pyr_Synth_0, U_pyr_Synth_0, LT.next, LT.run, ite2_bool, decide_eq_true_eq, Int.toNat_natCast, if_pos hc]
    rw [wrap_in (n := 3 * m) (by omega) (by omega), if_pos (by omega), wrap_in (n := (j : Int) + 1) (by omega) (by omega)]
    have hR : ∀ (a b c d : Int) (r : Rc), (a == r.1 && (b == r.2.1 && (c == r.2.2.1 && (d == r.2.2.2 && true)))) = isR a b c d r := fun _ _ _ _ _ => rfl
    simp only [hR, plVR]
    rcases Bool.eq_false_or_eq_true (plV (gN v j).1.1 (gN v j).1.2.1 (gN v j).1.2.2.1 (gN v j).1.2.2.2 (gN v j).2) with x1 | x1 <;> rcases Bool.eq_false_or_eq_true (isR (gN v j).1.1 (gN v j).1.2.1 (gN v j).1.2.2.1 (gN v j).1.2.2.2 (bandR a b c d n j)) with y1 | y1 <;> simp only [x1, y1, Bool.not_true, Bool.not_false, Bool.false_eq_true, if_true, if_false, Bool.and_self, Bool.and_true, Bool.and_false] <;> rfl
  · simp only [tu_pyr_Synth_0, U_pyr_Synth_0, LT.next, LT.run, ite2_bool, decide_eq_true_eq]
    rw [wrap_in (n := 3 * m) (by omega) (by omega), if_neg (by omega)]
  · exact hk K r h
theorem z_pyr_Synth_0 : ∀ vs bl t, S_pyr_Synth_0 vs bl = some (true, t) → ∃ n, ∀ (K : Ex → List V → List (Option Blk) → Option Out) r, t.run K = some r → (iter T_pyr_Synth_0 n vs bl).run K = some r := by
  intro vs bl t y0'
  unfold S_pyr_Synth_0 at y0'
  obtain ⟨c', vs, rfl, y1'⟩ := pO_s y0'
  obtain ⟨m, rfl, y2'⟩ := kI_s y1'
  obtain ⟨c', vs, rfl, y3'⟩ := pO_s y2'
  obtain ⟨rfl, y4'⟩ := kP_s y3'
  obtain ⟨c', vs, rfl, y5'⟩ := pO_s y4'
  obtain ⟨rfl, y6'⟩ := kP_s y5'
  obtain ⟨c', vs, rfl, y7'⟩ := pO_s y6'
  obtain ⟨rfl, y8'⟩ := kP_s y7'
  obtain ⟨c', vs, rfl, y9'⟩ := pO_s y8'
  obtain ⟨rfl, y10'⟩ := kP_s y9'
  obtain ⟨c', vs, rfl, y11'⟩ := pO_s y10'
  obtain ⟨rfl, y12'⟩ := kP_s y11'
  obtain ⟨c', vs, rfl, y13'⟩ := pO_s y12'
  obtain ⟨i, rfl, y14'⟩ := kI_s y13'
  obtain ⟨rfl, y15'⟩ := pE_s y14'
  obtain ⟨q', bl, rfl, y16'⟩ := bB_s y15'
  obtain ⟨c', q', rfl, y17'⟩ := tC_s y16'
  obtain ⟨v, rfl, y18'⟩ := kLN_s y17'
  obtain ⟨rfl, y19'⟩ := tE_s y18'
  obtain ⟨q', bl, rfl, y20'⟩ := bB_s y19'
  obtain ⟨c', q', rfl, y21'⟩ := tC_s y20'
  obtain ⟨a, rfl, y22'⟩ := kI_s y21'
  obtain ⟨c', q', rfl, y23'⟩ := tC_s y22'
  obtain ⟨b, rfl, y24'⟩ := kI_s y23'
  obtain ⟨c', q', rfl, y25'⟩ := tC_s y24'
  obtain ⟨c, rfl, y26'⟩ := kI_s y25'
  obtain ⟨c', q', rfl, y27'⟩ := tC_s y26'
  obtain ⟨d, rfl, y28'⟩ := kI_s y27'
  obtain ⟨rfl, y29'⟩ := tE_s y28'
  obtain ⟨q', bl, rfl, y30'⟩ := bB_s y29'
  obtain ⟨c', q', rfl, y31'⟩ := tC_s y30'
  obtain ⟨n, rfl, y32'⟩ := kI_s y31'
  obtain ⟨rfl, y33'⟩ := tE_s y32'
  obtain ⟨q', bl, rfl, y34'⟩ := bB_s y33'
  obtain ⟨c', q', rfl, y35'⟩ := tC_s y34'
  obtain ⟨kk, rfl, y36'⟩ := kI_s y35'
  obtain ⟨rfl, y37'⟩ := tE_s y36'
  obtain ⟨q', bl, rfl, y38'⟩ := bB_s y37'
  obtain ⟨z0, z1, z2, z3, rfl, y39'⟩ := rd1P_s y38'
  obtain ⟨y0, bl, rfl, y40'⟩ := bAI_s y39'
  obtain ⟨rfl, y41'⟩ := bE_s y40'
  have yy' := y41'
  obtain ⟨hk, rfl⟩ := Prod.mk.inj (Option.some.inj yy')
  exact zz_pyr_Synth_0 _ _ _ _ _ _ _ _ _ _ _ _ _ _ hk
theorem zz_pyr_Synth_1 (a b c d n kk z0 z1 z2 z3 m i : Int) (v : List (Rc × List Int)) (y0 : List Int) (hk : k_pyr_Synth_1 a b c d n kk z0 z1 z2 z3 m i v y0 = true) : ∃ k, ∀ (K : Ex → List V → List (Option Blk) → Option Out) r, (c_pyr_Synth_1 a b c d n kk z0 z1 z2 z3 m i v y0).run K = some r → (iter T_pyr_Synth_1 k [.one (.int .i64 m), .one (.ptr 0 0), .one (.ptr 1 0), .one (.ptr 2 0), .one (.ptr 3 0), .one (.ptr 4 0), .one (.int .i64 i)] [some (.box [.lst (.pair (.pair (.int .i64) (.pair (.int .i64) (.pair (.int .i64) (.int .i64)))) (.sl (.int .i64))) v]), some (.box [.int .i64 a, .int .i64 b, .int .i64 c, .int .i64 d]), some (.box [.int .i64 n]), some (.box [.int .i64 kk]), some (.box [.int .i64 z0, .int .i64 z1, .int .i64 z2, .int .i64 z3, .row 5]), some (.arr 3 (.int .i64) y0)]).run K = some r := by
  simp only [k_pyr_Synth_1, Bool.and_eq_true, decide_eq_true_eq, and_assoc] at hk
  obtain ⟨rfl, zm, hl, hs⟩ := hk
  have b1 := inr_b zm
  refine Exists.elim (z_idx (T := T_pyr_Synth_1) (st := fun j => ([.one (.int .i64 m), .one (.ptr 0 0), .one (.ptr 1 0), .one (.ptr 2 0), .one (.ptr 3 0), .one (.ptr 4 0), .one (.int .i64 (j : Int))], [some (.box [.lst (.pair (.pair (.int .i64) (.pair (.int .i64) (.pair (.int .i64) (.int .i64)))) (.sl (.int .i64))) v]), some (.box [.int .i64 a, .int .i64 b, .int .i64 c, .int .i64 d]), some (.box [.int .i64 n]), some (.box [.int .i64 kk]), some (.box [.int .i64 z0, .int .i64 z1, .int .i64 z2, .int .i64 z3, .row 5]), some (.arr 3 (.int .i64) y0)])) (3 * m + 1).toNat (fun i => fitB 4294967296 (gN v i).2) (.leaf (.exit 2) [.one (.int .i64 m), .one (.ptr 0 0), .one (.ptr 1 0), .one (.ptr 2 0), .one (.ptr 3 0), .one (.ptr 4 0)] [some (.box [.lst (.pair (.pair (.int .i64) (.pair (.int .i64) (.pair (.int .i64) (.int .i64)))) (.sl (.int .i64))) v]), some (.box [.int .i64 a, .int .i64 b, .int .i64 c, .int .i64 d]), some (.box [.int .i64 n]), some (.box [.int .i64 kk]), some (.box [.int .i64 z0, .int .i64 z1, .int .i64 z2, .int .i64 z3, .row 5]), some (.arr 3 (.int .i64) y0)]) (.leaf .ret [.one (.ptr 0 0), .one (.int .i64 2)] [some (.box [.int .i64 0, .int .i64 0, .int .i64 0, .int .i64 0, .row 1]), some (.arr 3 (.int .i64) [])]) (fun j hj F K => ?_) (fun F K => ?_)) (fun k hk => ⟨k, fun K r h => ?_⟩)
  · have hc : 0 ≤ (j : Int) ∧ (j : Int) < (v.length : Int) := by omega
    simp only [tu_pyr_Synth_1, U_pyr_Synth_1, LT.next, LT.run, ite2_bool, decide_eq_true_eq, Int.toNat_natCast, if_pos hc]
    rw [wrap_in (n := 3 * m) (by omega) (by omega), if_pos (by omega), wrap_in (n := (j : Int) + 1) (by omega) (by omega)]
    have s1 := smAll_ix hs (show j < v.length by omega)
    have eg : gN v j = v[j] := by simp [gN, List.getD_eq_getElem?_getD, show j < v.length by omega]
    rw [eg, s1, if_pos (show (true && true) = true from rfl)]
    rcases Bool.eq_false_or_eq_true (fitB 4294967296 v[j].2) with x1 | x1 <;> simp only [x1, Bool.not_true, Bool.not_false, Bool.false_eq_true, if_true, if_false] <;> rfl
  · simp only [tu_pyr_Synth_1, U_pyr_Synth_1, LT.next, LT.run, ite2_bool, decide_eq_true_eq]
    rw [wrap_in (n := 3 * m) (by omega) (by omega), if_neg (by omega)]
  · exact hk K r h
theorem z_pyr_Synth_1 : ∀ vs bl t, S_pyr_Synth_1 vs bl = some (true, t) → ∃ n, ∀ (K : Ex → List V → List (Option Blk) → Option Out) r, t.run K = some r → (iter T_pyr_Synth_1 n vs bl).run K = some r := by
  intro vs bl t y0'
  unfold S_pyr_Synth_1 at y0'
  obtain ⟨c', vs, rfl, y1'⟩ := pO_s y0'
  obtain ⟨m, rfl, y2'⟩ := kI_s y1'
  obtain ⟨c', vs, rfl, y3'⟩ := pO_s y2'
  obtain ⟨rfl, y4'⟩ := kP_s y3'
  obtain ⟨c', vs, rfl, y5'⟩ := pO_s y4'
  obtain ⟨rfl, y6'⟩ := kP_s y5'
  obtain ⟨c', vs, rfl, y7'⟩ := pO_s y6'
  obtain ⟨rfl, y8'⟩ := kP_s y7'
  obtain ⟨c', vs, rfl, y9'⟩ := pO_s y8'
  obtain ⟨rfl, y10'⟩ := kP_s y9'
  obtain ⟨c', vs, rfl, y11'⟩ := pO_s y10'
  obtain ⟨rfl, y12'⟩ := kP_s y11'
  obtain ⟨c', vs, rfl, y13'⟩ := pO_s y12'
  obtain ⟨i, rfl, y14'⟩ := kI_s y13'
  obtain ⟨rfl, y15'⟩ := pE_s y14'
  obtain ⟨q', bl, rfl, y16'⟩ := bB_s y15'
  obtain ⟨c', q', rfl, y17'⟩ := tC_s y16'
  obtain ⟨v, rfl, y18'⟩ := kLN_s y17'
  obtain ⟨rfl, y19'⟩ := tE_s y18'
  obtain ⟨q', bl, rfl, y20'⟩ := bB_s y19'
  obtain ⟨c', q', rfl, y21'⟩ := tC_s y20'
  obtain ⟨a, rfl, y22'⟩ := kI_s y21'
  obtain ⟨c', q', rfl, y23'⟩ := tC_s y22'
  obtain ⟨b, rfl, y24'⟩ := kI_s y23'
  obtain ⟨c', q', rfl, y25'⟩ := tC_s y24'
  obtain ⟨c, rfl, y26'⟩ := kI_s y25'
  obtain ⟨c', q', rfl, y27'⟩ := tC_s y26'
  obtain ⟨d, rfl, y28'⟩ := kI_s y27'
  obtain ⟨rfl, y29'⟩ := tE_s y28'
  obtain ⟨q', bl, rfl, y30'⟩ := bB_s y29'
  obtain ⟨c', q', rfl, y31'⟩ := tC_s y30'
  obtain ⟨n, rfl, y32'⟩ := kI_s y31'
  obtain ⟨rfl, y33'⟩ := tE_s y32'
  obtain ⟨q', bl, rfl, y34'⟩ := bB_s y33'
  obtain ⟨c', q', rfl, y35'⟩ := tC_s y34'
  obtain ⟨kk, rfl, y36'⟩ := kI_s y35'
  obtain ⟨rfl, y37'⟩ := tE_s y36'
  obtain ⟨q', bl, rfl, y38'⟩ := bB_s y37'
  obtain ⟨z0, z1, z2, z3, rfl, y39'⟩ := rd1P_s y38'
  obtain ⟨y0, bl, rfl, y40'⟩ := bAI_s y39'
  obtain ⟨rfl, y41'⟩ := bE_s y40'
  have yy' := y41'
  obtain ⟨hk, rfl⟩ := Prod.mk.inj (Option.some.inj yy')
  exact zz_pyr_Synth_1 _ _ _ _ _ _ _ _ _ _ _ _ _ _ hk
theorem zz_pyr_Synth_2 (a b c d n kk m o0 o1 o2 o3 z0 z1 z2 z3 q : Int) (v : List (Rc × List Int)) (y0 u : List Int) (hk : k_pyr_Synth_2 a b c d n kk m o0 o1 o2 o3 z0 z1 z2 z3 q v y0 u = true) : ∃ k, ∀ (K : Ex → List V → List (Option Blk) → Option Out) r, (c_pyr_Synth_2 a b c d n kk m o0 o1 o2 o3 z0 z1 z2 z3 q v y0 u).run K = some r → (iter T_pyr_Synth_2 k [.one (.int .i64 m), .one (.ptr 0 0), .one (.ptr 1 0), .one (.fn 61 [1, 2, 3, 4, 5]), .one (.int .i64 q)] [some (.box [.int .i64 z0, .int .i64 z1, .int .i64 z2, .int .i64 z3, .row 6]), some (.box [.int .i64 o0, .int .i64 o1, .int .i64 o2, .int .i64 o3, .row 7]), some (.box [.lst (.pair (.pair (.int .i64) (.pair (.int .i64) (.pair (.int .i64) (.int .i64)))) (.sl (.int .i64))) v]), some (.box [.int .i64 a, .int .i64 b, .int .i64 c, .int .i64 d]), some (.box [.int .i64 n]), some (.box [.int .i64 kk]), some (.arr 3 (.int .i64) y0), some (.arr 3 (.int .i64) u)]).run K = some r := by
  simp only [k_pyr_Synth_2, Bool.and_eq_true, decide_eq_true_eq, and_assoc] at hk
  obtain ⟨rfl, hs, e, ho, rfl⟩ := hk
  obtain ⟨h1, h2, h3, h4, h5, h6, h7, h8⟩ := syErr_s e
  have hb := inr_b h3
  have hn := inr_b h2
  refine Exists.elim (z_fold (T := T_pyr_Synth_2) (st := fun j => ([.one (.int .i64 m), .one (.ptr 0 0), .one (.ptr 1 0), .one (.fn 61 [1, 2, 3, 4, 5]), .one (.int .i64 (1 + (j : Int)))], [some (.box [.int .i64 z0, .int .i64 z1, .int .i64 z2, .int .i64 z3, .row 6]), some (.box [.int .i64 ((syS a b c d n kk v j).1.1), .int .i64 ((syS a b c d n kk v j).1.2.1), .int .i64 ((syS a b c d n kk v j).1.2.2.1), .int .i64 ((syS a b c d n kk v j).1.2.2.2), .row 7]), some (.box [.lst (.pair (.pair (.int .i64) (.pair (.int .i64) (.pair (.int .i64) (.int .i64)))) (.sl (.int .i64))) v]), some (.box [.int .i64 a, .int .i64 b, .int .i64 c, .int .i64 d]), some (.box [.int .i64 n]), some (.box [.int .i64 kk]), some (.arr 3 (.int .i64) y0), some (.arr 3 (.int .i64) (syS a b c d n kk v j).2)])) m.toNat (.leaf (.exit 4) [.one (.ptr 0 0), .one (.ptr 1 0)] [some (.box [.int .i64 z0, .int .i64 z1, .int .i64 z2, .int .i64 z3, .row 2]), some (.box [.int .i64 ((syS a b c d n kk v m.toNat).1.1), .int .i64 ((syS a b c d n kk v m.toNat).1.2.1), .int .i64 ((syS a b c d n kk v m.toNat).1.2.2.1), .int .i64 ((syS a b c d n kk v m.toNat).1.2.2.2), .row 3]), some (.arr 3 (.int .i64) y0), some (.arr 3 (.int .i64) (syS a b c d n kk v m.toNat).2)]) (fun j hj F K => ?_) (fun F K => ?_)) (fun k hk => ⟨k, fun K r h => ?_⟩)
  · have so := sy_ok e (j := j) (by omega)
    have sv := plV_b (sy_inv e j (by omega)).1
    have sm : small (syS a b c d n kk v j).2.length = true := small_d (by omega)
    have es : syE a b c d n kk (1 + (j : Int)) ((syS a b c d n kk v j).1.1, (syS a b c d n kk v j).1.2.1, (syS a b c d n kk v j).1.2.2.1, (syS a b c d n kk v j).1.2.2.2) (syS a b c d n kk v j).2 v = 0 := by rw [Int.add_comm]; exact so
    simp only [tu_pyr_Synth_2, U_pyr_Synth_2, LT.next, LT.run, ite2_bool, decide_eq_true_eq, es, bne_self_eq_false, Bool.false_eq_true, if_false]
    rw [if_pos (by omega), if_pos (by rw [inr_t (a := 1) (b := 5) (x := 1 + (j : Int)) (by omega) (by omega), hs, sm]; simp only [Bool.and_true, Bool.true_and, decide_eq_true_eq]; omega), wrap_in (n := 1 + (j : Int) + 1) (by omega) (by omega), show 1 + (j : Int) + 1 = 1 + ((j + 1 : Nat) : Int) by omega]
    have hst : syS a b c d n kk v (j + 1) = (syNR 0 a b c d n (1 + (j : Int)), syNL 0 a b c d n kk (1 + (j : Int)) (syS a b c d n kk v j).2 v) := by
      rw [syS_s]
      unfold syNR syNL mgR
      rw [if_pos rfl, Int.add_comm 1 (j : Int), show (3 * ((j : Int) + 1) - 2).toNat = 3 * j + 1 by omega, show (3 * ((j : Int) + 1) - 1).toNat = 3 * j + 2 by omega, show (3 * ((j : Int) + 1)).toNat = 3 * j + 3 by omega]
    rw [hst]
    first
    | done
    | rfl
  · simp only [tu_pyr_Synth_2, U_pyr_Synth_2, LT.next, LT.run, ite2_bool, decide_eq_true_eq]
    rw [if_neg (by omega)]
  · obtain ⟨rfl, rfl, rfl, rfl⟩ : o0 = (gN v 0).1.1 ∧ o1 = (gN v 0).1.2.1 ∧ o2 = (gN v 0).1.2.2.1 ∧ o3 = (gN v 0).1.2.2.2 := by rw [← ho]; exact ⟨rfl, rfl, rfl, rfl⟩
    exact hk K r h
theorem z_pyr_Synth_2 : ∀ vs bl t, S_pyr_Synth_2 vs bl = some (true, t) → ∃ n, ∀ (K : Ex → List V → List (Option Blk) → Option Out) r, t.run K = some r → (iter T_pyr_Synth_2 n vs bl).run K = some r := by
  intro vs bl t y0'
  unfold S_pyr_Synth_2 at y0'
  obtain ⟨c', vs, rfl, y1'⟩ := pO_s y0'
  obtain ⟨m, rfl, y2'⟩ := kI_s y1'
  obtain ⟨c', vs, rfl, y3'⟩ := pO_s y2'
  obtain ⟨rfl, y4'⟩ := kP_s y3'
  obtain ⟨c', vs, rfl, y5'⟩ := pO_s y4'
  obtain ⟨rfl, y6'⟩ := kP_s y5'
  obtain ⟨c', vs, rfl, y7'⟩ := pO_s y6'
  obtain ⟨rfl, y8'⟩ := kF_s y7'
  obtain ⟨c', vs, rfl, y9'⟩ := pO_s y8'
  obtain ⟨q, rfl, y10'⟩ := kI_s y9'
  obtain ⟨rfl, y11'⟩ := pE_s y10'
  obtain ⟨q', bl, rfl, y12'⟩ := bB_s y11'
  obtain ⟨z0, z1, z2, z3, rfl, y13'⟩ := rd1P_s y12'
  obtain ⟨q', bl, rfl, y14'⟩ := bB_s y13'
  obtain ⟨o0, o1, o2, o3, rfl, y15'⟩ := rd1P_s y14'
  obtain ⟨q', bl, rfl, y16'⟩ := bB_s y15'
  obtain ⟨c', q', rfl, y17'⟩ := tC_s y16'
  obtain ⟨v, rfl, y18'⟩ := kLN_s y17'
  obtain ⟨rfl, y19'⟩ := tE_s y18'
  obtain ⟨q', bl, rfl, y20'⟩ := bB_s y19'
  obtain ⟨c', q', rfl, y21'⟩ := tC_s y20'
  obtain ⟨a, rfl, y22'⟩ := kI_s y21'
  obtain ⟨c', q', rfl, y23'⟩ := tC_s y22'
  obtain ⟨b, rfl, y24'⟩ := kI_s y23'
  obtain ⟨c', q', rfl, y25'⟩ := tC_s y24'
  obtain ⟨c, rfl, y26'⟩ := kI_s y25'
  obtain ⟨c', q', rfl, y27'⟩ := tC_s y26'
  obtain ⟨d, rfl, y28'⟩ := kI_s y27'
  obtain ⟨rfl, y29'⟩ := tE_s y28'
  obtain ⟨q', bl, rfl, y30'⟩ := bB_s y29'
  obtain ⟨c', q', rfl, y31'⟩ := tC_s y30'
  obtain ⟨n, rfl, y32'⟩ := kI_s y31'
  obtain ⟨rfl, y33'⟩ := tE_s y32'
  obtain ⟨q', bl, rfl, y34'⟩ := bB_s y33'
  obtain ⟨c', q', rfl, y35'⟩ := tC_s y34'
  obtain ⟨kk, rfl, y36'⟩ := kI_s y35'
  obtain ⟨rfl, y37'⟩ := tE_s y36'
  obtain ⟨y0, bl, rfl, y38'⟩ := bAI_s y37'
  obtain ⟨u, bl, rfl, y39'⟩ := bAI_s y38'
  obtain ⟨rfl, y40'⟩ := bE_s y39'
  have yy' := y40'
  obtain ⟨hk, rfl⟩ := Prod.mk.inj (Option.some.inj yy')
  exact zz_pyr_Synth_2 _ _ _ _ _ _ _ _ _ _ _ _ _ _ _ _ _ _ _ hk
theorem q_pyr_Synth (a b c d n r k : Int) (v : List (Rc × List Int)) (hok : smAll v = true) : funR Try.prog t_pyr_Synth (annOf []) l_pyr_Synth 20 Try.f30 [.one (.lst (.pair (.pair (.int .i64) (.pair (.int .i64) (.pair (.int .i64) (.int .i64)))) (.sl (.int .i64))) v), .agg [.int .i64 a, .int .i64 b, .int .i64 c, .int .i64 d], .one (.int .i64 n), .one (.int .i64 r), .one (.int .i64 k)] [] = some ⟨.tup [(true, [.int .i64 ((syR a b c d n r k v).1), .int .i64 ((syR a b c d n r k v).2.1), .int .i64 ((syR a b c d n r k v).2.2.1), .int .i64 ((syR a b c d n r k v).2.2.2), .row 0]), (false, [.int .i64 (syErr a b c d n r k v)])], [], [.arr 3 (.int .i64) (syL a b c d n r k v)]⟩ := by
    refine (e_pyr_Synth ..).trans ?_
    have hm : (marg k == 0) = !inr 1 3 k := by
      rw [← marg_k]
      have : 0 ≤ marg k := by unfold marg; split <;> (try split) <;> omega
      by_cases h : marg k = 0
      · simp [h]
      · have h2 : marg k > 0 := by omega
        simp [h, h2]
    simp only [ite2_bool, decide_eq_true_eq, hm, List.nil_append, Nat.zero_add]
    cases hv : valid a b c d
    · have e : syErr a b c d n r k v = 2 := by simp [syErr, hv]
      simp [syR, syL, e]
    cases hn : inr 0 5 n
    · have e : syErr a b c d n r k v = 2 := by simp [syErr, hv, hn]
      simp [syR, syL, e, count, hn]
    have hb := inr_b hn
    have hc0 : (count n == 0) = false := by simp only [count, hn, if_true, beq_eq_false_iff_ne, ne_eq]; omega
    cases hr : inr 0 n r
    · have e : syErr a b c d n r k v = 2 := by simp [syErr, hv, hn, hr]
      have : ¬ (0 ≤ r ∧ r ≤ n) := fun h => by rw [inr_t h.1 h.2] at hr; cases hr
      by_cases h2 : r < 0
      · simp [syR, syL, e, hc0, h2]
      · simp [syR, syL, e, hc0, h2, show r > n by omega]
    have hc := inr_b hr
    have n1 : ¬ r < 0 := by omega
    have n2 : ¬ r > n := by omega
    by_cases ha : area (resR a b c d n r).1 (resR a b c d n r).2.1 (resR a b c d n r).2.2.1 (resR a b c d n r).2.2.2 > 1048576
    · have e : syErr a b c d n r k v = 2 := by simp [syErr, hv, hn, hr, ha]
      simp [syR, syL, e, hc0, n1, n2, ha]
    cases hk : inr 1 3 k
    · have e : syErr a b c d n r k v = 3 := by simp [syErr, hv, hn, hr, ha, hk]
      simp [syR, syL, e, hc0, n1, n2, ha]
    by_cases hl : (v.length : Int) = count n
    rotate_left
    · have e : syErr a b c d n r k v = 4 := by simp [syErr, hv, hn, hr, ha, hk, hl]
      simp [syR, syL, e, hc0, n1, n2, ha, hl]
    have hl3 : (v.length : Int) = 3 * n + 1 := by rw [hl]; simp only [count, hn, if_true]
    have d1 : decide (3 * r < (v.length : Int)) = true := by rw [decide_eq_true_eq]; omega
    have i5 : inr 0 5 r = true := inr_t (by omega) (by omega)
    have hne : ((v.length : Int) != count n) = false := by simp [hl]
    cases h1 : syBnd a b c d n r v
    · have e : syErr a b c d n r k v = 1 := by simp [syErr, hv, hn, hr, ha, hk, hl, h1]
      simp only [syR, syL, e, hc0, hne, k_pyr_Synth_0, i5, d1, h1, and_self, decide_true, Bool.and_self, Bool.not_true, Bool.false_eq_true, if_false, if_true, if_neg n1, if_neg n2, if_neg ha, show ¬ (1 : Int) = 0 by omega]
    cases h2 : syFit r v
    · have e : syErr a b c d n r k v = 2 := by simp [syErr, hv, hn, hr, ha, hk, hl, h1, h2]
      simp only [syR, syL, e, hc0, hne, k_pyr_Synth_0, k_pyr_Synth_1, i5, d1, hok, h1, h2, and_self, decide_true, Bool.and_self, Bool.not_true, Bool.false_eq_true, if_false, if_true, if_neg n1, if_neg n2, if_neg ha, show ¬ (2 : Int) = 0 by omega]
    have e : syErr a b c d n r k v = 0 := by simp [syErr, hv, hn, hr, ha, hk, hl, h1, h2]
    have sv := plV_b (sy_inv e 0 (by omega)).1
    have s9 : (gN v 0).2.length * 9 ≤ 140737488355328 := by
      show (syS a b c d n k v 0).2.length * 9 ≤ 140737488355328
      omega
    have hz : (0 : Int) < (v.length : Int) := by omega
    simp only [syR, syL, e, hc0, hne, k_pyr_Synth_0, k_pyr_Synth_1, k_pyr_Synth_2, i5, d1, hok, h1, h2, s9, hz, Int.le_refl, and_self, decide_true, Bool.and_self, Bool.not_true, Bool.false_eq_true, if_false, if_true, if_neg n1, if_neg n2, if_neg ha]
theorem s_pyr_Synth : SoundFun Try.prog 30 G_pyr_Synth := by
  refine fun_ok (tab := t_pyr_Synth) (ann := annOf []) (lt := l_pyr_Synth) (tab_cons s_pyr_Count (tab_cons s_pyr_Resolution (tab_cons s_pyr_Band (tab_cons s_pyr_validLevels (tab_cons s_pl_Valid (tab_cons s_lift_Margin (tab_cons s_pyr_exceeds (tab_cons s_rect_Valid (tab_cons s_rect_Area (tab_cons s_sy_step tab_nil)))))))))) (by kernel_rfl) (fn := Try.f30) (by kernel_rfl) (by decide) (c := bodyOf Try.f30) (by kernel_rfl) (by
    intro m b hb
    have hb' : b ∈ loopsOf (bodyOf Try.f30) := hb
    rw [o_pyr_Synth] at hb'
    simp only [List.mem_cons, List.not_mem_nil, or_false] at hb'
    rcases hb' with rfl | rfl | rfl
    · exact loop_ok (key := 8) (by kernel_rfl) rfl r_pyr_Synth_0 z_pyr_Synth_0 m
    · exact loop_ok (key := 13) (by kernel_rfl) rfl r_pyr_Synth_1 z_pyr_Synth_1 m
    · exact loop_ok (key := 20) (by kernel_rfl) rfl r_pyr_Synth_2 z_pyr_Synth_2 m
    ) ?_ (keep_nil (by kernel_rfl))
  intro args lent o y0'
  unfold G_pyr_Synth at y0'
  obtain ⟨c', args, rfl, y1'⟩ := pO_s y0'
  obtain ⟨v, rfl, y2'⟩ := kLN_s y1'
  obtain ⟨q', args, rfl, y3'⟩ := pA_s y2'
  obtain ⟨c', q', rfl, y4'⟩ := tC_s y3'
  obtain ⟨a, rfl, y5'⟩ := kI_s y4'
  obtain ⟨c', q', rfl, y6'⟩ := tC_s y5'
  obtain ⟨b, rfl, y7'⟩ := kI_s y6'
  obtain ⟨c', q', rfl, y8'⟩ := tC_s y7'
  obtain ⟨c, rfl, y9'⟩ := kI_s y8'
  obtain ⟨c', q', rfl, y10'⟩ := tC_s y9'
  obtain ⟨d, rfl, y11'⟩ := kI_s y10'
  obtain ⟨rfl, y12'⟩ := tE_s y11'
  obtain ⟨c', args, rfl, y13'⟩ := pO_s y12'
  obtain ⟨n, rfl, y14'⟩ := kI_s y13'
  obtain ⟨c', args, rfl, y15'⟩ := pO_s y14'
  obtain ⟨r, rfl, y16'⟩ := kI_s y15'
  obtain ⟨c', args, rfl, y17'⟩ := pO_s y16'
  obtain ⟨k, rfl, y18'⟩ := kI_s y17'
  obtain ⟨rfl, y19'⟩ := pE_s y18'
  obtain ⟨rfl, y20'⟩ := nE_s y19'
  have yy' := y20'
  unfold H_pyr_Synth at yy'
  obtain ⟨hok, rfl⟩ := Prod.mk.inj (Option.some.inj yy')
  exact ⟨20, q_pyr_Synth _ _ _ _ _ _ _ _ hok⟩
end Go.Rx.Ch06

set_option linter.unusedVariables false
set_option linter.unusedSimpArgs false
set_option maxRecDepth 100000
set_option maxHeartbeats 40000000
open Go Go.Rx Go.Proofs
namespace Go.Rx.Ch06
theorem mgErr_p {a0 b0 c0 d0 a1 b1 c1 d1 a2 b2 c2 d2 a3 b3 c3 d3 a b c d k : Int} {l0 l1 l2 l3 : List Int} (h : mgErr a0 b0 c0 d0 a1 b1 c1 d1 a2 b2 c2 d2 a3 b3 c3 d3 a b c d k l0 l1 l2 l3 = 0) : plV a0 b0 c0 d0 l0 = true ∧ plV a1 b1 c1 d1 l1 = true ∧ plV a2 b2 c2 d2 l2 = true ∧ plV a3 b3 c3 d3 l3 = true := by
  unfold mgErr at h
  split at h
  · exact absurd h (by decide)
  split at h
  · exact absurd h (by decide)
  split at h
  · exact absurd h (by decide)
  rename_i h3
  simp only [Bool.not_eq_true', Bool.not_eq_false, Bool.and_eq_true] at h3
  exact ⟨h3.1.1.1.1.1.1.1, h3.1.1.1.1.1.2, h3.1.1.1.2, h3.1.2⟩
theorem cdiv_1 {a : Int} (h0 : 0 ≤ a) (h1 : a ≤ 4096) : cdiv a 1 = a := by
  rw [cdiv_e h0 h1 (by omega)]
  split <;> omega
theorem res_top {a b c d n : Int} (hn : inr 0 5 n = true) (hv : valid a b c d = true) : resR a b c d n n = (a, b, c, d) := by
  have hb := inr_b hn
  have vb := valid_b hv
  unfold resR
  rw [hn, inr_t (a := 0) (b := n) (x := n) hb.1 (by omega), show n - n = 0 by omega, pw_5.1]
  simp only [Bool.and_self, if_true]
  unfold reduce
  rw [hv]
  simp only [Bool.not_true, Bool.false_or]
  rw [if_neg (by decide), cdiv_1 vb.1 (by omega), cdiv_1 (show 0 ≤ b by omega) (by omega), cdiv_1 (show 0 ≤ c by omega) (by omega), cdiv_1 (show 0 ≤ d by omega) (by omega)]
theorem anS_res {a b c d n k : Int} {l : List Int} (hn : inr 0 5 n = true) (hv : valid a b c d = true) : ∀ t : Nat, (t : Int) ≤ n → (anS k t ((a, b, c, d), l)).1 = resR a b c d n (n - t)
  | 0, _ => by
    show (a, b, c, d) = _
    rw [show n - ((0 : Nat) : Int) = n by omega, res_top hn hv]
  | t + 1, h => by
    show bndR (anS k t ((a, b, c, d), l)).1 0 = _
    rw [anS_res hn hv t (by omega), show n - (t : Int) = (n - ((t + 1 : Nat) : Int)) + 1 by omega, ← res_half hn (by omega) (by omega)]
theorem bdP_32 : ∀ n : Fin 6, ∀ i : Fin 16, ∀ k : Fin 4, bdP 1048576 (n.val : Int) (i.val : Int) (k.val : Int) ≤ 4294967296 := by decide +kernel
theorem bdP_le {n k : Int} (hn : inr 0 5 n = true) (hk : inr 1 3 k = true) {i : Nat} (hi : (i : Int) ≤ 3 * n) : bdP 1048576 n i k ≤ 4294967296 := by
  have hb := inr_b hn
  have hc := inr_b hk
  have := bdP_32 ⟨n.toNat, by omega⟩ ⟨i, by omega⟩ ⟨k.toNat, by omega⟩
  simp only [Int.toNat_of_nonneg hb.1, Int.toNat_of_nonneg (show 0 ≤ k by omega)] at this
  exact this
theorem an_gN {a b c d n k : Int} {l : List Int} (e : anErr a b c d n k l = 0) {i : Nat} (hi : (i : Int) ≤ 3 * n) : gN (anF a b c d n k l) i = anAt n k ((a, b, c, d), l) i := by
  have el : anF a b c d n k l = (List.range (3 * n + 1).toNat).map (anAt n k ((a, b, c, d), l)) := by unfold anF; rw [if_pos e]
  rw [el]
  have : i < (3 * n + 1).toNat := by omega
  simp [gN, List.getD_eq_getElem?_getD, this]
theorem an_at {a b c d n k : Int} {l : List Int} (e : anErr a b c d n k l = 0) {j o : Nat} (hj : (j : Int) + 1 ≤ n) (h1 : 1 ≤ o) (h3 : o ≤ 3) : gN (anF a b c d n k l) (3 * j + o) = plT (bndR (anS k (n - (j + 1)).toNat ((a, b, c, d), l)).1 o) (spDo o (anS k (n - (j + 1)).toNat ((a, b, c, d), l)).1 k (anS k (n - (j + 1)).toNat ((a, b, c, d), l)).2) := by
  rw [an_gN e (by omega)]
  have := anAt_at (n := n) (k := k) (q := ((a, b, c, d), l)) (j := (n - (j + 1)).toNat) (t := j + 1) (by omega) (by omega) o h1 h3
  rw [show 3 * (j + 1) - 3 + o = 3 * j + o by omega] at this
  exact this
theorem anS_s {k : Int} {q : Rc × List Int} (j : Nat) : anS k (j + 1) q = (bndR (anS k j q).1 0, spD0 (anS k j q).1.1 (anS k j q).1.2.1 (anS k j q).1.2.2.1 (anS k j q).1.2.2.2 k (anS k j q).2) := rfl
theorem spDo_1 (r : Rc) (k : Int) (l : List Int) : spDo ((1 : Nat) : Int) r k l = spD1 r.1 r.2.1 r.2.2.1 r.2.2.2 k l := by unfold spDo; rw [if_neg (by decide), if_pos (by decide)]
theorem spDo_2 (r : Rc) (k : Int) (l : List Int) : spDo ((2 : Nat) : Int) r k l = spD2 r.1 r.2.1 r.2.2.1 r.2.2.2 k l := by unfold spDo; rw [if_neg (by decide), if_neg (by decide), if_pos (by decide)]
theorem spDo_3 (r : Rc) (k : Int) (l : List Int) : spDo ((3 : Nat) : Int) r k l = spD3 r.1 r.2.1 r.2.2.1 r.2.2.2 k l := by unfold spDo; rw [if_neg (by decide), if_neg (by decide), if_neg (by decide)]
theorem sy_an {a b c d n k : Int} {l : List Int} (e : anErr a b c d n k l = 0) : ∀ j : Nat, (j : Int) ≤ n → syS a b c d n k (anF a b c d n k l) j = anS k (n - j).toNat ((a, b, c, d), l)
  | 0, h => by
    show gN _ 0 = _
    rw [an_gN e (by omega), show n - ((0 : Nat) : Int) = n by omega]
    rfl
  | j + 1, h => by
    obtain ⟨hv, hk, hn, hq⟩ := anErr_s e
    have hb := inr_b hn
    have ok := anS_ok (q := ((a, b, c, d), l)) hv hk (fitB_fit hq) (n - (j + 1)).toNat (by omega)
    have hr := anS_res (k := k) (l := l) hn (plV_b hv).1 (n - (j + 1)).toNat (by omega)
    have m := (mg_inv ok.2.2).2
    rw [show n - ((n - ((j : Int) + 1)).toNat : Int) = (j : Int) + 1 by omega] at hr
    rw [syS_s, sy_an e j (by omega), an_at e (j := j) (o := 1) (by omega) (by omega) (by omega), an_at e (j := j) (o := 2) (by omega) (by omega) (by omega), an_at e (j := j) (o := 3) (by omega) (by omega) (by omega), ← hr]
    have hc : ((j + 1 : Nat) : Int) = (j : Int) + 1 := rfl
    rw [hc, show (n - (j : Int)).toNat = (n - ((j : Int) + 1)).toNat + 1 by omega]
    rw [anS_s]
    generalize anS k (n - ((j : Int) + 1)).toNat ((a, b, c, d), l) = S at m ⊢
    refine Prod.ext rfl ?_
    show mgL 0 S.1.1 S.1.2.1 S.1.2.2.1 S.1.2.2.2 k (spD0 S.1.1 S.1.2.1 S.1.2.2.1 S.1.2.2.2 k S.2) (spDo ((1 : Nat) : Int) S.1 k S.2) (spDo ((2 : Nat) : Int) S.1 k S.2) (spDo ((3 : Nat) : Int) S.1 k S.2) = S.2
    rw [spDo_1, spDo_2, spDo_3]
    exact m
theorem sy_an0 {a b c d n r k : Int} {l : List Int} (e : anErr a b c d n k l = 0) (h0 : 0 ≤ r) (h1 : n - 1 ≤ r) (h2 : r ≤ n) : syErr a b c d n r k (anF a b c d n k l) = 0 := by
  obtain ⟨hv, hk, hn, hq⟩ := anErr_s e
  have hb := inr_b hn
  have pb := plV_b hv
  have hr : inr 0 n r = true := inr_t h0 h2
  have an : areaR (resR a b c d n n) ≤ 1048576 := by
    rw [res_top hn pb.1]
    have := area_v pb.1
    show area a b c d ≤ 1048576
    omega
  have ar := area_res hn (inr_t (a := 0) (b := n) (x := n) hb.1 (by omega)) an (n - r).toNat r.toNat (by omega)
  rw [show ((r.toNat : Nat) : Int) = r by omega] at ar
  have ar' : decide (area (resR a b c d n r).1 (resR a b c d n r).2.1 (resR a b c d n r).2.2.1 (resR a b c d n r).2.2.2 > 1048576) = false := by
    rw [decide_eq_false_iff_not]
    unfold areaR at ar
    omega
  have hl : decide (((anF a b c d n k l).length : Int) = count n) = true := by
    rw [decide_eq_true_eq]
    unfold anF
    rw [if_pos e, List.length_map, List.length_range]
    simp only [count, hn, if_true]
    omega
  have hB : syBnd a b c d n r (anF a b c d n k l) = true := by
    unfold syBnd
    rw [List.all_eq_true]
    intro i hi
    have hi' := List.mem_range.1 hi
    by_cases hz : i = 0
    · subst hz
      have g := sy_an e 0 (by omega)
      have g' : gN (anF a b c d n k l) 0 = anS k (n - ((0 : Nat) : Int)).toNat ((a, b, c, d), l) := g
      have ok := anS_ok (q := ((a, b, c, d), l)) hv hk (fitB_fit hq) (n - ((0 : Nat) : Int)).toNat (by omega)
      have hr := anS_res (k := k) (l := l) hn pb.1 (n - ((0 : Nat) : Int)).toNat (by omega)
      rw [g', ok.1, Bool.true_and]
      refine isR_e ?_
      rw [hr, show n - ((n - ((0 : Nat) : Int)).toNat : Int) = 0 by omega]
      exact (band_0 hn pb.1).symm
    · obtain ⟨j, o, rfl, h1', h3'⟩ : ∃ j o : Nat, i = 3 * j + o ∧ 1 ≤ o ∧ o ≤ 3 := ⟨(i - 1) / 3, i - 3 * ((i - 1) / 3), by omega, by omega, by omega⟩
      have g := an_at e (j := j) (o := o) (by omega) h1' h3'
      have ok := anS_ok (q := ((a, b, c, d), l)) hv hk (fitB_fit hq) (n - (j + 1)).toNat (by omega)
      have hr := anS_res (k := k) (l := l) hn pb.1 (n - (j + 1)).toNat (by omega)
      have m := mgErr_p (mg_inv ok.2.2).1
      have bn := band_at hn pb.1 (j := j) (o := o) (by omega) h1' h3'
      rw [show n - ((n - ((j : Int) + 1)).toNat : Int) = (j : Int) + 1 by omega] at hr
      rw [← hr] at bn
      rw [g, bn]
      have ho : o = 1 ∨ o = 2 ∨ o = 3 := by omega
      rw [Bool.and_eq_true]
      refine ⟨?_, isR_refl _⟩
      rcases ho with rfl | rfl | rfl
      · exact m.2.1
      · exact m.2.2.1
      · exact m.2.2.2
  have hF : syFit r (anF a b c d n k l) = true := by
    unfold syFit
    rw [List.all_eq_true]
    intro i hi
    have hi' := List.mem_range.1 hi
    have f := anAt_fit (q := ((a, b, c, d), l)) (b := 1048576) hn hv hk (by omega) (fitB_fit hq) i (by omega)
    rw [an_gN e (by omega)]
    exact fit_fitB (fit_mono f (bdP_le hn hk (by omega)))
  simp only [syErr, pb.1, hn, hr, ar', hk, hl, hB, hF, Bool.not_true, Bool.or_self, Bool.false_eq_true, if_false]
theorem q_PyramidInverts (a b c d : Int) (l : List Int) (n k : Int) (hok : ok_PyramidInverts a b c d l n k = true) : funR Try.prog t_PyramidInverts (annOf []) l_PyramidInverts 20 Try.f9 [.agg [.int .i64 a, .int .i64 b, .int .i64 c, .int .i64 d, .lst (.int .i64) l], .one (.int .i64 n), .one (.int .i64 k)] [] = some ⟨.one (.bool true), [], []⟩ := by
    refine (e_PyramidInverts ..).trans ?_
    simp only [ite2_bool, decide_eq_true_eq]
    by_cases hl : (l.length : Int) > 4000
    · rw [if_pos hl]
    have hs : small l.length = true := small_d (by omega)
    rw [if_neg hl, if_pos hs]
    by_cases e : anErr a b c d n k l = 0
    rotate_left
    · have h0 : anF a b c d n k l = [] := by unfold anF; rw [if_neg e]
      simp [e, h0]
    obtain ⟨hv, hk, hn, hq⟩ := anErr_s e
    have hb := inr_b hn
    have sm := (anF_small (a := a) (b := b) (c := c) (d := d) (n := n) (k := k) hs).2
    have e1 := sy_an0 e (r := n) hb.1 (by omega) (by omega)
    have g1 : syS a b c d n k (anF a b c d n k l) n.toNat = ((a, b, c, d), l) := by
      rw [sy_an e n.toNat (by omega), show (n - (n.toNat : Int)).toNat = 0 by omega]
      rfl
    have s1 : syR a b c d n n k (anF a b c d n k l) = (a, b, c, d) := by unfold syR; rw [if_pos e1, g1]
    have s2 : syL a b c d n n k (anF a b c d n k l) = l := by unfold syL; rw [if_pos e1, g1]
    have hlen : (((anF a b c d n k l).length : Int) != count n) = false := by
      have : ((anF a b c d n k l).length : Int) = count n := by
        unfold anF
        rw [if_pos e, List.length_map, List.length_range]
        simp only [count, hn, if_true]
        omega
      simp [this]
    simp only [e, sm, e1, s1, s2, hs, hlen, samePl_refl, bne_self_eq_false, Bool.not_true, Bool.false_eq_true, if_false, if_true]
    by_cases hz : n = 0
    · rw [if_pos (by simpa using hz)]
    have e2 := sy_an0 e (r := n - 1) (by omega) (by omega) (by omega)
    have sp := (anS_ok (q := ((a, b, c, d), l)) hv hk (fitB_fit hq) 0 (by omega)).2.2
    have sp : spErr a b c d k l = 0 := sp
    have g2 : syS a b c d n k (anF a b c d n k l) (n - 1).toNat = (bnd a b c d 0, spD0 a b c d k l) := by
      rw [sy_an e (n - 1).toNat (by omega), show (n - ((n - 1).toNat : Int)).toNat = 0 + 1 by omega]
      rfl
    have t1 : syR a b c d n (n - 1) k (anF a b c d n k l) = bnd a b c d 0 := by unfold syR; rw [if_pos e2, g2]
    have t2 : syL a b c d n (n - 1) k (anF a b c d n k l) = spD0 a b c d k l := by unfold syL; rw [if_pos e2, g2]
    have t3 : spR a b c d k l 0 = bnd a b c d 0 := by unfold spR; rw [if_pos sp]
    have t4 := small_d (spD_le a b c d k l).1
    rw [if_neg (by simpa using hz), wrap_in (n := n - 1) (by omega) (by omega)]
    simp only [sp, e2, t1, t2, t3, t4, samePl_refl, beq_self_eq_true, if_true]
theorem s_PyramidInverts : SoundFun Try.prog 9 G_PyramidInverts := by
  refine fun_ok (tab := t_PyramidInverts) (ann := annOf []) (lt := l_PyramidInverts) (tab_cons s_pyr_Count (tab_cons s_awake (tab_cons s_pyr_Analyze (tab_cons s_pyr_Synth (tab_cons s_law_same (tab_cons s_pl_Same (tab_cons s_dwt_Split tab_nil))))))) (by kernel_rfl) (fn := Try.f9) (by kernel_rfl) (by decide) (c := bodyOf Try.f9) (by kernel_rfl) (fun m b hb => absurd hb (by show b ∉ loopsOf (bodyOf Try.f9); rw [show loopsOf (bodyOf Try.f9) = [] from by kernel_rfl]; exact List.not_mem_nil)) ?_ (keep_nil (by kernel_rfl))
  intro args lent o y0'
  unfold G_PyramidInverts at y0'
  obtain ⟨q', args, rfl, y1'⟩ := pA_s y0'
  obtain ⟨c', q', rfl, y2'⟩ := tC_s y1'
  obtain ⟨a, rfl, y3'⟩ := kI_s y2'
  obtain ⟨c', q', rfl, y4'⟩ := tC_s y3'
  obtain ⟨b, rfl, y5'⟩ := kI_s y4'
  obtain ⟨c', q', rfl, y6'⟩ := tC_s y5'
  obtain ⟨c, rfl, y7'⟩ := kI_s y6'
  obtain ⟨c', q', rfl, y8'⟩ := tC_s y7'
  obtain ⟨d, rfl, y9'⟩ := kI_s y8'
  obtain ⟨c', q', rfl, y10'⟩ := tC_s y9'
  obtain ⟨l, rfl, y11'⟩ := kLI_s y10'
  obtain ⟨rfl, y12'⟩ := tE_s y11'
  obtain ⟨c', args, rfl, y13'⟩ := pO_s y12'
  obtain ⟨n, rfl, y14'⟩ := kI_s y13'
  obtain ⟨c', args, rfl, y15'⟩ := pO_s y14'
  obtain ⟨k, rfl, y16'⟩ := kI_s y15'
  obtain ⟨rfl, y17'⟩ := pE_s y16'
  obtain ⟨rfl, y18'⟩ := nE_s y17'
  have yy' := y18'
  unfold H_PyramidInverts at yy'
  obtain ⟨hok, rfl⟩ := Prod.mk.inj (Option.some.inj yy')
  exact ⟨20, q_PyramidInverts _ _ _ _ _ _ _ hok⟩
end Go.Rx.Ch06

