/- The summaries of these functions are sound. -/
import Derived.Test.YtcdmkbpmgeeghaaRE2
import Derived.Test.YtcdmkbpmgeeghaaRS3
set_option linter.unnecessarySimpa false
set_option linter.unusedVariables false
set_option linter.unusedSimpArgs false
set_option maxRecDepth 100000
set_option maxHeartbeats 40000000
open Go Go.Rx Go.Proofs
namespace Go.Rx.Ch06
theorem at_par {b e s i par : Int} {l : List Int} (hn : 2 ≤ l.length) (h : ∀ q : Nat, q < l.length → (s + q) % 2 = par → -b ≤ rd l q ∧ rd l q ≤ b) (hp : (s + i + e) % 2 = par) : -b ≤ at_ l (i + e) ∧ at_ l (i + e) ≤ b := by
  unfold at_
  have h1 := mr_in (n := l.length) (i + e) (by omega)
  have h2 := mr_par (n := l.length) (i + e)
  obtain ⟨q, hq⟩ := Int.eq_ofNat_of_zero_le h1.1
  rw [hq] at h1 h2 ⊢
  exact h q (by omega) (by omega)
theorem iz_bd {l : List Int} {s k : Int} (h : Bd 281474976710656 l) : Bd 1125899906842624 (iz l s k) := by
  unfold iz
  split
  rotate_left
  · exact h.mono (by omega)
  rename_i hn
  have hn : 2 ≤ l.length := by omega
  unfold inv
  generalize hm : stp 0 (-1) (upd k) s l = m
  have hml : m.length = l.length := by rw [← hm, stp_length]
  have m0 : ∀ q : Nat, q < m.length → (s + q) % 2 = 0 → -422212465065985 ≤ rd m q ∧ rd m q ≤ 422212465065985 := by
    intro q hq hp
    rw [← hm, stp_val q (by omega) hp]
    have a1 := h.at (q + 1) hn
    have a2 := h.at (q - 1) hn
    have a0 := h q
    unfold upd
    split <;> omega
  have m1 : ∀ q : Nat, q < m.length → (s + q) % 2 = 1 → -281474976710656 ≤ rd m q ∧ rd m q ≤ 281474976710656 := by
    intro q hq hp
    rw [← hm, stp_keep q (by omega)]
    exact h q
  intro q
  by_cases hq : q < m.length
  rotate_left
  · rw [rd_out _ _ (by rw [stp_length]; omega)]; omega
  by_cases hp : (s + q) % 2 = 1
  · rw [stp_val q hq hp]
    have b1 := at_par (e := 1) (i := q) (by omega) m0 (by omega)
    have b2 := at_par (e := -1) (i := q) (by omega) m0 (by omega)
    have b3 := at_par (e := 3) (i := q) (by omega) m0 (by omega)
    have b4 := at_par (e := -3) (i := q) (by omega) m0 (by omega)
    have c1 := m1 q hq hp
    unfold prd
    simp only [Int.sub_eq_add_neg]
    split
    · omega
    · split <;> omega
  · rw [stp_keep q hp]
    have := m0 q hq (by omega)
    omega
theorem iv_good {p q : List Int} {s k n : Int} (hk : inr 1 3 k = true) (hs : inr 0 4096 s = true) (hn : 0 ≤ n ∧ n ≤ 4096) (hp : (p.length : Int) = cev s n) (hq : (q.length : Int) = n - cev s n) (fp : fit 1125899906842624 p) (fq : fit 1125899906842624 q) : (iv p q s k).2 = 0 ∧ ((iv p q s k).1.length : Int) = n ∧ (fit 281474976710656 p → fit 281474976710656 q → fit 1125899906842624 (iv p q s k).1) ∧ ∃ z : List Int, (z.length : Int) = n ∧ p = evs s z ∧ q = ods s z ∧ (iv p q s k).1 = iz z s k := by
  obtain ⟨m, rfl⟩ : ∃ m : Nat, n = m := ⟨n.toNat, by omega⟩
  have h := evs_ilv m s p q hp hq
  have hl := ilv_length m s p q
  have hb := ilv_bd (c := 281474976710656) (by omega) m s p q
  generalize ilv s m p q = z at h hl hb
  obtain ⟨rfl, rfl⟩ := h
  have e := iv_ok (inr_b hk) (inr_b hs) (by omega) fp fq
  rw [e]
  exact ⟨rfl, by rw [iz_len, hl], fun f1 f2 => (iz_bd (Bd.of_mem (by omega) (hb f1 f2))).mem, z, by rw [hl], rfl, rfl, rfl⟩
theorem mgB_s {ii : Int} {x y : Bool} (h : mgB ii x y = true) : (ii = 0 ∧ x = true) ∨ (ii = 1 ∧ y = true) := by
  simpa [mgB] using h
theorem plV_len {a b c d : Int} {l : List Int} (h : plV a b c d l = true) : l.length = (d - b).toNat * (c - a).toNat := by
  have hb := plV_b h
  have h1 : ((d - b).toNat : Int) = d - b := Int.toNat_of_nonneg (by omega)
  have h2 : ((c - a).toNat : Int) = c - a := Int.toNat_of_nonneg (by omega)
  have h3 : (((d - b).toNat * (c - a).toNat : Nat) : Int) = (c - a) * (d - b) := by rw [Int.natCast_mul, h1, h2, Int.mul_comm]
  omega
theorem plCol_at {a b c d : Int} {l : List Int} (hv : plV a b c d l = true) {j : Nat} (hj : j < (c - a).toNat) {x : Int} (hx : x = a + j) : plCol a b c d l x = colOf l (c - a).toNat j (d - b).toNat := by
  unfold plCol
  rw [if_pos (by simp only [colOk, hv, Bool.and_eq_true, decide_eq_true_eq, true_and]; omega), show (x - a).toNat = j by omega]
theorem plRow_at {a b c d : Int} {l : List Int} (hv : plV a b c d l = true) {j : Nat} (hj : j < (d - b).toNat) {y : Int} (hy : y = b + j) : plRow a b c d l y = rowAt l (c - a).toNat j := by
  have hb := plV_b hv
  have h2 : ((c - a).toNat : Int) = c - a := Int.toNat_of_nonneg (by omega)
  unfold plRow rowAt
  rw [if_pos (by simp only [rowOk, hv, Bool.and_eq_true, decide_eq_true_eq, true_and]; omega), show y - b = (j : Int) by omega, ← h2, ← Int.natCast_mul, Int.toNat_natCast]
  rfl
theorem mgOk_s {g0 g1 g2 g3 s k a b c d a' b' c' d' : Int} {l l' t : List Int} (h : mgOk g0 g1 g2 g3 s k a b c d a' b' c' d' l l' t = true) : plV a b c d l = true ∧ plV a' b' c' d' l' = true ∧ inr 1 3 k = true ∧ inr 0 4096 s = true ∧ fit 281474976710656 l ∧ fit 281474976710656 l' ∧ g0 = a ∧ g2 = c ∧ a' = a ∧ c' = c ∧ (0 ≤ g3 - g1 ∧ g3 - g1 ≤ 4096) ∧ d - b = cev s (g3 - g1) ∧ d' - b' = (g3 - g1) - cev s (g3 - g1) ∧ (t.length : Int) = (g2 - g0) * (g3 - g1) := by
  simp only [mgOk, Bool.and_eq_true, decide_eq_true_eq] at h
  obtain ⟨⟨⟨⟨⟨⟨⟨⟨⟨⟨⟨⟨⟨h1, h2⟩, h3⟩, h4⟩, h5⟩, h6⟩, h7⟩, h8⟩, h9⟩, h10⟩, h11⟩, h12⟩, h13⟩, h14⟩ := h
  exact ⟨h1, h2, h3, h4, fitB_fit h5, fitB_fit h6, h7, h8, h9, h10, inr_b h11, h12, h13, h14⟩
theorem mgCol_ok {l l' : List Int} {g n n' : Nat} {s k m : Int} (hk : inr 1 3 k = true) (hs : inr 0 4096 s = true) (hm : 0 ≤ m ∧ m ≤ 4096) (e1 : (n : Int) = cev s m) (e2 : (n' : Int) = m - cev s m) (f1 : fit 281474976710656 l) (f2 : fit 281474976710656 l') (x : Nat) : (iv (colOf l g x n) (colOf l' g x n') s k).2 = 0 ∧ ((mgCol l l' g n n' s k x).length : Int) = m ∧ fit 1125899906842624 (mgCol l l' g n n' s k x) := by
  have c1 := fit_col (by omega) f1 g x n
  have c2 := fit_col (by omega) f2 g x n'
  have h := iv_good hk hs hm (p := colOf l g x n) (q := colOf l' g x n') (by rw [colOf_len, e1]) (by rw [colOf_len, e2]) (fit_mono c1 (by omega)) (fit_mono c2 (by omega))
  exact ⟨h.1, h.2.1, h.2.2.1 c1 c2⟩
theorem mg_step {g0 g1 g2 g3 s k a b c d a' b' c' d' : Int} {l l' t : List Int} (h : mgOk g0 g1 g2 g3 s k a b c d a' b' c' d' l l' t = true) {j : Nat} (hj : j < (c - a).toNat) : plCol a b c d l (g0 + (j : Int)) = colOf l (c - a).toNat j (d - b).toNat ∧ plCol a' b' c' d' l' (g0 + (j : Int)) = colOf l' (c - a).toNat j (d' - b').toNat ∧ (d - b).toNat ≤ 4096 ∧ (d' - b').toNat ≤ 4096 ∧ (iv (colOf l (c - a).toNat j (d - b).toNat) (colOf l' (c - a).toNat j (d' - b').toNat) s k).2 = 0 ∧ ((mgCol l l' (c - a).toNat (d - b).toNat (d' - b').toNat s k j).length : Int) = g3 - g1 ∧ (0 ≤ g0 ∧ g0 + (j : Int) < g2 ∧ g2 ≤ 4096 ∧ g0 = a ∧ g2 = c ∧ g3 - g1 ≤ 4096) ∧ (t.length : Int) = (g2 - g0) * (g3 - g1) := by
  obtain ⟨h1, h2, h3, h4, h5, h6, rfl, rfl, rfl, rfl, h11, h12, h13, h14⟩ := mgOk_s h
  have pb := plV_b h1
  have pc := plV_b h2
  have ce := cev_bd (s := s) (n := g3 - g1) h11.1
  have hc := fun g => mgCol_ok (g := g) (n := (d - b).toNat) (n' := (d' - b').toNat) h3 h4 h11 (by omega) (by omega) h5 h6 j
  exact ⟨plCol_at h1 hj rfl, plCol_at h2 hj rfl, by omega, by omega, (hc _).1, (hc _).2.1, ⟨by omega, by omega, by omega, rfl, rfl, by omega⟩, h14⟩
theorem fit_mat {b : Int} {n g : Nat} {f : Nat → List Int} (h0 : 0 ≤ b) (h : ∀ x, x < g → fit b (f x)) : fit b (matC n g f) := fun y hy => by
  unfold matC at hy
  obtain ⟨i, _, hi⟩ := List.mem_flatMap.1 hy
  obtain ⟨x, hx, rfl⟩ := List.mem_map.1 hi
  exact gI_fit h0 (h x (List.mem_range.1 hx)) _
theorem mgH_mat {s k a b c d b' d' m ar : Int} {l l' : List Int} {n : Nat} (hk : inr 1 3 k = true) (hs : inr 0 4096 s = true) (hm : 0 ≤ m ∧ m ≤ 4096) (e1 : d - b = cev s m) (e2 : d' - b' = m - cev s m) (f1 : fit 281474976710656 l) (f2 : fit 281474976710656 l') (hn : (n : Int) = m) (ha : ar.toNat = n * (c - a).toNat) : mgH s k a b c d b' d' l l' (zer ar) = matC n (c - a).toNat (mgCol l l' (c - a).toNat (d - b).toNat (d' - b').toNat s k) ∧ fit 1125899906842624 (mgH s k a b c d b' d' l l' (zer ar)) := by
  have ce := cev_bd (s := s) (n := m) hm.1
  have hc := fun x => mgCol_ok (g := (c - a).toNat) (n := (d - b).toNat) (n' := (d' - b').toNat) hk hs hm (by omega) (by omega) f1 f2 x
  have e : mgH s k a b c d b' d' l l' (zer ar) = matC n (c - a).toNat (mgCol l l' (c - a).toNat (d - b).toNat (d' - b').toNat s k) :=
    setCs_mat (by rw [zer, List.length_replicate, ha]) fun x hx => by have := (hc x).2.1; omega
  exact ⟨e, by rw [e]; exact fit_mat (by omega) fun x hx => (hc x).2.2⟩
theorem mgRow_ok {p e q f p' e' q' f' s k m : Int} {h h' : List Int} (v1 : plV p e q f h = true) (v2 : plV p' e' q' f' h' = true) (hk : inr 1 3 k = true) (hs : inr 0 4096 s = true) (hm : 0 ≤ m ∧ m ≤ 4096) (e1 : q - p = cev s m) (e2 : q' - p' = m - cev s m) (f1 : fit 1125899906842624 h) (f2 : fit 1125899906842624 h') {j : Nat} (hj : j < (f - e).toNat) (hj' : j < (f' - e').toNat) : (iv (rowAt h (q - p).toNat j) (rowAt h' (q' - p').toNat j) s k).2 = 0 ∧ ((mgRow h h' (q - p).toNat (q' - p').toNat s k j).length : Int) = m ∧ (rowAt h (q - p).toNat j).length ≤ 4096 ∧ (rowAt h' (q' - p').toNat j).length ≤ 4096 := by
  have r1 := rowAt_len (plV_len v1) hj
  have r2 := rowAt_len (plV_len v2) hj'
  have b1 := plV_b v1
  have b2 := plV_b v2
  have hi := iv_good hk hs hm (p := rowAt h (q - p).toNat j) (q := rowAt h' (q' - p').toNat j) (by rw [r1, ← e1]; omega) (by rw [r2, ← e2]; omega) (fit_row f1 _ _) (fit_row f2 _ _)
  exact ⟨hi.1, hi.2.1, by omega, by omega⟩
theorem isR_s {a b c d : Int} {r : Rc} (h : isR a b c d r = true) : a = r.1 ∧ b = r.2.1 ∧ c = r.2.2.1 ∧ d = r.2.2.2 := by
  simpa [isR] using h
theorem plV_i {a b c d : Int} {l : List Int} (h : valid a b c d = true) (hl : (l.length : Int) = (c - a) * (d - b)) (ha : (c - a) * (d - b) ≤ 1048576) : plV a b c d l = true := by
  have ar := area_v h
  simp only [plV, h, hl, ar.1, decide_true, Bool.and_true, Bool.true_and, decide_eq_true_eq]
  exact ha
theorem mgOk_i {g0 g1 g2 g3 s k a b c d a' b' c' d' : Int} {l l' t : List Int} (h1 : plV a b c d l = true) (h2 : plV a' b' c' d' l' = true) (h3 : inr 1 3 k = true) (h4 : inr 0 4096 s = true) (h5 : fitB 281474976710656 l = true) (h6 : fitB 281474976710656 l' = true) (h7 : g0 = a) (h8 : g2 = c) (h9 : a' = a) (h10 : c' = c) (h11 : 0 ≤ g3 - g1 ∧ g3 - g1 ≤ 4096) (h12 : d - b = cev s (g3 - g1)) (h13 : d' - b' = (g3 - g1) - cev s (g3 - g1)) (h14 : (t.length : Int) = (g2 - g0) * (g3 - g1)) : mgOk g0 g1 g2 g3 s k a b c d a' b' c' d' l l' t = true := by
  subst h7 h8 h9 h10
  simp only [mgOk, h1, h2, h3, h4, h5, h6, inr_t (a := 0) (b := 4096) h11.1 h11.2, h12, h13, h14, decide_true, Bool.and_self]
theorem d_dwt_Merge_2 {α : Type} {vs : List V} {bl : List (Option Blk)} {K} {r : α} {Q : Prop} (y0' : D_dwt_Merge_2 vs bl K = some r) (hh' : ∀ (kk : Int) (a0 : Int) (b0 : Int) (c0 : Int) (d0 : Int) (a1 : Int) (b1 : Int) (c1 : Int) (d1 : Int) (a2 : Int) (b2 : Int) (c2 : Int) (d2 : Int) (a3 : Int) (b3 : Int) (c3 : Int) (d3 : Int) (a : Int) (b : Int) (c : Int) (d : Int) (za : Int) (zb : Int) (zc : Int) (zd : Int) (va0 : Int) (vb0 : Int) (vc0 : Int) (vd0 : Int) (va1 : Int) (vb1 : Int) (vc1 : Int) (vd1 : Int) (va2 : Int) (vb2 : Int) (vc2 : Int) (vd2 : Int) (va3 : Int) (vb3 : Int) (vc3 : Int) (vd3 : Int) (p0 : Int) (e0 : Int) (q0 : Int) (f0 : Int) (p1 : Int) (e1 : Int) (q1 : Int) (f1 : Int) (ii : Int) (l0 : List Int) (l1 : List Int) (l2 : List Int) (l3 : List Int) (y0 : List Int) (h0 : List Int) (h1 : List Int), vs = [.one (.int .i64 kk), .one (.ptr 0 0), .one (.ptr 1 0), .one (.ptr 2 0), .one (.ptr 3 0), .one (.ptr 4 0), .one (.int .i64 ii)] → bl = [some (.box [.int .i64 a0, .int .i64 b0, .int .i64 c0, .int .i64 d0, .lst (.int .i64) l0, .int .i64 a1, .int .i64 b1, .int .i64 c1, .int .i64 d1, .lst (.int .i64) l1, .int .i64 a2, .int .i64 b2, .int .i64 c2, .int .i64 d2, .lst (.int .i64) l2, .int .i64 a3, .int .i64 b3, .int .i64 c3, .int .i64 d3, .lst (.int .i64) l3]), some (.box [.int .i64 a, .int .i64 b, .int .i64 c, .int .i64 d]), some (.box [.int .i64 za, .int .i64 zb, .int .i64 zc, .int .i64 zd, .row 5]), some (.box [.int .i64 va0, .int .i64 vb0, .int .i64 vc0, .int .i64 vd0, .int .i64 va1, .int .i64 vb1, .int .i64 vc1, .int .i64 vd1, .int .i64 va2, .int .i64 vb2, .int .i64 vc2, .int .i64 vd2, .int .i64 va3, .int .i64 vb3, .int .i64 vc3, .int .i64 vd3]), some (.box [.int .i64 p0, .int .i64 e0, .int .i64 q0, .int .i64 f0, .row 6, .int .i64 p1, .int .i64 e1, .int .i64 q1, .int .i64 f1, .row 7]), some (.arr 3 (.int .i64) y0), some (.arr 3 (.int .i64) h0), some (.arr 3 (.int .i64) h1)] → K kk a0 b0 c0 d0 a1 b1 c1 d1 a2 b2 c2 d2 a3 b3 c3 d3 a b c d za zb zc zd va0 vb0 vc0 vd0 va1 vb1 vc1 vd1 va2 vb2 vc2 vd2 va3 vb3 vc3 vd3 p0 e0 q0 f0 p1 e1 q1 f1 ii l0 l1 l2 l3 y0 h0 h1 = some r → Q) : Q := by
  unfold D_dwt_Merge_2 at y0'
  obtain ⟨kk, vs, rfl, y1'⟩ := pI_s y0'
  obtain ⟨vs, rfl, y2'⟩ := pP_s y1'
  obtain ⟨vs, rfl, y3'⟩ := pP_s y2'
  obtain ⟨vs, rfl, y4'⟩ := pP_s y3'
  obtain ⟨vs, rfl, y5'⟩ := pP_s y4'
  obtain ⟨vs, rfl, y6'⟩ := pP_s y5'
  obtain ⟨ii, vs, rfl, y7'⟩ := pI_s y6'
  obtain ⟨rfl, y8'⟩ := pE_s y7'
  obtain ⟨q', bl, rfl, y9'⟩ := bB_s y8'
  obtain ⟨a0, b0, c0, d0, l0, a1, b1, c1, d1, l1, a2, b2, c2, d2, l2, a3, b3, c3, d3, l3, rfl, y10'⟩ := rd4L_s y9'
  obtain ⟨q', bl, rfl, y11'⟩ := bB_s y10'
  obtain ⟨a, b, c, d, q', rfl, y12'⟩ := t4_s y11'
  obtain ⟨rfl, y13'⟩ := tE_s y12'
  obtain ⟨q', bl, rfl, y14'⟩ := bB_s y13'
  obtain ⟨za, zb, zc, zd, rfl, y15'⟩ := rd1P_s y14'
  obtain ⟨q', bl, rfl, y16'⟩ := bB_s y15'
  obtain ⟨va0, vb0, vc0, vd0, va1, vb1, vc1, vd1, va2, vb2, vc2, vd2, va3, vb3, vc3, vd3, rfl, y17'⟩ := rd4R_s y16'
  obtain ⟨q', bl, rfl, y18'⟩ := bB_s y17'
  obtain ⟨p0, e0, q0, f0, p1, e1, q1, f1, rfl, y19'⟩ := rd2P_s y18'
  obtain ⟨y0, bl, rfl, y20'⟩ := bAI_s y19'
  obtain ⟨h0, bl, rfl, y21'⟩ := bAI_s y20'
  obtain ⟨h1, bl, rfl, y22'⟩ := bAI_s y21'
  obtain ⟨rfl, y23'⟩ := bE_s y22'
  have yy' := y23'
  exact hh' _ _ _ _ _ _ _ _ _ _ _ _ _ _ _ _ _ _ _ _ _ _ _ _ _ _ _ _ _ _ _ _ _ _ _ _ _ _ _ _ _ _ _ _ _ _ _ _ _ _ _ _ _ _ _ _ _ rfl rfl yy'
theorem r_dwt_Merge_2 : RoundOk Try.prog t_dwt_Merge (annOf []) l_dwt_Merge Out 20 0 180 [2, 3, 4, 6, 8, 13, 73] (kxOf [2, 4, 6, 13] [6, 7]) (loopOf Try.f62 2) T_dwt_Merge_2 := by
  intro vs bl Kc r h
  unfold T_dwt_Merge_2 at h
  obtain ⟨t, y0', h'⟩ := getD_run h
  refine d_dwt_Merge_2 y0' fun kk a0 b0 c0 d0 a1 b1 c1 d1 a2 b2 c2 d2 a3 b3 c3 d3 a b c d za zb zc zd va0 vb0 vc0 vd0 va1 vb1 vc1 vd1 va2 vb2 vc2 vd2 va3 vb3 vc3 vd3 p0 e0 q0 f0 p1 e1 q1 f1 ii l0 l1 l2 l3 y0 h0 h1 u1' u2' yy' => ?_
  subst u1' u2'
  cases yy'
  by_cases w0' : ii = 0
  · subst w0'; exact (b_dwt_Merge_2_0 ..).trans h'
  by_cases w1' : ii = 1
  · subst w1'; exact (b_dwt_Merge_2_1 ..).trans h'
  by_cases w2' : ii = 2
  · subst w2'; exact (b_dwt_Merge_2_2 ..).trans h'
  rw [hds_no (by intro j hj; simp only [List.length_cons, List.length_nil] at hj; omega)] at h'
  cases h'
theorem d_dwt_Merge_3 {α : Type} {vs : List V} {bl : List (Option Blk)} {K} {r : α} {Q : Prop} (y0' : D_dwt_Merge_3 vs bl K = some r) (hh' : ∀ (kk : Int) (a0 : Int) (b0 : Int) (c0 : Int) (d0 : Int) (a1 : Int) (b1 : Int) (c1 : Int) (d1 : Int) (a2 : Int) (b2 : Int) (c2 : Int) (d2 : Int) (a3 : Int) (b3 : Int) (c3 : Int) (d3 : Int) (a : Int) (b : Int) (c : Int) (d : Int) (za : Int) (zb : Int) (zc : Int) (zd : Int) (va0 : Int) (vb0 : Int) (vc0 : Int) (vd0 : Int) (va1 : Int) (vb1 : Int) (vc1 : Int) (vd1 : Int) (va2 : Int) (vb2 : Int) (vc2 : Int) (vd2 : Int) (va3 : Int) (vb3 : Int) (vc3 : Int) (vd3 : Int) (p0 : Int) (e0 : Int) (q0 : Int) (f0 : Int) (p1 : Int) (e1 : Int) (q1 : Int) (f1 : Int) (g0 : Int) (g1 : Int) (g2 : Int) (g3 : Int) (ii : Int) (x : Int) (i2 : Int) (l0 : List Int) (l1 : List Int) (l2 : List Int) (l3 : List Int) (y0 : List Int) (h0 : List Int) (h1 : List Int) (t : List Int), vs = [.one (.int .i64 kk), .one (.ptr 0 0), .one (.ptr 1 0), .one (.ptr 2 0), .one (.ptr 3 0), .one (.ptr 4 0), .one (.int .i64 ii), .one (.ptr 5 0), .one (.int .i64 x), .one (.int .i64 i2)] → bl = [some (.box [.int .i64 a0, .int .i64 b0, .int .i64 c0, .int .i64 d0, .lst (.int .i64) l0, .int .i64 a1, .int .i64 b1, .int .i64 c1, .int .i64 d1, .lst (.int .i64) l1, .int .i64 a2, .int .i64 b2, .int .i64 c2, .int .i64 d2, .lst (.int .i64) l2, .int .i64 a3, .int .i64 b3, .int .i64 c3, .int .i64 d3, .lst (.int .i64) l3]), some (.box [.int .i64 a, .int .i64 b, .int .i64 c, .int .i64 d]), some (.box [.int .i64 za, .int .i64 zb, .int .i64 zc, .int .i64 zd, .row 6]), some (.box [.int .i64 va0, .int .i64 vb0, .int .i64 vc0, .int .i64 vd0, .int .i64 va1, .int .i64 vb1, .int .i64 vc1, .int .i64 vd1, .int .i64 va2, .int .i64 vb2, .int .i64 vc2, .int .i64 vd2, .int .i64 va3, .int .i64 vb3, .int .i64 vc3, .int .i64 vd3]), some (.box [.int .i64 p0, .int .i64 e0, .int .i64 q0, .int .i64 f0, .row 7, .int .i64 p1, .int .i64 e1, .int .i64 q1, .int .i64 f1, .row 8]), some (.box [.int .i64 g0, .int .i64 g1, .int .i64 g2, .int .i64 g3, .row 9]), some (.arr 3 (.int .i64) y0), some (.arr 3 (.int .i64) h0), some (.arr 3 (.int .i64) h1), some (.arr 3 (.int .i64) t)] → K kk a0 b0 c0 d0 a1 b1 c1 d1 a2 b2 c2 d2 a3 b3 c3 d3 a b c d za zb zc zd va0 vb0 vc0 vd0 va1 vb1 vc1 vd1 va2 vb2 vc2 vd2 va3 vb3 vc3 vd3 p0 e0 q0 f0 p1 e1 q1 f1 g0 g1 g2 g3 ii x i2 l0 l1 l2 l3 y0 h0 h1 t = some r → Q) : Q := by
  unfold D_dwt_Merge_3 at y0'
  obtain ⟨kk, vs, rfl, y1'⟩ := pI_s y0'
  obtain ⟨vs, rfl, y2'⟩ := pP_s y1'
  obtain ⟨vs, rfl, y3'⟩ := pP_s y2'
  obtain ⟨vs, rfl, y4'⟩ := pP_s y3'
  obtain ⟨vs, rfl, y5'⟩ := pP_s y4'
  obtain ⟨vs, rfl, y6'⟩ := pP_s y5'
  obtain ⟨ii, vs, rfl, y7'⟩ := pI_s y6'
  obtain ⟨vs, rfl, y8'⟩ := pP_s y7'
  obtain ⟨x, vs, rfl, y9'⟩ := pI_s y8'
  obtain ⟨i2, vs, rfl, y10'⟩ := pI_s y9'
  obtain ⟨rfl, y11'⟩ := pE_s y10'
  obtain ⟨q', bl, rfl, y12'⟩ := bB_s y11'
  obtain ⟨a0, b0, c0, d0, l0, a1, b1, c1, d1, l1, a2, b2, c2, d2, l2, a3, b3, c3, d3, l3, rfl, y13'⟩ := rd4L_s y12'
  obtain ⟨q', bl, rfl, y14'⟩ := bB_s y13'
  obtain ⟨a, b, c, d, q', rfl, y15'⟩ := t4_s y14'
  obtain ⟨rfl, y16'⟩ := tE_s y15'
  obtain ⟨q', bl, rfl, y17'⟩ := bB_s y16'
  obtain ⟨za, zb, zc, zd, rfl, y18'⟩ := rd1P_s y17'
  obtain ⟨q', bl, rfl, y19'⟩ := bB_s y18'
  obtain ⟨va0, vb0, vc0, vd0, va1, vb1, vc1, vd1, va2, vb2, vc2, vd2, va3, vb3, vc3, vd3, rfl, y20'⟩ := rd4R_s y19'
  obtain ⟨q', bl, rfl, y21'⟩ := bB_s y20'
  obtain ⟨p0, e0, q0, f0, p1, e1, q1, f1, rfl, y22'⟩ := rd2P_s y21'
  obtain ⟨q', bl, rfl, y23'⟩ := bB_s y22'
  obtain ⟨g0, g1, g2, g3, rfl, y24'⟩ := rd1P_s y23'
  obtain ⟨y0, bl, rfl, y25'⟩ := bAI_s y24'
  obtain ⟨h0, bl, rfl, y26'⟩ := bAI_s y25'
  obtain ⟨h1, bl, rfl, y27'⟩ := bAI_s y26'
  obtain ⟨t, bl, rfl, y28'⟩ := bAI_s y27'
  obtain ⟨rfl, y29'⟩ := bE_s y28'
  have yy' := y29'
  exact hh' _ _ _ _ _ _ _ _ _ _ _ _ _ _ _ _ _ _ _ _ _ _ _ _ _ _ _ _ _ _ _ _ _ _ _ _ _ _ _ _ _ _ _ _ _ _ _ _ _ _ _ _ _ _ _ _ _ _ _ _ _ _ _ _ rfl rfl yy'
theorem r_dwt_Merge_3 : RoundOk Try.prog t_dwt_Merge (annOf []) l_dwt_Merge Out 20 0 180 [2, 3, 4, 6, 8, 13, 14, 15, 16, 73] (kxOf [2, 3, 4, 6, 8, 13, 14, 15, 73] [6, 7]) (loopOf Try.f62 3) T_dwt_Merge_3 := by
  intro vs bl Kc r h
  unfold T_dwt_Merge_3 at h
  obtain ⟨t, y0', h'⟩ := getD_run h
  refine d_dwt_Merge_3 y0' fun kk a0 b0 c0 d0 a1 b1 c1 d1 a2 b2 c2 d2 a3 b3 c3 d3 a b c d za zb zc zd va0 vb0 vc0 vd0 va1 vb1 vc1 vd1 va2 vb2 vc2 vd2 va3 vb3 vc3 vd3 p0 e0 q0 f0 p1 e1 q1 f1 g0 g1 g2 g3 ii x i2 l0 l1 l2 l3 y0 h0 h1 t u1' u2' yy' => ?_
  subst u1' u2'
  cases yy'
  by_cases w0' : ii = 0
  · subst w0'; exact (b_dwt_Merge_3_0 ..).trans h'
  by_cases w1' : ii = 1
  · subst w1'; exact (b_dwt_Merge_3_1 ..).trans h'
  rw [hds_no (by intro j hj; simp only [List.length_cons, List.length_nil] at hj; omega)] at h'
  cases h'
theorem d_dwt_Merge_4 {α : Type} {vs : List V} {bl : List (Option Blk)} {K} {r : α} {Q : Prop} (y0' : D_dwt_Merge_4 vs bl K = some r) (hh' : ∀ (kk : Int) (a : Int) (b : Int) (c : Int) (d : Int) (za : Int) (zb : Int) (zc : Int) (zd : Int) (p0 : Int) (e0 : Int) (q0 : Int) (f0 : Int) (p1 : Int) (e1 : Int) (q1 : Int) (f1 : Int) (oa : Int) (ob : Int) (oc : Int) (od : Int) (y : Int) (y0 : List Int) (h0 : List Int) (h1 : List Int) (v : List Int), vs = [.one (.int .i64 kk), .one (.ptr 0 0), .one (.ptr 1 0), .one (.ptr 2 0), .one (.ptr 3 0), .one (.int .i64 y)] → bl = [some (.box [.int .i64 a, .int .i64 b, .int .i64 c, .int .i64 d]), some (.box [.int .i64 za, .int .i64 zb, .int .i64 zc, .int .i64 zd, .row 4]), some (.box [.int .i64 p0, .int .i64 e0, .int .i64 q0, .int .i64 f0, .row 5, .int .i64 p1, .int .i64 e1, .int .i64 q1, .int .i64 f1, .row 6]), some (.box [.int .i64 oa, .int .i64 ob, .int .i64 oc, .int .i64 od, .row 7]), some (.arr 3 (.int .i64) y0), some (.arr 3 (.int .i64) h0), some (.arr 3 (.int .i64) h1), some (.arr 3 (.int .i64) v)] → K kk a b c d za zb zc zd p0 e0 q0 f0 p1 e1 q1 f1 oa ob oc od y y0 h0 h1 v = some r → Q) : Q := by
  unfold D_dwt_Merge_4 at y0'
  obtain ⟨kk, vs, rfl, y1'⟩ := pI_s y0'
  obtain ⟨vs, rfl, y2'⟩ := pP_s y1'
  obtain ⟨vs, rfl, y3'⟩ := pP_s y2'
  obtain ⟨vs, rfl, y4'⟩ := pP_s y3'
  obtain ⟨vs, rfl, y5'⟩ := pP_s y4'
  obtain ⟨y, vs, rfl, y6'⟩ := pI_s y5'
  obtain ⟨rfl, y7'⟩ := pE_s y6'
  obtain ⟨q', bl, rfl, y8'⟩ := bB_s y7'
  obtain ⟨a, b, c, d, q', rfl, y9'⟩ := t4_s y8'
  obtain ⟨rfl, y10'⟩ := tE_s y9'
  obtain ⟨q', bl, rfl, y11'⟩ := bB_s y10'
  obtain ⟨za, zb, zc, zd, rfl, y12'⟩ := rd1P_s y11'
  obtain ⟨q', bl, rfl, y13'⟩ := bB_s y12'
  obtain ⟨p0, e0, q0, f0, p1, e1, q1, f1, rfl, y14'⟩ := rd2P_s y13'
  obtain ⟨q', bl, rfl, y15'⟩ := bB_s y14'
  obtain ⟨oa, ob, oc, od, rfl, y16'⟩ := rd1P_s y15'
  obtain ⟨y0, bl, rfl, y17'⟩ := bAI_s y16'
  obtain ⟨h0, bl, rfl, y18'⟩ := bAI_s y17'
  obtain ⟨h1, bl, rfl, y19'⟩ := bAI_s y18'
  obtain ⟨v, bl, rfl, y20'⟩ := bAI_s y19'
  obtain ⟨rfl, y21'⟩ := bE_s y20'
  have yy' := y21'
  exact hh' _ _ _ _ _ _ _ _ _ _ _ _ _ _ _ _ _ _ _ _ _ _ _ _ _ _ rfl rfl yy'
theorem r_dwt_Merge_4 : RoundOk Try.prog t_dwt_Merge (annOf []) l_dwt_Merge Out 20 0 180 [2, 4, 6, 13, 23, 24] (kxOf [6, 23] [6, 7]) (loopOf Try.f62 4) T_dwt_Merge_4 := by
  intro vs bl Kc r h
  unfold T_dwt_Merge_4 at h
  obtain ⟨t, y0', h'⟩ := getD_run h
  refine d_dwt_Merge_4 y0' fun kk a b c d za zb zc zd p0 e0 q0 f0 p1 e1 q1 f1 oa ob oc od y y0 h0 h1 v u1' u2' yy' => ?_
  subst u1' u2'
  cases yy'
  exact (b_dwt_Merge_4 ..).trans h'
theorem o_dwt_Merge : loopsOf (bodyOf Try.f62) = [loopOf Try.f62 0, loopOf Try.f62 1, loopOf Try.f62 2, loopOf Try.f62 3, loopOf Try.f62 4] := by kernel_rfl
theorem zz_dwt_Merge_2 (kk a0 b0 c0 d0 a1 b1 c1 d1 a2 b2 c2 d2 a3 b3 c3 d3 a b c d za zb zc zd va0 vb0 vc0 vd0 va1 vb1 vc1 vd1 va2 vb2 vc2 vd2 va3 vb3 vc3 vd3 p0 e0 q0 f0 p1 e1 q1 f1 ii : Int) (l0 l1 l2 l3 y0 h0 h1 : List Int) (hk : k_dwt_Merge_2 kk a0 b0 c0 d0 a1 b1 c1 d1 a2 b2 c2 d2 a3 b3 c3 d3 a b c d za zb zc zd va0 vb0 vc0 vd0 va1 vb1 vc1 vd1 va2 vb2 vc2 vd2 va3 vb3 vc3 vd3 p0 e0 q0 f0 p1 e1 q1 f1 ii l0 l1 l2 l3 y0 h0 h1 = true) : ZZ (c_dwt_Merge_2 kk a0 b0 c0 d0 a1 b1 c1 d1 a2 b2 c2 d2 a3 b3 c3 d3 a b c d za zb zc zd va0 vb0 vc0 vd0 va1 vb1 vc1 vd1 va2 vb2 vc2 vd2 va3 vb3 vc3 vd3 p0 e0 q0 f0 p1 e1 q1 f1 ii l0 l1 l2 l3 y0 h0 h1) T_dwt_Merge_2 [.one (.int .i64 kk), .one (.ptr 0 0), .one (.ptr 1 0), .one (.ptr 2 0), .one (.ptr 3 0), .one (.ptr 4 0), .one (.int .i64 ii)] [some (.box [.int .i64 a0, .int .i64 b0, .int .i64 c0, .int .i64 d0, .lst (.int .i64) l0, .int .i64 a1, .int .i64 b1, .int .i64 c1, .int .i64 d1, .lst (.int .i64) l1, .int .i64 a2, .int .i64 b2, .int .i64 c2, .int .i64 d2, .lst (.int .i64) l2, .int .i64 a3, .int .i64 b3, .int .i64 c3, .int .i64 d3, .lst (.int .i64) l3]), some (.box [.int .i64 a, .int .i64 b, .int .i64 c, .int .i64 d]), some (.box [.int .i64 za, .int .i64 zb, .int .i64 zc, .int .i64 zd, .row 5]), some (.box [.int .i64 va0, .int .i64 vb0, .int .i64 vc0, .int .i64 vd0, .int .i64 va1, .int .i64 vb1, .int .i64 vc1, .int .i64 vd1, .int .i64 va2, .int .i64 vb2, .int .i64 vc2, .int .i64 vd2, .int .i64 va3, .int .i64 vb3, .int .i64 vc3, .int .i64 vd3]), some (.box [.int .i64 p0, .int .i64 e0, .int .i64 q0, .int .i64 f0, .row 6, .int .i64 p1, .int .i64 e1, .int .i64 q1, .int .i64 f1, .row 7]), some (.arr 3 (.int .i64) y0), some (.arr 3 (.int .i64) h0), some (.arr 3 (.int .i64) h1)] := by
  simp only [k_dwt_Merge_2, Bool.and_eq_true, decide_eq_true_eq] at hk
  obtain ⟨⟨rfl, v0, s0⟩, v1, s1⟩ := hk
  refine ⟨3, fun K r h => ?_⟩
  simp only [iter, tu_dwt_Merge_2_0, U_dwt_Merge_2_0, LT.next, LT.run, ite2_bool, v0, if_true]
  rw [if_pos (by simp only [k_dwt_Merge_3, mgB, s0, decide_true, Bool.and_self, Bool.true_or])]
  simp only [iter, tu_dwt_Merge_2_1, U_dwt_Merge_2_1, LT.next, LT.run, ite2_bool, v1, if_true]
  rw [if_pos (by simp only [k_dwt_Merge_3, mgB, s1, decide_true, Bool.and_self, Bool.or_true])]
  simp only [iter, tu_dwt_Merge_2_2, U_dwt_Merge_2_2, LT.next, LT.run, ite2_bool]
  exact h
theorem z_dwt_Merge_2 : ZOk S_dwt_Merge_2 T_dwt_Merge_2 := by
  intro vs bl t y0'
  refine d_dwt_Merge_2 y0' fun kk a0 b0 c0 d0 a1 b1 c1 d1 a2 b2 c2 d2 a3 b3 c3 d3 a b c d za zb zc zd va0 vb0 vc0 vd0 va1 vb1 vc1 vd1 va2 vb2 vc2 vd2 va3 vb3 vc3 vd3 p0 e0 q0 f0 p1 e1 q1 f1 ii l0 l1 l2 l3 y0 h0 h1 u1' u2' yy' => ?_
  subst u1' u2'
  obtain ⟨hk, rfl⟩ := Prod.mk.inj (Option.some.inj yy')
  exact zz_dwt_Merge_2 _ _ _ _ _ _ _ _ _ _ _ _ _ _ _ _ _ _ _ _ _ _ _ _ _ _ _ _ _ _ _ _ _ _ _ _ _ _ _ _ _ _ _ _ _ _ _ _ _ _ _ _ _ _ _ _ _ hk
theorem zz_dwt_Merge_3 (kk a0 b0 c0 d0 a1 b1 c1 d1 a2 b2 c2 d2 a3 b3 c3 d3 a b c d za zb zc zd va0 vb0 vc0 vd0 va1 vb1 vc1 vd1 va2 vb2 vc2 vd2 va3 vb3 vc3 vd3 p0 e0 q0 f0 p1 e1 q1 f1 g0 g1 g2 g3 ii x i2 : Int) (l0 l1 l2 l3 y0 h0 h1 t : List Int) (hk : k_dwt_Merge_3 kk a0 b0 c0 d0 a1 b1 c1 d1 a2 b2 c2 d2 a3 b3 c3 d3 a b c d za zb zc zd va0 vb0 vc0 vd0 va1 vb1 vc1 vd1 va2 vb2 vc2 vd2 va3 vb3 vc3 vd3 p0 e0 q0 f0 p1 e1 q1 f1 g0 g1 g2 g3 ii x i2 l0 l1 l2 l3 y0 h0 h1 t = true) : ZZ (c_dwt_Merge_3 kk a0 b0 c0 d0 a1 b1 c1 d1 a2 b2 c2 d2 a3 b3 c3 d3 a b c d za zb zc zd va0 vb0 vc0 vd0 va1 vb1 vc1 vd1 va2 vb2 vc2 vd2 va3 vb3 vc3 vd3 p0 e0 q0 f0 p1 e1 q1 f1 g0 g1 g2 g3 ii x i2 l0 l1 l2 l3 y0 h0 h1 t) T_dwt_Merge_3 [.one (.int .i64 kk), .one (.ptr 0 0), .one (.ptr 1 0), .one (.ptr 2 0), .one (.ptr 3 0), .one (.ptr 4 0), .one (.int .i64 ii), .one (.ptr 5 0), .one (.int .i64 x), .one (.int .i64 i2)] [some (.box [.int .i64 a0, .int .i64 b0, .int .i64 c0, .int .i64 d0, .lst (.int .i64) l0, .int .i64 a1, .int .i64 b1, .int .i64 c1, .int .i64 d1, .lst (.int .i64) l1, .int .i64 a2, .int .i64 b2, .int .i64 c2, .int .i64 d2, .lst (.int .i64) l2, .int .i64 a3, .int .i64 b3, .int .i64 c3, .int .i64 d3, .lst (.int .i64) l3]), some (.box [.int .i64 a, .int .i64 b, .int .i64 c, .int .i64 d]), some (.box [.int .i64 za, .int .i64 zb, .int .i64 zc, .int .i64 zd, .row 6]), some (.box [.int .i64 va0, .int .i64 vb0, .int .i64 vc0, .int .i64 vd0, .int .i64 va1, .int .i64 vb1, .int .i64 vc1, .int .i64 vd1, .int .i64 va2, .int .i64 vb2, .int .i64 vc2, .int .i64 vd2, .int .i64 va3, .int .i64 vb3, .int .i64 vc3, .int .i64 vd3]), some (.box [.int .i64 p0, .int .i64 e0, .int .i64 q0, .int .i64 f0, .row 7, .int .i64 p1, .int .i64 e1, .int .i64 q1, .int .i64 f1, .row 8]), some (.box [.int .i64 g0, .int .i64 g1, .int .i64 g2, .int .i64 g3, .row 9]), some (.arr 3 (.int .i64) y0), some (.arr 3 (.int .i64) h0), some (.arr 3 (.int .i64) h1), some (.arr 3 (.int .i64) t)] := by
  simp only [k_dwt_Merge_3, Bool.and_eq_true, decide_eq_true_eq] at hk
  obtain ⟨rfl, hm⟩ := hk
  rcases mgB_s hm with ⟨rfl, hq⟩ | ⟨rfl, hq⟩
  · refine Exists.elim (z_fold (T := T_dwt_Merge_3) (st := fun j => ([.one (.int .i64 kk), .one (.ptr 0 0), .one (.ptr 1 0), .one (.ptr 2 0), .one (.ptr 3 0), .one (.ptr 4 0), .one (.int .i64 0), .one (.ptr 5 0), .one (.int .i64 (x + (j : Int))), .one (.int .i64 i2)], [some (.box [.int .i64 a0, .int .i64 b0, .int .i64 c0, .int .i64 d0, .lst (.int .i64) l0, .int .i64 a1, .int .i64 b1, .int .i64 c1, .int .i64 d1, .lst (.int .i64) l1, .int .i64 a2, .int .i64 b2, .int .i64 c2, .int .i64 d2, .lst (.int .i64) l2, .int .i64 a3, .int .i64 b3, .int .i64 c3, .int .i64 d3, .lst (.int .i64) l3]), some (.box [.int .i64 a, .int .i64 b, .int .i64 c, .int .i64 d]), some (.box [.int .i64 za, .int .i64 zb, .int .i64 zc, .int .i64 zd, .row 6]), some (.box [.int .i64 va0, .int .i64 vb0, .int .i64 vc0, .int .i64 vd0, .int .i64 va1, .int .i64 vb1, .int .i64 vc1, .int .i64 vd1, .int .i64 va2, .int .i64 vb2, .int .i64 vc2, .int .i64 vd2, .int .i64 va3, .int .i64 vb3, .int .i64 vc3, .int .i64 vd3]), some (.box [.int .i64 p0, .int .i64 e0, .int .i64 q0, .int .i64 f0, .row 7, .int .i64 p1, .int .i64 e1, .int .i64 q1, .int .i64 f1, .row 8]), some (.box [.int .i64 x, .int .i64 g1, .int .i64 g2, .int .i64 g3, .row 9]), some (.arr 3 (.int .i64) y0), some (.arr 3 (.int .i64) h0), some (.arr 3 (.int .i64) h1), some (.arr 3 (.int .i64) (setCs t (c0 - a0).toNat (mgCol l0 l2 (c0 - a0).toNat (d0 - b0).toNat (d2 - b2).toNat b kk) j))])) (c0 - a0).toNat (.leaf (.exit 6) [.one (.int .i64 kk), .one (.ptr 0 0), .one (.ptr 1 0), .one (.ptr 2 0), .one (.ptr 3 0), .one (.ptr 4 0), .one (.int .i64 0), .one (.ptr 5 0), .one (.int .i64 i2)] [some (.box [.int .i64 a0, .int .i64 b0, .int .i64 c0, .int .i64 d0, .lst (.int .i64) l0, .int .i64 a1, .int .i64 b1, .int .i64 c1, .int .i64 d1, .lst (.int .i64) l1, .int .i64 a2, .int .i64 b2, .int .i64 c2, .int .i64 d2, .lst (.int .i64) l2, .int .i64 a3, .int .i64 b3, .int .i64 c3, .int .i64 d3, .lst (.int .i64) l3]), some (.box [.int .i64 a, .int .i64 b, .int .i64 c, .int .i64 d]), some (.box [.int .i64 za, .int .i64 zb, .int .i64 zc, .int .i64 zd, .row 6]), some (.box [.int .i64 va0, .int .i64 vb0, .int .i64 vc0, .int .i64 vd0, .int .i64 va1, .int .i64 vb1, .int .i64 vc1, .int .i64 vd1, .int .i64 va2, .int .i64 vb2, .int .i64 vc2, .int .i64 vd2, .int .i64 va3, .int .i64 vb3, .int .i64 vc3, .int .i64 vd3]), some (.box [.int .i64 p0, .int .i64 e0, .int .i64 q0, .int .i64 f0, .row 7, .int .i64 p1, .int .i64 e1, .int .i64 q1, .int .i64 f1, .row 8]), some (.box [.int .i64 x, .int .i64 g1, .int .i64 g2, .int .i64 g3, .row 9]), some (.arr 3 (.int .i64) y0), some (.arr 3 (.int .i64) h0), some (.arr 3 (.int .i64) h1), some (.arr 3 (.int .i64) (mgH b kk a0 b0 c0 d0 b2 d2 l0 l2 t))]) (fun j hj F K => ?_) (fun F K => ?_)) (fun k hk => ⟨k, fun K r h => ?_⟩)
    · have st := mg_step hq hj
      obtain ⟨m1, m2, m3, m4, m5, m6, m7, m8⟩ := st
      have hl := setCs_len t (c0 - a0).toNat (mgCol l0 l2 (c0 - a0).toNat (d0 - b0).toNat (d2 - b2).toNat b kk) j
      have m9 : (iv (colOf l0 (c0 - a0).toNat j (d0 - b0).toNat) (colOf l2 (c0 - a0).toNat j (d2 - b2).toNat) b kk).1 = mgCol l0 l2 (c0 - a0).toNat (d0 - b0).toNat (d2 - b2).toNat b kk j := rfl
      simp only [tu_dwt_Merge_3_0, U_dwt_Merge_3_0, LT.next, LT.run, ite2_bool, decide_eq_true_eq, m1, m2, m5, m9]
      rw [if_pos (by omega), if_pos (by rw [small_of (by rw [colOf_len]; omega), small_of (by rw [colOf_len]; omega)]; rfl), if_neg (by decide), if_pos (set_ok (by omega) (by omega) (by omega) (by omega) (by omega) (by rw [hl, m6, m8])), wrap_in (n := x + (j : Int) + 1) (by omega) (by omega), show (g2 - x).toNat = (c0 - a0).toNat by omega, show (x + (j : Int) - x).toNat = j by omega, show x + (j : Int) + 1 = x + ((j + 1 : Nat) : Int) by omega]
      rfl
    · obtain ⟨y1, y2, y3, y4, y5, y6, y7, y8, y9⟩ := mgOk_s hq
      have pb := plV_b y1
      simp only [tu_dwt_Merge_3_0, U_dwt_Merge_3_0, LT.next, LT.run, ite2_bool, decide_eq_true_eq]
      rw [if_neg (by omega)]
      rfl
    · have hk' := hk K r h
      rw [show x + ((0 : Nat) : Int) = x by simp] at hk'
      exact hk'
  · refine Exists.elim (z_fold (T := T_dwt_Merge_3) (st := fun j => ([.one (.int .i64 kk), .one (.ptr 0 0), .one (.ptr 1 0), .one (.ptr 2 0), .one (.ptr 3 0), .one (.ptr 4 0), .one (.int .i64 1), .one (.ptr 5 0), .one (.int .i64 (x + (j : Int))), .one (.int .i64 i2)], [some (.box [.int .i64 a0, .int .i64 b0, .int .i64 c0, .int .i64 d0, .lst (.int .i64) l0, .int .i64 a1, .int .i64 b1, .int .i64 c1, .int .i64 d1, .lst (.int .i64) l1, .int .i64 a2, .int .i64 b2, .int .i64 c2, .int .i64 d2, .lst (.int .i64) l2, .int .i64 a3, .int .i64 b3, .int .i64 c3, .int .i64 d3, .lst (.int .i64) l3]), some (.box [.int .i64 a, .int .i64 b, .int .i64 c, .int .i64 d]), some (.box [.int .i64 za, .int .i64 zb, .int .i64 zc, .int .i64 zd, .row 6]), some (.box [.int .i64 va0, .int .i64 vb0, .int .i64 vc0, .int .i64 vd0, .int .i64 va1, .int .i64 vb1, .int .i64 vc1, .int .i64 vd1, .int .i64 va2, .int .i64 vb2, .int .i64 vc2, .int .i64 vd2, .int .i64 va3, .int .i64 vb3, .int .i64 vc3, .int .i64 vd3]), some (.box [.int .i64 p0, .int .i64 e0, .int .i64 q0, .int .i64 f0, .row 7, .int .i64 p1, .int .i64 e1, .int .i64 q1, .int .i64 f1, .row 8]), some (.box [.int .i64 x, .int .i64 g1, .int .i64 g2, .int .i64 g3, .row 9]), some (.arr 3 (.int .i64) y0), some (.arr 3 (.int .i64) h0), some (.arr 3 (.int .i64) h1), some (.arr 3 (.int .i64) (setCs t (c1 - a1).toNat (mgCol l1 l3 (c1 - a1).toNat (d1 - b1).toNat (d3 - b3).toNat b kk) j))])) (c1 - a1).toNat (.leaf (.exit 6) [.one (.int .i64 kk), .one (.ptr 0 0), .one (.ptr 1 0), .one (.ptr 2 0), .one (.ptr 3 0), .one (.ptr 4 0), .one (.int .i64 1), .one (.ptr 5 0), .one (.int .i64 i2)] [some (.box [.int .i64 a0, .int .i64 b0, .int .i64 c0, .int .i64 d0, .lst (.int .i64) l0, .int .i64 a1, .int .i64 b1, .int .i64 c1, .int .i64 d1, .lst (.int .i64) l1, .int .i64 a2, .int .i64 b2, .int .i64 c2, .int .i64 d2, .lst (.int .i64) l2, .int .i64 a3, .int .i64 b3, .int .i64 c3, .int .i64 d3, .lst (.int .i64) l3]), some (.box [.int .i64 a, .int .i64 b, .int .i64 c, .int .i64 d]), some (.box [.int .i64 za, .int .i64 zb, .int .i64 zc, .int .i64 zd, .row 6]), some (.box [.int .i64 va0, .int .i64 vb0, .int .i64 vc0, .int .i64 vd0, .int .i64 va1, .int .i64 vb1, .int .i64 vc1, .int .i64 vd1, .int .i64 va2, .int .i64 vb2, .int .i64 vc2, .int .i64 vd2, .int .i64 va3, .int .i64 vb3, .int .i64 vc3, .int .i64 vd3]), some (.box [.int .i64 p0, .int .i64 e0, .int .i64 q0, .int .i64 f0, .row 7, .int .i64 p1, .int .i64 e1, .int .i64 q1, .int .i64 f1, .row 8]), some (.box [.int .i64 x, .int .i64 g1, .int .i64 g2, .int .i64 g3, .row 9]), some (.arr 3 (.int .i64) y0), some (.arr 3 (.int .i64) h0), some (.arr 3 (.int .i64) h1), some (.arr 3 (.int .i64) (mgH b kk a1 b1 c1 d1 b3 d3 l1 l3 t))]) (fun j hj F K => ?_) (fun F K => ?_)) (fun k hk => ⟨k, fun K r h => ?_⟩)
    · have st := mg_step hq hj
      obtain ⟨m1, m2, m3, m4, m5, m6, m7, m8⟩ := st
      have hl := setCs_len t (c1 - a1).toNat (mgCol l1 l3 (c1 - a1).toNat (d1 - b1).toNat (d3 - b3).toNat b kk) j
      have m9 : (iv (colOf l1 (c1 - a1).toNat j (d1 - b1).toNat) (colOf l3 (c1 - a1).toNat j (d3 - b3).toNat) b kk).1 = mgCol l1 l3 (c1 - a1).toNat (d1 - b1).toNat (d3 - b3).toNat b kk j := rfl
      simp only [tu_dwt_Merge_3_1, U_dwt_Merge_3_1, LT.next, LT.run, ite2_bool, decide_eq_true_eq, m1, m2, m5, m9]
      rw [if_pos (by omega), if_pos (by rw [small_of (by rw [colOf_len]; omega), small_of (by rw [colOf_len]; omega)]; rfl), if_neg (by decide), if_pos (set_ok (by omega) (by omega) (by omega) (by omega) (by omega) (by rw [hl, m6, m8])), wrap_in (n := x + (j : Int) + 1) (by omega) (by omega), show (g2 - x).toNat = (c1 - a1).toNat by omega, show (x + (j : Int) - x).toNat = j by omega, show x + (j : Int) + 1 = x + ((j + 1 : Nat) : Int) by omega]
      rfl
    · obtain ⟨y1, y2, y3, y4, y5, y6, y7, y8, y9⟩ := mgOk_s hq
      have pb := plV_b y1
      simp only [tu_dwt_Merge_3_1, U_dwt_Merge_3_1, LT.next, LT.run, ite2_bool, decide_eq_true_eq]
      rw [if_neg (by omega)]
      rfl
    · have hk' := hk K r h
      rw [show x + ((0 : Nat) : Int) = x by simp] at hk'
      exact hk'
theorem z_dwt_Merge_3 : ZOk S_dwt_Merge_3 T_dwt_Merge_3 := by
  intro vs bl t y0'
  refine d_dwt_Merge_3 y0' fun kk a0 b0 c0 d0 a1 b1 c1 d1 a2 b2 c2 d2 a3 b3 c3 d3 a b c d za zb zc zd va0 vb0 vc0 vd0 va1 vb1 vc1 vd1 va2 vb2 vc2 vd2 va3 vb3 vc3 vd3 p0 e0 q0 f0 p1 e1 q1 f1 g0 g1 g2 g3 ii x i2 l0 l1 l2 l3 y0 h0 h1 t u1' u2' yy' => ?_
  subst u1' u2'
  obtain ⟨hk, rfl⟩ := Prod.mk.inj (Option.some.inj yy')
  exact zz_dwt_Merge_3 _ _ _ _ _ _ _ _ _ _ _ _ _ _ _ _ _ _ _ _ _ _ _ _ _ _ _ _ _ _ _ _ _ _ _ _ _ _ _ _ _ _ _ _ _ _ _ _ _ _ _ _ _ _ _ _ _ _ _ _ _ _ _ _ hk
theorem zz_dwt_Merge_4 (kk a b c d za zb zc zd p0 e0 q0 f0 p1 e1 q1 f1 oa ob oc od y : Int) (y0 h0 h1 v : List Int) (hk : k_dwt_Merge_4 kk a b c d za zb zc zd p0 e0 q0 f0 p1 e1 q1 f1 oa ob oc od y y0 h0 h1 v = true) : ZZ (c_dwt_Merge_4 kk a b c d za zb zc zd p0 e0 q0 f0 p1 e1 q1 f1 oa ob oc od y y0 h0 h1 v) T_dwt_Merge_4 [.one (.int .i64 kk), .one (.ptr 0 0), .one (.ptr 1 0), .one (.ptr 2 0), .one (.ptr 3 0), .one (.int .i64 y)] [some (.box [.int .i64 a, .int .i64 b, .int .i64 c, .int .i64 d]), some (.box [.int .i64 za, .int .i64 zb, .int .i64 zc, .int .i64 zd, .row 4]), some (.box [.int .i64 p0, .int .i64 e0, .int .i64 q0, .int .i64 f0, .row 5, .int .i64 p1, .int .i64 e1, .int .i64 q1, .int .i64 f1, .row 6]), some (.box [.int .i64 oa, .int .i64 ob, .int .i64 oc, .int .i64 od, .row 7]), some (.arr 3 (.int .i64) y0), some (.arr 3 (.int .i64) h0), some (.arr 3 (.int .i64) h1), some (.arr 3 (.int .i64) v)] := by
  simp only [k_dwt_Merge_4, Bool.and_eq_true, decide_eq_true_eq] at hk
  obtain ⟨⟨⟨⟨⟨⟨⟨⟨⟨⟨⟨⟨⟨⟨hy, rfl⟩, z1⟩, z2⟩, v1⟩, v2⟩, t1⟩, t2⟩, t3⟩, t4⟩, w1⟩, w2⟩, z3⟩, w3⟩, w4⟩ := hk
  have b1 := plV_b v1
  have b2 := plV_b v2
  have z3' := inr_b z3
  obtain ⟨n', hn⟩ : ∃ n' : Nat, d - b = n' := ⟨(d - b).toNat, by omega⟩
  have e6 : (d - b).toNat = n' := by omega
  have hr := fun j (hj : j < n') => mgRow_ok v1 v2 z1 z2 z3' w3 w4 (fitB_fit w1) (fitB_fit w2) (j := j) (by omega) (by omega)
  have hl := fun j (hj : j ≤ n') => catR_len (f := mgRow h0 h1 (q0 - p0).toNat (q1 - p1).toNat a kk) (g := (c - a).toNat) j (fun q hq => by have := (hr q (by omega)).2.1; omega)
  refine Exists.elim (z_fold (T := T_dwt_Merge_4) (st := fun j => ([.one (.int .i64 kk), .one (.ptr 0 0), .one (.ptr 1 0), .one (.ptr 2 0), .one (.ptr 3 0), .one (.int .i64 (y + (j : Int)))], [some (.box [.int .i64 a, .int .i64 b, .int .i64 c, .int .i64 d]), some (.box [.int .i64 za, .int .i64 zb, .int .i64 zc, .int .i64 zd, .row 4]), some (.box [.int .i64 p0, .int .i64 e0, .int .i64 q0, .int .i64 f0, .row 5, .int .i64 p1, .int .i64 e1, .int .i64 q1, .int .i64 f1, .row 6]), some (.box [.int .i64 oa, .int .i64 ob, .int .i64 oc, .int .i64 od, .row 7]), some (.arr 3 (.int .i64) y0), some (.arr 3 (.int .i64) h0), some (.arr 3 (.int .i64) h1), some (.arr 3 (.int .i64) (catR (mgRow h0 h1 (q0 - p0).toNat (q1 - p1).toNat a kk) j))])) n' (.leaf (.exit 8) [.one (.ptr 0 0), .one (.ptr 1 0)] [some (.box [.int .i64 za, .int .i64 zb, .int .i64 zc, .int .i64 zd, .row 2]), some (.box [.int .i64 oa, .int .i64 ob, .int .i64 oc, .int .i64 od, .row 3]), some (.arr 3 (.int .i64) y0), some (.arr 3 (.int .i64) (catR (mgRow h0 h1 (q0 - p0).toNat (q1 - p1).toNat a kk) n'))]) (fun j hj F K => ?_) (fun F K => ?_)) (fun k hk => ⟨k, fun K r h => ?_⟩)
  · have hr' := hr j hj
    have hl1 := hl j (by omega)
    have hl2 := hl (j + 1) (by omega)
    have m1 : (j + 1) * (c - a).toNat ≤ 4096 * 4096 := Nat.mul_le_mul (by omega) (by omega)
    have r1 := plRow_at v1 (j := j) (by omega) (y := y + (j : Int)) (by omega)
    have r2 := plRow_at v2 (j := j) (by omega) (y := y + (j : Int)) (by omega)
    simp only [catR, List.length_append] at hl2
    have m9 : (iv (rowAt h0 (q0 - p0).toNat j) (rowAt h1 (q1 - p1).toNat j) a kk).1 = mgRow h0 h1 (q0 - p0).toNat (q1 - p1).toNat a kk j := rfl
    simp only [tu_dwt_Merge_4, U_dwt_Merge_4, LT.next, LT.run, ite2_bool, decide_eq_true_eq, r1, r2, hr'.1, m9]
    rw [if_pos (by omega), if_pos (by rw [small_of (show (rowAt h0 (q0 - p0).toNat j).length ≤ 100000 by omega), small_of (show (rowAt h1 (q1 - p1).toNat j).length ≤ 100000 by omega)]; rfl), if_neg (by decide), if_pos (by omega), wrap_in (n := y + (j : Int) + 1) (by omega) (by omega), show y + (j : Int) + 1 = y + ((j + 1 : Nat) : Int) by omega]
    rfl
  · simp only [tu_dwt_Merge_4, U_dwt_Merge_4, LT.next, LT.run, ite2_bool, decide_eq_true_eq]
    rw [if_neg (by omega)]
  · unfold c_dwt_Merge_4 at h
    rw [e6] at h
    have hk' := hk K r h
    rw [show y + ((0 : Nat) : Int) = y by simp] at hk'
    exact hk'
theorem z_dwt_Merge_4 : ZOk S_dwt_Merge_4 T_dwt_Merge_4 := by
  intro vs bl t y0'
  refine d_dwt_Merge_4 y0' fun kk a b c d za zb zc zd p0 e0 q0 f0 p1 e1 q1 f1 oa ob oc od y y0 h0 h1 v u1' u2' yy' => ?_
  subst u1' u2'
  obtain ⟨hk, rfl⟩ := Prod.mk.inj (Option.some.inj yy')
  exact zz_dwt_Merge_4 _ _ _ _ _ _ _ _ _ _ _ _ _ _ _ _ _ _ _ _ _ _ _ _ _ _ hk
theorem q_dwt_Merge (a0 b0 c0 d0 a1 b1 c1 d1 a2 b2 c2 d2 a3 b3 c3 d3 a b c d k : Int) (l0 l1 l2 l3 : List Int) (hok : (small l0.length && small l1.length && small l2.length && small l3.length) = true) : funR Try.prog t_dwt_Merge (annOf []) l_dwt_Merge 20 Try.f62 [.agg [.int .i64 a0, .int .i64 b0, .int .i64 c0, .int .i64 d0, .lst (.int .i64) l0, .int .i64 a1, .int .i64 b1, .int .i64 c1, .int .i64 d1, .lst (.int .i64) l1, .int .i64 a2, .int .i64 b2, .int .i64 c2, .int .i64 d2, .lst (.int .i64) l2, .int .i64 a3, .int .i64 b3, .int .i64 c3, .int .i64 d3, .lst (.int .i64) l3], .agg [.int .i64 a, .int .i64 b, .int .i64 c, .int .i64 d], .one (.int .i64 k)] [] = some ⟨.tup [(true, [.int .i64 ((mgR (mgErr a0 b0 c0 d0 a1 b1 c1 d1 a2 b2 c2 d2 a3 b3 c3 d3 a b c d k l0 l1 l2 l3) a b c d).1), .int .i64 ((mgR (mgErr a0 b0 c0 d0 a1 b1 c1 d1 a2 b2 c2 d2 a3 b3 c3 d3 a b c d k l0 l1 l2 l3) a b c d).2.1), .int .i64 ((mgR (mgErr a0 b0 c0 d0 a1 b1 c1 d1 a2 b2 c2 d2 a3 b3 c3 d3 a b c d k l0 l1 l2 l3) a b c d).2.2.1), .int .i64 ((mgR (mgErr a0 b0 c0 d0 a1 b1 c1 d1 a2 b2 c2 d2 a3 b3 c3 d3 a b c d k l0 l1 l2 l3) a b c d).2.2.2), .row 0]), (false, [.int .i64 (mgErr a0 b0 c0 d0 a1 b1 c1 d1 a2 b2 c2 d2 a3 b3 c3 d3 a b c d k l0 l1 l2 l3)])], [], [.arr 3 (.int .i64) (mgL (mgErr a0 b0 c0 d0 a1 b1 c1 d1 a2 b2 c2 d2 a3 b3 c3 d3 a b c d k l0 l1 l2 l3) a b c d k l0 l1 l2 l3)]⟩ := by
    refine (e_dwt_Merge ..).trans ?_
    simp only [ite2_bool]
    have hR : ∀ (a b c d : Int) (r : Rc), (a == r.1 && (b == r.2.1 && (c == r.2.2.1 && (d == r.2.2.2 && true)))) = isR a b c d r := fun _ _ _ _ _ => rfl
    simp only [hR]
    simp only [Bool.and_eq_true] at hok
    obtain ⟨⟨⟨o0, o1⟩, o2⟩, o3⟩ := hok
    simp only [o0, o1, o2, o3, Bool.and_true, if_true]
    cases z0 : valid a b c d
    · simp [mgErr, mgR, mgL, z0]
    cases z1 : decide (area a b c d > 1048576)
    rotate_left
    · simp [mgErr, mgR, mgL, z0, z1]
    cases z2 : inr 1 3 k
    · simp [mgErr, mgR, mgL, z0, z1, z2]
    cases p0' : plV a0 b0 c0 d0 l0
    · simp [mgErr, mgR, mgL, z0, z1, z2, p0']
    cases r0' : isR a0 b0 c0 d0 (bnd a b c d 0)
    · simp [mgErr, mgR, mgL, z0, z1, z2, p0', r0']
    cases p1' : plV a1 b1 c1 d1 l1
    · simp [mgErr, mgR, mgL, z0, z1, z2, p0', r0', p1']
    cases r1' : isR a1 b1 c1 d1 (bnd a b c d 1)
    · simp [mgErr, mgR, mgL, z0, z1, z2, p0', r0', p1', r1']
    cases p2' : plV a2 b2 c2 d2 l2
    · simp [mgErr, mgR, mgL, z0, z1, z2, p0', r0', p1', r1', p2']
    cases r2' : isR a2 b2 c2 d2 (bnd a b c d 2)
    · simp [mgErr, mgR, mgL, z0, z1, z2, p0', r0', p1', r1', p2', r2']
    cases p3' : plV a3 b3 c3 d3 l3
    · simp [mgErr, mgR, mgL, z0, z1, z2, p0', r0', p1', r1', p2', r2', p3']
    cases r3' : isR a3 b3 c3 d3 (bnd a b c d 3)
    · simp [mgErr, mgR, mgL, z0, z1, z2, p0', r0', p1', r1', p2', r2', p3', r3']
    cases g0 : fitB 281474976710656 l0
    · simp [mgErr, mgR, mgL, z0, z1, z2, p0', r0', p1', r1', p2', r2', p3', r3', g0]
    cases g1 : fitB 281474976710656 l1
    · simp [mgErr, mgR, mgL, z0, z1, z2, p0', r0', p1', r1', p2', r2', p3', r3', g0, g1]
    cases g2 : fitB 281474976710656 l2
    · simp [mgErr, mgR, mgL, z0, z1, z2, p0', r0', p1', r1', p2', r2', p3', r3', g0, g1, g2]
    cases g3 : fitB 281474976710656 l3
    · simp [mgErr, mgR, mgL, z0, z1, z2, p0', r0', p1', r1', p2', r2', p3', r3', g0, g1, g2, g3]
    have e : mgErr a0 b0 c0 d0 a1 b1 c1 d1 a2 b2 c2 d2 a3 b3 c3 d3 a b c d k l0 l1 l2 l3 = 0 := by simp [mgErr, z0, z1, z2, p0', r0', p1', r1', p2', r2', p3', r3', g0, g1, g2, g3]
    rw [e]
    simp only [Bool.not_true, Bool.false_eq_true, if_false]
    obtain ⟨rfl, rfl, rfl, rfl⟩ := isR_s r0'
    obtain ⟨rfl, rfl, rfl, rfl⟩ := isR_s r1'
    obtain ⟨rfl, rfl, rfl, rfl⟩ := isR_s r2'
    obtain ⟨rfl, rfl, rfl, rfl⟩ := isR_s r3'
    have hb := bnd_v z0
    have ab := valid_b z0
    have av := area_v z0
    have z1' : ¬ area a b c d > 1048576 := by simpa using z1
    have hb0 := hb.1
    have hb1 := hb.2.1
    have hb2 := hb.2.2.1
    have hb3 := hb.2.2.2
    have hs : inr 0 4096 b = true := inr_t (by omega) (by omega)
    have ha : inr 0 4096 a = true := inr_t (by omega) (by omega)
    have ce := cev_bd (s := a) (n := c - a) (by omega)
    have v0 : valid (bnd a b c d 0).1 b (bnd a b c d 0).2.2.1 d = true := by simp only [hb0]; exact valid_i (by omega)
    have v1 : valid (bnd a b c d 1).1 b (bnd a b c d 1).2.2.1 d = true := by simp only [hb1]; exact valid_i (by omega)
    have M0 := mgH_mat (s := b) (k := k) (a := (bnd a b c d 0).1) (b := (bnd a b c d 0).2.1) (c := (bnd a b c d 0).2.2.1) (d := (bnd a b c d 0).2.2.2) (b' := (bnd a b c d 2).2.1) (d' := (bnd a b c d 2).2.2.2) (m := d - b) (ar := area (bnd a b c d 0).1 b (bnd a b c d 0).2.2.1 d) (l := l0) (l' := l2) (n := (d - b).toNat) z2 hs (by omega) (by simp only [hb0, hb1, hb2, hb3, cev]; omega) (by simp only [hb0, hb1, hb2, hb3, cev]; omega) (fitB_fit g0) (fitB_fit g2) (by omega) (toNat_area v0)
    have M1 := mgH_mat (s := b) (k := k) (a := (bnd a b c d 1).1) (b := (bnd a b c d 1).2.1) (c := (bnd a b c d 1).2.2.1) (d := (bnd a b c d 1).2.2.2) (b' := (bnd a b c d 3).2.1) (d' := (bnd a b c d 3).2.2.2) (m := d - b) (ar := area (bnd a b c d 1).1 b (bnd a b c d 1).2.2.1 d) (l := l1) (l' := l3) (n := (d - b).toNat) z2 hs (by omega) (by simp only [hb0, hb1, hb2, hb3, cev]; omega) (by simp only [hb0, hb1, hb2, hb3, cev]; omega) (fitB_fit g1) (fitB_fit g3) (by omega) (toNat_area v1)
    have x0 : (bnd a b c d 0).2.2.1 - (bnd a b c d 0).1 = cev a (c - a) := by simp only [hb0, cev]; omega
    have x1 : (bnd a b c d 1).2.2.1 - (bnd a b c d 1).1 = (c - a) - cev a (c - a) := by simp only [hb1, cev]; omega
    have mm : ∀ x y z : Int, 0 ≤ x → x ≤ z → 0 ≤ y → x * y ≤ z * y := fun x y z h1 h2 h3 => Int.mul_le_mul_of_nonneg_right h2 h3
    have m1 := mm (cev a (c - a)) (d - b) (c - a) ce.1 ce.2 (by omega)
    have m2 := mm ((c - a) - cev a (c - a)) (d - b) (c - a) (by omega) (by omega) (by omega)
    have zl : ∀ (g : Int), 0 ≤ g → (((d - b).toNat * g.toNat : Nat) : Int) = g * (d - b) := by
      intro g hg
      rw [Int.natCast_mul, Int.toNat_of_nonneg (by omega), Int.toNat_of_nonneg hg, Int.mul_comm]
    have V0 : plV (bnd a b c d 0).1 b (bnd a b c d 0).2.2.1 d (mgH b k (bnd a b c d 0).1 (bnd a b c d 0).2.1 (bnd a b c d 0).2.2.1 (bnd a b c d 0).2.2.2 (bnd a b c d 2).2.1 (bnd a b c d 2).2.2.2 l0 l2 (zer (area (bnd a b c d 0).1 b (bnd a b c d 0).2.2.1 d))) = true :=
      plV_i v0 (by rw [M0.1, matC_len, x0, zl _ (by omega)]) (by rw [x0]; omega)
    have V1 : plV (bnd a b c d 1).1 b (bnd a b c d 1).2.2.1 d (mgH b k (bnd a b c d 1).1 (bnd a b c d 1).2.1 (bnd a b c d 1).2.2.1 (bnd a b c d 1).2.2.2 (bnd a b c d 3).2.1 (bnd a b c d 3).2.2.2 l1 l3 (zer (area (bnd a b c d 1).1 b (bnd a b c d 1).2.2.1 d))) = true :=
      plV_i v1 (by rw [M1.1, matC_len, x1, zl _ (by omega)]) (by rw [x1]; omega)
    rw [if_pos (by
      simp only [k_dwt_Merge_2, v0, v1, decide_true, Bool.true_and, Bool.and_eq_true]
      exact ⟨mgOk_i p0' p2' z2 hs g0 g2 rfl rfl (by simp only [hb0, hb2]) (by simp only [hb0, hb2]) (by omega) (by simp only [hb0, cev]; omega) (by simp only [hb2, cev]; omega) (by rw [zer, List.length_replicate, toNat_area v0, x0, zl _ (by omega)]),
        mgOk_i p1' p3' z2 hs g1 g3 rfl rfl (by simp only [hb1, hb3]) (by simp only [hb1, hb3]) (by omega) (by simp only [hb1, cev]; omega) (by simp only [hb3, cev]; omega) (by rw [zer, List.length_replicate, toNat_area v1, x1, zl _ (by omega)])⟩)]
    rw [if_pos (by simp only [k_dwt_Merge_4, z2, ha, V0, V1, fit_fitB M0.2, fit_fitB M1.2, inr_t (a := 0) (b := 4096) (x := c - a) (by omega) (by omega), x0, x1, decide_true, Bool.and_self])]
    rw [M0.1, M1.1]
    rfl
theorem s_dwt_Merge : SoundFun Try.prog 62 G_dwt_Merge := by
  refine fun_ok (tab := t_dwt_Merge) (ann := annOf []) (lt := l_dwt_Merge) (tab_cons s_pl_Valid (tab_cons s_rect_Valid (tab_cons s_dwt_Bands (tab_cons s_rect_Area (tab_cons s_dwt_known (tab_cons s_dwt_exceeds (tab_cons s_pl_Row (tab_cons s_dwt_empty (tab_cons s_pl_Column (tab_cons s_dwt_setColumn (tab_cons s_lift_Inverse tab_nil))))))))))) (by kernel_rfl) (fn := Try.f62) (by kernel_rfl) (by decide) (c := bodyOf Try.f62) (by kernel_rfl) (by
    intro m b hb
    have hb' : b ∈ loopsOf (bodyOf Try.f62) := hb
    rw [o_dwt_Merge] at hb'
    simp only [List.mem_cons, List.not_mem_nil, or_false] at hb'
    rcases hb' with rfl | rfl | rfl | rfl | rfl
    · exact loop_none (by kernel_rfl) m
    · exact loop_none (by kernel_rfl) m
    · exact loop_ok (key := 20) (by kernel_rfl) rfl r_dwt_Merge_2 z_dwt_Merge_2 m
    · exact loop_ok (key := 24) (by kernel_rfl) rfl r_dwt_Merge_3 z_dwt_Merge_3 m
    · exact loop_ok (key := 36) (by kernel_rfl) rfl r_dwt_Merge_4 z_dwt_Merge_4 m
    ) ?_ (keep_nil (by kernel_rfl))
  intro args lent o y0'
  unfold G_dwt_Merge at y0'
  obtain ⟨q', args, rfl, y1'⟩ := pA_s y0'
  obtain ⟨a0, b0, c0, d0, l0, a1, b1, c1, d1, l1, a2, b2, c2, d2, l2, a3, b3, c3, d3, l3, rfl, y2'⟩ := rd4L_s y1'
  obtain ⟨q', args, rfl, y3'⟩ := pA_s y2'
  obtain ⟨a, b, c, d, q', rfl, y4'⟩ := t4_s y3'
  obtain ⟨rfl, y5'⟩ := tE_s y4'
  obtain ⟨k, args, rfl, y6'⟩ := pI_s y5'
  obtain ⟨rfl, y7'⟩ := pE_s y6'
  obtain ⟨rfl, y8'⟩ := nE_s y7'
  have yy' := y8'
  unfold H_dwt_Merge at yy'
  obtain ⟨hok, rfl⟩ := Prod.mk.inj (Option.some.inj yy')
  exact ⟨20, q_dwt_Merge _ _ _ _ _ _ _ _ _ _ _ _ _ _ _ _ _ _ _ _ _ _ _ _ _ hok⟩
theorem rowsOk_s {l : List (List Int)} (h : rowsOk l = true) : l.length ≤ 4096 ∧ (∀ i, i < l.length → (gL l i).length = (gL l 0).length) ∧ (gL l 0).length ≤ 4096 := by
  simp only [rowsOk, Bool.and_eq_true, decide_eq_true_eq, List.all_eq_true] at h
  refine ⟨h.1.1, fun i hi => ?_, h.2⟩
  have e : gL l i = l[i] := by simp [gL, List.getD_eq_getElem?_getD, hi]
  rw [e]
  exact h.1.2 _ (List.getElem_mem hi)
theorem rowsP_succ (l : List (List Int)) (y j : Nat) : rowsP l y (j + 1) = rowsP l y j ++ [gI (gL l j) y] := by
  simp [rowsP, List.range_succ]
theorem rowsM_succ (l : List (List Int)) (j : Nat) : rowsM l (j + 1) = rowsM l j ++ rowsP l j l.length := matC_succ ..
theorem colsL_succ (f : Nat → List Int) (j : Nat) : colsL f (j + 1) = colsL f j ++ [f j] := by
  simp [colsL, List.range_succ]
theorem colsL_len (f : Nat → List Int) (j : Nat) : (colsL f j).length = j := by simp [colsL]
theorem gL_cols {f : Nat → List Int} {g x : Nat} (h : x < g) : gL (colsL f g) x = f x := by
  simp [gL, colsL, List.getD_eq_getElem?_getD, h]
theorem colOf_succ (l : List Int) (w x n : Nat) : colOf l w x (n + 1) = colOf l w x n ++ [gI l (n * w + x)] := by
  simp [colOf, List.range_succ]
theorem rows_cols {f : Nat → List Int} {g m : Nat} (hg : g ≤ 4096) (hm : m ≤ 4096) (h : ∀ x, x < g → (f x).length = m) : rowsOk (colsL f g) = true ∧ rowsM (colsL f g) (gL (colsL f g) 0).length = matC m g f := by
  by_cases h0 : g = 0
  · subst h0
    exact ⟨rfl, (List.length_eq_zero_iff.1 (by rw [matC_len, Nat.mul_zero])).symm⟩
  have e0 : (gL (colsL f g) 0).length = m := by rw [gL_cols (by omega), h 0 (by omega)]
  constructor
  · simp only [rowsOk, e0, colsL_len, Bool.and_eq_true, decide_eq_true_eq, List.all_eq_true]
    refine ⟨⟨hg, fun c hc => ?_⟩, hm⟩
    obtain ⟨x, hx, rfl⟩ := List.mem_map.1 hc
    exact h x (List.mem_range.1 hx)
  · rw [e0]
    unfold rowsM
    rw [colsL_len]
    exact matC_congr fun x hx => gL_cols hx
theorem d_ref05_rows_0 {α : Type} {vs : List V} {bl : List (Option Blk)} {K} {r : α} {Q : Prop} (y0' : D_ref05_rows_0 vs bl K = some r) (hh' : ∀ (y : Int) (l : List (List Int)) (v : List Int), vs = [.one (.lst (.sl (.int .i64)) l), .one (.row 0), .one (.int .i64 y)] → bl = [some (.arr 3 (.int .i64) v)] → K y l v = some r → Q) : Q := by
  unfold D_ref05_rows_0 at y0'
  obtain ⟨c', vs, rfl, y1'⟩ := pO_s y0'
  obtain ⟨l, rfl, y2'⟩ := kLJ_s y1'
  obtain ⟨c', vs, rfl, y3'⟩ := pO_s y2'
  obtain ⟨rfl, y4'⟩ := kR_s y3'
  obtain ⟨y, vs, rfl, y5'⟩ := pI_s y4'
  obtain ⟨rfl, y6'⟩ := pE_s y5'
  obtain ⟨v, bl, rfl, y7'⟩ := bAI_s y6'
  obtain ⟨rfl, y8'⟩ := bE_s y7'
  have yy' := y8'
  exact hh' _ _ _ rfl rfl yy'
theorem r_ref05_rows_0 : RoundOk Try.prog t_ref05_rows (annOf []) l_ref05_rows Out 20 0 36 [0, 3, 4] (kxOf [3] [2]) (loopOf Try.f96 0) T_ref05_rows_0 := by
  intro vs bl Kc r h
  unfold T_ref05_rows_0 at h
  obtain ⟨t, y0', h'⟩ := getD_run h
  refine d_ref05_rows_0 y0' fun y l v u1' u2' yy' => ?_
  subst u1' u2'
  cases yy'
  exact (b_ref05_rows_0 ..).trans h'
theorem d_ref05_rows_1 {α : Type} {vs : List V} {bl : List (Option Blk)} {K} {r : α} {Q : Prop} (y0' : D_ref05_rows_1 vs bl K = some r) (hh' : ∀ (y : Int) (x : Int) (l : List (List Int)) (v : List Int), vs = [.one (.lst (.sl (.int .i64)) l), .one (.row 0), .one (.int .i64 y), .one (.int .i64 x)] → bl = [some (.arr 3 (.int .i64) v)] → K y x l v = some r → Q) : Q := by
  unfold D_ref05_rows_1 at y0'
  obtain ⟨c', vs, rfl, y1'⟩ := pO_s y0'
  obtain ⟨l, rfl, y2'⟩ := kLJ_s y1'
  obtain ⟨c', vs, rfl, y3'⟩ := pO_s y2'
  obtain ⟨rfl, y4'⟩ := kR_s y3'
  obtain ⟨y, vs, rfl, y5'⟩ := pI_s y4'
  obtain ⟨x, vs, rfl, y6'⟩ := pI_s y5'
  obtain ⟨rfl, y7'⟩ := pE_s y6'
  obtain ⟨v, bl, rfl, y8'⟩ := bAI_s y7'
  obtain ⟨rfl, y9'⟩ := bE_s y8'
  have yy' := y9'
  exact hh' _ _ _ _ rfl rfl yy'
theorem r_ref05_rows_1 : RoundOk Try.prog t_ref05_rows (annOf []) l_ref05_rows Out 20 0 36 [0, 3, 4, 5] (kxOf [0, 3, 4] [2]) (loopOf Try.f96 1) T_ref05_rows_1 := by
  intro vs bl Kc r h
  unfold T_ref05_rows_1 at h
  obtain ⟨t, y0', h'⟩ := getD_run h
  refine d_ref05_rows_1 y0' fun y x l v u1' u2' yy' => ?_
  subst u1' u2'
  cases yy'
  exact (b_ref05_rows_1 ..).trans h'
theorem o_ref05_rows : loopsOf (bodyOf Try.f96) = [loopOf Try.f96 0, loopOf Try.f96 1] := by kernel_rfl
theorem zz_ref05_rows_0 (y : Int) (l : List (List Int)) (v : List Int) (hk : k_ref05_rows_0 y l v = true) : ZZ (c_ref05_rows_0 y l v) T_ref05_rows_0 [.one (.lst (.sl (.int .i64)) l), .one (.row 0), .one (.int .i64 y)] [some (.arr 3 (.int .i64) v)] := by
  simp only [k_ref05_rows_0, Bool.and_eq_true, decide_eq_true_eq] at hk
  obtain ⟨⟨⟨hr, h1⟩, rfl⟩, rfl⟩ := hk
  have rs := rowsOk_s hr
  refine Exists.elim (z_fold (T := T_ref05_rows_0) (st := fun j => ([.one (.lst (.sl (.int .i64)) l), .one (.row 0), .one (.int .i64 (j : Int))], [some (.arr 3 (.int .i64) (rowsM l j))])) (gL l 0).length (.leaf (.exit 0) [.one (.row 0)] [some (.arr 3 (.int .i64) (rowsM l (gL l 0).length))]) (fun j hj F K => ?_) (fun F K => ?_)) (fun k hk => ⟨k, fun K r h => ?_⟩)
  · have m1 : j * l.length ≤ 4096 * 4096 := Nat.mul_le_mul (by omega) (by omega)
    have hl : (rowsM l j).length = j * l.length := matC_len ..
    simp only [tu_ref05_rows_0, U_ref05_rows_0, LT.next, LT.run, ite2_bool, decide_eq_true_eq]
    rw [if_pos (by omega), if_pos (by omega), if_pos (by simp only [k_ref05_rows_1, hr, decide_true, Bool.true_and, Bool.and_eq_true, decide_eq_true_eq]; omega), wrap_in (n := (j : Int) + 1) (by omega) (by omega), show (j : Int) + 1 = ((j + 1 : Nat) : Int) by omega, rowsM_succ]
    rfl
  · simp only [tu_ref05_rows_0, U_ref05_rows_0, LT.next, LT.run, ite2_bool, decide_eq_true_eq]
    rw [if_pos (by omega), if_neg (by omega)]
  · exact hk K r h
theorem z_ref05_rows_0 : ZOk S_ref05_rows_0 T_ref05_rows_0 := by
  intro vs bl t y0'
  refine d_ref05_rows_0 y0' fun y l v u1' u2' yy' => ?_
  subst u1' u2'
  obtain ⟨hk, rfl⟩ := Prod.mk.inj (Option.some.inj yy')
  exact zz_ref05_rows_0 _ _ _ hk
theorem zz_ref05_rows_1 (y x : Int) (l : List (List Int)) (v : List Int) (hk : k_ref05_rows_1 y x l v = true) : ZZ (c_ref05_rows_1 y x l v) T_ref05_rows_1 [.one (.lst (.sl (.int .i64)) l), .one (.row 0), .one (.int .i64 y), .one (.int .i64 x)] [some (.arr 3 (.int .i64) v)] := by
  simp only [k_ref05_rows_1, Bool.and_eq_true, decide_eq_true_eq] at hk
  obtain ⟨⟨⟨⟨hr, rfl⟩, h1⟩, h2⟩, h3⟩ := hk
  have rs := rowsOk_s hr
  refine Exists.elim (z_fold (T := T_ref05_rows_1) (st := fun j => ([.one (.lst (.sl (.int .i64)) l), .one (.row 0), .one (.int .i64 y), .one (.int .i64 (j : Int))], [some (.arr 3 (.int .i64) (v ++ rowsP l y.toNat j))])) l.length (.leaf (.exit 2) [.one (.lst (.sl (.int .i64)) l), .one (.row 0), .one (.int .i64 y)] [some (.arr 3 (.int .i64) (v ++ rowsP l y.toNat l.length))]) (fun j hj F K => ?_) (fun F K => ?_)) (fun k hk => ⟨k, fun K r h => ?_⟩)
  · have hl : (rowsP l y.toNat j).length = j := by simp [rowsP]
    have hr2 := rs.2.1 j hj
    simp only [tu_ref05_rows_1, U_ref05_rows_1, LT.next, LT.run, ite2_bool, decide_eq_true_eq, Int.toNat_natCast]
    rw [if_pos (by omega), if_pos (by omega), if_pos (by omega), if_pos (by simp only [List.length_append, List.length_singleton]; omega), wrap_in (n := (j : Int) + 1) (by omega) (by omega), show (j : Int) + 1 = ((j + 1 : Nat) : Int) by omega, rowsP_succ, List.append_assoc]
  · simp only [tu_ref05_rows_1, U_ref05_rows_1, LT.next, LT.run, ite2_bool, decide_eq_true_eq]
    rw [if_neg (by omega)]
  · have hk' := hk K r h
    rw [show v ++ rowsP l y.toNat 0 = v by simp [rowsP]] at hk'
    exact hk'
theorem z_ref05_rows_1 : ZOk S_ref05_rows_1 T_ref05_rows_1 := by
  intro vs bl t y0'
  refine d_ref05_rows_1 y0' fun y x l v u1' u2' yy' => ?_
  subst u1' u2'
  obtain ⟨hk, rfl⟩ := Prod.mk.inj (Option.some.inj yy')
  exact zz_ref05_rows_1 _ _ _ _ hk
theorem q_ref05_rows (l : List (List Int)) (hok : rowsOk l = true) : funR Try.prog t_ref05_rows (annOf []) l_ref05_rows 20 Try.f96 [.one (.lst (.sl (.int .i64)) l)] [] = some ⟨.one (.row 0), [], [.arr 3 (.int .i64) (rowsM l (gL l 0).length)]⟩ := by
    refine (e_ref05_rows ..).trans ?_
    simp only [ite2_bool, beq_iff_eq]
    have rs := rowsOk_s hok
    by_cases h : (l.length : Int) = 0
    · have : l = [] := List.length_eq_zero_iff.1 (by omega)
      subst this
      rfl
    · rw [if_neg h, if_pos (by simp only [k_ref05_rows_0, hok, decide_true, Bool.true_and, Bool.and_true, decide_eq_true_eq]; omega)]
theorem s_ref05_rows : SoundFun Try.prog 96 G_ref05_rows := by
  refine fun_ok (tab := t_ref05_rows) (ann := annOf []) (lt := l_ref05_rows) tab_nil (by kernel_rfl) (fn := Try.f96) (by kernel_rfl) (by decide) (c := bodyOf Try.f96) (by kernel_rfl) (by
    intro m b hb
    have hb' : b ∈ loopsOf (bodyOf Try.f96) := hb
    rw [o_ref05_rows] at hb'
    simp only [List.mem_cons, List.not_mem_nil, or_false] at hb'
    rcases hb' with rfl | rfl
    · exact loop_ok (key := 5) (by kernel_rfl) rfl r_ref05_rows_0 z_ref05_rows_0 m
    · exact loop_ok (key := 8) (by kernel_rfl) rfl r_ref05_rows_1 z_ref05_rows_1 m
    ) ?_ (keep_nil (by kernel_rfl))
  intro args lent o y0'
  unfold G_ref05_rows at y0'
  obtain ⟨c', args, rfl, y1'⟩ := pO_s y0'
  obtain ⟨l, rfl, y2'⟩ := kLJ_s y1'
  obtain ⟨rfl, y3'⟩ := pE_s y2'
  obtain ⟨rfl, y4'⟩ := nE_s y3'
  have yy' := y4'
  unfold H_ref05_rows at yy'
  obtain ⟨hok, rfl⟩ := Prod.mk.inj (Option.some.inj yy')
  exact ⟨20, q_ref05_rows _ hok⟩
theorem sl_b (j g : Nat) (hj : j < 4096) (hg : g ≤ 4096) : IntKind.wrap .i64 (IntKind.wrap .i64 ((j : Int) + 1) * (g : Int)) = (((j + 1) * g : Nat) : Int) ∧ IntKind.wrap .i64 ((j : Int) * (g : Int)) = ((j * g : Nat) : Int) ∧ ∀ l : List Int, List.take ((j + 1) * g - j * g) (List.drop (j * g) l) = rowAt l g j := by
  have m1 : (j + 1) * g ≤ 4096 * 4096 := Nat.mul_le_mul (by omega) hg
  have m2 : (j + 1) * g = j * g + g := by rw [Nat.add_mul, Nat.one_mul]
  have e1 : ((j : Int) + 1) * (g : Int) = (((j + 1) * g : Nat) : Int) := by rw [Int.natCast_mul]; rfl
  have e2 : (j : Int) * (g : Int) = ((j * g : Nat) : Int) := (Int.natCast_mul ..).symm
  refine ⟨?_, ?_, fun l => ?_⟩
  · rw [wrap_in (n := (j : Int) + 1) (by omega) (by omega), e1, wrap_in (by omega) (by omega)]
  · rw [e2, wrap_in (by omega) (by omega)]
  · rw [show (j + 1) * g - j * g = g by omega]; rfl
theorem sl_in {l g n j : Nat} (hl : l = n * g) (hj : j < n) : (j + 1) * g ≤ l ∧ j * g ≤ (j + 1) * g := by
  have m1 : (j + 1) * g ≤ n * g := Nat.mul_le_mul_right _ (by omega)
  have m2 : (j + 1) * g = j * g + g := by rw [Nat.add_mul, Nat.one_mul]
  omega
theorem bw_bh {a b c d : Int} (h : valid a b c d = true) : bw a b c d 0 = (cev a (c - a)).toNat ∧ bw a b c d 1 = ((c - a) - cev a (c - a)).toNat ∧ bh a b c d 0 = (cev b (d - b)).toNat ∧ bh a b c d 1 = (cev b (d - b)).toNat ∧ bh a b c d 2 = ((d - b) - cev b (d - b)).toNat ∧ bh a b c d 3 = ((d - b) - cev b (d - b)).toNat := by
  have hb := bnd_v h
  simp only [bw, bh, hb.1, hb.2.1, hb.2.2.1, hb.2.2.2, cev]
  refine ⟨?_, ?_, ?_, ?_, ?_, ?_⟩ <;> omega
theorem d_ref05_restore_0 {α : Type} {vs : List V} {bl : List (Option Blk)} {K} {r : α} {Q : Prop} (y0' : D_ref05_restore_0 vs bl K = some r) (hh' : ∀ (a : Int) (b : Int) (c : Int) (d : Int) (a1 : Int) (b1 : Int) (c1 : Int) (d1 : Int) (s : Int) (kk : Int) (g : Int) (x : Int) (l : List Int) (m : List Int) (p : List (List Int)), vs = [.one (.int .i64 s), .one (.int .i64 kk), .one (.ptr 0 0), .one (.ptr 1 0), .one (.int .i64 g), .one (.row 2), .one (.int .i64 x)] → bl = [some (.box [.int .i64 a, .int .i64 b, .int .i64 c, .int .i64 d, .lst (.int .i64) l]), some (.box [.int .i64 a1, .int .i64 b1, .int .i64 c1, .int .i64 d1, .lst (.int .i64) m]), some (.arr 26 (.sl (.int .i64)) p)] → K a b c d a1 b1 c1 d1 s kk g x l m p = some r → Q) : Q := by
  unfold D_ref05_restore_0 at y0'
  obtain ⟨s, vs, rfl, y1'⟩ := pI_s y0'
  obtain ⟨kk, vs, rfl, y2'⟩ := pI_s y1'
  obtain ⟨vs, rfl, y3'⟩ := pP_s y2'
  obtain ⟨vs, rfl, y4'⟩ := pP_s y3'
  obtain ⟨g, vs, rfl, y5'⟩ := pI_s y4'
  obtain ⟨c', vs, rfl, y6'⟩ := pO_s y5'
  obtain ⟨rfl, y7'⟩ := kR_s y6'
  obtain ⟨x, vs, rfl, y8'⟩ := pI_s y7'
  obtain ⟨rfl, y9'⟩ := pE_s y8'
  obtain ⟨q', bl, rfl, y10'⟩ := bB_s y9'
  obtain ⟨a, b, c, d, q', rfl, y11'⟩ := t4_s y10'
  obtain ⟨c', q', rfl, y12'⟩ := tC_s y11'
  obtain ⟨l, rfl, y13'⟩ := kLI_s y12'
  obtain ⟨rfl, y14'⟩ := tE_s y13'
  obtain ⟨q', bl, rfl, y15'⟩ := bB_s y14'
  obtain ⟨a1, b1, c1, d1, q', rfl, y16'⟩ := t4_s y15'
  obtain ⟨c', q', rfl, y17'⟩ := tC_s y16'
  obtain ⟨m, rfl, y18'⟩ := kLI_s y17'
  obtain ⟨rfl, y19'⟩ := tE_s y18'
  obtain ⟨p, bl, rfl, y20'⟩ := bAJ_s y19'
  obtain ⟨rfl, y21'⟩ := bE_s y20'
  have yy' := y21'
  exact hh' _ _ _ _ _ _ _ _ _ _ _ _ _ _ _ rfl rfl yy'
theorem r_ref05_restore_0 : RoundOk Try.prog t_ref05_restore (annOf []) l_ref05_restore Out 20 0 81 [2, 3, 4, 5, 9, 10, 11] (kxOf [10] [8]) (loopOf Try.f84 0) T_ref05_restore_0 := by
  intro vs bl Kc r h
  unfold T_ref05_restore_0 at h
  obtain ⟨t, y0', h'⟩ := getD_run h
  refine d_ref05_restore_0 y0' fun a b c d a1 b1 c1 d1 s kk g x l m p u1' u2' yy' => ?_
  subst u1' u2'
  cases yy'
  exact (b_ref05_restore_0 ..).trans h'
theorem d_ref05_restore_1 {α : Type} {vs : List V} {bl : List (Option Blk)} {K} {r : α} {Q : Prop} (y0' : D_ref05_restore_1 vs bl K = some r) (hh' : ∀ (a : Int) (b : Int) (c : Int) (d : Int) (a1 : Int) (b1 : Int) (c1 : Int) (d1 : Int) (s : Int) (kk : Int) (g : Int) (x : Int) (i : Int) (l : List Int) (m : List Int) (v : List Int) (u : List Int) (p : List (List Int)), vs = [.one (.int .i64 s), .one (.int .i64 kk), .one (.ptr 0 0), .one (.ptr 1 0), .one (.int .i64 g), .one (.row 2), .one (.int .i64 x), .one (.row 3), .one (.row 4), .one (.int .i64 i)] → bl = [some (.box [.int .i64 a, .int .i64 b, .int .i64 c, .int .i64 d, .lst (.int .i64) l]), some (.box [.int .i64 a1, .int .i64 b1, .int .i64 c1, .int .i64 d1, .lst (.int .i64) m]), some (.arr 26 (.sl (.int .i64)) p), some (.arr 3 (.int .i64) v), some (.arr 3 (.int .i64) u)] → K a b c d a1 b1 c1 d1 s kk g x i l m v u p = some r → Q) : Q := by
  unfold D_ref05_restore_1 at y0'
  obtain ⟨s, vs, rfl, y1'⟩ := pI_s y0'
  obtain ⟨kk, vs, rfl, y2'⟩ := pI_s y1'
  obtain ⟨vs, rfl, y3'⟩ := pP_s y2'
  obtain ⟨vs, rfl, y4'⟩ := pP_s y3'
  obtain ⟨g, vs, rfl, y5'⟩ := pI_s y4'
  obtain ⟨c', vs, rfl, y6'⟩ := pO_s y5'
  obtain ⟨rfl, y7'⟩ := kR_s y6'
  obtain ⟨x, vs, rfl, y8'⟩ := pI_s y7'
  obtain ⟨c', vs, rfl, y9'⟩ := pO_s y8'
  obtain ⟨rfl, y10'⟩ := kR_s y9'
  obtain ⟨c', vs, rfl, y11'⟩ := pO_s y10'
  obtain ⟨rfl, y12'⟩ := kR_s y11'
  obtain ⟨i, vs, rfl, y13'⟩ := pI_s y12'
  obtain ⟨rfl, y14'⟩ := pE_s y13'
  obtain ⟨q', bl, rfl, y15'⟩ := bB_s y14'
  obtain ⟨a, b, c, d, q', rfl, y16'⟩ := t4_s y15'
  obtain ⟨c', q', rfl, y17'⟩ := tC_s y16'
  obtain ⟨l, rfl, y18'⟩ := kLI_s y17'
  obtain ⟨rfl, y19'⟩ := tE_s y18'
  obtain ⟨q', bl, rfl, y20'⟩ := bB_s y19'
  obtain ⟨a1, b1, c1, d1, q', rfl, y21'⟩ := t4_s y20'
  obtain ⟨c', q', rfl, y22'⟩ := tC_s y21'
  obtain ⟨m, rfl, y23'⟩ := kLI_s y22'
  obtain ⟨rfl, y24'⟩ := tE_s y23'
  obtain ⟨p, bl, rfl, y25'⟩ := bAJ_s y24'
  obtain ⟨v, bl, rfl, y26'⟩ := bAI_s y25'
  obtain ⟨u, bl, rfl, y27'⟩ := bAI_s y26'
  obtain ⟨rfl, y28'⟩ := bE_s y27'
  have yy' := y28'
  exact hh' _ _ _ _ _ _ _ _ _ _ _ _ _ _ _ _ _ _ rfl rfl yy'
theorem r_ref05_restore_1 : RoundOk Try.prog t_ref05_restore (annOf []) l_ref05_restore Out 20 0 81 [2, 3, 4, 5, 9, 10, 11, 12, 13, 14] (kxOf [2, 3, 4, 5, 9, 10, 11, 12, 13] [8]) (loopOf Try.f84 1) T_ref05_restore_1 := by
  intro vs bl Kc r h
  unfold T_ref05_restore_1 at h
  obtain ⟨t, y0', h'⟩ := getD_run h
  refine d_ref05_restore_1 y0' fun a b c d a1 b1 c1 d1 s kk g x i l m v u p u1' u2' yy' => ?_
  subst u1' u2'
  cases yy'
  exact (b_ref05_restore_1 ..).trans h'
theorem d_ref05_restore_2 {α : Type} {vs : List V} {bl : List (Option Blk)} {K} {r : α} {Q : Prop} (y0' : D_ref05_restore_2 vs bl K = some r) (hh' : ∀ (a : Int) (b : Int) (c : Int) (d : Int) (a1 : Int) (b1 : Int) (c1 : Int) (d1 : Int) (s : Int) (kk : Int) (g : Int) (x : Int) (i : Int) (l : List Int) (m : List Int) (v : List Int) (u : List Int) (p : List (List Int)), vs = [.one (.int .i64 s), .one (.int .i64 kk), .one (.ptr 0 0), .one (.ptr 1 0), .one (.int .i64 g), .one (.row 2), .one (.int .i64 x), .one (.row 3), .one (.row 4), .one (.int .i64 i)] → bl = [some (.box [.int .i64 a, .int .i64 b, .int .i64 c, .int .i64 d, .lst (.int .i64) l]), some (.box [.int .i64 a1, .int .i64 b1, .int .i64 c1, .int .i64 d1, .lst (.int .i64) m]), some (.arr 26 (.sl (.int .i64)) p), some (.arr 3 (.int .i64) v), some (.arr 3 (.int .i64) u)] → K a b c d a1 b1 c1 d1 s kk g x i l m v u p = some r → Q) : Q := by
  unfold D_ref05_restore_2 at y0'
  obtain ⟨s, vs, rfl, y1'⟩ := pI_s y0'
  obtain ⟨kk, vs, rfl, y2'⟩ := pI_s y1'
  obtain ⟨vs, rfl, y3'⟩ := pP_s y2'
  obtain ⟨vs, rfl, y4'⟩ := pP_s y3'
  obtain ⟨g, vs, rfl, y5'⟩ := pI_s y4'
  obtain ⟨c', vs, rfl, y6'⟩ := pO_s y5'
  obtain ⟨rfl, y7'⟩ := kR_s y6'
  obtain ⟨x, vs, rfl, y8'⟩ := pI_s y7'
  obtain ⟨c', vs, rfl, y9'⟩ := pO_s y8'
  obtain ⟨rfl, y10'⟩ := kR_s y9'
  obtain ⟨c', vs, rfl, y11'⟩ := pO_s y10'
  obtain ⟨rfl, y12'⟩ := kR_s y11'
  obtain ⟨i, vs, rfl, y13'⟩ := pI_s y12'
  obtain ⟨rfl, y14'⟩ := pE_s y13'
  obtain ⟨q', bl, rfl, y15'⟩ := bB_s y14'
  obtain ⟨a, b, c, d, q', rfl, y16'⟩ := t4_s y15'
  obtain ⟨c', q', rfl, y17'⟩ := tC_s y16'
  obtain ⟨l, rfl, y18'⟩ := kLI_s y17'
  obtain ⟨rfl, y19'⟩ := tE_s y18'
  obtain ⟨q', bl, rfl, y20'⟩ := bB_s y19'
  obtain ⟨a1, b1, c1, d1, q', rfl, y21'⟩ := t4_s y20'
  obtain ⟨c', q', rfl, y22'⟩ := tC_s y21'
  obtain ⟨m, rfl, y23'⟩ := kLI_s y22'
  obtain ⟨rfl, y24'⟩ := tE_s y23'
  obtain ⟨p, bl, rfl, y25'⟩ := bAJ_s y24'
  obtain ⟨v, bl, rfl, y26'⟩ := bAI_s y25'
  obtain ⟨u, bl, rfl, y27'⟩ := bAI_s y26'
  obtain ⟨rfl, y28'⟩ := bE_s y27'
  have yy' := y28'
  exact hh' _ _ _ _ _ _ _ _ _ _ _ _ _ _ _ _ _ _ rfl rfl yy'
theorem r_ref05_restore_2 : RoundOk Try.prog t_ref05_restore (annOf []) l_ref05_restore Out 20 0 81 [2, 3, 4, 5, 9, 10, 11, 12, 13, 15] (kxOf [2, 3, 4, 5, 9, 10, 11, 12, 13] [8]) (loopOf Try.f84 2) T_ref05_restore_2 := by
  intro vs bl Kc r h
  unfold T_ref05_restore_2 at h
  obtain ⟨t, y0', h'⟩ := getD_run h
  refine d_ref05_restore_2 y0' fun a b c d a1 b1 c1 d1 s kk g x i l m v u p u1' u2' yy' => ?_
  subst u1' u2'
  cases yy'
  exact (b_ref05_restore_2 ..).trans h'
theorem o_ref05_restore : loopsOf (bodyOf Try.f84) = [loopOf Try.f84 0, loopOf Try.f84 1, loopOf Try.f84 2] := by kernel_rfl
theorem zz_ref05_restore_0 (a b c d a1 b1 c1 d1 s kk g x : Int) (l m : List Int) (p : List (List Int)) (hk : k_ref05_restore_0 a b c d a1 b1 c1 d1 s kk g x l m p = true) : ZZ (c_ref05_restore_0 a b c d a1 b1 c1 d1 s kk g x l m p) T_ref05_restore_0 [.one (.int .i64 s), .one (.int .i64 kk), .one (.ptr 0 0), .one (.ptr 1 0), .one (.int .i64 g), .one (.row 2), .one (.int .i64 x)] [some (.box [.int .i64 a, .int .i64 b, .int .i64 c, .int .i64 d, .lst (.int .i64) l]), some (.box [.int .i64 a1, .int .i64 b1, .int .i64 c1, .int .i64 d1, .lst (.int .i64) m]), some (.arr 26 (.sl (.int .i64)) p)] := by
  simp only [k_ref05_restore_0, Bool.and_eq_true, decide_eq_true_eq] at hk
  obtain ⟨⟨⟨rfl, rfl⟩, t1⟩, ⟨⟨⟨⟨⟨⟨⟨⟨v1, v2⟩, z1⟩, z2⟩, f1⟩, f2⟩, t2⟩, z3⟩, t3⟩⟩ := hk
  have pb1 := plV_b v1
  have pb2 := plV_b v2
  obtain ⟨w', hw⟩ : ∃ w' : Nat, c - a = w' := ⟨(c - a).toNat, by omega⟩
  have e5 : (c - a).toNat = w' := by omega
  rw [hw] at t1
  subst t1
  simp only [c_ref05_restore_0, e5]
  refine Exists.elim (z_fold (T := T_ref05_restore_0) (st := fun j => ([.one (.int .i64 s), .one (.int .i64 kk), .one (.ptr 0 0), .one (.ptr 1 0), .one (.int .i64 (w' : Int)), .one (.row 2), .one (.int .i64 (j : Int))], [some (.box [.int .i64 a, .int .i64 b, .int .i64 c, .int .i64 d, .lst (.int .i64) l]), some (.box [.int .i64 a1, .int .i64 b1, .int .i64 c1, .int .i64 d1, .lst (.int .i64) m]), some (.arr 26 (.sl (.int .i64)) (colsL (mgCol l m w' (d - b).toNat (d1 - b1).toNat s kk) j))])) w' (.leaf (.exit 0) [.one (.row 0)] [some (.arr 26 (.sl (.int .i64)) (colsL (mgCol l m w' (d - b).toNat (d1 - b1).toNat s kk) w'))]) (fun j hj F K => ?_) (fun F K => ?_)) (fun k hk => ⟨k, fun K r h => ?_⟩)
  · simp only [tu_ref05_restore_0, U_ref05_restore_0, LT.next, LT.run, ite2_bool, decide_eq_true_eq, Int.toNat_natCast]
    rw [if_pos (by omega), if_pos (by simp only [k_ref05_restore_1, v1, decide_true, Bool.true_and, Bool.and_true, Bool.and_eq_true, decide_eq_true_eq]; omega), if_pos (by simp only [k_ref05_restore_2, v2, decide_true, Bool.true_and, Bool.and_true, Bool.and_eq_true, decide_eq_true_eq]; omega), if_pos (by rw [small_of (by rw [colOf_len]; omega), small_of (by rw [colOf_len]; omega)]; rfl), if_pos (by rw [colsL_len, List.length_singleton]; omega), wrap_in (n := (j : Int) + 1) (by omega) (by omega), show (j : Int) + 1 = ((j + 1 : Nat) : Int) by omega, colsL_succ, t2, e5]
    rfl
  · simp only [tu_ref05_restore_0, U_ref05_restore_0, LT.next, LT.run, ite2_bool, decide_eq_true_eq]
    rw [if_neg (by omega)]
  · exact hk K r h
theorem z_ref05_restore_0 : ZOk S_ref05_restore_0 T_ref05_restore_0 := by
  intro vs bl t y0'
  refine d_ref05_restore_0 y0' fun a b c d a1 b1 c1 d1 s kk g x l m p u1' u2' yy' => ?_
  subst u1' u2'
  obtain ⟨hk, rfl⟩ := Prod.mk.inj (Option.some.inj yy')
  exact zz_ref05_restore_0 _ _ _ _ _ _ _ _ _ _ _ _ _ _ _ hk
theorem zz_ref05_restore_1 (a b c d a1 b1 c1 d1 s kk g x i : Int) (l m v u : List Int) (p : List (List Int)) (hk : k_ref05_restore_1 a b c d a1 b1 c1 d1 s kk g x i l m v u p = true) : ZZ (c_ref05_restore_1 a b c d a1 b1 c1 d1 s kk g x i l m v u p) T_ref05_restore_1 [.one (.int .i64 s), .one (.int .i64 kk), .one (.ptr 0 0), .one (.ptr 1 0), .one (.int .i64 g), .one (.row 2), .one (.int .i64 x), .one (.row 3), .one (.row 4), .one (.int .i64 i)] [some (.box [.int .i64 a, .int .i64 b, .int .i64 c, .int .i64 d, .lst (.int .i64) l]), some (.box [.int .i64 a1, .int .i64 b1, .int .i64 c1, .int .i64 d1, .lst (.int .i64) m]), some (.arr 26 (.sl (.int .i64)) p), some (.arr 3 (.int .i64) v), some (.arr 3 (.int .i64) u)] := by
  simp only [k_ref05_restore_1, Bool.and_eq_true, decide_eq_true_eq] at hk
  obtain ⟨⟨⟨⟨⟨t1, rfl⟩, h0⟩, h1⟩, t2⟩, hv⟩ := hk
  have pb := plV_b hv
  obtain ⟨x', rfl⟩ : ∃ x' : Nat, x = x' := ⟨x.toNat, by omega⟩
  obtain ⟨w', hw⟩ : ∃ w' : Nat, c - a = w' := ⟨(c - a).toNat, by omega⟩
  have e5 : (c - a).toNat = w' := by omega
  rw [hw] at t2
  subst t2
  refine Exists.elim (z_fold (T := T_ref05_restore_1) (st := fun j => ([.one (.int .i64 s), .one (.int .i64 kk), .one (.ptr 0 0), .one (.ptr 1 0), .one (.int .i64 (w' : Int)), .one (.row 2), .one (.int .i64 (x' : Int)), .one (.row 3), .one (.row 4), .one (.int .i64 ((j * w' + x' : Nat) : Int))], [some (.box [.int .i64 a, .int .i64 b, .int .i64 c, .int .i64 d, .lst (.int .i64) l]), some (.box [.int .i64 a1, .int .i64 b1, .int .i64 c1, .int .i64 d1, .lst (.int .i64) m]), some (.arr 26 (.sl (.int .i64)) p), some (.arr 3 (.int .i64) (colOf l w' x' j)), some (.arr 3 (.int .i64) u)])) (d - b).toNat (.leaf (.exit 2) [.one (.int .i64 s), .one (.int .i64 kk), .one (.ptr 0 0), .one (.ptr 1 0), .one (.int .i64 (w' : Int)), .one (.row 2), .one (.int .i64 (x' : Int)), .one (.row 3), .one (.row 4)] [some (.box [.int .i64 a, .int .i64 b, .int .i64 c, .int .i64 d, .lst (.int .i64) l]), some (.box [.int .i64 a1, .int .i64 b1, .int .i64 c1, .int .i64 d1, .lst (.int .i64) m]), some (.arr 26 (.sl (.int .i64)) p), some (.arr 3 (.int .i64) (colOf l w' x' (d - b).toNat)), some (.arr 3 (.int .i64) u)]) (fun j hj F K => ?_) (fun F K => ?_)) (fun k hk => ⟨k, fun K r h => ?_⟩)
  · have ib := idx_b (i := (j : Int)) (w := c - a) (h := d - b) (by omega) (by omega) (by omega)
    rw [hw] at ib pb
    have e1 : ((j * w' + x' : Nat) : Int) = (j : Int) * w' + x' := by simp
    have hlt : ((j * w' + x' : Nat) : Int) < (l.length : Int) := by omega
    have hle : (colOf l w' x' j).length = j := colOf_len ..
    have e3 : ((j * w' + x' : Nat) : Int) + (w' : Int) = (((j + 1) * w' + x' : Nat) : Int) := by
      rw [Nat.add_mul, Nat.one_mul]; simp; omega
    simp only [tu_ref05_restore_1, U_ref05_restore_1, LT.next, LT.run, ite2_bool, decide_eq_true_eq, Int.toNat_natCast]
    rw [if_pos hlt, if_pos ⟨by omega, hlt⟩, if_pos (by rw [List.length_singleton]; omega), wrap_in (n := ((j * w' + x' : Nat) : Int) + (w' : Int)) (by omega) (by omega), e3, colOf_succ]
  · have hge : ¬ ((((d - b).toNat * w' + x' : Nat) : Int) < (l.length : Int)) := by
      have : (((d - b).toNat * w' + x' : Nat) : Int) = (w' : Int) * (d - b) + x' := by
        rw [Int.natCast_add, Int.natCast_mul, Int.toNat_of_nonneg (by omega), Int.mul_comm]
      rw [this, pb.2.2.1, hw]
      omega
    simp only [tu_ref05_restore_1, U_ref05_restore_1, LT.next, LT.run, ite2_bool, decide_eq_true_eq]
    rw [if_neg hge]
  · unfold c_ref05_restore_1 at h
    rw [e5, Int.toNat_natCast] at h
    have hk' := hk K r h
    rw [show colOf l w' x' 0 = [] from rfl, show ((0 * w' + x' : Nat) : Int) = i by rw [t1]; simp] at hk'
    exact hk'
theorem z_ref05_restore_1 : ZOk S_ref05_restore_1 T_ref05_restore_1 := by
  intro vs bl t y0'
  refine d_ref05_restore_1 y0' fun a b c d a1 b1 c1 d1 s kk g x i l m v u p u1' u2' yy' => ?_
  subst u1' u2'
  obtain ⟨hk, rfl⟩ := Prod.mk.inj (Option.some.inj yy')
  exact zz_ref05_restore_1 _ _ _ _ _ _ _ _ _ _ _ _ _ _ _ _ _ _ hk
theorem zz_ref05_restore_2 (a b c d a1 b1 c1 d1 s kk g x i : Int) (l m v u : List Int) (p : List (List Int)) (hk : k_ref05_restore_2 a b c d a1 b1 c1 d1 s kk g x i l m v u p = true) : ZZ (c_ref05_restore_2 a b c d a1 b1 c1 d1 s kk g x i l m v u p) T_ref05_restore_2 [.one (.int .i64 s), .one (.int .i64 kk), .one (.ptr 0 0), .one (.ptr 1 0), .one (.int .i64 g), .one (.row 2), .one (.int .i64 x), .one (.row 3), .one (.row 4), .one (.int .i64 i)] [some (.box [.int .i64 a, .int .i64 b, .int .i64 c, .int .i64 d, .lst (.int .i64) l]), some (.box [.int .i64 a1, .int .i64 b1, .int .i64 c1, .int .i64 d1, .lst (.int .i64) m]), some (.arr 26 (.sl (.int .i64)) p), some (.arr 3 (.int .i64) v), some (.arr 3 (.int .i64) u)] := by
  simp only [k_ref05_restore_2, Bool.and_eq_true, decide_eq_true_eq] at hk
  obtain ⟨⟨⟨⟨⟨t1, rfl⟩, h0⟩, h1⟩, t2⟩, hv⟩ := hk
  have pb := plV_b hv
  obtain ⟨x', rfl⟩ : ∃ x' : Nat, x = x' := ⟨x.toNat, by omega⟩
  obtain ⟨w', hw⟩ : ∃ w' : Nat, c1 - a1 = w' := ⟨(c1 - a1).toNat, by omega⟩
  have e5 : (c1 - a1).toNat = w' := by omega
  rw [hw] at t2
  subst t2
  refine Exists.elim (z_fold (T := T_ref05_restore_2) (st := fun j => ([.one (.int .i64 s), .one (.int .i64 kk), .one (.ptr 0 0), .one (.ptr 1 0), .one (.int .i64 (w' : Int)), .one (.row 2), .one (.int .i64 (x' : Int)), .one (.row 3), .one (.row 4), .one (.int .i64 ((j * w' + x' : Nat) : Int))], [some (.box [.int .i64 a, .int .i64 b, .int .i64 c, .int .i64 d, .lst (.int .i64) l]), some (.box [.int .i64 a1, .int .i64 b1, .int .i64 c1, .int .i64 d1, .lst (.int .i64) m]), some (.arr 26 (.sl (.int .i64)) p), some (.arr 3 (.int .i64) v), some (.arr 3 (.int .i64) (colOf m w' x' j))])) (d1 - b1).toNat (.leaf (.exit 4) [.one (.int .i64 s), .one (.int .i64 kk), .one (.ptr 0 0), .one (.ptr 1 0), .one (.int .i64 (w' : Int)), .one (.row 2), .one (.int .i64 (x' : Int)), .one (.row 3), .one (.row 4)] [some (.box [.int .i64 a, .int .i64 b, .int .i64 c, .int .i64 d, .lst (.int .i64) l]), some (.box [.int .i64 a1, .int .i64 b1, .int .i64 c1, .int .i64 d1, .lst (.int .i64) m]), some (.arr 26 (.sl (.int .i64)) p), some (.arr 3 (.int .i64) v), some (.arr 3 (.int .i64) (colOf m w' x' (d1 - b1).toNat))]) (fun j hj F K => ?_) (fun F K => ?_)) (fun k hk => ⟨k, fun K r h => ?_⟩)
  · have ib := idx_b (i := (j : Int)) (w := c1 - a1) (h := d1 - b1) (by omega) (by omega) (by omega)
    rw [hw] at ib pb
    have e1 : ((j * w' + x' : Nat) : Int) = (j : Int) * w' + x' := by simp
    have hlt : ((j * w' + x' : Nat) : Int) < (m.length : Int) := by omega
    have hle : (colOf m w' x' j).length = j := colOf_len ..
    have e3 : ((j * w' + x' : Nat) : Int) + (w' : Int) = (((j + 1) * w' + x' : Nat) : Int) := by
      rw [Nat.add_mul, Nat.one_mul]; simp; omega
    simp only [tu_ref05_restore_2, U_ref05_restore_2, LT.next, LT.run, ite2_bool, decide_eq_true_eq, Int.toNat_natCast]
    rw [if_pos hlt, if_pos ⟨by omega, hlt⟩, if_pos (by rw [List.length_singleton]; omega), wrap_in (n := ((j * w' + x' : Nat) : Int) + (w' : Int)) (by omega) (by omega), e3, colOf_succ]
  · have hge : ¬ ((((d1 - b1).toNat * w' + x' : Nat) : Int) < (m.length : Int)) := by
      have : (((d1 - b1).toNat * w' + x' : Nat) : Int) = (w' : Int) * (d1 - b1) + x' := by
        rw [Int.natCast_add, Int.natCast_mul, Int.toNat_of_nonneg (by omega), Int.mul_comm]
      rw [this, pb.2.2.1, hw]
      omega
    simp only [tu_ref05_restore_2, U_ref05_restore_2, LT.next, LT.run, ite2_bool, decide_eq_true_eq]
    rw [if_neg hge]
  · unfold c_ref05_restore_2 at h
    rw [e5, Int.toNat_natCast] at h
    have hk' := hk K r h
    rw [show colOf m w' x' 0 = [] from rfl, show ((0 * w' + x' : Nat) : Int) = i by rw [t1]; simp] at hk'
    exact hk'
theorem z_ref05_restore_2 : ZOk S_ref05_restore_2 T_ref05_restore_2 := by
  intro vs bl t y0'
  refine d_ref05_restore_2 y0' fun a b c d a1 b1 c1 d1 s kk g x i l m v u p u1' u2' yy' => ?_
  subst u1' u2'
  obtain ⟨hk, rfl⟩ := Prod.mk.inj (Option.some.inj yy')
  exact zz_ref05_restore_2 _ _ _ _ _ _ _ _ _ _ _ _ _ _ _ _ _ _ hk
theorem q_ref05_restore (a b c d a1 b1 c1 d1 s k : Int) (l m : List Int) (hok : (plV a b c d l && plV a1 b1 c1 d1 m && inr 1 3 k && inr 0 4096 s && fitB 281474976710656 l && fitB 281474976710656 m && decide (c1 - a1 = c - a) && inr 0 4096 ((d - b) + (d1 - b1)) && decide (d - b = cev s ((d - b) + (d1 - b1)))) = true) : funR Try.prog t_ref05_restore (annOf []) l_ref05_restore 20 Try.f84 [.agg [.int .i64 a, .int .i64 b, .int .i64 c, .int .i64 d, .lst (.int .i64) l], .agg [.int .i64 a1, .int .i64 b1, .int .i64 c1, .int .i64 d1, .lst (.int .i64) m], .one (.int .i64 s), .one (.int .i64 k)] [] = some ⟨.one (.row 0), [], [.arr 3 (.int .i64) (matC ((d - b) + (d1 - b1)).toNat (c - a).toNat (mgCol l m (c - a).toNat (d - b).toNat (d1 - b1).toNat s k))]⟩ := by
    refine (e_ref05_restore ..).trans ?_
    have hok' := hok
    simp only [Bool.and_eq_true, decide_eq_true_eq] at hok'
    obtain ⟨⟨⟨⟨⟨⟨⟨⟨v1, v2⟩, z1⟩, z2⟩, f1⟩, f2⟩, t2⟩, z3⟩, t3⟩ := hok'
    have pb1 := plV_b v1
    have pb2 := plV_b v2
    have z3' := inr_b z3
    have hc := fun x => mgCol_ok (l := l) (l' := m) (g := (c - a).toNat) (n := (d - b).toNat) (n' := (d1 - b1).toNat) z1 z2 z3' (by omega) (by omega) (fitB_fit f1) (fitB_fit f2) x
    have rr := rows_cols (f := mgCol l m (c - a).toNat (d - b).toNat (d1 - b1).toNat s k) (g := (c - a).toNat) (m := ((d - b) + (d1 - b1)).toNat) (by omega) (by omega) (fun x hx => by have := (hc x).2.1; omega)
    simp only [ite2_bool]
    rw [wrap_in (n := c - a) (by omega) (by omega), if_pos (by simp only [k_ref05_restore_0, v1, v2, z1, z2, f1, f2, z3, decide_true, Bool.true_and, Bool.and_true, Bool.and_eq_true, decide_eq_true_eq]; exact ⟨t2, t3⟩), rr.1, rr.2]
    rfl
theorem s_ref05_restore : SoundFun Try.prog 84 G_ref05_restore := by
  refine fun_ok (tab := t_ref05_restore) (ann := annOf []) (lt := l_ref05_restore) (tab_cons s_ref04_Inverse (tab_cons s_ref05_rows tab_nil)) (by kernel_rfl) (fn := Try.f84) (by kernel_rfl) (by decide) (c := bodyOf Try.f84) (by kernel_rfl) (by
    intro m b hb
    have hb' : b ∈ loopsOf (bodyOf Try.f84) := hb
    rw [o_ref05_restore] at hb'
    simp only [List.mem_cons, List.not_mem_nil, or_false] at hb'
    rcases hb' with rfl | rfl | rfl
    · exact loop_ok (key := 4) (by kernel_rfl) rfl r_ref05_restore_0 z_ref05_restore_0 m
    · exact loop_ok (key := 8) (by kernel_rfl) rfl r_ref05_restore_1 z_ref05_restore_1 m
    · exact loop_ok (key := 12) (by kernel_rfl) rfl r_ref05_restore_2 z_ref05_restore_2 m
    ) ?_ (keep_nil (by kernel_rfl))
  intro args lent o y0'
  unfold G_ref05_restore at y0'
  obtain ⟨q', args, rfl, y1'⟩ := pA_s y0'
  obtain ⟨a, b, c, d, q', rfl, y2'⟩ := t4_s y1'
  obtain ⟨c', q', rfl, y3'⟩ := tC_s y2'
  obtain ⟨l, rfl, y4'⟩ := kLI_s y3'
  obtain ⟨rfl, y5'⟩ := tE_s y4'
  obtain ⟨q', args, rfl, y6'⟩ := pA_s y5'
  obtain ⟨a1, b1, c1, d1, q', rfl, y7'⟩ := t4_s y6'
  obtain ⟨c', q', rfl, y8'⟩ := tC_s y7'
  obtain ⟨m, rfl, y9'⟩ := kLI_s y8'
  obtain ⟨rfl, y10'⟩ := tE_s y9'
  obtain ⟨s, args, rfl, y11'⟩ := pI_s y10'
  obtain ⟨k, args, rfl, y12'⟩ := pI_s y11'
  obtain ⟨rfl, y13'⟩ := pE_s y12'
  obtain ⟨rfl, y14'⟩ := nE_s y13'
  have yy' := y14'
  unfold H_ref05_restore at yy'
  obtain ⟨hok, rfl⟩ := Prod.mk.inj (Option.some.inj yy')
  exact ⟨20, q_ref05_restore _ _ _ _ _ _ _ _ _ _ _ _ hok⟩
theorem d_ref05_Merge_2 {α : Type} {vs : List V} {bl : List (Option Blk)} {K} {r : α} {Q : Prop} (y0' : D_ref05_Merge_2 vs bl K = some r) (hh' : ∀ (kk : Int) (a : Int) (b : Int) (c : Int) (d : Int) (za : Int) (zb : Int) (zc : Int) (zd : Int) (g0 : Int) (g1 : Int) (oa : Int) (ob : Int) (oc : Int) (od : Int) (y : Int) (h0 : List Int) (h1 : List Int) (y0 : List Int) (v : List Int), vs = [.one (.int .i64 kk), .one (.ptr 0 0), .one (.ptr 1 0), .one (.row 2), .one (.row 3), .one (.int .i64 g0), .one (.int .i64 g1), .one (.ptr 4 0), .one (.int .i64 y)] → bl = [some (.box [.int .i64 a, .int .i64 b, .int .i64 c, .int .i64 d]), some (.box [.int .i64 za, .int .i64 zb, .int .i64 zc, .int .i64 zd, .row 5]), some (.arr 3 (.int .i64) h0), some (.arr 3 (.int .i64) h1), some (.box [.int .i64 oa, .int .i64 ob, .int .i64 oc, .int .i64 od, .row 6]), some (.arr 3 (.int .i64) y0), some (.arr 3 (.int .i64) v)] → K kk a b c d za zb zc zd g0 g1 oa ob oc od y h0 h1 y0 v = some r → Q) : Q := by
  unfold D_ref05_Merge_2 at y0'
  obtain ⟨kk, vs, rfl, y1'⟩ := pI_s y0'
  obtain ⟨vs, rfl, y2'⟩ := pP_s y1'
  obtain ⟨vs, rfl, y3'⟩ := pP_s y2'
  obtain ⟨c', vs, rfl, y4'⟩ := pO_s y3'
  obtain ⟨rfl, y5'⟩ := kR_s y4'
  obtain ⟨c', vs, rfl, y6'⟩ := pO_s y5'
  obtain ⟨rfl, y7'⟩ := kR_s y6'
  obtain ⟨g0, vs, rfl, y8'⟩ := pI_s y7'
  obtain ⟨g1, vs, rfl, y9'⟩ := pI_s y8'
  obtain ⟨vs, rfl, y10'⟩ := pP_s y9'
  obtain ⟨y, vs, rfl, y11'⟩ := pI_s y10'
  obtain ⟨rfl, y12'⟩ := pE_s y11'
  obtain ⟨q', bl, rfl, y13'⟩ := bB_s y12'
  obtain ⟨a, b, c, d, q', rfl, y14'⟩ := t4_s y13'
  obtain ⟨rfl, y15'⟩ := tE_s y14'
  obtain ⟨q', bl, rfl, y16'⟩ := bB_s y15'
  obtain ⟨za, zb, zc, zd, rfl, y17'⟩ := rd1P_s y16'
  obtain ⟨h0, bl, rfl, y18'⟩ := bAI_s y17'
  obtain ⟨h1, bl, rfl, y19'⟩ := bAI_s y18'
  obtain ⟨q', bl, rfl, y20'⟩ := bB_s y19'
  obtain ⟨oa, ob, oc, od, rfl, y21'⟩ := rd1P_s y20'
  obtain ⟨y0, bl, rfl, y22'⟩ := bAI_s y21'
  obtain ⟨v, bl, rfl, y23'⟩ := bAI_s y22'
  obtain ⟨rfl, y24'⟩ := bE_s y23'
  have yy' := y24'
  exact hh' _ _ _ _ _ _ _ _ _ _ _ _ _ _ _ _ _ _ _ _ rfl rfl yy'
theorem r_ref05_Merge_2 : RoundOk Try.prog t_ref05_Merge (annOf []) l_ref05_Merge Out 20 0 137 [2, 4, 6, 11, 12, 13, 14, 15, 16] (kxOf [6, 15] [6, 7]) (loopOf Try.f64 2) T_ref05_Merge_2 := by
  intro vs bl Kc r h
  unfold T_ref05_Merge_2 at h
  obtain ⟨t, y0', h'⟩ := getD_run h
  refine d_ref05_Merge_2 y0' fun kk a b c d za zb zc zd g0 g1 oa ob oc od y h0 h1 y0 v u1' u2' yy' => ?_
  subst u1' u2'
  cases yy'
  exact (b_ref05_Merge_2 ..).trans h'
theorem o_ref05_Merge : loopsOf (bodyOf Try.f64) = [loopOf Try.f64 0, loopOf Try.f64 1, loopOf Try.f64 2] := by kernel_rfl
theorem zz_ref05_Merge_2 (kk a b c d za zb zc zd g0 g1 oa ob oc od y : Int) (h0 h1 y0 v : List Int) (hk : k_ref05_Merge_2 kk a b c d za zb zc zd g0 g1 oa ob oc od y h0 h1 y0 v = true) : ZZ (c_ref05_Merge_2 kk a b c d za zb zc zd g0 g1 oa ob oc od y h0 h1 y0 v) T_ref05_Merge_2 [.one (.int .i64 kk), .one (.ptr 0 0), .one (.ptr 1 0), .one (.row 2), .one (.row 3), .one (.int .i64 g0), .one (.int .i64 g1), .one (.ptr 4 0), .one (.int .i64 y)] [some (.box [.int .i64 a, .int .i64 b, .int .i64 c, .int .i64 d]), some (.box [.int .i64 za, .int .i64 zb, .int .i64 zc, .int .i64 zd, .row 5]), some (.arr 3 (.int .i64) h0), some (.arr 3 (.int .i64) h1), some (.box [.int .i64 oa, .int .i64 ob, .int .i64 oc, .int .i64 od, .row 6]), some (.arr 3 (.int .i64) y0), some (.arr 3 (.int .i64) v)] := by
  simp only [k_ref05_Merge_2, Bool.and_eq_true, decide_eq_true_eq] at hk
  obtain ⟨⟨⟨⟨⟨⟨⟨⟨⟨⟨⟨rfl, rfl⟩, z1⟩, z2⟩, z3⟩, f1⟩, f2⟩, z4⟩, t1⟩, t2⟩, t3⟩, t4⟩ := hk
  have vb := valid_b z3
  have z4' := inr_b z4
  have ce := cev_bd (s := a) (n := c - a) (by omega)
  obtain ⟨n', hn⟩ : ∃ n' : Nat, d - b = n' := ⟨(d - b).toNat, by omega⟩
  obtain ⟨p', hp⟩ : ∃ p' : Nat, g0 = p' := ⟨g0.toNat, by omega⟩
  obtain ⟨q', hq⟩ : ∃ q' : Nat, g1 = q' := ⟨g1.toNat, by omega⟩
  subst hp hq
  have e6 : (d - b).toNat = n' := by omega
  have l0 : h0.length = n' * p' := by rw [hn] at t3; rw [Nat.mul_comm]; exact_mod_cast t3
  have l1 : h1.length = n' * q' := by rw [hn] at t4; rw [Nat.mul_comm]; exact_mod_cast t4
  have hr := fun j (hj : j < n') => iv_good z1 z2 (n := c - a) (by omega) (p := rowAt h0 p' j) (q := rowAt h1 q' j) (by rw [rowAt_len l0 hj, t1]) (by rw [rowAt_len l1 hj, t2]) (fit_row (fitB_fit f1) _ _) (fit_row (fitB_fit f2) _ _)
  have hl := fun j (hj : j ≤ n') => catR_len (f := mgRow h0 h1 p' q' a kk) (g := (c - a).toNat) j (fun q hq => by have := (hr q (by omega)).2.1; unfold mgRow; omega)
  simp only [c_ref05_Merge_2, Int.toNat_natCast, e6]
  refine Exists.elim (z_fold (T := T_ref05_Merge_2) (st := fun j => ([.one (.int .i64 kk), .one (.ptr 0 0), .one (.ptr 1 0), .one (.row 2), .one (.row 3), .one (.int .i64 (p' : Int)), .one (.int .i64 (q' : Int)), .one (.ptr 4 0), .one (.int .i64 (j : Int))], [some (.box [.int .i64 a, .int .i64 b, .int .i64 c, .int .i64 d]), some (.box [.int .i64 za, .int .i64 zb, .int .i64 zc, .int .i64 zd, .row 5]), some (.arr 3 (.int .i64) h0), some (.arr 3 (.int .i64) h1), some (.box [.int .i64 oa, .int .i64 ob, .int .i64 oc, .int .i64 od, .row 6]), some (.arr 3 (.int .i64) y0), some (.arr 3 (.int .i64) (catR (mgRow h0 h1 p' q' a kk) j))])) n' (.leaf (.exit 4) [.one (.ptr 0 0), .one (.ptr 1 0)] [some (.box [.int .i64 za, .int .i64 zb, .int .i64 zc, .int .i64 zd, .row 2]), some (.box [.int .i64 oa, .int .i64 ob, .int .i64 oc, .int .i64 od, .row 3]), some (.arr 3 (.int .i64) y0), some (.arr 3 (.int .i64) (catR (mgRow h0 h1 p' q' a kk) n'))]) (fun j hj F K => ?_) (fun F K => ?_)) (fun k hk => ⟨k, fun K r h => ?_⟩)
  · have hl1 := hl j (by omega)
    have hl2 := hl (j + 1) (by omega)
    have m1 : (j + 1) * (c - a).toNat ≤ 4096 * 4096 := Nat.mul_le_mul (by omega) (by omega)
    have s0 := sl_b j p' (by omega) (by omega)
    have s1 := sl_b j q' (by omega) (by omega)
    have i0 := sl_in l0 hj
    have i1 := sl_in l1 hj
    have r0 := rowAt_len l0 hj
    have r1 := rowAt_len l1 hj
    simp only [catR, List.length_append] at hl2
    have m9 : (iv (rowAt h0 p' j) (rowAt h1 q' j) a kk).1 = mgRow h0 h1 p' q' a kk j := rfl
    simp only [tu_ref05_Merge_2, U_ref05_Merge_2, LT.next, LT.run, ite2_bool, decide_eq_true_eq, s0.1, s0.2.1, s0.2.2, s1.1, s1.2.1, s1.2.2, Int.toNat_natCast, m9, Bool.and_eq_true]
    rw [wrap_in (n := d - b) (by omega) (by omega), if_pos (by omega), if_pos (by omega), if_pos (by omega), if_pos ⟨small_of (by omega), small_of (by omega)⟩, if_pos (by omega), wrap_in (n := (j : Int) + 1) (by omega) (by omega), show (j : Int) + 1 = ((j + 1 : Nat) : Int) by omega]
    rfl
  · simp only [tu_ref05_Merge_2, U_ref05_Merge_2, LT.next, LT.run, ite2_bool, decide_eq_true_eq]
    rw [wrap_in (n := d - b) (by omega) (by omega), if_neg (by omega)]
  · exact hk K r h
theorem z_ref05_Merge_2 : ZOk S_ref05_Merge_2 T_ref05_Merge_2 := by
  intro vs bl t y0'
  refine d_ref05_Merge_2 y0' fun kk a b c d za zb zc zd g0 g1 oa ob oc od y h0 h1 y0 v u1' u2' yy' => ?_
  subst u1' u2'
  obtain ⟨hk, rfl⟩ := Prod.mk.inj (Option.some.inj yy')
  exact zz_ref05_Merge_2 _ _ _ _ _ _ _ _ _ _ _ _ _ _ _ _ _ _ _ _ hk
theorem q_ref05_Merge (a0 b0 c0 d0 a1 b1 c1 d1 a2 b2 c2 d2 a3 b3 c3 d3 a b c d k : Int) (l0 l1 l2 l3 : List Int) (hok : (small l0.length && small l1.length && small l2.length && small l3.length) = true) : funR Try.prog t_ref05_Merge (annOf []) l_ref05_Merge 20 Try.f64 [.agg [.int .i64 a0, .int .i64 b0, .int .i64 c0, .int .i64 d0, .lst (.int .i64) l0, .int .i64 a1, .int .i64 b1, .int .i64 c1, .int .i64 d1, .lst (.int .i64) l1, .int .i64 a2, .int .i64 b2, .int .i64 c2, .int .i64 d2, .lst (.int .i64) l2, .int .i64 a3, .int .i64 b3, .int .i64 c3, .int .i64 d3, .lst (.int .i64) l3], .agg [.int .i64 a, .int .i64 b, .int .i64 c, .int .i64 d], .one (.int .i64 k)] [] = some ⟨.tup [(true, [.int .i64 ((mgR (mgErr a0 b0 c0 d0 a1 b1 c1 d1 a2 b2 c2 d2 a3 b3 c3 d3 a b c d k l0 l1 l2 l3) a b c d).1), .int .i64 ((mgR (mgErr a0 b0 c0 d0 a1 b1 c1 d1 a2 b2 c2 d2 a3 b3 c3 d3 a b c d k l0 l1 l2 l3) a b c d).2.1), .int .i64 ((mgR (mgErr a0 b0 c0 d0 a1 b1 c1 d1 a2 b2 c2 d2 a3 b3 c3 d3 a b c d k l0 l1 l2 l3) a b c d).2.2.1), .int .i64 ((mgR (mgErr a0 b0 c0 d0 a1 b1 c1 d1 a2 b2 c2 d2 a3 b3 c3 d3 a b c d k l0 l1 l2 l3) a b c d).2.2.2), .row 0]), (false, [.int .i64 (mgErr a0 b0 c0 d0 a1 b1 c1 d1 a2 b2 c2 d2 a3 b3 c3 d3 a b c d k l0 l1 l2 l3)])], [], [.arr 3 (.int .i64) (mgL (mgErr a0 b0 c0 d0 a1 b1 c1 d1 a2 b2 c2 d2 a3 b3 c3 d3 a b c d k l0 l1 l2 l3) a b c d k l0 l1 l2 l3)]⟩ := by
    refine (e_ref05_Merge ..).trans ?_
    simp only [ite2_bool]
    have hR : ∀ (a b c d : Int) (r : Rc), (a == r.1 && (b == r.2.1 && (c == r.2.2.1 && (d == r.2.2.2 && true)))) = isR a b c d r := fun _ _ _ _ _ => rfl
    simp only [hR]
    simp only [Bool.and_eq_true] at hok
    obtain ⟨⟨⟨o0, o1⟩, o2⟩, o3⟩ := hok
    simp only [o0, o1, o2, o3, Bool.and_true, if_true]
    cases z0 : valid a b c d
    · simp [mgErr, mgR, mgL, z0]
    cases z1 : decide (area a b c d > 1048576)
    rotate_left
    · simp [mgErr, mgR, mgL, z0, z1]
    cases z2 : inr 1 3 k
    · simp [mgErr, mgR, mgL, z0, z1, z2]
    cases r0' : isR a0 b0 c0 d0 (bnd a b c d 0)
    · simp [mgErr, mgR, mgL, z0, z1, z2, r0']
    cases p0' : plV a0 b0 c0 d0 l0
    · simp [mgErr, mgR, mgL, z0, z1, z2, r0', p0']
    cases r1' : isR a1 b1 c1 d1 (bnd a b c d 1)
    · simp [mgErr, mgR, mgL, z0, z1, z2, r0', p0', r1']
    cases p1' : plV a1 b1 c1 d1 l1
    · simp [mgErr, mgR, mgL, z0, z1, z2, r0', p0', r1', p1']
    cases r2' : isR a2 b2 c2 d2 (bnd a b c d 2)
    · simp [mgErr, mgR, mgL, z0, z1, z2, r0', p0', r1', p1', r2']
    cases p2' : plV a2 b2 c2 d2 l2
    · simp [mgErr, mgR, mgL, z0, z1, z2, r0', p0', r1', p1', r2', p2']
    cases r3' : isR a3 b3 c3 d3 (bnd a b c d 3)
    · simp [mgErr, mgR, mgL, z0, z1, z2, r0', p0', r1', p1', r2', p2', r3']
    cases p3' : plV a3 b3 c3 d3 l3
    · simp [mgErr, mgR, mgL, z0, z1, z2, r0', p0', r1', p1', r2', p2', r3', p3']
    cases g0 : fitB 281474976710656 l0
    · simp [mgErr, mgR, mgL, z0, z1, z2, r0', p0', r1', p1', r2', p2', r3', p3', g0]
    cases g1 : fitB 281474976710656 l1
    · simp [mgErr, mgR, mgL, z0, z1, z2, r0', p0', r1', p1', r2', p2', r3', p3', g0, g1]
    cases g2 : fitB 281474976710656 l2
    · simp [mgErr, mgR, mgL, z0, z1, z2, r0', p0', r1', p1', r2', p2', r3', p3', g0, g1, g2]
    cases g3 : fitB 281474976710656 l3
    · simp [mgErr, mgR, mgL, z0, z1, z2, r0', p0', r1', p1', r2', p2', r3', p3', g0, g1, g2, g3]
    have e : mgErr a0 b0 c0 d0 a1 b1 c1 d1 a2 b2 c2 d2 a3 b3 c3 d3 a b c d k l0 l1 l2 l3 = 0 := by simp [mgErr, z0, z1, z2, r0', p0', r1', p1', r2', p2', r3', p3', g0, g1, g2, g3]
    rw [e]
    simp only [Bool.not_true, Bool.false_eq_true, if_false]
    obtain ⟨rfl, rfl, rfl, rfl⟩ := isR_s r0'
    obtain ⟨rfl, rfl, rfl, rfl⟩ := isR_s r1'
    obtain ⟨rfl, rfl, rfl, rfl⟩ := isR_s r2'
    obtain ⟨rfl, rfl, rfl, rfl⟩ := isR_s r3'
    have hb := bnd_v z0
    have ab := valid_b z0
    have hb0 := hb.1
    have hb1 := hb.2.1
    have hb2 := hb.2.2.1
    have hb3 := hb.2.2.2
    have hs : inr 0 4096 b = true := inr_t (by omega) (by omega)
    have ha : inr 0 4096 a = true := inr_t (by omega) (by omega)
    have hn : inr 0 4096 (d - b) = true := inr_t (by omega) (by omega)
    have hw : inr 0 4096 (c - a) = true := inr_t (by omega) (by omega)
    have ce := cev_bd (s := a) (n := c - a) (by omega)
    have cf := cev_bd (s := b) (n := d - b) (by omega)
    have x0 : ((bnd a b c d 0).2.2.1 - (bnd a b c d 0).1) = cev a (c - a) := by simp only [hb0, cev]; omega
    have x1 : ((bnd a b c d 1).2.2.1 - (bnd a b c d 1).1) = (c - a) - cev a (c - a) := by simp only [hb1, cev]; omega
    have x2 : ((bnd a b c d 2).2.2.1 - (bnd a b c d 2).1) = ((bnd a b c d 0).2.2.1 - (bnd a b c d 0).1) := by simp only [hb2, hb0]
    have x3 : ((bnd a b c d 3).2.2.1 - (bnd a b c d 3).1) = ((bnd a b c d 1).2.2.1 - (bnd a b c d 1).1) := by simp only [hb3, hb1]
    have y0 : ((bnd a b c d 0).2.2.2 - (bnd a b c d 0).2.1) = cev b (d - b) := by simp only [hb0, cev]; omega
    have y1 : ((bnd a b c d 1).2.2.2 - (bnd a b c d 1).2.1) = cev b (d - b) := by simp only [hb1, cev]; omega
    have y2 : ((bnd a b c d 2).2.2.2 - (bnd a b c d 2).2.1) = (d - b) - cev b (d - b) := by simp only [hb2, cev]; omega
    have y3 : ((bnd a b c d 3).2.2.2 - (bnd a b c d 3).2.1) = (d - b) - cev b (d - b) := by simp only [hb3, cev]; omega
    have N0 : ((bnd a b c d 0).2.2.2 - (bnd a b c d 0).2.1) + ((bnd a b c d 2).2.2.2 - (bnd a b c d 2).2.1) = d - b := by rw [y0, y2]; omega
    have N1 : ((bnd a b c d 1).2.2.2 - (bnd a b c d 1).2.1) + ((bnd a b c d 3).2.2.2 - (bnd a b c d 3).2.1) = d - b := by rw [y1, y3]; omega
    have W0 : IntKind.wrap .i64 ((bnd a b c d 0).2.2.1 - (bnd a b c d 0).1) = ((bnd a b c d 0).2.2.1 - (bnd a b c d 0).1) := by rw [x0]; exact wrap_in (by omega) (by omega)
    have W1 : IntKind.wrap .i64 ((bnd a b c d 1).2.2.1 - (bnd a b c d 1).1) = ((bnd a b c d 1).2.2.1 - (bnd a b c d 1).1) := by rw [x1]; exact wrap_in (by omega) (by omega)
    have zl : ∀ (g : Int), 0 ≤ g → (((d - b).toNat * g.toNat : Nat) : Int) = g * (d - b) := by
      intro g hg
      rw [Int.natCast_mul, Int.toNat_of_nonneg (by omega), Int.toNat_of_nonneg hg, Int.mul_comm]
    simp only [N0, N1, W0, W1]
    have F0 : fitB 1125899906842624 (matC (d - b).toNat ((bnd a b c d 0).2.2.1 - (bnd a b c d 0).1).toNat (mgCol l0 l2 ((bnd a b c d 0).2.2.1 - (bnd a b c d 0).1).toNat ((bnd a b c d 0).2.2.2 - (bnd a b c d 0).2.1).toNat ((bnd a b c d 2).2.2.2 - (bnd a b c d 2).2.1).toNat b k)) = true := fit_fitB (fit_mat (by omega) fun x hx => (mgCol_ok z2 hs (m := d - b) (by omega) (by rw [y0]; omega) (by rw [y2]; omega) (fitB_fit g0) (fitB_fit g2) x).2.2)
    have L0 : (((matC (d - b).toNat ((bnd a b c d 0).2.2.1 - (bnd a b c d 0).1).toNat (mgCol l0 l2 ((bnd a b c d 0).2.2.1 - (bnd a b c d 0).1).toNat ((bnd a b c d 0).2.2.2 - (bnd a b c d 0).2.1).toNat ((bnd a b c d 2).2.2.2 - (bnd a b c d 2).2.1).toNat b k)).length : Nat) : Int) = ((bnd a b c d 0).2.2.1 - (bnd a b c d 0).1) * (d - b) := by rw [matC_len, zl _ (by rw [x0]; omega)]
    have F1 : fitB 1125899906842624 (matC (d - b).toNat ((bnd a b c d 1).2.2.1 - (bnd a b c d 1).1).toNat (mgCol l1 l3 ((bnd a b c d 1).2.2.1 - (bnd a b c d 1).1).toNat ((bnd a b c d 1).2.2.2 - (bnd a b c d 1).2.1).toNat ((bnd a b c d 3).2.2.2 - (bnd a b c d 3).2.1).toNat b k)) = true := fit_fitB (fit_mat (by omega) fun x hx => (mgCol_ok z2 hs (m := d - b) (by omega) (by rw [y1]; omega) (by rw [y3]; omega) (fitB_fit g1) (fitB_fit g3) x).2.2)
    have L1 : (((matC (d - b).toNat ((bnd a b c d 1).2.2.1 - (bnd a b c d 1).1).toNat (mgCol l1 l3 ((bnd a b c d 1).2.2.1 - (bnd a b c d 1).1).toNat ((bnd a b c d 1).2.2.2 - (bnd a b c d 1).2.1).toNat ((bnd a b c d 3).2.2.2 - (bnd a b c d 3).2.1).toNat b k)).length : Nat) : Int) = ((bnd a b c d 1).2.2.1 - (bnd a b c d 1).1) * (d - b) := by rw [matC_len, zl _ (by rw [x1]; omega)]
    rw [if_pos (by simp only [p0', p2', z2, hs, g0, g2, x2, hn, y0, decide_true, Bool.and_self]), if_pos (by simp only [p1', p3', z2, hs, g1, g3, x3, hn, y1, decide_true, Bool.and_self])]
    rw [if_pos (by simp only [k_ref05_Merge_2, z0, z2, ha, F0, F1, L0, L1, hw, decide_true, Bool.true_and, Bool.and_true, Bool.and_eq_true, decide_eq_true_eq]; exact ⟨x0, x1⟩)]
    rfl
theorem s_ref05_Merge : SoundFun Try.prog 64 G_ref05_Merge := by
  refine fun_ok (tab := t_ref05_Merge) (ann := annOf []) (lt := l_ref05_Merge) (tab_cons s_ref02_Valid (tab_cons s_ref05_Known (tab_cons s_ref05_Above (tab_cons s_ref01_Valid (tab_cons s_ref05_Bands (tab_cons s_ref01_Area (tab_cons s_ref05_restore (tab_cons s_ref04_Inverse tab_nil)))))))) (by kernel_rfl) (fn := Try.f64) (by kernel_rfl) (by decide) (c := bodyOf Try.f64) (by kernel_rfl) (by
    intro m b hb
    have hb' : b ∈ loopsOf (bodyOf Try.f64) := hb
    rw [o_ref05_Merge] at hb'
    simp only [List.mem_cons, List.not_mem_nil, or_false] at hb'
    rcases hb' with rfl | rfl | rfl
    · exact loop_none (by kernel_rfl) m
    · exact loop_none (by kernel_rfl) m
    · exact loop_ok (key := 20) (by kernel_rfl) rfl r_ref05_Merge_2 z_ref05_Merge_2 m
    ) ?_ (keep_nil (by kernel_rfl))
  intro args lent o y0'
  unfold G_ref05_Merge at y0'
  obtain ⟨q', args, rfl, y1'⟩ := pA_s y0'
  obtain ⟨a0, b0, c0, d0, l0, a1, b1, c1, d1, l1, a2, b2, c2, d2, l2, a3, b3, c3, d3, l3, rfl, y2'⟩ := rd4L_s y1'
  obtain ⟨q', args, rfl, y3'⟩ := pA_s y2'
  obtain ⟨a, b, c, d, q', rfl, y4'⟩ := t4_s y3'
  obtain ⟨rfl, y5'⟩ := tE_s y4'
  obtain ⟨k, args, rfl, y6'⟩ := pI_s y5'
  obtain ⟨rfl, y7'⟩ := pE_s y6'
  obtain ⟨rfl, y8'⟩ := nE_s y7'
  have yy' := y8'
  unfold H_ref05_Merge at yy'
  obtain ⟨hok, rfl⟩ := Prod.mk.inj (Option.some.inj yy')
  exact ⟨20, q_ref05_Merge _ _ _ _ _ _ _ _ _ _ _ _ _ _ _ _ _ _ _ _ _ _ _ _ _ hok⟩
end Go.Rx.Ch06
