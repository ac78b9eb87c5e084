/- The summaries of these functions are sound. -/
import Derived.Test.YtcdmkbpmgeeghaaRE2
import Derived.Test.YtcdmkbpmgeeghaaRS4
set_option linter.unnecessarySimpa false
set_option linter.unusedVariables false
set_option linter.unusedSimpArgs false
set_option maxRecDepth 100000
set_option maxHeartbeats 40000000
open Go Go.Rx Go.Proofs
namespace Go.Rx.Ch06
theorem q_pyr_Band (a b c d n i : Int) (hok : true = true) : funR Try.prog t_pyr_Band (annOf []) l_pyr_Band 20 Try.f27 [.agg [.int .i64 a, .int .i64 b, .int .i64 c, .int .i64 d], .one (.int .i64 n), .one (.int .i64 i)] [] = some ⟨.agg [.int .i64 ((bandR a b c d n i).1), .int .i64 ((bandR a b c d n i).2.1), .int .i64 ((bandR a b c d n i).2.2.1), .int .i64 ((bandR a b c d n i).2.2.2)], [], []⟩ := by
    refine (e_pyr_Band ..).trans ?_
    simp only [ite2_bool, decide_eq_true_eq, bandR]
    cases h : plOk i n
    · simp
    · have hb := pl_b h
      cases hv : valid a b c d
      · simp
      · by_cases hi : i = 0
        · simp [hi]
        · have hd := pl_d h hi
          rw [wrap_in (n := n - plLv i n) (by omega) (by omega), wrap_in (n := n - plLv i n + 1) (by omega) (by omega)]
          generalize resR a b c d n (n - plLv i n + 1) = y
          have ho : plOr i n = 1 ∨ plOr i n = 2 ∨ plOr i n = 3 := by omega
          rcases ho with ho | ho | ho <;> simp [ho, hi, gI, bndR]
theorem s_pyr_Band : SoundFun Try.prog 27 G_pyr_Band := by
  refine fun_ok (tab := t_pyr_Band) (ann := annOf []) (lt := l_pyr_Band) (tab_cons s_pyr_Place (tab_cons s_pyr_Resolution (tab_cons s_rect_Valid (tab_cons s_dwt_Bands tab_nil)))) (by kernel_rfl) (fn := Try.f27) (by kernel_rfl) (by decide) (c := bodyOf Try.f27) (by kernel_rfl) (no_loops (by kernel_rfl)) ?_ (keep_nil (by kernel_rfl))
  intro args lent o y0'
  unfold G_pyr_Band at y0'
  obtain ⟨q', args, rfl, y1'⟩ := pA_s y0'
  obtain ⟨a, b, c, d, q', rfl, y2'⟩ := t4_s y1'
  obtain ⟨rfl, y3'⟩ := tE_s y2'
  obtain ⟨n, args, rfl, y4'⟩ := pI_s y3'
  obtain ⟨i, args, rfl, y5'⟩ := pI_s y4'
  obtain ⟨rfl, y6'⟩ := pE_s y5'
  obtain ⟨rfl, y7'⟩ := nE_s y6'
  have yy' := y7'
  unfold H_pyr_Band at yy'
  obtain ⟨hok, rfl⟩ := Prod.mk.inj (Option.some.inj yy')
  exact ⟨20, q_pyr_Band _ _ _ _ _ _ hok⟩
theorem q_ref06_Band (a b c d n i : Int) (hok : true = true) : funR Try.prog t_ref06_Band (annOf []) l_ref06_Band 20 Try.f28 [.agg [.int .i64 a, .int .i64 b, .int .i64 c, .int .i64 d], .one (.int .i64 n), .one (.int .i64 i)] [] = some ⟨.agg [.int .i64 ((bandR a b c d n i).1), .int .i64 ((bandR a b c d n i).2.1), .int .i64 ((bandR a b c d n i).2.2.1), .int .i64 ((bandR a b c d n i).2.2.2)], [], []⟩ := by
    refine (e_ref06_Band ..).trans ?_
    simp only [ite2_bool, decide_eq_true_eq, bandR]
    cases h : plOk i n
    · simp
    · have hb := pl_b h
      cases hv : valid a b c d
      · simp
      · by_cases hi : i = 0
        · simp [hi]
        · have hd := pl_d h hi
          rw [wrap_in (n := n - plLv i n) (by omega) (by omega), wrap_in (n := n - plLv i n + 1) (by omega) (by omega)]
          generalize resR a b c d n (n - plLv i n + 1) = y
          have ho : plOr i n = 1 ∨ plOr i n = 2 ∨ plOr i n = 3 := by omega
          rcases ho with ho | ho | ho <;> simp [ho, hi, gI, bndR]
theorem s_ref06_Band : SoundFun Try.prog 28 G_ref06_Band := by
  refine fun_ok (tab := t_ref06_Band) (ann := annOf []) (lt := l_ref06_Band) (tab_cons s_ref06_Place (tab_cons s_ref06_Resolution (tab_cons s_ref01_Valid (tab_cons s_ref05_Bands tab_nil)))) (by kernel_rfl) (fn := Try.f28) (by kernel_rfl) (by decide) (c := bodyOf Try.f28) (by kernel_rfl) (no_loops (by kernel_rfl)) ?_ (keep_nil (by kernel_rfl))
  intro args lent o y0'
  unfold G_ref06_Band at y0'
  obtain ⟨q', args, rfl, y1'⟩ := pA_s y0'
  obtain ⟨a, b, c, d, q', rfl, y2'⟩ := t4_s y1'
  obtain ⟨rfl, y3'⟩ := tE_s y2'
  obtain ⟨n, args, rfl, y4'⟩ := pI_s y3'
  obtain ⟨i, args, rfl, y5'⟩ := pI_s y4'
  obtain ⟨rfl, y6'⟩ := pE_s y5'
  obtain ⟨rfl, y7'⟩ := nE_s y6'
  have yy' := y7'
  unfold H_ref06_Band at yy'
  obtain ⟨hok, rfl⟩ := Prod.mk.inj (Option.some.inj yy')
  exact ⟨20, q_ref06_Band _ _ _ _ _ _ hok⟩
theorem d_pyr_exceeds_0 {α : Type} {vs : List V} {bl : List (Option Blk)} {K} {r : α} {Q : Prop} (y0' : D_pyr_exceeds_0 vs bl K = some r) (hh' : ∀ (b : Int) (l : List Int) (n : Int) (i : Int), vs = [.one (.int .i64 b), .one (.lst (.int .i64) l), .one (.int .i64 n), .one (.int .i64 i)] → bl = [] → K b l n i = some r → Q) : Q := by
  unfold D_pyr_exceeds_0 at y0'
  obtain ⟨b, vs, rfl, y1'⟩ := pI_s y0'
  obtain ⟨c', vs, rfl, y2'⟩ := pO_s y1'
  obtain ⟨l, rfl, y3'⟩ := kLI_s y2'
  obtain ⟨n, vs, rfl, y4'⟩ := pI_s y3'
  obtain ⟨i, vs, rfl, y5'⟩ := pI_s y4'
  obtain ⟨rfl, y6'⟩ := pE_s y5'
  obtain ⟨rfl, y7'⟩ := bE_s y6'
  have yy' := y7'
  exact hh' _ _ _ _ rfl rfl yy'
theorem r_pyr_exceeds_0 : RoundOk Try.prog t_pyr_exceeds (annOf []) l_pyr_exceeds Out 20 0 23 [1, 7, 8, 9] (kxOf [] [4]) (loopOf Try.f41 0) T_pyr_exceeds_0 := by
  intro vs bl Kc r h
  unfold T_pyr_exceeds_0 at h
  obtain ⟨t, y0', h'⟩ := getD_run h
  refine d_pyr_exceeds_0 y0' fun b l n i u1' u2' yy' => ?_
  subst u1' u2'
  cases yy'
  exact (b_pyr_exceeds_0 ..).trans h'
theorem o_pyr_exceeds : loopsOf (bodyOf Try.f41) = [loopOf Try.f41 0] := by kernel_rfl
theorem zz_pyr_exceeds_0 (b : Int) (l : List Int) (hsm : small (l.length) = true) (hc : (decide (0 ≤ b) && decide (b ≤ 4503599627370496)) = true) : ZZ (c_pyr_exceeds_0 b l) T_pyr_exceeds_0 [.one (.int .i64 b), .one (.lst (.int .i64) l), .one (.int .i64 (l.length : Int)), .one (.int .i64 0)] [] := by
  refine z_list (st := fun i => ([.one (.int .i64 b), .one (.lst (.int .i64) l), .one (.int .i64 (l.length : Int)), .one (.int .i64 ((i : Nat) : Int))], [])) l 0 (inr (-b) b) _ _ (fun i hi F K => ?_) (fun F K => ?_)
  · have hi' : (i : Int) < (l.length : Int) := by omega
    have hc' := hc
    simp only [Bool.and_eq_true, decide_eq_true_eq] at hc'
    simp only [tu_pyr_exceeds_0, U_pyr_exceeds_0, LT.next, LT.run, ite2_dec, ite2_bool, wrap_next hi hsm, Int.toNat_natCast, hi', Int.natCast_nonneg, and_self, if_true, gI, gP, gC, gR]
    rw [show (0 : Int) - b = -b by omega, wrap_in (n := -b) (by omega) (by omega)]
    simp only [inr, Bool.and_eq_true, decide_eq_true_eq]
    by_cases h1 : l[i]?.getD 0 < -b
    · have h3 : ¬ -b ≤ l[i]?.getD 0 := by omega
      simp [h1, h3, gI]
    by_cases h2 : b < l[i]?.getD 0
    · have h3 : ¬ l[i]?.getD 0 ≤ b := by omega
      simp [h1, h2, h3, gI]
    have h3 : -b ≤ l[i]?.getD 0 := by omega
    have h4 : l[i]?.getD 0 ≤ b := by omega
    have h5 : ¬ b < l[i]?.getD 0 := by omega
    simp [h1, h3, h4, h5, gI]
  · simp only [tu_pyr_exceeds_0, U_pyr_exceeds_0, LT.next, LT.run, ite2_dec, Int.lt_irrefl, if_false]
    try rfl
theorem z_pyr_exceeds_0 : ZOk S_pyr_exceeds_0 T_pyr_exceeds_0 := by
  intro vs bl t y0'
  refine d_pyr_exceeds_0 y0' fun b l n i u1' u2' yy' => ?_
  subst u1' u2'
  obtain ⟨hk, rfl⟩ := Prod.mk.inj (Option.some.inj yy')
  unfold k_pyr_exceeds_0 at hk
  simp only [Bool.and_eq_true, decide_eq_true_eq, and_assoc] at hk
  obtain ⟨rfl, rfl, hsm, hc⟩ := hk
  exact zz_pyr_exceeds_0 _ _ hsm (by first | exact hc | simpa using hc | simpa only [Bool.and_eq_true, decide_eq_true_eq, and_assoc] using hc)
theorem q_pyr_exceeds (l : List Int) (b : Int) (hok : (small l.length && (decide (0 ≤ b) && decide (b ≤ 4503599627370496))) = true) : funR Try.prog t_pyr_exceeds (annOf []) l_pyr_exceeds 20 Try.f41 [.one (.lst (.int .i64) l), .one (.int .i64 b)] [] = some ⟨.one (.bool (!fitB b l)), [], []⟩ := by
    refine (e_pyr_exceeds ..).trans ?_
    simp only [ite2_bool, k_pyr_exceeds_0, p_pyr_exceeds_0, hok, Bool.and_true, decide_true, Bool.true_and]
    simp only [Bool.and_eq_true] at hok
    simp [hok, fitB]
    (repeat' split) <;> simp_all
theorem s_pyr_exceeds : SoundFun Try.prog 41 G_pyr_exceeds := by
  refine fun_ok (tab := t_pyr_exceeds) (ann := annOf []) (lt := l_pyr_exceeds) tab_nil (by kernel_rfl) (fn := Try.f41) (by kernel_rfl) (by decide) (c := bodyOf Try.f41) (by kernel_rfl) (by
    intro m b hb
    have hb' : b ∈ loopsOf (bodyOf Try.f41) := hb
    rw [o_pyr_exceeds] at hb'
    simp only [List.mem_cons, List.not_mem_nil, or_false] at hb'
    rcases hb' with rfl
    · exact loop_ok (key := 2) (by kernel_rfl) rfl r_pyr_exceeds_0 z_pyr_exceeds_0 m
    ) ?_ (keep_nil (by kernel_rfl))
  intro args lent o y0'
  unfold G_pyr_exceeds at y0'
  obtain ⟨c', args, rfl, y1'⟩ := pO_s y0'
  obtain ⟨l, rfl, y2'⟩ := kLI_s y1'
  obtain ⟨b, args, rfl, y3'⟩ := pI_s y2'
  obtain ⟨rfl, y4'⟩ := pE_s y3'
  obtain ⟨rfl, y5'⟩ := nE_s y4'
  have yy' := y5'
  unfold H_pyr_exceeds at yy'
  obtain ⟨hok, rfl⟩ := Prod.mk.inj (Option.some.inj yy')
  exact ⟨20, q_pyr_exceeds _ _ hok⟩
theorem hb_le {b k : Int} (h0 : 0 ≤ b ∧ b ≤ 281474976710656) (hk : 1 ≤ k ∧ k ≤ 3) : (0 ≤ hb b k ∧ 4 * hb b k ≤ 9 * b + 4) ∧ (0 ≤ lb b k ∧ 4 * lb b k ≤ 9 * b + 4) := by
  have h1 : 0 ≤ hb b k ∧ 4 * hb b k ≤ 9 * b + 2 := by
    unfold hb
    rw [if_pos ⟨h0.1, h0.2, hk.1, hk.2⟩]
    split <;> omega
  have h2 : 0 ≤ lb b k ∧ 4 * lb b k ≤ 9 * b + 4 := by
    unfold lb
    rw [if_pos ⟨h0.1, h0.2, hk.1, hk.2⟩]
    omega
  omega
theorem fw_fit {l : List Int} {s k B : Int} (hk : inr 1 3 k = true) (hs : inr 0 4096 s = true) (hn : l.length ≤ 4096) (h0 : 0 ≤ B ∧ B ≤ 281474976710656) (hf : fit B l) : fit (lb B k) (fw l s k).1 ∧ fit (hb B k) (fw l s k).2.1 := by
  rw [fw_ok (inr_b hk) (inr_b hs) hn (fit_mono hf h0.2)]
  exact fz_low (inr_b hk) hf h0
theorem spErr_s {a b c d k : Int} {l : List Int} (h : spErr a b c d k l = 0) : plV a b c d l = true ∧ inr 1 3 k = true ∧ fitB 35184372088832 l = true := by
  cases h1 : plV a b c d l
  · simp [spErr, h1] at h
  cases h2 : inr 1 3 k
  · simp [spErr, h1, h2] at h
  cases h3 : fitB 35184372088832 l
  · simp [spErr, h1, h2, h3] at h
  exact ⟨rfl, rfl, rfl⟩
theorem half_fit {a b c d k B : Int} {l : List Int} (hv : plV a b c d l = true) (hk : inr 1 3 k = true) (h0 : 0 ≤ B ∧ B ≤ 281474976710656) (hf : fit B l) : fit (lb B k) (sLo a b c d k l) ∧ fit (hb B k) (sHi a b c d k l) := by
  have pb := plV_b hv
  have hl := plV_len hv
  have ha : inr 0 4096 a = true := inr_t (by omega) (by omega)
  have hq := fun j (hj : j < (d - b).toNat) => fw_fit (l := rowAt l (c - a).toNat j) (s := a) hk ha (by rw [rowAt_len hl hj]; omega) h0 (fit_row hf _ _)
  exact ⟨fit_cat _ fun y hy => (hq y hy).1, fit_cat _ fun y hy => (hq y hy).2⟩
theorem col_fit {h : List Int} {g n m : Nat} {s k B : Int} (hk : inr 1 3 k = true) (hs : inr 0 4096 s = true) (hn : n ≤ 4096) (h0 : 0 ≤ B ∧ B ≤ 281474976710656) (hf : fit B h) : fit (lb B k) (matC m g (cLo h g n s k)) ∧ fit (hb B k) (matC m g (cHi h g n s k)) := by
  have hl := hb_le h0 (inr_b hk)
  have hq := fun x => fw_fit (l := colOf h g x n) (s := s) hk hs (by rw [colOf_len]; exact hn) h0 (fit_col h0.1 hf _ _ _)
  exact ⟨fit_mat hl.2.1 fun x _ => (hq x).1, fit_mat hl.1.1 fun x _ => (hq x).2⟩
theorem spD_fit {a b c d k B : Int} {l : List Int} (e : spErr a b c d k l = 0) (h0 : 0 ≤ B ∧ B ≤ 35184372088832) (hf : fit B l) : fit (lb (lb B k) k) (spD0 a b c d k l) ∧ fit (lb (hb B k) k) (spD1 a b c d k l) ∧ fit (hb (lb B k) k) (spD2 a b c d k l) ∧ fit (hb (hb B k) k) (spD3 a b c d k l) := by
  obtain ⟨hv, hk, _⟩ := spErr_s e
  have pb := plV_b hv
  have hs : inr 0 4096 b = true := inr_t (by omega) (by omega)
  have hl := hb_le (b := B) (k := k) (by omega) (inr_b hk)
  have hh := half_fit hv hk (by omega) hf
  have hn : (d - b).toNat ≤ 4096 := by omega
  have hc := @col_fit (sLo a b c d k l)
  have hd := @col_fit (sHi a b c d k l)
  unfold spD0 spD1 spD2 spD3
  rw [if_pos e, if_pos e, if_pos e, if_pos e]
  exact ⟨(hc hk hs hn (by omega) hh.1).1, (hd hk hs hn (by omega) hh.2).1, (hc hk hs hn (by omega) hh.1).2, (hd hk hs hn (by omega) hh.2).2⟩
theorem spD_len {a b c d k : Int} {l : List Int} (e : spErr a b c d k l = 0) : (spD0 a b c d k l).length = bh a b c d 0 * bw a b c d 0 ∧ (spD1 a b c d k l).length = bh a b c d 1 * bw a b c d 1 ∧ (spD2 a b c d k l).length = bh a b c d 2 * bw a b c d 0 ∧ (spD3 a b c d k l).length = bh a b c d 3 * bw a b c d 1 := by
  unfold spD0 spD1 spD2 spD3
  rw [if_pos e, if_pos e, if_pos e, if_pos e]
  exact ⟨matC_len .., matC_len .., matC_len .., matC_len ..⟩
theorem plV_n {p e q f : Int} {l : List Int} {x y : Int} (h : valid p e q f = true) (hx : q - p = x) (hy : f - e = y) (hl : l.length = y.toNat * x.toNat) (ha : x * y ≤ 1048576) : plV p e q f l = true := by
  have hb := valid_b h
  refine plV_i h ?_ (by rw [hx, hy]; exact ha)
  rw [hl, Int.natCast_mul, Int.toNat_of_nonneg (by omega), Int.toNat_of_nonneg (by omega), hx, hy, Int.mul_comm]
theorem isR_refl (r : Rc) : isR r.1 r.2.1 r.2.2.1 r.2.2.2 r = true := by simp [isR]
theorem cdiv_b {a k : Int} (h0 : 0 ≤ a) (h1 : a ≤ 4096) (hk : 1 ≤ k) : a / k ≤ cdiv a k ∧ cdiv a k ≤ a := by
  have h2 := Int.ediv_nonneg h0 (show 0 ≤ k by omega)
  have h3 := Int.ediv_le_self k h0
  have h4 := Int.emod_add_mul_ediv a k
  have h5 : 1 * (a / k) ≤ k * (a / k) := Int.mul_le_mul_of_nonneg_right hk h2
  unfold cdiv w
  rw [if_neg (by omega), Int.tmod_eq_emod_of_nonneg h0, Int.tdiv_eq_ediv_of_nonneg h0, wrap_in (n := a / k) (by omega) (by omega)]
  split
  · rw [wrap_in (by omega) (by omega)]; omega
  · omega
theorem cdiv_e {a k : Int} (h0 : 0 ≤ a) (h1 : a ≤ 4096) (hk : 1 ≤ k) : cdiv a k = a / k + (if a % k > 0 then 1 else 0) := by
  have h2 := Int.ediv_nonneg h0 (show 0 ≤ k by omega)
  have h3 := Int.ediv_le_self k h0
  unfold cdiv w
  rw [if_neg (by omega), Int.tmod_eq_emod_of_nonneg h0, Int.tdiv_eq_ediv_of_nonneg h0, wrap_in (n := a / k) (by omega) (by omega)]
  split
  · rw [wrap_in (by omega) (by omega)]
  · omega
theorem cdiv_mono {a c k : Int} (h0 : 0 ≤ a) (h : a ≤ c) (h1 : c ≤ 4096) (hk : 1 ≤ k) : 0 ≤ cdiv a k ∧ cdiv a k ≤ cdiv c k ∧ cdiv c k ≤ 4096 := by
  have h2 := Int.ediv_nonneg h0 (show 0 ≤ k by omega)
  have h3 := Int.ediv_le_ediv (show 0 < k by omega) h
  have h4 := cdiv_b (show 0 ≤ c by omega) h1 hk
  rw [cdiv_e h0 (by omega) hk] 
  rw [cdiv_e (show 0 ≤ c by omega) h1 hk] at h4 ⊢
  have e1 := Int.emod_add_mul_ediv a k
  have e2 := Int.emod_add_mul_ediv c k
  by_cases hq : a / k = c / k
  · rw [hq] at e1 ⊢
    split <;> split <;> omega
  · split <;> split <;> omega
theorem valid_reduce (a b c d x y : Int) : valid (reduce a b c d x y).1 (reduce a b c d x y).2.1 (reduce a b c d x y).2.2.1 (reduce a b c d x y).2.2.2 = true := by
  unfold reduce
  split
  · rfl
  · rename_i h
    simp only [Bool.or_eq_true, Bool.not_eq_true', decide_eq_true_eq, not_or, Bool.not_eq_false] at h
    have hb := valid_b h.1.1.1.1
    have h1 := cdiv_mono hb.1 hb.2.1 hb.2.2.1 (show 1 ≤ x by omega)
    have h2 := cdiv_mono hb.2.2.2.1 hb.2.2.2.2.1 hb.2.2.2.2.2 (show 1 ≤ y by omega)
    show valid (cdiv a x) (cdiv b y) (cdiv c x) (cdiv d y) = true
    exact valid_i (by omega)
theorem valid_resR (a b c d n r : Int) : valid (resR a b c d n r).1 (resR a b c d n r).2.1 (resR a b c d n r).2.2.1 (resR a b c d n r).2.2.2 = true := by
  unfold resR
  split
  · exact valid_reduce ..
  · rfl
theorem set3 {α : Type} (f g : Nat → α) (N t : Nat) (ht : 1 ≤ t) (h : ∀ i, i < N → (i + 2) / 3 ≠ t → g i = f i) : ((((List.range N).map f).set (3 * t - 3 + 1) (g (3 * t - 3 + 1))).set (3 * t - 3 + 2) (g (3 * t - 3 + 2))).set (3 * t - 3 + 3) (g (3 * t - 3 + 3)) = (List.range N).map g := by
  apply List.ext_getElem (by simp)
  intro i h1 h2
  simp only [List.length_map, List.length_range] at h2
  simp only [List.getElem_set, List.getElem_map, List.getElem_range]
  split
  · rename_i e; subst e; rfl
  · split
    · rename_i e; subst e; rfl
    · split
      · rename_i e; subst e; rfl
      · exact (h i h2 (by omega)).symm
theorem inter_v {a b c d e f g h : Int} (hv : valid e f g h = true) : valid (inter a b c d e f g h).1 (inter a b c d e f g h).2.1 (inter a b c d e f g h).2.2.1 (inter a b c d e f g h).2.2.2 = true := by
  have hb := valid_b hv
  unfold inter
  split
  · rfl
  · rename_i hn
    simp only [empty, Bool.or_eq_true, decide_eq_true_eq, not_or] at hn
    apply valid_i
    simp only
    omega
theorem ndW_b {a b c d n m res : Int} {w : Rc} (hw : valid w.1 w.2.1 w.2.2.1 w.2.2.2 = true) : ∀ j, valid (ndW a b c d n m res w j).1 (ndW a b c d n m res w j).2.1 (ndW a b c d n m res w j).2.2.1 (ndW a b c d n m res w j).2.2.2 = true
  | 0 => hw
  | j + 1 => valid_bnd (by omega) (by omega)
theorem ndAt_at {a b c d n m res : Int} {w : Rc} {j t : Nat} (ht : res - (j : Int) = t) (h1 : 1 ≤ t) (o : Nat) (ho : 1 ≤ o) (ho3 : o ≤ 3) : ndAt a b c d n m res w (3 * t - 3 + o) = bndR (ndI a b c d n m res (ndW a b c d n m res w j) j) o := by
  have e1 : ((3 * t - 3 + o + 2 : Nat) : Int) / 3 = t := by omega
  have e2 : ((3 * t - 3 + o : Nat) : Int) - 3 * (((3 * t - 3 + o + 2 : Nat) : Int) / 3) + 3 = o := by rw [e1]; omega
  have e3 : (res - ((3 * t - 3 + o + 2 : Nat) : Int) / 3).toNat = j := by rw [e1]; omega
  unfold ndAt
  rw [if_neg (by omega), if_pos (by omega), e2, e3]
theorem ndL_step {a b c d n m res : Int} {w : Rc} {j t : Nat} (ht : res - (j : Int) = t) (h1 : 1 ≤ t) : (((ndL a b c d n m res w j).set (3 * t - 3 + 1) (bndR (ndI a b c d n m res (ndW a b c d n m res w j) j) 1)).set (3 * t - 3 + 2) (bndR (ndI a b c d n m res (ndW a b c d n m res w j) j) 2)).set (3 * t - 3 + 3) (bndR (ndI a b c d n m res (ndW a b c d n m res w j) j) 3) = ndL a b c d n m res w (j + 1) := by
  have a1 := ndAt_at (a := a) (b := b) (c := c) (d := d) (n := n) (m := m) (w := w) ht h1 1 (by omega) (by omega)
  have a2 := ndAt_at (a := a) (b := b) (c := c) (d := d) (n := n) (m := m) (w := w) ht h1 2 (by omega) (by omega)
  have a3 := ndAt_at (a := a) (b := b) (c := c) (d := d) (n := n) (m := m) (w := w) ht h1 3 (by omega) (by omega)
  have g : ∀ o : Nat, 1 ≤ o → o ≤ 3 → ndG a b c d n m res w (j + 1) (3 * t - 3 + o) = ndAt a b c d n m res w (3 * t - 3 + o) := by
    intro o h2 h3
    unfold ndG
    rw [if_pos (by omega)]
  have s := set3 (ndG a b c d n m res w j) (ndG a b c d n m res w (j + 1)) (3 * n + 1).toNat t h1 (fun i hi hne => by
    unfold ndG
    by_cases hc : 1 ≤ i ∧ ((i + 2 : Nat) : Int) / 3 ≤ res ∧ res - (i + 2 : Nat) / 3 < (j : Int)
    · rw [if_pos hc, if_pos (by omega)]
    · rw [if_neg hc, if_neg (by omega)])
  rw [g 1 (by omega) (by omega), g 2 (by omega) (by omega), g 3 (by omega) (by omega), a1, a2, a3] at s
  exact s
theorem ndL_zero {a b c d n m res : Int} {w : Rc} : ndL a b c d n m res w 0 = List.replicate (3 * n + 1).toNat (0, 0, 0, 0) := by
  apply List.ext_getElem (by simp [ndL])
  intro i h1 h2
  simp only [ndL, List.getElem_map, List.getElem_range, List.getElem_replicate]
  unfold ndG
  rw [if_neg (by omega)]
theorem ndL_len {a b c d n m res : Int} {w : Rc} (j : Nat) : (ndL a b c d n m res w j).length = (3 * n + 1).toNat := by simp [ndL]
theorem d_pyr_Need_0 {α : Type} {vs : List V} {bl : List (Option Blk)} {K} {r : α} {Q : Prop} (y0' : D_pyr_Need_0 vs bl K = some r) (hh' : ∀ (a : Int) (b : Int) (c : Int) (d : Int) (n : Int) (m : Int) (w0 : Int) (w1 : Int) (w2 : Int) (w3 : Int) (t : Int) (v : List (Int × Int × Int × Int)), vs = [.one (.int .i64 n), .one (.ptr 0 0), .one (.int .i64 m), .one (.row 1), .one (.ptr 2 0), .one (.int .i64 t)] → bl = [some (.box [.int .i64 a, .int .i64 b, .int .i64 c, .int .i64 d]), some (.arr 31 (.pair (.int .i64) (.pair (.int .i64) (.pair (.int .i64) (.int .i64)))) v), some (.box [.int .i64 w0, .int .i64 w1, .int .i64 w2, .int .i64 w3])] → K a b c d n m w0 w1 w2 w3 t v = some r → Q) : Q := by
  unfold D_pyr_Need_0 at y0'
  obtain ⟨n, vs, rfl, y1'⟩ := pI_s y0'
  obtain ⟨vs, rfl, y2'⟩ := pP_s y1'
  obtain ⟨m, vs, rfl, y3'⟩ := pI_s y2'
  obtain ⟨c', vs, rfl, y4'⟩ := pO_s y3'
  obtain ⟨rfl, y5'⟩ := kR_s y4'
  obtain ⟨vs, rfl, y6'⟩ := pP_s y5'
  obtain ⟨t, vs, rfl, y7'⟩ := pI_s y6'
  obtain ⟨rfl, y8'⟩ := pE_s y7'
  obtain ⟨q', bl, rfl, y9'⟩ := bB_s y8'
  obtain ⟨a, b, c, d, q', rfl, y10'⟩ := t4_s y9'
  obtain ⟨rfl, y11'⟩ := tE_s y10'
  obtain ⟨v, bl, rfl, y12'⟩ := bAR_s y11'
  obtain ⟨q', bl, rfl, y13'⟩ := bB_s y12'
  obtain ⟨w0, w1, w2, w3, q', rfl, y14'⟩ := t4_s y13'
  obtain ⟨rfl, y15'⟩ := tE_s y14'
  obtain ⟨rfl, y16'⟩ := bE_s y15'
  have yy' := y16'
  exact hh' _ _ _ _ _ _ _ _ _ _ _ _ rfl rfl yy'
theorem r_pyr_Need_0 : RoundOk Try.prog t_pyr_Need (annOf []) l_pyr_Need Out 20 0 107 [1, 5, 11, 12, 13, 14] (kxOf [12, 13] [10]) (loopOf Try.f21 0) T_pyr_Need_0 := by
  intro vs bl Kc r h
  unfold T_pyr_Need_0 at h
  obtain ⟨t, y0', h'⟩ := getD_run h
  refine d_pyr_Need_0 y0' fun a b c d n m w0 w1 w2 w3 t v u1' u2' yy' => ?_
  subst u1' u2'
  cases yy'
  exact (b_pyr_Need_0 ..).trans h'
theorem o_pyr_Need : loopsOf (bodyOf Try.f21) = [loopOf Try.f21 0] := by kernel_rfl
theorem zz_pyr_Need_0 (a b c d n m w0 w1 w2 w3 t : Int) (v : List (Int × Int × Int × Int)) (hk : k_pyr_Need_0 a b c d n m w0 w1 w2 w3 t v = true) : ZZ (c_pyr_Need_0 a b c d n m w0 w1 w2 w3 t v) T_pyr_Need_0 [.one (.int .i64 n), .one (.ptr 0 0), .one (.int .i64 m), .one (.row 1), .one (.ptr 2 0), .one (.int .i64 t)] [some (.box [.int .i64 a, .int .i64 b, .int .i64 c, .int .i64 d]), some (.arr 31 (.pair (.int .i64) (.pair (.int .i64) (.pair (.int .i64) (.int .i64)))) v), some (.box [.int .i64 w0, .int .i64 w1, .int .i64 w2, .int .i64 w3])] := by
  simp only [k_pyr_Need_0, Bool.and_eq_true, decide_eq_true_eq] at hk
  obtain ⟨⟨⟨⟨z1, z2⟩, z3⟩, hv⟩, rfl⟩ := hk
  have b1 := inr_b z1
  have b2 := inr_b z2
  have b3 := inr_b z3
  have hw := ndW_b (a := a) (b := b) (c := c) (d := d) (n := n) (m := m) (res := t) (w := (w0, w1, w2, w3)) hv
  refine Exists.elim (z_fold (T := T_pyr_Need_0) (st := fun j => ([.one (.int .i64 n), .one (.ptr 0 0), .one (.int .i64 m), .one (.row 1), .one (.ptr 2 0), .one (.int .i64 (t - (j : Int)))], [some (.box [.int .i64 a, .int .i64 b, .int .i64 c, .int .i64 d]), some (.arr 31 (.pair (.int .i64) (.pair (.int .i64) (.pair (.int .i64) (.int .i64)))) (ndL a b c d n m t (w0, w1, w2, w3) j)), some (.box [.int .i64 ((ndW a b c d n m t (w0, w1, w2, w3) j).1), .int .i64 ((ndW a b c d n m t (w0, w1, w2, w3) j).2.1), .int .i64 ((ndW a b c d n m t (w0, w1, w2, w3) j).2.2.1), .int .i64 ((ndW a b c d n m t (w0, w1, w2, w3) j).2.2.2)])])) t.toNat (.leaf (.exit 0) [.one (.row 0), .one (.ptr 1 0)] [some (.arr 31 (.pair (.int .i64) (.pair (.int .i64) (.pair (.int .i64) (.int .i64)))) (ndL a b c d n m t (w0, w1, w2, w3) t.toNat)), some (.box [.int .i64 ((ndW a b c d n m t (w0, w1, w2, w3) t.toNat).1), .int .i64 ((ndW a b c d n m t (w0, w1, w2, w3) t.toNat).2.1), .int .i64 ((ndW a b c d n m t (w0, w1, w2, w3) t.toNat).2.2.1), .int .i64 ((ndW a b c d n m t (w0, w1, w2, w3) t.toNat).2.2.2)])]) (fun j hj F K => ?_) (fun F K => ?_)) (fun k hk => ⟨k, fun K r h => ?_⟩)
  · obtain ⟨q, hq⟩ : ∃ q : Nat, t - (j : Int) = q := ⟨(t - (j : Int)).toNat, by omega⟩
    have hb := valid_b (hw j)
    have hl := ndL_len (a := a) (b := b) (c := c) (d := d) (n := n) (m := m) (res := t) (w := (w0, w1, w2, w3)) j
    have hs := ndL_step (a := a) (b := b) (c := c) (d := d) (n := n) (m := m) (w := (w0, w1, w2, w3)) hq (by omega)
    simp only [tu_pyr_Need_0, U_pyr_Need_0, LT.next, LT.run, ite2_bool, decide_eq_true_eq, hq, List.length_set, hl]
    have i1 : IntKind.wrap .i64 (IntKind.wrap .i64 (3 * (q : Int)) - 2) = ((3 * q - 3 + 1 : Nat) : Int) := by rw [wrap_in (n := 3 * (q : Int)) (by omega) (by omega), wrap_in (by omega) (by omega)]; omega
    have i2 : IntKind.wrap .i64 (IntKind.wrap .i64 (3 * (q : Int)) - 1) = ((3 * q - 3 + 2 : Nat) : Int) := by rw [wrap_in (n := 3 * (q : Int)) (by omega) (by omega), wrap_in (by omega) (by omega)]; omega
    have i3 : IntKind.wrap .i64 (3 * (q : Int)) = ((3 * q - 3 + 3 : Nat) : Int) := by rw [wrap_in (by omega) (by omega)]; omega
    simp only [i1, i2]
    simp only [i3, Int.toNat_natCast]
    rw [if_pos (by omega), if_pos (by omega), if_pos (by omega), if_pos (by omega), if_pos (by omega), if_pos (by omega), if_pos (by omega), wrap_in (n := (q : Int) - 1) (by omega) (by omega), show (q : Int) - 1 = t - ((j + 1 : Nat) : Int) by omega, wrap_in (n := (ndW a b c d n m t (w0, w1, w2, w3) j).1 - m) (by omega) (by omega), wrap_in (n := (ndW a b c d n m t (w0, w1, w2, w3) j).2.1 - m) (by omega) (by omega), wrap_in (n := (ndW a b c d n m t (w0, w1, w2, w3) j).2.2.1 + m) (by omega) (by omega), wrap_in (n := (ndW a b c d n m t (w0, w1, w2, w3) j).2.2.2 + m) (by omega) (by omega), ← hs, ← hq]
    rfl
  · simp only [tu_pyr_Need_0, U_pyr_Need_0, LT.next, LT.run, ite2_bool, decide_eq_true_eq]
    rw [if_neg (by omega)]
  · have hk' := hk K r h
    rw [show t - ((0 : Nat) : Int) = t by simp, ndL_zero] at hk'
    exact hk'
theorem z_pyr_Need_0 : ZOk S_pyr_Need_0 T_pyr_Need_0 := by
  intro vs bl t y0'
  refine d_pyr_Need_0 y0' fun a b c d n m w0 w1 w2 w3 t v u1' u2' yy' => ?_
  subst u1' u2'
  obtain ⟨hk, rfl⟩ := Prod.mk.inj (Option.some.inj yy')
  exact zz_pyr_Need_0 _ _ _ _ _ _ _ _ _ _ _ _ hk
theorem q_pyr_Need (a b c d n r e f g h k : Int) (hok : true = true) : funR Try.prog t_pyr_Need (annOf []) l_pyr_Need 20 Try.f21 [.agg [.int .i64 a, .int .i64 b, .int .i64 c, .int .i64 d], .one (.int .i64 n), .one (.int .i64 r), .agg [.int .i64 e, .int .i64 f, .int .i64 g, .int .i64 h], .one (.int .i64 k)] [] = some ⟨.one (.row 0), [], [.arr 31 (.pair (.int .i64) (.pair (.int .i64) (.pair (.int .i64) (.int .i64)))) (ndF a b c d n r e f g h k)]⟩ := by
    refine (e_pyr_Need ..).trans ?_
    simp only [ite2_bool, decide_eq_true_eq]
    have hm : (marg k == 0) = !inr 1 3 k := by
      rw [← marg_k]
      have : 0 ≤ marg k := by unfold marg; split <;> (try split) <;> omega
      by_cases h : marg k = 0
      · simp [h]
      · have h2 : marg k > 0 := by omega
        simp [h, h2]
    have hm4 : inr 0 4 (marg k) = true := by unfold marg; split <;> (try split) <;> rfl
    cases hv : valid a b c d
    · rw [show ndF a b c d n r e f g h k = [] by simp [ndF, ndOk, hv]]
      simp
    cases hn : inr 0 5 n
    · rw [show ndF a b c d n r e f g h k = [] by simp [ndF, ndOk, hn]]
      simp [count, hn]
    have hb := inr_b hn
    cases hr : inr 0 n r
    · rw [show ndF a b c d n r e f g h k = [] by simp [ndF, ndOk, hr]]
      have : r < 0 ∨ r > n := by simp [inr] at hr; omega
      have hc0 : ¬ count n = 0 := by simp only [count, hn, if_true]; omega
      rcases this with h2 | h2 <;> simp [h2, hc0]
    have hc := inr_b hr
    cases hk : inr 1 3 k
    · rw [show ndF a b c d n r e f g h k = [] by simp [ndF, ndOk, hk]]
      have hc0 : ¬ count n = 0 := by simp only [count, hn, if_true]; omega
      simp [hm, hk, hc0, show ¬ r < 0 by omega, show ¬ r > n by omega]
    have hcn : count n = 3 * n + 1 := by simp only [count, hn, if_true]
    have hc0 : (3 * n + 1 == 0) = false := by simp only [beq_eq_false_iff_ne, ne_eq]; omega
    have vw := inter_v (a := e) (b := f) (c := g) (d := h) (valid_resR a b c d n r)
    have hk0 : k_pyr_Need_0 a b c d n (marg k) (inter e f g h (resR a b c d n r).1 (resR a b c d n r).2.1 (resR a b c d n r).2.2.1 (resR a b c d n r).2.2.2).1 (inter e f g h (resR a b c d n r).1 (resR a b c d n r).2.1 (resR a b c d n r).2.2.1 (resR a b c d n r).2.2.2).2.1 (inter e f g h (resR a b c d n r).1 (resR a b c d n r).2.1 (resR a b c d n r).2.2.1 (resR a b c d n r).2.2.2).2.2.1 (inter e f g h (resR a b c d n r).1 (resR a b c d n r).2.1 (resR a b c d n r).2.2.1 (resR a b c d n r).2.2.2).2.2.2 r (List.replicate (3 * n + 1).toNat (0, 0, 0, 0)) = true := by
      simp only [k_pyr_Need_0, hn, hr, hm4, vw, decide_true, Bool.and_self]
    cases he : empty (ndIn a b c d n r e f g h).1 (ndIn a b c d n r e f g h).2.1 (ndIn a b c d n r e f g h).2.2.1 (ndIn a b c d n r e f g h).2.2.2
    · rw [show ndF a b c d n r e f g h k = (ndL a b c d n (marg k) r (ndIn a b c d n r e f g h) r.toNat).set 0 (ndW a b c d n (marg k) r (ndIn a b c d n r e f g h) r.toNat) by simp only [ndF, ndOk, hv, hn, hr, hk, he, Bool.and_self, if_true, Bool.false_eq_true, if_false]]
      unfold ndIn at he
      simp only [hm, hk, hcn, hc0, he, hk0, ndL_len, Bool.not_true, Bool.false_eq_true, if_false, if_true]
      rw [if_neg (by omega), if_neg (by omega), if_pos (by omega), if_pos (by omega), if_pos (by omega)]
      rfl
    · rw [show ndF a b c d n r e f g h k = List.replicate (count n).toNat (0, 0, 0, 0) by simp only [ndF, ndOk, hv, hn, hr, hk, he, Bool.and_self, if_true]]
      unfold ndIn at he
      simp only [hm, hk, hcn, hc0, he, Bool.not_true, Bool.false_eq_true, if_false, if_true]
      rw [if_neg (by omega), if_neg (by omega), if_pos (by omega)]
      rfl
theorem s_pyr_Need : SoundFun Try.prog 21 G_pyr_Need := by
  refine fun_ok (tab := t_pyr_Need) (ann := annOf []) (lt := l_pyr_Need) (tab_cons s_pyr_Count (tab_cons s_pyr_Resolution (tab_cons s_rect_Intersect (tab_cons s_pyr_validLevels (tab_cons s_lift_Margin (tab_cons s_rect_Valid (tab_cons s_rect_Empty (tab_cons s_dwt_Bands tab_nil)))))))) (by kernel_rfl) (fn := Try.f21) (by kernel_rfl) (by decide) (c := bodyOf Try.f21) (by kernel_rfl) (by
    intro m b hb
    have hb' : b ∈ loopsOf (bodyOf Try.f21) := hb
    rw [o_pyr_Need] at hb'
    simp only [List.mem_cons, List.not_mem_nil, or_false] at hb'
    rcases hb' with rfl
    · exact loop_ok (key := 9) (by kernel_rfl) rfl r_pyr_Need_0 z_pyr_Need_0 m
    ) ?_ (keep_nil (by kernel_rfl))
  intro args lent o y0'
  unfold G_pyr_Need at y0'
  obtain ⟨q', args, rfl, y1'⟩ := pA_s y0'
  obtain ⟨a, b, c, d, q', rfl, y2'⟩ := t4_s y1'
  obtain ⟨rfl, y3'⟩ := tE_s y2'
  obtain ⟨n, args, rfl, y4'⟩ := pI_s y3'
  obtain ⟨r, args, rfl, y5'⟩ := pI_s y4'
  obtain ⟨q', args, rfl, y6'⟩ := pA_s y5'
  obtain ⟨e, f, g, h, q', rfl, y7'⟩ := t4_s y6'
  obtain ⟨rfl, y8'⟩ := tE_s y7'
  obtain ⟨k, args, rfl, y9'⟩ := pI_s y8'
  obtain ⟨rfl, y10'⟩ := pE_s y9'
  obtain ⟨rfl, y11'⟩ := nE_s y10'
  have yy' := y11'
  unfold H_pyr_Need at yy'
  obtain ⟨hok, rfl⟩ := Prod.mk.inj (Option.some.inj yy')
  exact ⟨20, q_pyr_Need _ _ _ _ _ _ _ _ _ _ _ hok⟩
theorem d_pyr_Bound_0 {α : Type} {vs : List V} {bl : List (Option Blk)} {K} {r : α} {Q : Prop} (y0' : D_pyr_Bound_0 vs bl K = some r) (hh' : ∀ (b : Int) (kk : Int) (o : Int) (m : Int) (t : Int), vs = [.one (.int .i64 b), .one (.int .i64 kk), .one (.int .i64 o), .one (.int .i64 m), .one (.int .i64 t)] → bl = [] → K b kk o m t = some r → Q) : Q := by
  unfold D_pyr_Bound_0 at y0'
  obtain ⟨b, vs, rfl, y1'⟩ := pI_s y0'
  obtain ⟨kk, vs, rfl, y2'⟩ := pI_s y1'
  obtain ⟨o, vs, rfl, y3'⟩ := pI_s y2'
  obtain ⟨m, vs, rfl, y4'⟩ := pI_s y3'
  obtain ⟨t, vs, rfl, y5'⟩ := pI_s y4'
  obtain ⟨rfl, y6'⟩ := pE_s y5'
  obtain ⟨rfl, y7'⟩ := bE_s y6'
  have yy' := y7'
  exact hh' _ _ _ _ _ rfl rfl yy'
theorem r_pyr_Bound_0 : RoundOk Try.prog t_pyr_Bound (annOf []) l_pyr_Bound Out 20 0 70 [0, 3, 10, 38, 39] (kxOf [0, 3, 10] [8]) (loopOf Try.f23 0) T_pyr_Bound_0 := by
  intro vs bl Kc r h
  unfold T_pyr_Bound_0 at h
  obtain ⟨t, y0', h'⟩ := getD_run h
  refine d_pyr_Bound_0 y0' fun b kk o m t u1' u2' yy' => ?_
  subst u1' u2'
  cases yy'
  exact (b_pyr_Bound_0 ..).trans h'
theorem o_pyr_Bound : loopsOf (bodyOf Try.f23) = [loopOf Try.f23 0] := by kernel_rfl
theorem zz_pyr_Bound_0 (b kk o m t : Int) (hk : k_pyr_Bound_0 b kk o m t = true) : ZZ (c_pyr_Bound_0 b kk o m t) T_pyr_Bound_0 [.one (.int .i64 b), .one (.int .i64 kk), .one (.int .i64 o), .one (.int .i64 m), .one (.int .i64 t)] [] := by
  simp only [k_pyr_Bound_0, Bool.and_eq_true, decide_eq_true_eq] at hk
  obtain ⟨rfl, z1⟩ := hk
  have b1 := inr_b z1
  refine Exists.elim (z_fold (T := T_pyr_Bound_0) (st := fun j => ([.one (.int .i64 (bnB kk b j)), .one (.int .i64 kk), .one (.int .i64 o), .one (.int .i64 m), .one (.int .i64 (j : Int))], [])) m.toNat (.leaf (.exit 0) [.one (.int .i64 (bnB kk b m.toNat)), .one (.int .i64 kk), .one (.int .i64 o)] []) (fun j hj F K => ?_) (fun F K => ?_)) (fun k hk => ⟨k, fun K r h => ?_⟩)
  · simp only [tu_pyr_Bound_0, U_pyr_Bound_0, LT.next, LT.run, ite2_bool, decide_eq_true_eq]
    rw [if_pos (by omega), wrap_in (n := (j : Int) + 1) (by omega) (by omega)]
    rfl
  · simp only [tu_pyr_Bound_0, U_pyr_Bound_0, LT.next, LT.run, ite2_bool, decide_eq_true_eq]
    rw [if_neg (by omega)]
  · exact hk K r h
theorem z_pyr_Bound_0 : ZOk S_pyr_Bound_0 T_pyr_Bound_0 := by
  intro vs bl t y0'
  refine d_pyr_Bound_0 y0' fun b kk o m t u1' u2' yy' => ?_
  subst u1' u2'
  obtain ⟨hk, rfl⟩ := Prod.mk.inj (Option.some.inj yy')
  exact zz_pyr_Bound_0 _ _ _ _ _ hk
theorem q_pyr_Bound (b n i k : Int) (hok : true = true) : funR Try.prog t_pyr_Bound (annOf []) l_pyr_Bound 20 Try.f23 [.one (.int .i64 b), .one (.int .i64 n), .one (.int .i64 i), .one (.int .i64 k)] [] = some ⟨.one (.int .i64 (bdP b n i k)), [], []⟩ := by
    refine (e_pyr_Bound ..).trans ?_
    have hm : (marg k == 0) = !inr 1 3 k := by
      rw [← marg_k]
      have : 0 ≤ marg k := by unfold marg; split <;> (try split) <;> omega
      by_cases h : marg k = 0
      · simp [h]
      · have h2 : marg k > 0 := by omega
        simp [h, h2]
    simp only [ite2_bool, decide_eq_true_eq, bdP, hm, bne_iff_ne, beq_iff_eq]
    by_cases h1 : b < 0
    · have h2 : decide (0 ≤ b) = false := by rw [decide_eq_false_iff_not]; omega
      simp [h1, h2]
    by_cases h3 : b > 1048576
    · have h2 : decide (b ≤ 1048576) = false := by rw [decide_eq_false_iff_not]; omega
      simp [h3, h2]
    cases hp : plOk i n
    · simp
    cases hk : inr 1 3 k
    · simp
    have pb := pl_b hp
    have h2 : decide (0 ≤ b) = true := by rw [decide_eq_true_eq]; omega
    have h4 : decide (b ≤ 1048576) = true := by rw [decide_eq_true_eq]; omega
    rw [h2, h4]
    by_cases hi : i = 0
    · subst hi
      have e1 : plLv 0 n = n := by simp [plLv, hp]
      have e2 : plOr 0 n = 0 := by simp [plOr, hp]
      have ki : inr 0 5 n = true := inr_t (by omega) (by omega)
      simp [k_pyr_Bound_0, e1, e2, ki, h1, h3, bdO]
    · have pd := pl_d hp hi
      have hi' : i > 0 := by omega
      have ki : inr 0 5 (plLv i n - 1) = true := inr_t (by omega) (by omega)
      have ho : plOr i n = 1 ∨ plOr i n = 2 ∨ plOr i n = 3 := by omega
      rw [wrap_in (n := plLv i n - 1) (by omega) (by omega)]
      rcases ho with ho | ho | ho <;> simp [k_pyr_Bound_0, ho, ki, hi, hi', h1, h3, bdO]
theorem s_pyr_Bound : SoundFun Try.prog 23 G_pyr_Bound := by
  refine fun_ok (tab := t_pyr_Bound) (ann := annOf []) (lt := l_pyr_Bound) (tab_cons s_pyr_Place (tab_cons s_lift_Margin (tab_cons s_lift_Low (tab_cons s_lift_High tab_nil)))) (by kernel_rfl) (fn := Try.f23) (by kernel_rfl) (by decide) (c := bodyOf Try.f23) (by kernel_rfl) (by
    intro m b hb
    have hb' : b ∈ loopsOf (bodyOf Try.f23) := hb
    rw [o_pyr_Bound] at hb'
    simp only [List.mem_cons, List.not_mem_nil, or_false] at hb'
    rcases hb' with rfl
    · exact loop_ok (key := 7) (by kernel_rfl) rfl r_pyr_Bound_0 z_pyr_Bound_0 m
    ) ?_ (keep_nil (by kernel_rfl))
  intro args lent o y0'
  unfold G_pyr_Bound at y0'
  obtain ⟨b, args, rfl, y1'⟩ := pI_s y0'
  obtain ⟨n, args, rfl, y2'⟩ := pI_s y1'
  obtain ⟨i, args, rfl, y3'⟩ := pI_s y2'
  obtain ⟨k, args, rfl, y4'⟩ := pI_s y3'
  obtain ⟨rfl, y5'⟩ := pE_s y4'
  obtain ⟨rfl, y6'⟩ := nE_s y5'
  have yy' := y6'
  unfold H_pyr_Bound at yy'
  obtain ⟨hok, rfl⟩ := Prod.mk.inj (Option.some.inj yy')
  exact ⟨20, q_pyr_Bound _ _ _ _ hok⟩
theorem sp_plV {a b c d k : Int} {l : List Int} (e : spErr a b c d k l = 0) : plV (bnd a b c d 0).1 (bnd a b c d 0).2.1 (bnd a b c d 0).2.2.1 (bnd a b c d 0).2.2.2 (spD0 a b c d k l) = true := by
  obtain ⟨hv, hk, hf⟩ := spErr_s e
  have pb := plV_b hv
  have hB := bnd_v pb.1
  have wb := bw_bh pb.1
  have sl := (spD_len e).1
  rw [wb.1, wb.2.2.1] at sl
  have ce := cev_bd (s := a) (n := c - a) (by omega)
  have cf := cev_bd (s := b) (n := d - b) (by omega)
  have h5 := Int.mul_le_mul ce.2 cf.2 cf.1 (by omega : 0 ≤ c - a)
  exact plV_n (l := spD0 a b c d k l) (x := cev a (c - a)) (y := cev b (d - b)) (valid_bnd (a := a) (b := b) (c := c) (d := d) (o := 0) (by omega) (by omega)) (by simp only [hB.1, cev]; omega) (by simp only [hB.1, cev]; omega) sl (by omega)
theorem spErr_i {a b c d k : Int} {l : List Int} (h1 : plV a b c d l = true) (h2 : inr 1 3 k = true) (h3 : fit 35184372088832 l) : spErr a b c d k l = 0 := by
  simp [spErr, h1, h2, fit_fitB h3]
theorem anS_ok {k : Int} {q : Rc × List Int} (hv : plVR q = true) (hk : inr 1 3 k = true) (hf : fit 1048576 q.2) : ∀ j, j ≤ 5 → plVR (anS k j q) = true ∧ fit (6 ^ j * 1048576) (anS k j q).2 ∧ spErr (anS k j q).1.1 (anS k j q).1.2.1 (anS k j q).1.2.2.1 (anS k j q).1.2.2.2 k (anS k j q).2 = 0
  | 0, _ => ⟨hv, by simpa [anS] using hf, spErr_i hv hk (fit_mono hf (by omega))⟩
  | j + 1, hj => by
    obtain ⟨h1, h2, h3⟩ := anS_ok hv hk hf j (by omega)
    have hB : (1 : Int) ≤ 6 ^ j ∧ (6 : Int) ^ j ≤ 1296 := by
      have : ∀ m : Nat, m < 5 → (1 : Int) ≤ 6 ^ m ∧ (6 : Int) ^ m ≤ 1296 := by decide
      exact this j (by omega)
    have e6 : (6 : Int) ^ (j + 1) = 6 ^ j * 6 := rfl
    have q0 := hb_le (b := 6 ^ j * 1048576) (k := k) (by omega) (inr_b hk)
    have q1 := hb_le (b := lb (6 ^ j * 1048576) k) (k := k) (by omega) (inr_b hk)
    have sf := (spD_fit h3 (by omega) h2).1
    have pv := sp_plV h3
    have f6 : fit (6 ^ (j + 1) * 1048576) (anS k (j + 1) q).2 := fit_mono sf (by rw [e6]; omega)
    exact ⟨pv, f6, spErr_i pv hk (fit_mono f6 (by rw [e6]; omega))⟩
theorem anAt_at {n k : Int} {q : Rc × List Int} {j t : Nat} (ht : n - (j : Int) = t) (h1 : 1 ≤ t) (o : Nat) (ho : 1 ≤ o) (ho3 : o ≤ 3) : anAt n k q (3 * t - 3 + o) = plT (bndR (anS k j q).1 o) (spDo o (anS k j q).1 k (anS k j q).2) := by
  have e1 : ((3 * t - 3 + o + 2 : Nat) : Int) / 3 = t := by omega
  have e2 : ((3 * t - 3 + o : Nat) : Int) - 3 * (((3 * t - 3 + o + 2 : Nat) : Int) / 3) + 3 = o := by rw [e1]; omega
  have e3 : (n - ((3 * t - 3 + o + 2 : Nat) : Int) / 3).toNat = j := by rw [e1]; omega
  unfold anAt
  rw [if_neg (by omega), e2, e3]
theorem anL_step {n k : Int} {q : Rc × List Int} {j t : Nat} (ht : n - (j : Int) = t) (h1 : 1 ≤ t) : (((anL n k q j).set (3 * t - 3 + 1) (plT (bndR (anS k j q).1 1) (spDo 1 (anS k j q).1 k (anS k j q).2))).set (3 * t - 3 + 2) (plT (bndR (anS k j q).1 2) (spDo 2 (anS k j q).1 k (anS k j q).2))).set (3 * t - 3 + 3) (plT (bndR (anS k j q).1 3) (spDo 3 (anS k j q).1 k (anS k j q).2)) = anL n k q (j + 1) := by
  have a1 := anAt_at (k := k) (q := q) ht h1 1 (by omega) (by omega)
  have a2 := anAt_at (k := k) (q := q) ht h1 2 (by omega) (by omega)
  have a3 := anAt_at (k := k) (q := q) ht h1 3 (by omega) (by omega)
  have g : ∀ o : Nat, 1 ≤ o → o ≤ 3 → anG n k q (j + 1) (3 * t - 3 + o) = anAt n k q (3 * t - 3 + o) := by
    intro o h2 h3
    unfold anG
    rw [if_pos (by omega)]
  have s := set3 (anG n k q j) (anG n k q (j + 1)) (3 * n + 1).toNat t h1 (fun i hi hne => by
    unfold anG
    by_cases hc : 1 ≤ i ∧ n - (i + 2 : Nat) / 3 < (j : Int)
    · rw [if_pos hc, if_pos (by omega)]
    · rw [if_neg hc, if_neg (by omega)])
  rw [g 1 (by omega) (by omega), g 2 (by omega) (by omega), g 3 (by omega) (by omega), a1, a2, a3] at s
  exact s
theorem anL_end {n k : Int} {q : Rc × List Int} (h0 : 0 ≤ n) : (anL n k q n.toNat).set 0 (plT (anS k n.toNat q).1 (anS k n.toNat q).2) = (List.range (3 * n + 1).toNat).map (anAt n k q) := by
  apply List.ext_getElem (by simp [anL])
  intro i h1 h2
  simp only [List.length_map, List.length_range] at h2
  simp only [anL, List.getElem_set, List.getElem_map, List.getElem_range]
  split
  · rename_i e; subst e; rfl
  · rw [if_pos (by omega)]
theorem anL_zero {n k : Int} {q : Rc × List Int} : anL n k q 0 = List.replicate (3 * n + 1).toNat ((0, 0, 0, 0), []) := by
  apply List.ext_getElem (by simp [anL])
  intro i h1 h2
  simp only [List.length_replicate] at h2
  simp only [anL, List.getElem_map, List.getElem_range, List.getElem_replicate]
  rw [if_neg (by omega)]
theorem d_pyr_Analyze_0 {α : Type} {vs : List V} {bl : List (Option Blk)} {K} {r : α} {Q : Prop} (y0' : D_pyr_Analyze_0 vs bl K = some r) (hh' : ∀ (a : Int) (b : Int) (c : Int) (d : Int) (n : Int) (kk : Int) (l : List Int) (v : List (Rc × List Int)), vs = [.one (.int .i64 kk), .one (.row 0), .one (.ptr 1 0), .one (.int .i64 n)] → bl = [some (.arr 33 (.pair (.pair (.int .i64) (.pair (.int .i64) (.pair (.int .i64) (.int .i64)))) (.sl (.int .i64))) v), some (.box [.int .i64 a, .int .i64 b, .int .i64 c, .int .i64 d, .row 2]), some (.arr 3 (.int .i64) l)] → K a b c d n kk l v = some r → Q) : Q := by
  unfold D_pyr_Analyze_0 at y0'
  obtain ⟨kk, vs, rfl, y1'⟩ := pI_s y0'
  obtain ⟨c', vs, rfl, y2'⟩ := pO_s y1'
  obtain ⟨rfl, y3'⟩ := kR_s y2'
  obtain ⟨vs, rfl, y4'⟩ := pP_s y3'
  obtain ⟨n, vs, rfl, y5'⟩ := pI_s y4'
  obtain ⟨rfl, y6'⟩ := pE_s y5'
  obtain ⟨v, bl, rfl, y7'⟩ := bAN_s y6'
  obtain ⟨q', bl, rfl, y8'⟩ := bB_s y7'
  obtain ⟨a, b, c, d, rfl, y9'⟩ := rd1P_s y8'
  obtain ⟨l, bl, rfl, y10'⟩ := bAI_s y9'
  obtain ⟨rfl, y11'⟩ := bE_s y10'
  have yy' := y11'
  exact hh' _ _ _ _ _ _ _ _ rfl rfl yy'
theorem r_pyr_Analyze_0 : RoundOk Try.prog t_pyr_Analyze (annOf []) l_pyr_Analyze Out 20 0 71 [2, 8, 9, 10] (kxOf [8, 9] [6, 7]) (loopOf Try.f18 0) T_pyr_Analyze_0 := by
  intro vs bl Kc r h
  unfold T_pyr_Analyze_0 at h
  obtain ⟨t, y0', h'⟩ := getD_run h
  refine d_pyr_Analyze_0 y0' fun a b c d n kk l v u1' u2' yy' => ?_
  subst u1' u2'
  cases yy'
  exact (b_pyr_Analyze_0 ..).trans h'
theorem o_pyr_Analyze : loopsOf (bodyOf Try.f18) = [loopOf Try.f18 0, loopOf Try.f18 1] := by kernel_rfl
theorem zz_pyr_Analyze_0 (a b c d n kk : Int) (l : List Int) (v : List (Rc × List Int)) (hk : k_pyr_Analyze_0 a b c d n kk l v = true) : ZZ (c_pyr_Analyze_0 a b c d n kk l v) T_pyr_Analyze_0 [.one (.int .i64 kk), .one (.row 0), .one (.ptr 1 0), .one (.int .i64 n)] [some (.arr 33 (.pair (.pair (.int .i64) (.pair (.int .i64) (.pair (.int .i64) (.int .i64)))) (.sl (.int .i64))) v), some (.box [.int .i64 a, .int .i64 b, .int .i64 c, .int .i64 d, .row 2]), some (.arr 3 (.int .i64) l)] := by
  simp only [k_pyr_Analyze_0, Bool.and_eq_true, decide_eq_true_eq] at hk
  obtain ⟨⟨⟨⟨z1, hv⟩, z2⟩, hf⟩, rfl⟩ := hk
  have b1 := inr_b z1
  have so := anS_ok (k := kk) (q := ((a, b, c, d), l)) hv z2 (fitB_fit hf)
  refine Exists.elim (z_fold (T := T_pyr_Analyze_0) (st := fun j => ([.one (.int .i64 kk), .one (.row 0), .one (.ptr 1 0), .one (.int .i64 (n - (j : Int)))], [some (.arr 33 (.pair (.pair (.int .i64) (.pair (.int .i64) (.pair (.int .i64) (.int .i64)))) (.sl (.int .i64))) (anL n kk ((a, b, c, d), l) j)), some (.box [.int .i64 ((anS kk j ((a, b, c, d), l)).1.1), .int .i64 ((anS kk j ((a, b, c, d), l)).1.2.1), .int .i64 ((anS kk j ((a, b, c, d), l)).1.2.2.1), .int .i64 ((anS kk j ((a, b, c, d), l)).1.2.2.2), .row 2]), some (.arr 3 (.int .i64) (anS kk j ((a, b, c, d), l)).2)])) n.toNat (.leaf (.exit 0) [.one (.row 0), .one (.ptr 1 0)] [some (.arr 33 (.pair (.pair (.int .i64) (.pair (.int .i64) (.pair (.int .i64) (.int .i64)))) (.sl (.int .i64))) (anL n kk ((a, b, c, d), l) n.toNat)), some (.box [.int .i64 ((anS kk n.toNat ((a, b, c, d), l)).1.1), .int .i64 ((anS kk n.toNat ((a, b, c, d), l)).1.2.1), .int .i64 ((anS kk n.toNat ((a, b, c, d), l)).1.2.2.1), .int .i64 ((anS kk n.toNat ((a, b, c, d), l)).1.2.2.2), .row 2]), some (.arr 3 (.int .i64) (anS kk n.toNat ((a, b, c, d), l)).2)]) (fun j hj F K => ?_) (fun F K => ?_)) (fun k hk => ⟨k, fun K r h => ?_⟩)
  · obtain ⟨q, hq⟩ : ∃ q : Nat, n - (j : Int) = q := ⟨(n - (j : Int)).toNat, by omega⟩
    obtain ⟨p1, p2, p3⟩ := so j (by omega)
    have pb := plV_b p1
    have hl : (anL n kk ((a, b, c, d), l) j).length = (3 * n + 1).toNat := by simp [anL]
    have hs := anL_step (k := kk) (q := ((a, b, c, d), l)) hq (by omega)
    have hr : ∀ o, spR (anS kk j ((a, b, c, d), l)).1.1 (anS kk j ((a, b, c, d), l)).1.2.1 (anS kk j ((a, b, c, d), l)).1.2.2.1 (anS kk j ((a, b, c, d), l)).1.2.2.2 kk (anS kk j ((a, b, c, d), l)).2 o = bnd (anS kk j ((a, b, c, d), l)).1.1 (anS kk j ((a, b, c, d), l)).1.2.1 (anS kk j ((a, b, c, d), l)).1.2.2.1 (anS kk j ((a, b, c, d), l)).1.2.2.2 o := fun o => by simp only [spR, p3, if_true]
    have hsm : small (anS kk j ((a, b, c, d), l)).2.length = true := by simp only [small, decide_eq_true_eq]; omega
    simp only [tu_pyr_Analyze_0, U_pyr_Analyze_0, LT.next, LT.run, ite2_bool, decide_eq_true_eq, hq, List.length_set, hl, hr, p3]
    have i1 : IntKind.wrap .i64 (IntKind.wrap .i64 (IntKind.wrap .i64 (3 * (q : Int)) - 3) + 1) = ((3 * q - 3 + 1 : Nat) : Int) := by rw [wrap_in (n := 3 * (q : Int)) (by omega) (by omega), wrap_in (n := 3 * (q : Int) - 3) (by omega) (by omega), wrap_in (by omega) (by omega)]; omega
    have i2 : IntKind.wrap .i64 (IntKind.wrap .i64 (IntKind.wrap .i64 (3 * (q : Int)) - 3) + 2) = ((3 * q - 3 + 2 : Nat) : Int) := by rw [wrap_in (n := 3 * (q : Int)) (by omega) (by omega), wrap_in (n := 3 * (q : Int) - 3) (by omega) (by omega), wrap_in (by omega) (by omega)]; omega
    have i3 : IntKind.wrap .i64 (IntKind.wrap .i64 (IntKind.wrap .i64 (3 * (q : Int)) - 3) + 3) = ((3 * q - 3 + 3 : Nat) : Int) := by rw [wrap_in (n := 3 * (q : Int)) (by omega) (by omega), wrap_in (n := 3 * (q : Int) - 3) (by omega) (by omega), wrap_in (by omega) (by omega)]; omega
    simp only [i1, i2]
    simp only [i3, Int.toNat_natCast]
    rw [if_pos (by omega), if_pos hsm, if_neg (by decide), if_pos (by omega), if_pos (by omega), if_pos (by omega), if_pos (by omega), if_pos (by omega), if_pos (by omega), wrap_in (n := (q : Int) - 1) (by omega) (by omega), show (q : Int) - 1 = n - ((j + 1 : Nat) : Int) by omega, ← hs]
    rfl
  · simp only [tu_pyr_Analyze_0, U_pyr_Analyze_0, LT.next, LT.run, ite2_bool, decide_eq_true_eq]
    rw [if_neg (by omega)]
  · have hk' := hk K r h
    rw [show n - ((0 : Nat) : Int) = n by simp, anL_zero] at hk'
    exact hk'
theorem z_pyr_Analyze_0 : ZOk S_pyr_Analyze_0 T_pyr_Analyze_0 := by
  intro vs bl t y0'
  refine d_pyr_Analyze_0 y0' fun a b c d n kk l v u1' u2' yy' => ?_
  subst u1' u2'
  obtain ⟨hk, rfl⟩ := Prod.mk.inj (Option.some.inj yy')
  exact zz_pyr_Analyze_0 _ _ _ _ _ _ _ _ hk
theorem q_pyr_Analyze (a b c d n k : Int) (l : List Int) (hok : small l.length = true) : funR Try.prog t_pyr_Analyze (annOf []) l_pyr_Analyze 20 Try.f18 [.agg [.int .i64 a, .int .i64 b, .int .i64 c, .int .i64 d, .lst (.int .i64) l], .one (.int .i64 n), .one (.int .i64 k)] [] = some ⟨.tup [(false, [.row 0]), (false, [.int .i64 (anErr a b c d n k l)])], [], [.arr 33 (.pair (.pair (.int .i64) (.pair (.int .i64) (.pair (.int .i64) (.int .i64)))) (.sl (.int .i64))) (anF a b c d n k l)]⟩ := by
    refine (e_pyr_Analyze ..).trans ?_
    have hm : (marg k == 0) = !inr 1 3 k := by
      rw [← marg_k]
      have : 0 ≤ marg k := by unfold marg; split <;> (try split) <;> omega
      by_cases h : marg k = 0
      · simp [h]
      · have h2 : marg k > 0 := by omega
        simp [h, h2]
    simp only [ite2_bool, decide_eq_true_eq, hm, List.nil_append, Nat.zero_add]
    cases hv : plV a b c d l
    · simp [anErr, anF, hv] <;> rfl
    cases hk : inr 1 3 k
    · simp [anErr, anF, hv, hk] <;> rfl
    cases hn : inr 0 5 n
    · simp [anErr, anF, hv, hk, hn, count] <;> rfl
    cases hf : fitB 1048576 l
    · have hb := inr_b hn
      have hc0 : ¬ count n = 0 := by simp only [count, hn, if_true]; omega
      simp [anErr, anF, hv, hk, hn, hf, hok, hc0] <;> rfl
    have pb := plV_b hv
    have hb := inr_b hn
    have e : anErr a b c d n k l = 0 := by simp [anErr, hv, hk, hn, hf]
    have hcn : count n = 3 * n + 1 := by simp only [count, hn, if_true]
    have hc0 : (3 * n + 1 == 0) = false := by simp only [beq_eq_false_iff_ne, ne_eq]; omega
    have hl : (anL n k ((a, b, c, d), l) n.toNat).length = (3 * n + 1).toNat := by simp [anL]
    rw [hcn, e]
    simp only [hc0, hok, Bool.and_true, Bool.not_true, Bool.false_eq_true, if_false, if_true, hl]
    rw [if_pos (by omega), if_pos (by omega), if_pos (by simp only [k_pyr_Analyze_0, hn, hv, hk, hf, decide_true, Bool.and_self]), if_pos (by omega), if_pos (by omega)]
    unfold anF
    rw [if_pos e, ← anL_end hb.1]
    rfl
theorem s_pyr_Analyze : SoundFun Try.prog 18 G_pyr_Analyze := by
  refine fun_ok (tab := t_pyr_Analyze) (ann := annOf []) (lt := l_pyr_Analyze) (tab_cons s_pyr_Count (tab_cons s_dwt_Split (tab_cons s_pyr_validLevels (tab_cons s_pl_Valid (tab_cons s_lift_Margin (tab_cons s_pyr_exceeds tab_nil)))))) (by kernel_rfl) (fn := Try.f18) (by kernel_rfl) (by decide) (c := bodyOf Try.f18) (by kernel_rfl) (by
    intro m b hb
    have hb' : b ∈ loopsOf (bodyOf Try.f18) := hb
    rw [o_pyr_Analyze] at hb'
    simp only [List.mem_cons, List.not_mem_nil, or_false] at hb'
    rcases hb' with rfl | rfl
    · exact loop_ok (key := 10) (by kernel_rfl) rfl r_pyr_Analyze_0 z_pyr_Analyze_0 m
    · exact loop_none (by kernel_rfl) m
    ) ?_ (keep_nil (by kernel_rfl))
  intro args lent o y0'
  unfold G_pyr_Analyze at y0'
  obtain ⟨q', args, rfl, y1'⟩ := pA_s y0'
  obtain ⟨a, b, c, d, q', rfl, y2'⟩ := t4_s y1'
  obtain ⟨c', q', rfl, y3'⟩ := tC_s y2'
  obtain ⟨l, rfl, y4'⟩ := kLI_s y3'
  obtain ⟨rfl, y5'⟩ := tE_s y4'
  obtain ⟨n, args, rfl, y6'⟩ := pI_s y5'
  obtain ⟨k, args, rfl, y7'⟩ := pI_s y6'
  obtain ⟨rfl, y8'⟩ := pE_s y7'
  obtain ⟨rfl, y9'⟩ := nE_s y8'
  have yy' := y9'
  unfold H_pyr_Analyze at yy'
  obtain ⟨hok, rfl⟩ := Prod.mk.inj (Option.some.inj yy')
  exact ⟨20, q_pyr_Analyze _ _ _ _ _ _ _ hok⟩
theorem d_law_same_0 {α : Type} {vs : List V} {bl : List (Option Blk)} {K} {r : α} {Q : Prop} (y0' : D_law_same_0 vs bl K = some r) (hh' : ∀ (a : Int) (b : Int) (c : Int) (d : Int) (a1 : Int) (b1 : Int) (c1 : Int) (d1 : Int) (l : List Int) (m : List Int) (n : Int) (i : Int), vs = [.one (.ptr 0 0), .one (.ptr 1 0), .one (.int .i64 n), .one (.int .i64 i)] → bl = [some (.box [.int .i64 a, .int .i64 b, .int .i64 c, .int .i64 d, .lst (.int .i64) l]), some (.box [.int .i64 a1, .int .i64 b1, .int .i64 c1, .int .i64 d1, .lst (.int .i64) m])] → K a b c d a1 b1 c1 d1 l m n i = some r → Q) : Q := by
  unfold D_law_same_0 at y0'
  obtain ⟨vs, rfl, y1'⟩ := pP_s y0'
  obtain ⟨vs, rfl, y2'⟩ := pP_s y1'
  obtain ⟨n, vs, rfl, y3'⟩ := pI_s y2'
  obtain ⟨i, vs, rfl, y4'⟩ := pI_s y3'
  obtain ⟨rfl, y5'⟩ := pE_s y4'
  obtain ⟨q', bl, rfl, y6'⟩ := bB_s y5'
  obtain ⟨a, b, c, d, q', rfl, y7'⟩ := t4_s y6'
  obtain ⟨c', q', rfl, y8'⟩ := tC_s y7'
  obtain ⟨l, rfl, y9'⟩ := kLI_s y8'
  obtain ⟨rfl, y10'⟩ := tE_s y9'
  obtain ⟨q', bl, rfl, y11'⟩ := bB_s y10'
  obtain ⟨a1, b1, c1, d1, q', rfl, y12'⟩ := t4_s y11'
  obtain ⟨c', q', rfl, y13'⟩ := tC_s y12'
  obtain ⟨m, rfl, y14'⟩ := kLI_s y13'
  obtain ⟨rfl, y15'⟩ := tE_s y14'
  obtain ⟨rfl, y16'⟩ := bE_s y15'
  have yy' := y16'
  exact hh' _ _ _ _ _ _ _ _ _ _ _ _ rfl rfl yy'
theorem r_law_same_0 : RoundOk Try.prog t_law_same (annOf []) l_law_same Out 20 0 38 [2, 3, 22, 23] (kxOf [] [4]) (loopOf Try.f32 0) T_law_same_0 := by
  intro vs bl Kc r h
  unfold T_law_same_0 at h
  obtain ⟨t, y0', h'⟩ := getD_run h
  refine d_law_same_0 y0' fun a b c d a1 b1 c1 d1 l m n i u1' u2' yy' => ?_
  subst u1' u2'
  cases yy'
  exact (b_law_same_0 ..).trans h'
theorem o_law_same : loopsOf (bodyOf Try.f32) = [loopOf Try.f32 0] := by kernel_rfl
theorem zz_law_same_0 (a b c d a1 b1 c1 d1 : Int) (l m : List Int) (hsm : small (l.length) = true) (hc : decide (l.length = m.length) = true) : ZZ (c_law_same_0 a b c d a1 b1 c1 d1 l m) T_law_same_0 [.one (.ptr 0 0), .one (.ptr 1 0), .one (.int .i64 (l.length : Int)), .one (.int .i64 0)] [some (.box [.int .i64 a, .int .i64 b, .int .i64 c, .int .i64 d, .lst (.int .i64) l]), some (.box [.int .i64 a1, .int .i64 b1, .int .i64 c1, .int .i64 d1, .lst (.int .i64) m])] := by
  refine z_idx (st := fun i => ([.one (.ptr 0 0), .one (.ptr 1 0), .one (.int .i64 (l.length : Int)), .one (.int .i64 ((i : Nat) : Int))], [some (.box [.int .i64 a, .int .i64 b, .int .i64 c, .int .i64 d, .lst (.int .i64) l]), some (.box [.int .i64 a1, .int .i64 b1, .int .i64 c1, .int .i64 d1, .lst (.int .i64) m])])) (l.length) (fun j => gI l j == gI m j) _ _ (fun i hi F K => ?_) (fun F K => ?_)
  · have hi' : (i : Int) < (l.length : Int) := by omega
    have hc' := hc
    simp only [Bool.and_eq_true, decide_eq_true_eq] at hc'
    simp only [tu_law_same_0, U_law_same_0, LT.next, LT.run, ite2_dec, ite2_bool, wrap_next hi hsm, Int.toNat_natCast, hi', Int.natCast_nonneg, and_self, if_true, gI, gP, gC, gR]
    have hj : (i : Int) < (m.length : Int) := by omega
    simp [hj, gI] <;> (repeat' split) <;> simp_all
  · simp only [tu_law_same_0, U_law_same_0, LT.next, LT.run, ite2_dec, Int.lt_irrefl, if_false]
    try rfl
theorem z_law_same_0 : ZOk S_law_same_0 T_law_same_0 := by
  intro vs bl t y0'
  refine d_law_same_0 y0' fun a b c d a1 b1 c1 d1 l m n i u1' u2' yy' => ?_
  subst u1' u2'
  obtain ⟨hk, rfl⟩ := Prod.mk.inj (Option.some.inj yy')
  unfold k_law_same_0 at hk
  simp only [Bool.and_eq_true, decide_eq_true_eq, and_assoc] at hk
  obtain ⟨rfl, rfl, hsm, hc⟩ := hk
  exact zz_law_same_0 _ _ _ _ _ _ _ _ _ _ hsm (by first | exact hc | simpa using hc)
theorem q_law_same (a b c d a1 b1 c1 d1 : Int) (l m : List Int) (hok : small l.length = true) : funR Try.prog t_law_same (annOf []) l_law_same 20 Try.f32 [.agg [.int .i64 a, .int .i64 b, .int .i64 c, .int .i64 d, .lst (.int .i64) l], .agg [.int .i64 a1, .int .i64 b1, .int .i64 c1, .int .i64 d1, .lst (.int .i64) m]] [] = some ⟨.one (.bool (samePl a b c d l a1 b1 c1 d1 m)), [], []⟩ := by
    refine (e_law_same ..).trans ?_
    simp only [ite2_bool, k_law_same_0, p_law_same_0, samePl]
    rw [show (a == a1 && (b == b1 && (c == c1 && (d == d1 && true)))) = isR a b c d (a1, b1, c1, d1) from rfl]
    cases hR : isR a b c d (a1, b1, c1, d1)
    · simp
    by_cases hl : l.length = m.length
    · have hq : (List.range l.length).all (fun j => gI l j == gI m j) = decide (l = m) := all_eq l m (0 : Int) hl
      rw [hl] at hok
      rw [hq]
      simp [hl, hok]
      (repeat' split) <;> simp_all
    · have g1 : l ≠ m := fun e => hl (by rw [e])
      have g2 : ¬ ((l.length : Int) = m.length) := by omega
      simp [g1, g2]
theorem s_law_same : SoundFun Try.prog 32 G_law_same := by
  refine fun_ok (tab := t_law_same) (ann := annOf []) (lt := l_law_same) tab_nil (by kernel_rfl) (fn := Try.f32) (by kernel_rfl) (by decide) (c := bodyOf Try.f32) (by kernel_rfl) (by
    intro m b hb
    have hb' : b ∈ loopsOf (bodyOf Try.f32) := hb
    rw [o_law_same] at hb'
    simp only [List.mem_cons, List.not_mem_nil, or_false] at hb'
    rcases hb' with rfl
    · exact loop_ok (key := 4) (by kernel_rfl) rfl r_law_same_0 z_law_same_0 m
    ) ?_ (keep_nil (by kernel_rfl))
  intro args lent o y0'
  unfold G_law_same at y0'
  obtain ⟨q', args, rfl, y1'⟩ := pA_s y0'
  obtain ⟨a, b, c, d, q', rfl, y2'⟩ := t4_s y1'
  obtain ⟨c', q', rfl, y3'⟩ := tC_s y2'
  obtain ⟨l, rfl, y4'⟩ := kLI_s y3'
  obtain ⟨rfl, y5'⟩ := tE_s y4'
  obtain ⟨q', args, rfl, y6'⟩ := pA_s y5'
  obtain ⟨a1, b1, c1, d1, q', rfl, y7'⟩ := t4_s y6'
  obtain ⟨c', q', rfl, y8'⟩ := tC_s y7'
  obtain ⟨m, rfl, y9'⟩ := kLI_s y8'
  obtain ⟨rfl, y10'⟩ := tE_s y9'
  obtain ⟨rfl, y11'⟩ := pE_s y10'
  obtain ⟨rfl, y12'⟩ := nE_s y11'
  have yy' := y12'
  unfold H_law_same at yy'
  obtain ⟨hok, rfl⟩ := Prod.mk.inj (Option.some.inj yy')
  exact ⟨20, q_law_same _ _ _ _ _ _ _ _ _ _ hok⟩
theorem samePl_refl (a b c d : Int) (l : List Int) : samePl a b c d l a b c d l = true := by simp [samePl, isR]
theorem smAll_ix {l : List (Rc × List Int)} (h : smAll l = true) {i : Nat} (hi : i < l.length) : small l[i].2.length = true := by
  unfold smAll at h
  rw [List.all_eq_true] at h
  exact h _ (List.getElem_mem hi)
theorem q_awake  (hok : true = true) : funR Try.prog t_awake (annOf []) l_awake 20 Try.f17 [] [] = some ⟨.one (.bool true), [], []⟩ := by
    refine (e_awake ..).trans ?_
    kernel_rfl
theorem s_awake : SoundFun Try.prog 17 G_awake := by
  refine fun_ok (tab := t_awake) (ann := annOf []) (lt := l_awake) (tab_cons s_pyr_Place (tab_cons s_pyr_Count (tab_cons s_pyr_Indices (tab_cons s_pyr_Analyze (tab_cons s_pyr_Need (tab_cons s_pyr_Bound (tab_cons s_pyr_Resolution tab_nil))))))) (by kernel_rfl) (fn := Try.f17) (by kernel_rfl) (by decide) (c := bodyOf Try.f17) (by kernel_rfl) (no_loops (by kernel_rfl)) ?_ (keep_nil (by kernel_rfl))
  intro args lent o y0'
  unfold G_awake at y0'
  obtain ⟨rfl, y1'⟩ := pE_s y0'
  obtain ⟨rfl, y2'⟩ := nE_s y1'
  have yy' := y2'
  unfold H_awake at yy'
  obtain ⟨hok, rfl⟩ := Prod.mk.inj (Option.some.inj yy')
  exact ⟨20, q_awake hok⟩
theorem small_d {n : Nat} (h : n ≤ 16777216) : small n = true := by simp only [small, decide_eq_true_eq]; omega

end Go.Rx.Ch06
