/- The summaries of these functions are sound. -/
import Derived.Test.YtmkifbcadobmjaaRE6
import Derived.Test.YtmkifbcadobmjaaRS5
set_option linter.unnecessarySimpa false
set_option linter.unusedVariables false
set_option linter.unusedSimpArgs false
set_option linter.unusedVariables false
set_option linter.unusedSimpArgs false
set_option maxRecDepth 100000
set_option maxHeartbeats 4000000
open Go Go.Rx Go.Proofs
namespace Go.Rx.Ch23
theorem wrapu_in {n : Int} (h0 : 0 ≤ n) (h1 : n < 18446744073709551616) : IntKind.wrap .u64 n = n := by
  simp [IntKind.wrap, IntKind.bits, IntKind.signed]; omega
theorem wrap8_in {n : Int} (h0 : 0 ≤ n) (h1 : n < 256) : IntKind.wrap .u8 n = n := by
  simp [IntKind.wrap, IntKind.bits, IntKind.signed]; omega
theorem qthr_b {a b : Int} (h : qvalid a b = true) : 1 ≤ qthr a b ∧ qthr a b ≤ 131072 := by
  have := qmul h
  simp only [qthr, h, if_true]
  omega
theorem qdiv {m a : Int} (h : 0 ≤ m) (ha : 1 ≤ a) : 0 ≤ m / a ∧ m / a ≤ m := ⟨Int.ediv_nonneg h (by omega), Int.ediv_le_self _ h⟩
theorem quantz_b (c a b : Int) : 0 ≤ quantz c a b ∧ quantz c a b ≤ 281474976710657 := by
  unfold quantz
  split
  · rename_i hq
    have := qthr_b hq
    split
    · have := qdiv (m := min c 281474976710656 - qthr a b) (a := a) (by omega) (qmul hq).1
      omega
    · omega
  · omega
theorem digsN_st : ∀ (m j : Nat) (z : Int), z < 2 ^ m → digsN (m + j) z = digsN m z
  | 0, j, z, h => by
    cases j with
    | zero => rfl
    | succ j => simp only [Nat.zero_add, digsN]; rw [if_pos (by simp at h; omega)]
  | m + 1, j, z, h => by
    rw [Nat.add_right_comm]
    simp only [digsN]
    split
    · rfl
    · rw [digsN_st m j (z / 2) (by rw [Int.pow_succ] at h; omega)]
theorem digsN_sh : ∀ (j m : Nat) (x : Int), 2 ^ j ≤ x → digsN (m + j) x = j + digsN m (x / 2 ^ j)
  | 0, m, x, h => by simp
  | j + 1, m, x, h => by
    have h0 : (0 : Int) < 2 ^ j := Int.pow_pos (by omega)
    rw [Int.pow_succ] at h
    rw [← Nat.add_assoc]
    simp only [digsN]
    rw [if_neg (by omega), digsN_sh j m (x / 2) (by omega), Int.ediv_ediv_of_nonneg (by omega), Int.pow_succ, Int.mul_comm 2]
    push_cast
    omega
theorem digs8 {x : Int} (h : 256 ≤ x) (hx : x < 9223372036854775808) : digs x = 8 + digs (x / 256) := by
  have h1 := digsN_sh 8 55 x (by omega)
  have h2 := digsN_st 55 8 (x / 256) (by omega)
  unfold digs
  simp only [Nat.reduceAdd, Int.reducePow] at h1 h2
  rw [h1, ← h2]; rfl
theorem digs16 {x : Int} (h : 65536 ≤ x) (hx : x < 9223372036854775808) : digs x = 16 + digs (x / 65536) := by
  have h1 := digsN_sh 16 47 x (by omega)
  have h2 := digsN_st 47 16 (x / 65536) (by omega)
  unfold digs
  simp only [Nat.reduceAdd, Int.reducePow] at h1 h2
  rw [h1, ← h2]; rfl
theorem digs32 {x : Int} (h : 4294967296 ≤ x) (hx : x < 9223372036854775808) : digs x = 32 + digs (x / 4294967296) := by
  have h1 := digsN_sh 32 31 x (by omega)
  have h2 := digsN_st 31 32 (x / 4294967296) (by omega)
  unfold digs
  simp only [Nat.reduceAdd, Int.reducePow] at h1 h2
  rw [h1, ← h2]; rfl
theorem shl_pw0 : ∀ m : Nat, m < 13 → IntKind.wrap .i64 (1 * 2 ^ min m 64) = 2 ^ m := by decide

theorem q_qlimit (a b c : Int) (hok : true = true) : funR Try.prog t_qlimit (annOf []) l_qlimit 20 Try.f82 [.one (.int .i64 a), .one (.int .i64 b), .one (.int .i64 c)] [] = some ⟨.one (.int .i64 (min (max a b) c)), [], []⟩ := by
    refine (e_qlimit ..).trans ?_
    simp only [mx_eq, mn_eq]
theorem s_qlimit : SoundFun Try.prog 82 G_qlimit := by
  refine fun_ok (tab := t_qlimit) (ann := annOf []) (lt := l_qlimit) tab_nil (by kernel_rfl) (fn := Try.f82) (by kernel_rfl) (by decide) (c := bodyOf Try.f82) (by kernel_rfl) (fun m b hb => absurd hb (by show b ∉ loopsOf (bodyOf Try.f82); rw [show loopsOf (bodyOf Try.f82) = [] from by kernel_rfl]; exact List.not_mem_nil)) ?_
  intro args lent o y0'
  unfold G_qlimit at y0'
  obtain ⟨c', args, rfl, y1'⟩ := pO_s y0'
  obtain ⟨a, rfl, y2'⟩ := kI_s y1'
  obtain ⟨c', args, rfl, y3'⟩ := pO_s y2'
  obtain ⟨b, rfl, y4'⟩ := kI_s y3'
  obtain ⟨c', args, rfl, y5'⟩ := pO_s y4'
  obtain ⟨c, rfl, y6'⟩ := kI_s y5'
  obtain ⟨rfl, y7'⟩ := pE_s y6'
  obtain ⟨rfl, y8'⟩ := nE_s y7'
  have yy' := y8'
  unfold H_qlimit at yy'
  obtain ⟨hok, rfl⟩ := Prod.mk.inj (Option.some.inj yy')
  exact ⟨20, q_qlimit _ _ _ hok⟩
theorem q_ref08_limit (a b : Int) (hok : true = true) : funR Try.prog t_ref08_limit (annOf []) l_ref08_limit 20 Try.f83 [.one (.int .i64 a), .one (.int .i64 b)] [] = some ⟨.one (.int .i64 (min (max a (w (0 - b))) b)), [], []⟩ := by
    refine (e_ref08_limit ..).trans ?_
    simp only [mx_eq, mn_eq]
theorem s_ref08_limit : SoundFun Try.prog 83 G_ref08_limit := by
  refine fun_ok (tab := t_ref08_limit) (ann := annOf []) (lt := l_ref08_limit) tab_nil (by kernel_rfl) (fn := Try.f83) (by kernel_rfl) (by decide) (c := bodyOf Try.f83) (by kernel_rfl) (fun m b hb => absurd hb (by show b ∉ loopsOf (bodyOf Try.f83); rw [show loopsOf (bodyOf Try.f83) = [] from by kernel_rfl]; exact List.not_mem_nil)) ?_
  intro args lent o y0'
  unfold G_ref08_limit at y0'
  obtain ⟨c', args, rfl, y1'⟩ := pO_s y0'
  obtain ⟨a, rfl, y2'⟩ := kI_s y1'
  obtain ⟨c', args, rfl, y3'⟩ := pO_s y2'
  obtain ⟨b, rfl, y4'⟩ := kI_s y3'
  obtain ⟨rfl, y5'⟩ := pE_s y4'
  obtain ⟨rfl, y6'⟩ := nE_s y5'
  have yy' := y6'
  unfold H_ref08_limit at yy'
  obtain ⟨hok, rfl⟩ := Prod.mk.inj (Option.some.inj yy')
  exact ⟨20, q_ref08_limit _ _ hok⟩
theorem q_quant_Quantize (c a b : Int) (hok : decide (0 ≤ c) = true) : funR Try.prog t_quant_Quantize (annOf []) l_quant_Quantize 20 Try.f73 [.one (.int .i64 c), .one (.int .i64 a), .one (.int .i64 b)] [] = some ⟨.one (.int .i64 (quantz c a b)), [], []⟩ := by
    refine (e_quant_Quantize ..).trans ?_
    simp only [decide_eq_true_eq] at hok
    have e : min (max c (-281474976710656)) 281474976710656 = min c 281474976710656 := by omega
    simp only [ite2_bool, decide_eq_true_eq, quantz, e]
    cases hq : qvalid a b
    · simp [qthr, hq]
    · have hb := qthr_b hq
      have ha := (qmul hq).1
      by_cases h : min c 281474976710656 ≥ qthr a b
      · have hd := qdiv (m := min c 281474976710656 - qthr a b) (a := a) (by omega) ha
        simp only [h, if_true, Bool.not_true, Bool.false_eq_true, if_false, ge_iff_le]
        simp (disch := omega) only [wrap_in, wrapu_in, Int.tdiv_eq_ediv_of_nonneg]
        simp; omega
      · simp (disch := omega) only [wrap_in, wrapu_in, Int.tdiv_eq_ediv_of_nonneg]
        simp [h]; omega
theorem s_quant_Quantize : SoundFun Try.prog 73 G_quant_Quantize := by
  refine fun_ok (tab := t_quant_Quantize) (ann := annOf []) (lt := l_quant_Quantize) (tab_cons s_quant_Valid (tab_cons s_quant_Threshold (tab_cons s_qlimit tab_nil))) (by kernel_rfl) (fn := Try.f73) (by kernel_rfl) (by decide) (c := bodyOf Try.f73) (by kernel_rfl) (fun m b hb => absurd hb (by show b ∉ loopsOf (bodyOf Try.f73); rw [show loopsOf (bodyOf Try.f73) = [] from by kernel_rfl]; exact List.not_mem_nil)) ?_
  intro args lent o y0'
  unfold G_quant_Quantize at y0'
  obtain ⟨c', args, rfl, y1'⟩ := pO_s y0'
  obtain ⟨c, rfl, y2'⟩ := kI_s y1'
  obtain ⟨c', args, rfl, y3'⟩ := pO_s y2'
  obtain ⟨a, rfl, y4'⟩ := kI_s y3'
  obtain ⟨c', args, rfl, y5'⟩ := pO_s y4'
  obtain ⟨b, rfl, y6'⟩ := kI_s y5'
  obtain ⟨rfl, y7'⟩ := pE_s y6'
  obtain ⟨rfl, y8'⟩ := nE_s y7'
  have yy' := y8'
  unfold H_quant_Quantize at yy'
  obtain ⟨hok, rfl⟩ := Prod.mk.inj (Option.some.inj yy')
  exact ⟨20, q_quant_Quantize _ _ _ hok⟩
theorem q_ref08_Quantize (c a b : Int) (hok : decide (0 ≤ c) = true) : funR Try.prog t_ref08_Quantize (annOf []) l_ref08_Quantize 20 Try.f75 [.one (.int .i64 c), .one (.int .i64 a), .one (.int .i64 b)] [] = some ⟨.one (.int .i64 (quantz c a b)), [], []⟩ := by
    refine (e_ref08_Quantize ..).trans ?_
    simp only [decide_eq_true_eq] at hok
    have e : min (max c (-281474976710656)) 281474976710656 = min c 281474976710656 := by omega
    simp only [ite2_bool, decide_eq_true_eq, quantz, e]
    cases hq : qvalid a b
    · simp [qthr, hq]
    · have hb := qthr_b hq
      have ha := (qmul hq).1
      by_cases h : min c 281474976710656 ≥ qthr a b
      · have hd := qdiv (m := min c 281474976710656 - qthr a b) (a := a) (by omega) ha
        simp only [h, if_true, Bool.not_true, Bool.false_eq_true, if_false, ge_iff_le]
        simp only [beq_iff_eq]
        rw [if_neg (by omega), if_neg (by omega), if_neg (by omega), wrap_in (n := min c 281474976710656 - qthr a b) (by omega) (by omega)]
        unfold fdiv w
        rw [if_neg (by omega), if_neg (by rw [Int.tmod_eq_emod_of_nonneg (by omega)]; have := Int.emod_nonneg (min c 281474976710656 - qthr a b) (show a ≠ 0 by omega); omega), Int.tdiv_eq_ediv_of_nonneg (by omega), wrap_in (n := (min c 281474976710656 - qthr a b) / a) (by omega) (by omega), wrap_in (by omega) (by omega)]
      · simp only [beq_iff_eq, h, if_true, if_false]
        rw [if_neg (by omega), if_neg (by omega), if_pos (by omega)]
theorem s_ref08_Quantize : SoundFun Try.prog 75 G_ref08_Quantize := by
  refine fun_ok (tab := t_ref08_Quantize) (ann := annOf []) (lt := l_ref08_Quantize) (tab_cons s_ref08_Threshold (tab_cons s_ref01_FloorDiv (tab_cons s_ref08_limit tab_nil))) (by kernel_rfl) (fn := Try.f75) (by kernel_rfl) (by decide) (c := bodyOf Try.f75) (by kernel_rfl) (fun m b hb => absurd hb (by show b ∉ loopsOf (bodyOf Try.f75); rw [show loopsOf (bodyOf Try.f75) = [] from by kernel_rfl]; exact List.not_mem_nil)) ?_
  intro args lent o y0'
  unfold G_ref08_Quantize at y0'
  obtain ⟨c', args, rfl, y1'⟩ := pO_s y0'
  obtain ⟨c, rfl, y2'⟩ := kI_s y1'
  obtain ⟨c', args, rfl, y3'⟩ := pO_s y2'
  obtain ⟨a, rfl, y4'⟩ := kI_s y3'
  obtain ⟨c', args, rfl, y5'⟩ := pO_s y4'
  obtain ⟨b, rfl, y6'⟩ := kI_s y5'
  obtain ⟨rfl, y7'⟩ := pE_s y6'
  obtain ⟨rfl, y8'⟩ := nE_s y7'
  have yy' := y8'
  unfold H_ref08_Quantize at yy'
  obtain ⟨hok, rfl⟩ := Prod.mk.inj (Option.some.inj yy')
  exact ⟨20, q_ref08_Quantize _ _ _ hok⟩
theorem q_Len64 (x : Int) (hok : (decide (0 ≤ x) && decide (x < 9223372036854775808)) = true) : funR Try.prog t_Len64 (annOf []) l_Len64 20 Try.f72 [.one (.int .u64 x)] [] = some ⟨.one (.int .i64 (digs x)), [], []⟩ := by
    refine (e_Len64 ..).trans ?_
    simp only [Bool.and_eq_true, decide_eq_true_eq] at hok
    obtain ⟨h0, h1⟩ := hok
    simp only [ite2_dec]
    have fd : ∀ y k : Int, 0 < k → y.fdiv k = y / k := fun y k hk => Int.fdiv_eq_ediv_of_nonneg y (by omega)
    simp (disch := omega) only [fd]
    have ht : ∀ z : Int, 0 ≤ z → z < 256 → (((List.getD len8 (Int.toNat z) 0).1.1.1 : Nat) : Int) = digs z := by
      intro z hz0 hz1
      have : ∀ i : Nat, i < 256 → (((List.getD len8 i 0).1.1.1 : Nat) : Int) = digs (i : Int) := by decide +kernel
      have := this z.toNat (by omega)
      rwa [Int.toNat_of_nonneg hz0] at this
    have hd : ∀ z : Int, 0 ≤ z → z < 256 → 0 ≤ digs z ∧ digs z ≤ 8 := by
      intro z hz0 hz1
      have : ∀ i : Nat, i < 256 → 0 ≤ digs (i : Int) ∧ digs (i : Int) ≤ 8 := by decide +kernel
      have := this z.toNat (by omega)
      rwa [Int.toNat_of_nonneg hz0] at this
    have fin : ∀ (k z : Int), 0 ≤ k → k ≤ 56 → 0 ≤ z → z < 256 → IntKind.wrap .i64 (k + IntKind.wrap .i64 (((List.getD len8 (Int.toNat (IntKind.wrap .u8 z)) 0).1.1.1 : Nat) : Int)) = k + digs z := by
      intro k z hk0 hk1 hz0 hz1
      have := hd z hz0 hz1
      rw [wrap8_in hz0 hz1, ht z hz0 hz1, wrap_in (n := digs z) (by omega) (by omega), wrap_in (by omega) (by omega)]
    have leaf : ∀ (k z : Int), 0 ≤ k → k ≤ 56 → 0 ≤ z → z < 256 → (if 0 ≤ IntKind.wrap .u8 z ∧ IntKind.wrap .u8 z < 256 then some (⟨.one (.int .i64 (IntKind.wrap .i64 (k + IntKind.wrap .i64 (((List.getD len8 (Int.toNat (IntKind.wrap .u8 z)) 0).1.1.1 : Nat) : Int)))), [], []⟩ : Out) else none) = some ⟨.one (.int .i64 (k + digs z)), [], []⟩ := by
      intro k z hk0 hk1 hz0 hz1
      rw [if_pos (by rw [wrap8_in hz0 hz1]; exact ⟨hz0, hz1⟩), fin k z hk0 hk1 hz0 hz1]
    have eq : ∀ m n : Int, m = n → some (⟨.one (.int .i64 m), [], []⟩ : Out) = some ⟨.one (.int .i64 n), [], []⟩ := fun m n h => by rw [h]
    have low : ∀ (k z : Int), 0 ≤ z → z < 4294967296 → 0 ≤ k → k ≤ 32 →
        (if z ≥ 65536 then (if z / 65536 ≥ 256 then (if 0 ≤ IntKind.wrap .u8 (z / 65536 / 256) ∧ IntKind.wrap .u8 (z / 65536 / 256) < 256 then some (⟨.one (.int .i64 (IntKind.wrap .i64 (k + 24 + IntKind.wrap .i64 (((List.getD len8 (Int.toNat (IntKind.wrap .u8 (z / 65536 / 256))) 0).1.1.1 : Nat) : Int)))), [], []⟩ : Out) else none) else (if 0 ≤ IntKind.wrap .u8 (z / 65536) ∧ IntKind.wrap .u8 (z / 65536) < 256 then some (⟨.one (.int .i64 (IntKind.wrap .i64 (k + 16 + IntKind.wrap .i64 (((List.getD len8 (Int.toNat (IntKind.wrap .u8 (z / 65536))) 0).1.1.1 : Nat) : Int)))), [], []⟩ : Out) else none))
          else (if z ≥ 256 then (if 0 ≤ IntKind.wrap .u8 (z / 256) ∧ IntKind.wrap .u8 (z / 256) < 256 then some (⟨.one (.int .i64 (IntKind.wrap .i64 (k + 8 + IntKind.wrap .i64 (((List.getD len8 (Int.toNat (IntKind.wrap .u8 (z / 256))) 0).1.1.1 : Nat) : Int)))), [], []⟩ : Out) else none) else (if 0 ≤ IntKind.wrap .u8 z ∧ IntKind.wrap .u8 z < 256 then some (⟨.one (.int .i64 (IntKind.wrap .i64 (k + IntKind.wrap .i64 (((List.getD len8 (Int.toNat (IntKind.wrap .u8 z)) 0).1.1.1 : Nat) : Int)))), [], []⟩ : Out) else none))) = some ⟨.one (.int .i64 (k + digs z)), [], []⟩ := by
      intro k z hz0 hz1 hk0 hk1
      by_cases a2 : z ≥ 65536
      · rw [if_pos a2, digs16 a2 (by omega)]
        generalize hy : z / 65536 = y
        by_cases a3 : y ≥ 256
        · rw [if_pos a3, leaf _ _ (by omega) (by omega) (by omega) (by omega), digs8 a3 (by omega)]
          exact eq _ _ (by omega)
        · rw [if_neg a3, leaf _ _ (by omega) (by omega) (by omega) (by omega)]
          exact eq _ _ (by omega)
      · rw [if_neg a2]
        by_cases a3 : z ≥ 256
        · rw [if_pos a3, leaf _ _ (by omega) (by omega) (by omega) (by omega), digs8 a3 (by omega)]
          exact eq _ _ (by omega)
        · rw [if_neg a3, leaf _ _ (by omega) (by omega) (by omega) (by omega)]
    by_cases a1 : x ≥ 4294967296
    · rw [if_pos a1, digs32 a1 h1]
      refine (low 32 (x / 4294967296) (by omega) (by omega) (by omega) (by omega)).trans ?_
      exact eq _ _ (by omega)
    · rw [if_neg a1]
      refine (low 0 x (by omega) (by omega) (by omega) (by omega)).trans ?_
      exact eq _ _ (by omega)
theorem s_Len64 : SoundFun Try.prog 72 G_Len64 := by
  refine fun_ok (tab := t_Len64) (ann := annOf []) (lt := l_Len64) tab_nil (by kernel_rfl) (fn := Try.f72) (by kernel_rfl) (by decide) (c := bodyOf Try.f72) (by kernel_rfl) (fun m b hb => absurd hb (by show b ∉ loopsOf (bodyOf Try.f72); rw [show loopsOf (bodyOf Try.f72) = [] from by kernel_rfl]; exact List.not_mem_nil)) ?_
  intro args lent o y0'
  unfold G_Len64 at y0'
  obtain ⟨c', args, rfl, y1'⟩ := pO_s y0'
  obtain ⟨x, rfl, y2'⟩ := kK_s y1'
  obtain ⟨rfl, y3'⟩ := pE_s y2'
  obtain ⟨rfl, y4'⟩ := nE_s y3'
  have yy' := y4'
  unfold H_Len64 at yy'
  obtain ⟨hok, rfl⟩ := Prod.mk.inj (Option.some.inj yy')
  exact ⟨20, q_Len64 _ hok⟩
theorem r_ref08_Digits_0 : RoundOk Try.prog t_ref08_Digits (annOf []) l_ref08_Digits Out 20 0 13 [3, 4] (kxOf [3] [2]) (loopOf Try.f74 0) T_ref08_Digits_0 := by
  intro vs bl Kc r h
  unfold T_ref08_Digits_0 at h
  obtain ⟨t, y0', h'⟩ := getD_run h
  obtain ⟨c', vs, rfl, y1'⟩ := pO_s y0'
  obtain ⟨n, rfl, y2'⟩ := kI_s y1'
  obtain ⟨c', vs, rfl, y3'⟩ := pO_s y2'
  obtain ⟨x, rfl, y4'⟩ := kI_s y3'
  obtain ⟨rfl, y5'⟩ := pE_s y4'
  obtain ⟨rfl, y6'⟩ := bE_s y5'
  have yy' := y6'
  cases yy'
  exact (b_ref08_Digits_0 ..).trans ((congrArg (LT.runc · Kc) (tu_ref08_Digits_0 ..)).trans h')
theorem o_ref08_Digits : loopsOf (bodyOf Try.f74) = [loopOf Try.f74 0] := by kernel_rfl
theorem dl : ∀ (m : Nat) (n x : Int), x < 9223372036854775808 → 0 ≤ x → x < 2 ^ m → 0 ≤ n → n + m ≤ 1000 → ∃ k, ∀ (K : Ex → List V → List (Option Blk) → Option Out) r, (LT.leaf (.exit 0) [.one (.int .i64 (n + digsN m x))] []).run K = some r → (iter T_ref08_Digits_0 k [.one (.int .i64 n), .one (.int .i64 x)] []).run K = some r
  | 0, n, x, hx, h0, h1, h2, h3 => ⟨1, fun K r h => by
    simp only [iter, tu_ref08_Digits_0, U_ref08_Digits_0, LT.next, LT.run, ite2_dec]
    rw [if_neg (by simp at h1; omega)]
    simpa [LT.run, digsN] using h⟩
  | m + 1, n, x, hx', h0, h1, h2, h3 => by
    by_cases hx : x > 0
    · obtain ⟨k, hk⟩ := dl m (n + 1) (x / 2) (by omega) (by omega) (by rw [Int.pow_succ] at h1; omega) (by omega) (by omega)
      refine ⟨k + 1, fun K r h => ?_⟩
      simp only [iter, tu_ref08_Digits_0, U_ref08_Digits_0, LT.next, LT.run, ite2_dec]
      rw [if_pos hx, wrap_in (n := n + 1) (by omega) (by omega), show fdiv x 2 = x / 2 by
        unfold fdiv w
        rw [if_neg (by omega), if_neg (by rw [Int.tmod_eq_emod_of_nonneg (by omega)]; omega), Int.tdiv_eq_ediv_of_nonneg (by omega)]
        rw [wrap_in (by omega) (by omega)]]
      refine hk K r ?_
      simp only [digsN] at h
      rw [if_neg (by omega)] at h
      rw [show n + 1 + digsN m (x / 2) = n + (1 + digsN m (x / 2)) by omega]
      exact h
    · refine ⟨1, fun K r h => ?_⟩
      simp only [iter, tu_ref08_Digits_0, U_ref08_Digits_0, LT.next, LT.run, ite2_dec]
      rw [if_neg hx]
      simp only [digsN] at h
      rw [if_pos (by omega)] at h
      simpa [LT.run] using h
theorem zz_ref08_Digits_0 (n x : Int) (hk : k_ref08_Digits_0 n x = true) : ∃ k, ∀ (K : Ex → List V → List (Option Blk) → Option Out) r, (c_ref08_Digits_0 n x).run K = some r → (iter T_ref08_Digits_0 k [.one (.int .i64 n), .one (.int .i64 x)] []).run K = some r := by
  simp only [k_ref08_Digits_0, Bool.and_eq_true, decide_eq_true_eq] at hk
  obtain ⟨rfl, h0, h1⟩ := hk
  exact dl 63 0 x h1 h0 (by omega) (by omega) (by omega)
theorem z_ref08_Digits_0 : ∀ vs bl t, S_ref08_Digits_0 vs bl = some (true, t) → ∃ n, ∀ (K : Ex → List V → List (Option Blk) → Option Out) r, t.run K = some r → (iter T_ref08_Digits_0 n vs bl).run K = some r := by
  intro vs bl t y0'
  unfold S_ref08_Digits_0 at y0'
  obtain ⟨c', vs, rfl, y1'⟩ := pO_s y0'
  obtain ⟨n, rfl, y2'⟩ := kI_s y1'
  obtain ⟨c', vs, rfl, y3'⟩ := pO_s y2'
  obtain ⟨x, rfl, y4'⟩ := kI_s y3'
  obtain ⟨rfl, y5'⟩ := pE_s y4'
  obtain ⟨rfl, y6'⟩ := bE_s y5'
  have yy' := y6'
  obtain ⟨hk, rfl⟩ := Prod.mk.inj (Option.some.inj yy')
  exact zz_ref08_Digits_0 _ _ hk
theorem q_ref08_Digits (x : Int) (hok : (decide (0 ≤ x) && decide (x < 9223372036854775808)) = true) : funR Try.prog t_ref08_Digits (annOf []) l_ref08_Digits 20 Try.f74 [.one (.int .i64 x)] [] = some ⟨.one (.int .i64 (digs x)), [], []⟩ := by
    refine (e_ref08_Digits ..).trans ?_
    simp only [Bool.and_eq_true, decide_eq_true_eq] at hok
    simp [ite2_bool, k_ref08_Digits_0, hok]
theorem s_ref08_Digits : SoundFun Try.prog 74 G_ref08_Digits := by
  refine fun_ok (tab := t_ref08_Digits) (ann := annOf []) (lt := l_ref08_Digits) (tab_cons s_ref01_FloorDiv tab_nil) (by kernel_rfl) (fn := Try.f74) (by kernel_rfl) (by decide) (c := bodyOf Try.f74) (by kernel_rfl) (by
    intro m b hb
    have hb' : b ∈ loopsOf (bodyOf Try.f74) := hb
    rw [o_ref08_Digits] at hb'
    simp only [List.mem_cons, List.not_mem_nil, or_false] at hb'
    rcases hb' with rfl
    · exact loop_ok (key := 3) (by kernel_rfl) rfl r_ref08_Digits_0 z_ref08_Digits_0 m
    ) ?_
  intro args lent o y0'
  unfold G_ref08_Digits at y0'
  obtain ⟨c', args, rfl, y1'⟩ := pO_s y0'
  obtain ⟨x, rfl, y2'⟩ := kI_s y1'
  obtain ⟨rfl, y3'⟩ := pE_s y2'
  obtain ⟨rfl, y4'⟩ := nE_s y3'
  have yy' := y4'
  unfold H_ref08_Digits at yy'
  obtain ⟨hok, rfl⟩ := Prod.mk.inj (Option.some.inj yy')
  exact ⟨20, q_ref08_Digits _ hok⟩
theorem q_quant_Planes (c a b : Int) (hok : true = true) : funR Try.prog t_quant_Planes (annOf []) l_quant_Planes 20 Try.f50 [.one (.int .i64 c), .one (.int .i64 a), .one (.int .i64 b)] [] = some ⟨.one (.int .i64 (planesQ c a b)), [], []⟩ := by
    refine (e_quant_Planes ..).trans ?_
    have hb := quantz_b c a b
    simp only [ite2_bool, ite2_dec, planesQ]
    rw [wrapu_in (n := quantz c a b) (by omega) (by omega)]
    (repeat' split) <;> (try simp_all) <;> (try omega)
theorem s_quant_Planes : SoundFun Try.prog 50 G_quant_Planes := by
  refine fun_ok (tab := t_quant_Planes) (ann := annOf []) (lt := l_quant_Planes) (tab_cons s_quant_Valid (tab_cons s_Len64 (tab_cons s_quant_Quantize tab_nil))) (by kernel_rfl) (fn := Try.f50) (by kernel_rfl) (by decide) (c := bodyOf Try.f50) (by kernel_rfl) (fun m b hb => absurd hb (by show b ∉ loopsOf (bodyOf Try.f50); rw [show loopsOf (bodyOf Try.f50) = [] from by kernel_rfl]; exact List.not_mem_nil)) ?_
  intro args lent o y0'
  unfold G_quant_Planes at y0'
  obtain ⟨c', args, rfl, y1'⟩ := pO_s y0'
  obtain ⟨c, rfl, y2'⟩ := kI_s y1'
  obtain ⟨c', args, rfl, y3'⟩ := pO_s y2'
  obtain ⟨a, rfl, y4'⟩ := kI_s y3'
  obtain ⟨c', args, rfl, y5'⟩ := pO_s y4'
  obtain ⟨b, rfl, y6'⟩ := kI_s y5'
  obtain ⟨rfl, y7'⟩ := pE_s y6'
  obtain ⟨rfl, y8'⟩ := nE_s y7'
  have yy' := y8'
  unfold H_quant_Planes at yy'
  obtain ⟨hok, rfl⟩ := Prod.mk.inj (Option.some.inj yy')
  exact ⟨20, q_quant_Planes _ _ _ hok⟩
theorem q_ref08_Planes (c a b : Int) (hok : true = true) : funR Try.prog t_ref08_Planes (annOf []) l_ref08_Planes 20 Try.f52 [.one (.int .i64 c), .one (.int .i64 a), .one (.int .i64 b)] [] = some ⟨.one (.int .i64 (planesQ c a b)), [], []⟩ := by
    refine (e_ref08_Planes ..).trans ?_
    have hb := quantz_b c a b
    simp only [ite2_bool, ite2_dec, planesQ]
    (repeat' split) <;> (try simp_all) <;> (try omega)
theorem s_ref08_Planes : SoundFun Try.prog 52 G_ref08_Planes := by
  refine fun_ok (tab := t_ref08_Planes) (ann := annOf []) (lt := l_ref08_Planes) (tab_cons s_ref08_Valid (tab_cons s_ref08_Digits (tab_cons s_ref08_Quantize tab_nil))) (by kernel_rfl) (fn := Try.f52) (by kernel_rfl) (by decide) (c := bodyOf Try.f52) (by kernel_rfl) (fun m b hb => absurd hb (by show b ∉ loopsOf (bodyOf Try.f52); rw [show loopsOf (bodyOf Try.f52) = [] from by kernel_rfl]; exact List.not_mem_nil)) ?_
  intro args lent o y0'
  unfold G_ref08_Planes at y0'
  obtain ⟨c', args, rfl, y1'⟩ := pO_s y0'
  obtain ⟨c, rfl, y2'⟩ := kI_s y1'
  obtain ⟨c', args, rfl, y3'⟩ := pO_s y2'
  obtain ⟨a, rfl, y4'⟩ := kI_s y3'
  obtain ⟨c', args, rfl, y5'⟩ := pO_s y4'
  obtain ⟨b, rfl, y6'⟩ := kI_s y5'
  obtain ⟨rfl, y7'⟩ := pE_s y6'
  obtain ⟨rfl, y8'⟩ := nE_s y7'
  have yy' := y8'
  unfold H_ref08_Planes at yy'
  obtain ⟨hok, rfl⟩ := Prod.mk.inj (Option.some.inj yy')
  exact ⟨20, q_ref08_Planes _ _ _ hok⟩
theorem q_params_Planes (p : Pm) (i : Int) (hok : true = true) : funR Try.prog t_params_Planes (annOf []) l_params_Planes 20 Try.f18 [.agg (pmC p), .one (.int .i64 i)] [] = some ⟨.one (.int .i64 (planes p i)), [], []⟩ := by
    refine (e_params_Planes ..).trans ?_
    simp only [ite2_bool, ite2_dec, planes, within, List.all_cons, List.all_nil, Bool.and_true]
    (repeat' split) <;> (try simp_all) <;> (try omega)
theorem s_params_Planes : SoundFun Try.prog 18 G_params_Planes := by
  refine fun_ok (tab := t_params_Planes) (ann := annOf []) (lt := l_params_Planes) (tab_cons s_params_within (tab_cons s_quant_Valid (tab_cons s_quant_Planes tab_nil))) (by kernel_rfl) (fn := Try.f18) (by kernel_rfl) (by decide) (c := bodyOf Try.f18) (by kernel_rfl) (fun m b hb => absurd hb (by show b ∉ loopsOf (bodyOf Try.f18); rw [show loopsOf (bodyOf Try.f18) = [] from by kernel_rfl]; exact List.not_mem_nil)) ?_
  intro args lent o y0'
  unfold G_params_Planes at y0'
  obtain ⟨q', args, rfl, y1'⟩ := pA_s y0'
  obtain ⟨p, rfl, y2'⟩ := rdPm_s y1'
  obtain ⟨c', args, rfl, y3'⟩ := pO_s y2'
  obtain ⟨i, rfl, y4'⟩ := kI_s y3'
  obtain ⟨rfl, y5'⟩ := pE_s y4'
  obtain ⟨rfl, y6'⟩ := nE_s y5'
  have yy' := y6'
  unfold H_params_Planes at yy'
  obtain ⟨hok, rfl⟩ := Prod.mk.inj (Option.some.inj yy')
  exact ⟨20, q_params_Planes _ _ hok⟩
theorem q_ref23_Planes (p : Pm) (i : Int) (hok : true = true) : funR Try.prog t_ref23_Planes (annOf []) l_ref23_Planes 20 Try.f19 [.agg (pmC p), .one (.int .i64 i)] [] = some ⟨.one (.int .i64 (planes p i)), [], []⟩ := by
    refine (e_ref23_Planes ..).trans ?_
    simp only [ite2_bool, ite2_dec, planes, within, List.all_cons, List.all_nil, Bool.and_true]
    (repeat' split) <;> (try simp_all) <;> (try omega)
theorem s_ref23_Planes : SoundFun Try.prog 19 G_ref23_Planes := by
  refine fun_ok (tab := t_ref23_Planes) (ann := annOf []) (lt := l_ref23_Planes) (tab_cons s_ref23_in (tab_cons s_ref08_Valid (tab_cons s_ref08_Planes tab_nil))) (by kernel_rfl) (fn := Try.f19) (by kernel_rfl) (by decide) (c := bodyOf Try.f19) (by kernel_rfl) (fun m b hb => absurd hb (by show b ∉ loopsOf (bodyOf Try.f19); rw [show loopsOf (bodyOf Try.f19) = [] from by kernel_rfl]; exact List.not_mem_nil)) ?_
  intro args lent o y0'
  unfold G_ref23_Planes at y0'
  obtain ⟨q', args, rfl, y1'⟩ := pA_s y0'
  obtain ⟨p, rfl, y2'⟩ := rdPm_s y1'
  obtain ⟨c', args, rfl, y3'⟩ := pO_s y2'
  obtain ⟨i, rfl, y4'⟩ := kI_s y3'
  obtain ⟨rfl, y5'⟩ := pE_s y4'
  obtain ⟨rfl, y6'⟩ := nE_s y5'
  have yy' := y6'
  unfold H_ref23_Planes at yy'
  obtain ⟨hok, rfl⟩ := Prod.mk.inj (Option.some.inj yy')
  exact ⟨20, q_ref23_Planes _ _ hok⟩
end Go.Rx.Ch23
