/- The summaries of these functions are sound. -/
import Derived.Test.YtcdmkbpmgeeghaaRE0
import Derived.Test.YtcdmkbpmgeeghaaRS1
set_option linter.unnecessarySimpa false
set_option linter.unusedVariables false
set_option linter.unusedSimpArgs false
set_option linter.unusedVariables false
set_option linter.unusedSimpArgs false
set_option maxRecDepth 100000
set_option maxHeartbeats 40000000
open Go Go.Rx Go.Proofs
namespace Go.Rx.Ch06
theorem q_ref04_Valid (k : Int) (hok : true = true) : funR Try.prog t_ref04_Valid (annOf []) l_ref04_Valid 20 Try.f80 [.one (.int .i64 k)] [] = some ⟨.one (.bool (inr 1 3 k)), [], []⟩ := by
    refine (e_ref04_Valid ..).trans ?_
    simp only [ite2_bool, beq_iff_eq]
    by_cases h1 : k = 1
    · subst h1; rfl
    by_cases h2 : k = 2
    · subst h2; rfl
    by_cases h3 : k = 3
    · subst h3; rfl
    have h4 : inr 1 3 k = false := by simp [inr]; omega
    simp [h1, h2, h3, h4]
theorem s_ref04_Valid : SoundFun Try.prog 80 G_ref04_Valid := by
  refine fun_ok (tab := t_ref04_Valid) (ann := annOf []) (lt := l_ref04_Valid) tab_nil (by kernel_rfl) (fn := Try.f80) (by kernel_rfl) (by decide) (c := bodyOf Try.f80) (by kernel_rfl) (fun m b hb => absurd hb (by show b ∉ loopsOf (bodyOf Try.f80); rw [show loopsOf (bodyOf Try.f80) = [] from by kernel_rfl]; exact List.not_mem_nil)) ?_ (keep_nil (by kernel_rfl))
  intro args lent o y0'
  unfold G_ref04_Valid at y0'
  obtain ⟨c', args, rfl, y1'⟩ := pO_s y0'
  obtain ⟨k, rfl, y2'⟩ := kI_s y1'
  obtain ⟨rfl, y3'⟩ := pE_s y2'
  obtain ⟨rfl, y4'⟩ := nE_s y3'
  have yy' := y4'
  unfold H_ref04_Valid at yy'
  obtain ⟨hok, rfl⟩ := Prod.mk.inj (Option.some.inj yy')
  exact ⟨20, q_ref04_Valid _ hok⟩
theorem r_ref04_Few_0 : RoundOk Try.prog t_ref04_Few (annOf []) l_ref04_Few Out 20 0 23 [1, 7, 8, 9] (kxOf [] [4]) (loopOf Try.f92 0) T_ref04_Few_0 := by
  intro vs bl Kc r h
  unfold T_ref04_Few_0 at h
  obtain ⟨t, y0', h'⟩ := getD_run h
  obtain ⟨c', vs, rfl, y1'⟩ := pO_s y0'
  obtain ⟨b, rfl, y2'⟩ := kI_s y1'
  obtain ⟨c', vs, rfl, y3'⟩ := pO_s y2'
  obtain ⟨l, rfl, y4'⟩ := kLI_s y3'
  obtain ⟨c', vs, rfl, y5'⟩ := pO_s y4'
  obtain ⟨n, rfl, y6'⟩ := kI_s y5'
  obtain ⟨c', vs, rfl, y7'⟩ := pO_s y6'
  obtain ⟨i, rfl, y8'⟩ := kI_s y7'
  obtain ⟨rfl, y9'⟩ := pE_s y8'
  obtain ⟨rfl, y10'⟩ := bE_s y9'
  have yy' := y10'
  cases yy'
  exact (b_ref04_Few_0 ..).trans ((congrArg (LT.runc · Kc) (tu_ref04_Few_0 ..)).trans h')
theorem o_ref04_Few : loopsOf (bodyOf Try.f92) = [loopOf Try.f92 0] := by kernel_rfl
theorem zz_ref04_Few_0 (b : Int) (l : List Int) (hsm : small (l.length) = true) (hc : (decide (0 ≤ b) && decide (b ≤ 4503599627370496)) = true) : ∃ k, ∀ (K : Ex → List V → List (Option Blk) → Option Out) r, (c_ref04_Few_0 b l).run K = some r → (iter T_ref04_Few_0 k [.one (.int .i64 b), .one (.lst (.int .i64) l), .one (.int .i64 (l.length : Int)), .one (.int .i64 0)] []).run K = some r := by
  refine z_list (st := fun i => ([.one (.int .i64 b), .one (.lst (.int .i64) l), .one (.int .i64 (l.length : Int)), .one (.int .i64 ((i : Nat) : Int))], [])) l 0 (inr (-b) b) _ _ (fun i hi F K => ?_) (fun F K => ?_)
  · have hi' : (i : Int) < (l.length : Int) := by omega
    have hc' := hc
    simp only [Bool.and_eq_true, decide_eq_true_eq] at hc'
    simp only [tu_ref04_Few_0, U_ref04_Few_0, LT.next, LT.run, ite2_dec, ite2_bool, wrap_next hi hsm, Int.toNat_natCast, hi', Int.natCast_nonneg, and_self, if_true, gI, gP, gC, gR]
    rw [show (0 : Int) - b = -b by omega, wrap_in (n := -b) (by omega) (by omega)]
    simp only [inr, Bool.and_eq_true, decide_eq_true_eq]
    by_cases h1 : l[i]?.getD 0 < -b
    · have h3 : ¬ -b ≤ l[i]?.getD 0 := by omega
      simp [h1, h3, gI]
    by_cases h2 : b < l[i]?.getD 0
    · have h3 : ¬ l[i]?.getD 0 ≤ b := by omega
      simp [h1, h2, h3, gI]
    have h3 : -b ≤ l[i]?.getD 0 := by omega
    have h4 : l[i]?.getD 0 ≤ b := by omega
    have h5 : ¬ b < l[i]?.getD 0 := by omega
    simp [h1, h3, h4, h5, gI]
  · simp only [tu_ref04_Few_0, U_ref04_Few_0, LT.next, LT.run, ite2_dec, Int.lt_irrefl, if_false]
    try rfl
theorem z_ref04_Few_0 : ∀ vs bl t, S_ref04_Few_0 vs bl = some (true, t) → ∃ n, ∀ (K : Ex → List V → List (Option Blk) → Option Out) r, t.run K = some r → (iter T_ref04_Few_0 n vs bl).run K = some r := by
  intro vs bl t y0'
  unfold S_ref04_Few_0 at y0'
  obtain ⟨c', vs, rfl, y1'⟩ := pO_s y0'
  obtain ⟨b, rfl, y2'⟩ := kI_s y1'
  obtain ⟨c', vs, rfl, y3'⟩ := pO_s y2'
  obtain ⟨l, rfl, y4'⟩ := kLI_s y3'
  obtain ⟨c', vs, rfl, y5'⟩ := pO_s y4'
  obtain ⟨n, rfl, y6'⟩ := kI_s y5'
  obtain ⟨c', vs, rfl, y7'⟩ := pO_s y6'
  obtain ⟨i, rfl, y8'⟩ := kI_s y7'
  obtain ⟨rfl, y9'⟩ := pE_s y8'
  obtain ⟨rfl, y10'⟩ := bE_s y9'
  have yy' := y10'
  obtain ⟨hk, rfl⟩ := Prod.mk.inj (Option.some.inj yy')
  unfold k_ref04_Few_0 at hk
  simp only [Bool.and_eq_true, decide_eq_true_eq, and_assoc] at hk
  obtain ⟨rfl, rfl, hsm, hc⟩ := hk
  exact zz_ref04_Few_0 _ _ hsm (by first | exact hc | simpa using hc | simpa only [Bool.and_eq_true, decide_eq_true_eq, and_assoc] using hc)
theorem q_ref04_Few (l : List Int) (b : Int) (hok : (small l.length && (decide (0 ≤ b) && decide (b ≤ 4503599627370496))) = true) : funR Try.prog t_ref04_Few (annOf []) l_ref04_Few 20 Try.f92 [.one (.lst (.int .i64) l), .one (.int .i64 b)] [] = some ⟨.one (.bool (fitB b l)), [], []⟩ := by
    refine (e_ref04_Few ..).trans ?_
    simp [ite2_bool, k_ref04_Few_0, p_ref04_Few_0, fitB, hok]
    (repeat' split) <;> simp_all
theorem s_ref04_Few : SoundFun Try.prog 92 G_ref04_Few := by
  refine fun_ok (tab := t_ref04_Few) (ann := annOf []) (lt := l_ref04_Few) tab_nil (by kernel_rfl) (fn := Try.f92) (by kernel_rfl) (by decide) (c := bodyOf Try.f92) (by kernel_rfl) (by
    intro m b hb
    have hb' : b ∈ loopsOf (bodyOf Try.f92) := hb
    rw [o_ref04_Few] at hb'
    simp only [List.mem_cons, List.not_mem_nil, or_false] at hb'
    rcases hb' with rfl
    · exact loop_ok (key := 2) (by kernel_rfl) rfl r_ref04_Few_0 z_ref04_Few_0 m
    ) ?_ (keep_nil (by kernel_rfl))
  intro args lent o y0'
  unfold G_ref04_Few at y0'
  obtain ⟨c', args, rfl, y1'⟩ := pO_s y0'
  obtain ⟨l, rfl, y2'⟩ := kLI_s y1'
  obtain ⟨c', args, rfl, y3'⟩ := pO_s y2'
  obtain ⟨b, rfl, y4'⟩ := kI_s y3'
  obtain ⟨rfl, y5'⟩ := pE_s y4'
  obtain ⟨rfl, y6'⟩ := nE_s y5'
  have yy' := y6'
  unfold H_ref04_Few at yy'
  obtain ⟨hok, rfl⟩ := Prod.mk.inj (Option.some.inj yy')
  exact ⟨20, q_ref04_Few _ _ hok⟩
theorem q_ref04_FloorDiv (a b : Int) (hok : ((decide (b = 2) || decide (b = 4) || decide (b = 16)) && inr (-4611686018427387904) 4611686018427387904 a) = true) : funR Try.prog t_ref04_FloorDiv (annOf []) l_ref04_FloorDiv 20 Try.f107 [.one (.int .i64 a), .one (.int .i64 b)] [] = some ⟨.one (.int .i64 (a / b)), [], []⟩ := by
    refine (e_ref04_FloorDiv ..).trans ?_
    simp only [Bool.and_eq_true, Bool.or_eq_true, decide_eq_true_eq, or_assoc] at hok
    obtain ⟨hb, ha⟩ := hok
    have ha := inr_b ha
    simp only [ite2_bool, decide_eq_true_eq]
    rw [if_pos (by simp; omega), if_pos (by simp; omega)]
    by_cases h : 0 ≤ a
    · rw [Int.tmod_eq_emod_of_nonneg h, Int.tdiv_eq_ediv_of_nonneg h, if_neg (by rcases hb with rfl | rfl | rfl <;> omega), wrap_in (by rcases hb with rfl | rfl | rfl <;> omega) (by rcases hb with rfl | rfl | rfl <;> omega)]
    · obtain ⟨c, rfl⟩ : ∃ c, a = -c := ⟨-a, by omega⟩
      rw [Int.neg_tmod, Int.neg_tdiv, Int.tmod_eq_emod_of_nonneg (by omega), Int.tdiv_eq_ediv_of_nonneg (by omega)]
      rw [wrap_in (n := -(c / b)) (by rcases hb with rfl | rfl | rfl <;> omega) (by rcases hb with rfl | rfl | rfl <;> omega), wrap_in (n := -(c / b) - 1) (by rcases hb with rfl | rfl | rfl <;> omega) (by rcases hb with rfl | rfl | rfl <;> omega)]
      split <;> (congr 4; rcases hb with rfl | rfl | rfl <;> omega)
theorem s_ref04_FloorDiv : SoundFun Try.prog 107 G_ref04_FloorDiv := by
  refine fun_ok (tab := t_ref04_FloorDiv) (ann := annOf []) (lt := l_ref04_FloorDiv) tab_nil (by kernel_rfl) (fn := Try.f107) (by kernel_rfl) (by decide) (c := bodyOf Try.f107) (by kernel_rfl) (fun m b hb => absurd hb (by show b ∉ loopsOf (bodyOf Try.f107); rw [show loopsOf (bodyOf Try.f107) = [] from by kernel_rfl]; exact List.not_mem_nil)) ?_ (keep_nil (by kernel_rfl))
  intro args lent o y0'
  unfold G_ref04_FloorDiv at y0'
  obtain ⟨c', args, rfl, y1'⟩ := pO_s y0'
  obtain ⟨a, rfl, y2'⟩ := kI_s y1'
  obtain ⟨c', args, rfl, y3'⟩ := pO_s y2'
  obtain ⟨b, rfl, y4'⟩ := kI_s y3'
  obtain ⟨rfl, y5'⟩ := pE_s y4'
  obtain ⟨rfl, y6'⟩ := nE_s y5'
  have yy' := y6'
  unfold H_ref04_FloorDiv at yy'
  obtain ⟨hok, rfl⟩ := Prod.mk.inj (Option.some.inj yy')
  exact ⟨20, q_ref04_FloorDiv _ _ hok⟩
theorem q_ref04_at (l : List Int) (s i : Int) (hok : (lnOk l && inr 0 4096 s && inr (-100000) 100000 i) = true) : funR Try.prog t_ref04_at (annOf []) l_ref04_at 20 Try.f106 [.one (.lst (.int .i64) l), .one (.int .i64 s), .one (.int .i64 i)] [] = some ⟨.one (.int .i64 (at_ l (i - s))), [], []⟩ := by
    refine (e_ref04_at ..).trans ?_
    simp only [Bool.and_eq_true] at hok
    have hn := lnOk_b hok.1.1
    have hs := inr_b hok.1.2
    have hi := inr_b hok.2
    have h1 := mr_in (n := l.length) (i - s) (by omega)
    have e : mir i s (s + (l.length : Int)) = s + mr l.length (i - s) := by
      unfold mir mr
      rw [if_pos ⟨by omega, by omega, by omega, by omega, by omega, by omega, by omega⟩, if_neg (by omega), show s + (l.length : Int) - s = l.length by omega]
      split <;> rfl
    simp only [ite2_bool, decide_eq_true_eq]
    rw [wrap_in (n := s + (l.length : Int)) (by omega) (by omega), e, show s + mr (l.length : Int) (i - s) - s = mr (l.length : Int) (i - s) by omega, wrap_in (n := mr (l.length : Int) (i - s)) (by omega) (by omega), if_pos (by omega)]
    have e : gI l (mr l.length (i - s)).toNat = at_ l (i - s) := by simp [gI, at_, rd, List.getD_eq_getElem?_getD]
    rw [e]
theorem s_ref04_at : SoundFun Try.prog 106 G_ref04_at := by
  refine fun_ok (tab := t_ref04_at) (ann := annOf []) (lt := l_ref04_at) (tab_cons s_ref03_Mirror tab_nil) (by kernel_rfl) (fn := Try.f106) (by kernel_rfl) (by decide) (c := bodyOf Try.f106) (by kernel_rfl) (fun m b hb => absurd hb (by show b ∉ loopsOf (bodyOf Try.f106); rw [show loopsOf (bodyOf Try.f106) = [] from by kernel_rfl]; exact List.not_mem_nil)) ?_ (keep_nil (by kernel_rfl))
  intro args lent o y0'
  unfold G_ref04_at at y0'
  obtain ⟨c', args, rfl, y1'⟩ := pO_s y0'
  obtain ⟨l, rfl, y2'⟩ := kLI_s y1'
  obtain ⟨c', args, rfl, y3'⟩ := pO_s y2'
  obtain ⟨s, rfl, y4'⟩ := kI_s y3'
  obtain ⟨c', args, rfl, y5'⟩ := pO_s y4'
  obtain ⟨i, rfl, y6'⟩ := kI_s y5'
  obtain ⟨rfl, y7'⟩ := pE_s y6'
  obtain ⟨rfl, y8'⟩ := nE_s y7'
  have yy' := y8'
  unfold H_ref04_at at yy'
  obtain ⟨hok, rfl⟩ := Prod.mk.inj (Option.some.inj yy')
  exact ⟨20, q_ref04_at _ _ _ hok⟩
theorem q_ref04_predict (l : List Int) (s i k : Int) (hok : (lnOk l && inr 0 4096 s && (decide (s ≤ i) && decide (i < s + l.length)) && fitB 36028797018963968 l) = true) : funR Try.prog t_ref04_predict (annOf []) l_ref04_predict 20 Try.f93 [.one (.lst (.int .i64) l), .one (.int .i64 s), .one (.int .i64 i), .one (.int .i64 k)] [] = some ⟨.one (.int .i64 (prd k l (i - s))), [], []⟩ := by
    refine (e_ref04_predict ..).trans ?_
    simp only [Bool.and_eq_true, decide_eq_true_eq] at hok
    obtain ⟨⟨⟨hl, hs⟩, hi⟩, hB⟩ := hok
    have hn := lnOk_b hl
    have hs' := inr_b hs
    have hB := fitB_Bd (by omega) hB
    have b1 := hB.at (i - s - 1) hn.1
    have b2 := hB.at (i - s + 1) hn.1
    have b3 := hB.at (i - s - 3) hn.1
    have b4 := hB.at (i - s + 3) hn.1
    simp only [ite2_bool, beq_iff_eq, hl, hs, Bool.true_and, prd]
    rw [wrap_in (n := i - 1) (by omega) (by omega), wrap_in (n := i + 1) (by omega) (by omega), wrap_in (n := i - 3) (by omega) (by omega), wrap_in (n := i + 3) (by omega) (by omega), inr_t (a := -100000) (b := 100000) (x := i - 3) (by omega) (by omega), inr_t (a := -100000) (b := 100000) (x := i + 3) (by omega) (by omega), show i - 3 - s = i - s - 3 by omega, show i + 3 - s = i - s + 3 by omega, inr_t (a := -100000) (b := 100000) (x := i - 1) (by omega) (by omega), inr_t (a := -100000) (b := 100000) (x := i + 1) (by omega) (by omega), show i - 1 - s = i - s - 1 by omega, show i + 1 - s = i - s + 1 by omega]
    by_cases h1 : k = 1
    · rw [if_pos h1, if_pos h1]
      rfl
    rw [if_neg h1, if_neg h1]
    by_cases h2 : k = 2
    · rw [if_pos h2, if_pos h2, wrap_in (n := at_ l (i - s - 1) + at_ l (i - s + 1)) (by omega) (by omega), inr_t (a := -4611686018427387904) (b := 4611686018427387904) (by omega) (by omega)]
      rfl
    rw [if_neg h2, if_neg h2, wrap_in (n := at_ l (i - s - 1) + at_ l (i - s + 1)) (by omega) (by omega), wrap_in (n := 9 * (at_ l (i - s - 1) + at_ l (i - s + 1))) (by omega) (by omega), wrap_in (n := at_ l (i - s - 3) + at_ l (i - s + 3)) (by omega) (by omega), wrap_in (n := 9 * (at_ l (i - s - 1) + at_ l (i - s + 1)) - (at_ l (i - s - 3) + at_ l (i - s + 3))) (by omega) (by omega), wrap_in (n := 9 * (at_ l (i - s - 1) + at_ l (i - s + 1)) - (at_ l (i - s - 3) + at_ l (i - s + 3)) + 8) (by omega) (by omega), inr_t (a := -4611686018427387904) (b := 4611686018427387904) (by omega) (by omega)]
    rfl
theorem s_ref04_predict : SoundFun Try.prog 93 G_ref04_predict := by
  refine fun_ok (tab := t_ref04_predict) (ann := annOf []) (lt := l_ref04_predict) (tab_cons s_ref04_at (tab_cons s_ref04_FloorDiv tab_nil)) (by kernel_rfl) (fn := Try.f93) (by kernel_rfl) (by decide) (c := bodyOf Try.f93) (by kernel_rfl) (fun m b hb => absurd hb (by show b ∉ loopsOf (bodyOf Try.f93); rw [show loopsOf (bodyOf Try.f93) = [] from by kernel_rfl]; exact List.not_mem_nil)) ?_ (keep_nil (by kernel_rfl))
  intro args lent o y0'
  unfold G_ref04_predict at y0'
  obtain ⟨c', args, rfl, y1'⟩ := pO_s y0'
  obtain ⟨l, rfl, y2'⟩ := kLI_s y1'
  obtain ⟨c', args, rfl, y3'⟩ := pO_s y2'
  obtain ⟨s, rfl, y4'⟩ := kI_s y3'
  obtain ⟨c', args, rfl, y5'⟩ := pO_s y4'
  obtain ⟨i, rfl, y6'⟩ := kI_s y5'
  obtain ⟨c', args, rfl, y7'⟩ := pO_s y6'
  obtain ⟨k, rfl, y8'⟩ := kI_s y7'
  obtain ⟨rfl, y9'⟩ := pE_s y8'
  obtain ⟨rfl, y10'⟩ := nE_s y9'
  have yy' := y10'
  unfold H_ref04_predict at yy'
  obtain ⟨hok, rfl⟩ := Prod.mk.inj (Option.some.inj yy')
  exact ⟨20, q_ref04_predict _ _ _ _ hok⟩
theorem q_ref04_update (l : List Int) (s i k : Int) (hok : (lnOk l && inr 0 4096 s && (decide (s ≤ i) && decide (i < s + l.length)) && fitB 36028797018963968 l) = true) : funR Try.prog t_ref04_update (annOf []) l_ref04_update 20 Try.f94 [.one (.lst (.int .i64) l), .one (.int .i64 s), .one (.int .i64 i), .one (.int .i64 k)] [] = some ⟨.one (.int .i64 (upd k l (i - s))), [], []⟩ := by
    refine (e_ref04_update ..).trans ?_
    simp only [Bool.and_eq_true, decide_eq_true_eq] at hok
    obtain ⟨⟨⟨hl, hs⟩, hi⟩, hB⟩ := hok
    have hn := lnOk_b hl
    have hs' := inr_b hs
    have hB := fitB_Bd (by omega) hB
    have b1 := hB.at (i - s - 1) hn.1
    have b2 := hB.at (i - s + 1) hn.1
    have b3 := hB.at (i - s - 3) hn.1
    have b4 := hB.at (i - s + 3) hn.1
    simp only [ite2_bool, beq_iff_eq, hl, hs, Bool.true_and, upd]
    rw [wrap_in (n := i - 1) (by omega) (by omega), wrap_in (n := i + 1) (by omega) (by omega), inr_t (a := -100000) (b := 100000) (x := i - 1) (by omega) (by omega), inr_t (a := -100000) (b := 100000) (x := i + 1) (by omega) (by omega), show i - 1 - s = i - s - 1 by omega, show i + 1 - s = i - s + 1 by omega]
    by_cases h1 : k = 1
    · rw [if_pos h1, if_pos h1]
      rw [inr_t (a := -4611686018427387904) (b := 4611686018427387904) (by omega) (by omega)]
      rfl
    rw [if_neg h1, if_neg h1]
    rw [wrap_in (n := at_ l (i - s - 1) + at_ l (i - s + 1)) (by omega) (by omega), wrap_in (n := at_ l (i - s - 1) + at_ l (i - s + 1) + 2) (by omega) (by omega), inr_t (a := -4611686018427387904) (b := 4611686018427387904) (by omega) (by omega)]
    rfl
theorem s_ref04_update : SoundFun Try.prog 94 G_ref04_update := by
  refine fun_ok (tab := t_ref04_update) (ann := annOf []) (lt := l_ref04_update) (tab_cons s_ref04_at (tab_cons s_ref04_FloorDiv tab_nil)) (by kernel_rfl) (fn := Try.f94) (by kernel_rfl) (by decide) (c := bodyOf Try.f94) (by kernel_rfl) (fun m b hb => absurd hb (by show b ∉ loopsOf (bodyOf Try.f94); rw [show loopsOf (bodyOf Try.f94) = [] from by kernel_rfl]; exact List.not_mem_nil)) ?_ (keep_nil (by kernel_rfl))
  intro args lent o y0'
  unfold G_ref04_update at y0'
  obtain ⟨c', args, rfl, y1'⟩ := pO_s y0'
  obtain ⟨l, rfl, y2'⟩ := kLI_s y1'
  obtain ⟨c', args, rfl, y3'⟩ := pO_s y2'
  obtain ⟨s, rfl, y4'⟩ := kI_s y3'
  obtain ⟨c', args, rfl, y5'⟩ := pO_s y4'
  obtain ⟨i, rfl, y6'⟩ := kI_s y5'
  obtain ⟨c', args, rfl, y7'⟩ := pO_s y6'
  obtain ⟨k, rfl, y8'⟩ := kI_s y7'
  obtain ⟨rfl, y9'⟩ := pE_s y8'
  obtain ⟨rfl, y10'⟩ := nE_s y9'
  have yy' := y10'
  unfold H_ref04_update at yy'
  obtain ⟨hok, rfl⟩ := Prod.mk.inj (Option.some.inj yy')
  exact ⟨20, q_ref04_update _ _ _ _ hok⟩
end Go.Rx.Ch06

set_option linter.unusedVariables false
set_option linter.unusedSimpArgs false
set_option maxRecDepth 100000
set_option maxHeartbeats 40000000
open Go Go.Rx Go.Proofs
namespace Go.Rx.Ch06
theorem r_ref04_Forward_0 : RoundOk Try.prog t_ref04_Forward (annOf []) l_ref04_Forward Out 20 0 95 [0, 1, 2, 9, 39, 40] (kxOf [1, 2, 9] [6, 7, 8]) (loopOf Try.f76 0) T_ref04_Forward_0 := by
  intro vs bl Kc r h
  unfold T_ref04_Forward_0 at h
  obtain ⟨t, y0', h'⟩ := getD_run h
  obtain ⟨c', vs, rfl, y1'⟩ := pO_s y0'
  obtain ⟨l, rfl, y2'⟩ := kLI_s y1'
  obtain ⟨c', vs, rfl, y3'⟩ := pO_s y2'
  obtain ⟨s, rfl, y4'⟩ := kI_s y3'
  obtain ⟨c', vs, rfl, y5'⟩ := pO_s y4'
  obtain ⟨q, rfl, y6'⟩ := kI_s y5'
  obtain ⟨c', vs, rfl, y7'⟩ := pO_s y6'
  obtain ⟨rfl, y8'⟩ := kR_s y7'
  obtain ⟨c', vs, rfl, y9'⟩ := pO_s y8'
  obtain ⟨n, rfl, y10'⟩ := kI_s y9'
  obtain ⟨c', vs, rfl, y11'⟩ := pO_s y10'
  obtain ⟨j, rfl, y12'⟩ := kI_s y11'
  obtain ⟨rfl, y13'⟩ := pE_s y12'
  obtain ⟨c, bl, rfl, y14'⟩ := bAI_s y13'
  obtain ⟨rfl, y15'⟩ := bE_s y14'
  have yy' := y15'
  cases yy'
  exact (b_ref04_Forward_0 ..).trans ((congrArg (LT.runc · Kc) (tu_ref04_Forward_0 ..)).trans h')
theorem r_ref04_Forward_1 : RoundOk Try.prog t_ref04_Forward (annOf []) l_ref04_Forward Out 20 0 95 [1, 2, 9, 11, 66, 67] (kxOf [1, 9] [6, 7, 8]) (loopOf Try.f76 1) T_ref04_Forward_1 := by
  intro vs bl Kc r h
  unfold T_ref04_Forward_1 at h
  obtain ⟨t, y0', h'⟩ := getD_run h
  obtain ⟨c', vs, rfl, y1'⟩ := pO_s y0'
  obtain ⟨s, rfl, y2'⟩ := kI_s y1'
  obtain ⟨c', vs, rfl, y3'⟩ := pO_s y2'
  obtain ⟨q, rfl, y4'⟩ := kI_s y3'
  obtain ⟨c', vs, rfl, y5'⟩ := pO_s y4'
  obtain ⟨rfl, y6'⟩ := kR_s y5'
  obtain ⟨c', vs, rfl, y7'⟩ := pO_s y6'
  obtain ⟨rfl, y8'⟩ := kR_s y7'
  obtain ⟨c', vs, rfl, y9'⟩ := pO_s y8'
  obtain ⟨n, rfl, y10'⟩ := kI_s y9'
  obtain ⟨c', vs, rfl, y11'⟩ := pO_s y10'
  obtain ⟨j, rfl, y12'⟩ := kI_s y11'
  obtain ⟨rfl, y13'⟩ := pE_s y12'
  obtain ⟨c, bl, rfl, y14'⟩ := bAI_s y13'
  obtain ⟨y, bl, rfl, y15'⟩ := bAI_s y14'
  obtain ⟨rfl, y16'⟩ := bE_s y15'
  have yy' := y16'
  cases yy'
  exact (b_ref04_Forward_1 ..).trans ((congrArg (LT.runc · Kc) (tu_ref04_Forward_1 ..)).trans h')
theorem o_ref04_Forward : loopsOf (bodyOf Try.f76) = [loopOf Try.f76 0, loopOf Try.f76 1] := by kernel_rfl
theorem zr_ref04_Forward_0 (s q : Int) (l : List Int) (hs : 0 ≤ s ∧ s ≤ 4096) (hn : 2 ≤ l.length ∧ l.length ≤ 4096) (hB : Bd 3000000000000000 l) : ∀ (d i : Nat) (c : List Int), i + d = l.length → c.length = l.length → (∀ z : Nat, rd c z = if z < i then rd (stp 1 (-1) (prd q) s l) z else rd l z) → ∃ z, ∀ (K : Ex → List V → List (Option Blk) → Option Out) (r : Out), (LT.leaf (.exit 0) [.one (.int .i64 s), .one (.int .i64 q), .one (.row 0)] [some (.arr 3 (.int .i64) (stp 1 (-1) (prd q) s l))]).run K = some r → (iter T_ref04_Forward_0 z [.one (.lst (.int .i64) l), .one (.int .i64 s), .one (.int .i64 q), .one (.row 0), .one (.int .i64 (l.length : Int)), .one (.int .i64 (i : Int))] [some (.arr 3 (.int .i64) c)]).run K = some r
  | 0, i, c, h, hl, hc => ⟨1, fun K r h' => by
    simp only [iter, tu_ref04_Forward_0, U_ref04_Forward_0, LT.next, LT.run, ite2_bool, decide_eq_true_eq]
    rw [if_neg (by omega)]
    rw [← way_end hc hl (by omega)] at h'
    exact h'⟩
  | d + 1, i, c, h, hl, hc => by
    have hci : rd c i = rd l i := by rw [hc i, if_neg (by omega)]
    have hbl := hB i
    have hv := prd_bd q hB (by omega) hn.1 (i : Int)
    by_cases hp : (s + (i : Int)) % 2 = 1
    · obtain ⟨z, hz⟩ := zr_ref04_Forward_0 s q l hs hn hB d (i + 1) (c.set i (rd l i + (-1) * prd q l i)) (by omega) (by simpa using hl) (way_next hc hl (by omega) hp rfl)
      refine ⟨z + 1, fun K r h' => ?_⟩
      have hok : (lnOk l && inr 0 4096 s && (decide (s ≤ s + (i : Int)) && decide (s + (i : Int) < s + (l.length : Int))) && fitB 36028797018963968 l) = true := by
        rw [lnOk_of (by omega) (by omega), inr_t (by omega) (by omega), fitB_of (hB.mono (by omega))]
        simp; omega
      simp only [iter, tu_ref04_Forward_0, U_ref04_Forward_0, LT.next, LT.run, ite2_bool, decide_eq_true_eq, Int.toNat_natCast, gI_rd]
      rw [wrap_in (n := s + (i : Int)) (by omega) (by omega), Int.tmod_eq_emod_of_nonneg (by omega), hp, hok, show s + (i : Int) - s = i by omega, hci, wrap_in (n := rd l i - prd q l i) (by omega) (by omega), wrap_in (n := (i : Int) + 1) (by omega) (by omega)]
      rw [show rd l i + (-1) * prd q l i = rd l i - prd q l i by omega] at hz
      repeat rw [if_pos (by first | rfl | omega)]
      exact hz K r h'
    · obtain ⟨z, hz⟩ := zr_ref04_Forward_0 s q l hs hn hB d (i + 1) c (by omega) hl (way_skip hc hp)
      refine ⟨z + 1, fun K r h' => ?_⟩
      simp only [iter, tu_ref04_Forward_0, U_ref04_Forward_0, LT.next, LT.run, ite2_bool, decide_eq_true_eq, Int.toNat_natCast]
      rw [par_w hs.1 hs.2 (by omega) (by omega), show ((s + (i : Int)) % 2 == 1) = false by simpa using hp, wrap_in (n := (i : Int) + 1) (by omega) (by omega), if_pos (by omega), if_neg (by decide)]
      exact hz K r h'
theorem zz_ref04_Forward_0 (s q n j : Int) (c l : List Int) (hk : k_ref04_Forward_0 s q n j c l = true) : ∃ k, ∀ (K : Ex → List V → List (Option Blk) → Option Out) r, (c_ref04_Forward_0 s q n j c l).run K = some r → (iter T_ref04_Forward_0 k [.one (.lst (.int .i64) l), .one (.int .i64 s), .one (.int .i64 q), .one (.row 0), .one (.int .i64 n), .one (.int .i64 j)] [some (.arr 3 (.int .i64) c)]).run K = some r := by
  simp only [k_ref04_Forward_0, Bool.and_eq_true, decide_eq_true_eq] at hk
  obtain ⟨⟨⟨⟨⟨rfl, rfl⟩, rfl⟩, hn⟩, hs⟩, hB⟩ := hk
  exact zr_ref04_Forward_0 s q _ (inr_b hs) (lnOk_b hn) (fitB_Bd (by omega) hB) _ 0 _ (Nat.zero_add _) rfl (fun q => by rw [if_neg (by omega)])
theorem z_ref04_Forward_0 : ∀ vs bl t, S_ref04_Forward_0 vs bl = some (true, t) → ∃ n, ∀ (K : Ex → List V → List (Option Blk) → Option Out) r, t.run K = some r → (iter T_ref04_Forward_0 n vs bl).run K = some r := by
  intro vs bl t y0'
  unfold S_ref04_Forward_0 at y0'
  obtain ⟨c', vs, rfl, y1'⟩ := pO_s y0'
  obtain ⟨l, rfl, y2'⟩ := kLI_s y1'
  obtain ⟨c', vs, rfl, y3'⟩ := pO_s y2'
  obtain ⟨s, rfl, y4'⟩ := kI_s y3'
  obtain ⟨c', vs, rfl, y5'⟩ := pO_s y4'
  obtain ⟨q, rfl, y6'⟩ := kI_s y5'
  obtain ⟨c', vs, rfl, y7'⟩ := pO_s y6'
  obtain ⟨rfl, y8'⟩ := kR_s y7'
  obtain ⟨c', vs, rfl, y9'⟩ := pO_s y8'
  obtain ⟨n, rfl, y10'⟩ := kI_s y9'
  obtain ⟨c', vs, rfl, y11'⟩ := pO_s y10'
  obtain ⟨j, rfl, y12'⟩ := kI_s y11'
  obtain ⟨rfl, y13'⟩ := pE_s y12'
  obtain ⟨c, bl, rfl, y14'⟩ := bAI_s y13'
  obtain ⟨rfl, y15'⟩ := bE_s y14'
  have yy' := y15'
  obtain ⟨hk, rfl⟩ := Prod.mk.inj (Option.some.inj yy')
  exact zz_ref04_Forward_0 _ _ _ _ _ _ hk
theorem zr_ref04_Forward_1 (s q : Int) (y : List Int) (hs : 0 ≤ s ∧ s ≤ 4096) (hn : 2 ≤ y.length ∧ y.length ≤ 4096) (hB : Bd 3000000000000000 y) : ∀ (d i : Nat) (c : List Int), i + d = y.length → c.length = y.length → (∀ z : Nat, rd c z = if z < i then rd (stp 0 (1) (upd q) s y) z else rd y z) → ∃ z, ∀ (K : Ex → List V → List (Option Blk) → Option Out) (r : Out), (LT.leaf (.exit 2) [.one (.int .i64 s), .one (.row 0)] [some (.arr 3 (.int .i64) (stp 0 (1) (upd q) s y))]).run K = some r → (iter T_ref04_Forward_1 z [.one (.int .i64 s), .one (.int .i64 q), .one (.row 0), .one (.row 1), .one (.int .i64 (y.length : Int)), .one (.int .i64 (i : Int))] [some (.arr 3 (.int .i64) c), some (.arr 3 (.int .i64) y)]).run K = some r
  | 0, i, c, h, hl, hc => ⟨1, fun K r h' => by
    simp only [iter, tu_ref04_Forward_1, U_ref04_Forward_1, LT.next, LT.run, ite2_bool, decide_eq_true_eq]
    rw [if_neg (by omega)]
    rw [← way_end hc hl (by omega)] at h'
    exact h'⟩
  | d + 1, i, c, h, hl, hc => by
    have hci : rd c i = rd y i := by rw [hc i, if_neg (by omega)]
    have hbl := hB i
    have hv := upd_bd q hB (by omega) hn.1 (i : Int)
    by_cases hp : (s + (i : Int)) % 2 = 0
    · obtain ⟨z, hz⟩ := zr_ref04_Forward_1 s q y hs hn hB d (i + 1) (c.set i (rd y i + (1) * upd q y i)) (by omega) (by simpa using hl) (way_next hc hl (by omega) hp rfl)
      refine ⟨z + 1, fun K r h' => ?_⟩
      have hok : (lnOk y && inr 0 4096 s && (decide (s ≤ s + (i : Int)) && decide (s + (i : Int) < s + (y.length : Int))) && fitB 36028797018963968 y) = true := by
        rw [lnOk_of (by omega) (by omega), inr_t (by omega) (by omega), fitB_of (hB.mono (by omega))]
        simp; omega
      simp only [iter, tu_ref04_Forward_1, U_ref04_Forward_1, LT.next, LT.run, ite2_bool, decide_eq_true_eq, Int.toNat_natCast, gI_rd]
      rw [wrap_in (n := s + (i : Int)) (by omega) (by omega), Int.tmod_eq_emod_of_nonneg (by omega), hp, hok, show s + (i : Int) - s = i by omega, hci, wrap_in (n := rd y i + upd q y i) (by omega) (by omega), wrap_in (n := (i : Int) + 1) (by omega) (by omega)]
      rw [show rd y i + (1) * upd q y i = rd y i + upd q y i by omega] at hz
      repeat rw [if_pos (by first | rfl | omega)]
      exact hz K r h'
    · obtain ⟨z, hz⟩ := zr_ref04_Forward_1 s q y hs hn hB d (i + 1) c (by omega) hl (way_skip hc hp)
      refine ⟨z + 1, fun K r h' => ?_⟩
      simp only [iter, tu_ref04_Forward_1, U_ref04_Forward_1, LT.next, LT.run, ite2_bool, decide_eq_true_eq, Int.toNat_natCast]
      rw [par_w hs.1 hs.2 (by omega) (by omega), show ((s + (i : Int)) % 2 == 0) = false by simpa using hp, wrap_in (n := (i : Int) + 1) (by omega) (by omega), if_pos (by omega), if_neg (by decide)]
      exact hz K r h'
theorem zz_ref04_Forward_1 (s q n j : Int) (c y : List Int) (hk : k_ref04_Forward_1 s q n j c y = true) : ∃ k, ∀ (K : Ex → List V → List (Option Blk) → Option Out) r, (c_ref04_Forward_1 s q n j c y).run K = some r → (iter T_ref04_Forward_1 k [.one (.int .i64 s), .one (.int .i64 q), .one (.row 0), .one (.row 1), .one (.int .i64 n), .one (.int .i64 j)] [some (.arr 3 (.int .i64) c), some (.arr 3 (.int .i64) y)]).run K = some r := by
  simp only [k_ref04_Forward_1, Bool.and_eq_true, decide_eq_true_eq] at hk
  obtain ⟨⟨⟨⟨⟨rfl, rfl⟩, rfl⟩, hn⟩, hs⟩, hB⟩ := hk
  exact zr_ref04_Forward_1 s q _ (inr_b hs) (lnOk_b hn) (fitB_Bd (by omega) hB) _ 0 _ (Nat.zero_add _) rfl (fun q => by rw [if_neg (by omega)])
theorem z_ref04_Forward_1 : ∀ vs bl t, S_ref04_Forward_1 vs bl = some (true, t) → ∃ n, ∀ (K : Ex → List V → List (Option Blk) → Option Out) r, t.run K = some r → (iter T_ref04_Forward_1 n vs bl).run K = some r := by
  intro vs bl t y0'
  unfold S_ref04_Forward_1 at y0'
  obtain ⟨c', vs, rfl, y1'⟩ := pO_s y0'
  obtain ⟨s, rfl, y2'⟩ := kI_s y1'
  obtain ⟨c', vs, rfl, y3'⟩ := pO_s y2'
  obtain ⟨q, rfl, y4'⟩ := kI_s y3'
  obtain ⟨c', vs, rfl, y5'⟩ := pO_s y4'
  obtain ⟨rfl, y6'⟩ := kR_s y5'
  obtain ⟨c', vs, rfl, y7'⟩ := pO_s y6'
  obtain ⟨rfl, y8'⟩ := kR_s y7'
  obtain ⟨c', vs, rfl, y9'⟩ := pO_s y8'
  obtain ⟨n, rfl, y10'⟩ := kI_s y9'
  obtain ⟨c', vs, rfl, y11'⟩ := pO_s y10'
  obtain ⟨j, rfl, y12'⟩ := kI_s y11'
  obtain ⟨rfl, y13'⟩ := pE_s y12'
  obtain ⟨c, bl, rfl, y14'⟩ := bAI_s y13'
  obtain ⟨y, bl, rfl, y15'⟩ := bAI_s y14'
  obtain ⟨rfl, y16'⟩ := bE_s y15'
  have yy' := y16'
  obtain ⟨hk, rfl⟩ := Prod.mk.inj (Option.some.inj yy')
  exact zz_ref04_Forward_1 _ _ _ _ _ _ hk
theorem q_ref04_Forward (l : List Int) (s k : Int) (hok : small l.length = true) : funR Try.prog t_ref04_Forward (annOf []) l_ref04_Forward 20 Try.f76 [.one (.lst (.int .i64) l), .one (.int .i64 s), .one (.int .i64 k)] [] = some ⟨.tup [(false, [.row 0]), (false, [.row 1]), (false, [.int .i64 (fw l s k).2.2])], [], [.arr 3 (.int .i64) (fw l s k).1, .arr 3 (.int .i64) (fw l s k).2.1]⟩ := by
    refine (e_ref04_Forward ..).trans ?_
    simp only [ite2_bool, decide_eq_true_eq, fw, List.nil_append]
    cases h1 : inr 1 3 k
    · have : ¬ (1 ≤ k ∧ k ≤ 3) := by simp [inr] at h1; omega
      rw [if_pos (by rfl), if_pos this]
    have hk := inr_b h1
    rw [if_neg (by decide), if_neg (show ¬ ¬ (1 ≤ k ∧ k ≤ 3) from fun h => h hk)]
    by_cases h2 : s < 0
    · rw [if_pos h2, if_pos (show ¬ (0 ≤ s ∧ s ≤ 4096 ∧ l.length ≤ 4096 ∧ fit 281474976710656 l) from fun h => by have := h.1; omega)]
    by_cases h3 : s > 4096
    · rw [if_neg h2, if_pos h3, if_pos (show ¬ (0 ≤ s ∧ s ≤ 4096 ∧ l.length ≤ 4096 ∧ fit 281474976710656 l) from fun h => by have := h.2.1; omega)]
    by_cases h4 : (l.length : Int) > 4096
    · rw [if_neg h2, if_neg h3, if_pos h4, if_pos (show ¬ (0 ≤ s ∧ s ≤ 4096 ∧ l.length ≤ 4096 ∧ fit 281474976710656 l) from fun h => by have := h.2.2.1; omega)]
    rw [if_neg h2, if_neg h3, if_neg h4, hok, if_pos (by rfl)]
    cases h5 : fitB 281474976710656 l
    · have : ¬ fit 281474976710656 l := by rw [fitB_d] at h5; simpa using h5
      rw [if_pos (by rfl), if_pos (show ¬ (0 ≤ s ∧ s ≤ 4096 ∧ l.length ≤ 4096 ∧ fit 281474976710656 l) from fun h => this h.2.2.2)]
    have hf : fit 281474976710656 l := by rw [fitB_d] at h5; simpa using h5
    have hB := fitB_Bd (by omega) h5
    rw [if_neg (by decide), if_pos (show (0 + l.length) * 9 ≤ 140737488355328 by omega), if_neg (show ¬ ¬ (0 ≤ s ∧ s ≤ 4096 ∧ l.length ≤ 4096 ∧ fit 281474976710656 l) from fun h => h ⟨by omega, by omega, by omega, hf⟩)]
    have hs := inr_t (a := 0) (b := 4096) (x := s) (by omega) (by omega)
    by_cases h6 : (l.length : Int) > 1
    · have h7 : l.length > 1 := by omega
      have b1 := stp_bd (par := 1) (sg := -1) (s := s) (F := prd k) hB (f := 2 * 281474976710656 + 1) (by omega) (.inr rfl) (fun i _ => prd_bd k hB (by omega) (by omega) i)
      have l1 : (stp 1 (-1) (prd k) s l).length = l.length := stp_length ..
      have l2 : (stp 0 1 (upd k) s (stp 1 (-1) (prd k) s l)).length = l.length := by rw [stp_length, stp_length]
      have sk : sok (stp 0 1 (upd k) s (stp 1 (-1) (prd k) s l)) s := ⟨by omega, by omega, by omega⟩
      have hsp : spl (fwd k s l) s = (evs s (fwd k s l), ods s (fwd k s l), 0) := by unfold spl fwd; rw [if_pos sk]
      have k0 : k_ref04_Forward_0 s k (l.length : Int) 0 l l = true := by
        simp only [k_ref04_Forward_0, lnOk_of (l := l) (by omega) (by omega), hs, fitB_of (b := 3000000000000000) (hB.mono (by omega)), decide_true, Bool.and_self]
      have k1 : k_ref04_Forward_1 s k ((stp 1 (-1) (prd k) s l).length : Int) 0 (stp 1 (-1) (prd k) s l) (stp 1 (-1) (prd k) s l) = true := by
        simp only [k_ref04_Forward_1, lnOk_of (l := stp 1 (-1) (prd k) s l) (by omega) (by omega), hs, fitB_of (b := 3000000000000000) (b1.mono (by omega)), decide_true, Bool.and_self]
      rw [if_pos h6, k0, k1, if_pos rfl, if_pos (show (0 + (stp 1 (-1) (prd k) s l).length) * 9 ≤ 140737488355328 by omega), if_pos rfl, small_of (l := stp 0 1 (upd k) s (stp 1 (-1) (prd k) s l)) (by omega), if_pos h7]
      have e : stp 0 1 (upd k) s (stp 1 (-1) (prd k) s l) = fwd k s l := rfl
      rw [e, hsp]
      simp
    · have h7 : ¬ l.length > 1 := by omega
      have sk : sok l s := ⟨by omega, by omega, by omega⟩
      have hsp : spl l s = (evs s l, ods s l, 0) := by unfold spl; rw [if_pos sk]
      rw [if_neg h6, if_neg h7, if_pos rfl, hsp]
theorem s_ref04_Forward : SoundFun Try.prog 76 G_ref04_Forward := by
  refine fun_ok (tab := t_ref04_Forward) (ann := annOf []) (lt := l_ref04_Forward) (tab_cons s_ref04_Valid (tab_cons s_ref04_Few (tab_cons s_ref04_predict (tab_cons s_ref04_update (tab_cons s_ref03_Split tab_nil))))) (by kernel_rfl) (fn := Try.f76) (by kernel_rfl) (by decide) (c := bodyOf Try.f76) (by kernel_rfl) (by
    intro m b hb
    have hb' : b ∈ loopsOf (bodyOf Try.f76) := hb
    rw [o_ref04_Forward] at hb'
    simp only [List.mem_cons, List.not_mem_nil, or_false] at hb'
    rcases hb' with rfl | rfl
    · exact loop_ok (key := 8) (by kernel_rfl) rfl r_ref04_Forward_0 z_ref04_Forward_0 m
    · exact loop_ok (key := 15) (by kernel_rfl) rfl r_ref04_Forward_1 z_ref04_Forward_1 m
    ) ?_ (keep_nil (by kernel_rfl))
  intro args lent o y0'
  unfold G_ref04_Forward at y0'
  obtain ⟨c', args, rfl, y1'⟩ := pO_s y0'
  obtain ⟨l, rfl, y2'⟩ := kLI_s y1'
  obtain ⟨c', args, rfl, y3'⟩ := pO_s y2'
  obtain ⟨s, rfl, y4'⟩ := kI_s y3'
  obtain ⟨c', args, rfl, y5'⟩ := pO_s y4'
  obtain ⟨k, rfl, y6'⟩ := kI_s y5'
  obtain ⟨rfl, y7'⟩ := pE_s y6'
  obtain ⟨rfl, y8'⟩ := nE_s y7'
  have yy' := y8'
  unfold H_ref04_Forward at yy'
  obtain ⟨hok, rfl⟩ := Prod.mk.inj (Option.some.inj yy')
  exact ⟨20, q_ref04_Forward _ _ _ hok⟩
end Go.Rx.Ch06

set_option linter.unusedVariables false
set_option linter.unusedSimpArgs false
set_option maxRecDepth 100000
set_option maxHeartbeats 40000000
open Go Go.Rx Go.Proofs
namespace Go.Rx.Ch06
theorem q_pl_width (a b c d : Int) (l : List Int) (hok : true = true) : funR Try.prog t_pl_width (annOf []) l_pl_width 20 Try.f86 [.agg [.int .i64 a, .int .i64 b, .int .i64 c, .int .i64 d, .lst (.int .i64) l]] [] = some ⟨.one (.int .i64 (w (c - a))), [], []⟩ := by
    refine (e_pl_width ..).trans ?_
    rfl
theorem s_pl_width : SoundFun Try.prog 86 G_pl_width := by
  refine fun_ok (tab := t_pl_width) (ann := annOf []) (lt := l_pl_width) tab_nil (by kernel_rfl) (fn := Try.f86) (by kernel_rfl) (by decide) (c := bodyOf Try.f86) (by kernel_rfl) (fun m b hb => absurd hb (by show b ∉ loopsOf (bodyOf Try.f86); rw [show loopsOf (bodyOf Try.f86) = [] from by kernel_rfl]; exact List.not_mem_nil)) ?_ (keep_nil (by kernel_rfl))
  intro args lent o y0'
  unfold G_pl_width at y0'
  obtain ⟨q', args, rfl, y1'⟩ := pA_s y0'
  obtain ⟨c', q', rfl, y2'⟩ := tC_s y1'
  obtain ⟨a, rfl, y3'⟩ := kI_s y2'
  obtain ⟨c', q', rfl, y4'⟩ := tC_s y3'
  obtain ⟨b, rfl, y5'⟩ := kI_s y4'
  obtain ⟨c', q', rfl, y6'⟩ := tC_s y5'
  obtain ⟨c, rfl, y7'⟩ := kI_s y6'
  obtain ⟨c', q', rfl, y8'⟩ := tC_s y7'
  obtain ⟨d, rfl, y9'⟩ := kI_s y8'
  obtain ⟨c', q', rfl, y10'⟩ := tC_s y9'
  obtain ⟨l, rfl, y11'⟩ := kLI_s y10'
  obtain ⟨rfl, y12'⟩ := tE_s y11'
  obtain ⟨rfl, y13'⟩ := pE_s y12'
  obtain ⟨rfl, y14'⟩ := nE_s y13'
  have yy' := y14'
  unfold H_pl_width at yy'
  obtain ⟨hok, rfl⟩ := Prod.mk.inj (Option.some.inj yy')
  exact ⟨20, q_pl_width _ _ _ _ _ hok⟩
theorem q_pl_Valid (a b c d : Int) (l : List Int) (hok : true = true) : funR Try.prog t_pl_Valid (annOf []) l_pl_Valid 20 Try.f39 [.agg [.int .i64 a, .int .i64 b, .int .i64 c, .int .i64 d, .lst (.int .i64) l]] [] = some ⟨.one (.bool (plV a b c d l)), [], []⟩ := by
    refine (e_pl_Valid ..).trans ?_
    simp only [ite2_dec, ite2_bool, mx_eq, mn_eq, plV]
    (repeat' split) <;> (try simp_all) <;> (try omega) <;> (try (rw [Bool.eq_iff_iff]; simp; omega)) <;> (try (rw [Bool.eq_iff_iff]; simp))
theorem s_pl_Valid : SoundFun Try.prog 39 G_pl_Valid := by
  refine fun_ok (tab := t_pl_Valid) (ann := annOf []) (lt := l_pl_Valid) (tab_cons s_rect_Valid (tab_cons s_rect_Area tab_nil)) (by kernel_rfl) (fn := Try.f39) (by kernel_rfl) (by decide) (c := bodyOf Try.f39) (by kernel_rfl) (fun m b hb => absurd hb (by show b ∉ loopsOf (bodyOf Try.f39); rw [show loopsOf (bodyOf Try.f39) = [] from by kernel_rfl]; exact List.not_mem_nil)) ?_ (keep_nil (by kernel_rfl))
  intro args lent o y0'
  unfold G_pl_Valid at y0'
  obtain ⟨q', args, rfl, y1'⟩ := pA_s y0'
  obtain ⟨c', q', rfl, y2'⟩ := tC_s y1'
  obtain ⟨a, rfl, y3'⟩ := kI_s y2'
  obtain ⟨c', q', rfl, y4'⟩ := tC_s y3'
  obtain ⟨b, rfl, y5'⟩ := kI_s y4'
  obtain ⟨c', q', rfl, y6'⟩ := tC_s y5'
  obtain ⟨c, rfl, y7'⟩ := kI_s y6'
  obtain ⟨c', q', rfl, y8'⟩ := tC_s y7'
  obtain ⟨d, rfl, y9'⟩ := kI_s y8'
  obtain ⟨c', q', rfl, y10'⟩ := tC_s y9'
  obtain ⟨l, rfl, y11'⟩ := kLI_s y10'
  obtain ⟨rfl, y12'⟩ := tE_s y11'
  obtain ⟨rfl, y13'⟩ := pE_s y12'
  obtain ⟨rfl, y14'⟩ := nE_s y13'
  have yy' := y14'
  unfold H_pl_Valid at yy'
  obtain ⟨hok, rfl⟩ := Prod.mk.inj (Option.some.inj yy')
  exact ⟨20, q_pl_Valid _ _ _ _ _ hok⟩
theorem q_ref02_Valid (a b c d : Int) (l : List Int) (hok : true = true) : funR Try.prog t_ref02_Valid (annOf []) l_ref02_Valid 20 Try.f42 [.agg [.int .i64 a, .int .i64 b, .int .i64 c, .int .i64 d, .lst (.int .i64) l]] [] = some ⟨.one (.bool (plV a b c d l)), [], []⟩ := by
    refine (e_ref02_Valid ..).trans ?_
    simp only [ite2_dec, ite2_bool, mx_eq, mn_eq, plV]
    (repeat' split) <;> (try simp_all) <;> (try omega) <;> (try (rw [Bool.eq_iff_iff]; simp; omega)) <;> (try (rw [Bool.eq_iff_iff]; simp))
theorem s_ref02_Valid : SoundFun Try.prog 42 G_ref02_Valid := by
  refine fun_ok (tab := t_ref02_Valid) (ann := annOf []) (lt := l_ref02_Valid) (tab_cons s_ref01_Valid (tab_cons s_ref01_Area tab_nil)) (by kernel_rfl) (fn := Try.f42) (by kernel_rfl) (by decide) (c := bodyOf Try.f42) (by kernel_rfl) (fun m b hb => absurd hb (by show b ∉ loopsOf (bodyOf Try.f42); rw [show loopsOf (bodyOf Try.f42) = [] from by kernel_rfl]; exact List.not_mem_nil)) ?_ (keep_nil (by kernel_rfl))
  intro args lent o y0'
  unfold G_ref02_Valid at y0'
  obtain ⟨q', args, rfl, y1'⟩ := pA_s y0'
  obtain ⟨c', q', rfl, y2'⟩ := tC_s y1'
  obtain ⟨a, rfl, y3'⟩ := kI_s y2'
  obtain ⟨c', q', rfl, y4'⟩ := tC_s y3'
  obtain ⟨b, rfl, y5'⟩ := kI_s y4'
  obtain ⟨c', q', rfl, y6'⟩ := tC_s y5'
  obtain ⟨c, rfl, y7'⟩ := kI_s y6'
  obtain ⟨c', q', rfl, y8'⟩ := tC_s y7'
  obtain ⟨d, rfl, y9'⟩ := kI_s y8'
  obtain ⟨c', q', rfl, y10'⟩ := tC_s y9'
  obtain ⟨l, rfl, y11'⟩ := kLI_s y10'
  obtain ⟨rfl, y12'⟩ := tE_s y11'
  obtain ⟨rfl, y13'⟩ := pE_s y12'
  obtain ⟨rfl, y14'⟩ := nE_s y13'
  have yy' := y14'
  unfold H_ref02_Valid at yy'
  obtain ⟨hok, rfl⟩ := Prod.mk.inj (Option.some.inj yy')
  exact ⟨20, q_ref02_Valid _ _ _ _ _ hok⟩
theorem prod_b {x y m n : Int} (h0 : 0 ≤ x) (h1 : x ≤ m) (h2 : 0 ≤ y) (h3 : y ≤ n) : 0 ≤ x * y ∧ x * y ≤ m * n :=
  ⟨Int.mul_nonneg h0 h2, Int.mul_le_mul h1 h3 h2 (by omega)⟩
theorem marg_k (k : Int) : decide (marg k > 0) = inr 1 3 k := by
  unfold marg
  by_cases h1 : k = 1
  · subst h1; rfl
  by_cases h2 : k = 2
  · subst h2; rfl
  by_cases h3 : k = 3
  · subst h3; rfl
  have h4 : inr 1 3 k = false := by simp [inr]; omega
  have h5 : inr 1 2 k = false := by simp [inr]; omega
  simp [h3, h4, h5]
theorem plV_b {a b c d : Int} {l : List Int} (h : plV a b c d l = true) : valid a b c d = true ∧ (0 ≤ a ∧ a ≤ c ∧ c ≤ 4096 ∧ 0 ≤ b ∧ b ≤ d ∧ d ≤ 4096) ∧ (l.length : Int) = (c - a) * (d - b) ∧ (c - a) * (d - b) ≤ 1048576 ∧ 0 ≤ (c - a) * (d - b) := by
  simp only [plV, Bool.and_eq_true, decide_eq_true_eq] at h
  have hb := valid_b h.1.1
  have m := prod_b (show 0 ≤ c - a by omega) (show c - a ≤ 4096 by omega) (show 0 ≤ d - b by omega) (show d - b ≤ 4096 by omega)
  have e : area a b c d = (c - a) * (d - b) := by
    unfold area w
    rw [if_pos h.1.1, wrap_in (n := c - a) (by omega) (by omega), wrap_in (n := d - b) (by omega) (by omega), wrap_in (by omega) (by omega)]
  rw [e] at h
  exact ⟨h.1.1, hb, h.2, h.1.2, m.1⟩
theorem area_v {a b c d : Int} (h : valid a b c d = true) : area a b c d = (c - a) * (d - b) ∧ 0 ≤ area a b c d ∧ area a b c d ≤ 16777216 := by
  have hb := valid_b h
  have m := prod_b (show 0 ≤ c - a by omega) (show c - a ≤ 4096 by omega) (show 0 ≤ d - b by omega) (show d - b ≤ 4096 by omega)
  have e : area a b c d = (c - a) * (d - b) := by
    unfold area w
    rw [if_pos h, wrap_in (n := c - a) (by omega) (by omega), wrap_in (n := d - b) (by omega) (by omega), wrap_in (by omega) (by omega)]
  omega
theorem idx_b {i w h : Int} (h0 : 0 ≤ i) (h1 : i < h) (hw : 0 ≤ w) : 0 ≤ i * w ∧ i * w + w ≤ w * h := by
  have m1 := Int.mul_nonneg h0 hw
  have m2 : (i + 1) * w ≤ h * w := Int.mul_le_mul_of_nonneg_right (by omega) hw
  rw [Int.add_mul, Int.one_mul, Int.mul_comm h] at m2
  omega
theorem q_dwt_known (k : Int) (hok : true = true) : funR Try.prog t_dwt_known (annOf []) l_dwt_known 20 Try.f65 [.one (.int .i64 k)] [] = some ⟨.one (.bool (inr 1 3 k)), [], []⟩ := by
    refine (e_dwt_known ..).trans ?_
    rw [marg_k]
theorem s_dwt_known : SoundFun Try.prog 65 G_dwt_known := by
  refine fun_ok (tab := t_dwt_known) (ann := annOf []) (lt := l_dwt_known) (tab_cons s_lift_Margin tab_nil) (by kernel_rfl) (fn := Try.f65) (by kernel_rfl) (by decide) (c := bodyOf Try.f65) (by kernel_rfl) (fun m b hb => absurd hb (by show b ∉ loopsOf (bodyOf Try.f65); rw [show loopsOf (bodyOf Try.f65) = [] from by kernel_rfl]; exact List.not_mem_nil)) ?_ (keep_nil (by kernel_rfl))
  intro args lent o y0'
  unfold G_dwt_known at y0'
  obtain ⟨c', args, rfl, y1'⟩ := pO_s y0'
  obtain ⟨k, rfl, y2'⟩ := kI_s y1'
  obtain ⟨rfl, y3'⟩ := pE_s y2'
  obtain ⟨rfl, y4'⟩ := nE_s y3'
  have yy' := y4'
  unfold H_dwt_known at yy'
  obtain ⟨hok, rfl⟩ := Prod.mk.inj (Option.some.inj yy')
  exact ⟨20, q_dwt_known _ hok⟩
theorem q_ref05_Known (k : Int) (hok : true = true) : funR Try.prog t_ref05_Known (annOf []) l_ref05_Known 20 Try.f43 [.one (.int .i64 k)] [] = some ⟨.one (.bool (inr 1 3 k)), [], []⟩ := by
    refine (e_ref05_Known ..).trans ?_
    simp only [ite2_bool, beq_iff_eq]
    by_cases h1 : k = 1
    · subst h1; rfl
    by_cases h2 : k = 2
    · subst h2; rfl
    by_cases h3 : k = 3
    · subst h3; rfl
    have h4 : inr 1 3 k = false := by simp [inr]; omega
    simp [h1, h2, h3, h4]
theorem s_ref05_Known : SoundFun Try.prog 43 G_ref05_Known := by
  refine fun_ok (tab := t_ref05_Known) (ann := annOf []) (lt := l_ref05_Known) tab_nil (by kernel_rfl) (fn := Try.f43) (by kernel_rfl) (by decide) (c := bodyOf Try.f43) (by kernel_rfl) (fun m b hb => absurd hb (by show b ∉ loopsOf (bodyOf Try.f43); rw [show loopsOf (bodyOf Try.f43) = [] from by kernel_rfl]; exact List.not_mem_nil)) ?_ (keep_nil (by kernel_rfl))
  intro args lent o y0'
  unfold G_ref05_Known at y0'
  obtain ⟨c', args, rfl, y1'⟩ := pO_s y0'
  obtain ⟨k, rfl, y2'⟩ := kI_s y1'
  obtain ⟨rfl, y3'⟩ := pE_s y2'
  obtain ⟨rfl, y4'⟩ := nE_s y3'
  have yy' := y4'
  unfold H_ref05_Known at yy'
  obtain ⟨hok, rfl⟩ := Prod.mk.inj (Option.some.inj yy')
  exact ⟨20, q_ref05_Known _ hok⟩
theorem r_dwt_exceeds_0 : RoundOk Try.prog t_dwt_exceeds (annOf []) l_dwt_exceeds Out 20 0 23 [1, 7, 8, 9] (kxOf [] [4]) (loopOf Try.f66 0) T_dwt_exceeds_0 := by
  intro vs bl Kc r h
  unfold T_dwt_exceeds_0 at h
  obtain ⟨t, y0', h'⟩ := getD_run h
  obtain ⟨c', vs, rfl, y1'⟩ := pO_s y0'
  obtain ⟨b, rfl, y2'⟩ := kI_s y1'
  obtain ⟨c', vs, rfl, y3'⟩ := pO_s y2'
  obtain ⟨l, rfl, y4'⟩ := kLI_s y3'
  obtain ⟨c', vs, rfl, y5'⟩ := pO_s y4'
  obtain ⟨n, rfl, y6'⟩ := kI_s y5'
  obtain ⟨c', vs, rfl, y7'⟩ := pO_s y6'
  obtain ⟨i, rfl, y8'⟩ := kI_s y7'
  obtain ⟨rfl, y9'⟩ := pE_s y8'
  obtain ⟨rfl, y10'⟩ := bE_s y9'
  have yy' := y10'
  cases yy'
  exact (b_dwt_exceeds_0 ..).trans ((congrArg (LT.runc · Kc) (tu_dwt_exceeds_0 ..)).trans h')
theorem o_dwt_exceeds : loopsOf (bodyOf Try.f66) = [loopOf Try.f66 0] := by kernel_rfl
theorem zz_dwt_exceeds_0 (b : Int) (l : List Int) (hsm : small (l.length) = true) (hc : (decide (0 ≤ b) && decide (b ≤ 4503599627370496)) = true) : ∃ k, ∀ (K : Ex → List V → List (Option Blk) → Option Out) r, (c_dwt_exceeds_0 b l).run K = some r → (iter T_dwt_exceeds_0 k [.one (.int .i64 b), .one (.lst (.int .i64) l), .one (.int .i64 (l.length : Int)), .one (.int .i64 0)] []).run K = some r := by
  refine z_list (st := fun i => ([.one (.int .i64 b), .one (.lst (.int .i64) l), .one (.int .i64 (l.length : Int)), .one (.int .i64 ((i : Nat) : Int))], [])) l 0 (inr (-b) b) _ _ (fun i hi F K => ?_) (fun F K => ?_)
  · have hi' : (i : Int) < (l.length : Int) := by omega
    have hc' := hc
    simp only [Bool.and_eq_true, decide_eq_true_eq] at hc'
    simp only [tu_dwt_exceeds_0, U_dwt_exceeds_0, LT.next, LT.run, ite2_dec, ite2_bool, wrap_next hi hsm, Int.toNat_natCast, hi', Int.natCast_nonneg, and_self, if_true, gI, gP, gC, gR]
    rw [show (0 : Int) - b = -b by omega, wrap_in (n := -b) (by omega) (by omega)]
    simp only [inr, Bool.and_eq_true, decide_eq_true_eq]
    by_cases h1 : l[i]?.getD 0 < -b
    · have h3 : ¬ -b ≤ l[i]?.getD 0 := by omega
      simp [h1, h3, gI]
    by_cases h2 : b < l[i]?.getD 0
    · have h3 : ¬ l[i]?.getD 0 ≤ b := by omega
      simp [h1, h2, h3, gI]
    have h3 : -b ≤ l[i]?.getD 0 := by omega
    have h4 : l[i]?.getD 0 ≤ b := by omega
    have h5 : ¬ b < l[i]?.getD 0 := by omega
    simp [h1, h3, h4, h5, gI]
  · simp only [tu_dwt_exceeds_0, U_dwt_exceeds_0, LT.next, LT.run, ite2_dec, Int.lt_irrefl, if_false]
    try rfl
theorem z_dwt_exceeds_0 : ∀ vs bl t, S_dwt_exceeds_0 vs bl = some (true, t) → ∃ n, ∀ (K : Ex → List V → List (Option Blk) → Option Out) r, t.run K = some r → (iter T_dwt_exceeds_0 n vs bl).run K = some r := by
  intro vs bl t y0'
  unfold S_dwt_exceeds_0 at y0'
  obtain ⟨c', vs, rfl, y1'⟩ := pO_s y0'
  obtain ⟨b, rfl, y2'⟩ := kI_s y1'
  obtain ⟨c', vs, rfl, y3'⟩ := pO_s y2'
  obtain ⟨l, rfl, y4'⟩ := kLI_s y3'
  obtain ⟨c', vs, rfl, y5'⟩ := pO_s y4'
  obtain ⟨n, rfl, y6'⟩ := kI_s y5'
  obtain ⟨c', vs, rfl, y7'⟩ := pO_s y6'
  obtain ⟨i, rfl, y8'⟩ := kI_s y7'
  obtain ⟨rfl, y9'⟩ := pE_s y8'
  obtain ⟨rfl, y10'⟩ := bE_s y9'
  have yy' := y10'
  obtain ⟨hk, rfl⟩ := Prod.mk.inj (Option.some.inj yy')
  unfold k_dwt_exceeds_0 at hk
  simp only [Bool.and_eq_true, decide_eq_true_eq, and_assoc] at hk
  obtain ⟨rfl, rfl, hsm, hc⟩ := hk
  exact zz_dwt_exceeds_0 _ _ hsm (by first | exact hc | simpa using hc | simpa only [Bool.and_eq_true, decide_eq_true_eq, and_assoc] using hc)
theorem q_dwt_exceeds (l : List Int) (b : Int) (hok : (small l.length && (decide (0 ≤ b) && decide (b ≤ 4503599627370496))) = true) : funR Try.prog t_dwt_exceeds (annOf []) l_dwt_exceeds 20 Try.f66 [.one (.lst (.int .i64) l), .one (.int .i64 b)] [] = some ⟨.one (.bool (!fitB b l)), [], []⟩ := by
    refine (e_dwt_exceeds ..).trans ?_
    simp only [ite2_bool, k_dwt_exceeds_0, p_dwt_exceeds_0, hok, Bool.and_true, decide_true, Bool.true_and]
    simp only [Bool.and_eq_true] at hok
    simp [hok, fitB]
    (repeat' split) <;> simp_all
theorem s_dwt_exceeds : SoundFun Try.prog 66 G_dwt_exceeds := by
  refine fun_ok (tab := t_dwt_exceeds) (ann := annOf []) (lt := l_dwt_exceeds) tab_nil (by kernel_rfl) (fn := Try.f66) (by kernel_rfl) (by decide) (c := bodyOf Try.f66) (by kernel_rfl) (by
    intro m b hb
    have hb' : b ∈ loopsOf (bodyOf Try.f66) := hb
    rw [o_dwt_exceeds] at hb'
    simp only [List.mem_cons, List.not_mem_nil, or_false] at hb'
    rcases hb' with rfl
    · exact loop_ok (key := 2) (by kernel_rfl) rfl r_dwt_exceeds_0 z_dwt_exceeds_0 m
    ) ?_ (keep_nil (by kernel_rfl))
  intro args lent o y0'
  unfold G_dwt_exceeds at y0'
  obtain ⟨c', args, rfl, y1'⟩ := pO_s y0'
  obtain ⟨l, rfl, y2'⟩ := kLI_s y1'
  obtain ⟨c', args, rfl, y3'⟩ := pO_s y2'
  obtain ⟨b, rfl, y4'⟩ := kI_s y3'
  obtain ⟨rfl, y5'⟩ := pE_s y4'
  obtain ⟨rfl, y6'⟩ := nE_s y5'
  have yy' := y6'
  unfold H_dwt_exceeds at yy'
  obtain ⟨hok, rfl⟩ := Prod.mk.inj (Option.some.inj yy')
  exact ⟨20, q_dwt_exceeds _ _ hok⟩
theorem r_ref05_Above_0 : RoundOk Try.prog t_ref05_Above (annOf []) l_ref05_Above Out 20 0 27 [0, 1, 5] (kxOf [] [4]) (loopOf Try.f44 0) T_ref05_Above_0 := by
  intro vs bl Kc r h
  unfold T_ref05_Above_0 at h
  obtain ⟨t, y0', h'⟩ := getD_run h
  obtain ⟨c', vs, rfl, y1'⟩ := pO_s y0'
  obtain ⟨l, rfl, y2'⟩ := kLI_s y1'
  obtain ⟨c', vs, rfl, y3'⟩ := pO_s y2'
  obtain ⟨b, rfl, y4'⟩ := kI_s y3'
  obtain ⟨c', vs, rfl, y5'⟩ := pO_s y4'
  obtain ⟨i, rfl, y6'⟩ := kI_s y5'
  obtain ⟨rfl, y7'⟩ := pE_s y6'
  obtain ⟨rfl, y8'⟩ := bE_s y7'
  have yy' := y8'
  cases yy'
  exact (b_ref05_Above_0 ..).trans ((congrArg (LT.runc · Kc) (tu_ref05_Above_0 ..)).trans h')
theorem o_ref05_Above : loopsOf (bodyOf Try.f44) = [loopOf Try.f44 0] := by kernel_rfl
theorem zz_ref05_Above_0 (b : Int) (l : List Int) (hsm : small (l.length) = true) (hc : (decide (0 ≤ b) && decide (b ≤ 4503599627370496)) = true) : ∃ k, ∀ (K : Ex → List V → List (Option Blk) → Option Out) r, (c_ref05_Above_0 b l).run K = some r → (iter T_ref05_Above_0 k [.one (.lst (.int .i64) l), .one (.int .i64 b), .one (.int .i64 0)] []).run K = some r := by
  refine z_list (st := fun i => ([.one (.lst (.int .i64) l), .one (.int .i64 b), .one (.int .i64 ((i : Nat) : Int))], [])) l 0 (inr (-b) b) _ _ (fun i hi F K => ?_) (fun F K => ?_)
  · have hi' : (i : Int) < (l.length : Int) := by omega
    have hc' := hc
    simp only [Bool.and_eq_true, decide_eq_true_eq] at hc'
    simp only [tu_ref05_Above_0, U_ref05_Above_0, LT.next, LT.run, ite2_dec, ite2_bool, wrap_next hi hsm, Int.toNat_natCast, hi', Int.natCast_nonneg, and_self, if_true, gI, gP, gC, gR]
    rw [show (0 : Int) - b = -b by omega, wrap_in (n := -b) (by omega) (by omega)]
    simp only [inr, Bool.and_eq_true, decide_eq_true_eq]
    by_cases h1 : l[i]?.getD 0 < -b
    · have h3 : ¬ -b ≤ l[i]?.getD 0 := by omega
      simp [h1, h3, gI]
    by_cases h2 : b < l[i]?.getD 0
    · have h3 : ¬ l[i]?.getD 0 ≤ b := by omega
      simp [h1, h2, h3, gI]
    have h3 : -b ≤ l[i]?.getD 0 := by omega
    have h4 : l[i]?.getD 0 ≤ b := by omega
    have h5 : ¬ b < l[i]?.getD 0 := by omega
    simp [h1, h3, h4, h5, gI]
  · simp only [tu_ref05_Above_0, U_ref05_Above_0, LT.next, LT.run, ite2_dec, Int.lt_irrefl, if_false]
    try rfl
theorem z_ref05_Above_0 : ∀ vs bl t, S_ref05_Above_0 vs bl = some (true, t) → ∃ n, ∀ (K : Ex → List V → List (Option Blk) → Option Out) r, t.run K = some r → (iter T_ref05_Above_0 n vs bl).run K = some r := by
  intro vs bl t y0'
  unfold S_ref05_Above_0 at y0'
  obtain ⟨c', vs, rfl, y1'⟩ := pO_s y0'
  obtain ⟨l, rfl, y2'⟩ := kLI_s y1'
  obtain ⟨c', vs, rfl, y3'⟩ := pO_s y2'
  obtain ⟨b, rfl, y4'⟩ := kI_s y3'
  obtain ⟨c', vs, rfl, y5'⟩ := pO_s y4'
  obtain ⟨i, rfl, y6'⟩ := kI_s y5'
  obtain ⟨rfl, y7'⟩ := pE_s y6'
  obtain ⟨rfl, y8'⟩ := bE_s y7'
  have yy' := y8'
  obtain ⟨hk, rfl⟩ := Prod.mk.inj (Option.some.inj yy')
  unfold k_ref05_Above_0 at hk
  simp only [Bool.and_eq_true, decide_eq_true_eq, and_assoc] at hk
  obtain ⟨rfl, hsm, hc⟩ := hk
  exact zz_ref05_Above_0 _ _ hsm (by first | exact hc | simpa using hc | simpa only [Bool.and_eq_true, decide_eq_true_eq, and_assoc] using hc)
theorem q_ref05_Above (l : List Int) (b : Int) (hok : (small l.length && (decide (0 ≤ b) && decide (b ≤ 4503599627370496))) = true) : funR Try.prog t_ref05_Above (annOf []) l_ref05_Above 20 Try.f44 [.one (.lst (.int .i64) l), .one (.int .i64 b)] [] = some ⟨.one (.bool (!fitB b l)), [], []⟩ := by
    refine (e_ref05_Above ..).trans ?_
    simp only [ite2_bool, k_ref05_Above_0, p_ref05_Above_0, hok, Bool.and_true, decide_true, Bool.true_and]
    simp only [Bool.and_eq_true] at hok
    simp [hok, fitB]
    (repeat' split) <;> simp_all
theorem s_ref05_Above : SoundFun Try.prog 44 G_ref05_Above := by
  refine fun_ok (tab := t_ref05_Above) (ann := annOf []) (lt := l_ref05_Above) tab_nil (by kernel_rfl) (fn := Try.f44) (by kernel_rfl) (by decide) (c := bodyOf Try.f44) (by kernel_rfl) (by
    intro m b hb
    have hb' : b ∈ loopsOf (bodyOf Try.f44) := hb
    rw [o_ref05_Above] at hb'
    simp only [List.mem_cons, List.not_mem_nil, or_false] at hb'
    rcases hb' with rfl
    · exact loop_ok (key := 2) (by kernel_rfl) rfl r_ref05_Above_0 z_ref05_Above_0 m
    ) ?_ (keep_nil (by kernel_rfl))
  intro args lent o y0'
  unfold G_ref05_Above at y0'
  obtain ⟨c', args, rfl, y1'⟩ := pO_s y0'
  obtain ⟨l, rfl, y2'⟩ := kLI_s y1'
  obtain ⟨c', args, rfl, y3'⟩ := pO_s y2'
  obtain ⟨b, rfl, y4'⟩ := kI_s y3'
  obtain ⟨rfl, y5'⟩ := pE_s y4'
  obtain ⟨rfl, y6'⟩ := nE_s y5'
  have yy' := y6'
  unfold H_ref05_Above at yy'
  obtain ⟨hok, rfl⟩ := Prod.mk.inj (Option.some.inj yy')
  exact ⟨20, q_ref05_Above _ _ hok⟩
theorem q_dwt_empty (a b c d : Int) (hok : valid a b c d = true) : funR Try.prog t_dwt_empty (annOf []) l_dwt_empty 20 Try.f69 [.agg [.int .i64 a, .int .i64 b, .int .i64 c, .int .i64 d]] [] = some ⟨.agg [.int .i64 (a), .int .i64 (b), .int .i64 (c), .int .i64 (d), .row 0], [], [.arr 3 (.int .i64) (zer (area a b c d))]⟩ := by
    refine (e_dwt_empty ..).trans ?_
    have h := area_v hok
    simp only [ite2_bool, decide_eq_true_eq]
    rw [if_pos (by omega)]
    rfl
theorem s_dwt_empty : SoundFun Try.prog 69 G_dwt_empty := by
  refine fun_ok (tab := t_dwt_empty) (ann := annOf []) (lt := l_dwt_empty) (tab_cons s_rect_Area tab_nil) (by kernel_rfl) (fn := Try.f69) (by kernel_rfl) (by decide) (c := bodyOf Try.f69) (by kernel_rfl) (fun m b hb => absurd hb (by show b ∉ loopsOf (bodyOf Try.f69); rw [show loopsOf (bodyOf Try.f69) = [] from by kernel_rfl]; exact List.not_mem_nil)) ?_ (keep_nil (by kernel_rfl))
  intro args lent o y0'
  unfold G_dwt_empty at y0'
  obtain ⟨q', args, rfl, y1'⟩ := pA_s y0'
  obtain ⟨c', q', rfl, y2'⟩ := tC_s y1'
  obtain ⟨a, rfl, y3'⟩ := kI_s y2'
  obtain ⟨c', q', rfl, y4'⟩ := tC_s y3'
  obtain ⟨b, rfl, y5'⟩ := kI_s y4'
  obtain ⟨c', q', rfl, y6'⟩ := tC_s y5'
  obtain ⟨c, rfl, y7'⟩ := kI_s y6'
  obtain ⟨c', q', rfl, y8'⟩ := tC_s y7'
  obtain ⟨d, rfl, y9'⟩ := kI_s y8'
  obtain ⟨rfl, y10'⟩ := tE_s y9'
  obtain ⟨rfl, y11'⟩ := pE_s y10'
  obtain ⟨rfl, y12'⟩ := nE_s y11'
  have yy' := y12'
  unfold H_dwt_empty at yy'
  obtain ⟨hok, rfl⟩ := Prod.mk.inj (Option.some.inj yy')
  exact ⟨20, q_dwt_empty _ _ _ _ hok⟩
theorem q_pl_Row (a b c d : Int) (l : List Int) (y : Int) (hok : true = true) : funR Try.prog t_pl_Row (annOf []) l_pl_Row 20 Try.f67 [.agg [.int .i64 a, .int .i64 b, .int .i64 c, .int .i64 d, .lst (.int .i64) l], .one (.int .i64 y)] [] = some ⟨.tup [(false, [.row 0]), (false, [.bool (rowOk a b c d l y)])], [], [.arr 3 (.int .i64) (plRow a b c d l y)]⟩ := by
    refine (e_pl_Row ..).trans ?_
    simp only [ite2_bool, decide_eq_true_eq, plRow]
    cases h : rowOk a b c d l y
    · have : plV a b c d l = false ∨ y < b ∨ y ≥ d := by
        by_cases hv : plV a b c d l = true
        · simp [rowOk, hv] at h; omega
        · exact .inl (by simpa using hv)
      rcases this with h1 | h1 | h1
      · simp [h1]
      · simp [h1]
      · simp [h1]
    have h' := h
    simp only [rowOk, Bool.and_eq_true, decide_eq_true_eq] at h'
    have pb := plV_b h'.1.1
    have ib := idx_b (i := y - b) (w := c - a) (h := d - b) (by omega) (by omega) (by omega)
    rw [h'.1.1, wrap_in (n := c - a) (by omega) (by omega), wrap_in (n := y - b) (by omega) (by omega), wrap_in (n := (y - b) * (c - a)) (by omega) (by omega), if_neg (by decide), if_neg (by omega), if_neg (by omega), if_pos (by omega), if_pos (by simp; omega)]
    have e : List.take (List.length (List.replicate (c - a).toNat (0 : Int))) (List.take (l.length - ((y - b) * (c - a)).toNat) (List.drop ((y - b) * (c - a)).toNat l)) ++ List.drop (min (List.length (List.take (l.length - ((y - b) * (c - a)).toNat) (List.drop ((y - b) * (c - a)).toNat l))) (List.length (List.replicate (c - a).toNat (0 : Int)))) (List.replicate (c - a).toNat (0 : Int)) = (l.drop ((y - b) * (c - a)).toNat).take (c - a).toNat := by
      have h1 : List.take (l.length - ((y - b) * (c - a)).toNat) (List.drop ((y - b) * (c - a)).toNat l) = List.drop ((y - b) * (c - a)).toNat l := List.take_of_length_le (by simp)
      rw [h1, List.length_replicate, List.length_drop, show List.drop (min (l.length - ((y - b) * (c - a)).toNat) (c - a).toNat) (List.replicate (c - a).toNat (0 : Int)) = [] from List.drop_eq_nil_of_le (by rw [List.length_replicate]; omega), List.append_nil]
    rw [if_pos rfl]
    exact congrArg (fun z => some (⟨.tup [(false, [.row 0]), (false, [.bool true])], [], [.arr 3 (.int .i64) z]⟩ : Out)) e
theorem s_pl_Row : SoundFun Try.prog 67 G_pl_Row := by
  refine fun_ok (tab := t_pl_Row) (ann := annOf []) (lt := l_pl_Row) (tab_cons s_pl_Valid (tab_cons s_pl_width tab_nil)) (by kernel_rfl) (fn := Try.f67) (by kernel_rfl) (by decide) (c := bodyOf Try.f67) (by kernel_rfl) (fun m b hb => absurd hb (by show b ∉ loopsOf (bodyOf Try.f67); rw [show loopsOf (bodyOf Try.f67) = [] from by kernel_rfl]; exact List.not_mem_nil)) ?_ (keep_nil (by kernel_rfl))
  intro args lent o y0'
  unfold G_pl_Row at y0'
  obtain ⟨q', args, rfl, y1'⟩ := pA_s y0'
  obtain ⟨c', q', rfl, y2'⟩ := tC_s y1'
  obtain ⟨a, rfl, y3'⟩ := kI_s y2'
  obtain ⟨c', q', rfl, y4'⟩ := tC_s y3'
  obtain ⟨b, rfl, y5'⟩ := kI_s y4'
  obtain ⟨c', q', rfl, y6'⟩ := tC_s y5'
  obtain ⟨c, rfl, y7'⟩ := kI_s y6'
  obtain ⟨c', q', rfl, y8'⟩ := tC_s y7'
  obtain ⟨d, rfl, y9'⟩ := kI_s y8'
  obtain ⟨c', q', rfl, y10'⟩ := tC_s y9'
  obtain ⟨l, rfl, y11'⟩ := kLI_s y10'
  obtain ⟨rfl, y12'⟩ := tE_s y11'
  obtain ⟨c', args, rfl, y13'⟩ := pO_s y12'
  obtain ⟨y, rfl, y14'⟩ := kI_s y13'
  obtain ⟨rfl, y15'⟩ := pE_s y14'
  obtain ⟨rfl, y16'⟩ := nE_s y15'
  have yy' := y16'
  unfold H_pl_Row at yy'
  obtain ⟨hok, rfl⟩ := Prod.mk.inj (Option.some.inj yy')
  exact ⟨20, q_pl_Row _ _ _ _ _ _ hok⟩
theorem r_pl_Column_0 : RoundOk Try.prog t_pl_Column (annOf []) l_pl_Column Out 20 0 56 [2, 6, 7] (kxOf [6] [4, 5]) (loopOf Try.f71 0) T_pl_Column_0 := by
  intro vs bl Kc r h
  unfold T_pl_Column_0 at h
  obtain ⟨t, y0', h'⟩ := getD_run h
  obtain ⟨c', vs, rfl, y1'⟩ := pO_s y0'
  obtain ⟨rfl, y2'⟩ := kP_s y1'
  obtain ⟨c', vs, rfl, y3'⟩ := pO_s y2'
  obtain ⟨rfl, y4'⟩ := kR_s y3'
  obtain ⟨c', vs, rfl, y5'⟩ := pO_s y4'
  obtain ⟨i, rfl, y6'⟩ := kI_s y5'
  obtain ⟨rfl, y7'⟩ := pE_s y6'
  obtain ⟨q', bl, rfl, y8'⟩ := bB_s y7'
  obtain ⟨c', q', rfl, y9'⟩ := tC_s y8'
  obtain ⟨a, rfl, y10'⟩ := kI_s y9'
  obtain ⟨c', q', rfl, y11'⟩ := tC_s y10'
  obtain ⟨b, rfl, y12'⟩ := kI_s y11'
  obtain ⟨c', q', rfl, y13'⟩ := tC_s y12'
  obtain ⟨c, rfl, y14'⟩ := kI_s y13'
  obtain ⟨c', q', rfl, y15'⟩ := tC_s y14'
  obtain ⟨d, rfl, y16'⟩ := kI_s y15'
  obtain ⟨c', q', rfl, y17'⟩ := tC_s y16'
  obtain ⟨l, rfl, y18'⟩ := kLI_s y17'
  obtain ⟨rfl, y19'⟩ := tE_s y18'
  obtain ⟨v, bl, rfl, y20'⟩ := bAI_s y19'
  obtain ⟨rfl, y21'⟩ := bE_s y20'
  have yy' := y21'
  cases yy'
  exact (b_pl_Column_0 ..).trans ((congrArg (LT.runc · Kc) (tu_pl_Column_0 ..)).trans h')
theorem o_pl_Column : loopsOf (bodyOf Try.f71) = [loopOf Try.f71 0] := by kernel_rfl
theorem zz_pl_Column_0 (a b c d i : Int) (l v : List Int) (hk : k_pl_Column_0 a b c d i l v = true) : ∃ k, ∀ (K : Ex → List V → List (Option Blk) → Option Out) r, (c_pl_Column_0 a b c d i l v).run K = some r → (iter T_pl_Column_0 k [.one (.ptr 0 0), .one (.row 1), .one (.int .i64 i)] [some (.box [.int .i64 a, .int .i64 b, .int .i64 c, .int .i64 d, .lst (.int .i64) l]), some (.arr 3 (.int .i64) v)]).run K = some r := by
  simp only [k_pl_Column_0, Bool.and_eq_true, decide_eq_true_eq] at hk
  obtain ⟨⟨hv, h0, h1⟩, rfl⟩ := hk
  have pb := plV_b hv
  obtain ⟨x, rfl⟩ : ∃ x : Nat, i = x := ⟨i.toNat, by omega⟩
  obtain ⟨w', hw⟩ : ∃ w' : Nat, c - a = w' := ⟨(c - a).toNat, by omega⟩
  have ew : w (c - a) = w' := by unfold w; rw [wrap_in (by omega) (by omega), hw]
  refine Exists.elim (z_fold (T := T_pl_Column_0) (st := fun j => ([.one (.ptr 0 0), .one (.row 1), .one (.int .i64 ((j * w' + x : Nat) : Int))], [some (.box [.int .i64 a, .int .i64 b, .int .i64 c, .int .i64 d, .lst (.int .i64) l]), some (.arr 3 (.int .i64) (colOf l w' x j))])) (d - b).toNat (c_pl_Column_0 a b c d x l []) (fun j hj F K => ?_) (fun F K => ?_)) (fun k hk => ⟨k, fun K r h => ?_⟩)
  · have ib := idx_b (i := (j : Int)) (w := c - a) (h := d - b) (by omega) (by omega) (by omega)
    rw [hw] at ib pb
    have e1 : ((j * w' + x : Nat) : Int) = (j : Int) * w' + x := by simp
    have hlt : ((j * w' + x : Nat) : Int) < (l.length : Int) := by omega
    have hle : (colOf l w' x j).length = j := by simp [colOf]
    simp only [tu_pl_Column_0, U_pl_Column_0, LT.next, LT.run, ite2_bool, decide_eq_true_eq, Int.toNat_natCast, ew]
    rw [if_pos hlt, if_pos (by omega), if_pos (by simp only [List.length_singleton]; omega), wrap_in (n := ((j * w' + x : Nat) : Int) + (w' : Int)) (by omega) (by omega)]
    have e2 : colOf l w' x (j + 1) = colOf l w' x j ++ [gI l (j * w' + x)] := by unfold colOf; rw [List.range_succ, List.map_append]; rfl
    have e3 : ((j * w' + x : Nat) : Int) + (w' : Int) = (((j + 1) * w' + x : Nat) : Int) := by
      rw [Nat.add_mul, Nat.one_mul]; simp; omega
    rw [e2, e3]
  · have hge : ¬ ((((d - b).toNat * w' + x : Nat) : Int) < (l.length : Int)) := by
      have : (((d - b).toNat * w' + x : Nat) : Int) = (w' : Int) * (d - b) + x := by
        rw [Int.natCast_add, Int.natCast_mul, Int.toNat_of_nonneg (by omega), Int.mul_comm]
      rw [this, pb.2.2.1, hw]
      omega
    simp only [tu_pl_Column_0, U_pl_Column_0, LT.next, LT.run, ite2_bool, decide_eq_true_eq]
    rw [if_neg hge]
    have e4 : (c - a).toNat = w' := by omega
    rw [show c_pl_Column_0 a b c d x l [] = LT.leaf (.exit 0) [.one (.row 0)] [some (.arr 3 (.int .i64) (colOf l w' x (d - b).toNat))] by unfold c_pl_Column_0; rw [e4]; rfl]
    rfl
  · have := hk K r h
    simpa [colOf] using this
theorem z_pl_Column_0 : ∀ vs bl t, S_pl_Column_0 vs bl = some (true, t) → ∃ n, ∀ (K : Ex → List V → List (Option Blk) → Option Out) r, t.run K = some r → (iter T_pl_Column_0 n vs bl).run K = some r := by
  intro vs bl t y0'
  unfold S_pl_Column_0 at y0'
  obtain ⟨c', vs, rfl, y1'⟩ := pO_s y0'
  obtain ⟨rfl, y2'⟩ := kP_s y1'
  obtain ⟨c', vs, rfl, y3'⟩ := pO_s y2'
  obtain ⟨rfl, y4'⟩ := kR_s y3'
  obtain ⟨c', vs, rfl, y5'⟩ := pO_s y4'
  obtain ⟨i, rfl, y6'⟩ := kI_s y5'
  obtain ⟨rfl, y7'⟩ := pE_s y6'
  obtain ⟨q', bl, rfl, y8'⟩ := bB_s y7'
  obtain ⟨c', q', rfl, y9'⟩ := tC_s y8'
  obtain ⟨a, rfl, y10'⟩ := kI_s y9'
  obtain ⟨c', q', rfl, y11'⟩ := tC_s y10'
  obtain ⟨b, rfl, y12'⟩ := kI_s y11'
  obtain ⟨c', q', rfl, y13'⟩ := tC_s y12'
  obtain ⟨c, rfl, y14'⟩ := kI_s y13'
  obtain ⟨c', q', rfl, y15'⟩ := tC_s y14'
  obtain ⟨d, rfl, y16'⟩ := kI_s y15'
  obtain ⟨c', q', rfl, y17'⟩ := tC_s y16'
  obtain ⟨l, rfl, y18'⟩ := kLI_s y17'
  obtain ⟨rfl, y19'⟩ := tE_s y18'
  obtain ⟨v, bl, rfl, y20'⟩ := bAI_s y19'
  obtain ⟨rfl, y21'⟩ := bE_s y20'
  have yy' := y21'
  obtain ⟨hk, rfl⟩ := Prod.mk.inj (Option.some.inj yy')
  exact zz_pl_Column_0 _ _ _ _ _ _ _ hk
theorem q_pl_Column (a b c d : Int) (l : List Int) (x : Int) (hok : true = true) : funR Try.prog t_pl_Column (annOf []) l_pl_Column 20 Try.f71 [.agg [.int .i64 a, .int .i64 b, .int .i64 c, .int .i64 d, .lst (.int .i64) l], .one (.int .i64 x)] [] = some ⟨.tup [(false, [.row 0]), (false, [.bool (colOk a b c d l x)])], [], [.arr 3 (.int .i64) (plCol a b c d l x)]⟩ := by
    refine (e_pl_Column ..).trans ?_
    simp only [ite2_bool, decide_eq_true_eq, plCol]
    cases h : colOk a b c d l x
    · have : plV a b c d l = false ∨ x < a ∨ x ≥ c := by
        by_cases hv : plV a b c d l = true
        · simp [colOk, hv] at h; omega
        · exact .inl (by simpa using hv)
      rcases this with h1 | h1 | h1
      · simp [h1]
      · simp [h1]
      · simp [h1]
    have h' := h
    simp only [colOk, Bool.and_eq_true, decide_eq_true_eq] at h'
    have pb := plV_b h'.1.1
    have hk : k_pl_Column_0 a b c d (x - a) l [] = true := by
      simp only [k_pl_Column_0, h'.1.1, Bool.true_and, decide_true, Bool.and_true, Bool.and_eq_true, decide_eq_true_eq]; omega
    rw [h'.1.1, wrap_in (n := d - b) (by omega) (by omega), wrap_in (n := x - a) (by omega) (by omega), if_neg (by decide), if_neg (by omega), if_neg (by omega), if_pos (by omega)]
    rw [show k_pl_Column_0 a b c d (x - a) l (List.replicate 0 (0 : Int)) = true from hk]
    rfl
theorem s_pl_Column : SoundFun Try.prog 71 G_pl_Column := by
  refine fun_ok (tab := t_pl_Column) (ann := annOf []) (lt := l_pl_Column) (tab_cons s_pl_Valid (tab_cons s_pl_width tab_nil)) (by kernel_rfl) (fn := Try.f71) (by kernel_rfl) (by decide) (c := bodyOf Try.f71) (by kernel_rfl) (by
    intro m b hb
    have hb' : b ∈ loopsOf (bodyOf Try.f71) := hb
    rw [o_pl_Column] at hb'
    simp only [List.mem_cons, List.not_mem_nil, or_false] at hb'
    rcases hb' with rfl
    · exact loop_ok (key := 5) (by kernel_rfl) rfl r_pl_Column_0 z_pl_Column_0 m
    ) ?_ (keep_nil (by kernel_rfl))
  intro args lent o y0'
  unfold G_pl_Column at y0'
  obtain ⟨q', args, rfl, y1'⟩ := pA_s y0'
  obtain ⟨c', q', rfl, y2'⟩ := tC_s y1'
  obtain ⟨a, rfl, y3'⟩ := kI_s y2'
  obtain ⟨c', q', rfl, y4'⟩ := tC_s y3'
  obtain ⟨b, rfl, y5'⟩ := kI_s y4'
  obtain ⟨c', q', rfl, y6'⟩ := tC_s y5'
  obtain ⟨c, rfl, y7'⟩ := kI_s y6'
  obtain ⟨c', q', rfl, y8'⟩ := tC_s y7'
  obtain ⟨d, rfl, y9'⟩ := kI_s y8'
  obtain ⟨c', q', rfl, y10'⟩ := tC_s y9'
  obtain ⟨l, rfl, y11'⟩ := kLI_s y10'
  obtain ⟨rfl, y12'⟩ := tE_s y11'
  obtain ⟨c', args, rfl, y13'⟩ := pO_s y12'
  obtain ⟨x, rfl, y14'⟩ := kI_s y13'
  obtain ⟨rfl, y15'⟩ := pE_s y14'
  obtain ⟨rfl, y16'⟩ := nE_s y15'
  have yy' := y16'
  unfold H_pl_Column at yy'
  obtain ⟨hok, rfl⟩ := Prod.mk.inj (Option.some.inj yy')
  exact ⟨20, q_pl_Column _ _ _ _ _ _ hok⟩
end Go.Rx.Ch06

