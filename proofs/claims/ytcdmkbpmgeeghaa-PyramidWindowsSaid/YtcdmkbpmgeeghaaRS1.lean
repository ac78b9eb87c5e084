/- The summaries of these functions are sound. -/
import Derived.Test.YtcdmkbpmgeeghaaRxD
import Derived.Test.YtcdmkbpmgeeghaaRE0
import Derived.Test.YtcdmkbpmgeeghaaRS0
set_option linter.unnecessarySimpa false
set_option linter.unusedVariables false
set_option linter.unusedSimpArgs false
set_option maxRecDepth 100000
set_option maxHeartbeats 40000000
open Go Go.Rx Go.Proofs
namespace Go.Rx.Ch06
theorem fitB_d (b : Int) (l : List Int) : fitB b l = decide (fit b l) := by
  rw [Bool.eq_iff_iff, decide_eq_true_eq]
  unfold fitB fit
  rw [List.all_eq_true]
  constructor
  · intro h x hx; exact inr_b (h x hx)
  · intro h x hx; have := h x hx; exact inr_t this.1 this.2
theorem fitB_Bd {b : Int} {l : List Int} (h0 : 0 ≤ b) (h : fitB b l = true) : Bd b l := by
  rw [fitB_d, decide_eq_true_eq] at h
  exact Bd.of_mem h0 h
theorem lnOk_b {l : List Int} (h : lnOk l = true) : 2 ≤ l.length ∧ l.length ≤ 4096 := by
  simpa only [lnOk, Bool.and_eq_true, decide_eq_true_eq] using h
theorem fdiv2 (x : Int) : Int.fdiv x 2 = x / 2 := Int.fdiv_eq_ediv_of_nonneg x (by omega)
theorem fdiv4 (x : Int) : Int.fdiv x 4 = x / 4 := Int.fdiv_eq_ediv_of_nonneg x (by omega)
theorem fdiv16 (x : Int) : Int.fdiv x 16 = x / 16 := Int.fdiv_eq_ediv_of_nonneg x (by omega)
theorem q_lift_known (k : Int) (hok : true = true) : funR Try.prog t_lift_known (annOf []) l_lift_known 20 Try.f79 [.one (.int .i64 k)] [] = some ⟨.one (.bool (inr 1 3 k)), [], []⟩ := by
    refine (e_lift_known ..).trans ?_
    simp only [ite2_dec, ite2_bool, mx_eq, mn_eq, inr]
    (repeat' split) <;> (try simp_all) <;> (try omega) <;> (try (rw [Bool.eq_iff_iff]; simp; omega))
theorem s_lift_known : SoundFun Try.prog 79 G_lift_known := by
  refine fun_ok (tab := t_lift_known) (ann := annOf []) (lt := l_lift_known) tab_nil (by kernel_rfl) (fn := Try.f79) (by kernel_rfl) (by decide) (c := bodyOf Try.f79) (by kernel_rfl) (no_loops (by kernel_rfl)) ?_ (keep_nil (by kernel_rfl))
  intro args lent o y0'
  unfold G_lift_known at y0'
  obtain ⟨k, args, rfl, y1'⟩ := pI_s y0'
  obtain ⟨rfl, y2'⟩ := pE_s y1'
  obtain ⟨rfl, y3'⟩ := nE_s y2'
  have yy' := y3'
  unfold H_lift_known at yy'
  obtain ⟨hok, rfl⟩ := Prod.mk.inj (Option.some.inj yy')
  exact ⟨20, q_lift_known _ hok⟩
theorem q_lift_Margin (k : Int) (hok : true = true) : funR Try.prog t_lift_Margin (annOf []) l_lift_Margin 20 Try.f40 [.one (.int .i64 k)] [] = some ⟨.one (.int .i64 (marg k)), [], []⟩ := by
    refine (e_lift_Margin ..).trans ?_
    simp only [ite2_bool, beq_iff_eq, marg]
    by_cases h1 : k = 1
    · subst h1; rfl
    by_cases h2 : k = 2
    · subst h2; rfl
    have h3 : inr 1 2 k = false := by simp [inr]; omega
    rw [if_neg h1, if_neg h2, h3]
    by_cases h4 : k = 3 <;> simp [h4]
theorem s_lift_Margin : SoundFun Try.prog 40 G_lift_Margin := by
  refine fun_ok (tab := t_lift_Margin) (ann := annOf []) (lt := l_lift_Margin) tab_nil (by kernel_rfl) (fn := Try.f40) (by kernel_rfl) (by decide) (c := bodyOf Try.f40) (by kernel_rfl) (no_loops (by kernel_rfl)) ?_ (keep_nil (by kernel_rfl))
  intro args lent o y0'
  unfold G_lift_Margin at y0'
  obtain ⟨k, args, rfl, y1'⟩ := pI_s y0'
  obtain ⟨rfl, y2'⟩ := pE_s y1'
  obtain ⟨rfl, y3'⟩ := nE_s y2'
  have yy' := y3'
  unfold H_lift_Margin at yy'
  obtain ⟨hok, rfl⟩ := Prod.mk.inj (Option.some.inj yy')
  exact ⟨20, q_lift_Margin _ hok⟩
theorem q_lift_High (b k : Int) (hok : true = true) : funR Try.prog t_lift_High (annOf []) l_lift_High 20 Try.f55 [.one (.int .i64 b), .one (.int .i64 k)] [] = some ⟨.one (.int .i64 (hb b k)), [], []⟩ := by
    refine (e_lift_High ..).trans ?_
    simp only [ite2_bool, decide_eq_true_eq, beq_iff_eq, hb]
    by_cases h1 : b < 0
    · rw [if_pos h1, if_neg (by omega)]
    by_cases h2 : b > 281474976710656
    · rw [if_neg h1, if_pos h2, if_neg (by omega)]
    cases h3 : inr 1 3 k
    · have : ¬ (1 ≤ k ∧ k ≤ 3) := by simp [inr] at h3; omega
      rw [if_neg h1, if_neg h2, if_pos (by rfl), if_neg (by omega)]
    have h4 := inr_b h3
    rw [if_neg h1, if_neg h2, if_neg (by decide), if_pos (show 0 ≤ b ∧ b ≤ 281474976710656 ∧ 1 ≤ k ∧ k ≤ 3 from ⟨by omega, by omega, h4.1, h4.2⟩), wrap_in (n := 20 * b) (by omega) (by omega), wrap_in (n := 20 * b + 8) (by omega) (by omega), Int.tdiv_eq_ediv_of_nonneg (by omega), wrap_in (n := (20 * b + 8) / 16) (by omega) (by omega), wrap_in (n := b + (20 * b + 8) / 16) (by omega) (by omega), wrap_in (n := 2 * b) (by omega) (by omega)]
    by_cases h5 : k = 3 <;> simp [h5]
theorem s_lift_High : SoundFun Try.prog 55 G_lift_High := by
  refine fun_ok (tab := t_lift_High) (ann := annOf []) (lt := l_lift_High) (tab_cons s_lift_known tab_nil) (by kernel_rfl) (fn := Try.f55) (by kernel_rfl) (by decide) (c := bodyOf Try.f55) (by kernel_rfl) (no_loops (by kernel_rfl)) ?_ (keep_nil (by kernel_rfl))
  intro args lent o y0'
  unfold G_lift_High at y0'
  obtain ⟨b, args, rfl, y1'⟩ := pI_s y0'
  obtain ⟨k, args, rfl, y2'⟩ := pI_s y1'
  obtain ⟨rfl, y3'⟩ := pE_s y2'
  obtain ⟨rfl, y4'⟩ := nE_s y3'
  have yy' := y4'
  unfold H_lift_High at yy'
  obtain ⟨hok, rfl⟩ := Prod.mk.inj (Option.some.inj yy')
  exact ⟨20, q_lift_High _ _ hok⟩
theorem q_lift_Low (b k : Int) (hok : true = true) : funR Try.prog t_lift_Low (annOf []) l_lift_Low 20 Try.f54 [.one (.int .i64 b), .one (.int .i64 k)] [] = some ⟨.one (.int .i64 (lb b k)), [], []⟩ := by
    refine (e_lift_Low ..).trans ?_
    simp only [ite2_bool, decide_eq_true_eq, lb]
    by_cases h1 : b < 0
    · rw [if_pos h1, if_neg (by omega)]
    by_cases h2 : b > 281474976710656
    · rw [if_neg h1, if_pos h2, if_neg (by omega)]
    cases h3 : inr 1 3 k
    · have : ¬ (1 ≤ k ∧ k ≤ 3) := by simp [inr] at h3; omega
      rw [if_neg h1, if_neg h2, if_pos (by rfl), if_neg (by omega)]
    have h4 := inr_b h3
    have h5 := hb_ge (b := b) (kk := k) ⟨by omega, by omega⟩ h4
    rw [if_neg h1, if_neg h2, if_neg (by decide), if_pos (show 0 ≤ b ∧ b ≤ 281474976710656 ∧ 1 ≤ k ∧ k ≤ 3 from ⟨by omega, by omega, h4.1, h4.2⟩), wrap_in (n := 2 * hb b k) (by omega) (by omega), wrap_in (n := 2 * hb b k + 2) (by omega) (by omega), Int.tdiv_eq_ediv_of_nonneg (by omega), wrap_in (n := (2 * hb b k + 2) / 4) (by omega) (by omega), wrap_in (by omega) (by omega)]
theorem s_lift_Low : SoundFun Try.prog 54 G_lift_Low := by
  refine fun_ok (tab := t_lift_Low) (ann := annOf []) (lt := l_lift_Low) (tab_cons s_lift_High (tab_cons s_lift_known tab_nil)) (by kernel_rfl) (fn := Try.f54) (by kernel_rfl) (by decide) (c := bodyOf Try.f54) (by kernel_rfl) (no_loops (by kernel_rfl)) ?_ (keep_nil (by kernel_rfl))
  intro args lent o y0'
  unfold G_lift_Low at y0'
  obtain ⟨b, args, rfl, y1'⟩ := pI_s y0'
  obtain ⟨k, args, rfl, y2'⟩ := pI_s y1'
  obtain ⟨rfl, y3'⟩ := pE_s y2'
  obtain ⟨rfl, y4'⟩ := nE_s y3'
  have yy' := y4'
  unfold H_lift_Low at yy'
  obtain ⟨hok, rfl⟩ := Prod.mk.inj (Option.some.inj yy')
  exact ⟨20, q_lift_Low _ _ hok⟩
theorem d_lift_bounded_0 {α : Type} {vs : List V} {bl : List (Option Blk)} {K} {r0' : α} {Q : Prop} (y0' : D_lift_bounded_0 vs bl K = some r0') (hh' : ∀ (b : Int) (l : List Int) (n : Int) (i : Int), vs = [.one (.int .i64 b), .one (.lst (.int .i64) l), .one (.int .i64 n), .one (.int .i64 i)] → bl = [] → K b l n i = some r0' → Q) : Q := by
  unfold D_lift_bounded_0 at y0'
  obtain ⟨b, vs, rfl, y1'⟩ := pI_s y0'
  obtain ⟨c', vs, rfl, y2'⟩ := pO_s y1'
  obtain ⟨l, rfl, y3'⟩ := kLI_s y2'
  obtain ⟨n, vs, rfl, y4'⟩ := pI_s y3'
  obtain ⟨i, vs, rfl, y5'⟩ := pI_s y4'
  obtain ⟨rfl, y6'⟩ := pE_s y5'
  obtain ⟨rfl, y7'⟩ := bE_s y6'
  have yy' := y7'
  exact hh' _ _ _ _ rfl rfl yy'
theorem r_lift_bounded_0 : RoundOk Try.prog t_lift_bounded (annOf []) l_lift_bounded Out 20 0 23 [1, 7, 8, 9] (kxOf [] [4]) (loopOf Try.f87 0) T_lift_bounded_0 := by
  intro vs bl Kc r h
  unfold T_lift_bounded_0 at h
  obtain ⟨t, y0', h'⟩ := getD_run h
  refine d_lift_bounded_0 y0' fun b l n i u1' u2' yy' => ?_
  subst u1' u2'
  cases yy'
  exact (b_lift_bounded_0 ..).trans h'
theorem o_lift_bounded : loopsOf (bodyOf Try.f87) = [loopOf Try.f87 0] := by kernel_rfl
theorem zz_lift_bounded_0 (b : Int) (l : List Int) (hsm : small (l.length) = true) (hc : (decide (0 ≤ b) && decide (b ≤ 1125899906842624)) = true) : ZZ (c_lift_bounded_0 b l) T_lift_bounded_0 [.one (.int .i64 b), .one (.lst (.int .i64) l), .one (.int .i64 (l.length : Int)), .one (.int .i64 0)] [] := by
  refine z_list (st := fun i => ([.one (.int .i64 b), .one (.lst (.int .i64) l), .one (.int .i64 (l.length : Int)), .one (.int .i64 ((i : Nat) : Int))], [])) l 0 (inr (-b) b) _ _ (fun i hi F K => ?_) (fun F K => ?_)
  · have hi' : (i : Int) < (l.length : Int) := by omega
    have hc' := hc
    simp only [Bool.and_eq_true, decide_eq_true_eq] at hc'
    simp only [tu_lift_bounded_0, U_lift_bounded_0, LT.next, LT.run, ite2_dec, ite2_bool, wrap_next hi hsm, Int.toNat_natCast, hi', Int.natCast_nonneg, and_self, if_true, gI, gP, gC, gR]
    rw [show (0 : Int) - b = -b by omega, wrap_in (n := -b) (by omega) (by omega)]
    simp only [inr, Bool.and_eq_true, decide_eq_true_eq]
    by_cases h1 : l[i]?.getD 0 < -b
    · have h3 : ¬ -b ≤ l[i]?.getD 0 := by omega
      simp [h1, h3, gI]
    by_cases h2 : b < l[i]?.getD 0
    · have h3 : ¬ l[i]?.getD 0 ≤ b := by omega
      simp [h1, h2, h3, gI]
    have h3 : -b ≤ l[i]?.getD 0 := by omega
    have h4 : l[i]?.getD 0 ≤ b := by omega
    have h5 : ¬ b < l[i]?.getD 0 := by omega
    simp [h1, h3, h4, h5, gI]
  · simp only [tu_lift_bounded_0, U_lift_bounded_0, LT.next, LT.run, ite2_dec, Int.lt_irrefl, if_false]
    try rfl
theorem z_lift_bounded_0 : ZOk S_lift_bounded_0 T_lift_bounded_0 := by
  intro vs bl t y0'
  refine d_lift_bounded_0 y0' fun b l n i u1' u2' yy' => ?_
  subst u1' u2'
  obtain ⟨hk, rfl⟩ := Prod.mk.inj (Option.some.inj yy')
  unfold k_lift_bounded_0 at hk
  simp only [Bool.and_eq_true, decide_eq_true_eq, and_assoc] at hk
  obtain ⟨rfl, rfl, hsm, hc⟩ := hk
  exact zz_lift_bounded_0 _ _ hsm (by first | exact hc | simpa using hc | simpa only [Bool.and_eq_true, decide_eq_true_eq, and_assoc] using hc)
theorem q_lift_bounded (l : List Int) (b : Int) (hok : (small l.length && (decide (0 ≤ b) && decide (b ≤ 1125899906842624))) = true) : funR Try.prog t_lift_bounded (annOf []) l_lift_bounded 20 Try.f87 [.one (.lst (.int .i64) l), .one (.int .i64 b)] [] = some ⟨.one (.bool (fitB b l)), [], []⟩ := by
    refine (e_lift_bounded ..).trans ?_
    simp [ite2_bool, k_lift_bounded_0, p_lift_bounded_0, fitB, hok]
    (repeat' split) <;> simp_all
theorem s_lift_bounded : SoundFun Try.prog 87 G_lift_bounded := by
  refine fun_ok (tab := t_lift_bounded) (ann := annOf []) (lt := l_lift_bounded) tab_nil (by kernel_rfl) (fn := Try.f87) (by kernel_rfl) (by decide) (c := bodyOf Try.f87) (by kernel_rfl) (by
    intro m b hb
    have hb' : b ∈ loopsOf (bodyOf Try.f87) := hb
    rw [o_lift_bounded] at hb'
    simp only [List.mem_cons, List.not_mem_nil, or_false] at hb'
    rcases hb' with rfl
    · exact loop_ok (key := 2) (by kernel_rfl) rfl r_lift_bounded_0 z_lift_bounded_0 m
    ) ?_ (keep_nil (by kernel_rfl))
  intro args lent o y0'
  unfold G_lift_bounded at y0'
  obtain ⟨c', args, rfl, y1'⟩ := pO_s y0'
  obtain ⟨l, rfl, y2'⟩ := kLI_s y1'
  obtain ⟨b, args, rfl, y3'⟩ := pI_s y2'
  obtain ⟨rfl, y4'⟩ := pE_s y3'
  obtain ⟨rfl, y5'⟩ := nE_s y4'
  have yy' := y5'
  unfold H_lift_bounded at yy'
  obtain ⟨hok, rfl⟩ := Prod.mk.inj (Option.some.inj yy')
  exact ⟨20, q_lift_bounded _ _ hok⟩
theorem d_line_at_0 {α : Type} {vs : List V} {bl : List (Option Blk)} {K} {r0' : α} {Q : Prop} (y0' : D_line_at_0 vs bl K = some r0') (hh' : ∀ (l : List Int) (s : Int) (i : Int) (m : Int), vs = [.one (.int .i64 i), .one (.ptr 0 0), .one (.int .i64 m)] → bl = [some (.box [.lst (.int .i64) l, .int .i64 s])] → K l s i m = some r0' → Q) : Q := by
  unfold D_line_at_0 at y0'
  obtain ⟨i, vs, rfl, y1'⟩ := pI_s y0'
  obtain ⟨vs, rfl, y2'⟩ := pP_s y1'
  obtain ⟨m, vs, rfl, y3'⟩ := pI_s y2'
  obtain ⟨rfl, y4'⟩ := pE_s y3'
  obtain ⟨q', bl, rfl, y5'⟩ := bB_s y4'
  obtain ⟨c', q', rfl, y6'⟩ := tC_s y5'
  obtain ⟨l, rfl, y7'⟩ := kLI_s y6'
  obtain ⟨s, q', rfl, y8'⟩ := tI_s y7'
  obtain ⟨rfl, y9'⟩ := tE_s y8'
  obtain ⟨rfl, y10'⟩ := bE_s y9'
  have yy' := y10'
  exact hh' _ _ _ _ rfl rfl yy'
theorem r_line_at_0 : RoundOk Try.prog t_line_at (annOf []) l_line_at Out 20 0 30 [1, 2, 5] (kxOf [1, 2] [4]) (loopOf Try.f100 0) T_line_at_0 := by
  intro vs bl Kc r h
  unfold T_line_at_0 at h
  obtain ⟨t, y0', h'⟩ := getD_run h
  refine d_line_at_0 y0' fun l s i m u1' u2' yy' => ?_
  subst u1' u2'
  cases yy'
  exact (b_line_at_0 ..).trans h'
theorem o_line_at : loopsOf (bodyOf Try.f100) = [loopOf Try.f100 0] := by kernel_rfl
theorem z_mr (l : List Int) (s : Int) (hn : 2 ≤ l.length ∧ l.length ≤ 4096) : ∀ (m : Nat) (i : Int), ms i ≤ m → i.natAbs ≤ 10000 → ∃ z, ∀ (K : Ex → List V → List (Option Blk) → Option Out) (r : Out), (LT.leaf (.exit 0) [.one (.int .i64 (mr l.length i)), .one (.ptr 0 0)] [some (.box [.lst (.int .i64) l, .int .i64 s])]).run K = some r → (iter T_line_at_0 z [.one (.int .i64 i), .one (.ptr 0 0), .one (.int .i64 ((l.length : Int) - 1))] [some (.box [.lst (.int .i64) l, .int .i64 s])]).run K = some r
  | m, i, hm, hi => by
    by_cases h0 : i < 0
    · have hd := ms_neg h0
      obtain ⟨m', rfl⟩ : ∃ m', m = m' + 1 := ⟨m - 1, by omega⟩
      obtain ⟨z, hz⟩ := z_mr l s hn m' (-i) (by omega) (by omega)
      refine ⟨z + 1, fun K r h => ?_⟩
      simp only [iter, tu_line_at_0, U_line_at_0, LT.next, LT.run, ite2_bool, decide_eq_true_eq]
      rw [if_pos h0, show (0 : Int) - i = -i by omega, wrap_in (n := -i) (by omega) (by omega)]
      rw [mr_neg i (by omega)] at hz
      simpa [h0] using hz K r h
    · by_cases h3 : i > (l.length : Int) - 1
      · have hd := ms_refl (n := l.length) (i := i) (by omega) (by omega)
        obtain ⟨m', rfl⟩ : ∃ m', m = m' + 1 := ⟨m - 1, by omega⟩
        obtain ⟨z, hz⟩ := z_mr l s hn m' (2 * ((l.length : Int) - 1) - i) (by omega) (by omega)
        refine ⟨z + 1, fun K r h => ?_⟩
        simp only [iter, tu_line_at_0, U_line_at_0, LT.next, LT.run, ite2_bool, decide_eq_true_eq]
        rw [if_neg h0, if_pos h3, wrap_in (n := 2 * ((l.length : Int) - 1)) (by omega) (by omega), wrap_in (n := 2 * ((l.length : Int) - 1) - i) (by omega) (by omega)]
        rw [mr_refl i (by omega)] at hz
        simpa [h0] using hz K r h
      · refine ⟨1, fun K r h => ?_⟩
        simp only [iter, tu_line_at_0, U_line_at_0, LT.next, LT.run, ite2_bool, decide_eq_true_eq]
        rw [mr_id (by omega) (by omega) (by omega)] at h
        rw [if_neg h0, if_neg h3]
        exact h
theorem zz_line_at_0 (l : List Int) (s i m : Int) (hk : k_line_at_0 l s i m = true) : ZZ (c_line_at_0 l s i m) T_line_at_0 [.one (.int .i64 i), .one (.ptr 0 0), .one (.int .i64 m)] [some (.box [.lst (.int .i64) l, .int .i64 s])] := by
  simp only [k_line_at_0, Bool.and_eq_true, decide_eq_true_eq] at hk
  obtain ⟨⟨hn, hi⟩, rfl⟩ := hk
  have hi' := inr_b hi
  exact z_mr l s (lnOk_b hn) (ms i) i (Nat.le_refl _) (by omega)
theorem z_line_at_0 : ZOk S_line_at_0 T_line_at_0 := by
  intro vs bl t y0'
  refine d_line_at_0 y0' fun l s i m u1' u2' yy' => ?_
  subst u1' u2'
  obtain ⟨hk, rfl⟩ := Prod.mk.inj (Option.some.inj yy')
  exact zz_line_at_0 _ _ _ _ hk
theorem q_line_at (l : List Int) (s i : Int) (hok : (lnOk l && inr (-4200) 4200 i) = true) : funR Try.prog t_line_at (annOf []) l_line_at 20 Try.f100 [.agg [.lst (.int .i64) l, .int .i64 s], .one (.int .i64 i)] [] = some ⟨.one (.int .i64 (at_ l i)), [], []⟩ := by
    refine (e_line_at ..).trans ?_
    simp only [Bool.and_eq_true] at hok
    have hn := lnOk_b hok.1
    have hm := mr_in (n := l.length) i (by omega)
    rw [wrap_in (n := (l.length : Int) - 1) (by omega) (by omega)]
    have hk : k_line_at_0 l s i ((l.length : Int) - 1) = true := by simp only [k_line_at_0, hok, decide_true, Bool.and_self]
    simp only [ite2_bool, decide_eq_true_eq, hk, if_true]
    rw [if_pos (by omega)]
    have e : gI l (mr l.length i).toNat = at_ l i := by simp [gI, at_, rd, List.getD_eq_getElem?_getD]
    rw [e]
theorem s_line_at : SoundFun Try.prog 100 G_line_at := by
  refine fun_ok (tab := t_line_at) (ann := annOf []) (lt := l_line_at) tab_nil (by kernel_rfl) (fn := Try.f100) (by kernel_rfl) (by decide) (c := bodyOf Try.f100) (by kernel_rfl) (by
    intro m b hb
    have hb' : b ∈ loopsOf (bodyOf Try.f100) := hb
    rw [o_line_at] at hb'
    simp only [List.mem_cons, List.not_mem_nil, or_false] at hb'
    rcases hb' with rfl
    · exact loop_ok (key := 2) (by kernel_rfl) rfl r_line_at_0 z_line_at_0 m
    ) ?_ (keep_nil (by kernel_rfl))
  intro args lent o y0'
  unfold G_line_at at y0'
  obtain ⟨q', args, rfl, y1'⟩ := pA_s y0'
  obtain ⟨c', q', rfl, y2'⟩ := tC_s y1'
  obtain ⟨l, rfl, y3'⟩ := kLI_s y2'
  obtain ⟨s, q', rfl, y4'⟩ := tI_s y3'
  obtain ⟨rfl, y5'⟩ := tE_s y4'
  obtain ⟨i, args, rfl, y6'⟩ := pI_s y5'
  obtain ⟨rfl, y7'⟩ := pE_s y6'
  obtain ⟨rfl, y8'⟩ := nE_s y7'
  have yy' := y8'
  unfold H_line_at at yy'
  obtain ⟨hok, rfl⟩ := Prod.mk.inj (Option.some.inj yy')
  exact ⟨20, q_line_at _ _ _ hok⟩
theorem q_line_prd1 (l : List Int) (s i : Int) (hok : (lnOk l && inr 0 4096 i && fitB 36028797018963968 l) = true) : funR Try.prog t_line_prd1 (annOf []) l_line_prd1 20 Try.f99 [.one (.int .i64 i), .one (.ptr 0 0)] [.box [.row 1, .int .i64 s], .arr 3 (.int .i64) l] = some ⟨.one (.int .i64 (prd 1 l i)), [some (.box [.row 1, .int .i64 s]), some (.arr 3 (.int .i64) l)], []⟩ := by
    refine (e_line_prd1 ..).trans ?_
    simp only [Bool.and_eq_true] at hok
    have hn := lnOk_b hok.1.1
    have hi := inr_b hok.1.2
    have hB := fitB_Bd (by omega) hok.2
    have b1 := hB.at (i - 1) hn.1
    have b2 := hB.at (i + 1) hn.1
    have b3 := hB.at (i - 3) hn.1
    have b4 := hB.at (i + 3) hn.1
    simp only [ite2_bool, fdiv2, fdiv4, fdiv16, hok.1.1, Bool.true_and]
    rw [wrap_in (n := i - 1) (by omega) (by omega), inr_t (a := -4200) (b := 4200) (x := i - 1) (by omega) (by omega)]
    rfl
theorem kp_line_prd1 : KeepOk G_line_prd1 := by
  have hks : keeps G_line_prd1 = [0, 1] := by kernel_rfl
  intro args lent o y0'
  rw [hks]
  unfold G_line_prd1 at y0'
  replace y0' := keepG_s y0'
  obtain ⟨i, args, rfl, y1'⟩ := pI_s y0'
  obtain ⟨args, rfl, y2'⟩ := pP_s y1'
  obtain ⟨rfl, y3'⟩ := pE_s y2'
  obtain ⟨q', lent, rfl, y4'⟩ := nB_s y3'
  obtain ⟨c', q', rfl, y5'⟩ := tC_s y4'
  obtain ⟨rfl, y6'⟩ := kR_s y5'
  obtain ⟨s, q', rfl, y7'⟩ := tI_s y6'
  obtain ⟨rfl, y8'⟩ := tE_s y7'
  obtain ⟨l, lent, rfl, y9'⟩ := nAI_s y8'
  obtain ⟨rfl, y10'⟩ := nE_s y9'
  have yy' := y10'
  unfold H_line_prd1 at yy'
  obtain ⟨hok, rfl⟩ := Prod.mk.inj (Option.some.inj yy')
  intro j hj
  simp only [List.mem_cons, List.not_mem_nil, or_false] at hj
  rcases hj with rfl | rfl <;> exact ⟨_, rfl, rfl⟩
theorem s_line_prd1 : SoundFun Try.prog 99 G_line_prd1 := by
  refine fun_ok (tab := t_line_prd1) (ann := annOf []) (lt := l_line_prd1) (tab_cons s_line_at tab_nil) (by kernel_rfl) (fn := Try.f99) (by kernel_rfl) (by decide) (c := bodyOf Try.f99) (by kernel_rfl) (no_loops (by kernel_rfl)) ?_ (kp_line_prd1)
  intro args lent o y0'
  unfold G_line_prd1 at y0'
  replace y0' := keepG_s y0'
  obtain ⟨i, args, rfl, y1'⟩ := pI_s y0'
  obtain ⟨args, rfl, y2'⟩ := pP_s y1'
  obtain ⟨rfl, y3'⟩ := pE_s y2'
  obtain ⟨q', lent, rfl, y4'⟩ := nB_s y3'
  obtain ⟨c', q', rfl, y5'⟩ := tC_s y4'
  obtain ⟨rfl, y6'⟩ := kR_s y5'
  obtain ⟨s, q', rfl, y7'⟩ := tI_s y6'
  obtain ⟨rfl, y8'⟩ := tE_s y7'
  obtain ⟨l, lent, rfl, y9'⟩ := nAI_s y8'
  obtain ⟨rfl, y10'⟩ := nE_s y9'
  have yy' := y10'
  unfold H_line_prd1 at yy'
  obtain ⟨hok, rfl⟩ := Prod.mk.inj (Option.some.inj yy')
  exact ⟨20, q_line_prd1 _ _ _ hok⟩
theorem q_line_prd2 (l : List Int) (s i : Int) (hok : (lnOk l && inr 0 4096 i && fitB 36028797018963968 l) = true) : funR Try.prog t_line_prd2 (annOf []) l_line_prd2 20 Try.f101 [.one (.int .i64 i), .one (.ptr 0 0)] [.box [.row 1, .int .i64 s], .arr 3 (.int .i64) l] = some ⟨.one (.int .i64 (prd 2 l i)), [some (.box [.row 1, .int .i64 s]), some (.arr 3 (.int .i64) l)], []⟩ := by
    refine (e_line_prd2 ..).trans ?_
    simp only [Bool.and_eq_true] at hok
    have hn := lnOk_b hok.1.1
    have hi := inr_b hok.1.2
    have hB := fitB_Bd (by omega) hok.2
    have b1 := hB.at (i - 1) hn.1
    have b2 := hB.at (i + 1) hn.1
    have b3 := hB.at (i - 3) hn.1
    have b4 := hB.at (i + 3) hn.1
    simp only [ite2_bool, fdiv2, fdiv4, fdiv16, hok.1.1, Bool.true_and]
    rw [wrap_in (n := i - 1) (by omega) (by omega), inr_t (a := -4200) (b := 4200) (x := i - 1) (by omega) (by omega), wrap_in (n := i + 1) (by omega) (by omega), inr_t (a := -4200) (b := 4200) (x := i + 1) (by omega) (by omega), wrap_in (n := at_ l (i - 1) + at_ l (i + 1)) (by omega) (by omega)]
    rfl
theorem kp_line_prd2 : KeepOk G_line_prd2 := by
  have hks : keeps G_line_prd2 = [0, 1] := by kernel_rfl
  intro args lent o y0'
  rw [hks]
  unfold G_line_prd2 at y0'
  replace y0' := keepG_s y0'
  obtain ⟨i, args, rfl, y1'⟩ := pI_s y0'
  obtain ⟨args, rfl, y2'⟩ := pP_s y1'
  obtain ⟨rfl, y3'⟩ := pE_s y2'
  obtain ⟨q', lent, rfl, y4'⟩ := nB_s y3'
  obtain ⟨c', q', rfl, y5'⟩ := tC_s y4'
  obtain ⟨rfl, y6'⟩ := kR_s y5'
  obtain ⟨s, q', rfl, y7'⟩ := tI_s y6'
  obtain ⟨rfl, y8'⟩ := tE_s y7'
  obtain ⟨l, lent, rfl, y9'⟩ := nAI_s y8'
  obtain ⟨rfl, y10'⟩ := nE_s y9'
  have yy' := y10'
  unfold H_line_prd2 at yy'
  obtain ⟨hok, rfl⟩ := Prod.mk.inj (Option.some.inj yy')
  intro j hj
  simp only [List.mem_cons, List.not_mem_nil, or_false] at hj
  rcases hj with rfl | rfl <;> exact ⟨_, rfl, rfl⟩
theorem s_line_prd2 : SoundFun Try.prog 101 G_line_prd2 := by
  refine fun_ok (tab := t_line_prd2) (ann := annOf []) (lt := l_line_prd2) (tab_cons s_line_at tab_nil) (by kernel_rfl) (fn := Try.f101) (by kernel_rfl) (by decide) (c := bodyOf Try.f101) (by kernel_rfl) (no_loops (by kernel_rfl)) ?_ (kp_line_prd2)
  intro args lent o y0'
  unfold G_line_prd2 at y0'
  replace y0' := keepG_s y0'
  obtain ⟨i, args, rfl, y1'⟩ := pI_s y0'
  obtain ⟨args, rfl, y2'⟩ := pP_s y1'
  obtain ⟨rfl, y3'⟩ := pE_s y2'
  obtain ⟨q', lent, rfl, y4'⟩ := nB_s y3'
  obtain ⟨c', q', rfl, y5'⟩ := tC_s y4'
  obtain ⟨rfl, y6'⟩ := kR_s y5'
  obtain ⟨s, q', rfl, y7'⟩ := tI_s y6'
  obtain ⟨rfl, y8'⟩ := tE_s y7'
  obtain ⟨l, lent, rfl, y9'⟩ := nAI_s y8'
  obtain ⟨rfl, y10'⟩ := nE_s y9'
  have yy' := y10'
  unfold H_line_prd2 at yy'
  obtain ⟨hok, rfl⟩ := Prod.mk.inj (Option.some.inj yy')
  exact ⟨20, q_line_prd2 _ _ _ hok⟩
theorem q_line_prd3 (l : List Int) (s i : Int) (hok : (lnOk l && inr 0 4096 i && fitB 36028797018963968 l) = true) : funR Try.prog t_line_prd3 (annOf []) l_line_prd3 20 Try.f102 [.one (.int .i64 i), .one (.ptr 0 0)] [.box [.row 1, .int .i64 s], .arr 3 (.int .i64) l] = some ⟨.one (.int .i64 (prd 3 l i)), [some (.box [.row 1, .int .i64 s]), some (.arr 3 (.int .i64) l)], []⟩ := by
    refine (e_line_prd3 ..).trans ?_
    simp only [Bool.and_eq_true] at hok
    have hn := lnOk_b hok.1.1
    have hi := inr_b hok.1.2
    have hB := fitB_Bd (by omega) hok.2
    have b1 := hB.at (i - 1) hn.1
    have b2 := hB.at (i + 1) hn.1
    have b3 := hB.at (i - 3) hn.1
    have b4 := hB.at (i + 3) hn.1
    simp only [ite2_bool, fdiv2, fdiv4, fdiv16, hok.1.1, Bool.true_and]
    rw [wrap_in (n := i - 1) (by omega) (by omega), inr_t (a := -4200) (b := 4200) (x := i - 1) (by omega) (by omega), wrap_in (n := i + 1) (by omega) (by omega), inr_t (a := -4200) (b := 4200) (x := i + 1) (by omega) (by omega), wrap_in (n := i - 3) (by omega) (by omega), inr_t (a := -4200) (b := 4200) (x := i - 3) (by omega) (by omega), wrap_in (n := i + 3) (by omega) (by omega), inr_t (a := -4200) (b := 4200) (x := i + 3) (by omega) (by omega), wrap_in (n := at_ l (i - 1) + at_ l (i + 1)) (by omega) (by omega), wrap_in (n := 9 * (at_ l (i - 1) + at_ l (i + 1))) (by omega) (by omega), wrap_in (n := at_ l (i - 3) + at_ l (i + 3)) (by omega) (by omega), wrap_in (n := 9 * (at_ l (i - 1) + at_ l (i + 1)) - (at_ l (i - 3) + at_ l (i + 3))) (by omega) (by omega), wrap_in (n := 9 * (at_ l (i - 1) + at_ l (i + 1)) - (at_ l (i - 3) + at_ l (i + 3)) + 8) (by omega) (by omega)]
    rfl
theorem kp_line_prd3 : KeepOk G_line_prd3 := by
  have hks : keeps G_line_prd3 = [0, 1] := by kernel_rfl
  intro args lent o y0'
  rw [hks]
  unfold G_line_prd3 at y0'
  replace y0' := keepG_s y0'
  obtain ⟨i, args, rfl, y1'⟩ := pI_s y0'
  obtain ⟨args, rfl, y2'⟩ := pP_s y1'
  obtain ⟨rfl, y3'⟩ := pE_s y2'
  obtain ⟨q', lent, rfl, y4'⟩ := nB_s y3'
  obtain ⟨c', q', rfl, y5'⟩ := tC_s y4'
  obtain ⟨rfl, y6'⟩ := kR_s y5'
  obtain ⟨s, q', rfl, y7'⟩ := tI_s y6'
  obtain ⟨rfl, y8'⟩ := tE_s y7'
  obtain ⟨l, lent, rfl, y9'⟩ := nAI_s y8'
  obtain ⟨rfl, y10'⟩ := nE_s y9'
  have yy' := y10'
  unfold H_line_prd3 at yy'
  obtain ⟨hok, rfl⟩ := Prod.mk.inj (Option.some.inj yy')
  intro j hj
  simp only [List.mem_cons, List.not_mem_nil, or_false] at hj
  rcases hj with rfl | rfl <;> exact ⟨_, rfl, rfl⟩
theorem s_line_prd3 : SoundFun Try.prog 102 G_line_prd3 := by
  refine fun_ok (tab := t_line_prd3) (ann := annOf []) (lt := l_line_prd3) (tab_cons s_line_at tab_nil) (by kernel_rfl) (fn := Try.f102) (by kernel_rfl) (by decide) (c := bodyOf Try.f102) (by kernel_rfl) (no_loops (by kernel_rfl)) ?_ (kp_line_prd3)
  intro args lent o y0'
  unfold G_line_prd3 at y0'
  replace y0' := keepG_s y0'
  obtain ⟨i, args, rfl, y1'⟩ := pI_s y0'
  obtain ⟨args, rfl, y2'⟩ := pP_s y1'
  obtain ⟨rfl, y3'⟩ := pE_s y2'
  obtain ⟨q', lent, rfl, y4'⟩ := nB_s y3'
  obtain ⟨c', q', rfl, y5'⟩ := tC_s y4'
  obtain ⟨rfl, y6'⟩ := kR_s y5'
  obtain ⟨s, q', rfl, y7'⟩ := tI_s y6'
  obtain ⟨rfl, y8'⟩ := tE_s y7'
  obtain ⟨l, lent, rfl, y9'⟩ := nAI_s y8'
  obtain ⟨rfl, y10'⟩ := nE_s y9'
  have yy' := y10'
  unfold H_line_prd3 at yy'
  obtain ⟨hok, rfl⟩ := Prod.mk.inj (Option.some.inj yy')
  exact ⟨20, q_line_prd3 _ _ _ hok⟩
theorem q_line_upd1 (l : List Int) (s i : Int) (hok : (lnOk l && inr 0 4096 i && fitB 36028797018963968 l) = true) : funR Try.prog t_line_upd1 (annOf []) l_line_upd1 20 Try.f103 [.one (.int .i64 i), .one (.ptr 0 0)] [.box [.row 1, .int .i64 s], .arr 3 (.int .i64) l] = some ⟨.one (.int .i64 (upd 1 l i)), [some (.box [.row 1, .int .i64 s]), some (.arr 3 (.int .i64) l)], []⟩ := by
    refine (e_line_upd1 ..).trans ?_
    simp only [Bool.and_eq_true] at hok
    have hn := lnOk_b hok.1.1
    have hi := inr_b hok.1.2
    have hB := fitB_Bd (by omega) hok.2
    have b1 := hB.at (i - 1) hn.1
    have b2 := hB.at (i + 1) hn.1
    have b3 := hB.at (i - 3) hn.1
    have b4 := hB.at (i + 3) hn.1
    simp only [ite2_bool, fdiv2, fdiv4, fdiv16, hok.1.1, Bool.true_and]
    rw [wrap_in (n := i + 1) (by omega) (by omega), inr_t (a := -4200) (b := 4200) (x := i + 1) (by omega) (by omega)]
    rfl
theorem kp_line_upd1 : KeepOk G_line_upd1 := by
  have hks : keeps G_line_upd1 = [0, 1] := by kernel_rfl
  intro args lent o y0'
  rw [hks]
  unfold G_line_upd1 at y0'
  replace y0' := keepG_s y0'
  obtain ⟨i, args, rfl, y1'⟩ := pI_s y0'
  obtain ⟨args, rfl, y2'⟩ := pP_s y1'
  obtain ⟨rfl, y3'⟩ := pE_s y2'
  obtain ⟨q', lent, rfl, y4'⟩ := nB_s y3'
  obtain ⟨c', q', rfl, y5'⟩ := tC_s y4'
  obtain ⟨rfl, y6'⟩ := kR_s y5'
  obtain ⟨s, q', rfl, y7'⟩ := tI_s y6'
  obtain ⟨rfl, y8'⟩ := tE_s y7'
  obtain ⟨l, lent, rfl, y9'⟩ := nAI_s y8'
  obtain ⟨rfl, y10'⟩ := nE_s y9'
  have yy' := y10'
  unfold H_line_upd1 at yy'
  obtain ⟨hok, rfl⟩ := Prod.mk.inj (Option.some.inj yy')
  intro j hj
  simp only [List.mem_cons, List.not_mem_nil, or_false] at hj
  rcases hj with rfl | rfl <;> exact ⟨_, rfl, rfl⟩
theorem s_line_upd1 : SoundFun Try.prog 103 G_line_upd1 := by
  refine fun_ok (tab := t_line_upd1) (ann := annOf []) (lt := l_line_upd1) (tab_cons s_line_at tab_nil) (by kernel_rfl) (fn := Try.f103) (by kernel_rfl) (by decide) (c := bodyOf Try.f103) (by kernel_rfl) (no_loops (by kernel_rfl)) ?_ (kp_line_upd1)
  intro args lent o y0'
  unfold G_line_upd1 at y0'
  replace y0' := keepG_s y0'
  obtain ⟨i, args, rfl, y1'⟩ := pI_s y0'
  obtain ⟨args, rfl, y2'⟩ := pP_s y1'
  obtain ⟨rfl, y3'⟩ := pE_s y2'
  obtain ⟨q', lent, rfl, y4'⟩ := nB_s y3'
  obtain ⟨c', q', rfl, y5'⟩ := tC_s y4'
  obtain ⟨rfl, y6'⟩ := kR_s y5'
  obtain ⟨s, q', rfl, y7'⟩ := tI_s y6'
  obtain ⟨rfl, y8'⟩ := tE_s y7'
  obtain ⟨l, lent, rfl, y9'⟩ := nAI_s y8'
  obtain ⟨rfl, y10'⟩ := nE_s y9'
  have yy' := y10'
  unfold H_line_upd1 at yy'
  obtain ⟨hok, rfl⟩ := Prod.mk.inj (Option.some.inj yy')
  exact ⟨20, q_line_upd1 _ _ _ hok⟩
theorem q_line_upd2 (l : List Int) (s i : Int) (hok : (lnOk l && inr 0 4096 i && fitB 36028797018963968 l) = true) : funR Try.prog t_line_upd2 (annOf []) l_line_upd2 20 Try.f104 [.one (.int .i64 i), .one (.ptr 0 0)] [.box [.row 1, .int .i64 s], .arr 3 (.int .i64) l] = some ⟨.one (.int .i64 (upd 2 l i)), [some (.box [.row 1, .int .i64 s]), some (.arr 3 (.int .i64) l)], []⟩ := by
    refine (e_line_upd2 ..).trans ?_
    simp only [Bool.and_eq_true] at hok
    have hn := lnOk_b hok.1.1
    have hi := inr_b hok.1.2
    have hB := fitB_Bd (by omega) hok.2
    have b1 := hB.at (i - 1) hn.1
    have b2 := hB.at (i + 1) hn.1
    have b3 := hB.at (i - 3) hn.1
    have b4 := hB.at (i + 3) hn.1
    simp only [ite2_bool, fdiv2, fdiv4, fdiv16, hok.1.1, Bool.true_and]
    rw [wrap_in (n := i - 1) (by omega) (by omega), inr_t (a := -4200) (b := 4200) (x := i - 1) (by omega) (by omega), wrap_in (n := i + 1) (by omega) (by omega), inr_t (a := -4200) (b := 4200) (x := i + 1) (by omega) (by omega), wrap_in (n := at_ l (i - 1) + at_ l (i + 1)) (by omega) (by omega), wrap_in (n := at_ l (i - 1) + at_ l (i + 1) + 2) (by omega) (by omega)]
    rfl
theorem kp_line_upd2 : KeepOk G_line_upd2 := by
  have hks : keeps G_line_upd2 = [0, 1] := by kernel_rfl
  intro args lent o y0'
  rw [hks]
  unfold G_line_upd2 at y0'
  replace y0' := keepG_s y0'
  obtain ⟨i, args, rfl, y1'⟩ := pI_s y0'
  obtain ⟨args, rfl, y2'⟩ := pP_s y1'
  obtain ⟨rfl, y3'⟩ := pE_s y2'
  obtain ⟨q', lent, rfl, y4'⟩ := nB_s y3'
  obtain ⟨c', q', rfl, y5'⟩ := tC_s y4'
  obtain ⟨rfl, y6'⟩ := kR_s y5'
  obtain ⟨s, q', rfl, y7'⟩ := tI_s y6'
  obtain ⟨rfl, y8'⟩ := tE_s y7'
  obtain ⟨l, lent, rfl, y9'⟩ := nAI_s y8'
  obtain ⟨rfl, y10'⟩ := nE_s y9'
  have yy' := y10'
  unfold H_line_upd2 at yy'
  obtain ⟨hok, rfl⟩ := Prod.mk.inj (Option.some.inj yy')
  intro j hj
  simp only [List.mem_cons, List.not_mem_nil, or_false] at hj
  rcases hj with rfl | rfl <;> exact ⟨_, rfl, rfl⟩
theorem s_line_upd2 : SoundFun Try.prog 104 G_line_upd2 := by
  refine fun_ok (tab := t_line_upd2) (ann := annOf []) (lt := l_line_upd2) (tab_cons s_line_at tab_nil) (by kernel_rfl) (fn := Try.f104) (by kernel_rfl) (by decide) (c := bodyOf Try.f104) (by kernel_rfl) (no_loops (by kernel_rfl)) ?_ (kp_line_upd2)
  intro args lent o y0'
  unfold G_line_upd2 at y0'
  replace y0' := keepG_s y0'
  obtain ⟨i, args, rfl, y1'⟩ := pI_s y0'
  obtain ⟨args, rfl, y2'⟩ := pP_s y1'
  obtain ⟨rfl, y3'⟩ := pE_s y2'
  obtain ⟨q', lent, rfl, y4'⟩ := nB_s y3'
  obtain ⟨c', q', rfl, y5'⟩ := tC_s y4'
  obtain ⟨rfl, y6'⟩ := kR_s y5'
  obtain ⟨s, q', rfl, y7'⟩ := tI_s y6'
  obtain ⟨rfl, y8'⟩ := tE_s y7'
  obtain ⟨l, lent, rfl, y9'⟩ := nAI_s y8'
  obtain ⟨rfl, y10'⟩ := nE_s y9'
  have yy' := y10'
  unfold H_line_upd2 at yy'
  obtain ⟨hok, rfl⟩ := Prod.mk.inj (Option.some.inj yy')
  exact ⟨20, q_line_upd2 _ _ _ hok⟩
theorem q_line_predict (l : List Int) (s k : Int) (hok : true = true) : funR Try.prog t_line_predict (annOf []) l_line_predict 20 Try.f89 [.agg [.row 0, .int .i64 s], .one (.int .i64 k)] [.arr 3 (.int .i64) l] = some ⟨.one (.fn (pfn k) [1]), [some (.arr 3 (.int .i64) l)], [.box [.row 0, .int .i64 s]]⟩ := by
    refine (e_line_predict ..).trans ?_
    simp only [ite2_bool, beq_iff_eq, pfn]
    by_cases h1 : k = 1
    · rw [if_pos h1, if_pos h1]
    rw [if_neg h1, if_neg h1]
    by_cases h2 : k = 2
    · rw [if_pos h2, if_pos h2]
    rw [if_neg h2, if_neg h2]
theorem s_line_predict : SoundFun Try.prog 89 G_line_predict := by
  refine fun_ok (tab := t_line_predict) (ann := annOf []) (lt := l_line_predict) (tab_cons s_line_prd1 (tab_cons s_line_prd2 (tab_cons s_line_prd3 tab_nil))) (by kernel_rfl) (fn := Try.f89) (by kernel_rfl) (by decide) (c := bodyOf Try.f89) (by kernel_rfl) (no_loops (by kernel_rfl)) ?_ (keep_nil (by kernel_rfl))
  intro args lent o y0'
  unfold G_line_predict at y0'
  replace y0' := lendG_s y0'
  obtain ⟨q', args, rfl, y1'⟩ := pA_s y0'
  obtain ⟨c', q', rfl, y2'⟩ := tC_s y1'
  obtain ⟨rfl, y3'⟩ := kR_s y2'
  obtain ⟨s, q', rfl, y4'⟩ := tI_s y3'
  obtain ⟨rfl, y5'⟩ := tE_s y4'
  obtain ⟨k, args, rfl, y6'⟩ := pI_s y5'
  obtain ⟨rfl, y7'⟩ := pE_s y6'
  obtain ⟨l, lent, rfl, y8'⟩ := nAI_s y7'
  obtain ⟨rfl, y9'⟩ := nE_s y8'
  have yy' := y9'
  unfold H_line_predict at yy'
  obtain ⟨hok, rfl⟩ := Prod.mk.inj (Option.some.inj yy')
  exact ⟨20, q_line_predict _ _ _ hok⟩
theorem q_line_update (l : List Int) (s k : Int) (hok : true = true) : funR Try.prog t_line_update (annOf []) l_line_update 20 Try.f90 [.agg [.row 0, .int .i64 s], .one (.int .i64 k)] [.arr 3 (.int .i64) l] = some ⟨.one (.fn (ufn k) [1]), [some (.arr 3 (.int .i64) l)], [.box [.row 0, .int .i64 s]]⟩ := by
    refine (e_line_update ..).trans ?_
    simp only [ite2_bool, beq_iff_eq, ufn]
    by_cases h1 : k = 1
    · rw [if_pos h1, if_pos h1]
    rw [if_neg h1, if_neg h1]
theorem s_line_update : SoundFun Try.prog 90 G_line_update := by
  refine fun_ok (tab := t_line_update) (ann := annOf []) (lt := l_line_update) (tab_cons s_line_upd1 (tab_cons s_line_upd2 tab_nil)) (by kernel_rfl) (fn := Try.f90) (by kernel_rfl) (by decide) (c := bodyOf Try.f90) (by kernel_rfl) (no_loops (by kernel_rfl)) ?_ (keep_nil (by kernel_rfl))
  intro args lent o y0'
  unfold G_line_update at y0'
  replace y0' := lendG_s y0'
  obtain ⟨q', args, rfl, y1'⟩ := pA_s y0'
  obtain ⟨c', q', rfl, y2'⟩ := tC_s y1'
  obtain ⟨rfl, y3'⟩ := kR_s y2'
  obtain ⟨s, q', rfl, y4'⟩ := tI_s y3'
  obtain ⟨rfl, y5'⟩ := tE_s y4'
  obtain ⟨k, args, rfl, y6'⟩ := pI_s y5'
  obtain ⟨rfl, y7'⟩ := pE_s y6'
  obtain ⟨l, lent, rfl, y8'⟩ := nAI_s y7'
  obtain ⟨rfl, y9'⟩ := nE_s y8'
  have yy' := y9'
  unfold H_line_update at yy'
  obtain ⟨hok, rfl⟩ := Prod.mk.inj (Option.some.inj yy')
  exact ⟨20, q_line_update _ _ _ hok⟩
theorem d_step_prd1_0 {α : Type} {vs : List V} {bl : List (Option Blk)} {K} {r0' : α} {Q : Prop} (y0' : D_step_prd1_0 vs bl K = some r0') (hh' : ∀ (l : List Int) (s : Int) (u : Int) (a : Int) (b : Int) (n : Int) (i : Int), vs = [.one (.int .i64 a), .one (.int .i64 b), .one (.fn 99 [0]), .one (.ptr 2 0), .one (.int .i64 n), .one (.int .i64 i)] → bl = [some (.box [.row 1, .int .i64 s]), some (.arr 3 (.int .i64) l), some (.box [.row 1, .int .i64 u])] → K l s u a b n i = some r0' → Q) : Q := by
  unfold D_step_prd1_0 at y0'
  obtain ⟨a, vs, rfl, y1'⟩ := pI_s y0'
  obtain ⟨b, vs, rfl, y2'⟩ := pI_s y1'
  obtain ⟨c', vs, rfl, y3'⟩ := pO_s y2'
  obtain ⟨rfl, y4'⟩ := kF_s y3'
  obtain ⟨vs, rfl, y5'⟩ := pP_s y4'
  obtain ⟨n, vs, rfl, y6'⟩ := pI_s y5'
  obtain ⟨i, vs, rfl, y7'⟩ := pI_s y6'
  obtain ⟨rfl, y8'⟩ := pE_s y7'
  obtain ⟨q', bl, rfl, y9'⟩ := bB_s y8'
  obtain ⟨c', q', rfl, y10'⟩ := tC_s y9'
  obtain ⟨rfl, y11'⟩ := kR_s y10'
  obtain ⟨s, q', rfl, y12'⟩ := tI_s y11'
  obtain ⟨rfl, y13'⟩ := tE_s y12'
  obtain ⟨l, bl, rfl, y14'⟩ := bAI_s y13'
  obtain ⟨q', bl, rfl, y15'⟩ := bB_s y14'
  obtain ⟨c', q', rfl, y16'⟩ := tC_s y15'
  obtain ⟨rfl, y17'⟩ := kR_s y16'
  obtain ⟨u, q', rfl, y18'⟩ := tI_s y17'
  obtain ⟨rfl, y19'⟩ := tE_s y18'
  obtain ⟨rfl, y20'⟩ := bE_s y19'
  have yy' := y20'
  exact hh' _ _ _ _ _ _ _ rfl rfl yy'
theorem r_step_prd1_0 : RoundOk Try.prog t_step_prd1 (annOf []) l_step_prd1 Out 20 2 35 [1, 2, 3, 4, 11, 12] (kxOf [] []) (loopOf Try.f88 0) T_step_prd1_0 := by
  intro vs bl Kc r h
  unfold T_step_prd1_0 at h
  obtain ⟨t, y0', h'⟩ := getD_run h
  refine d_step_prd1_0 y0' fun l s u a b n i u1' u2' yy' => ?_
  subst u1' u2'
  cases yy'
  exact (b_step_prd1_0 ..).trans h'
theorem o_step_prd1 : loopsOf (bodyOf Try.f88) = [loopOf Try.f88 0] := by kernel_rfl
theorem zst_prd1 (l : List Int) (s a b : Int) (hs : 0 ≤ s ∧ s ≤ 4096) (hn : 2 ≤ l.length ∧ l.length ≤ 4096) (hsg : b = 1 ∨ b = -1) (hB : Bd 11000000000000000 l) : ∀ (d i : Nat) (c : List Int), i + d = l.length → c.length = l.length → (∀ q : Nat, rd c q = if q < i then rd (stp a b (prd 1) s l) q else rd l q) → ∃ z, ∀ (K : Ex → List V → List (Option Blk) → Option Out) (r : Out), (LT.leaf (.exit 0) [] [some (.box [.row 1, .int .i64 s]), some (.arr 3 (.int .i64) (stp a b (prd 1) s l))]).run K = some r → (iter T_step_prd1_0 z [.one (.int .i64 a), .one (.int .i64 b), .one (.fn 99 [0]), .one (.ptr 2 0), .one (.int .i64 (l.length : Int)), .one (.int .i64 (i : Int))] [some (.box [.row 1, .int .i64 s]), some (.arr 3 (.int .i64) c), some (.box [.row 1, .int .i64 s])]).run K = some r
  | 0, i, c, h, hl, hc => ⟨1, fun K r h' => by
    simp only [iter, tu_step_prd1_0, U_step_prd1_0, LT.next, LT.run, ite2_bool, decide_eq_true_eq]
    rw [if_neg (by omega)]
    rw [← way_end hc hl (by omega)] at h'
    exact h'⟩
  | d + 1, i, c, h, hl, hc => by
    have hci : rd c i = rd l i := by rw [hc i, if_neg (by omega)]
    have hbl := hB i
    have hFb : ∀ i : Nat, i < l.length → -(2 * 11000000000000000 + 1) ≤ prd 1 l i ∧ prd 1 l i ≤ (2 * 11000000000000000 + 1) := fun i _ => prd_bd 1 hB (by omega) hn.1 i
    have hst := stp_bd (sg := b) (par := a) (s := s) hB (by omega) hsg hFb
    by_cases hp : (s + (i : Int)) % 2 = a
    · have hBc : fitB 36028797018963968 c = true := by
        rw [fitB_d, decide_eq_true_eq]
        refine Bd.mem (fun q => ?_)
        rw [hc q]
        have h1 := hB q
        have h2 := hst q
        split <;> omega
      have hcF : prd 1 c i = prd 1 l i := prd_far 1 a s c l i hl (by omega) hp fun q hq hne => by
        rw [hc q]
        split
        · exact stp_keep q hne
        · rfl
      have hv := hFb i (by omega)
      have hsv : b * prd 1 l i = prd 1 l i ∨ b * prd 1 l i = -prd 1 l i := by rcases hsg with rfl | rfl <;> omega
      obtain ⟨z, hz⟩ := zst_prd1 l s a b hs hn hsg hB d (i + 1) (c.set i (rd l i + b * prd 1 l i)) (by omega) (by simpa using hl) (way_next hc hl (by omega) hp rfl)
      refine ⟨z + 1, fun K r h' => ?_⟩
      have hok : (lnOk c && inr 0 4096 (i : Int) && fitB 36028797018963968 c) = true := by
        rw [hBc, inr_t (by omega) (by omega)]
        simp only [lnOk, Bool.and_true, Bool.and_eq_true, decide_eq_true_eq]
        omega
      simp only [iter, tu_step_prd1_0, U_step_prd1_0, LT.next, LT.run, ite2_bool, decide_eq_true_eq, Int.toNat_natCast, gI_rd, hok, if_true, hcF, hci]
      rw [par_w hs.1 hs.2 (by omega) (by omega), show ((s + (i : Int)) % 2 == a) = true by simp [hp], wrap_in (n := b * prd 1 l i) (by omega) (by omega), wrap_in (n := rd l i + b * prd 1 l i) (by omega) (by omega), wrap_in (n := (i : Int) + 1) (by omega) (by omega)]
      repeat rw [if_pos (by first | rfl | omega)]
      exact hz K r h'
    · obtain ⟨z, hz⟩ := zst_prd1 l s a b hs hn hsg hB d (i + 1) c (by omega) hl (way_skip hc hp)
      refine ⟨z + 1, fun K r h' => ?_⟩
      simp only [iter, tu_step_prd1_0, U_step_prd1_0, LT.next, LT.run, ite2_bool, decide_eq_true_eq, Int.toNat_natCast]
      rw [par_w hs.1 hs.2 (by omega) (by omega), show ((s + (i : Int)) % 2 == a) = false by simp [hp], wrap_in (n := (i : Int) + 1) (by omega) (by omega), if_pos (by omega), if_neg (by decide)]
      exact hz K r h'
theorem zz_step_prd1_0 (l : List Int) (s u a b n i : Int) (hk : k_step_prd1_0 l s u a b n i = true) : ZZ (c_step_prd1_0 l s u a b n i) T_step_prd1_0 [.one (.int .i64 a), .one (.int .i64 b), .one (.fn 99 [0]), .one (.ptr 2 0), .one (.int .i64 n), .one (.int .i64 i)] [some (.box [.row 1, .int .i64 s]), some (.arr 3 (.int .i64) l), some (.box [.row 1, .int .i64 u])] := by
  simp only [k_step_prd1_0, Bool.and_eq_true, Bool.or_eq_true, decide_eq_true_eq] at hk
  obtain ⟨⟨⟨⟨⟨⟨rfl, hn⟩, hs⟩, hB⟩, hsg⟩, rfl⟩, rfl⟩ := hk
  exact zst_prd1 l _ a b (inr_b hs) (lnOk_b hn) hsg (fitB_Bd (by omega) hB) l.length 0 l (by omega) rfl (fun q => by rw [if_neg (by omega)])
theorem z_step_prd1_0 : ZOk S_step_prd1_0 T_step_prd1_0 := by
  intro vs bl t y0'
  refine d_step_prd1_0 y0' fun l s u a b n i u1' u2' yy' => ?_
  subst u1' u2'
  obtain ⟨hk, rfl⟩ := Prod.mk.inj (Option.some.inj yy')
  exact zz_step_prd1_0 _ _ _ _ _ _ _ hk
theorem q_step_prd1 (l : List Int) (s u a b : Int) (hok : (decide (u = s) && (lnOk l && inr 0 4096 s && fitB 11000000000000000 l && (decide (b = 1) || decide (b = -1)))) = true) : funR Try.prog t_step_prd1 (annOf []) l_step_prd1 20 Try.f88 [.agg [.row 1, .int .i64 u], .one (.int .i64 a), .one (.int .i64 b), .one (.fn 99 [0])] [.box [.row 1, .int .i64 s], .arr 3 (.int .i64) l] = some ⟨.tup [], [some (.box [.row 1, .int .i64 s]), some (.arr 3 (.int .i64) (stp a b (prd 1) s l))], []⟩ := by
    refine (e_step_prd1 ..).trans ?_
    rw [Bool.and_eq_true, decide_eq_true_eq] at hok
    obtain ⟨rfl, hok⟩ := hok
    have hk : k_step_prd1_0 l u u a b (l.length : Int) 0 = true := by
      have hok' := hok
      simp only [Bool.and_eq_true] at hok'
      unfold k_step_prd1_0
      rw [hok'.1.1.1, hok'.1.1.2, hok'.1.2, hok'.2]
      simp only [decide_true, Bool.and_self]
    rw [hk]
    rfl
theorem s_step_prd1 : SoundFun Try.prog 88 G_step_prd1 := by
  refine fun_ok (tab := t_step_prd1) (ann := annOf []) (lt := l_step_prd1) (tab_cons s_line_prd1 tab_nil) (by kernel_rfl) (fn := Try.f88) (by kernel_rfl) (by decide) (c := bodyOf Try.f88) (by kernel_rfl) (by
    intro m b hb
    have hb' : b ∈ loopsOf (bodyOf Try.f88) := hb
    rw [o_step_prd1] at hb'
    simp only [List.mem_cons, List.not_mem_nil, or_false] at hb'
    rcases hb' with rfl
    · exact loop_ok (key := 2) (by kernel_rfl) rfl r_step_prd1_0 z_step_prd1_0 m
    ) ?_ (keep_nil (by kernel_rfl))
  intro args lent o y0'
  unfold G_step_prd1 at y0'
  replace y0' := lendG_s y0'
  obtain ⟨q', args, rfl, y1'⟩ := pA_s y0'
  obtain ⟨c', q', rfl, y2'⟩ := tC_s y1'
  obtain ⟨rfl, y3'⟩ := kR_s y2'
  obtain ⟨u, q', rfl, y4'⟩ := tI_s y3'
  obtain ⟨rfl, y5'⟩ := tE_s y4'
  obtain ⟨a, args, rfl, y6'⟩ := pI_s y5'
  obtain ⟨b, args, rfl, y7'⟩ := pI_s y6'
  obtain ⟨c', args, rfl, y8'⟩ := pO_s y7'
  obtain ⟨rfl, y9'⟩ := kF_s y8'
  obtain ⟨rfl, y10'⟩ := pE_s y9'
  obtain ⟨q', lent, rfl, y11'⟩ := nB_s y10'
  obtain ⟨c', q', rfl, y12'⟩ := tC_s y11'
  obtain ⟨rfl, y13'⟩ := kR_s y12'
  obtain ⟨s, q', rfl, y14'⟩ := tI_s y13'
  obtain ⟨rfl, y15'⟩ := tE_s y14'
  obtain ⟨l, lent, rfl, y16'⟩ := nAI_s y15'
  obtain ⟨rfl, y17'⟩ := nE_s y16'
  have yy' := y17'
  unfold H_step_prd1 at yy'
  obtain ⟨hok, rfl⟩ := Prod.mk.inj (Option.some.inj yy')
  exact ⟨20, q_step_prd1 _ _ _ _ _ hok⟩
theorem d_step_prd2_0 {α : Type} {vs : List V} {bl : List (Option Blk)} {K} {r0' : α} {Q : Prop} (y0' : D_step_prd2_0 vs bl K = some r0') (hh' : ∀ (l : List Int) (s : Int) (u : Int) (a : Int) (b : Int) (n : Int) (i : Int), vs = [.one (.int .i64 a), .one (.int .i64 b), .one (.fn 101 [0]), .one (.ptr 2 0), .one (.int .i64 n), .one (.int .i64 i)] → bl = [some (.box [.row 1, .int .i64 s]), some (.arr 3 (.int .i64) l), some (.box [.row 1, .int .i64 u])] → K l s u a b n i = some r0' → Q) : Q := by
  unfold D_step_prd2_0 at y0'
  obtain ⟨a, vs, rfl, y1'⟩ := pI_s y0'
  obtain ⟨b, vs, rfl, y2'⟩ := pI_s y1'
  obtain ⟨c', vs, rfl, y3'⟩ := pO_s y2'
  obtain ⟨rfl, y4'⟩ := kF_s y3'
  obtain ⟨vs, rfl, y5'⟩ := pP_s y4'
  obtain ⟨n, vs, rfl, y6'⟩ := pI_s y5'
  obtain ⟨i, vs, rfl, y7'⟩ := pI_s y6'
  obtain ⟨rfl, y8'⟩ := pE_s y7'
  obtain ⟨q', bl, rfl, y9'⟩ := bB_s y8'
  obtain ⟨c', q', rfl, y10'⟩ := tC_s y9'
  obtain ⟨rfl, y11'⟩ := kR_s y10'
  obtain ⟨s, q', rfl, y12'⟩ := tI_s y11'
  obtain ⟨rfl, y13'⟩ := tE_s y12'
  obtain ⟨l, bl, rfl, y14'⟩ := bAI_s y13'
  obtain ⟨q', bl, rfl, y15'⟩ := bB_s y14'
  obtain ⟨c', q', rfl, y16'⟩ := tC_s y15'
  obtain ⟨rfl, y17'⟩ := kR_s y16'
  obtain ⟨u, q', rfl, y18'⟩ := tI_s y17'
  obtain ⟨rfl, y19'⟩ := tE_s y18'
  obtain ⟨rfl, y20'⟩ := bE_s y19'
  have yy' := y20'
  exact hh' _ _ _ _ _ _ _ rfl rfl yy'
theorem r_step_prd2_0 : RoundOk Try.prog t_step_prd2 (annOf []) l_step_prd2 Out 20 2 35 [1, 2, 3, 4, 11, 12] (kxOf [] []) (loopOf Try.f88 0) T_step_prd2_0 := by
  intro vs bl Kc r h
  unfold T_step_prd2_0 at h
  obtain ⟨t, y0', h'⟩ := getD_run h
  refine d_step_prd2_0 y0' fun l s u a b n i u1' u2' yy' => ?_
  subst u1' u2'
  cases yy'
  exact (b_step_prd2_0 ..).trans h'
theorem o_step_prd2 : loopsOf (bodyOf Try.f88) = [loopOf Try.f88 0] := by kernel_rfl
theorem zst_prd2 (l : List Int) (s a b : Int) (hs : 0 ≤ s ∧ s ≤ 4096) (hn : 2 ≤ l.length ∧ l.length ≤ 4096) (hsg : b = 1 ∨ b = -1) (hB : Bd 11000000000000000 l) : ∀ (d i : Nat) (c : List Int), i + d = l.length → c.length = l.length → (∀ q : Nat, rd c q = if q < i then rd (stp a b (prd 2) s l) q else rd l q) → ∃ z, ∀ (K : Ex → List V → List (Option Blk) → Option Out) (r : Out), (LT.leaf (.exit 0) [] [some (.box [.row 1, .int .i64 s]), some (.arr 3 (.int .i64) (stp a b (prd 2) s l))]).run K = some r → (iter T_step_prd2_0 z [.one (.int .i64 a), .one (.int .i64 b), .one (.fn 101 [0]), .one (.ptr 2 0), .one (.int .i64 (l.length : Int)), .one (.int .i64 (i : Int))] [some (.box [.row 1, .int .i64 s]), some (.arr 3 (.int .i64) c), some (.box [.row 1, .int .i64 s])]).run K = some r
  | 0, i, c, h, hl, hc => ⟨1, fun K r h' => by
    simp only [iter, tu_step_prd2_0, U_step_prd2_0, LT.next, LT.run, ite2_bool, decide_eq_true_eq]
    rw [if_neg (by omega)]
    rw [← way_end hc hl (by omega)] at h'
    exact h'⟩
  | d + 1, i, c, h, hl, hc => by
    have hci : rd c i = rd l i := by rw [hc i, if_neg (by omega)]
    have hbl := hB i
    have hFb : ∀ i : Nat, i < l.length → -(2 * 11000000000000000 + 1) ≤ prd 2 l i ∧ prd 2 l i ≤ (2 * 11000000000000000 + 1) := fun i _ => prd_bd 2 hB (by omega) hn.1 i
    have hst := stp_bd (sg := b) (par := a) (s := s) hB (by omega) hsg hFb
    by_cases hp : (s + (i : Int)) % 2 = a
    · have hBc : fitB 36028797018963968 c = true := by
        rw [fitB_d, decide_eq_true_eq]
        refine Bd.mem (fun q => ?_)
        rw [hc q]
        have h1 := hB q
        have h2 := hst q
        split <;> omega
      have hcF : prd 2 c i = prd 2 l i := prd_far 2 a s c l i hl (by omega) hp fun q hq hne => by
        rw [hc q]
        split
        · exact stp_keep q hne
        · rfl
      have hv := hFb i (by omega)
      have hsv : b * prd 2 l i = prd 2 l i ∨ b * prd 2 l i = -prd 2 l i := by rcases hsg with rfl | rfl <;> omega
      obtain ⟨z, hz⟩ := zst_prd2 l s a b hs hn hsg hB d (i + 1) (c.set i (rd l i + b * prd 2 l i)) (by omega) (by simpa using hl) (way_next hc hl (by omega) hp rfl)
      refine ⟨z + 1, fun K r h' => ?_⟩
      have hok : (lnOk c && inr 0 4096 (i : Int) && fitB 36028797018963968 c) = true := by
        rw [hBc, inr_t (by omega) (by omega)]
        simp only [lnOk, Bool.and_true, Bool.and_eq_true, decide_eq_true_eq]
        omega
      simp only [iter, tu_step_prd2_0, U_step_prd2_0, LT.next, LT.run, ite2_bool, decide_eq_true_eq, Int.toNat_natCast, gI_rd, hok, if_true, hcF, hci]
      rw [par_w hs.1 hs.2 (by omega) (by omega), show ((s + (i : Int)) % 2 == a) = true by simp [hp], wrap_in (n := b * prd 2 l i) (by omega) (by omega), wrap_in (n := rd l i + b * prd 2 l i) (by omega) (by omega), wrap_in (n := (i : Int) + 1) (by omega) (by omega)]
      repeat rw [if_pos (by first | rfl | omega)]
      exact hz K r h'
    · obtain ⟨z, hz⟩ := zst_prd2 l s a b hs hn hsg hB d (i + 1) c (by omega) hl (way_skip hc hp)
      refine ⟨z + 1, fun K r h' => ?_⟩
      simp only [iter, tu_step_prd2_0, U_step_prd2_0, LT.next, LT.run, ite2_bool, decide_eq_true_eq, Int.toNat_natCast]
      rw [par_w hs.1 hs.2 (by omega) (by omega), show ((s + (i : Int)) % 2 == a) = false by simp [hp], wrap_in (n := (i : Int) + 1) (by omega) (by omega), if_pos (by omega), if_neg (by decide)]
      exact hz K r h'
theorem zz_step_prd2_0 (l : List Int) (s u a b n i : Int) (hk : k_step_prd2_0 l s u a b n i = true) : ZZ (c_step_prd2_0 l s u a b n i) T_step_prd2_0 [.one (.int .i64 a), .one (.int .i64 b), .one (.fn 101 [0]), .one (.ptr 2 0), .one (.int .i64 n), .one (.int .i64 i)] [some (.box [.row 1, .int .i64 s]), some (.arr 3 (.int .i64) l), some (.box [.row 1, .int .i64 u])] := by
  simp only [k_step_prd2_0, Bool.and_eq_true, Bool.or_eq_true, decide_eq_true_eq] at hk
  obtain ⟨⟨⟨⟨⟨⟨rfl, hn⟩, hs⟩, hB⟩, hsg⟩, rfl⟩, rfl⟩ := hk
  exact zst_prd2 l _ a b (inr_b hs) (lnOk_b hn) hsg (fitB_Bd (by omega) hB) l.length 0 l (by omega) rfl (fun q => by rw [if_neg (by omega)])
theorem z_step_prd2_0 : ZOk S_step_prd2_0 T_step_prd2_0 := by
  intro vs bl t y0'
  refine d_step_prd2_0 y0' fun l s u a b n i u1' u2' yy' => ?_
  subst u1' u2'
  obtain ⟨hk, rfl⟩ := Prod.mk.inj (Option.some.inj yy')
  exact zz_step_prd2_0 _ _ _ _ _ _ _ hk
theorem q_step_prd2 (l : List Int) (s u a b : Int) (hok : (decide (u = s) && (lnOk l && inr 0 4096 s && fitB 11000000000000000 l && (decide (b = 1) || decide (b = -1)))) = true) : funR Try.prog t_step_prd2 (annOf []) l_step_prd2 20 Try.f88 [.agg [.row 1, .int .i64 u], .one (.int .i64 a), .one (.int .i64 b), .one (.fn 101 [0])] [.box [.row 1, .int .i64 s], .arr 3 (.int .i64) l] = some ⟨.tup [], [some (.box [.row 1, .int .i64 s]), some (.arr 3 (.int .i64) (stp a b (prd 2) s l))], []⟩ := by
    refine (e_step_prd2 ..).trans ?_
    rw [Bool.and_eq_true, decide_eq_true_eq] at hok
    obtain ⟨rfl, hok⟩ := hok
    have hk : k_step_prd2_0 l u u a b (l.length : Int) 0 = true := by
      have hok' := hok
      simp only [Bool.and_eq_true] at hok'
      unfold k_step_prd2_0
      rw [hok'.1.1.1, hok'.1.1.2, hok'.1.2, hok'.2]
      simp only [decide_true, Bool.and_self]
    rw [hk]
    rfl
theorem s_step_prd2 : SoundFun Try.prog 88 G_step_prd2 := by
  refine fun_ok (tab := t_step_prd2) (ann := annOf []) (lt := l_step_prd2) (tab_cons s_line_prd2 tab_nil) (by kernel_rfl) (fn := Try.f88) (by kernel_rfl) (by decide) (c := bodyOf Try.f88) (by kernel_rfl) (by
    intro m b hb
    have hb' : b ∈ loopsOf (bodyOf Try.f88) := hb
    rw [o_step_prd2] at hb'
    simp only [List.mem_cons, List.not_mem_nil, or_false] at hb'
    rcases hb' with rfl
    · exact loop_ok (key := 2) (by kernel_rfl) rfl r_step_prd2_0 z_step_prd2_0 m
    ) ?_ (keep_nil (by kernel_rfl))
  intro args lent o y0'
  unfold G_step_prd2 at y0'
  replace y0' := lendG_s y0'
  obtain ⟨q', args, rfl, y1'⟩ := pA_s y0'
  obtain ⟨c', q', rfl, y2'⟩ := tC_s y1'
  obtain ⟨rfl, y3'⟩ := kR_s y2'
  obtain ⟨u, q', rfl, y4'⟩ := tI_s y3'
  obtain ⟨rfl, y5'⟩ := tE_s y4'
  obtain ⟨a, args, rfl, y6'⟩ := pI_s y5'
  obtain ⟨b, args, rfl, y7'⟩ := pI_s y6'
  obtain ⟨c', args, rfl, y8'⟩ := pO_s y7'
  obtain ⟨rfl, y9'⟩ := kF_s y8'
  obtain ⟨rfl, y10'⟩ := pE_s y9'
  obtain ⟨q', lent, rfl, y11'⟩ := nB_s y10'
  obtain ⟨c', q', rfl, y12'⟩ := tC_s y11'
  obtain ⟨rfl, y13'⟩ := kR_s y12'
  obtain ⟨s, q', rfl, y14'⟩ := tI_s y13'
  obtain ⟨rfl, y15'⟩ := tE_s y14'
  obtain ⟨l, lent, rfl, y16'⟩ := nAI_s y15'
  obtain ⟨rfl, y17'⟩ := nE_s y16'
  have yy' := y17'
  unfold H_step_prd2 at yy'
  obtain ⟨hok, rfl⟩ := Prod.mk.inj (Option.some.inj yy')
  exact ⟨20, q_step_prd2 _ _ _ _ _ hok⟩
theorem d_step_prd3_0 {α : Type} {vs : List V} {bl : List (Option Blk)} {K} {r0' : α} {Q : Prop} (y0' : D_step_prd3_0 vs bl K = some r0') (hh' : ∀ (l : List Int) (s : Int) (u : Int) (a : Int) (b : Int) (n : Int) (i : Int), vs = [.one (.int .i64 a), .one (.int .i64 b), .one (.fn 102 [0]), .one (.ptr 2 0), .one (.int .i64 n), .one (.int .i64 i)] → bl = [some (.box [.row 1, .int .i64 s]), some (.arr 3 (.int .i64) l), some (.box [.row 1, .int .i64 u])] → K l s u a b n i = some r0' → Q) : Q := by
  unfold D_step_prd3_0 at y0'
  obtain ⟨a, vs, rfl, y1'⟩ := pI_s y0'
  obtain ⟨b, vs, rfl, y2'⟩ := pI_s y1'
  obtain ⟨c', vs, rfl, y3'⟩ := pO_s y2'
  obtain ⟨rfl, y4'⟩ := kF_s y3'
  obtain ⟨vs, rfl, y5'⟩ := pP_s y4'
  obtain ⟨n, vs, rfl, y6'⟩ := pI_s y5'
  obtain ⟨i, vs, rfl, y7'⟩ := pI_s y6'
  obtain ⟨rfl, y8'⟩ := pE_s y7'
  obtain ⟨q', bl, rfl, y9'⟩ := bB_s y8'
  obtain ⟨c', q', rfl, y10'⟩ := tC_s y9'
  obtain ⟨rfl, y11'⟩ := kR_s y10'
  obtain ⟨s, q', rfl, y12'⟩ := tI_s y11'
  obtain ⟨rfl, y13'⟩ := tE_s y12'
  obtain ⟨l, bl, rfl, y14'⟩ := bAI_s y13'
  obtain ⟨q', bl, rfl, y15'⟩ := bB_s y14'
  obtain ⟨c', q', rfl, y16'⟩ := tC_s y15'
  obtain ⟨rfl, y17'⟩ := kR_s y16'
  obtain ⟨u, q', rfl, y18'⟩ := tI_s y17'
  obtain ⟨rfl, y19'⟩ := tE_s y18'
  obtain ⟨rfl, y20'⟩ := bE_s y19'
  have yy' := y20'
  exact hh' _ _ _ _ _ _ _ rfl rfl yy'
theorem r_step_prd3_0 : RoundOk Try.prog t_step_prd3 (annOf []) l_step_prd3 Out 20 2 35 [1, 2, 3, 4, 11, 12] (kxOf [] []) (loopOf Try.f88 0) T_step_prd3_0 := by
  intro vs bl Kc r h
  unfold T_step_prd3_0 at h
  obtain ⟨t, y0', h'⟩ := getD_run h
  refine d_step_prd3_0 y0' fun l s u a b n i u1' u2' yy' => ?_
  subst u1' u2'
  cases yy'
  exact (b_step_prd3_0 ..).trans h'
theorem o_step_prd3 : loopsOf (bodyOf Try.f88) = [loopOf Try.f88 0] := by kernel_rfl
theorem zst_prd3 (l : List Int) (s a b : Int) (hs : 0 ≤ s ∧ s ≤ 4096) (hn : 2 ≤ l.length ∧ l.length ≤ 4096) (hsg : b = 1 ∨ b = -1) (hB : Bd 11000000000000000 l) : ∀ (d i : Nat) (c : List Int), i + d = l.length → c.length = l.length → (∀ q : Nat, rd c q = if q < i then rd (stp a b (prd 3) s l) q else rd l q) → ∃ z, ∀ (K : Ex → List V → List (Option Blk) → Option Out) (r : Out), (LT.leaf (.exit 0) [] [some (.box [.row 1, .int .i64 s]), some (.arr 3 (.int .i64) (stp a b (prd 3) s l))]).run K = some r → (iter T_step_prd3_0 z [.one (.int .i64 a), .one (.int .i64 b), .one (.fn 102 [0]), .one (.ptr 2 0), .one (.int .i64 (l.length : Int)), .one (.int .i64 (i : Int))] [some (.box [.row 1, .int .i64 s]), some (.arr 3 (.int .i64) c), some (.box [.row 1, .int .i64 s])]).run K = some r
  | 0, i, c, h, hl, hc => ⟨1, fun K r h' => by
    simp only [iter, tu_step_prd3_0, U_step_prd3_0, LT.next, LT.run, ite2_bool, decide_eq_true_eq]
    rw [if_neg (by omega)]
    rw [← way_end hc hl (by omega)] at h'
    exact h'⟩
  | d + 1, i, c, h, hl, hc => by
    have hci : rd c i = rd l i := by rw [hc i, if_neg (by omega)]
    have hbl := hB i
    have hFb : ∀ i : Nat, i < l.length → -(2 * 11000000000000000 + 1) ≤ prd 3 l i ∧ prd 3 l i ≤ (2 * 11000000000000000 + 1) := fun i _ => prd_bd 3 hB (by omega) hn.1 i
    have hst := stp_bd (sg := b) (par := a) (s := s) hB (by omega) hsg hFb
    by_cases hp : (s + (i : Int)) % 2 = a
    · have hBc : fitB 36028797018963968 c = true := by
        rw [fitB_d, decide_eq_true_eq]
        refine Bd.mem (fun q => ?_)
        rw [hc q]
        have h1 := hB q
        have h2 := hst q
        split <;> omega
      have hcF : prd 3 c i = prd 3 l i := prd_far 3 a s c l i hl (by omega) hp fun q hq hne => by
        rw [hc q]
        split
        · exact stp_keep q hne
        · rfl
      have hv := hFb i (by omega)
      have hsv : b * prd 3 l i = prd 3 l i ∨ b * prd 3 l i = -prd 3 l i := by rcases hsg with rfl | rfl <;> omega
      obtain ⟨z, hz⟩ := zst_prd3 l s a b hs hn hsg hB d (i + 1) (c.set i (rd l i + b * prd 3 l i)) (by omega) (by simpa using hl) (way_next hc hl (by omega) hp rfl)
      refine ⟨z + 1, fun K r h' => ?_⟩
      have hok : (lnOk c && inr 0 4096 (i : Int) && fitB 36028797018963968 c) = true := by
        rw [hBc, inr_t (by omega) (by omega)]
        simp only [lnOk, Bool.and_true, Bool.and_eq_true, decide_eq_true_eq]
        omega
      simp only [iter, tu_step_prd3_0, U_step_prd3_0, LT.next, LT.run, ite2_bool, decide_eq_true_eq, Int.toNat_natCast, gI_rd, hok, if_true, hcF, hci]
      rw [par_w hs.1 hs.2 (by omega) (by omega), show ((s + (i : Int)) % 2 == a) = true by simp [hp], wrap_in (n := b * prd 3 l i) (by omega) (by omega), wrap_in (n := rd l i + b * prd 3 l i) (by omega) (by omega), wrap_in (n := (i : Int) + 1) (by omega) (by omega)]
      repeat rw [if_pos (by first | rfl | omega)]
      exact hz K r h'
    · obtain ⟨z, hz⟩ := zst_prd3 l s a b hs hn hsg hB d (i + 1) c (by omega) hl (way_skip hc hp)
      refine ⟨z + 1, fun K r h' => ?_⟩
      simp only [iter, tu_step_prd3_0, U_step_prd3_0, LT.next, LT.run, ite2_bool, decide_eq_true_eq, Int.toNat_natCast]
      rw [par_w hs.1 hs.2 (by omega) (by omega), show ((s + (i : Int)) % 2 == a) = false by simp [hp], wrap_in (n := (i : Int) + 1) (by omega) (by omega), if_pos (by omega), if_neg (by decide)]
      exact hz K r h'
theorem zz_step_prd3_0 (l : List Int) (s u a b n i : Int) (hk : k_step_prd3_0 l s u a b n i = true) : ZZ (c_step_prd3_0 l s u a b n i) T_step_prd3_0 [.one (.int .i64 a), .one (.int .i64 b), .one (.fn 102 [0]), .one (.ptr 2 0), .one (.int .i64 n), .one (.int .i64 i)] [some (.box [.row 1, .int .i64 s]), some (.arr 3 (.int .i64) l), some (.box [.row 1, .int .i64 u])] := by
  simp only [k_step_prd3_0, Bool.and_eq_true, Bool.or_eq_true, decide_eq_true_eq] at hk
  obtain ⟨⟨⟨⟨⟨⟨rfl, hn⟩, hs⟩, hB⟩, hsg⟩, rfl⟩, rfl⟩ := hk
  exact zst_prd3 l _ a b (inr_b hs) (lnOk_b hn) hsg (fitB_Bd (by omega) hB) l.length 0 l (by omega) rfl (fun q => by rw [if_neg (by omega)])
theorem z_step_prd3_0 : ZOk S_step_prd3_0 T_step_prd3_0 := by
  intro vs bl t y0'
  refine d_step_prd3_0 y0' fun l s u a b n i u1' u2' yy' => ?_
  subst u1' u2'
  obtain ⟨hk, rfl⟩ := Prod.mk.inj (Option.some.inj yy')
  exact zz_step_prd3_0 _ _ _ _ _ _ _ hk
theorem q_step_prd3 (l : List Int) (s u a b : Int) (hok : (decide (u = s) && (lnOk l && inr 0 4096 s && fitB 11000000000000000 l && (decide (b = 1) || decide (b = -1)))) = true) : funR Try.prog t_step_prd3 (annOf []) l_step_prd3 20 Try.f88 [.agg [.row 1, .int .i64 u], .one (.int .i64 a), .one (.int .i64 b), .one (.fn 102 [0])] [.box [.row 1, .int .i64 s], .arr 3 (.int .i64) l] = some ⟨.tup [], [some (.box [.row 1, .int .i64 s]), some (.arr 3 (.int .i64) (stp a b (prd 3) s l))], []⟩ := by
    refine (e_step_prd3 ..).trans ?_
    rw [Bool.and_eq_true, decide_eq_true_eq] at hok
    obtain ⟨rfl, hok⟩ := hok
    have hk : k_step_prd3_0 l u u a b (l.length : Int) 0 = true := by
      have hok' := hok
      simp only [Bool.and_eq_true] at hok'
      unfold k_step_prd3_0
      rw [hok'.1.1.1, hok'.1.1.2, hok'.1.2, hok'.2]
      simp only [decide_true, Bool.and_self]
    rw [hk]
    rfl
theorem s_step_prd3 : SoundFun Try.prog 88 G_step_prd3 := by
  refine fun_ok (tab := t_step_prd3) (ann := annOf []) (lt := l_step_prd3) (tab_cons s_line_prd3 tab_nil) (by kernel_rfl) (fn := Try.f88) (by kernel_rfl) (by decide) (c := bodyOf Try.f88) (by kernel_rfl) (by
    intro m b hb
    have hb' : b ∈ loopsOf (bodyOf Try.f88) := hb
    rw [o_step_prd3] at hb'
    simp only [List.mem_cons, List.not_mem_nil, or_false] at hb'
    rcases hb' with rfl
    · exact loop_ok (key := 2) (by kernel_rfl) rfl r_step_prd3_0 z_step_prd3_0 m
    ) ?_ (keep_nil (by kernel_rfl))
  intro args lent o y0'
  unfold G_step_prd3 at y0'
  replace y0' := lendG_s y0'
  obtain ⟨q', args, rfl, y1'⟩ := pA_s y0'
  obtain ⟨c', q', rfl, y2'⟩ := tC_s y1'
  obtain ⟨rfl, y3'⟩ := kR_s y2'
  obtain ⟨u, q', rfl, y4'⟩ := tI_s y3'
  obtain ⟨rfl, y5'⟩ := tE_s y4'
  obtain ⟨a, args, rfl, y6'⟩ := pI_s y5'
  obtain ⟨b, args, rfl, y7'⟩ := pI_s y6'
  obtain ⟨c', args, rfl, y8'⟩ := pO_s y7'
  obtain ⟨rfl, y9'⟩ := kF_s y8'
  obtain ⟨rfl, y10'⟩ := pE_s y9'
  obtain ⟨q', lent, rfl, y11'⟩ := nB_s y10'
  obtain ⟨c', q', rfl, y12'⟩ := tC_s y11'
  obtain ⟨rfl, y13'⟩ := kR_s y12'
  obtain ⟨s, q', rfl, y14'⟩ := tI_s y13'
  obtain ⟨rfl, y15'⟩ := tE_s y14'
  obtain ⟨l, lent, rfl, y16'⟩ := nAI_s y15'
  obtain ⟨rfl, y17'⟩ := nE_s y16'
  have yy' := y17'
  unfold H_step_prd3 at yy'
  obtain ⟨hok, rfl⟩ := Prod.mk.inj (Option.some.inj yy')
  exact ⟨20, q_step_prd3 _ _ _ _ _ hok⟩
theorem d_step_upd1_0 {α : Type} {vs : List V} {bl : List (Option Blk)} {K} {r0' : α} {Q : Prop} (y0' : D_step_upd1_0 vs bl K = some r0') (hh' : ∀ (l : List Int) (s : Int) (u : Int) (a : Int) (b : Int) (n : Int) (i : Int), vs = [.one (.int .i64 a), .one (.int .i64 b), .one (.fn 103 [0]), .one (.ptr 2 0), .one (.int .i64 n), .one (.int .i64 i)] → bl = [some (.box [.row 1, .int .i64 s]), some (.arr 3 (.int .i64) l), some (.box [.row 1, .int .i64 u])] → K l s u a b n i = some r0' → Q) : Q := by
  unfold D_step_upd1_0 at y0'
  obtain ⟨a, vs, rfl, y1'⟩ := pI_s y0'
  obtain ⟨b, vs, rfl, y2'⟩ := pI_s y1'
  obtain ⟨c', vs, rfl, y3'⟩ := pO_s y2'
  obtain ⟨rfl, y4'⟩ := kF_s y3'
  obtain ⟨vs, rfl, y5'⟩ := pP_s y4'
  obtain ⟨n, vs, rfl, y6'⟩ := pI_s y5'
  obtain ⟨i, vs, rfl, y7'⟩ := pI_s y6'
  obtain ⟨rfl, y8'⟩ := pE_s y7'
  obtain ⟨q', bl, rfl, y9'⟩ := bB_s y8'
  obtain ⟨c', q', rfl, y10'⟩ := tC_s y9'
  obtain ⟨rfl, y11'⟩ := kR_s y10'
  obtain ⟨s, q', rfl, y12'⟩ := tI_s y11'
  obtain ⟨rfl, y13'⟩ := tE_s y12'
  obtain ⟨l, bl, rfl, y14'⟩ := bAI_s y13'
  obtain ⟨q', bl, rfl, y15'⟩ := bB_s y14'
  obtain ⟨c', q', rfl, y16'⟩ := tC_s y15'
  obtain ⟨rfl, y17'⟩ := kR_s y16'
  obtain ⟨u, q', rfl, y18'⟩ := tI_s y17'
  obtain ⟨rfl, y19'⟩ := tE_s y18'
  obtain ⟨rfl, y20'⟩ := bE_s y19'
  have yy' := y20'
  exact hh' _ _ _ _ _ _ _ rfl rfl yy'
theorem r_step_upd1_0 : RoundOk Try.prog t_step_upd1 (annOf []) l_step_upd1 Out 20 2 35 [1, 2, 3, 4, 11, 12] (kxOf [] []) (loopOf Try.f88 0) T_step_upd1_0 := by
  intro vs bl Kc r h
  unfold T_step_upd1_0 at h
  obtain ⟨t, y0', h'⟩ := getD_run h
  refine d_step_upd1_0 y0' fun l s u a b n i u1' u2' yy' => ?_
  subst u1' u2'
  cases yy'
  exact (b_step_upd1_0 ..).trans h'
theorem o_step_upd1 : loopsOf (bodyOf Try.f88) = [loopOf Try.f88 0] := by kernel_rfl
theorem zst_upd1 (l : List Int) (s a b : Int) (hs : 0 ≤ s ∧ s ≤ 4096) (hn : 2 ≤ l.length ∧ l.length ≤ 4096) (hsg : b = 1 ∨ b = -1) (hB : Bd 11000000000000000 l) : ∀ (d i : Nat) (c : List Int), i + d = l.length → c.length = l.length → (∀ q : Nat, rd c q = if q < i then rd (stp a b (upd 1) s l) q else rd l q) → ∃ z, ∀ (K : Ex → List V → List (Option Blk) → Option Out) (r : Out), (LT.leaf (.exit 0) [] [some (.box [.row 1, .int .i64 s]), some (.arr 3 (.int .i64) (stp a b (upd 1) s l))]).run K = some r → (iter T_step_upd1_0 z [.one (.int .i64 a), .one (.int .i64 b), .one (.fn 103 [0]), .one (.ptr 2 0), .one (.int .i64 (l.length : Int)), .one (.int .i64 (i : Int))] [some (.box [.row 1, .int .i64 s]), some (.arr 3 (.int .i64) c), some (.box [.row 1, .int .i64 s])]).run K = some r
  | 0, i, c, h, hl, hc => ⟨1, fun K r h' => by
    simp only [iter, tu_step_upd1_0, U_step_upd1_0, LT.next, LT.run, ite2_bool, decide_eq_true_eq]
    rw [if_neg (by omega)]
    rw [← way_end hc hl (by omega)] at h'
    exact h'⟩
  | d + 1, i, c, h, hl, hc => by
    have hci : rd c i = rd l i := by rw [hc i, if_neg (by omega)]
    have hbl := hB i
    have hFb : ∀ i : Nat, i < l.length → -(11000000000000000 + 1) ≤ upd 1 l i ∧ upd 1 l i ≤ (11000000000000000 + 1) := fun i _ => upd_bd 1 hB (by omega) hn.1 i
    have hst := stp_bd (sg := b) (par := a) (s := s) hB (by omega) hsg hFb
    by_cases hp : (s + (i : Int)) % 2 = a
    · have hBc : fitB 36028797018963968 c = true := by
        rw [fitB_d, decide_eq_true_eq]
        refine Bd.mem (fun q => ?_)
        rw [hc q]
        have h1 := hB q
        have h2 := hst q
        split <;> omega
      have hcF : upd 1 c i = upd 1 l i := upd_far 1 a s c l i hl (by omega) hp fun q hq hne => by
        rw [hc q]
        split
        · exact stp_keep q hne
        · rfl
      have hv := hFb i (by omega)
      have hsv : b * upd 1 l i = upd 1 l i ∨ b * upd 1 l i = -upd 1 l i := by rcases hsg with rfl | rfl <;> omega
      obtain ⟨z, hz⟩ := zst_upd1 l s a b hs hn hsg hB d (i + 1) (c.set i (rd l i + b * upd 1 l i)) (by omega) (by simpa using hl) (way_next hc hl (by omega) hp rfl)
      refine ⟨z + 1, fun K r h' => ?_⟩
      have hok : (lnOk c && inr 0 4096 (i : Int) && fitB 36028797018963968 c) = true := by
        rw [hBc, inr_t (by omega) (by omega)]
        simp only [lnOk, Bool.and_true, Bool.and_eq_true, decide_eq_true_eq]
        omega
      simp only [iter, tu_step_upd1_0, U_step_upd1_0, LT.next, LT.run, ite2_bool, decide_eq_true_eq, Int.toNat_natCast, gI_rd, hok, if_true, hcF, hci]
      rw [par_w hs.1 hs.2 (by omega) (by omega), show ((s + (i : Int)) % 2 == a) = true by simp [hp], wrap_in (n := b * upd 1 l i) (by omega) (by omega), wrap_in (n := rd l i + b * upd 1 l i) (by omega) (by omega), wrap_in (n := (i : Int) + 1) (by omega) (by omega)]
      repeat rw [if_pos (by first | rfl | omega)]
      exact hz K r h'
    · obtain ⟨z, hz⟩ := zst_upd1 l s a b hs hn hsg hB d (i + 1) c (by omega) hl (way_skip hc hp)
      refine ⟨z + 1, fun K r h' => ?_⟩
      simp only [iter, tu_step_upd1_0, U_step_upd1_0, LT.next, LT.run, ite2_bool, decide_eq_true_eq, Int.toNat_natCast]
      rw [par_w hs.1 hs.2 (by omega) (by omega), show ((s + (i : Int)) % 2 == a) = false by simp [hp], wrap_in (n := (i : Int) + 1) (by omega) (by omega), if_pos (by omega), if_neg (by decide)]
      exact hz K r h'
theorem zz_step_upd1_0 (l : List Int) (s u a b n i : Int) (hk : k_step_upd1_0 l s u a b n i = true) : ZZ (c_step_upd1_0 l s u a b n i) T_step_upd1_0 [.one (.int .i64 a), .one (.int .i64 b), .one (.fn 103 [0]), .one (.ptr 2 0), .one (.int .i64 n), .one (.int .i64 i)] [some (.box [.row 1, .int .i64 s]), some (.arr 3 (.int .i64) l), some (.box [.row 1, .int .i64 u])] := by
  simp only [k_step_upd1_0, Bool.and_eq_true, Bool.or_eq_true, decide_eq_true_eq] at hk
  obtain ⟨⟨⟨⟨⟨⟨rfl, hn⟩, hs⟩, hB⟩, hsg⟩, rfl⟩, rfl⟩ := hk
  exact zst_upd1 l _ a b (inr_b hs) (lnOk_b hn) hsg (fitB_Bd (by omega) hB) l.length 0 l (by omega) rfl (fun q => by rw [if_neg (by omega)])
theorem z_step_upd1_0 : ZOk S_step_upd1_0 T_step_upd1_0 := by
  intro vs bl t y0'
  refine d_step_upd1_0 y0' fun l s u a b n i u1' u2' yy' => ?_
  subst u1' u2'
  obtain ⟨hk, rfl⟩ := Prod.mk.inj (Option.some.inj yy')
  exact zz_step_upd1_0 _ _ _ _ _ _ _ hk
theorem q_step_upd1 (l : List Int) (s u a b : Int) (hok : (decide (u = s) && (lnOk l && inr 0 4096 s && fitB 11000000000000000 l && (decide (b = 1) || decide (b = -1)))) = true) : funR Try.prog t_step_upd1 (annOf []) l_step_upd1 20 Try.f88 [.agg [.row 1, .int .i64 u], .one (.int .i64 a), .one (.int .i64 b), .one (.fn 103 [0])] [.box [.row 1, .int .i64 s], .arr 3 (.int .i64) l] = some ⟨.tup [], [some (.box [.row 1, .int .i64 s]), some (.arr 3 (.int .i64) (stp a b (upd 1) s l))], []⟩ := by
    refine (e_step_upd1 ..).trans ?_
    rw [Bool.and_eq_true, decide_eq_true_eq] at hok
    obtain ⟨rfl, hok⟩ := hok
    have hk : k_step_upd1_0 l u u a b (l.length : Int) 0 = true := by
      have hok' := hok
      simp only [Bool.and_eq_true] at hok'
      unfold k_step_upd1_0
      rw [hok'.1.1.1, hok'.1.1.2, hok'.1.2, hok'.2]
      simp only [decide_true, Bool.and_self]
    rw [hk]
    rfl
theorem s_step_upd1 : SoundFun Try.prog 88 G_step_upd1 := by
  refine fun_ok (tab := t_step_upd1) (ann := annOf []) (lt := l_step_upd1) (tab_cons s_line_upd1 tab_nil) (by kernel_rfl) (fn := Try.f88) (by kernel_rfl) (by decide) (c := bodyOf Try.f88) (by kernel_rfl) (by
    intro m b hb
    have hb' : b ∈ loopsOf (bodyOf Try.f88) := hb
    rw [o_step_upd1] at hb'
    simp only [List.mem_cons, List.not_mem_nil, or_false] at hb'
    rcases hb' with rfl
    · exact loop_ok (key := 2) (by kernel_rfl) rfl r_step_upd1_0 z_step_upd1_0 m
    ) ?_ (keep_nil (by kernel_rfl))
  intro args lent o y0'
  unfold G_step_upd1 at y0'
  replace y0' := lendG_s y0'
  obtain ⟨q', args, rfl, y1'⟩ := pA_s y0'
  obtain ⟨c', q', rfl, y2'⟩ := tC_s y1'
  obtain ⟨rfl, y3'⟩ := kR_s y2'
  obtain ⟨u, q', rfl, y4'⟩ := tI_s y3'
  obtain ⟨rfl, y5'⟩ := tE_s y4'
  obtain ⟨a, args, rfl, y6'⟩ := pI_s y5'
  obtain ⟨b, args, rfl, y7'⟩ := pI_s y6'
  obtain ⟨c', args, rfl, y8'⟩ := pO_s y7'
  obtain ⟨rfl, y9'⟩ := kF_s y8'
  obtain ⟨rfl, y10'⟩ := pE_s y9'
  obtain ⟨q', lent, rfl, y11'⟩ := nB_s y10'
  obtain ⟨c', q', rfl, y12'⟩ := tC_s y11'
  obtain ⟨rfl, y13'⟩ := kR_s y12'
  obtain ⟨s, q', rfl, y14'⟩ := tI_s y13'
  obtain ⟨rfl, y15'⟩ := tE_s y14'
  obtain ⟨l, lent, rfl, y16'⟩ := nAI_s y15'
  obtain ⟨rfl, y17'⟩ := nE_s y16'
  have yy' := y17'
  unfold H_step_upd1 at yy'
  obtain ⟨hok, rfl⟩ := Prod.mk.inj (Option.some.inj yy')
  exact ⟨20, q_step_upd1 _ _ _ _ _ hok⟩
theorem d_step_upd2_0 {α : Type} {vs : List V} {bl : List (Option Blk)} {K} {r0' : α} {Q : Prop} (y0' : D_step_upd2_0 vs bl K = some r0') (hh' : ∀ (l : List Int) (s : Int) (u : Int) (a : Int) (b : Int) (n : Int) (i : Int), vs = [.one (.int .i64 a), .one (.int .i64 b), .one (.fn 104 [0]), .one (.ptr 2 0), .one (.int .i64 n), .one (.int .i64 i)] → bl = [some (.box [.row 1, .int .i64 s]), some (.arr 3 (.int .i64) l), some (.box [.row 1, .int .i64 u])] → K l s u a b n i = some r0' → Q) : Q := by
  unfold D_step_upd2_0 at y0'
  obtain ⟨a, vs, rfl, y1'⟩ := pI_s y0'
  obtain ⟨b, vs, rfl, y2'⟩ := pI_s y1'
  obtain ⟨c', vs, rfl, y3'⟩ := pO_s y2'
  obtain ⟨rfl, y4'⟩ := kF_s y3'
  obtain ⟨vs, rfl, y5'⟩ := pP_s y4'
  obtain ⟨n, vs, rfl, y6'⟩ := pI_s y5'
  obtain ⟨i, vs, rfl, y7'⟩ := pI_s y6'
  obtain ⟨rfl, y8'⟩ := pE_s y7'
  obtain ⟨q', bl, rfl, y9'⟩ := bB_s y8'
  obtain ⟨c', q', rfl, y10'⟩ := tC_s y9'
  obtain ⟨rfl, y11'⟩ := kR_s y10'
  obtain ⟨s, q', rfl, y12'⟩ := tI_s y11'
  obtain ⟨rfl, y13'⟩ := tE_s y12'
  obtain ⟨l, bl, rfl, y14'⟩ := bAI_s y13'
  obtain ⟨q', bl, rfl, y15'⟩ := bB_s y14'
  obtain ⟨c', q', rfl, y16'⟩ := tC_s y15'
  obtain ⟨rfl, y17'⟩ := kR_s y16'
  obtain ⟨u, q', rfl, y18'⟩ := tI_s y17'
  obtain ⟨rfl, y19'⟩ := tE_s y18'
  obtain ⟨rfl, y20'⟩ := bE_s y19'
  have yy' := y20'
  exact hh' _ _ _ _ _ _ _ rfl rfl yy'
theorem r_step_upd2_0 : RoundOk Try.prog t_step_upd2 (annOf []) l_step_upd2 Out 20 2 35 [1, 2, 3, 4, 11, 12] (kxOf [] []) (loopOf Try.f88 0) T_step_upd2_0 := by
  intro vs bl Kc r h
  unfold T_step_upd2_0 at h
  obtain ⟨t, y0', h'⟩ := getD_run h
  refine d_step_upd2_0 y0' fun l s u a b n i u1' u2' yy' => ?_
  subst u1' u2'
  cases yy'
  exact (b_step_upd2_0 ..).trans h'
theorem o_step_upd2 : loopsOf (bodyOf Try.f88) = [loopOf Try.f88 0] := by kernel_rfl
theorem zst_upd2 (l : List Int) (s a b : Int) (hs : 0 ≤ s ∧ s ≤ 4096) (hn : 2 ≤ l.length ∧ l.length ≤ 4096) (hsg : b = 1 ∨ b = -1) (hB : Bd 11000000000000000 l) : ∀ (d i : Nat) (c : List Int), i + d = l.length → c.length = l.length → (∀ q : Nat, rd c q = if q < i then rd (stp a b (upd 2) s l) q else rd l q) → ∃ z, ∀ (K : Ex → List V → List (Option Blk) → Option Out) (r : Out), (LT.leaf (.exit 0) [] [some (.box [.row 1, .int .i64 s]), some (.arr 3 (.int .i64) (stp a b (upd 2) s l))]).run K = some r → (iter T_step_upd2_0 z [.one (.int .i64 a), .one (.int .i64 b), .one (.fn 104 [0]), .one (.ptr 2 0), .one (.int .i64 (l.length : Int)), .one (.int .i64 (i : Int))] [some (.box [.row 1, .int .i64 s]), some (.arr 3 (.int .i64) c), some (.box [.row 1, .int .i64 s])]).run K = some r
  | 0, i, c, h, hl, hc => ⟨1, fun K r h' => by
    simp only [iter, tu_step_upd2_0, U_step_upd2_0, LT.next, LT.run, ite2_bool, decide_eq_true_eq]
    rw [if_neg (by omega)]
    rw [← way_end hc hl (by omega)] at h'
    exact h'⟩
  | d + 1, i, c, h, hl, hc => by
    have hci : rd c i = rd l i := by rw [hc i, if_neg (by omega)]
    have hbl := hB i
    have hFb : ∀ i : Nat, i < l.length → -(11000000000000000 + 1) ≤ upd 2 l i ∧ upd 2 l i ≤ (11000000000000000 + 1) := fun i _ => upd_bd 2 hB (by omega) hn.1 i
    have hst := stp_bd (sg := b) (par := a) (s := s) hB (by omega) hsg hFb
    by_cases hp : (s + (i : Int)) % 2 = a
    · have hBc : fitB 36028797018963968 c = true := by
        rw [fitB_d, decide_eq_true_eq]
        refine Bd.mem (fun q => ?_)
        rw [hc q]
        have h1 := hB q
        have h2 := hst q
        split <;> omega
      have hcF : upd 2 c i = upd 2 l i := upd_far 2 a s c l i hl (by omega) hp fun q hq hne => by
        rw [hc q]
        split
        · exact stp_keep q hne
        · rfl
      have hv := hFb i (by omega)
      have hsv : b * upd 2 l i = upd 2 l i ∨ b * upd 2 l i = -upd 2 l i := by rcases hsg with rfl | rfl <;> omega
      obtain ⟨z, hz⟩ := zst_upd2 l s a b hs hn hsg hB d (i + 1) (c.set i (rd l i + b * upd 2 l i)) (by omega) (by simpa using hl) (way_next hc hl (by omega) hp rfl)
      refine ⟨z + 1, fun K r h' => ?_⟩
      have hok : (lnOk c && inr 0 4096 (i : Int) && fitB 36028797018963968 c) = true := by
        rw [hBc, inr_t (by omega) (by omega)]
        simp only [lnOk, Bool.and_true, Bool.and_eq_true, decide_eq_true_eq]
        omega
      simp only [iter, tu_step_upd2_0, U_step_upd2_0, LT.next, LT.run, ite2_bool, decide_eq_true_eq, Int.toNat_natCast, gI_rd, hok, if_true, hcF, hci]
      rw [par_w hs.1 hs.2 (by omega) (by omega), show ((s + (i : Int)) % 2 == a) = true by simp [hp], wrap_in (n := b * upd 2 l i) (by omega) (by omega), wrap_in (n := rd l i + b * upd 2 l i) (by omega) (by omega), wrap_in (n := (i : Int) + 1) (by omega) (by omega)]
      repeat rw [if_pos (by first | rfl | omega)]
      exact hz K r h'
    · obtain ⟨z, hz⟩ := zst_upd2 l s a b hs hn hsg hB d (i + 1) c (by omega) hl (way_skip hc hp)
      refine ⟨z + 1, fun K r h' => ?_⟩
      simp only [iter, tu_step_upd2_0, U_step_upd2_0, LT.next, LT.run, ite2_bool, decide_eq_true_eq, Int.toNat_natCast]
      rw [par_w hs.1 hs.2 (by omega) (by omega), show ((s + (i : Int)) % 2 == a) = false by simp [hp], wrap_in (n := (i : Int) + 1) (by omega) (by omega), if_pos (by omega), if_neg (by decide)]
      exact hz K r h'
theorem zz_step_upd2_0 (l : List Int) (s u a b n i : Int) (hk : k_step_upd2_0 l s u a b n i = true) : ZZ (c_step_upd2_0 l s u a b n i) T_step_upd2_0 [.one (.int .i64 a), .one (.int .i64 b), .one (.fn 104 [0]), .one (.ptr 2 0), .one (.int .i64 n), .one (.int .i64 i)] [some (.box [.row 1, .int .i64 s]), some (.arr 3 (.int .i64) l), some (.box [.row 1, .int .i64 u])] := by
  simp only [k_step_upd2_0, Bool.and_eq_true, Bool.or_eq_true, decide_eq_true_eq] at hk
  obtain ⟨⟨⟨⟨⟨⟨rfl, hn⟩, hs⟩, hB⟩, hsg⟩, rfl⟩, rfl⟩ := hk
  exact zst_upd2 l _ a b (inr_b hs) (lnOk_b hn) hsg (fitB_Bd (by omega) hB) l.length 0 l (by omega) rfl (fun q => by rw [if_neg (by omega)])
theorem z_step_upd2_0 : ZOk S_step_upd2_0 T_step_upd2_0 := by
  intro vs bl t y0'
  refine d_step_upd2_0 y0' fun l s u a b n i u1' u2' yy' => ?_
  subst u1' u2'
  obtain ⟨hk, rfl⟩ := Prod.mk.inj (Option.some.inj yy')
  exact zz_step_upd2_0 _ _ _ _ _ _ _ hk
theorem q_step_upd2 (l : List Int) (s u a b : Int) (hok : (decide (u = s) && (lnOk l && inr 0 4096 s && fitB 11000000000000000 l && (decide (b = 1) || decide (b = -1)))) = true) : funR Try.prog t_step_upd2 (annOf []) l_step_upd2 20 Try.f88 [.agg [.row 1, .int .i64 u], .one (.int .i64 a), .one (.int .i64 b), .one (.fn 104 [0])] [.box [.row 1, .int .i64 s], .arr 3 (.int .i64) l] = some ⟨.tup [], [some (.box [.row 1, .int .i64 s]), some (.arr 3 (.int .i64) (stp a b (upd 2) s l))], []⟩ := by
    refine (e_step_upd2 ..).trans ?_
    rw [Bool.and_eq_true, decide_eq_true_eq] at hok
    obtain ⟨rfl, hok⟩ := hok
    have hk : k_step_upd2_0 l u u a b (l.length : Int) 0 = true := by
      have hok' := hok
      simp only [Bool.and_eq_true] at hok'
      unfold k_step_upd2_0
      rw [hok'.1.1.1, hok'.1.1.2, hok'.1.2, hok'.2]
      simp only [decide_true, Bool.and_self]
    rw [hk]
    rfl
theorem s_step_upd2 : SoundFun Try.prog 88 G_step_upd2 := by
  refine fun_ok (tab := t_step_upd2) (ann := annOf []) (lt := l_step_upd2) (tab_cons s_line_upd2 tab_nil) (by kernel_rfl) (fn := Try.f88) (by kernel_rfl) (by decide) (c := bodyOf Try.f88) (by kernel_rfl) (by
    intro m b hb
    have hb' : b ∈ loopsOf (bodyOf Try.f88) := hb
    rw [o_step_upd2] at hb'
    simp only [List.mem_cons, List.not_mem_nil, or_false] at hb'
    rcases hb' with rfl
    · exact loop_ok (key := 2) (by kernel_rfl) rfl r_step_upd2_0 z_step_upd2_0 m
    ) ?_ (keep_nil (by kernel_rfl))
  intro args lent o y0'
  unfold G_step_upd2 at y0'
  replace y0' := lendG_s y0'
  obtain ⟨q', args, rfl, y1'⟩ := pA_s y0'
  obtain ⟨c', q', rfl, y2'⟩ := tC_s y1'
  obtain ⟨rfl, y3'⟩ := kR_s y2'
  obtain ⟨u, q', rfl, y4'⟩ := tI_s y3'
  obtain ⟨rfl, y5'⟩ := tE_s y4'
  obtain ⟨a, args, rfl, y6'⟩ := pI_s y5'
  obtain ⟨b, args, rfl, y7'⟩ := pI_s y6'
  obtain ⟨c', args, rfl, y8'⟩ := pO_s y7'
  obtain ⟨rfl, y9'⟩ := kF_s y8'
  obtain ⟨rfl, y10'⟩ := pE_s y9'
  obtain ⟨q', lent, rfl, y11'⟩ := nB_s y10'
  obtain ⟨c', q', rfl, y12'⟩ := tC_s y11'
  obtain ⟨rfl, y13'⟩ := kR_s y12'
  obtain ⟨s, q', rfl, y14'⟩ := tI_s y13'
  obtain ⟨rfl, y15'⟩ := tE_s y14'
  obtain ⟨l, lent, rfl, y16'⟩ := nAI_s y15'
  obtain ⟨rfl, y17'⟩ := nE_s y16'
  have yy' := y17'
  unfold H_step_upd2 at yy'
  obtain ⟨hok, rfl⟩ := Prod.mk.inj (Option.some.inj yy')
  exact ⟨20, q_step_upd2 _ _ _ _ _ hok⟩
theorem s_line_step : SoundFun Try.prog 88 G_line_step := by
  refine ⟨s_step_prd1.1, ?_, keep_nil (by kernel_rfl)⟩
  intro args lent o y0'
  unfold G_line_step at y0'
  replace y0' := lendG_s y0'
  obtain ⟨q', args, rfl, y1'⟩ := pA_s y0'
  obtain ⟨c', q', rfl, y2'⟩ := tC_s y1'
  obtain ⟨rfl, y3'⟩ := kR_s y2'
  obtain ⟨u, q', rfl, y4'⟩ := tI_s y3'
  obtain ⟨rfl, y5'⟩ := tE_s y4'
  obtain ⟨a, args, rfl, y6'⟩ := pI_s y5'
  obtain ⟨b, args, rfl, y7'⟩ := pI_s y6'
  obtain ⟨c', args, rfl, y8'⟩ := pO_s y7'
  obtain ⟨f, rfl, y9'⟩ := kV_s y8'
  obtain ⟨rfl, y10'⟩ := pE_s y9'
  obtain ⟨q', lent, rfl, y11'⟩ := nB_s y10'
  obtain ⟨c', q', rfl, y12'⟩ := tC_s y11'
  obtain ⟨rfl, y13'⟩ := kR_s y12'
  obtain ⟨s, q', rfl, y14'⟩ := tI_s y13'
  obtain ⟨rfl, y15'⟩ := tE_s y14'
  obtain ⟨l, lent, rfl, y16'⟩ := nAI_s y15'
  obtain ⟨rfl, y17'⟩ := nE_s y16'
  have yy' := y17'
  unfold H_line_step at yy'
  obtain ⟨hok, rfl⟩ := Prod.mk.inj (Option.some.inj yy')
  rw [Bool.and_eq_true] at hok
  obtain ⟨hok, hf⟩ := hok
  have hf' : f = pfn 1 ∨ f = pfn 2 ∨ f = pfn 3 ∨ f = ufn 1 ∨ f = ufn 2 := by
    simpa only [okf, Bool.or_eq_true, decide_eq_true_eq, or_assoc] using hf
  rcases hf' with rfl | rfl | rfl | rfl | rfl
  · exact s_step_prd1.2.1 _ _ _ (show H_step_prd1 l s u a b = some (true, _) by unfold H_step_prd1; rw [hok]; rfl)
  · exact s_step_prd2.2.1 _ _ _ (show H_step_prd2 l s u a b = some (true, _) by unfold H_step_prd2; rw [hok]; rfl)
  · exact s_step_prd3.2.1 _ _ _ (show H_step_prd3 l s u a b = some (true, _) by unfold H_step_prd3; rw [hok]; rfl)
  · exact s_step_upd1.2.1 _ _ _ (show H_step_upd1 l s u a b = some (true, _) by unfold H_step_upd1; rw [hok]; rfl)
  · exact s_step_upd2.2.1 _ _ _ (show H_step_upd2 l s u a b = some (true, _) by unfold H_step_upd2; rw [hok]; rfl)
theorem ffn_p {k : Int} (h : inr 1 3 k = true) : ffn (pfn k) = prd k ∧ okf (pfn k) = true := by
  have hb := inr_b h
  have : k = 1 ∨ k = 2 ∨ k = 3 := by omega
  rcases this with rfl | rfl | rfl
  · exact ⟨rfl, rfl⟩
  · exact ⟨rfl, rfl⟩
  · exact ⟨rfl, rfl⟩
theorem upd_32 : upd 3 = upd 2 := by
  funext l i
  unfold upd
  rw [if_neg (by omega), if_neg (by omega)]
theorem ffn_u {k : Int} (h : inr 1 3 k = true) : ffn (ufn k) = upd k ∧ okf (ufn k) = true := by
  have hb := inr_b h
  have : k = 1 ∨ k = 2 ∨ k = 3 := by omega
  rcases this with rfl | rfl | rfl
  · exact ⟨rfl, rfl⟩
  · exact ⟨rfl, rfl⟩
  · exact ⟨upd_32.symm ▸ rfl, rfl⟩
theorem fitB_of {b : Int} {l : List Int} (h : Bd b l) : fitB b l = true := by rw [fitB_d, decide_eq_true_eq]; exact h.mem
theorem lnOk_of {l : List Int} (h1 : 2 ≤ l.length) (h2 : l.length ≤ 4096) : lnOk l = true := by
  simp only [lnOk, Bool.and_eq_true, decide_eq_true_eq]; omega
theorem small_of {l : List Int} (h : l.length ≤ 100000) : small l.length = true := by simp only [small, decide_eq_true_eq]; omega
theorem q_lift_Forward (l : List Int) (s k : Int) (hok : small l.length = true) : funR Try.prog t_lift_Forward (annOf []) l_lift_Forward 20 Try.f68 [.one (.lst (.int .i64) l), .one (.int .i64 s), .one (.int .i64 k)] [] = some ⟨.tup [(false, [.row 0]), (false, [.row 1]), (false, [.int .i64 (fw l s k).2.2])], [], [.arr 3 (.int .i64) (fw l s k).1, .arr 3 (.int .i64) (fw l s k).2.1]⟩ := by
    refine (e_lift_Forward ..).trans ?_
    simp only [ite2_bool, decide_eq_true_eq, fw]
    cases h1 : inr 1 3 k
    · have : ¬ (1 ≤ k ∧ k ≤ 3) := by simp [inr] at h1; omega
      rw [if_pos (by rfl), if_pos this]
    have hk := inr_b h1
    rw [if_neg (by decide), if_neg (show ¬ ¬ (1 ≤ k ∧ k ≤ 3) from fun h => h hk)]
    by_cases h2 : s < 0
    · rw [if_pos h2, if_pos (show ¬ (0 ≤ s ∧ s ≤ 4096 ∧ l.length ≤ 4096 ∧ fit 281474976710656 l) from fun h => by have := h.1; omega)]
    by_cases h3 : s > 4096
    · rw [if_neg h2, if_pos h3, if_pos (show ¬ (0 ≤ s ∧ s ≤ 4096 ∧ l.length ≤ 4096 ∧ fit 281474976710656 l) from fun h => by have := h.2.1; omega)]
    by_cases h4 : (l.length : Int) > 4096
    · rw [if_neg h2, if_neg h3, if_pos h4, if_pos (show ¬ (0 ≤ s ∧ s ≤ 4096 ∧ l.length ≤ 4096 ∧ fit 281474976710656 l) from fun h => by have := h.2.2.1; omega)]
    rw [if_neg h2, if_neg h3, if_neg h4, hok, if_pos (by rfl)]
    cases h5 : fitB 281474976710656 l
    · have : ¬ fit 281474976710656 l := by rw [fitB_d] at h5; simpa using h5
      rw [if_pos (by rfl), if_pos (show ¬ (0 ≤ s ∧ s ≤ 4096 ∧ l.length ≤ 4096 ∧ fit 281474976710656 l) from fun h => this h.2.2.2)]
    have hf : fit 281474976710656 l := by rw [fitB_d] at h5; simpa using h5
    have hB := fitB_Bd (by omega) h5
    rw [if_neg (by decide), if_pos (show l.length * 9 ≤ 140737488355328 by omega), if_neg (show ¬ ¬ (0 ≤ s ∧ s ≤ 4096 ∧ l.length ≤ 4096 ∧ fit 281474976710656 l) from fun h => h ⟨by omega, by omega, by omega, hf⟩)]
    have fp := ffn_p h1
    have fu := ffn_u h1
    have hs := inr_t (a := 0) (b := 4096) (x := s) (by omega) (by omega)
    by_cases h6 : (l.length : Int) > 1
    · have h7 : l.length > 1 := by omega
      have b1 := stp_bd (par := 1) (sg := -1) (s := s) (F := prd k) hB (f := 2 * 281474976710656 + 1) (by omega) (.inr rfl) (fun i _ => prd_bd k hB (by omega) (by omega) i)
      have l1 : (stp 1 (-1) (prd k) s l).length = l.length := stp_length ..
      have l2 : (stp 0 1 (upd k) s (stp 1 (-1) (prd k) s l)).length = l.length := by rw [stp_length, stp_length]
      have sk : sok (stp 0 1 (upd k) s (stp 1 (-1) (prd k) s l)) s := ⟨by omega, by omega, by omega⟩
      have hsp : spl (fwd k s l) s = (evs s (fwd k s l), ods s (fwd k s l), 0) := by unfold spl fwd; rw [if_pos sk]
      rw [if_pos h6, fp.1, fp.2, fu.1, fu.2, hs, lnOk_of (l := l) (by omega) (by omega), lnOk_of (l := stp 1 (-1) (prd k) s l) (by omega) (by omega), fitB_of (b := 11000000000000000) (hB.mono (by omega)), fitB_of (b := 11000000000000000) (b1.mono (by omega)), small_of (l := stp 0 1 (upd k) s (stp 1 (-1) (prd k) s l)) (by omega), if_pos h7]
      have e : stp 0 1 (upd k) s (stp 1 (-1) (prd k) s l) = fwd k s l := rfl
      rw [e, hsp]
      simp
    · have h7 : ¬ l.length > 1 := by omega
      have sk : sok l s := ⟨by omega, by omega, by omega⟩
      have hsp : spl l s = (evs s l, ods s l, 0) := by unfold spl; rw [if_pos sk]
      rw [if_neg h6, if_neg h7, if_pos rfl, hsp]
theorem s_lift_Forward : SoundFun Try.prog 68 G_lift_Forward := by
  refine fun_ok (tab := t_lift_Forward) (ann := annOf []) (lt := l_lift_Forward) (tab_cons s_lift_known (tab_cons s_lift_bounded (tab_cons s_line_step (tab_cons s_line_predict (tab_cons s_line_update (tab_cons s_ext_Split tab_nil)))))) (by kernel_rfl) (fn := Try.f68) (by kernel_rfl) (by decide) (c := bodyOf Try.f68) (by kernel_rfl) (no_loops (by kernel_rfl)) ?_ (keep_nil (by kernel_rfl))
  intro args lent o y0'
  unfold G_lift_Forward at y0'
  obtain ⟨c', args, rfl, y1'⟩ := pO_s y0'
  obtain ⟨l, rfl, y2'⟩ := kLI_s y1'
  obtain ⟨s, args, rfl, y3'⟩ := pI_s y2'
  obtain ⟨k, args, rfl, y4'⟩ := pI_s y3'
  obtain ⟨rfl, y5'⟩ := pE_s y4'
  obtain ⟨rfl, y6'⟩ := nE_s y5'
  have yy' := y6'
  unfold H_lift_Forward at yy'
  obtain ⟨hok, rfl⟩ := Prod.mk.inj (Option.some.inj yy')
  exact ⟨20, q_lift_Forward _ _ _ hok⟩
theorem q_lift_Inverse (l m : List Int) (s k : Int) (hok : (small l.length && small m.length) = true) : funR Try.prog t_lift_Inverse (annOf []) l_lift_Inverse 20 Try.f83 [.one (.lst (.int .i64) l), .one (.lst (.int .i64) m), .one (.int .i64 s), .one (.int .i64 k)] [] = some ⟨.tup [(false, [.row 0]), (false, [.int .i64 (iv l m s k).2])], [], [.arr 3 (.int .i64) (iv l m s k).1]⟩ := by
    refine (e_lift_Inverse ..).trans ?_
    have hok' := hok
    simp only [Bool.and_eq_true] at hok'
    have sm1 := hok'.1
    have sm2 := hok'.2
    simp only [small, decide_eq_true_eq] at sm1 sm2
    simp only [ite2_bool, decide_eq_true_eq, iv]
    cases h1 : inr 1 3 k
    · have : ¬ (1 ≤ k ∧ k ≤ 3) := by simp [inr] at h1; omega
      rw [if_pos (by rfl), if_pos this]
    have hk := inr_b h1
    rw [if_neg (by decide), if_neg (show ¬ ¬ (1 ≤ k ∧ k ≤ 3) from fun h => h hk)]
    by_cases h2 : s < 0
    · rw [if_pos h2, if_pos (show ¬ (0 ≤ s ∧ s ≤ 4096 ∧ l.length + m.length ≤ 4096 ∧ fit 1125899906842624 l ∧ fit 1125899906842624 m) from fun h => by have := h.1; omega)]
    by_cases h3 : s > 4096
    · rw [if_neg h2, if_pos h3, if_pos (show ¬ (0 ≤ s ∧ s ≤ 4096 ∧ l.length + m.length ≤ 4096 ∧ fit 1125899906842624 l ∧ fit 1125899906842624 m) from fun h => by have := h.2.1; omega)]
    by_cases h4 : (l.length : Int) > 4096
    · rw [if_neg h2, if_neg h3, if_pos h4, if_pos (show ¬ (0 ≤ s ∧ s ≤ 4096 ∧ l.length + m.length ≤ 4096 ∧ fit 1125899906842624 l ∧ fit 1125899906842624 m) from fun h => by have := h.2.2.1; omega)]
    rw [wrap_in (n := 4096 - (l.length : Int)) (by omega) (by omega)]
    by_cases h5 : (m.length : Int) > 4096 - (l.length : Int)
    · rw [if_neg h2, if_neg h3, if_neg h4, if_pos h5, if_pos (show ¬ (0 ≤ s ∧ s ≤ 4096 ∧ l.length + m.length ≤ 4096 ∧ fit 1125899906842624 l ∧ fit 1125899906842624 m) from fun h => by have := h.2.2.1; omega)]
    rw [if_neg h2, if_neg h3, if_neg h4, if_neg h5, hok'.1, hok'.2, if_pos (by rfl)]
    cases h6 : fitB 1125899906842624 l
    · have : ¬ fit 1125899906842624 l := by rw [fitB_d] at h6; simpa using h6
      rw [if_pos (by rfl), if_pos (show ¬ (0 ≤ s ∧ s ≤ 4096 ∧ l.length + m.length ≤ 4096 ∧ fit 1125899906842624 l ∧ fit 1125899906842624 m) from fun h => this h.2.2.2.1)]
    have f1 : fit 1125899906842624 l := by rw [fitB_d] at h6; simpa using h6
    rw [if_neg (by decide), if_pos (by rfl)]
    cases h7 : fitB 1125899906842624 m
    · have : ¬ fit 1125899906842624 m := by rw [fitB_d] at h7; simpa using h7
      rw [if_pos (by rfl), if_pos (show ¬ (0 ≤ s ∧ s ≤ 4096 ∧ l.length + m.length ≤ 4096 ∧ fit 1125899906842624 l ∧ fit 1125899906842624 m) from fun h => this h.2.2.2.2)]
    have f2 : fit 1125899906842624 m := by rw [fitB_d] at h7; simpa using h7
    rw [if_neg (by decide), if_pos (by rfl), if_neg (show ¬ ¬ (0 ≤ s ∧ s ≤ 4096 ∧ l.length + m.length ≤ 4096 ∧ fit 1125899906842624 l ∧ fit 1125899906842624 m) from fun h => h ⟨by omega, by omega, by omega, f1, f2⟩)]
    by_cases h8 : (jn l m s).2 = 0
    rotate_left
    · rw [show ((jn l m s).2 != 0) = true by simp [h8], if_pos rfl, if_neg h8]
    rw [show ((jn l m s).2 != 0) = false by simp [h8], if_neg (by decide), if_pos h8]
    have fp := ffn_p h1
    have fu := ffn_u h1
    have hs := inr_t (a := 0) (b := 4096) (x := s) (by omega) (by omega)
    have jl := jn_len l m s h8
    have hB := jn_bd l m s (c := 1125899906842624) (by omega) f1 f2 h8
    by_cases h9 : ((jn l m s).1.length : Int) > 1
    · have h10 : (jn l m s).1.length > 1 := by omega
      have b1 := stp_bd (par := 0) (sg := -1) (s := s) (F := upd k) hB (f := 1125899906842624 + 1) (by omega) (.inr rfl) (fun i _ => upd_bd k hB (by omega) (by omega) i)
      have l1 : (stp 0 (-1) (upd k) s (jn l m s).1).length = (jn l m s).1.length := stp_length ..
      rw [if_pos h9, fp.1, fp.2, fu.1, fu.2, hs, lnOk_of (l := (jn l m s).1) (by omega) (by omega), lnOk_of (l := stp 0 (-1) (upd k) s (jn l m s).1) (by omega) (by omega), fitB_of (b := 11000000000000000) (hB.mono (by omega)), fitB_of (b := 11000000000000000) (b1.mono (by omega)), if_pos h10]
      simp
      rfl
    · have h10 : ¬ (jn l m s).1.length > 1 := by omega
      rw [if_neg h9, if_neg h10]
theorem s_lift_Inverse : SoundFun Try.prog 83 G_lift_Inverse := by
  refine fun_ok (tab := t_lift_Inverse) (ann := annOf []) (lt := l_lift_Inverse) (tab_cons s_lift_known (tab_cons s_lift_bounded (tab_cons s_line_step (tab_cons s_line_predict (tab_cons s_line_update (tab_cons s_ext_Join tab_nil)))))) (by kernel_rfl) (fn := Try.f83) (by kernel_rfl) (by decide) (c := bodyOf Try.f83) (by kernel_rfl) (no_loops (by kernel_rfl)) ?_ (keep_nil (by kernel_rfl))
  intro args lent o y0'
  unfold G_lift_Inverse at y0'
  obtain ⟨c', args, rfl, y1'⟩ := pO_s y0'
  obtain ⟨l, rfl, y2'⟩ := kLI_s y1'
  obtain ⟨c', args, rfl, y3'⟩ := pO_s y2'
  obtain ⟨m, rfl, y4'⟩ := kLI_s y3'
  obtain ⟨s, args, rfl, y5'⟩ := pI_s y4'
  obtain ⟨k, args, rfl, y6'⟩ := pI_s y5'
  obtain ⟨rfl, y7'⟩ := pE_s y6'
  obtain ⟨rfl, y8'⟩ := nE_s y7'
  have yy' := y8'
  unfold H_lift_Inverse at yy'
  obtain ⟨hok, rfl⟩ := Prod.mk.inj (Option.some.inj yy')
  exact ⟨20, q_lift_Inverse _ _ _ _ hok⟩


end Go.Rx.Ch06
