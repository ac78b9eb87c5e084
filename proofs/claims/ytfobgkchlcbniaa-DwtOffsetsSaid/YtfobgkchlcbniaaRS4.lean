/- The summaries of these functions are sound. -/
import Derived.Test.YtfobgkchlcbniaaRE2
import Derived.Test.YtfobgkchlcbniaaRS3
set_option linter.unnecessarySimpa false
set_option linter.unusedVariables false
set_option linter.unusedSimpArgs false
set_option linter.unusedVariables false
set_option linter.unusedSimpArgs false
set_option maxRecDepth 100000
set_option maxHeartbeats 40000000
open Go Go.Rx Go.Proofs
namespace Go.Rx.Ch05
theorem mvd_len (k : Int) (l : List Int) : (mvd k l).length = l.length := by simp [mvd]
theorem mvd_succ (k : Int) (l : List Int) {j : Nat} (h : j < l.length) : mvd k (l.take (j + 1)) = mvd k (l.take j) ++ [IntKind.wrap .i64 (gI l j + k)] := by
  have e : gI l j = l[j] := by simp [gI, List.getD_eq_getElem?_getD, h]
  rw [e, ← List.take_append_getElem h]
  unfold mvd
  rw [List.map_append]
  rfl
theorem mvd_set (k : Int) (l : List Int) {j : Nat} (h : j < l.length) : (jz (mvd k (l.take j)) (l.length - j)).set j (IntKind.wrap .i64 (gI l j + k)) = jz (mvd k (l.take (j + 1))) (l.length - (j + 1)) := by
  have hl : (mvd k (l.take j)).length = j := by rw [mvd_len, List.length_take]; omega
  have hs := jz_set (mvd k (l.take j)) (l.length - (j + 1)) (IntKind.wrap .i64 (gI l j + k))
  rw [hl] at hs
  rw [show l.length - j = (l.length - (j + 1)) + 1 by omega, mvd_succ k l h]
  exact hs
theorem r_law_same_0 : RoundOk Try.prog t_law_same (annOf []) l_law_same Out 20 0 38 [2, 3, 22, 23] (kxOf [] [4]) (loopOf Try.f16 0) T_law_same_0 := by
  intro vs bl Kc r h
  unfold T_law_same_0 at h
  obtain ⟨t, y0', h'⟩ := getD_run h
  obtain ⟨c', vs, rfl, y1'⟩ := pO_s y0'
  obtain ⟨rfl, y2'⟩ := kP_s y1'
  obtain ⟨c', vs, rfl, y3'⟩ := pO_s y2'
  obtain ⟨rfl, y4'⟩ := kP_s y3'
  obtain ⟨c', vs, rfl, y5'⟩ := pO_s y4'
  obtain ⟨n, rfl, y6'⟩ := kI_s y5'
  obtain ⟨c', vs, rfl, y7'⟩ := pO_s y6'
  obtain ⟨i, rfl, y8'⟩ := kI_s y7'
  obtain ⟨rfl, y9'⟩ := pE_s y8'
  obtain ⟨q', bl, rfl, y10'⟩ := bB_s y9'
  obtain ⟨c', q', rfl, y11'⟩ := tC_s y10'
  obtain ⟨a, rfl, y12'⟩ := kI_s y11'
  obtain ⟨c', q', rfl, y13'⟩ := tC_s y12'
  obtain ⟨b, rfl, y14'⟩ := kI_s y13'
  obtain ⟨c', q', rfl, y15'⟩ := tC_s y14'
  obtain ⟨c, rfl, y16'⟩ := kI_s y15'
  obtain ⟨c', q', rfl, y17'⟩ := tC_s y16'
  obtain ⟨d, rfl, y18'⟩ := kI_s y17'
  obtain ⟨c', q', rfl, y19'⟩ := tC_s y18'
  obtain ⟨l, rfl, y20'⟩ := kLI_s y19'
  obtain ⟨rfl, y21'⟩ := tE_s y20'
  obtain ⟨q', bl, rfl, y22'⟩ := bB_s y21'
  obtain ⟨c', q', rfl, y23'⟩ := tC_s y22'
  obtain ⟨a1, rfl, y24'⟩ := kI_s y23'
  obtain ⟨c', q', rfl, y25'⟩ := tC_s y24'
  obtain ⟨b1, rfl, y26'⟩ := kI_s y25'
  obtain ⟨c', q', rfl, y27'⟩ := tC_s y26'
  obtain ⟨c1, rfl, y28'⟩ := kI_s y27'
  obtain ⟨c', q', rfl, y29'⟩ := tC_s y28'
  obtain ⟨d1, rfl, y30'⟩ := kI_s y29'
  obtain ⟨c', q', rfl, y31'⟩ := tC_s y30'
  obtain ⟨m, rfl, y32'⟩ := kLI_s y31'
  obtain ⟨rfl, y33'⟩ := tE_s y32'
  obtain ⟨rfl, y34'⟩ := bE_s y33'
  have yy' := y34'
  cases yy'
  exact (b_law_same_0 ..).trans ((congrArg (LT.runc · Kc) (tu_law_same_0 ..)).trans h')
theorem o_law_same : loopsOf (bodyOf Try.f16) = [loopOf Try.f16 0] := by kernel_rfl
theorem zz_law_same_0 (a b c d a1 b1 c1 d1 : Int) (l m : List Int) (hsm : small (l.length) = true) (hc : decide (l.length = m.length) = true) : ∃ k, ∀ (K : Ex → List V → List (Option Blk) → Option Out) r, (c_law_same_0 a b c d a1 b1 c1 d1 l m).run K = some r → (iter T_law_same_0 k [.one (.ptr 0 0), .one (.ptr 1 0), .one (.int .i64 (l.length : Int)), .one (.int .i64 0)] [some (.box [.int .i64 a, .int .i64 b, .int .i64 c, .int .i64 d, .lst (.int .i64) l]), some (.box [.int .i64 a1, .int .i64 b1, .int .i64 c1, .int .i64 d1, .lst (.int .i64) m])]).run K = some r := by
  refine z_idx (st := fun i => ([.one (.ptr 0 0), .one (.ptr 1 0), .one (.int .i64 (l.length : Int)), .one (.int .i64 ((i : Nat) : Int))], [some (.box [.int .i64 a, .int .i64 b, .int .i64 c, .int .i64 d, .lst (.int .i64) l]), some (.box [.int .i64 a1, .int .i64 b1, .int .i64 c1, .int .i64 d1, .lst (.int .i64) m])])) (l.length) (fun j => gI l j == gI m j) _ _ (fun i hi F K => ?_) (fun F K => ?_)
  · have hi' : (i : Int) < (l.length : Int) := by omega
    have hc' := hc
    simp only [Bool.and_eq_true, decide_eq_true_eq] at hc'
    simp only [tu_law_same_0, U_law_same_0, LT.next, LT.run, ite2_dec, ite2_bool, wrap_next hi hsm, Int.toNat_natCast, hi', Int.natCast_nonneg, and_self, if_true, gI, gP, gC, gR]
    have hj : (i : Int) < (m.length : Int) := by omega
    simp [hj, gI] <;> (repeat' split) <;> simp_all
  · simp only [tu_law_same_0, U_law_same_0, LT.next, LT.run, ite2_dec, Int.lt_irrefl, if_false]
    try rfl
theorem z_law_same_0 : ∀ vs bl t, S_law_same_0 vs bl = some (true, t) → ∃ n, ∀ (K : Ex → List V → List (Option Blk) → Option Out) r, t.run K = some r → (iter T_law_same_0 n vs bl).run K = some r := by
  intro vs bl t y0'
  unfold S_law_same_0 at y0'
  obtain ⟨c', vs, rfl, y1'⟩ := pO_s y0'
  obtain ⟨rfl, y2'⟩ := kP_s y1'
  obtain ⟨c', vs, rfl, y3'⟩ := pO_s y2'
  obtain ⟨rfl, y4'⟩ := kP_s y3'
  obtain ⟨c', vs, rfl, y5'⟩ := pO_s y4'
  obtain ⟨n, rfl, y6'⟩ := kI_s y5'
  obtain ⟨c', vs, rfl, y7'⟩ := pO_s y6'
  obtain ⟨i, rfl, y8'⟩ := kI_s y7'
  obtain ⟨rfl, y9'⟩ := pE_s y8'
  obtain ⟨q', bl, rfl, y10'⟩ := bB_s y9'
  obtain ⟨c', q', rfl, y11'⟩ := tC_s y10'
  obtain ⟨a, rfl, y12'⟩ := kI_s y11'
  obtain ⟨c', q', rfl, y13'⟩ := tC_s y12'
  obtain ⟨b, rfl, y14'⟩ := kI_s y13'
  obtain ⟨c', q', rfl, y15'⟩ := tC_s y14'
  obtain ⟨c, rfl, y16'⟩ := kI_s y15'
  obtain ⟨c', q', rfl, y17'⟩ := tC_s y16'
  obtain ⟨d, rfl, y18'⟩ := kI_s y17'
  obtain ⟨c', q', rfl, y19'⟩ := tC_s y18'
  obtain ⟨l, rfl, y20'⟩ := kLI_s y19'
  obtain ⟨rfl, y21'⟩ := tE_s y20'
  obtain ⟨q', bl, rfl, y22'⟩ := bB_s y21'
  obtain ⟨c', q', rfl, y23'⟩ := tC_s y22'
  obtain ⟨a1, rfl, y24'⟩ := kI_s y23'
  obtain ⟨c', q', rfl, y25'⟩ := tC_s y24'
  obtain ⟨b1, rfl, y26'⟩ := kI_s y25'
  obtain ⟨c', q', rfl, y27'⟩ := tC_s y26'
  obtain ⟨c1, rfl, y28'⟩ := kI_s y27'
  obtain ⟨c', q', rfl, y29'⟩ := tC_s y28'
  obtain ⟨d1, rfl, y30'⟩ := kI_s y29'
  obtain ⟨c', q', rfl, y31'⟩ := tC_s y30'
  obtain ⟨m, rfl, y32'⟩ := kLI_s y31'
  obtain ⟨rfl, y33'⟩ := tE_s y32'
  obtain ⟨rfl, y34'⟩ := bE_s y33'
  have yy' := y34'
  obtain ⟨hk, rfl⟩ := Prod.mk.inj (Option.some.inj yy')
  unfold k_law_same_0 at hk
  simp only [Bool.and_eq_true, decide_eq_true_eq, and_assoc] at hk
  obtain ⟨rfl, rfl, hsm, hc⟩ := hk
  exact zz_law_same_0 _ _ _ _ _ _ _ _ _ _ hsm (by first | exact hc | simpa using hc)
theorem q_law_same (a b c d a1 b1 c1 d1 : Int) (l m : List Int) (hok : small l.length = true) : funR Try.prog t_law_same (annOf []) l_law_same 20 Try.f16 [.agg [.int .i64 a, .int .i64 b, .int .i64 c, .int .i64 d, .lst (.int .i64) l], .agg [.int .i64 a1, .int .i64 b1, .int .i64 c1, .int .i64 d1, .lst (.int .i64) m]] [] = some ⟨.one (.bool (samePl a b c d l a1 b1 c1 d1 m)), [], []⟩ := by
    refine (e_law_same ..).trans ?_
    simp only [ite2_bool, k_law_same_0, p_law_same_0, samePl]
    rw [show (a == a1 && (b == b1 && (c == c1 && (d == d1 && true)))) = isR a b c d (a1, b1, c1, d1) from rfl]
    cases hR : isR a b c d (a1, b1, c1, d1)
    · simp
    by_cases hl : l.length = m.length
    · have hq : (List.range l.length).all (fun j => gI l j == gI m j) = decide (l = m) := all_eq l m (0 : Int) hl
      rw [hl] at hok
      rw [hq]
      simp [hl, hok]
      (repeat' split) <;> simp_all
    · have g1 : l ≠ m := fun e => hl (by rw [e])
      have g2 : ¬ ((l.length : Int) = m.length) := by omega
      simp [g1, g2]
theorem s_law_same : SoundFun Try.prog 16 G_law_same := by
  refine fun_ok (tab := t_law_same) (ann := annOf []) (lt := l_law_same) tab_nil (by kernel_rfl) (fn := Try.f16) (by kernel_rfl) (by decide) (c := bodyOf Try.f16) (by kernel_rfl) (by
    intro m b hb
    have hb' : b ∈ loopsOf (bodyOf Try.f16) := hb
    rw [o_law_same] at hb'
    simp only [List.mem_cons, List.not_mem_nil, or_false] at hb'
    rcases hb' with rfl
    · exact loop_ok (key := 4) (by kernel_rfl) rfl r_law_same_0 z_law_same_0 m
    ) ?_ (keep_nil (by kernel_rfl))
  intro args lent o y0'
  unfold G_law_same at y0'
  obtain ⟨q', args, rfl, y1'⟩ := pA_s y0'
  obtain ⟨c', q', rfl, y2'⟩ := tC_s y1'
  obtain ⟨a, rfl, y3'⟩ := kI_s y2'
  obtain ⟨c', q', rfl, y4'⟩ := tC_s y3'
  obtain ⟨b, rfl, y5'⟩ := kI_s y4'
  obtain ⟨c', q', rfl, y6'⟩ := tC_s y5'
  obtain ⟨c, rfl, y7'⟩ := kI_s y6'
  obtain ⟨c', q', rfl, y8'⟩ := tC_s y7'
  obtain ⟨d, rfl, y9'⟩ := kI_s y8'
  obtain ⟨c', q', rfl, y10'⟩ := tC_s y9'
  obtain ⟨l, rfl, y11'⟩ := kLI_s y10'
  obtain ⟨rfl, y12'⟩ := tE_s y11'
  obtain ⟨q', args, rfl, y13'⟩ := pA_s y12'
  obtain ⟨c', q', rfl, y14'⟩ := tC_s y13'
  obtain ⟨a1, rfl, y15'⟩ := kI_s y14'
  obtain ⟨c', q', rfl, y16'⟩ := tC_s y15'
  obtain ⟨b1, rfl, y17'⟩ := kI_s y16'
  obtain ⟨c', q', rfl, y18'⟩ := tC_s y17'
  obtain ⟨c1, rfl, y19'⟩ := kI_s y18'
  obtain ⟨c', q', rfl, y20'⟩ := tC_s y19'
  obtain ⟨d1, rfl, y21'⟩ := kI_s y20'
  obtain ⟨c', q', rfl, y22'⟩ := tC_s y21'
  obtain ⟨m, rfl, y23'⟩ := kLI_s y22'
  obtain ⟨rfl, y24'⟩ := tE_s y23'
  obtain ⟨rfl, y25'⟩ := pE_s y24'
  obtain ⟨rfl, y26'⟩ := nE_s y25'
  have yy' := y26'
  unfold H_law_same at yy'
  obtain ⟨hok, rfl⟩ := Prod.mk.inj (Option.some.inj yy')
  exact ⟨20, q_law_same _ _ _ _ _ _ _ _ _ _ hok⟩
theorem r_pl_Same_0 : RoundOk Try.prog t_pl_Same (annOf []) l_pl_Same Out 20 0 37 [3, 22, 23, 24] (kxOf [] [4]) (loopOf Try.f20 0) T_pl_Same_0 := by
  intro vs bl Kc r h
  unfold T_pl_Same_0 at h
  obtain ⟨t, y0', h'⟩ := getD_run h
  obtain ⟨c', vs, rfl, y1'⟩ := pO_s y0'
  obtain ⟨rfl, y2'⟩ := kP_s y1'
  obtain ⟨c', vs, rfl, y3'⟩ := pO_s y2'
  obtain ⟨l, rfl, y4'⟩ := kLI_s y3'
  obtain ⟨c', vs, rfl, y5'⟩ := pO_s y4'
  obtain ⟨n, rfl, y6'⟩ := kI_s y5'
  obtain ⟨c', vs, rfl, y7'⟩ := pO_s y6'
  obtain ⟨i, rfl, y8'⟩ := kI_s y7'
  obtain ⟨rfl, y9'⟩ := pE_s y8'
  obtain ⟨q', bl, rfl, y10'⟩ := bB_s y9'
  obtain ⟨c', q', rfl, y11'⟩ := tC_s y10'
  obtain ⟨a1, rfl, y12'⟩ := kI_s y11'
  obtain ⟨c', q', rfl, y13'⟩ := tC_s y12'
  obtain ⟨b1, rfl, y14'⟩ := kI_s y13'
  obtain ⟨c', q', rfl, y15'⟩ := tC_s y14'
  obtain ⟨c1, rfl, y16'⟩ := kI_s y15'
  obtain ⟨c', q', rfl, y17'⟩ := tC_s y16'
  obtain ⟨d1, rfl, y18'⟩ := kI_s y17'
  obtain ⟨c', q', rfl, y19'⟩ := tC_s y18'
  obtain ⟨m, rfl, y20'⟩ := kLI_s y19'
  obtain ⟨rfl, y21'⟩ := tE_s y20'
  obtain ⟨rfl, y22'⟩ := bE_s y21'
  have yy' := y22'
  cases yy'
  exact (b_pl_Same_0 ..).trans ((congrArg (LT.runc · Kc) (tu_pl_Same_0 ..)).trans h')
theorem o_pl_Same : loopsOf (bodyOf Try.f20) = [loopOf Try.f20 0] := by kernel_rfl
theorem zz_pl_Same_0 (a1 b1 c1 d1 : Int) (l m : List Int) (hsm : small (l.length) = true) (hc : decide (l.length = m.length) = true) : ∃ k, ∀ (K : Ex → List V → List (Option Blk) → Option Out) r, (c_pl_Same_0 a1 b1 c1 d1 l m).run K = some r → (iter T_pl_Same_0 k [.one (.ptr 0 0), .one (.lst (.int .i64) l), .one (.int .i64 (l.length : Int)), .one (.int .i64 0)] [some (.box [.int .i64 a1, .int .i64 b1, .int .i64 c1, .int .i64 d1, .lst (.int .i64) m])]).run K = some r := by
  refine z_idx (st := fun i => ([.one (.ptr 0 0), .one (.lst (.int .i64) l), .one (.int .i64 (l.length : Int)), .one (.int .i64 ((i : Nat) : Int))], [some (.box [.int .i64 a1, .int .i64 b1, .int .i64 c1, .int .i64 d1, .lst (.int .i64) m])])) (l.length) (fun j => gI l j == gI m j) _ _ (fun i hi F K => ?_) (fun F K => ?_)
  · have hi' : (i : Int) < (l.length : Int) := by omega
    have hc' := hc
    simp only [Bool.and_eq_true, decide_eq_true_eq] at hc'
    simp only [tu_pl_Same_0, U_pl_Same_0, LT.next, LT.run, ite2_dec, ite2_bool, wrap_next hi hsm, Int.toNat_natCast, hi', Int.natCast_nonneg, and_self, if_true, gI, gP, gC, gR]
    have hj : (i : Int) < (m.length : Int) := by omega
    simp [hj, gI] <;> (repeat' split) <;> simp_all
  · simp only [tu_pl_Same_0, U_pl_Same_0, LT.next, LT.run, ite2_dec, Int.lt_irrefl, if_false]
    try rfl
theorem z_pl_Same_0 : ∀ vs bl t, S_pl_Same_0 vs bl = some (true, t) → ∃ n, ∀ (K : Ex → List V → List (Option Blk) → Option Out) r, t.run K = some r → (iter T_pl_Same_0 n vs bl).run K = some r := by
  intro vs bl t y0'
  unfold S_pl_Same_0 at y0'
  obtain ⟨c', vs, rfl, y1'⟩ := pO_s y0'
  obtain ⟨rfl, y2'⟩ := kP_s y1'
  obtain ⟨c', vs, rfl, y3'⟩ := pO_s y2'
  obtain ⟨l, rfl, y4'⟩ := kLI_s y3'
  obtain ⟨c', vs, rfl, y5'⟩ := pO_s y4'
  obtain ⟨n, rfl, y6'⟩ := kI_s y5'
  obtain ⟨c', vs, rfl, y7'⟩ := pO_s y6'
  obtain ⟨i, rfl, y8'⟩ := kI_s y7'
  obtain ⟨rfl, y9'⟩ := pE_s y8'
  obtain ⟨q', bl, rfl, y10'⟩ := bB_s y9'
  obtain ⟨c', q', rfl, y11'⟩ := tC_s y10'
  obtain ⟨a1, rfl, y12'⟩ := kI_s y11'
  obtain ⟨c', q', rfl, y13'⟩ := tC_s y12'
  obtain ⟨b1, rfl, y14'⟩ := kI_s y13'
  obtain ⟨c', q', rfl, y15'⟩ := tC_s y14'
  obtain ⟨c1, rfl, y16'⟩ := kI_s y15'
  obtain ⟨c', q', rfl, y17'⟩ := tC_s y16'
  obtain ⟨d1, rfl, y18'⟩ := kI_s y17'
  obtain ⟨c', q', rfl, y19'⟩ := tC_s y18'
  obtain ⟨m, rfl, y20'⟩ := kLI_s y19'
  obtain ⟨rfl, y21'⟩ := tE_s y20'
  obtain ⟨rfl, y22'⟩ := bE_s y21'
  have yy' := y22'
  obtain ⟨hk, rfl⟩ := Prod.mk.inj (Option.some.inj yy')
  unfold k_pl_Same_0 at hk
  simp only [Bool.and_eq_true, decide_eq_true_eq, and_assoc] at hk
  obtain ⟨rfl, rfl, hsm, hc⟩ := hk
  exact zz_pl_Same_0 _ _ _ _ _ _ hsm (by first | exact hc | simpa using hc)
theorem q_pl_Same (a b c d a1 b1 c1 d1 : Int) (l m : List Int) (hok : small l.length = true) : funR Try.prog t_pl_Same (annOf []) l_pl_Same 20 Try.f20 [.agg [.int .i64 a, .int .i64 b, .int .i64 c, .int .i64 d, .lst (.int .i64) l], .agg [.int .i64 a1, .int .i64 b1, .int .i64 c1, .int .i64 d1, .lst (.int .i64) m]] [] = some ⟨.one (.bool (samePl a b c d l a1 b1 c1 d1 m)), [], []⟩ := by
    refine (e_pl_Same ..).trans ?_
    simp only [ite2_bool, k_pl_Same_0, p_pl_Same_0, samePl]
    rw [show (a == a1 && (b == b1 && (c == c1 && (d == d1 && true)))) = isR a b c d (a1, b1, c1, d1) from rfl]
    cases hR : isR a b c d (a1, b1, c1, d1)
    · simp
    by_cases hl : l.length = m.length
    · have hq : (List.range l.length).all (fun j => gI l j == gI m j) = decide (l = m) := all_eq l m (0 : Int) hl
      rw [hl] at hok
      rw [hq]
      simp [hl, hok]
      (repeat' split) <;> simp_all
    · have g1 : l ≠ m := fun e => hl (by rw [e])
      have g2 : ¬ ((l.length : Int) = m.length) := by omega
      simp [g1, g2]
theorem s_pl_Same : SoundFun Try.prog 20 G_pl_Same := by
  refine fun_ok (tab := t_pl_Same) (ann := annOf []) (lt := l_pl_Same) tab_nil (by kernel_rfl) (fn := Try.f20) (by kernel_rfl) (by decide) (c := bodyOf Try.f20) (by kernel_rfl) (by
    intro m b hb
    have hb' : b ∈ loopsOf (bodyOf Try.f20) := hb
    rw [o_pl_Same] at hb'
    simp only [List.mem_cons, List.not_mem_nil, or_false] at hb'
    rcases hb' with rfl
    · exact loop_ok (key := 4) (by kernel_rfl) rfl r_pl_Same_0 z_pl_Same_0 m
    ) ?_ (keep_nil (by kernel_rfl))
  intro args lent o y0'
  unfold G_pl_Same at y0'
  obtain ⟨q', args, rfl, y1'⟩ := pA_s y0'
  obtain ⟨c', q', rfl, y2'⟩ := tC_s y1'
  obtain ⟨a, rfl, y3'⟩ := kI_s y2'
  obtain ⟨c', q', rfl, y4'⟩ := tC_s y3'
  obtain ⟨b, rfl, y5'⟩ := kI_s y4'
  obtain ⟨c', q', rfl, y6'⟩ := tC_s y5'
  obtain ⟨c, rfl, y7'⟩ := kI_s y6'
  obtain ⟨c', q', rfl, y8'⟩ := tC_s y7'
  obtain ⟨d, rfl, y9'⟩ := kI_s y8'
  obtain ⟨c', q', rfl, y10'⟩ := tC_s y9'
  obtain ⟨l, rfl, y11'⟩ := kLI_s y10'
  obtain ⟨rfl, y12'⟩ := tE_s y11'
  obtain ⟨q', args, rfl, y13'⟩ := pA_s y12'
  obtain ⟨c', q', rfl, y14'⟩ := tC_s y13'
  obtain ⟨a1, rfl, y15'⟩ := kI_s y14'
  obtain ⟨c', q', rfl, y16'⟩ := tC_s y15'
  obtain ⟨b1, rfl, y17'⟩ := kI_s y16'
  obtain ⟨c', q', rfl, y18'⟩ := tC_s y17'
  obtain ⟨c1, rfl, y19'⟩ := kI_s y18'
  obtain ⟨c', q', rfl, y20'⟩ := tC_s y19'
  obtain ⟨d1, rfl, y21'⟩ := kI_s y20'
  obtain ⟨c', q', rfl, y22'⟩ := tC_s y21'
  obtain ⟨m, rfl, y23'⟩ := kLI_s y22'
  obtain ⟨rfl, y24'⟩ := tE_s y23'
  obtain ⟨rfl, y25'⟩ := pE_s y24'
  obtain ⟨rfl, y26'⟩ := nE_s y25'
  have yy' := y26'
  unfold H_pl_Same at yy'
  obtain ⟨hok, rfl⟩ := Prod.mk.inj (Option.some.inj yy')
  exact ⟨20, q_pl_Same _ _ _ _ _ _ _ _ _ _ hok⟩
theorem q_law_few (a b c d : Int) (l : List Int) (hok : true = true) : funR Try.prog t_law_few (annOf []) l_law_few 20 Try.f13 [.agg [.int .i64 a, .int .i64 b, .int .i64 c, .int .i64 d, .lst (.int .i64) l]] [] = some ⟨.one (.bool (decide (l.length ≤ 4000))), [], []⟩ := by
    refine (e_law_few ..).trans ?_
    simp
    omega
theorem s_law_few : SoundFun Try.prog 13 G_law_few := by
  refine fun_ok (tab := t_law_few) (ann := annOf []) (lt := l_law_few) tab_nil (by kernel_rfl) (fn := Try.f13) (by kernel_rfl) (by decide) (c := bodyOf Try.f13) (by kernel_rfl) (fun m b hb => absurd hb (by show b ∉ loopsOf (bodyOf Try.f13); rw [show loopsOf (bodyOf Try.f13) = [] from by kernel_rfl]; exact List.not_mem_nil)) ?_ (keep_nil (by kernel_rfl))
  intro args lent o y0'
  unfold G_law_few at y0'
  obtain ⟨q', args, rfl, y1'⟩ := pA_s y0'
  obtain ⟨c', q', rfl, y2'⟩ := tC_s y1'
  obtain ⟨a, rfl, y3'⟩ := kI_s y2'
  obtain ⟨c', q', rfl, y4'⟩ := tC_s y3'
  obtain ⟨b, rfl, y5'⟩ := kI_s y4'
  obtain ⟨c', q', rfl, y6'⟩ := tC_s y5'
  obtain ⟨c, rfl, y7'⟩ := kI_s y6'
  obtain ⟨c', q', rfl, y8'⟩ := tC_s y7'
  obtain ⟨d, rfl, y9'⟩ := kI_s y8'
  obtain ⟨c', q', rfl, y10'⟩ := tC_s y9'
  obtain ⟨l, rfl, y11'⟩ := kLI_s y10'
  obtain ⟨rfl, y12'⟩ := tE_s y11'
  obtain ⟨rfl, y13'⟩ := pE_s y12'
  obtain ⟨rfl, y14'⟩ := nE_s y13'
  have yy' := y14'
  unfold H_law_few at yy'
  obtain ⟨hok, rfl⟩ := Prod.mk.inj (Option.some.inj yy')
  exact ⟨20, q_law_few _ _ _ _ _ hok⟩
theorem r_law_moved_0 : RoundOk Try.prog t_law_moved (annOf []) l_law_moved Out 20 0 33 [1, 2, 4, 5, 16, 17] (kxOf [4, 5] [4]) (loopOf Try.f19 0) T_law_moved_0 := by
  intro vs bl Kc r h
  unfold T_law_moved_0 at h
  obtain ⟨t, y0', h'⟩ := getD_run h
  obtain ⟨c', vs, rfl, y1'⟩ := pO_s y0'
  obtain ⟨kk, rfl, y2'⟩ := kI_s y1'
  obtain ⟨c', vs, rfl, y3'⟩ := pO_s y2'
  obtain ⟨rfl, y4'⟩ := kP_s y3'
  obtain ⟨c', vs, rfl, y5'⟩ := pO_s y4'
  obtain ⟨rfl, y6'⟩ := kP_s y5'
  obtain ⟨c', vs, rfl, y7'⟩ := pO_s y6'
  obtain ⟨rfl, y8'⟩ := kP_s y7'
  obtain ⟨c', vs, rfl, y9'⟩ := pO_s y8'
  obtain ⟨n, rfl, y10'⟩ := kI_s y9'
  obtain ⟨c', vs, rfl, y11'⟩ := pO_s y10'
  obtain ⟨i, rfl, y12'⟩ := kI_s y11'
  obtain ⟨rfl, y13'⟩ := pE_s y12'
  obtain ⟨q', bl, rfl, y14'⟩ := bB_s y13'
  obtain ⟨c', q', rfl, y15'⟩ := tC_s y14'
  obtain ⟨a, rfl, y16'⟩ := kI_s y15'
  obtain ⟨c', q', rfl, y17'⟩ := tC_s y16'
  obtain ⟨b, rfl, y18'⟩ := kI_s y17'
  obtain ⟨c', q', rfl, y19'⟩ := tC_s y18'
  obtain ⟨c, rfl, y20'⟩ := kI_s y19'
  obtain ⟨c', q', rfl, y21'⟩ := tC_s y20'
  obtain ⟨d, rfl, y22'⟩ := kI_s y21'
  obtain ⟨c', q', rfl, y23'⟩ := tC_s y22'
  obtain ⟨l, rfl, y24'⟩ := kLI_s y23'
  obtain ⟨rfl, y25'⟩ := tE_s y24'
  obtain ⟨q', bl, rfl, y26'⟩ := bB_s y25'
  obtain ⟨za, zb, zc, zd, rfl, y27'⟩ := rd1P_s y26'
  obtain ⟨q', bl, rfl, y28'⟩ := bB_s y27'
  obtain ⟨oa, ob, oc, od, rfl, y29'⟩ := rd1P_s y28'
  obtain ⟨y0, bl, rfl, y30'⟩ := bAI_s y29'
  obtain ⟨v, bl, rfl, y31'⟩ := bAI_s y30'
  obtain ⟨rfl, y32'⟩ := bE_s y31'
  have yy' := y32'
  cases yy'
  exact (b_law_moved_0 ..).trans ((congrArg (LT.runc · Kc) (tu_law_moved_0 ..)).trans h')
theorem o_law_moved : loopsOf (bodyOf Try.f19) = [loopOf Try.f19 0] := by kernel_rfl
theorem zz_law_moved_0 (kk a b c d za zb zc zd oa ob oc od n i : Int) (l y0 v : List Int) (hk : k_law_moved_0 kk a b c d za zb zc zd oa ob oc od n i l y0 v = true) : ∃ k, ∀ (K : Ex → List V → List (Option Blk) → Option Out) r, (c_law_moved_0 kk a b c d za zb zc zd oa ob oc od n i l y0 v).run K = some r → (iter T_law_moved_0 k [.one (.int .i64 kk), .one (.ptr 0 0), .one (.ptr 1 0), .one (.ptr 2 0), .one (.int .i64 n), .one (.int .i64 i)] [some (.box [.int .i64 a, .int .i64 b, .int .i64 c, .int .i64 d, .lst (.int .i64) l]), some (.box [.int .i64 za, .int .i64 zb, .int .i64 zc, .int .i64 zd, .row 3]), some (.box [.int .i64 oa, .int .i64 ob, .int .i64 oc, .int .i64 od, .row 4]), some (.arr 3 (.int .i64) y0), some (.arr 3 (.int .i64) v)]).run K = some r := by
  simp only [k_law_moved_0, Bool.and_eq_true, decide_eq_true_eq] at hk
  obtain ⟨⟨⟨rfl, rfl⟩, rfl⟩, hs⟩ := hk
  have hs' := hs
  simp only [small, decide_eq_true_eq] at hs'
  refine Exists.elim (z_fold (T := T_law_moved_0) (st := fun j => ([.one (.int .i64 kk), .one (.ptr 0 0), .one (.ptr 1 0), .one (.ptr 2 0), .one (.int .i64 (l.length : Int)), .one (.int .i64 (j : Int))], [some (.box [.int .i64 a, .int .i64 b, .int .i64 c, .int .i64 d, .lst (.int .i64) l]), some (.box [.int .i64 za, .int .i64 zb, .int .i64 zc, .int .i64 zd, .row 3]), some (.box [.int .i64 oa, .int .i64 ob, .int .i64 oc, .int .i64 od, .row 4]), some (.arr 3 (.int .i64) y0), some (.arr 3 (.int .i64) (jz (mvd kk (l.take j)) (l.length - j)))])) l.length (.leaf (.exit 0) [.one (.ptr 0 0), .one (.ptr 1 0)] [some (.box [.int .i64 za, .int .i64 zb, .int .i64 zc, .int .i64 zd, .row 2]), some (.box [.int .i64 oa, .int .i64 ob, .int .i64 oc, .int .i64 od, .row 3]), some (.arr 3 (.int .i64) y0), some (.arr 3 (.int .i64) (jz (mvd kk (l.take l.length)) (l.length - l.length)))]) (fun j hj F K => ?_) (fun F K => ?_)) (fun k hk => ⟨k, fun K r h => ?_⟩)
  · have hl : (jz (mvd kk (l.take j)) (l.length - j)).length = l.length := by rw [jz_len, mvd_len, List.length_take]; omega
    simp only [tu_law_moved_0, U_law_moved_0, LT.next, LT.run, ite2_bool, decide_eq_true_eq, Int.toNat_natCast, hl]
    rw [if_pos (by omega), if_pos (by omega), if_pos (by omega), if_pos (by omega), wrap_next hj hs, ← mvd_set kk l hj]
    rfl
  · simp only [tu_law_moved_0, U_law_moved_0, LT.next, LT.run, ite2_bool, decide_eq_true_eq]
    rw [if_neg (by omega)]
  · have e1 : jz (mvd kk (l.take l.length)) (l.length - l.length) = mvd kk l := by simp [jz]
    have e2 : jz (mvd kk (l.take 0)) (l.length - 0) = List.replicate l.length 0 := by simp [jz, mvd]
    have hk' := hk K r
    rw [e1, e2] at hk'
    exact hk' h
theorem z_law_moved_0 : ∀ vs bl t, S_law_moved_0 vs bl = some (true, t) → ∃ n, ∀ (K : Ex → List V → List (Option Blk) → Option Out) r, t.run K = some r → (iter T_law_moved_0 n vs bl).run K = some r := by
  intro vs bl t y0'
  unfold S_law_moved_0 at y0'
  obtain ⟨c', vs, rfl, y1'⟩ := pO_s y0'
  obtain ⟨kk, rfl, y2'⟩ := kI_s y1'
  obtain ⟨c', vs, rfl, y3'⟩ := pO_s y2'
  obtain ⟨rfl, y4'⟩ := kP_s y3'
  obtain ⟨c', vs, rfl, y5'⟩ := pO_s y4'
  obtain ⟨rfl, y6'⟩ := kP_s y5'
  obtain ⟨c', vs, rfl, y7'⟩ := pO_s y6'
  obtain ⟨rfl, y8'⟩ := kP_s y7'
  obtain ⟨c', vs, rfl, y9'⟩ := pO_s y8'
  obtain ⟨n, rfl, y10'⟩ := kI_s y9'
  obtain ⟨c', vs, rfl, y11'⟩ := pO_s y10'
  obtain ⟨i, rfl, y12'⟩ := kI_s y11'
  obtain ⟨rfl, y13'⟩ := pE_s y12'
  obtain ⟨q', bl, rfl, y14'⟩ := bB_s y13'
  obtain ⟨c', q', rfl, y15'⟩ := tC_s y14'
  obtain ⟨a, rfl, y16'⟩ := kI_s y15'
  obtain ⟨c', q', rfl, y17'⟩ := tC_s y16'
  obtain ⟨b, rfl, y18'⟩ := kI_s y17'
  obtain ⟨c', q', rfl, y19'⟩ := tC_s y18'
  obtain ⟨c, rfl, y20'⟩ := kI_s y19'
  obtain ⟨c', q', rfl, y21'⟩ := tC_s y20'
  obtain ⟨d, rfl, y22'⟩ := kI_s y21'
  obtain ⟨c', q', rfl, y23'⟩ := tC_s y22'
  obtain ⟨l, rfl, y24'⟩ := kLI_s y23'
  obtain ⟨rfl, y25'⟩ := tE_s y24'
  obtain ⟨q', bl, rfl, y26'⟩ := bB_s y25'
  obtain ⟨za, zb, zc, zd, rfl, y27'⟩ := rd1P_s y26'
  obtain ⟨q', bl, rfl, y28'⟩ := bB_s y27'
  obtain ⟨oa, ob, oc, od, rfl, y29'⟩ := rd1P_s y28'
  obtain ⟨y0, bl, rfl, y30'⟩ := bAI_s y29'
  obtain ⟨v, bl, rfl, y31'⟩ := bAI_s y30'
  obtain ⟨rfl, y32'⟩ := bE_s y31'
  have yy' := y32'
  obtain ⟨hk, rfl⟩ := Prod.mk.inj (Option.some.inj yy')
  exact zz_law_moved_0 _ _ _ _ _ _ _ _ _ _ _ _ _ _ _ _ _ _ hk
theorem q_law_moved (a b c d k : Int) (l : List Int) (hok : (small l.length && decide ((l.length : Int) * 9 ≤ 140737488355328)) = true) : funR Try.prog t_law_moved (annOf []) l_law_moved 20 Try.f19 [.agg [.int .i64 a, .int .i64 b, .int .i64 c, .int .i64 d, .lst (.int .i64) l], .one (.int .i64 k)] [] = some ⟨.agg [.int .i64 (a), .int .i64 (b), .int .i64 (c), .int .i64 (d), .row 0], [], [.arr 3 (.int .i64) (mvd k l)]⟩ := by
    refine (e_law_moved ..).trans ?_
    simp only [Bool.and_eq_true, decide_eq_true_eq] at hok
    simp only [ite2_bool, decide_eq_true_eq]
    rw [if_pos (by omega), if_pos (by simp only [k_law_moved_0, hok.1, Int.toNat_natCast, decide_true, Bool.and_self])]
theorem s_law_moved : SoundFun Try.prog 19 G_law_moved := by
  refine fun_ok (tab := t_law_moved) (ann := annOf []) (lt := l_law_moved) tab_nil (by kernel_rfl) (fn := Try.f19) (by kernel_rfl) (by decide) (c := bodyOf Try.f19) (by kernel_rfl) (by
    intro m b hb
    have hb' : b ∈ loopsOf (bodyOf Try.f19) := hb
    rw [o_law_moved] at hb'
    simp only [List.mem_cons, List.not_mem_nil, or_false] at hb'
    rcases hb' with rfl
    · exact loop_ok (key := 3) (by kernel_rfl) rfl r_law_moved_0 z_law_moved_0 m
    ) ?_ (keep_nil (by kernel_rfl))
  intro args lent o y0'
  unfold G_law_moved at y0'
  obtain ⟨q', args, rfl, y1'⟩ := pA_s y0'
  obtain ⟨c', q', rfl, y2'⟩ := tC_s y1'
  obtain ⟨a, rfl, y3'⟩ := kI_s y2'
  obtain ⟨c', q', rfl, y4'⟩ := tC_s y3'
  obtain ⟨b, rfl, y5'⟩ := kI_s y4'
  obtain ⟨c', q', rfl, y6'⟩ := tC_s y5'
  obtain ⟨c, rfl, y7'⟩ := kI_s y6'
  obtain ⟨c', q', rfl, y8'⟩ := tC_s y7'
  obtain ⟨d, rfl, y9'⟩ := kI_s y8'
  obtain ⟨c', q', rfl, y10'⟩ := tC_s y9'
  obtain ⟨l, rfl, y11'⟩ := kLI_s y10'
  obtain ⟨rfl, y12'⟩ := tE_s y11'
  obtain ⟨c', args, rfl, y13'⟩ := pO_s y12'
  obtain ⟨k, rfl, y14'⟩ := kI_s y13'
  obtain ⟨rfl, y15'⟩ := pE_s y14'
  obtain ⟨rfl, y16'⟩ := nE_s y15'
  have yy' := y16'
  unfold H_law_moved at yy'
  obtain ⟨hok, rfl⟩ := Prod.mk.inj (Option.some.inj yy')
  exact ⟨20, q_law_moved _ _ _ _ _ _ hok⟩
theorem r_law_within_0 : RoundOk Try.prog t_law_within (annOf []) l_law_within Out 20 0 24 [1, 8, 9, 10] (kxOf [] [4]) (loopOf Try.f27 0) T_law_within_0 := by
  intro vs bl Kc r h
  unfold T_law_within_0 at h
  obtain ⟨t, y0', h'⟩ := getD_run h
  obtain ⟨c', vs, rfl, y1'⟩ := pO_s y0'
  obtain ⟨kk, rfl, y2'⟩ := kI_s y1'
  obtain ⟨c', vs, rfl, y3'⟩ := pO_s y2'
  obtain ⟨l, rfl, y4'⟩ := kLI_s y3'
  obtain ⟨c', vs, rfl, y5'⟩ := pO_s y4'
  obtain ⟨n, rfl, y6'⟩ := kI_s y5'
  obtain ⟨c', vs, rfl, y7'⟩ := pO_s y6'
  obtain ⟨i, rfl, y8'⟩ := kI_s y7'
  obtain ⟨rfl, y9'⟩ := pE_s y8'
  obtain ⟨rfl, y10'⟩ := bE_s y9'
  have yy' := y10'
  cases yy'
  exact (b_law_within_0 ..).trans ((congrArg (LT.runc · Kc) (tu_law_within_0 ..)).trans h')
theorem o_law_within : loopsOf (bodyOf Try.f27) = [loopOf Try.f27 0] := by kernel_rfl
theorem zz_law_within_0 (kk : Int) (l : List Int) (hsm : small (l.length) = true) (hc : (decide (0 ≤ kk) && decide (kk ≤ 4503599627370496)) = true) : ∃ k, ∀ (K : Ex → List V → List (Option Blk) → Option Out) r, (c_law_within_0 kk l).run K = some r → (iter T_law_within_0 k [.one (.int .i64 kk), .one (.lst (.int .i64) l), .one (.int .i64 (l.length : Int)), .one (.int .i64 0)] []).run K = some r := by
  refine z_list (st := fun i => ([.one (.int .i64 kk), .one (.lst (.int .i64) l), .one (.int .i64 (l.length : Int)), .one (.int .i64 ((i : Nat) : Int))], [])) l 0 (inr (-kk) kk) _ _ (fun i hi F K => ?_) (fun F K => ?_)
  · have hi' : (i : Int) < (l.length : Int) := by omega
    have hc' := hc
    simp only [Bool.and_eq_true, decide_eq_true_eq] at hc'
    simp only [tu_law_within_0, U_law_within_0, LT.next, LT.run, ite2_dec, ite2_bool, wrap_next hi hsm, Int.toNat_natCast, hi', Int.natCast_nonneg, and_self, if_true, gI, gP, gC, gR]
    rw [show (0 : Int) - kk = -kk by omega, wrap_in (n := -kk) (by omega) (by omega)]
    simp only [inr, Bool.and_eq_true, decide_eq_true_eq]
    by_cases h1 : l[i]?.getD 0 < -kk
    · have h3 : ¬ -kk ≤ l[i]?.getD 0 := by omega
      simp [h1, h3, gI]
    by_cases h2 : kk < l[i]?.getD 0
    · have h3 : ¬ l[i]?.getD 0 ≤ kk := by omega
      simp [h1, h2, h3, gI]
    have h3 : -kk ≤ l[i]?.getD 0 := by omega
    have h4 : l[i]?.getD 0 ≤ kk := by omega
    have h5 : ¬ kk < l[i]?.getD 0 := by omega
    simp [h1, h3, h4, h5, gI]
  · simp only [tu_law_within_0, U_law_within_0, LT.next, LT.run, ite2_dec, Int.lt_irrefl, if_false]
    try rfl
theorem z_law_within_0 : ∀ vs bl t, S_law_within_0 vs bl = some (true, t) → ∃ n, ∀ (K : Ex → List V → List (Option Blk) → Option Out) r, t.run K = some r → (iter T_law_within_0 n vs bl).run K = some r := by
  intro vs bl t y0'
  unfold S_law_within_0 at y0'
  obtain ⟨c', vs, rfl, y1'⟩ := pO_s y0'
  obtain ⟨kk, rfl, y2'⟩ := kI_s y1'
  obtain ⟨c', vs, rfl, y3'⟩ := pO_s y2'
  obtain ⟨l, rfl, y4'⟩ := kLI_s y3'
  obtain ⟨c', vs, rfl, y5'⟩ := pO_s y4'
  obtain ⟨n, rfl, y6'⟩ := kI_s y5'
  obtain ⟨c', vs, rfl, y7'⟩ := pO_s y6'
  obtain ⟨i, rfl, y8'⟩ := kI_s y7'
  obtain ⟨rfl, y9'⟩ := pE_s y8'
  obtain ⟨rfl, y10'⟩ := bE_s y9'
  have yy' := y10'
  obtain ⟨hk, rfl⟩ := Prod.mk.inj (Option.some.inj yy')
  unfold k_law_within_0 at hk
  simp only [Bool.and_eq_true, decide_eq_true_eq, and_assoc] at hk
  obtain ⟨rfl, rfl, hsm, hc⟩ := hk
  exact zz_law_within_0 _ _ hsm (by first | exact hc | simpa using hc | simpa only [Bool.and_eq_true, decide_eq_true_eq, and_assoc] using hc)
theorem q_law_within (a b c d k : Int) (l : List Int) (hok : (small l.length && (decide (0 ≤ k) && decide (k ≤ 4503599627370496))) = true) : funR Try.prog t_law_within (annOf []) l_law_within 20 Try.f27 [.agg [.int .i64 a, .int .i64 b, .int .i64 c, .int .i64 d, .lst (.int .i64) l], .one (.int .i64 k)] [] = some ⟨.one (.bool (fitB k l)), [], []⟩ := by
    refine (e_law_within ..).trans ?_
    simp only [ite2_bool, k_law_within_0, p_law_within_0, hok, Bool.and_true, decide_true, Bool.true_and]
    simp only [Bool.and_eq_true] at hok
    simp [hok, fitB]
    (repeat' split) <;> simp_all
theorem s_law_within : SoundFun Try.prog 27 G_law_within := by
  refine fun_ok (tab := t_law_within) (ann := annOf []) (lt := l_law_within) tab_nil (by kernel_rfl) (fn := Try.f27) (by kernel_rfl) (by decide) (c := bodyOf Try.f27) (by kernel_rfl) (by
    intro m b hb
    have hb' : b ∈ loopsOf (bodyOf Try.f27) := hb
    rw [o_law_within] at hb'
    simp only [List.mem_cons, List.not_mem_nil, or_false] at hb'
    rcases hb' with rfl
    · exact loop_ok (key := 2) (by kernel_rfl) rfl r_law_within_0 z_law_within_0 m
    ) ?_ (keep_nil (by kernel_rfl))
  intro args lent o y0'
  unfold G_law_within at y0'
  obtain ⟨q', args, rfl, y1'⟩ := pA_s y0'
  obtain ⟨c', q', rfl, y2'⟩ := tC_s y1'
  obtain ⟨a, rfl, y3'⟩ := kI_s y2'
  obtain ⟨c', q', rfl, y4'⟩ := tC_s y3'
  obtain ⟨b, rfl, y5'⟩ := kI_s y4'
  obtain ⟨c', q', rfl, y6'⟩ := tC_s y5'
  obtain ⟨c, rfl, y7'⟩ := kI_s y6'
  obtain ⟨c', q', rfl, y8'⟩ := tC_s y7'
  obtain ⟨d, rfl, y9'⟩ := kI_s y8'
  obtain ⟨c', q', rfl, y10'⟩ := tC_s y9'
  obtain ⟨l, rfl, y11'⟩ := kLI_s y10'
  obtain ⟨rfl, y12'⟩ := tE_s y11'
  obtain ⟨c', args, rfl, y13'⟩ := pO_s y12'
  obtain ⟨k, rfl, y14'⟩ := kI_s y13'
  obtain ⟨rfl, y15'⟩ := pE_s y14'
  obtain ⟨rfl, y16'⟩ := nE_s y15'
  have yy' := y16'
  unfold H_law_within at yy'
  obtain ⟨hok, rfl⟩ := Prod.mk.inj (Option.some.inj yy')
  exact ⟨20, q_law_within _ _ _ _ _ _ hok⟩
end Go.Rx.Ch05

set_option linter.unusedVariables false
set_option linter.unusedSimpArgs false
set_option maxRecDepth 100000
set_option maxHeartbeats 40000000
open Go Go.Rx Go.Proofs
namespace Go.Rx.Ch05
theorem q_rect_Has (a b c d x y : Int) (hok : true = true) : funR Try.prog t_rect_Has (annOf []) l_rect_Has 20 Try.f23 [.agg [.int .i64 a, .int .i64 b, .int .i64 c, .int .i64 d], .agg [.int .i64 x, .int .i64 y]] [] = some ⟨.one (.bool (has a b c d x y)), [], []⟩ := by
    refine (e_rect_Has ..).trans ?_
    simp only [ite2_dec, ite2_bool, mx_eq, mn_eq, has]
    (repeat' split) <;> (try simp_all) <;> (try omega) <;> (try (rw [Bool.eq_iff_iff]; simp; omega))
theorem s_rect_Has : SoundFun Try.prog 23 G_rect_Has := by
  refine fun_ok (tab := t_rect_Has) (ann := annOf []) (lt := l_rect_Has) tab_nil (by kernel_rfl) (fn := Try.f23) (by kernel_rfl) (by decide) (c := bodyOf Try.f23) (by kernel_rfl) (fun m b hb => absurd hb (by show b ∉ loopsOf (bodyOf Try.f23); rw [show loopsOf (bodyOf Try.f23) = [] from by kernel_rfl]; exact List.not_mem_nil)) ?_ (keep_nil (by kernel_rfl))
  intro args lent o y0'
  unfold G_rect_Has at y0'
  obtain ⟨q', args, rfl, y1'⟩ := pA_s y0'
  obtain ⟨c', q', rfl, y2'⟩ := tC_s y1'
  obtain ⟨a, rfl, y3'⟩ := kI_s y2'
  obtain ⟨c', q', rfl, y4'⟩ := tC_s y3'
  obtain ⟨b, rfl, y5'⟩ := kI_s y4'
  obtain ⟨c', q', rfl, y6'⟩ := tC_s y5'
  obtain ⟨c, rfl, y7'⟩ := kI_s y6'
  obtain ⟨c', q', rfl, y8'⟩ := tC_s y7'
  obtain ⟨d, rfl, y9'⟩ := kI_s y8'
  obtain ⟨rfl, y10'⟩ := tE_s y9'
  obtain ⟨q', args, rfl, y11'⟩ := pA_s y10'
  obtain ⟨c', q', rfl, y12'⟩ := tC_s y11'
  obtain ⟨x, rfl, y13'⟩ := kI_s y12'
  obtain ⟨c', q', rfl, y14'⟩ := tC_s y13'
  obtain ⟨y, rfl, y15'⟩ := kI_s y14'
  obtain ⟨rfl, y16'⟩ := tE_s y15'
  obtain ⟨rfl, y17'⟩ := pE_s y16'
  obtain ⟨rfl, y18'⟩ := nE_s y17'
  have yy' := y18'
  unfold H_rect_Has at yy'
  obtain ⟨hok, rfl⟩ := Prod.mk.inj (Option.some.inj yy')
  exact ⟨20, q_rect_Has _ _ _ _ _ _ hok⟩
theorem q_awake  (hok : true = true) : funR Try.prog t_awake (annOf []) l_awake 20 Try.f12 [] [] = some ⟨.one (.bool true), [], []⟩ := by
    refine (e_awake ..).trans ?_
    kernel_rfl
theorem s_awake : SoundFun Try.prog 12 G_awake := by
  refine fun_ok (tab := t_awake) (ann := annOf []) (lt := l_awake) (tab_cons s_dwt_Bands (tab_cons s_dwt_Split (tab_cons s_dwt_Merge tab_nil))) (by kernel_rfl) (fn := Try.f12) (by kernel_rfl) (by decide) (c := bodyOf Try.f12) (by kernel_rfl) (fun m b hb => absurd hb (by show b ∉ loopsOf (bodyOf Try.f12); rw [show loopsOf (bodyOf Try.f12) = [] from by kernel_rfl]; exact List.not_mem_nil)) ?_ (keep_nil (by kernel_rfl))
  intro args lent o y0'
  unfold G_awake at y0'
  obtain ⟨rfl, y1'⟩ := pE_s y0'
  obtain ⟨rfl, y2'⟩ := nE_s y1'
  have yy' := y2'
  unfold H_awake at yy'
  obtain ⟨hok, rfl⟩ := Prod.mk.inj (Option.some.inj yy')
  exact ⟨20, q_awake hok⟩
theorem and1 (x : Int) : IntKind.wrap .i64 ((Nat.bitwise and (BitVec.toNat (BitVec.ofInt (IntKind.bits .i64) x)) (BitVec.toNat (BitVec.ofInt (IntKind.bits .i64) 1)) : Nat) : Int) = x % 2 := by
  have h1 : BitVec.toNat (BitVec.ofInt (IntKind.bits .i64) 1) = 1 := by decide
  have h2 : ∀ m : Nat, Nat.bitwise and m 1 = m % 2 := fun m => Nat.and_one_is_mod m
  have h3 : BitVec.toNat (BitVec.ofInt (IntKind.bits .i64) x) = (x % 18446744073709551616).toNat := by
    rw [BitVec.toNat_ofInt]; rfl
  rw [h1, h2, h3, wrap_in (by omega) (by omega)]
  omega
theorem fdiv2x {x : Int} (h : inr (-9223372036854775808) 9223372036854775807 x = true) : fdiv x 2 = x / 2 := by
  have hb := inr_b h
  have e2 := Int.mul_tdiv_add_tmod x 2
  have hm := tmod_fix (x := x) (p := 2) (by omega)
  unfold fdiv w
  rw [if_neg (by omega)]
  split
  · rename_i h1
    rw [if_pos h1] at hm
    have h5 : Int.tdiv x 2 = x / 2 + 1 := by omega
    rw [h5, wrap_in (n := x / 2 + 1) (by omega) (by omega), wrap_in (by omega) (by omega)]; omega
  · rename_i h1
    rw [if_neg h1] at hm
    have h5 : Int.tdiv x 2 = x / 2 := by omega
    rw [h5, wrap_in (by omega) (by omega)]
theorem small_d {n : Nat} (h : n ≤ 16777216) : small n = true := by simp only [small, decide_eq_true_eq]; omega
theorem samePl_refl (a b c d : Int) (l : List Int) : samePl a b c d l a b c d l = true := by simp [samePl, isR]
theorem bw_le (a b c d o : Int) (h0 : 0 ≤ o) (h1 : o ≤ 3) : bw a b c d o ≤ 4096 ∧ bh a b c d o ≤ 4096 := by
  have hb := valid_b (valid_bnd (a := a) (b := b) (c := c) (d := d) h0 h1)
  unfold bw bh
  omega
theorem mat_le {n g : Nat} {f : Nat → List Int} (hn : n ≤ 4096) (hg : g ≤ 4096) : (matC n g f).length ≤ 16777216 := by
  rw [matC_len]
  exact Nat.mul_le_mul hn hg
theorem spD_le (a b c d k : Int) (l : List Int) : (spD0 a b c d k l).length ≤ 16777216 ∧ (spD1 a b c d k l).length ≤ 16777216 ∧ (spD2 a b c d k l).length ≤ 16777216 ∧ (spD3 a b c d k l).length ≤ 16777216 := by
  have h0 := bw_le a b c d 0 (by omega) (by omega)
  have h1 := bw_le a b c d 1 (by omega) (by omega)
  have h2 := bw_le a b c d 2 (by omega) (by omega)
  have h3 := bw_le a b c d 3 (by omega) (by omega)
  refine ⟨?_, ?_, ?_, ?_⟩
  · unfold spD0; split
    · exact mat_le h0.2 h0.1
    · simp
  · unfold spD1; split
    · exact mat_le h1.2 h1.1
    · simp
  · unfold spD2; split
    · exact mat_le h2.2 h0.1
    · simp
  · unfold spD3; split
    · exact mat_le h3.2 h1.1
    · simp
theorem o_DwtPartitions : loopsOf (bodyOf Try.f8) = [loopOf Try.f8 0] := by kernel_rfl
theorem q_DwtPartitions (a b c d x y : Int) (hok : ok_DwtPartitions a b c d x y = true) : funR Try.prog t_DwtPartitions (annOf []) l_DwtPartitions 20 Try.f8 [.agg [.int .i64 a, .int .i64 b, .int .i64 c, .int .i64 d], .agg [.int .i64 x, .int .i64 y]] [] = some ⟨.one (.bool true), [], []⟩ := by
    refine (e_DwtPartitions ..).trans ?_
    simp only [ok_DwtPartitions, i64B, Bool.and_eq_true] at hok
    simp only [ite2_bool, and1, fdiv2x hok.1, fdiv2x hok.2]
    cases hv : valid a b c d
    · have h0 : ∀ o, bnd a b c d o = (0, 0, 0, 0) := fun o => by simp [bnd, hv]
      simp [h0]
    have hb := bnd_v hv
    have ab := valid_b hv
    have v0 := valid_bnd (a := a) (b := b) (c := c) (d := d) (o := 0) (by omega) (by omega)
    have v1 := valid_bnd (a := a) (b := b) (c := c) (d := d) (o := 1) (by omega) (by omega)
    have v2 := valid_bnd (a := a) (b := b) (c := c) (d := d) (o := 2) (by omega) (by omega)
    have v3 := valid_bnd (a := a) (b := b) (c := c) (d := d) (o := 3) (by omega) (by omega)
    have r0 := area_v v0
    have r1 := area_v v1
    have r2 := area_v v2
    have r3 := area_v v3
    have rr := area_v hv
    have e : (((bnd a b c d 0).2.2.1 - (bnd a b c d 0).1) + ((bnd a b c d 1).2.2.1 - (bnd a b c d 1).1)) * (((bnd a b c d 0).2.2.2 - (bnd a b c d 0).2.1) + ((bnd a b c d 2).2.2.2 - (bnd a b c d 2).2.1)) = (c - a) * (d - b) := by
      rw [show ((bnd a b c d 0).2.2.1 - (bnd a b c d 0).1) + ((bnd a b c d 1).2.2.1 - (bnd a b c d 1).1) = c - a by simp only [hb.1, hb.2.1]; omega, show ((bnd a b c d 0).2.2.2 - (bnd a b c d 0).2.1) + ((bnd a b c d 2).2.2.2 - (bnd a b c d 2).2.1) = d - b by simp only [hb.1, hb.2.2.1]; omega]
    rw [Int.add_mul, Int.mul_add, Int.mul_add] at e
    have e1 : (bnd a b c d 1).2.2.2 - (bnd a b c d 1).2.1 = (bnd a b c d 0).2.2.2 - (bnd a b c d 0).2.1 := by simp only [hb.1, hb.2.1]
    have e2 : (bnd a b c d 2).2.2.1 - (bnd a b c d 2).1 = (bnd a b c d 0).2.2.1 - (bnd a b c d 0).1 := by simp only [hb.1, hb.2.2.1]
    have e3 : (bnd a b c d 3).2.2.2 - (bnd a b c d 3).2.1 = (bnd a b c d 2).2.2.2 - (bnd a b c d 2).2.1 := by simp only [hb.2.2.1, hb.2.2.2]
    have e4 : (bnd a b c d 3).2.2.1 - (bnd a b c d 3).1 = (bnd a b c d 1).2.2.1 - (bnd a b c d 1).1 := by simp only [hb.2.1, hb.2.2.2]
    rw [e1] at r1
    rw [e2] at r2
    rw [e3, e4] at r3
    have hs : IntKind.wrap .i64 (IntKind.wrap .i64 (IntKind.wrap .i64 (IntKind.wrap .i64 (0 + area (bnd a b c d 0).1 (bnd a b c d 0).2.1 (bnd a b c d 0).2.2.1 (bnd a b c d 0).2.2.2) + area (bnd a b c d 1).1 (bnd a b c d 1).2.1 (bnd a b c d 1).2.2.1 (bnd a b c d 1).2.2.2) + area (bnd a b c d 2).1 (bnd a b c d 2).2.1 (bnd a b c d 2).2.2.1 (bnd a b c d 2).2.2.2) + area (bnd a b c d 3).1 (bnd a b c d 3).2.1 (bnd a b c d 3).2.2.1 (bnd a b c d 3).2.2.2) = area a b c d := by
      rw [wrap_in (n := 0 + area (bnd a b c d 0).1 (bnd a b c d 0).2.1 (bnd a b c d 0).2.2.1 (bnd a b c d 0).2.2.2) (by omega) (by omega), wrap_in (n := 0 + area (bnd a b c d 0).1 (bnd a b c d 0).2.1 (bnd a b c d 0).2.2.1 (bnd a b c d 0).2.2.2 + area (bnd a b c d 1).1 (bnd a b c d 1).2.1 (bnd a b c d 1).2.2.1 (bnd a b c d 1).2.2.2) (by omega) (by omega), wrap_in (n := 0 + area (bnd a b c d 0).1 (bnd a b c d 0).2.1 (bnd a b c d 0).2.2.1 (bnd a b c d 0).2.2.2 + area (bnd a b c d 1).1 (bnd a b c d 1).2.1 (bnd a b c d 1).2.2.1 (bnd a b c d 1).2.2.2 + area (bnd a b c d 2).1 (bnd a b c d 2).2.1 (bnd a b c d 2).2.2.1 (bnd a b c d 2).2.2.2) (by omega) (by omega), wrap_in (n := 0 + area (bnd a b c d 0).1 (bnd a b c d 0).2.1 (bnd a b c d 0).2.2.1 (bnd a b c d 0).2.2.2 + area (bnd a b c d 1).1 (bnd a b c d 1).2.1 (bnd a b c d 1).2.2.1 (bnd a b c d 1).2.2.2 + area (bnd a b c d 2).1 (bnd a b c d 2).2.1 (bnd a b c d 2).2.2.1 (bnd a b c d 2).2.2.2 + area (bnd a b c d 3).1 (bnd a b c d 3).2.1 (bnd a b c d 3).2.2.1 (bnd a b c d 3).2.2.2) (by omega) (by omega)]
      omega
    rw [hs, v0, v1, v2, v3]
    simp only [Bool.not_true, Bool.false_eq_true, if_false, bne_self_eq_false, beq_iff_eq, hb.1, hb.2.1, hb.2.2.1, hb.2.2.2]
    have hh : ∀ (p q p' q' : Int), ((p ≤ x / 2 ∧ x / 2 < q) ↔ (a ≤ x ∧ x < c)) → ((p' ≤ y / 2 ∧ y / 2 < q') ↔ (b ≤ y ∧ y < d)) → has p p' q q' (x / 2) (y / 2) = has a b c d x y := by
      intro p q p' q' h1 h2
      rw [Bool.eq_iff_iff]
      simp only [has, Bool.and_eq_true, decide_eq_true_eq, and_assoc]
      constructor
      · intro h; have h3 := h1.1 ⟨h.1, h.2.1⟩; have h4 := h2.1 ⟨h.2.2.1, h.2.2.2⟩; exact ⟨h3.1, h3.2, h4.1, h4.2⟩
      · intro h; have h3 := h1.2 ⟨h.1, h.2.1⟩; have h4 := h2.2 ⟨h.2.2.1, h.2.2.2⟩; exact ⟨h3.1, h3.2, h4.1, h4.2⟩
    by_cases hx : x % 2 = 1
    · by_cases hy : y % 2 = 1
      · rw [if_pos hx, if_pos hy, hh _ _ _ _ (by omega) (by omega)]
        simp
      · rw [if_pos hx, if_neg hy, hh _ _ _ _ (by omega) (by omega)]
        simp
    · by_cases hy : y % 2 = 1
      · rw [if_neg hx, if_pos hy, hh _ _ _ _ (by omega) (by omega)]
        simp
      · rw [if_neg hx, if_neg hy, hh _ _ _ _ (by omega) (by omega)]
        simp
theorem s_DwtPartitions : SoundFun Try.prog 8 G_DwtPartitions := by
  refine fun_ok (tab := t_DwtPartitions) (ann := annOf []) (lt := l_DwtPartitions) (tab_cons s_dwt_Bands (tab_cons s_awake (tab_cons s_rect_Valid (tab_cons s_rect_Area (tab_cons s_rect_Has (tab_cons s_rect_FloorDiv tab_nil)))))) (by kernel_rfl) (fn := Try.f8) (by kernel_rfl) (by decide) (c := bodyOf Try.f8) (by kernel_rfl) (by
    intro m b hb
    have hb' : b ∈ loopsOf (bodyOf Try.f8) := hb
    rw [o_DwtPartitions] at hb'
    simp only [List.mem_cons, List.not_mem_nil, or_false] at hb'
    rcases hb' with rfl
    · exact loop_none (by kernel_rfl) m
    ) ?_ (keep_nil (by kernel_rfl))
  intro args lent o y0'
  unfold G_DwtPartitions at y0'
  obtain ⟨q', args, rfl, y1'⟩ := pA_s y0'
  obtain ⟨c', q', rfl, y2'⟩ := tC_s y1'
  obtain ⟨a, rfl, y3'⟩ := kI_s y2'
  obtain ⟨c', q', rfl, y4'⟩ := tC_s y3'
  obtain ⟨b, rfl, y5'⟩ := kI_s y4'
  obtain ⟨c', q', rfl, y6'⟩ := tC_s y5'
  obtain ⟨c, rfl, y7'⟩ := kI_s y6'
  obtain ⟨c', q', rfl, y8'⟩ := tC_s y7'
  obtain ⟨d, rfl, y9'⟩ := kI_s y8'
  obtain ⟨rfl, y10'⟩ := tE_s y9'
  obtain ⟨q', args, rfl, y11'⟩ := pA_s y10'
  obtain ⟨c', q', rfl, y12'⟩ := tC_s y11'
  obtain ⟨x, rfl, y13'⟩ := kI_s y12'
  obtain ⟨c', q', rfl, y14'⟩ := tC_s y13'
  obtain ⟨y, rfl, y15'⟩ := kI_s y14'
  obtain ⟨rfl, y16'⟩ := tE_s y15'
  obtain ⟨rfl, y17'⟩ := pE_s y16'
  obtain ⟨rfl, y18'⟩ := nE_s y17'
  have yy' := y18'
  unfold H_DwtPartitions at yy'
  obtain ⟨hok, rfl⟩ := Prod.mk.inj (Option.some.inj yy')
  exact ⟨20, q_DwtPartitions _ _ _ _ _ _ hok⟩
end Go.Rx.Ch05

set_option linter.unusedVariables false
set_option linter.unusedSimpArgs false
set_option maxRecDepth 100000
set_option maxHeartbeats 40000000
open Go Go.Rx Go.Proofs
namespace Go.Rx.Ch05
theorem hb_le {b k : Int} (h0 : 0 ≤ b ∧ b ≤ 281474976710656) (hk : 1 ≤ k ∧ k ≤ 3) : (0 ≤ hb b k ∧ 4 * hb b k ≤ 9 * b + 4) ∧ (0 ≤ lb b k ∧ 4 * lb b k ≤ 9 * b + 4) := by
  have h1 : 0 ≤ hb b k ∧ 4 * hb b k ≤ 9 * b + 2 := by
    unfold hb
    rw [if_pos ⟨h0.1, h0.2, hk.1, hk.2⟩]
    split <;> omega
  have h2 : 0 ≤ lb b k ∧ 4 * lb b k ≤ 9 * b + 4 := by
    unfold lb
    rw [if_pos ⟨h0.1, h0.2, hk.1, hk.2⟩]
    omega
  omega
theorem fw_fit {l : List Int} {s k B : Int} (hk : inr 1 3 k = true) (hs : inr 0 4096 s = true) (hn : l.length ≤ 4096) (h0 : 0 ≤ B ∧ B ≤ 281474976710656) (hf : fit B l) : fit (lb B k) (fw l s k).1 ∧ fit (hb B k) (fw l s k).2.1 := by
  rw [fw_ok (inr_b hk) (inr_b hs) hn (fit_mono hf h0.2)]
  exact fz_low (inr_b hk) hf h0
theorem iv_fw {l : List Int} {s k : Int} (hk : inr 1 3 k = true) (hs : inr 0 4096 s = true) (hn : l.length ≤ 4096) (hf : fit 281474976710656 l) : iv (fw l s k).1 (fw l s k).2.1 s k = (l, 0) := by
  have h := fz_low (s := s) (inr_b hk) hf (by omega)
  have hl := hb_le (b := 281474976710656) (k := k) (by omega) (inr_b hk)
  rw [fw_ok (inr_b hk) (inr_b hs) hn hf]
  have e := iv_ok (z := fz l s k) (inr_b hk) (inr_b hs) (by rw [fz_len]; exact hn) (fit_mono h.1 (by omega)) (fit_mono h.2 (by omega))
  rw [iz_fz] at e
  exact e
theorem col_inv {h : List Int} {g n m0 m2 : Nat} {s k : Int} (hk : inr 1 3 k = true) (hs : inr 0 4096 s = true) (hn : n ≤ 4096) (hf : fit 281474976710656 h) (e0 : (m0 : Int) = cev s n) (e2 : (m2 : Int) = n - cev s n) (hl : h.length = n * g) : matC n g (mgCol (matC m0 g (cLo h g n s k)) (matC m2 g (cHi h g n s k)) g m0 m2 s k) = h := by
  have hg := fun x => fw_good (l := colOf h g x n) hk hs (by rw [colOf_len]; exact hn) (fit_col (by omega) hf _ _ _)
  simp only [colOf_len] at hg
  have e : ∀ x, x < g → mgCol (matC m0 g (cLo h g n s k)) (matC m2 g (cHi h g n s k)) g m0 m2 s k x = colOf h g x n := by
    intro x hx
    unfold mgCol
    rw [colOf_mat hx (by have := (hg x).2.1; unfold cLo; omega), colOf_mat hx (by have := (hg x).2.2; unfold cHi; omega)]
    unfold cLo cHi
    rw [iv_fw hk hs (by rw [colOf_len]; exact hn) (fit_col (by omega) hf _ _ _)]
  rw [matC_congr e, mat_colOf hl]
theorem row_inv {l : List Int} {n w' g0 g1 : Nat} {s k : Int} (hk : inr 1 3 k = true) (hs : inr 0 4096 s = true) (hw : w' ≤ 4096) (hf : fit 281474976710656 l) (e0 : (g0 : Int) = cev s w') (e1 : (g1 : Int) = w' - cev s w') (hl : l.length = n * w') : catR (mgRow (catR (rLo l w' s k) n) (catR (rHi l w' s k) n) g0 g1 s k) n = l := by
  have hg := fun j (hj : j < n) => fw_good (l := rowAt l w' j) hk hs (by rw [rowAt_len hl hj]; exact hw) (fit_row hf _ _)
  have e : ∀ y, y < n → mgRow (catR (rLo l w' s k) n) (catR (rHi l w' s k) n) g0 g1 s k y = rowAt l w' y := by
    intro y hy
    unfold mgRow
    rw [rowAt_cat n (fun q hq => by have := (hg q hq).2.1; rw [rowAt_len hl hq] at this; unfold rLo; omega) hy, rowAt_cat n (fun q hq => by have := (hg q hq).2.2; rw [rowAt_len hl hq] at this; unfold rHi; omega) hy]
    unfold rLo rHi
    rw [iv_fw hk hs (by rw [rowAt_len hl hy]; exact hw) (fit_row hf _ _)]
  rw [catR_congr n e, cat_rowAt n (by omega), List.take_of_length_le (by omega)]
theorem spErr_s {a b c d k : Int} {l : List Int} (h : spErr a b c d k l = 0) : plV a b c d l = true ∧ inr 1 3 k = true ∧ fitB 35184372088832 l = true := by
  cases h1 : plV a b c d l
  · simp [spErr, h1] at h
  cases h2 : inr 1 3 k
  · simp [spErr, h1, h2] at h
  cases h3 : fitB 35184372088832 l
  · simp [spErr, h1, h2, h3] at h
  exact ⟨rfl, rfl, rfl⟩
theorem half_fit {a b c d k B : Int} {l : List Int} (hv : plV a b c d l = true) (hk : inr 1 3 k = true) (h0 : 0 ≤ B ∧ B ≤ 281474976710656) (hf : fit B l) : fit (lb B k) (sLo a b c d k l) ∧ fit (hb B k) (sHi a b c d k l) := by
  have pb := plV_b hv
  have hl := plV_len hv
  have ha : inr 0 4096 a = true := inr_t (by omega) (by omega)
  have hq := fun j (hj : j < (d - b).toNat) => fw_fit (l := rowAt l (c - a).toNat j) (s := a) hk ha (by rw [rowAt_len hl hj]; omega) h0 (fit_row hf _ _)
  exact ⟨fit_cat _ fun y hy => (hq y hy).1, fit_cat _ fun y hy => (hq y hy).2⟩
theorem col_fit {h : List Int} {g n m : Nat} {s k B : Int} (hk : inr 1 3 k = true) (hs : inr 0 4096 s = true) (hn : n ≤ 4096) (h0 : 0 ≤ B ∧ B ≤ 281474976710656) (hf : fit B h) : fit (lb B k) (matC m g (cLo h g n s k)) ∧ fit (hb B k) (matC m g (cHi h g n s k)) := by
  have hl := hb_le h0 (inr_b hk)
  have hq := fun x => fw_fit (l := colOf h g x n) (s := s) hk hs (by rw [colOf_len]; exact hn) h0 (fit_col h0.1 hf _ _ _)
  exact ⟨fit_mat hl.2.1 fun x _ => (hq x).1, fit_mat hl.1.1 fun x _ => (hq x).2⟩
theorem spD_fit {a b c d k B : Int} {l : List Int} (e : spErr a b c d k l = 0) (h0 : 0 ≤ B ∧ B ≤ 35184372088832) (hf : fit B l) : fit (lb (lb B k) k) (spD0 a b c d k l) ∧ fit (lb (hb B k) k) (spD1 a b c d k l) ∧ fit (hb (lb B k) k) (spD2 a b c d k l) ∧ fit (hb (hb B k) k) (spD3 a b c d k l) := by
  obtain ⟨hv, hk, _⟩ := spErr_s e
  have pb := plV_b hv
  have hs : inr 0 4096 b = true := inr_t (by omega) (by omega)
  have hl := hb_le (b := B) (k := k) (by omega) (inr_b hk)
  have hh := half_fit hv hk (by omega) hf
  have hn : (d - b).toNat ≤ 4096 := by omega
  have hc := @col_fit (sLo a b c d k l)
  have hd := @col_fit (sHi a b c d k l)
  unfold spD0 spD1 spD2 spD3
  rw [if_pos e, if_pos e, if_pos e, if_pos e]
  exact ⟨(hc hk hs hn (by omega) hh.1).1, (hd hk hs hn (by omega) hh.2).1, (hc hk hs hn (by omega) hh.1).2, (hd hk hs hn (by omega) hh.2).2⟩
theorem spD_len {a b c d k : Int} {l : List Int} (e : spErr a b c d k l = 0) : (spD0 a b c d k l).length = bh a b c d 0 * bw a b c d 0 ∧ (spD1 a b c d k l).length = bh a b c d 1 * bw a b c d 1 ∧ (spD2 a b c d k l).length = bh a b c d 2 * bw a b c d 0 ∧ (spD3 a b c d k l).length = bh a b c d 3 * bw a b c d 1 := by
  unfold spD0 spD1 spD2 spD3
  rw [if_pos e, if_pos e, if_pos e, if_pos e]
  exact ⟨matC_len .., matC_len .., matC_len .., matC_len ..⟩
theorem plV_n {p e q f : Int} {l : List Int} {x y : Int} (h : valid p e q f = true) (hx : q - p = x) (hy : f - e = y) (hl : l.length = y.toNat * x.toNat) (ha : x * y ≤ 1048576) : plV p e q f l = true := by
  have hb := valid_b h
  refine plV_i h ?_ (by rw [hx, hy]; exact ha)
  rw [hl, Int.natCast_mul, Int.toNat_of_nonneg (by omega), Int.toNat_of_nonneg (by omega), hx, hy, Int.mul_comm]
theorem isR_refl (r : Rc) : isR r.1 r.2.1 r.2.2.1 r.2.2.2 r = true := by simp [isR]
theorem mg_inv {a b c d k : Int} {l : List Int} (e : spErr a b c d k l = 0) : mgErr (bnd a b c d 0).1 (bnd a b c d 0).2.1 (bnd a b c d 0).2.2.1 (bnd a b c d 0).2.2.2 (bnd a b c d 1).1 (bnd a b c d 1).2.1 (bnd a b c d 1).2.2.1 (bnd a b c d 1).2.2.2 (bnd a b c d 2).1 (bnd a b c d 2).2.1 (bnd a b c d 2).2.2.1 (bnd a b c d 2).2.2.2 (bnd a b c d 3).1 (bnd a b c d 3).2.1 (bnd a b c d 3).2.2.1 (bnd a b c d 3).2.2.2 a b c d k (spD0 a b c d k l) (spD1 a b c d k l) (spD2 a b c d k l) (spD3 a b c d k l) = 0 ∧ mgL 0 a b c d k (spD0 a b c d k l) (spD1 a b c d k l) (spD2 a b c d k l) (spD3 a b c d k l) = l := by
  obtain ⟨hv, hk, hf⟩ := spErr_s e
  have hf := fitB_fit hf
  have pb := plV_b hv
  have av := area_v pb.1
  have hB := bnd_v pb.1
  have wb := bw_bh pb.1
  have sl := spD_len e
  rw [wb.1, wb.2.1, wb.2.2.1, wb.2.2.2.1, wb.2.2.2.2.1, wb.2.2.2.2.2] at sl
  have sf := spD_fit e (by omega) hf
  have hk' := inr_b hk
  have q0 := hb_le (b := 35184372088832) (k := k) (by omega) hk'
  have q1 := hb_le (b := hb 35184372088832 k) (k := k) (by omega) hk'
  have q2 := hb_le (b := lb 35184372088832 k) (k := k) (by omega) hk'
  have hs : inr 0 4096 b = true := inr_t (by omega) (by omega)
  have ha : inr 0 4096 a = true := inr_t (by omega) (by omega)
  have ce := cev_bd (s := a) (n := c - a) (by omega)
  have cf := cev_bd (s := b) (n := d - b) (by omega)
  have mm : ∀ x y : Int, 0 ≤ x → x ≤ c - a → 0 ≤ y → y ≤ d - b → x * y ≤ 1048576 := fun x y h1 h2 h3 h4 => by
    have h5 := Int.mul_le_mul h2 h4 h3 (by omega : 0 ≤ c - a)
    omega
  have p0 := plV_n (l := spD0 a b c d k l) (x := cev a (c - a)) (y := cev b (d - b)) (valid_bnd (a := a) (b := b) (c := c) (d := d) (o := 0) (by omega) (by omega)) (by simp only [hB.1, cev]; omega) (by simp only [hB.1, cev]; omega) sl.1 (mm _ _ (by omega) (by omega) (by omega) (by omega))
  have p1 := plV_n (l := spD1 a b c d k l) (x := (c - a) - cev a (c - a)) (y := cev b (d - b)) (valid_bnd (a := a) (b := b) (c := c) (d := d) (o := 1) (by omega) (by omega)) (by simp only [hB.2.1, cev]; omega) (by simp only [hB.2.1, cev]; omega) sl.2.1 (mm _ _ (by omega) (by omega) (by omega) (by omega))
  have p2 := plV_n (l := spD2 a b c d k l) (x := cev a (c - a)) (y := (d - b) - cev b (d - b)) (valid_bnd (a := a) (b := b) (c := c) (d := d) (o := 2) (by omega) (by omega)) (by simp only [hB.2.2.1, cev]; omega) (by simp only [hB.2.2.1, cev]; omega) sl.2.2.1 (mm _ _ (by omega) (by omega) (by omega) (by omega))
  have p3 := plV_n (l := spD3 a b c d k l) (x := (c - a) - cev a (c - a)) (y := (d - b) - cev b (d - b)) (valid_bnd (a := a) (b := b) (c := c) (d := d) (o := 3) (by omega) (by omega)) (by simp only [hB.2.2.2, cev]; omega) (by simp only [hB.2.2.2, cev]; omega) sl.2.2.2 (mm _ _ (by omega) (by omega) (by omega) (by omega))
  constructor
  · have hz : decide (area a b c d > 1048576) = false := by rw [decide_eq_false_iff_not]; omega
    have f0 : fitB 281474976710656 (spD0 a b c d k l) = true := fit_fitB (fit_mono sf.1 (by omega))
    have f1 : fitB 281474976710656 (spD1 a b c d k l) = true := fit_fitB (fit_mono sf.2.1 (by omega))
    have f2 : fitB 281474976710656 (spD2 a b c d k l) = true := fit_fitB (fit_mono sf.2.2.1 (by omega))
    have f3 : fitB 281474976710656 (spD3 a b c d k l) = true := fit_fitB (fit_mono sf.2.2.2 (by omega))
    simp only [mgErr, pb.1, hz, hk, p0, p1, p2, p3, isR_refl, f0, f1, f2, f3, Bool.not_true, Bool.and_self, Bool.or_self, Bool.false_eq_true, if_false]
  · have ho := half_ok hv hk hf
    have hn : (((d - b).toNat : Nat) : Int) = d - b := Int.toNat_of_nonneg (by omega)
    have hw : (((c - a).toNat : Nat) : Int) = c - a := Int.toNat_of_nonneg (by omega)
    have hlo : (sLo a b c d k l).length = (d - b).toNat * bw a b c d 0 := by
      rw [wb.1]
      apply Int.ofNat.inj
      show ((sLo a b c d k l).length : Int) = (((d - b).toNat * (cev a (c - a)).toNat : Nat) : Int)
      rw [ho.1, Int.natCast_mul, hn, Int.toNat_of_nonneg (by omega), Int.mul_comm]
    have hhi : (sHi a b c d k l).length = (d - b).toNat * bw a b c d 1 := by
      rw [wb.2.1]
      apply Int.ofNat.inj
      show ((sHi a b c d k l).length : Int) = (((d - b).toNat * ((c - a) - cev a (c - a)).toNat : Nat) : Int)
      rw [ho.2.1, Int.natCast_mul, hn, Int.toNat_of_nonneg (by omega), Int.mul_comm]
    have i0 : mgLo a b c d k (spD0 a b c d k l) (spD2 a b c d k l) = sLo a b c d k l := by
      unfold mgLo spD0 spD2
      rw [if_pos e, if_pos e]
      exact col_inv hk hs (by omega) ho.2.2.1 (by rw [wb.2.2.1, hn]; omega) (by rw [wb.2.2.2.2.1, hn]; omega) hlo
    have i1 : mgHi a b c d k (spD1 a b c d k l) (spD3 a b c d k l) = sHi a b c d k l := by
      unfold mgHi spD1 spD3
      rw [if_pos e, if_pos e]
      exact col_inv hk hs (by omega) ho.2.2.2 (by rw [wb.2.2.2.1, hn]; omega) (by rw [wb.2.2.2.2.2, hn]; omega) hhi
    unfold mgL
    rw [if_pos rfl, i0, i1]
    exact row_inv hk ha (by omega) (fit_mono hf (by omega)) (by rw [wb.1, hw]; omega) (by rw [wb.2.1, hw]; omega) (plV_len hv)
theorem q_DwtInverts (a b c d : Int) (l : List Int) (k : Int) (hok : ok_DwtInverts a b c d l k = true) : funR Try.prog t_DwtInverts (annOf []) l_DwtInverts 20 Try.f7 [.agg [.int .i64 a, .int .i64 b, .int .i64 c, .int .i64 d, .lst (.int .i64) l], .one (.int .i64 k)] [] = some ⟨.one (.bool true), [], []⟩ := by
    refine (e_DwtInverts ..).trans ?_
    simp only [ite2_bool]
    cases hf : decide (l.length ≤ 4000)
    · rfl
    have hl : l.length ≤ 4000 := by simpa using hf
    have sl := spD_le a b c d k l
    simp only [small_d (show l.length ≤ 16777216 by omega), small_d sl.1, small_d sl.2.1, small_d sl.2.2.1, small_d sl.2.2.2, Bool.and_self, Bool.not_true, Bool.false_eq_true, if_false, if_true]
    by_cases e : spErr a b c d k l = 0
    · have hr : ∀ o, spR a b c d k l o = bnd a b c d o := fun o => by simp [spR, e]
      have hm := mg_inv e
      simp only [hr, e, hm.1, hm.2, mgR, if_true, samePl_refl, bne_self_eq_false, beq_self_eq_true, Bool.false_eq_true, if_false]
    · have h0 : spD0 a b c d k l = [] := by simp [spD0, e]
      have h1 : spR a b c d k l 0 = (0, 0, 0, 0) := by simp [spR, e]
      have h2 : (spErr a b c d k l != 0) = true := by simpa using e
      simp only [h0, h1, h2, samePl_refl, if_true]
theorem s_DwtInverts : SoundFun Try.prog 7 G_DwtInverts := by
  refine fun_ok (tab := t_DwtInverts) (ann := annOf []) (lt := l_DwtInverts) (tab_cons s_awake (tab_cons s_law_few (tab_cons s_dwt_Split (tab_cons s_law_same (tab_cons s_dwt_Merge (tab_cons s_pl_Same tab_nil)))))) (by kernel_rfl) (fn := Try.f7) (by kernel_rfl) (by decide) (c := bodyOf Try.f7) (by kernel_rfl) (fun m b hb => absurd hb (by show b ∉ loopsOf (bodyOf Try.f7); rw [show loopsOf (bodyOf Try.f7) = [] from by kernel_rfl]; exact List.not_mem_nil)) ?_ (keep_nil (by kernel_rfl))
  intro args lent o y0'
  unfold G_DwtInverts at y0'
  obtain ⟨q', args, rfl, y1'⟩ := pA_s y0'
  obtain ⟨c', q', rfl, y2'⟩ := tC_s y1'
  obtain ⟨a, rfl, y3'⟩ := kI_s y2'
  obtain ⟨c', q', rfl, y4'⟩ := tC_s y3'
  obtain ⟨b, rfl, y5'⟩ := kI_s y4'
  obtain ⟨c', q', rfl, y6'⟩ := tC_s y5'
  obtain ⟨c, rfl, y7'⟩ := kI_s y6'
  obtain ⟨c', q', rfl, y8'⟩ := tC_s y7'
  obtain ⟨d, rfl, y9'⟩ := kI_s y8'
  obtain ⟨c', q', rfl, y10'⟩ := tC_s y9'
  obtain ⟨l, rfl, y11'⟩ := kLI_s y10'
  obtain ⟨rfl, y12'⟩ := tE_s y11'
  obtain ⟨c', args, rfl, y13'⟩ := pO_s y12'
  obtain ⟨k, rfl, y14'⟩ := kI_s y13'
  obtain ⟨rfl, y15'⟩ := pE_s y14'
  obtain ⟨rfl, y16'⟩ := nE_s y15'
  have yy' := y16'
  unfold H_DwtInverts at yy'
  obtain ⟨hok, rfl⟩ := Prod.mk.inj (Option.some.inj yy')
  exact ⟨20, q_DwtInverts _ _ _ _ _ _ hok⟩
end Go.Rx.Ch05

set_option linter.unusedVariables false
set_option linter.unusedSimpArgs false
set_option maxRecDepth 100000
set_option maxHeartbeats 40000000
open Go Go.Rx Go.Proofs
namespace Go.Rx.Ch05
theorem mxN_bd {B : Int} {l : List Int} (h0 : 0 ≤ B) (h : fit B l) : ∀ j, (0 ≤ mxN l j ∧ mxN l j ≤ B) ∧ ∀ i, i < j → -mxN l j ≤ gI l i ∧ gI l i ≤ mxN l j
  | 0 => ⟨⟨by unfold mxN; omega, by unfold mxN; omega⟩, fun i hi => by omega⟩
  | j + 1 => by
    have ih := mxN_bd h0 h j
    have hj := gI_fit h0 h j
    have e : mxN l (j + 1) = max (max (mxN l j) (gI l j)) (-gI l j) := rfl
    refine ⟨by omega, fun i hi => ?_⟩
    by_cases hij : i = j
    · subst hij; omega
    · have := ih.2 i (by omega)
      omega
theorem mxN_fit {B : Int} {l : List Int} (h0 : 0 ≤ B) (h : fit B l) : fit (mxN l l.length) l := fun x hx => by
  obtain ⟨i, hi, rfl⟩ := List.getElem_of_mem hx
  have := (mxN_bd h0 h l.length).2 i hi
  simpa [gI, List.getD_eq_getElem?_getD, hi] using this
theorem r_DwtBounds_0 : RoundOk Try.prog t_DwtBounds (annOf []) l_DwtBounds Out 20 0 77 [1, 5, 7, 26, 27, 28] (kxOf [1, 5, 7] [4]) (loopOf Try.f9 0) T_DwtBounds_0 := by
  intro vs bl Kc r h
  unfold T_DwtBounds_0 at h
  obtain ⟨t, y0', h'⟩ := getD_run h
  obtain ⟨c', vs, rfl, y1'⟩ := pO_s y0'
  obtain ⟨kk, rfl, y2'⟩ := kI_s y1'
  obtain ⟨c', vs, rfl, y3'⟩ := pO_s y2'
  obtain ⟨rfl, y4'⟩ := kP_s y3'
  obtain ⟨c', vs, rfl, y5'⟩ := pO_s y4'
  obtain ⟨m, rfl, y6'⟩ := kI_s y5'
  obtain ⟨c', vs, rfl, y7'⟩ := pO_s y6'
  obtain ⟨l, rfl, y8'⟩ := kLI_s y7'
  obtain ⟨c', vs, rfl, y9'⟩ := pO_s y8'
  obtain ⟨n, rfl, y10'⟩ := kI_s y9'
  obtain ⟨c', vs, rfl, y11'⟩ := pO_s y10'
  obtain ⟨i, rfl, y12'⟩ := kI_s y11'
  obtain ⟨rfl, y13'⟩ := pE_s y12'
  obtain ⟨q', bl, rfl, y14'⟩ := bB_s y13'
  obtain ⟨ua0, ub0, uc0, ud0, ua1, ub1, uc1, ud1, ua2, ub2, uc2, ud2, ua3, ub3, uc3, ud3, rfl, y15'⟩ := rd4P_s y14'
  obtain ⟨y0, bl, rfl, y16'⟩ := bAI_s y15'
  obtain ⟨y1, bl, rfl, y17'⟩ := bAI_s y16'
  obtain ⟨y2, bl, rfl, y18'⟩ := bAI_s y17'
  obtain ⟨y3, bl, rfl, y19'⟩ := bAI_s y18'
  obtain ⟨rfl, y20'⟩ := bE_s y19'
  have yy' := y20'
  cases yy'
  exact (b_DwtBounds_0 ..).trans ((congrArg (LT.runc · Kc) (tu_DwtBounds_0 ..)).trans h')
theorem o_DwtBounds : loopsOf (bodyOf Try.f9) = [loopOf Try.f9 0] := by kernel_rfl
theorem zz_DwtBounds_0 (kk ua0 ub0 uc0 ud0 ua1 ub1 uc1 ud1 ua2 ub2 uc2 ud2 ua3 ub3 uc3 ud3 m n i : Int) (l y0 y1 y2 y3 : List Int) (hk : k_DwtBounds_0 kk ua0 ub0 uc0 ud0 ua1 ub1 uc1 ud1 ua2 ub2 uc2 ud2 ua3 ub3 uc3 ud3 m n i l y0 y1 y2 y3 = true) : ∃ k, ∀ (K : Ex → List V → List (Option Blk) → Option Out) r, (c_DwtBounds_0 kk ua0 ub0 uc0 ud0 ua1 ub1 uc1 ud1 ua2 ub2 uc2 ud2 ua3 ub3 uc3 ud3 m n i l y0 y1 y2 y3).run K = some r → (iter T_DwtBounds_0 k [.one (.int .i64 kk), .one (.ptr 0 0), .one (.int .i64 m), .one (.lst (.int .i64) l), .one (.int .i64 n), .one (.int .i64 i)] [some (.box [.int .i64 ua0, .int .i64 ub0, .int .i64 uc0, .int .i64 ud0, .row 1, .int .i64 ua1, .int .i64 ub1, .int .i64 uc1, .int .i64 ud1, .row 2, .int .i64 ua2, .int .i64 ub2, .int .i64 uc2, .int .i64 ud2, .row 3, .int .i64 ua3, .int .i64 ub3, .int .i64 uc3, .int .i64 ud3, .row 4]), some (.arr 3 (.int .i64) y0), some (.arr 3 (.int .i64) y1), some (.arr 3 (.int .i64) y2), some (.arr 3 (.int .i64) y3)]).run K = some r := by
  simp only [k_DwtBounds_0, Bool.and_eq_true, decide_eq_true_eq] at hk
  obtain ⟨⟨⟨⟨rfl, rfl⟩, rfl⟩, hq⟩, hs⟩ := hk
  have hf := fitB_fit hq
  refine Exists.elim (z_fold (T := T_DwtBounds_0) (st := fun j => ([.one (.int .i64 kk), .one (.ptr 0 0), .one (.int .i64 (mxN l j)), .one (.lst (.int .i64) l), .one (.int .i64 (l.length : Int)), .one (.int .i64 (j : Int))], [some (.box [.int .i64 ua0, .int .i64 ub0, .int .i64 uc0, .int .i64 ud0, .row 1, .int .i64 ua1, .int .i64 ub1, .int .i64 uc1, .int .i64 ud1, .row 2, .int .i64 ua2, .int .i64 ub2, .int .i64 uc2, .int .i64 ud2, .row 3, .int .i64 ua3, .int .i64 ub3, .int .i64 uc3, .int .i64 ud3, .row 4]), some (.arr 3 (.int .i64) y0), some (.arr 3 (.int .i64) y1), some (.arr 3 (.int .i64) y2), some (.arr 3 (.int .i64) y3)])) l.length (.leaf (.exit 0) [.one (.int .i64 kk), .one (.ptr 0 0), .one (.int .i64 (mxN l l.length))] [some (.box [.int .i64 ua0, .int .i64 ub0, .int .i64 uc0, .int .i64 ud0, .row 1, .int .i64 ua1, .int .i64 ub1, .int .i64 uc1, .int .i64 ud1, .row 2, .int .i64 ua2, .int .i64 ub2, .int .i64 uc2, .int .i64 ud2, .row 3, .int .i64 ua3, .int .i64 ub3, .int .i64 uc3, .int .i64 ud3, .row 4]), some (.arr 3 (.int .i64) y0), some (.arr 3 (.int .i64) y1), some (.arr 3 (.int .i64) y2), some (.arr 3 (.int .i64) y3)]) (fun j hj F K => ?_) (fun F K => ?_)) (fun k hk => ⟨k, fun K r h => ?_⟩)
  · have hg := gI_fit (by omega) hf j
    simp only [tu_DwtBounds_0, U_DwtBounds_0, LT.next, LT.run, ite2_bool, decide_eq_true_eq, Int.toNat_natCast]
    rw [if_pos (by omega), if_pos (by omega), wrap_next hj hs, wrap_in (n := 0 - gI l j) (by omega) (by omega), Int.zero_sub, mx_eq, mx_eq]
    rfl
  · simp only [tu_DwtBounds_0, U_DwtBounds_0, LT.next, LT.run, ite2_bool, decide_eq_true_eq]
    rw [if_neg (by omega)]
  · exact hk K r h
theorem z_DwtBounds_0 : ∀ vs bl t, S_DwtBounds_0 vs bl = some (true, t) → ∃ n, ∀ (K : Ex → List V → List (Option Blk) → Option Out) r, t.run K = some r → (iter T_DwtBounds_0 n vs bl).run K = some r := by
  intro vs bl t y0'
  unfold S_DwtBounds_0 at y0'
  obtain ⟨c', vs, rfl, y1'⟩ := pO_s y0'
  obtain ⟨kk, rfl, y2'⟩ := kI_s y1'
  obtain ⟨c', vs, rfl, y3'⟩ := pO_s y2'
  obtain ⟨rfl, y4'⟩ := kP_s y3'
  obtain ⟨c', vs, rfl, y5'⟩ := pO_s y4'
  obtain ⟨m, rfl, y6'⟩ := kI_s y5'
  obtain ⟨c', vs, rfl, y7'⟩ := pO_s y6'
  obtain ⟨l, rfl, y8'⟩ := kLI_s y7'
  obtain ⟨c', vs, rfl, y9'⟩ := pO_s y8'
  obtain ⟨n, rfl, y10'⟩ := kI_s y9'
  obtain ⟨c', vs, rfl, y11'⟩ := pO_s y10'
  obtain ⟨i, rfl, y12'⟩ := kI_s y11'
  obtain ⟨rfl, y13'⟩ := pE_s y12'
  obtain ⟨q', bl, rfl, y14'⟩ := bB_s y13'
  obtain ⟨ua0, ub0, uc0, ud0, ua1, ub1, uc1, ud1, ua2, ub2, uc2, ud2, ua3, ub3, uc3, ud3, rfl, y15'⟩ := rd4P_s y14'
  obtain ⟨y0, bl, rfl, y16'⟩ := bAI_s y15'
  obtain ⟨y1, bl, rfl, y17'⟩ := bAI_s y16'
  obtain ⟨y2, bl, rfl, y18'⟩ := bAI_s y17'
  obtain ⟨y3, bl, rfl, y19'⟩ := bAI_s y18'
  obtain ⟨rfl, y20'⟩ := bE_s y19'
  have yy' := y20'
  obtain ⟨hk, rfl⟩ := Prod.mk.inj (Option.some.inj yy')
  exact zz_DwtBounds_0 _ _ _ _ _ _ _ _ _ _ _ _ _ _ _ _ _ _ _ _ _ _ _ _ _ hk
theorem q_DwtBounds (a b c d : Int) (l : List Int) (k : Int) (hok : ok_DwtBounds a b c d l k = true) : funR Try.prog t_DwtBounds (annOf []) l_DwtBounds 20 Try.f9 [.agg [.int .i64 a, .int .i64 b, .int .i64 c, .int .i64 d, .lst (.int .i64) l], .one (.int .i64 k)] [] = some ⟨.one (.bool true), [], []⟩ := by
    refine (e_DwtBounds ..).trans ?_
    simp only [ite2_bool]
    cases hf : decide (l.length ≤ 4000)
    · rfl
    have hl : l.length ≤ 4000 := by simpa using hf
    have sl := spD_le a b c d k l
    have sm := small_d (show l.length ≤ 16777216 by omega)
    simp only [sm, small_d sl.1, small_d sl.2.1, small_d sl.2.2.1, small_d sl.2.2.2, Bool.true_and, Bool.not_true, Bool.false_eq_true, if_false, if_true]
    by_cases e : spErr a b c d k l = 0
    rotate_left
    · have h2 : (spErr a b c d k l != 0) = true := by simpa using e
      simp only [h2, if_true]
    obtain ⟨hv, hk, hq⟩ := spErr_s e
    have hk0 : k_DwtBounds_0 k (spR a b c d k l 0).1 (spR a b c d k l 0).2.1 (spR a b c d k l 0).2.2.1 (spR a b c d k l 0).2.2.2 (spR a b c d k l 1).1 (spR a b c d k l 1).2.1 (spR a b c d k l 1).2.2.1 (spR a b c d k l 1).2.2.2 (spR a b c d k l 2).1 (spR a b c d k l 2).2.1 (spR a b c d k l 2).2.2.1 (spR a b c d k l 2).2.2.2 (spR a b c d k l 3).1 (spR a b c d k l 3).2.1 (spR a b c d k l 3).2.2.1 (spR a b c d k l 3).2.2.2 0 (l.length : Int) 0 l (spD0 a b c d k l) (spD1 a b c d k l) (spD2 a b c d k l) (spD3 a b c d k l) = true := by
      simp only [k_DwtBounds_0, hq, sm, decide_true, Bool.and_self]
    have hB := (mxN_bd (by omega) (fitB_fit hq) l.length).1
    have hF := mxN_fit (by omega) (fitB_fit hq)
    have hk' := inr_b hk
    have sf := spD_fit e hB hF
    generalize mxN l l.length = B at hB hF sf hk0 ⊢
    have q0 := hb_le (b := B) (k := k) (by omega) hk'
    have q1 := hb_le (b := hb B k) (k := k) (by omega) hk'
    have q2 := hb_le (b := lb B k) (k := k) (by omega) hk'
    have c0 : (decide (0 ≤ lb (lb B k) k) && decide (lb (lb B k) k ≤ 4503599627370496)) = true := by simp only [Bool.and_eq_true, decide_eq_true_eq]; omega
    have c1 : (decide (0 ≤ lb (hb B k) k) && decide (lb (hb B k) k ≤ 4503599627370496)) = true := by simp only [Bool.and_eq_true, decide_eq_true_eq]; omega
    have c2 : (decide (0 ≤ hb (lb B k) k) && decide (hb (lb B k) k ≤ 4503599627370496)) = true := by simp only [Bool.and_eq_true, decide_eq_true_eq]; omega
    have c3 : (decide (0 ≤ hb (hb B k) k) && decide (hb (hb B k) k ≤ 4503599627370496)) = true := by simp only [Bool.and_eq_true, decide_eq_true_eq]; omega
    have e0 : (spErr a b c d k l != 0) = false := by simp [e]
    simp only [e0, hk0, c0, c1, c2, c3, fit_fitB sf.1, fit_fitB sf.2.1, fit_fitB sf.2.2.1, fit_fitB sf.2.2.2, Bool.not_true, Bool.false_eq_true, if_false, if_true]
theorem s_DwtBounds : SoundFun Try.prog 9 G_DwtBounds := by
  refine fun_ok (tab := t_DwtBounds) (ann := annOf []) (lt := l_DwtBounds) (tab_cons s_awake (tab_cons s_law_few (tab_cons s_dwt_Split (tab_cons s_lift_Low (tab_cons s_lift_High (tab_cons s_law_within tab_nil)))))) (by kernel_rfl) (fn := Try.f9) (by kernel_rfl) (by decide) (c := bodyOf Try.f9) (by kernel_rfl) (by
    intro m b hb
    have hb' : b ∈ loopsOf (bodyOf Try.f9) := hb
    rw [o_DwtBounds] at hb'
    simp only [List.mem_cons, List.not_mem_nil, or_false] at hb'
    rcases hb' with rfl
    · exact loop_ok (key := 8) (by kernel_rfl) rfl r_DwtBounds_0 z_DwtBounds_0 m
    ) ?_ (keep_nil (by kernel_rfl))
  intro args lent o y0'
  unfold G_DwtBounds at y0'
  obtain ⟨q', args, rfl, y1'⟩ := pA_s y0'
  obtain ⟨c', q', rfl, y2'⟩ := tC_s y1'
  obtain ⟨a, rfl, y3'⟩ := kI_s y2'
  obtain ⟨c', q', rfl, y4'⟩ := tC_s y3'
  obtain ⟨b, rfl, y5'⟩ := kI_s y4'
  obtain ⟨c', q', rfl, y6'⟩ := tC_s y5'
  obtain ⟨c, rfl, y7'⟩ := kI_s y6'
  obtain ⟨c', q', rfl, y8'⟩ := tC_s y7'
  obtain ⟨d, rfl, y9'⟩ := kI_s y8'
  obtain ⟨c', q', rfl, y10'⟩ := tC_s y9'
  obtain ⟨l, rfl, y11'⟩ := kLI_s y10'
  obtain ⟨rfl, y12'⟩ := tE_s y11'
  obtain ⟨c', args, rfl, y13'⟩ := pO_s y12'
  obtain ⟨k, rfl, y14'⟩ := kI_s y13'
  obtain ⟨rfl, y15'⟩ := pE_s y14'
  obtain ⟨rfl, y16'⟩ := nE_s y15'
  have yy' := y16'
  unfold H_DwtBounds at yy'
  obtain ⟨hok, rfl⟩ := Prod.mk.inj (Option.some.inj yy')
  exact ⟨20, q_DwtBounds _ _ _ _ _ _ hok⟩
end Go.Rx.Ch05

set_option linter.unusedVariables false
set_option linter.unusedSimpArgs false
set_option maxRecDepth 100000
set_option maxHeartbeats 40000000
open Go Go.Rx Go.Proofs
namespace Go.Rx.Ch05
def plus (c : Int) (l : List Int) : List Int := l.map (· + c)
theorem plus_len (c : Int) (l : List Int) : (plus c l).length = l.length := by simp [plus]
theorem rd_plus (c : Int) (l : List Int) {q : Nat} (h : q < l.length) : rd (plus c l) q = rd l q + c := by
  rw [rd_nat _ _ (by rw [plus_len]; exact h), rd_nat _ _ h]
  simp [plus]
theorem gI_plus (c : Int) (l : List Int) {q : Nat} (h : q < l.length) : gI (plus c l) q = gI l q + c := by
  rw [gI_rd, gI_rd, rd_plus c l h]
theorem at_plus (c : Int) (l : List Int) (hn : 2 ≤ l.length) (i : Int) : at_ (plus c l) i = at_ l i + c := by
  unfold at_
  rw [plus_len]
  have h1 := mr_in (n := l.length) i (by omega)
  obtain ⟨q, hq⟩ := Int.eq_ofNat_of_zero_le h1.1
  rw [hq] at h1 ⊢
  exact rd_plus c l (by omega)
theorem prd_plus (k c : Int) (l : List Int) (hn : 2 ≤ l.length) (i : Int) : prd k (plus c l) i = prd k l i + c := by
  unfold prd
  rw [at_plus c l hn, at_plus c l hn, at_plus c l hn, at_plus c l hn]
  split
  · rfl
  · split <;> omega
theorem fwd_plus (k s c : Int) (l : List Int) (hn : 2 ≤ l.length) (q : Nat) (hq : q < l.length) : rd (fwd k s (plus c l)) q = rd (fwd k s l) q + (if (s + q) % 2 = 0 then c else 0) := by
  have hA : ∀ z : Nat, z < l.length → rd (stp 1 (-1) (prd k) s (plus c l)) z = rd (stp 1 (-1) (prd k) s l) z + (if (s + z) % 2 = 0 then c else 0) := by
    intro z hz
    rw [rd_stp _ _ _ _ _ _ (by rw [plus_len]; exact hz), rd_stp _ _ _ _ _ _ hz, prd_plus k c l hn, rd_plus c l hz]
    by_cases h : (s + z) % 2 = 0
    · rw [if_neg (by omega), if_neg (by omega), if_pos h]
    · rw [if_pos (by omega), if_pos (by omega), if_neg h]; omega
  unfold fwd
  have e1 := rd_stp 0 1 (upd k) s (stp 1 (-1) (prd k) s (plus c l)) q (by rw [stp_length, plus_len]; exact hq)
  have e2 := rd_stp 0 1 (upd k) s (stp 1 (-1) (prd k) s l) q (by rw [stp_length]; exact hq)
  rw [e1, e2, hA q hq]
  by_cases h : (s + q) % 2 = 0
  · rw [if_pos h, if_pos h, if_pos h, upd_far k 0 s (stp 1 (-1) (prd k) s (plus c l)) (stp 1 (-1) (prd k) s l) q (by rw [stp_length, stp_length, plus_len]) (by rw [stp_length, plus_len]; exact hn) h (fun z hz hne => by
      rw [stp_length, plus_len] at hz
      rw [hA z hz, if_neg hne, Int.add_zero])]
    omega
  · rw [if_neg h, if_neg h, if_neg h]
theorem evs_plus {c : Int} : ∀ (l m : List Int) (s : Int), m.length = l.length → (∀ q : Nat, q < l.length → rd m q = rd l q + (if (s + q) % 2 = 0 then c else 0)) → evs s m = plus c (evs s l) ∧ ods s m = ods s l
  | [], [], s, _, _ => ⟨rfl, rfl⟩
  | [], y :: ys, s, h, _ => by simp at h
  | x :: xs, [], s, h, _ => by simp at h
  | x :: xs, y :: ys, s, h, hq => by
    have ih := evs_plus xs ys (s + 1) (by simpa using h) (fun q hz => by
      have := hq (q + 1) (by simp only [List.length_cons]; omega)
      rw [rd_cons_nat, rd_cons_nat] at this
      rw [this, show s + 1 + (q : Int) = s + ((q + 1 : Nat) : Int) by omega])
    have h0 := hq 0 (by simp)
    have h0' : y = x + (if s % 2 = 0 then c else 0) := by simpa [rd] using h0
    unfold evs ods
    by_cases hs : s % 2 = 0
    · rw [if_pos hs] at h0'
      rw [if_pos hs, if_pos hs, if_pos hs, if_pos hs, ih.1, ih.2, h0']
      exact ⟨rfl, rfl⟩
    · rw [if_neg hs, Int.add_zero] at h0'
      rw [if_neg hs, if_neg hs, if_neg hs, if_neg hs, ih.1, ih.2, h0']
      exact ⟨rfl, rfl⟩
theorem fw_plus {l : List Int} {s k c : Int} (hk : inr 1 3 k = true) (hs : inr 0 4096 s = true) (hn : l.length ≤ 4096) (hf : fit 281474976710656 l) (hf' : fit 281474976710656 (plus c l)) : (l.length = 1 ∧ s % 2 = 1 → (fw (plus c l) s k).1 = (fw l s k).1 ∧ (fw (plus c l) s k).2.1 = plus c (fw l s k).2.1) ∧ (¬ (l.length = 1 ∧ s % 2 = 1) → (fw (plus c l) s k).1 = plus c (fw l s k).1 ∧ (fw (plus c l) s k).2.1 = (fw l s k).2.1) := by
  rw [fw_ok (inr_b hk) (inr_b hs) hn hf, fw_ok (inr_b hk) (inr_b hs) (by rw [plus_len]; exact hn) hf']
  simp only
  by_cases h2 : 2 ≤ l.length
  · refine ⟨fun h => by omega, fun _ => ?_⟩
    unfold fz
    rw [plus_len, if_pos (by omega), if_pos (by omega)]
    refine evs_plus (fwd k s l) (fwd k s (plus c l)) s (by rw [fwd_len, fwd_len, plus_len]) (fun q hq => ?_)
    rw [fwd_len] at hq
    exact fwd_plus k s c l h2 q hq
  · unfold fz
    rw [plus_len, if_neg (by omega), if_neg (by omega)]
    match l, h2 with
    | [], _ => exact ⟨fun h => by simp at h, fun _ => ⟨rfl, rfl⟩⟩
    | [x], _ =>
      have e : plus c [x] = [x + c] := rfl
      rw [e]
      by_cases h : s % 2 = 0
      · refine ⟨fun h' => by omega, fun _ => ?_⟩
        have h1 : ¬ (s + 1) % 2 = 0 := by omega
        simp [evs, ods, h, plus]
      · refine ⟨fun _ => ?_, fun h' => absurd ⟨rfl, by omega⟩ h'⟩
        simp [evs, ods, h, plus]
    | x :: y :: r, h2 => exact absurd (by simp : 2 ≤ (x :: y :: r).length) h2
theorem rowAt_plus (c : Int) (l : List Int) (g y : Nat) : rowAt (plus c l) g y = plus c (rowAt l g y) := by
  simp [rowAt, plus, List.map_drop, List.map_take]
theorem catR_plus (c : Int) (f : Nat → List Int) : ∀ n, catR (fun y => plus c (f y)) n = plus c (catR f n)
  | 0 => rfl
  | n + 1 => by
    simp only [catR]
    rw [catR_plus c f n]
    simp [plus]
theorem colOf_plus {c : Int} {l : List Int} {g x n : Nat} (hl : l.length = n * g) (hx : x < g) : colOf (plus c l) g x n = plus c (colOf l g x n) :=
  list_ext (by rw [colOf_len, plus_len, colOf_len]) fun i hi => by
    rw [colOf_len] at hi
    rw [colOf_gI hi, gI_plus c l (by rw [hl]; exact pos_lt hx hi), gI_plus c _ (by rw [colOf_len]; exact hi), colOf_gI hi]
theorem matC_plus {c : Int} {m g : Nat} {f : Nat → List Int} (hf : ∀ x, x < g → (f x).length = m) : matC m g (fun x => plus c (f x)) = plus c (matC m g f) :=
  mat_ext (matC_len ..) (by rw [plus_len, matC_len]) fun y hy x hx => by
    rw [matC_gI hx m hy, gI_plus c _ (by rw [hf x hx]; exact hy), gI_plus c _ (by rw [matC_len]; exact pos_lt hx hy), matC_gI hx m hy]
theorem col_plus {h : List Int} {g n m0 m2 : Nat} {s k c : Int} (hk : inr 1 3 k = true) (hs : inr 0 4096 s = true) (hn : n ≤ 4096) (hf : fit 281474976710656 h) (hf' : fit 281474976710656 (plus c h)) (e0 : (m0 : Int) = cev s n) (e2 : (m2 : Int) = n - cev s n) (hl : h.length = n * g) : (n = 1 ∧ s % 2 = 1 → matC m0 g (cLo (plus c h) g n s k) = matC m0 g (cLo h g n s k) ∧ matC m2 g (cHi (plus c h) g n s k) = plus c (matC m2 g (cHi h g n s k))) ∧ (¬ (n = 1 ∧ s % 2 = 1) → matC m0 g (cLo (plus c h) g n s k) = plus c (matC m0 g (cLo h g n s k)) ∧ matC m2 g (cHi (plus c h) g n s k) = matC m2 g (cHi h g n s k)) := by
  have hg := fun x => fw_good (l := colOf h g x n) hk hs (by rw [colOf_len]; exact hn) (fit_col (by omega) hf _ _ _)
  simp only [colOf_len] at hg
  have hp := fun x (hx : x < g) => fw_plus (l := colOf h g x n) (c := c) hk hs (by rw [colOf_len]; exact hn) (fit_col (by omega) hf _ _ _) (by rw [← colOf_plus hl hx]; exact fit_col (by omega) hf' _ _ _)
  simp only [colOf_len] at hp
  constructor
  · intro h1
    constructor
    · exact matC_congr fun x hx => by unfold cLo; rw [colOf_plus hl hx]; exact ((hp x hx).1 h1).1
    · rw [← matC_plus (fun x hx => by have := (hg x).2.2; unfold cHi; omega)]
      exact matC_congr fun x hx => by unfold cHi; rw [colOf_plus hl hx]; exact ((hp x hx).1 h1).2
  · intro h1
    constructor
    · rw [← matC_plus (fun x hx => by have := (hg x).2.1; unfold cLo; omega)]
      exact matC_congr fun x hx => by unfold cLo; rw [colOf_plus hl hx]; exact ((hp x hx).2 h1).1
    · exact matC_congr fun x hx => by unfold cHi; rw [colOf_plus hl hx]; exact ((hp x hx).2 h1).2
theorem row_plus {l : List Int} {n w' : Nat} {s k c : Int} (hk : inr 1 3 k = true) (hs : inr 0 4096 s = true) (hw : w' ≤ 4096) (hf : fit 281474976710656 l) (hf' : fit 281474976710656 (plus c l)) (hl : l.length = n * w') : (w' = 1 ∧ s % 2 = 1 → catR (rLo (plus c l) w' s k) n = catR (rLo l w' s k) n ∧ catR (rHi (plus c l) w' s k) n = plus c (catR (rHi l w' s k) n)) ∧ (¬ (w' = 1 ∧ s % 2 = 1) → catR (rLo (plus c l) w' s k) n = plus c (catR (rLo l w' s k) n) ∧ catR (rHi (plus c l) w' s k) n = catR (rHi l w' s k) n) := by
  have hp := fun y (hy : y < n) => fw_plus (l := rowAt l w' y) (c := c) hk hs (by rw [rowAt_len hl hy]; exact hw) (fit_row hf _ _) (by rw [← rowAt_plus]; exact fit_row hf' _ _)
  constructor
  · intro h1
    constructor
    · exact catR_congr n fun y hy => by unfold rLo; rw [rowAt_plus]; exact ((hp y hy).1 (by rw [rowAt_len hl hy]; exact h1)).1
    · rw [← catR_plus]
      exact catR_congr n fun y hy => by unfold rHi; rw [rowAt_plus]; exact ((hp y hy).1 (by rw [rowAt_len hl hy]; exact h1)).2
  · intro h1
    constructor
    · rw [← catR_plus]
      exact catR_congr n fun y hy => by unfold rLo; rw [rowAt_plus]; exact ((hp y hy).2 (by rw [rowAt_len hl hy]; exact h1)).1
    · exact catR_congr n fun y hy => by unfold rHi; rw [rowAt_plus]; exact ((hp y hy).2 (by rw [rowAt_len hl hy]; exact h1)).2
theorem mvd_plus {c : Int} {l : List Int} (hc : -281474976710656 ≤ c ∧ c ≤ 281474976710656) (hf : fit 281474976710656 l) : mvd c l = plus c l := by
  unfold mvd plus
  exact List.map_congr_left fun x hx => by have := hf x hx; exact wrap_in (by omega) (by omega)
theorem off_all {a b c d k e : Int} {l : List Int} (he : spErr a b c d k l = 0) (he' : spErr a b c d k (mvd e l) = 0) (hc : -281474976710656 ≤ e ∧ e ≤ 281474976710656) : spD0 a b c d k (mvd e l) = (if (!((c - a == 1) && (a % 2 == 1)) && !((d - b == 1) && (b % 2 == 1))) = true then mvd e (spD0 a b c d k l) else spD0 a b c d k l) ∧ spD1 a b c d k (mvd e l) = (if (((c - a == 1) && (a % 2 == 1)) && !((d - b == 1) && (b % 2 == 1))) = true then mvd e (spD1 a b c d k l) else spD1 a b c d k l) ∧ spD2 a b c d k (mvd e l) = (if (!((c - a == 1) && (a % 2 == 1)) && ((d - b == 1) && (b % 2 == 1))) = true then mvd e (spD2 a b c d k l) else spD2 a b c d k l) ∧ spD3 a b c d k (mvd e l) = (if (((c - a == 1) && (a % 2 == 1)) && ((d - b == 1) && (b % 2 == 1))) = true then mvd e (spD3 a b c d k l) else spD3 a b c d k l) := by
  obtain ⟨hv, hk, hq⟩ := spErr_s he
  obtain ⟨hv', _, hq'⟩ := spErr_s he'
  have hf := fitB_fit hq
  have hf' := fitB_fit hq'
  have hf8 : fit 281474976710656 l := fit_mono hf (by omega)
  have pb := plV_b hv
  have hk' := inr_b hk
  have sf := spD_fit he (by omega) hf
  have q0 := hb_le (b := 35184372088832) (k := k) (by omega) hk'
  have q1 := hb_le (b := hb 35184372088832 k) (k := k) (by omega) hk'
  have q2 := hb_le (b := lb 35184372088832 k) (k := k) (by omega) hk'
  rw [mvd_plus hc (fit_mono sf.1 (by omega)), mvd_plus hc (fit_mono sf.2.1 (by omega)), mvd_plus hc (fit_mono sf.2.2.1 (by omega)), mvd_plus hc (fit_mono sf.2.2.2 (by omega))]
  have hm := mvd_plus hc hf8
  rw [hm] at he' hv' hq' hf' ⊢
  have hs : inr 0 4096 b = true := inr_t (by omega) (by omega)
  have ha : inr 0 4096 a = true := inr_t (by omega) (by omega)
  have wb := bw_bh pb.1
  have ce := cev_bd (s := a) (n := c - a) (by omega)
  have cf := cev_bd (s := b) (n := d - b) (by omega)
  have ho := half_ok hv hk hf
  have ho' := half_ok hv' hk hf'
  have hn : (((d - b).toNat : Nat) : Int) = d - b := Int.toNat_of_nonneg (by omega)
  have hw : (((c - a).toNat : Nat) : Int) = c - a := Int.toNat_of_nonneg (by omega)
  have hlo : (sLo a b c d k l).length = (d - b).toNat * bw a b c d 0 := by
    rw [wb.1]
    apply Int.ofNat.inj
    show ((sLo a b c d k l).length : Int) = (((d - b).toNat * (cev a (c - a)).toNat : Nat) : Int)
    rw [ho.1, Int.natCast_mul, hn, Int.toNat_of_nonneg (by omega), Int.mul_comm]
  have hhi : (sHi a b c d k l).length = (d - b).toNat * bw a b c d 1 := by
    rw [wb.2.1]
    apply Int.ofNat.inj
    show ((sHi a b c d k l).length : Int) = (((d - b).toNat * ((c - a) - cev a (c - a)).toNat : Nat) : Int)
    rw [ho.2.1, Int.natCast_mul, hn, Int.toNat_of_nonneg (by omega), Int.mul_comm]
  have rp := row_plus (n := (d - b).toNat) (w' := (c - a).toNat) (c := e) hk ha (by omega) hf8 (fit_mono hf' (by omega)) (plV_len hv)
  have X1 : ((c - a == 1) && (a % 2 == 1)) = true ↔ ((c - a).toNat = 1 ∧ a % 2 = 1) := by
    simp only [Bool.and_eq_true, beq_iff_eq]; omega
  have Y1 : ((d - b == 1) && (b % 2 == 1)) = true ↔ ((d - b).toNat = 1 ∧ b % 2 = 1) := by
    simp only [Bool.and_eq_true, beq_iff_eq]; omega
  have cl := fun (hq : fit 281474976710656 (plus e (sLo a b c d k l))) => col_plus (m0 := bh a b c d 0) (m2 := bh a b c d 2) hk hs (by omega) ho.2.2.1 hq (by rw [wb.2.2.1, hn]; omega) (by rw [wb.2.2.2.2.1, hn]; omega) hlo
  have ch := fun (hq : fit 281474976710656 (plus e (sHi a b c d k l))) => col_plus (m0 := bh a b c d 1) (m2 := bh a b c d 3) hk hs (by omega) ho.2.2.2 hq (by rw [wb.2.2.2.1, hn]; omega) (by rw [wb.2.2.2.2.2, hn]; omega) hhi
  unfold spD0 spD1 spD2 spD3
  rw [if_pos he, if_pos he, if_pos he, if_pos he, if_pos he', if_pos he', if_pos he', if_pos he']
  cases hX : ((c - a == 1) && (a % 2 == 1))
  · have r := rp.2 (fun h => by rw [X1.2 h] at hX; cases hX)
    have r1 : sLo a b c d k (plus e l) = plus e (sLo a b c d k l) := r.1
    have r2 : sHi a b c d k (plus e l) = sHi a b c d k l := r.2
    rw [r1] at ho' ⊢
    rw [r2]
    cases hY : ((d - b == 1) && (b % 2 == 1))
    · have z := (cl ho'.2.2.1).2 (fun h => by rw [Y1.2 h] at hY; cases hY)
      rw [z.1, z.2]
      exact ⟨rfl, rfl, rfl, rfl⟩
    · have z := (cl ho'.2.2.1).1 (Y1.1 hY)
      rw [z.1, z.2]
      exact ⟨rfl, rfl, rfl, rfl⟩
  · have r := rp.1 (X1.1 hX)
    have r1 : sLo a b c d k (plus e l) = sLo a b c d k l := r.1
    have r2 : sHi a b c d k (plus e l) = plus e (sHi a b c d k l) := r.2
    rw [r1] at ho' ⊢
    rw [r2] at ho' ⊢
    cases hY : ((d - b == 1) && (b % 2 == 1))
    · have z := (ch ho'.2.2.2).2 (fun h => by rw [Y1.2 h] at hY; cases hY)
      rw [z.1, z.2]
      exact ⟨rfl, rfl, rfl, rfl⟩
    · have z := (ch ho'.2.2.2).1 (Y1.1 hY)
      rw [z.1, z.2]
      exact ⟨rfl, rfl, rfl, rfl⟩
theorem o_DwtOffsets : loopsOf (bodyOf Try.f6) = [loopOf Try.f6 0] := by kernel_rfl
theorem q_DwtOffsets (a b c d : Int) (l : List Int) (k2 k : Int) (hok : ok_DwtOffsets a b c d l k2 k = true) : funR Try.prog t_DwtOffsets (annOf []) l_DwtOffsets 20 Try.f6 [.agg [.int .i64 a, .int .i64 b, .int .i64 c, .int .i64 d, .lst (.int .i64) l], .one (.int .i64 k2), .one (.int .i64 k)] [] = some ⟨.one (.bool true), [], []⟩ := by
    refine (e_DwtOffsets ..).trans ?_
    simp only [ite2_bool]
    cases hf : decide (l.length ≤ 4000)
    · rfl
    have hl : l.length ≤ 4000 := by simpa using hf
    cases g1 : decide (k2 > 281474976710656)
    rotate_left
    · rfl
    cases g2 : decide (k2 < -281474976710656)
    rotate_left
    · rfl
    have hc : -281474976710656 ≤ k2 ∧ k2 ≤ 281474976710656 := by
      rw [decide_eq_false_iff_not] at g1 g2; omega
    have sl := spD_le a b c d k l
    have sm := small_d (show l.length ≤ 16777216 by omega)
    have d0 : decide ((l.length : Int) * 9 ≤ 140737488355328) = true := by rw [decide_eq_true_eq]; omega
    have w0 : decide (((spD0 a b c d k l).length : Int) * 9 ≤ 140737488355328) = true := by rw [decide_eq_true_eq]; omega
    have w1 : decide (((spD1 a b c d k l).length : Int) * 9 ≤ 140737488355328) = true := by rw [decide_eq_true_eq]; omega
    have w2 : decide (((spD2 a b c d k l).length : Int) * 9 ≤ 140737488355328) = true := by rw [decide_eq_true_eq]; omega
    have w3 : decide (((spD3 a b c d k l).length : Int) * 9 ≤ 140737488355328) = true := by rw [decide_eq_true_eq]; omega
    simp only [mvd_len, sm, d0, w0, w1, w2, w3, small_d sl.1, small_d sl.2.1, small_d sl.2.2.1, small_d sl.2.2.2, Bool.and_self, Bool.not_true, Bool.false_eq_true, if_false, if_true]
    by_cases e : spErr a b c d k l = 0
    rotate_left
    · have h2 : (spErr a b c d k l != 0) = true := by simpa using e
      simp only [h2, if_true]
    have h2 : (spErr a b c d k l != 0) = false := by simp [e]
    simp only [h2, Bool.false_eq_true, if_false]
    obtain ⟨hv, hk, hq⟩ := spErr_s e
    have pb := plV_b hv
    by_cases e' : spErr a b c d k (mvd k2 l) = 0
    rotate_left
    · have h3 : (spErr a b c d k (mvd k2 l) != 0) = true := by simpa using e'
      have h4 : plV a b c d (mvd k2 l) = plV a b c d l := by unfold plV; rw [mvd_len]
      have h5 : spErr a b c d k (mvd k2 l) = 2 := by
        unfold spErr at e' ⊢
        rw [h4, hv, hk] at e' ⊢
        cases hz : fitB 35184372088832 (mvd k2 l)
        · rfl
        · exact absurd (by simp [hz]) e'
      rw [h5]
      rfl
    have h3 : (spErr a b c d k (mvd k2 l) != 0) = false := by simp [e']
    have oa := off_all e e' hc
    have hr : ∀ o, spR a b c d k l o = bnd a b c d o := fun o => by simp [spR, e]
    have hr' : ∀ o, spR a b c d k (mvd k2 l) o = bnd a b c d o := fun o => by simp [spR, e']
    simp only [h3, hr, hr', oa.1, oa.2.1, oa.2.2.1, oa.2.2.2, wrap_in (n := c - a) (by omega) (by omega), wrap_in (n := d - b) (by omega) (by omega), Int.tmod_eq_emod_of_nonneg (show 0 ≤ a by omega), Int.tmod_eq_emod_of_nonneg (show 0 ≤ b by omega), Bool.false_eq_true, if_false]
    cases t1 : (c - a == 1) <;> cases t2 : (a % 2 == 1) <;> cases t3 : (d - b == 1) <;> cases t4 : (b % 2 == 1) <;> simp only [Bool.and_self, Bool.and_true, Bool.and_false, Bool.true_and, Bool.false_and, Bool.not_true, Bool.not_false, Bool.false_eq_true, if_false, if_true, samePl_refl]
theorem s_DwtOffsets : SoundFun Try.prog 6 G_DwtOffsets := by
  refine fun_ok (tab := t_DwtOffsets) (ann := annOf []) (lt := l_DwtOffsets) (tab_cons s_awake (tab_cons s_law_few (tab_cons s_dwt_Split (tab_cons s_law_same (tab_cons s_law_moved tab_nil))))) (by kernel_rfl) (fn := Try.f6) (by kernel_rfl) (by decide) (c := bodyOf Try.f6) (by kernel_rfl) (by
    intro m b hb
    have hb' : b ∈ loopsOf (bodyOf Try.f6) := hb
    rw [o_DwtOffsets] at hb'
    simp only [List.mem_cons, List.not_mem_nil, or_false] at hb'
    rcases hb' with rfl
    · exact loop_none (by kernel_rfl) m
    ) ?_ (keep_nil (by kernel_rfl))
  intro args lent o y0'
  unfold G_DwtOffsets at y0'
  obtain ⟨q', args, rfl, y1'⟩ := pA_s y0'
  obtain ⟨c', q', rfl, y2'⟩ := tC_s y1'
  obtain ⟨a, rfl, y3'⟩ := kI_s y2'
  obtain ⟨c', q', rfl, y4'⟩ := tC_s y3'
  obtain ⟨b, rfl, y5'⟩ := kI_s y4'
  obtain ⟨c', q', rfl, y6'⟩ := tC_s y5'
  obtain ⟨c, rfl, y7'⟩ := kI_s y6'
  obtain ⟨c', q', rfl, y8'⟩ := tC_s y7'
  obtain ⟨d, rfl, y9'⟩ := kI_s y8'
  obtain ⟨c', q', rfl, y10'⟩ := tC_s y9'
  obtain ⟨l, rfl, y11'⟩ := kLI_s y10'
  obtain ⟨rfl, y12'⟩ := tE_s y11'
  obtain ⟨c', args, rfl, y13'⟩ := pO_s y12'
  obtain ⟨k2, rfl, y14'⟩ := kI_s y13'
  obtain ⟨c', args, rfl, y15'⟩ := pO_s y14'
  obtain ⟨k, rfl, y16'⟩ := kI_s y15'
  obtain ⟨rfl, y17'⟩ := pE_s y16'
  obtain ⟨rfl, y18'⟩ := nE_s y17'
  have yy' := y18'
  unfold H_DwtOffsets at yy'
  obtain ⟨hok, rfl⟩ := Prod.mk.inj (Option.some.inj yy')
  exact ⟨20, q_DwtOffsets _ _ _ _ _ _ _ hok⟩
end Go.Rx.Ch05

