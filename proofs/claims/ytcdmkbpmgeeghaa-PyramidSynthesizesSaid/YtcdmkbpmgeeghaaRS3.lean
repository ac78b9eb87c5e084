/- The summaries of these functions are sound. -/
import Derived.Test.YtcdmkbpmgeeghaaRxD
import Derived.Test.YtcdmkbpmgeeghaaRE1
import Derived.Test.YtcdmkbpmgeeghaaRS2
set_option linter.unnecessarySimpa false
set_option linter.unusedVariables false
set_option linter.unusedSimpArgs false
set_option maxRecDepth 100000
set_option maxHeartbeats 40000000
open Go Go.Rx Go.Proofs
namespace Go.Rx.Ch06
theorem setCs_len (l : List Int) (g : Nat) (f : Nat → List Int) : ∀ j, (setCs l g f j).length = l.length
  | 0 => rfl
  | j + 1 => by simp [setCs, setC, setT_len, setCs_len l g f j]
theorem colOf_len (l : List Int) (w x n : Nat) : (colOf l w x n).length = n := by simp [colOf]
theorem fitB_fit {b : Int} {l : List Int} (h : fitB b l = true) : fit b l := by rw [fitB_d] at h; simpa using h
theorem fit_fitB {b : Int} {l : List Int} (h : fit b l) : fitB b l = true := by rw [fitB_d]; simpa using h
theorem gI_fit {b : Int} {l : List Int} (h0 : 0 ≤ b) (h : fit b l) (i : Nat) : -b ≤ gI l i ∧ gI l i ≤ b := by
  rw [gI_rd]; exact Bd.of_mem h0 h i
theorem fit_col {b : Int} {l : List Int} (h0 : 0 ≤ b) (h : fit b l) (w x n : Nat) : fit b (colOf l w x n) := by
  intro y hy
  unfold colOf at hy
  obtain ⟨i, _, rfl⟩ := List.mem_map.1 hy
  exact gI_fit h0 h _
theorem set_ok {a c x : Int} {m l : Nat} (h0 : 0 ≤ a) (h1 : a ≤ x) (h2 : x < c) (h3 : c ≤ 4096) (h4 : m ≤ 4096) (h5 : (l : Int) = (c - a) * (m : Int)) : (decide (0 ≤ a) && decide (a ≤ x) && decide (x < c) && decide (c ≤ 4096) && decide (m ≤ 4096) && decide ((l : Int) = (c - a) * (m : Int))) = true := by
  simp only [h0, h1, h2, h3, h4, h5, decide_true, Bool.and_self]
theorem fw_good {l : List Int} {s k : Int} (hk : inr 1 3 k = true) (hs : inr 0 4096 s = true) (hn : l.length ≤ 4096) (hf : fit 281474976710656 l) : (fw l s k).2.2 = 0 ∧ ((fw l s k).1.length : Int) = cev s l.length ∧ ((fw l s k).2.1.length : Int) = l.length - cev s l.length := by
  rw [fw_ok (inr_b hk) (inr_b hs) hn hf]
  refine ⟨rfl, ?_, ?_⟩
  · show ((evs s (fz l s k)).length : Int) = _
    rw [evs_length, fz_len]
  · show ((ods s (fz l s k)).length : Int) = _
    rw [ods_length, fz_len]
theorem d_spCol0_0 {α : Type} {vs : List V} {bl : List (Option Blk)} {K} {r : α} {Q : Prop} (y0' : D_spCol0_0 vs bl K = some r) (hh' : ∀ (p0 : Int) (e0 : Int) (q0 : Int) (f0 : Int) (p1 : Int) (e1 : Int) (q1 : Int) (f1 : Int) (a : Int) (b : Int) (c : Int) (d : Int) (kk : Int) (a0 : Int) (b0 : Int) (c0 : Int) (d0 : Int) (a1 : Int) (b1 : Int) (c1 : Int) (d1 : Int) (a2 : Int) (b2 : Int) (c2 : Int) (d2 : Int) (a3 : Int) (b3 : Int) (c3 : Int) (d3 : Int) (g0 : Int) (g1 : Int) (g2 : Int) (g3 : Int) (x : Int) (h0 : List Int) (h1 : List Int) (l0 : List Int) (l1 : List Int) (l2 : List Int) (l3 : List Int), vs = [.one (.int .i64 0), .one (.ptr 1 0), .one (.ptr 2 0), .one (.ptr 3 0), .one (.ptr 10 0), .one (.int .i64 x)] → bl = [some (.box [.int .i64 p0, .int .i64 e0, .int .i64 q0, .int .i64 f0, .row 4, .int .i64 p1, .int .i64 e1, .int .i64 q1, .int .i64 f1, .row 5]), some (.box [.int .i64 a, .int .i64 b, .int .i64 c, .int .i64 d]), some (.box [.int .i64 kk]), some (.box [.int .i64 a0, .int .i64 b0, .int .i64 c0, .int .i64 d0, .row 6, .int .i64 a1, .int .i64 b1, .int .i64 c1, .int .i64 d1, .row 7, .int .i64 a2, .int .i64 b2, .int .i64 c2, .int .i64 d2, .row 8, .int .i64 a3, .int .i64 b3, .int .i64 c3, .int .i64 d3, .row 9]), some (.arr 3 (.int .i64) h0), some (.arr 3 (.int .i64) h1), some (.arr 3 (.int .i64) l0), some (.arr 3 (.int .i64) l1), some (.arr 3 (.int .i64) l2), some (.arr 3 (.int .i64) l3), some (.box [.int .i64 g0, .int .i64 g1, .int .i64 g2, .int .i64 g3, .row 4])] → K p0 e0 q0 f0 p1 e1 q1 f1 a b c d kk a0 b0 c0 d0 a1 b1 c1 d1 a2 b2 c2 d2 a3 b3 c3 d3 g0 g1 g2 g3 x h0 h1 l0 l1 l2 l3 = some r → Q) : Q := by
  unfold D_spCol0_0 at y0'
  obtain ⟨c', vs, rfl, y1'⟩ := pO_s y0'
  obtain ⟨rfl, y2'⟩ := kJ_s y1'
  obtain ⟨vs, rfl, y3'⟩ := pP_s y2'
  obtain ⟨vs, rfl, y4'⟩ := pP_s y3'
  obtain ⟨vs, rfl, y5'⟩ := pP_s y4'
  obtain ⟨vs, rfl, y6'⟩ := pP_s y5'
  obtain ⟨x, vs, rfl, y7'⟩ := pI_s y6'
  obtain ⟨rfl, y8'⟩ := pE_s y7'
  obtain ⟨q', bl, rfl, y9'⟩ := bB_s y8'
  obtain ⟨p0, e0, q0, f0, p1, e1, q1, f1, rfl, y10'⟩ := rd2P_s y9'
  obtain ⟨q', bl, rfl, y11'⟩ := bB_s y10'
  obtain ⟨a, b, c, d, q', rfl, y12'⟩ := t4_s y11'
  obtain ⟨rfl, y13'⟩ := tE_s y12'
  obtain ⟨q', bl, rfl, y14'⟩ := bB_s y13'
  obtain ⟨kk, q', rfl, y15'⟩ := tI_s y14'
  obtain ⟨rfl, y16'⟩ := tE_s y15'
  obtain ⟨q', bl, rfl, y17'⟩ := bB_s y16'
  obtain ⟨a0, b0, c0, d0, a1, b1, c1, d1, a2, b2, c2, d2, a3, b3, c3, d3, rfl, y18'⟩ := rd4P_s y17'
  obtain ⟨h0, bl, rfl, y19'⟩ := bAI_s y18'
  obtain ⟨h1, bl, rfl, y20'⟩ := bAI_s y19'
  obtain ⟨l0, bl, rfl, y21'⟩ := bAI_s y20'
  obtain ⟨l1, bl, rfl, y22'⟩ := bAI_s y21'
  obtain ⟨l2, bl, rfl, y23'⟩ := bAI_s y22'
  obtain ⟨l3, bl, rfl, y24'⟩ := bAI_s y23'
  obtain ⟨q', bl, rfl, y25'⟩ := bB_s y24'
  obtain ⟨g0, g1, g2, g3, rfl, y26'⟩ := rd1P_s y25'
  obtain ⟨rfl, y27'⟩ := bE_s y26'
  have yy' := y27'
  exact hh' _ _ _ _ _ _ _ _ _ _ _ _ _ _ _ _ _ _ _ _ _ _ _ _ _ _ _ _ _ _ _ _ _ _ _ _ _ _ _ _ rfl rfl yy'
theorem r_spCol0_0 : RoundOk Try.prog t_spCol0 (annOf []) l_spCol0 Out 20 10 56 [0, 2, 3, 4, 7, 8] (kxOf [] [6]) (loopOf Try.f70 0) T_spCol0_0 := by
  intro vs bl Kc r h
  unfold T_spCol0_0 at h
  obtain ⟨t, y0', h'⟩ := getD_run h
  refine d_spCol0_0 y0' fun p0 e0 q0 f0 p1 e1 q1 f1 a b c d kk a0 b0 c0 d0 a1 b1 c1 d1 a2 b2 c2 d2 a3 b3 c3 d3 g0 g1 g2 g3 x h0 h1 l0 l1 l2 l3 u1' u2' yy' => ?_
  subst u1' u2'
  cases yy'
  exact (b_spCol0_0 ..).trans h'
theorem o_spCol0 : loopsOf (bodyOf Try.f70) = [loopOf Try.f70 0] := by kernel_rfl
theorem zz_spCol0_0 (p0 e0 q0 f0 p1 e1 q1 f1 a b c d kk a0 b0 c0 d0 a1 b1 c1 d1 a2 b2 c2 d2 a3 b3 c3 d3 g0 g1 g2 g3 x : Int) (h0 h1 l0 l1 l2 l3 : List Int) (hk : k_spCol0_0 p0 e0 q0 f0 p1 e1 q1 f1 a b c d kk a0 b0 c0 d0 a1 b1 c1 d1 a2 b2 c2 d2 a3 b3 c3 d3 g0 g1 g2 g3 x h0 h1 l0 l1 l2 l3 = true) : ZZ (c_spCol0_0 p0 e0 q0 f0 p1 e1 q1 f1 a b c d kk a0 b0 c0 d0 a1 b1 c1 d1 a2 b2 c2 d2 a3 b3 c3 d3 g0 g1 g2 g3 x h0 h1 l0 l1 l2 l3) T_spCol0_0 [.one (.int .i64 0), .one (.ptr 1 0), .one (.ptr 2 0), .one (.ptr 3 0), .one (.ptr 10 0), .one (.int .i64 x)] [some (.box [.int .i64 p0, .int .i64 e0, .int .i64 q0, .int .i64 f0, .row 4, .int .i64 p1, .int .i64 e1, .int .i64 q1, .int .i64 f1, .row 5]), some (.box [.int .i64 a, .int .i64 b, .int .i64 c, .int .i64 d]), some (.box [.int .i64 kk]), some (.box [.int .i64 a0, .int .i64 b0, .int .i64 c0, .int .i64 d0, .row 6, .int .i64 a1, .int .i64 b1, .int .i64 c1, .int .i64 d1, .row 7, .int .i64 a2, .int .i64 b2, .int .i64 c2, .int .i64 d2, .row 8, .int .i64 a3, .int .i64 b3, .int .i64 c3, .int .i64 d3, .row 9]), some (.arr 3 (.int .i64) h0), some (.arr 3 (.int .i64) h1), some (.arr 3 (.int .i64) l0), some (.arr 3 (.int .i64) l1), some (.arr 3 (.int .i64) l2), some (.arr 3 (.int .i64) l3), some (.box [.int .i64 g0, .int .i64 g1, .int .i64 g2, .int .i64 g3, .row 4])] := by
  simp only [k_spCol0_0, spOk, Bool.and_eq_true, decide_eq_true_eq] at hk
  obtain ⟨rfl, ⟨⟨⟨⟨⟨⟨⟨⟨hv, y1⟩, y2⟩, y3⟩, y4⟩, y5⟩, y6⟩, y7⟩, y8⟩, y9⟩ := hk
  have pb := plV_b hv
  have hf := fitB_fit y3
  obtain ⟨w', hw⟩ : ∃ w' : Nat, g2 - x = w' := ⟨(g2 - x).toNat, by omega⟩
  obtain ⟨n', hn⟩ : ∃ n' : Nat, g3 - g1 = n' := ⟨(g3 - g1).toNat, by omega⟩
  have e5 : (g2 - x).toNat = w' := by omega
  have e6 : (g3 - g1).toNat = n' := by omega
  refine Exists.elim (z_fold (T := T_spCol0_0) (st := fun j => ([.one (.int .i64 0), .one (.ptr 1 0), .one (.ptr 2 0), .one (.ptr 3 0), .one (.ptr 10 0), .one (.int .i64 (x + (j : Int)))], [some (.box [.int .i64 p0, .int .i64 e0, .int .i64 q0, .int .i64 f0, .row 4, .int .i64 p1, .int .i64 e1, .int .i64 q1, .int .i64 f1, .row 5]), some (.box [.int .i64 a, .int .i64 b, .int .i64 c, .int .i64 d]), some (.box [.int .i64 kk]), some (.box [.int .i64 a0, .int .i64 b0, .int .i64 c0, .int .i64 d0, .row 6, .int .i64 a1, .int .i64 b1, .int .i64 c1, .int .i64 d1, .row 7, .int .i64 a2, .int .i64 b2, .int .i64 c2, .int .i64 d2, .row 8, .int .i64 a3, .int .i64 b3, .int .i64 c3, .int .i64 d3, .row 9]), some (.arr 3 (.int .i64) h0), some (.arr 3 (.int .i64) h1), some (.arr 3 (.int .i64) (setCs l0 w' (cLo h0 w' n' b kk) j)), some (.arr 3 (.int .i64) l1), some (.arr 3 (.int .i64) (setCs l2 w' (cHi h0 w' n' b kk) j)), some (.arr 3 (.int .i64) l3), some (.box [.int .i64 x, .int .i64 g1, .int .i64 g2, .int .i64 g3, .row 4])])) w' (.leaf (.exit 0) [] [some (.box [.int .i64 p0, .int .i64 e0, .int .i64 q0, .int .i64 f0, .row 4, .int .i64 p1, .int .i64 e1, .int .i64 q1, .int .i64 f1, .row 5]), some (.box [.int .i64 a, .int .i64 b, .int .i64 c, .int .i64 d]), some (.box [.int .i64 kk]), some (.box [.int .i64 a0, .int .i64 b0, .int .i64 c0, .int .i64 d0, .row 6, .int .i64 a1, .int .i64 b1, .int .i64 c1, .int .i64 d1, .row 7, .int .i64 a2, .int .i64 b2, .int .i64 c2, .int .i64 d2, .row 8, .int .i64 a3, .int .i64 b3, .int .i64 c3, .int .i64 d3, .row 9]), some (.arr 3 (.int .i64) h0), some (.arr 3 (.int .i64) h1), some (.arr 3 (.int .i64) (setCs l0 w' (cLo h0 w' n' b kk) w')), some (.arr 3 (.int .i64) l1), some (.arr 3 (.int .i64) (setCs l2 w' (cHi h0 w' n' b kk) w')), some (.arr 3 (.int .i64) l3)]) (fun j hj F K => ?_) (fun F K => ?_)) (fun k hk => ⟨k, fun K r h => ?_⟩)
  · have hg := fw_good (l := colOf h0 w' j n') y1 y2 (by rw [colOf_len]; omega) (fit_col (by omega) hf _ _ _)
    rw [colOf_len] at hg
    have hl1 := setCs_len l0 w' (cLo h0 w' n' b kk) j
    have hl2 := setCs_len l2 w' (cHi h0 w' n' b kk) j
    have hc : plCol x g1 g2 g3 h0 (x + (j : Int)) = colOf h0 w' j n' := by
      unfold plCol
      rw [if_pos (by simp only [colOk, hv, Bool.and_eq_true, decide_eq_true_eq, true_and]; omega), e5, e6, show (x + (j : Int) - x).toNat = j by omega]
    simp only [tu_spCol0_0, U_spCol0_0, LT.next, LT.run, ite2_bool, decide_eq_true_eq, hc]
    have eb := cev_bd (s := b) (n := (n' : Int)) (by omega)
    rw [if_pos (by omega), if_pos (small_of (by rw [colOf_len]; omega)), hg.1, if_neg (by decide), if_pos (set_ok (by omega) (by omega) (by omega) (by omega) (by omega) (by rw [hl1, hg.2.1, ← hn, y8, y4, y5])), if_pos (set_ok (by omega) (by omega) (by omega) (by omega) (by omega) (by rw [hl2, hg.2.2, ← hn, y9, y6, y7])), wrap_in (n := x + (j : Int) + 1) (by omega) (by omega), show (c0 - a0).toNat = w' by omega, show (x + (j : Int) - a0).toNat = j by omega, show (c2 - a2).toNat = w' by omega, show (x + (j : Int) - a2).toNat = j by omega, show x + (j : Int) + 1 = x + ((j + 1 : Nat) : Int) by omega]
    rfl
  · simp only [tu_spCol0_0, U_spCol0_0, LT.next, LT.run, ite2_bool, decide_eq_true_eq]
    rw [if_neg (by omega)]
  · unfold c_spCol0_0 colsLo colsHi at h
    rw [e5, e6] at h
    have hk' := hk K r h
    rw [show x + ((0 : Nat) : Int) = x by simp] at hk'
    exact hk'
theorem z_spCol0_0 : ZOk S_spCol0_0 T_spCol0_0 := by
  intro vs bl t y0'
  refine d_spCol0_0 y0' fun p0 e0 q0 f0 p1 e1 q1 f1 a b c d kk a0 b0 c0 d0 a1 b1 c1 d1 a2 b2 c2 d2 a3 b3 c3 d3 g0 g1 g2 g3 x h0 h1 l0 l1 l2 l3 u1' u2' yy' => ?_
  subst u1' u2'
  obtain ⟨hk, rfl⟩ := Prod.mk.inj (Option.some.inj yy')
  exact zz_spCol0_0 _ _ _ _ _ _ _ _ _ _ _ _ _ _ _ _ _ _ _ _ _ _ _ _ _ _ _ _ _ _ _ _ _ _ _ _ _ _ _ _ hk
theorem q_spCol0 (p0 e0 q0 f0 p1 e1 q1 f1 a b c d k a0 b0 c0 d0 a1 b1 c1 d1 a2 b2 c2 d2 a3 b3 c3 d3 : Int) (h0 h1 l0 l1 l2 l3 : List Int) (hok : spOk p0 e0 q0 f0 b k a0 c0 a2 c2 h0 l0 l2 = true) : funR Try.prog t_spCol0 (annOf []) l_spCol0 20 Try.f70 [.one (.int .i64 0), .one (.ptr 0 0), .one (.ptr 1 0), .one (.ptr 2 0), .one (.ptr 3 0)] [.box [.int .i64 p0, .int .i64 e0, .int .i64 q0, .int .i64 f0, .row 4, .int .i64 p1, .int .i64 e1, .int .i64 q1, .int .i64 f1, .row 5], .box [.int .i64 a, .int .i64 b, .int .i64 c, .int .i64 d], .box [.int .i64 k], .box [.int .i64 a0, .int .i64 b0, .int .i64 c0, .int .i64 d0, .row 6, .int .i64 a1, .int .i64 b1, .int .i64 c1, .int .i64 d1, .row 7, .int .i64 a2, .int .i64 b2, .int .i64 c2, .int .i64 d2, .row 8, .int .i64 a3, .int .i64 b3, .int .i64 c3, .int .i64 d3, .row 9], .arr 3 (.int .i64) h0, .arr 3 (.int .i64) h1, .arr 3 (.int .i64) l0, .arr 3 (.int .i64) l1, .arr 3 (.int .i64) l2, .arr 3 (.int .i64) l3] = some ⟨.one (.int .i64 0), [some (.box [.int .i64 p0, .int .i64 e0, .int .i64 q0, .int .i64 f0, .row 4, .int .i64 p1, .int .i64 e1, .int .i64 q1, .int .i64 f1, .row 5]), some (.box [.int .i64 a, .int .i64 b, .int .i64 c, .int .i64 d]), some (.box [.int .i64 k]), some (.box [.int .i64 a0, .int .i64 b0, .int .i64 c0, .int .i64 d0, .row 6, .int .i64 a1, .int .i64 b1, .int .i64 c1, .int .i64 d1, .row 7, .int .i64 a2, .int .i64 b2, .int .i64 c2, .int .i64 d2, .row 8, .int .i64 a3, .int .i64 b3, .int .i64 c3, .int .i64 d3, .row 9]), some (.arr 3 (.int .i64) h0), some (.arr 3 (.int .i64) h1), some (.arr 3 (.int .i64) (colsLo l0 h0 (q0 - p0).toNat (f0 - e0).toNat b k)), some (.arr 3 (.int .i64) l1), some (.arr 3 (.int .i64) (colsHi l2 h0 (q0 - p0).toNat (f0 - e0).toNat b k)), some (.arr 3 (.int .i64) l3)], []⟩ := by
    refine (e_spCol0 ..).trans ?_
    have hk : k_spCol0_0 p0 e0 q0 f0 p1 e1 q1 f1 a b c d k a0 b0 c0 d0 a1 b1 c1 d1 a2 b2 c2 d2 a3 b3 c3 d3 p0 e0 q0 f0 p0 h0 h1 l0 l1 l2 l3 = true := by
      simp only [k_spCol0_0, hok, decide_true, Bool.and_self]
    rw [hk]
    rfl
theorem s_spCol0 : SoundFun Try.prog 70 G_spCol0 := by
  refine fun_ok (tab := t_spCol0) (ann := annOf []) (lt := l_spCol0) (tab_cons s_lift_Forward (tab_cons s_pl_Column (tab_cons s_dwt_setColumn tab_nil))) (by kernel_rfl) (fn := Try.f70) (by kernel_rfl) (by decide) (c := bodyOf Try.f70) (by kernel_rfl) (by
    intro m b hb
    have hb' : b ∈ loopsOf (bodyOf Try.f70) := hb
    rw [o_spCol0] at hb'
    simp only [List.mem_cons, List.not_mem_nil, or_false] at hb'
    rcases hb' with rfl
    · exact loop_ok (key := 3) (by kernel_rfl) rfl r_spCol0_0 z_spCol0_0 m
    ) ?_ (keep_nil (by kernel_rfl))
  intro args lent o y0'
  unfold G_spCol0 at y0'
  obtain ⟨c', args, rfl, y1'⟩ := pO_s y0'
  obtain ⟨rfl, y2'⟩ := kJ_s y1'
  obtain ⟨args, rfl, y3'⟩ := pP_s y2'
  obtain ⟨args, rfl, y4'⟩ := pP_s y3'
  obtain ⟨args, rfl, y5'⟩ := pP_s y4'
  obtain ⟨args, rfl, y6'⟩ := pP_s y5'
  obtain ⟨rfl, y7'⟩ := pE_s y6'
  obtain ⟨q', lent, rfl, y8'⟩ := nB_s y7'
  obtain ⟨p0, e0, q0, f0, p1, e1, q1, f1, rfl, y9'⟩ := rd2P_s y8'
  obtain ⟨q', lent, rfl, y10'⟩ := nB_s y9'
  obtain ⟨a, b, c, d, q', rfl, y11'⟩ := t4_s y10'
  obtain ⟨rfl, y12'⟩ := tE_s y11'
  obtain ⟨q', lent, rfl, y13'⟩ := nB_s y12'
  obtain ⟨k, q', rfl, y14'⟩ := tI_s y13'
  obtain ⟨rfl, y15'⟩ := tE_s y14'
  obtain ⟨q', lent, rfl, y16'⟩ := nB_s y15'
  obtain ⟨a0, b0, c0, d0, a1, b1, c1, d1, a2, b2, c2, d2, a3, b3, c3, d3, rfl, y17'⟩ := rd4P_s y16'
  obtain ⟨h0, lent, rfl, y18'⟩ := nAI_s y17'
  obtain ⟨h1, lent, rfl, y19'⟩ := nAI_s y18'
  obtain ⟨l0, lent, rfl, y20'⟩ := nAI_s y19'
  obtain ⟨l1, lent, rfl, y21'⟩ := nAI_s y20'
  obtain ⟨l2, lent, rfl, y22'⟩ := nAI_s y21'
  obtain ⟨l3, lent, rfl, y23'⟩ := nAI_s y22'
  obtain ⟨rfl, y24'⟩ := nE_s y23'
  have yy' := y24'
  unfold H_spCol0 at yy'
  obtain ⟨hok, rfl⟩ := Prod.mk.inj (Option.some.inj yy')
  exact ⟨20, q_spCol0 _ _ _ _ _ _ _ _ _ _ _ _ _ _ _ _ _ _ _ _ _ _ _ _ _ _ _ _ _ _ _ _ _ _ _ hok⟩
theorem d_spCol1_0 {α : Type} {vs : List V} {bl : List (Option Blk)} {K} {r : α} {Q : Prop} (y0' : D_spCol1_0 vs bl K = some r) (hh' : ∀ (p0 : Int) (e0 : Int) (q0 : Int) (f0 : Int) (p1 : Int) (e1 : Int) (q1 : Int) (f1 : Int) (a : Int) (b : Int) (c : Int) (d : Int) (kk : Int) (a0 : Int) (b0 : Int) (c0 : Int) (d0 : Int) (a1 : Int) (b1 : Int) (c1 : Int) (d1 : Int) (a2 : Int) (b2 : Int) (c2 : Int) (d2 : Int) (a3 : Int) (b3 : Int) (c3 : Int) (d3 : Int) (g0 : Int) (g1 : Int) (g2 : Int) (g3 : Int) (x : Int) (h0 : List Int) (h1 : List Int) (l0 : List Int) (l1 : List Int) (l2 : List Int) (l3 : List Int), vs = [.one (.int .i64 1), .one (.ptr 1 0), .one (.ptr 2 0), .one (.ptr 3 0), .one (.ptr 10 0), .one (.int .i64 x)] → bl = [some (.box [.int .i64 p0, .int .i64 e0, .int .i64 q0, .int .i64 f0, .row 4, .int .i64 p1, .int .i64 e1, .int .i64 q1, .int .i64 f1, .row 5]), some (.box [.int .i64 a, .int .i64 b, .int .i64 c, .int .i64 d]), some (.box [.int .i64 kk]), some (.box [.int .i64 a0, .int .i64 b0, .int .i64 c0, .int .i64 d0, .row 6, .int .i64 a1, .int .i64 b1, .int .i64 c1, .int .i64 d1, .row 7, .int .i64 a2, .int .i64 b2, .int .i64 c2, .int .i64 d2, .row 8, .int .i64 a3, .int .i64 b3, .int .i64 c3, .int .i64 d3, .row 9]), some (.arr 3 (.int .i64) h0), some (.arr 3 (.int .i64) h1), some (.arr 3 (.int .i64) l0), some (.arr 3 (.int .i64) l1), some (.arr 3 (.int .i64) l2), some (.arr 3 (.int .i64) l3), some (.box [.int .i64 g0, .int .i64 g1, .int .i64 g2, .int .i64 g3, .row 5])] → K p0 e0 q0 f0 p1 e1 q1 f1 a b c d kk a0 b0 c0 d0 a1 b1 c1 d1 a2 b2 c2 d2 a3 b3 c3 d3 g0 g1 g2 g3 x h0 h1 l0 l1 l2 l3 = some r → Q) : Q := by
  unfold D_spCol1_0 at y0'
  obtain ⟨c', vs, rfl, y1'⟩ := pO_s y0'
  obtain ⟨rfl, y2'⟩ := kJ_s y1'
  obtain ⟨vs, rfl, y3'⟩ := pP_s y2'
  obtain ⟨vs, rfl, y4'⟩ := pP_s y3'
  obtain ⟨vs, rfl, y5'⟩ := pP_s y4'
  obtain ⟨vs, rfl, y6'⟩ := pP_s y5'
  obtain ⟨x, vs, rfl, y7'⟩ := pI_s y6'
  obtain ⟨rfl, y8'⟩ := pE_s y7'
  obtain ⟨q', bl, rfl, y9'⟩ := bB_s y8'
  obtain ⟨p0, e0, q0, f0, p1, e1, q1, f1, rfl, y10'⟩ := rd2P_s y9'
  obtain ⟨q', bl, rfl, y11'⟩ := bB_s y10'
  obtain ⟨a, b, c, d, q', rfl, y12'⟩ := t4_s y11'
  obtain ⟨rfl, y13'⟩ := tE_s y12'
  obtain ⟨q', bl, rfl, y14'⟩ := bB_s y13'
  obtain ⟨kk, q', rfl, y15'⟩ := tI_s y14'
  obtain ⟨rfl, y16'⟩ := tE_s y15'
  obtain ⟨q', bl, rfl, y17'⟩ := bB_s y16'
  obtain ⟨a0, b0, c0, d0, a1, b1, c1, d1, a2, b2, c2, d2, a3, b3, c3, d3, rfl, y18'⟩ := rd4P_s y17'
  obtain ⟨h0, bl, rfl, y19'⟩ := bAI_s y18'
  obtain ⟨h1, bl, rfl, y20'⟩ := bAI_s y19'
  obtain ⟨l0, bl, rfl, y21'⟩ := bAI_s y20'
  obtain ⟨l1, bl, rfl, y22'⟩ := bAI_s y21'
  obtain ⟨l2, bl, rfl, y23'⟩ := bAI_s y22'
  obtain ⟨l3, bl, rfl, y24'⟩ := bAI_s y23'
  obtain ⟨q', bl, rfl, y25'⟩ := bB_s y24'
  obtain ⟨g0, g1, g2, g3, rfl, y26'⟩ := rd1P_s y25'
  obtain ⟨rfl, y27'⟩ := bE_s y26'
  have yy' := y27'
  exact hh' _ _ _ _ _ _ _ _ _ _ _ _ _ _ _ _ _ _ _ _ _ _ _ _ _ _ _ _ _ _ _ _ _ _ _ _ _ _ _ _ rfl rfl yy'
theorem r_spCol1_0 : RoundOk Try.prog t_spCol1 (annOf []) l_spCol1 Out 20 10 56 [0, 2, 3, 4, 7, 8] (kxOf [] [6]) (loopOf Try.f70 0) T_spCol1_0 := by
  intro vs bl Kc r h
  unfold T_spCol1_0 at h
  obtain ⟨t, y0', h'⟩ := getD_run h
  refine d_spCol1_0 y0' fun p0 e0 q0 f0 p1 e1 q1 f1 a b c d kk a0 b0 c0 d0 a1 b1 c1 d1 a2 b2 c2 d2 a3 b3 c3 d3 g0 g1 g2 g3 x h0 h1 l0 l1 l2 l3 u1' u2' yy' => ?_
  subst u1' u2'
  cases yy'
  exact (b_spCol1_0 ..).trans h'
theorem o_spCol1 : loopsOf (bodyOf Try.f70) = [loopOf Try.f70 0] := by kernel_rfl
theorem zz_spCol1_0 (p0 e0 q0 f0 p1 e1 q1 f1 a b c d kk a0 b0 c0 d0 a1 b1 c1 d1 a2 b2 c2 d2 a3 b3 c3 d3 g0 g1 g2 g3 x : Int) (h0 h1 l0 l1 l2 l3 : List Int) (hk : k_spCol1_0 p0 e0 q0 f0 p1 e1 q1 f1 a b c d kk a0 b0 c0 d0 a1 b1 c1 d1 a2 b2 c2 d2 a3 b3 c3 d3 g0 g1 g2 g3 x h0 h1 l0 l1 l2 l3 = true) : ZZ (c_spCol1_0 p0 e0 q0 f0 p1 e1 q1 f1 a b c d kk a0 b0 c0 d0 a1 b1 c1 d1 a2 b2 c2 d2 a3 b3 c3 d3 g0 g1 g2 g3 x h0 h1 l0 l1 l2 l3) T_spCol1_0 [.one (.int .i64 1), .one (.ptr 1 0), .one (.ptr 2 0), .one (.ptr 3 0), .one (.ptr 10 0), .one (.int .i64 x)] [some (.box [.int .i64 p0, .int .i64 e0, .int .i64 q0, .int .i64 f0, .row 4, .int .i64 p1, .int .i64 e1, .int .i64 q1, .int .i64 f1, .row 5]), some (.box [.int .i64 a, .int .i64 b, .int .i64 c, .int .i64 d]), some (.box [.int .i64 kk]), some (.box [.int .i64 a0, .int .i64 b0, .int .i64 c0, .int .i64 d0, .row 6, .int .i64 a1, .int .i64 b1, .int .i64 c1, .int .i64 d1, .row 7, .int .i64 a2, .int .i64 b2, .int .i64 c2, .int .i64 d2, .row 8, .int .i64 a3, .int .i64 b3, .int .i64 c3, .int .i64 d3, .row 9]), some (.arr 3 (.int .i64) h0), some (.arr 3 (.int .i64) h1), some (.arr 3 (.int .i64) l0), some (.arr 3 (.int .i64) l1), some (.arr 3 (.int .i64) l2), some (.arr 3 (.int .i64) l3), some (.box [.int .i64 g0, .int .i64 g1, .int .i64 g2, .int .i64 g3, .row 5])] := by
  simp only [k_spCol1_0, spOk, Bool.and_eq_true, decide_eq_true_eq] at hk
  obtain ⟨rfl, ⟨⟨⟨⟨⟨⟨⟨⟨hv, y1⟩, y2⟩, y3⟩, y4⟩, y5⟩, y6⟩, y7⟩, y8⟩, y9⟩ := hk
  have pb := plV_b hv
  have hf := fitB_fit y3
  obtain ⟨w', hw⟩ : ∃ w' : Nat, g2 - x = w' := ⟨(g2 - x).toNat, by omega⟩
  obtain ⟨n', hn⟩ : ∃ n' : Nat, g3 - g1 = n' := ⟨(g3 - g1).toNat, by omega⟩
  have e5 : (g2 - x).toNat = w' := by omega
  have e6 : (g3 - g1).toNat = n' := by omega
  refine Exists.elim (z_fold (T := T_spCol1_0) (st := fun j => ([.one (.int .i64 1), .one (.ptr 1 0), .one (.ptr 2 0), .one (.ptr 3 0), .one (.ptr 10 0), .one (.int .i64 (x + (j : Int)))], [some (.box [.int .i64 p0, .int .i64 e0, .int .i64 q0, .int .i64 f0, .row 4, .int .i64 p1, .int .i64 e1, .int .i64 q1, .int .i64 f1, .row 5]), some (.box [.int .i64 a, .int .i64 b, .int .i64 c, .int .i64 d]), some (.box [.int .i64 kk]), some (.box [.int .i64 a0, .int .i64 b0, .int .i64 c0, .int .i64 d0, .row 6, .int .i64 a1, .int .i64 b1, .int .i64 c1, .int .i64 d1, .row 7, .int .i64 a2, .int .i64 b2, .int .i64 c2, .int .i64 d2, .row 8, .int .i64 a3, .int .i64 b3, .int .i64 c3, .int .i64 d3, .row 9]), some (.arr 3 (.int .i64) h0), some (.arr 3 (.int .i64) h1), some (.arr 3 (.int .i64) l0), some (.arr 3 (.int .i64) (setCs l1 w' (cLo h1 w' n' b kk) j)), some (.arr 3 (.int .i64) l2), some (.arr 3 (.int .i64) (setCs l3 w' (cHi h1 w' n' b kk) j)), some (.box [.int .i64 x, .int .i64 g1, .int .i64 g2, .int .i64 g3, .row 5])])) w' (.leaf (.exit 0) [] [some (.box [.int .i64 p0, .int .i64 e0, .int .i64 q0, .int .i64 f0, .row 4, .int .i64 p1, .int .i64 e1, .int .i64 q1, .int .i64 f1, .row 5]), some (.box [.int .i64 a, .int .i64 b, .int .i64 c, .int .i64 d]), some (.box [.int .i64 kk]), some (.box [.int .i64 a0, .int .i64 b0, .int .i64 c0, .int .i64 d0, .row 6, .int .i64 a1, .int .i64 b1, .int .i64 c1, .int .i64 d1, .row 7, .int .i64 a2, .int .i64 b2, .int .i64 c2, .int .i64 d2, .row 8, .int .i64 a3, .int .i64 b3, .int .i64 c3, .int .i64 d3, .row 9]), some (.arr 3 (.int .i64) h0), some (.arr 3 (.int .i64) h1), some (.arr 3 (.int .i64) l0), some (.arr 3 (.int .i64) (setCs l1 w' (cLo h1 w' n' b kk) w')), some (.arr 3 (.int .i64) l2), some (.arr 3 (.int .i64) (setCs l3 w' (cHi h1 w' n' b kk) w'))]) (fun j hj F K => ?_) (fun F K => ?_)) (fun k hk => ⟨k, fun K r h => ?_⟩)
  · have hg := fw_good (l := colOf h1 w' j n') y1 y2 (by rw [colOf_len]; omega) (fit_col (by omega) hf _ _ _)
    rw [colOf_len] at hg
    have hl1 := setCs_len l1 w' (cLo h1 w' n' b kk) j
    have hl2 := setCs_len l3 w' (cHi h1 w' n' b kk) j
    have hc : plCol x g1 g2 g3 h1 (x + (j : Int)) = colOf h1 w' j n' := by
      unfold plCol
      rw [if_pos (by simp only [colOk, hv, Bool.and_eq_true, decide_eq_true_eq, true_and]; omega), e5, e6, show (x + (j : Int) - x).toNat = j by omega]
    simp only [tu_spCol1_0, U_spCol1_0, LT.next, LT.run, ite2_bool, decide_eq_true_eq, hc]
    have eb := cev_bd (s := b) (n := (n' : Int)) (by omega)
    rw [if_pos (by omega), if_pos (small_of (by rw [colOf_len]; omega)), hg.1, if_neg (by decide), if_pos (set_ok (by omega) (by omega) (by omega) (by omega) (by omega) (by rw [hl1, hg.2.1, ← hn, y8, y4, y5])), if_pos (set_ok (by omega) (by omega) (by omega) (by omega) (by omega) (by rw [hl2, hg.2.2, ← hn, y9, y6, y7])), wrap_in (n := x + (j : Int) + 1) (by omega) (by omega), show (c1 - a1).toNat = w' by omega, show (x + (j : Int) - a1).toNat = j by omega, show (c3 - a3).toNat = w' by omega, show (x + (j : Int) - a3).toNat = j by omega, show x + (j : Int) + 1 = x + ((j + 1 : Nat) : Int) by omega]
    rfl
  · simp only [tu_spCol1_0, U_spCol1_0, LT.next, LT.run, ite2_bool, decide_eq_true_eq]
    rw [if_neg (by omega)]
  · unfold c_spCol1_0 colsLo colsHi at h
    rw [e5, e6] at h
    have hk' := hk K r h
    rw [show x + ((0 : Nat) : Int) = x by simp] at hk'
    exact hk'
theorem z_spCol1_0 : ZOk S_spCol1_0 T_spCol1_0 := by
  intro vs bl t y0'
  refine d_spCol1_0 y0' fun p0 e0 q0 f0 p1 e1 q1 f1 a b c d kk a0 b0 c0 d0 a1 b1 c1 d1 a2 b2 c2 d2 a3 b3 c3 d3 g0 g1 g2 g3 x h0 h1 l0 l1 l2 l3 u1' u2' yy' => ?_
  subst u1' u2'
  obtain ⟨hk, rfl⟩ := Prod.mk.inj (Option.some.inj yy')
  exact zz_spCol1_0 _ _ _ _ _ _ _ _ _ _ _ _ _ _ _ _ _ _ _ _ _ _ _ _ _ _ _ _ _ _ _ _ _ _ _ _ _ _ _ _ hk
theorem q_spCol1 (p0 e0 q0 f0 p1 e1 q1 f1 a b c d k a0 b0 c0 d0 a1 b1 c1 d1 a2 b2 c2 d2 a3 b3 c3 d3 : Int) (h0 h1 l0 l1 l2 l3 : List Int) (hok : spOk p1 e1 q1 f1 b k a1 c1 a3 c3 h1 l1 l3 = true) : funR Try.prog t_spCol1 (annOf []) l_spCol1 20 Try.f70 [.one (.int .i64 1), .one (.ptr 0 0), .one (.ptr 1 0), .one (.ptr 2 0), .one (.ptr 3 0)] [.box [.int .i64 p0, .int .i64 e0, .int .i64 q0, .int .i64 f0, .row 4, .int .i64 p1, .int .i64 e1, .int .i64 q1, .int .i64 f1, .row 5], .box [.int .i64 a, .int .i64 b, .int .i64 c, .int .i64 d], .box [.int .i64 k], .box [.int .i64 a0, .int .i64 b0, .int .i64 c0, .int .i64 d0, .row 6, .int .i64 a1, .int .i64 b1, .int .i64 c1, .int .i64 d1, .row 7, .int .i64 a2, .int .i64 b2, .int .i64 c2, .int .i64 d2, .row 8, .int .i64 a3, .int .i64 b3, .int .i64 c3, .int .i64 d3, .row 9], .arr 3 (.int .i64) h0, .arr 3 (.int .i64) h1, .arr 3 (.int .i64) l0, .arr 3 (.int .i64) l1, .arr 3 (.int .i64) l2, .arr 3 (.int .i64) l3] = some ⟨.one (.int .i64 0), [some (.box [.int .i64 p0, .int .i64 e0, .int .i64 q0, .int .i64 f0, .row 4, .int .i64 p1, .int .i64 e1, .int .i64 q1, .int .i64 f1, .row 5]), some (.box [.int .i64 a, .int .i64 b, .int .i64 c, .int .i64 d]), some (.box [.int .i64 k]), some (.box [.int .i64 a0, .int .i64 b0, .int .i64 c0, .int .i64 d0, .row 6, .int .i64 a1, .int .i64 b1, .int .i64 c1, .int .i64 d1, .row 7, .int .i64 a2, .int .i64 b2, .int .i64 c2, .int .i64 d2, .row 8, .int .i64 a3, .int .i64 b3, .int .i64 c3, .int .i64 d3, .row 9]), some (.arr 3 (.int .i64) h0), some (.arr 3 (.int .i64) h1), some (.arr 3 (.int .i64) l0), some (.arr 3 (.int .i64) (colsLo l1 h1 (q1 - p1).toNat (f1 - e1).toNat b k)), some (.arr 3 (.int .i64) l2), some (.arr 3 (.int .i64) (colsHi l3 h1 (q1 - p1).toNat (f1 - e1).toNat b k))], []⟩ := by
    refine (e_spCol1 ..).trans ?_
    have hk : k_spCol1_0 p0 e0 q0 f0 p1 e1 q1 f1 a b c d k a0 b0 c0 d0 a1 b1 c1 d1 a2 b2 c2 d2 a3 b3 c3 d3 p1 e1 q1 f1 p1 h0 h1 l0 l1 l2 l3 = true := by
      simp only [k_spCol1_0, hok, decide_true, Bool.and_self]
    rw [hk]
    rfl
theorem s_spCol1 : SoundFun Try.prog 70 G_spCol1 := by
  refine fun_ok (tab := t_spCol1) (ann := annOf []) (lt := l_spCol1) (tab_cons s_lift_Forward (tab_cons s_pl_Column (tab_cons s_dwt_setColumn tab_nil))) (by kernel_rfl) (fn := Try.f70) (by kernel_rfl) (by decide) (c := bodyOf Try.f70) (by kernel_rfl) (by
    intro m b hb
    have hb' : b ∈ loopsOf (bodyOf Try.f70) := hb
    rw [o_spCol1] at hb'
    simp only [List.mem_cons, List.not_mem_nil, or_false] at hb'
    rcases hb' with rfl
    · exact loop_ok (key := 3) (by kernel_rfl) rfl r_spCol1_0 z_spCol1_0 m
    ) ?_ (keep_nil (by kernel_rfl))
  intro args lent o y0'
  unfold G_spCol1 at y0'
  obtain ⟨c', args, rfl, y1'⟩ := pO_s y0'
  obtain ⟨rfl, y2'⟩ := kJ_s y1'
  obtain ⟨args, rfl, y3'⟩ := pP_s y2'
  obtain ⟨args, rfl, y4'⟩ := pP_s y3'
  obtain ⟨args, rfl, y5'⟩ := pP_s y4'
  obtain ⟨args, rfl, y6'⟩ := pP_s y5'
  obtain ⟨rfl, y7'⟩ := pE_s y6'
  obtain ⟨q', lent, rfl, y8'⟩ := nB_s y7'
  obtain ⟨p0, e0, q0, f0, p1, e1, q1, f1, rfl, y9'⟩ := rd2P_s y8'
  obtain ⟨q', lent, rfl, y10'⟩ := nB_s y9'
  obtain ⟨a, b, c, d, q', rfl, y11'⟩ := t4_s y10'
  obtain ⟨rfl, y12'⟩ := tE_s y11'
  obtain ⟨q', lent, rfl, y13'⟩ := nB_s y12'
  obtain ⟨k, q', rfl, y14'⟩ := tI_s y13'
  obtain ⟨rfl, y15'⟩ := tE_s y14'
  obtain ⟨q', lent, rfl, y16'⟩ := nB_s y15'
  obtain ⟨a0, b0, c0, d0, a1, b1, c1, d1, a2, b2, c2, d2, a3, b3, c3, d3, rfl, y17'⟩ := rd4P_s y16'
  obtain ⟨h0, lent, rfl, y18'⟩ := nAI_s y17'
  obtain ⟨h1, lent, rfl, y19'⟩ := nAI_s y18'
  obtain ⟨l0, lent, rfl, y20'⟩ := nAI_s y19'
  obtain ⟨l1, lent, rfl, y21'⟩ := nAI_s y20'
  obtain ⟨l2, lent, rfl, y22'⟩ := nAI_s y21'
  obtain ⟨l3, lent, rfl, y23'⟩ := nAI_s y22'
  obtain ⟨rfl, y24'⟩ := nE_s y23'
  have yy' := y24'
  unfold H_spCol1 at yy'
  obtain ⟨hok, rfl⟩ := Prod.mk.inj (Option.some.inj yy')
  exact ⟨20, q_spCol1 _ _ _ _ _ _ _ _ _ _ _ _ _ _ _ _ _ _ _ _ _ _ _ _ _ _ _ _ _ _ _ _ _ _ _ hok⟩
theorem s_dwt_Split_1 : SoundFun Try.prog 70 G_dwt_Split_1 := or_ok s_spCol0 s_spCol1 (keep_nil (by kernel_rfl))
theorem pos_inj {g x x' y j : Nat} (hx : x < g) (hx' : x' < g) (h : y * g + x' = j * g + x) : y = j ∧ x' = x := by
  have e1 : (y * g + x') / g = y := by rw [Nat.add_comm, Nat.add_mul_div_right _ _ (by omega), Nat.div_eq_of_lt hx', Nat.zero_add]
  have e2 : (j * g + x) / g = j := by rw [Nat.add_comm, Nat.add_mul_div_right _ _ (by omega), Nat.div_eq_of_lt hx, Nat.zero_add]
  have : y = j := by rw [← e1, h, e2]
  subst this
  exact ⟨rfl, by omega⟩
theorem pos_lt {g n x y : Nat} (hx : x < g) (hy : y < n) : y * g + x < n * g := by
  have : (y + 1) * g ≤ n * g := Nat.mul_le_mul_right _ (by omega)
  rw [Nat.add_mul, Nat.one_mul] at this
  omega
theorem mat_ext {l m : List Int} {n g : Nat} (h1 : l.length = n * g) (h2 : m.length = n * g) (h : ∀ y, y < n → ∀ x, x < g → gI l (y * g + x) = gI m (y * g + x)) : l = m := by
  apply List.ext_getElem (by rw [h1, h2])
  intro i hi hj
  by_cases hg : g = 0
  · subst hg; rw [Nat.mul_zero] at h1; omega
  have e : i / g * g + i % g = i := Nat.div_add_mod' i g
  have hy : i / g < n := Nat.div_lt_of_lt_mul (by rw [Nat.mul_comm]; omega)
  have := h (i / g) hy (i % g) (Nat.mod_lt _ (by omega))
  rw [e] at this
  simpa [gI, List.getD_eq_getElem?_getD, hi, hj] using this
theorem gI_set {l : List Int} {i q : Nat} {v : Int} (hi : i < l.length) : gI (l.set i v) q = if q = i then v else gI l q := by
  rw [gI_rd, gI_rd]; exact rd_set l i q v hi
theorem setT_gI {l m : List Int} {n g x x' : Nat} (hl : l.length = n * g) (hx : x < g) (hx' : x' < g) (y : Nat) : ∀ j, j ≤ n → gI (setT l g x m j) (y * g + x') = if x' = x ∧ y < j then gI m y else gI l (y * g + x')
  | 0, _ => by simp [setT]
  | j + 1, hj => by
    have ih := setT_gI (m := m) hl hx hx' y j (by omega)
    have hp := pos_lt (g := g) hx (show j < n by omega)
    unfold setT
    rw [gI_set (by rw [setT_len, hl]; exact hp), ih]
    by_cases h : y * g + x' = j * g + x
    · obtain ⟨rfl, rfl⟩ := pos_inj hx hx' h
      simp
    · rw [if_neg h]
      by_cases h1 : x' = x
      · subst h1
        have : y ≠ j := fun e => h (by rw [e])
        by_cases h2 : y < j
        · rw [if_pos ⟨rfl, h2⟩, if_pos ⟨rfl, by omega⟩]
        · rw [if_neg (fun e => h2 e.2), if_neg (fun e => h2 (by omega))]
      · rw [if_neg (fun e => h1 e.1), if_neg (fun e => h1 e.1)]
theorem setCs_gI {l : List Int} {n g x' : Nat} {f : Nat → List Int} (hl : l.length = n * g) (hf : ∀ x, x < g → (f x).length = n) (hx' : x' < g) {y : Nat} (hy : y < n) : ∀ j, j ≤ g → gI (setCs l g f j) (y * g + x') = if x' < j then gI (f x') y else gI l (y * g + x')
  | 0, _ => by simp [setCs]
  | j + 1, hj => by
    have ih := setCs_gI hl hf hx' hy j (by omega)
    have hl' := setCs_len l g f j
    unfold setCs setC
    rw [setT_gI (n := n) (by rw [hl', hl]) (show j < g by omega) hx' y _ (by rw [hf j (by omega)]; omega), ih, hf j (by omega)]
    by_cases h : x' = j
    · subst h
      rw [if_pos ⟨rfl, hy⟩, if_pos (by omega)]
    · rw [if_neg (fun e => h e.1)]
      by_cases h1 : x' < j
      · rw [if_pos h1, if_pos (by omega)]
      · rw [if_neg h1, if_neg (by omega)]
theorem matC_len (n g : Nat) (f : Nat → List Int) : (matC n g f).length = n * g := by
  unfold matC
  simp [List.length_flatMap, Nat.mul_comm, List.map_const', List.sum_replicate_nat]
theorem matC_succ (n g : Nat) (f : Nat → List Int) : matC (n + 1) g f = matC n g f ++ (List.range g).map fun x => gI (f x) n := by
  unfold matC
  rw [List.range_succ, List.flatMap_append]
  simp
theorem gI_append_l {l m : List Int} {i : Nat} (h : i < l.length) : gI (l ++ m) i = gI l i := by
  simp [gI, List.getD_eq_getElem?_getD, List.getElem?_append_left h]
theorem gI_append_r {l m : List Int} {i : Nat} : gI (l ++ m) (l.length + i) = gI m i := by
  simp [gI, List.getD_eq_getElem?_getD, List.getElem?_append_right]
theorem matC_gI {g : Nat} {f : Nat → List Int} {x y : Nat} (hx : x < g) : ∀ n, y < n → gI (matC n g f) (y * g + x) = gI (f x) y
  | n + 1, hy => by
    rw [matC_succ]
    by_cases h : y < n
    · rw [gI_append_l (by rw [matC_len]; exact pos_lt hx h)]
      exact matC_gI hx n h
    · have : y = n := by omega
      subst this
      have e := gI_append_r (l := matC y g f) (m := (List.range g).map fun x => gI (f x) y) (i := x)
      rw [matC_len] at e
      rw [e]
      simp [gI, List.getD_eq_getElem?_getD, hx]
theorem setCs_mat {l : List Int} {n g : Nat} {f : Nat → List Int} (hl : l.length = n * g) (hf : ∀ x, x < g → (f x).length = n) : setCs l g f g = matC n g f :=
  mat_ext (by rw [setCs_len, hl]) (matC_len ..) fun y hy x hx => by
    rw [setCs_gI hl hf hx hy g (Nat.le_refl _), if_pos hx, matC_gI hx n hy]
theorem catR_len {f : Nat → List Int} {g : Nat} : ∀ n, (∀ y, y < n → (f y).length = g) → (catR f n).length = n * g
  | 0, _ => by simp [catR]
  | n + 1, h => by
    simp only [catR, List.length_append]
    rw [catR_len n (fun y hy => h y (by omega)), h n (by omega), Nat.add_mul, Nat.one_mul]
theorem rowAt_len {l : List Int} {g y n : Nat} (hl : l.length = n * g) (hy : y < n) : (rowAt l g y).length = g := by
  have : (y + 1) * g ≤ n * g := Nat.mul_le_mul_right _ (by omega)
  rw [Nat.add_mul, Nat.one_mul] at this
  simp [rowAt]; omega
theorem matC_congr {n g : Nat} {f h : Nat → List Int} (e : ∀ x, x < g → f x = h x) : matC n g f = matC n g h :=
  mat_ext (matC_len ..) (matC_len ..) fun y hy x hx => by rw [matC_gI hx n hy, matC_gI hx n hy, e x hx]
theorem fit_cat {b : Int} {f : Nat → List Int} : ∀ n, (∀ y, y < n → fit b (f y)) → fit b (catR f n)
  | 0, _ => fun x hx => by simp [catR] at hx
  | n + 1, h => fun x hx => by
    simp only [catR, List.mem_append] at hx
    rcases hx with hx | hx
    · exact fit_cat n (fun y hy => h y (by omega)) x hx
    · exact h n (by omega) x hx
theorem fit_row {b : Int} {l : List Int} (h : fit b l) (g y : Nat) : fit b (rowAt l g y) := fun x hx => h x (List.mem_of_mem_drop (List.mem_of_mem_take hx))
theorem valid_i {a b c d : Int} (h : 0 ≤ a ∧ a ≤ c ∧ c ≤ 4096 ∧ 0 ≤ b ∧ b ≤ d ∧ d ≤ 4096) : valid a b c d = true := by
  simp only [valid, Bool.and_eq_true, decide_eq_true_eq, and_assoc]
  exact h
theorem valid_bnd {a b c d o : Int} (h0 : 0 ≤ o) (h1 : o ≤ 3) : valid (bnd a b c d o).1 (bnd a b c d o).2.1 (bnd a b c d o).2.2.1 (bnd a b c d o).2.2.2 = true := by
  unfold bnd
  split
  · rename_i h
    have hb := valid_b h
    exact valid_i (by simp only; omega)
  · rfl
theorem bnd_v {a b c d : Int} (h : valid a b c d = true) : bnd a b c d 0 = ((a + 1) / 2, (b + 1) / 2, (c + 1) / 2, (d + 1) / 2) ∧ bnd a b c d 1 = (a / 2, (b + 1) / 2, c / 2, (d + 1) / 2) ∧ bnd a b c d 2 = ((a + 1) / 2, b / 2, (c + 1) / 2, d / 2) ∧ bnd a b c d 3 = (a / 2, b / 2, c / 2, d / 2) := by
  simp [bnd, h]
theorem toNat_area {p q e f : Int} (h : valid p e q f = true) : (area p e q f).toNat = (f - e).toNat * (q - p).toNat := by
  have ha := area_v h
  have hb := valid_b h
  have h1 : ((f - e).toNat : Int) = f - e := Int.toNat_of_nonneg (by omega)
  have h2 : ((q - p).toNat : Int) = q - p := Int.toNat_of_nonneg (by omega)
  have h3 : (((f - e).toNat * (q - p).toNat : Nat) : Int) = (q - p) * (f - e) := by rw [Int.natCast_mul, h1, h2, Int.mul_comm]
  omega
theorem colsLo_mat {h : List Int} {g n m : Nat} {s k ar : Int} (hk : inr 1 3 k = true) (hs : inr 0 4096 s = true) (hn : n ≤ 4096) (hf : fit 281474976710656 h) (hm : (m : Int) = cev s n) (ha : ar.toNat = m * g) : colsLo (zer ar) h g n s k = matC m g (cLo h g n s k) :=
  setCs_mat (by rw [zer, List.length_replicate, ha]) fun x hx => by
    have := (fw_good (l := colOf h g x n) hk hs (by rw [colOf_len]; exact hn) (fit_col (by omega) hf _ _ _)).2.1
    rw [colOf_len] at this
    unfold cLo; omega
theorem colsHi_mat {h : List Int} {g n m : Nat} {s k ar : Int} (hk : inr 1 3 k = true) (hs : inr 0 4096 s = true) (hn : n ≤ 4096) (hf : fit 281474976710656 h) (hm : (m : Int) = n - cev s n) (ha : ar.toNat = m * g) : colsHi (zer ar) h g n s k = matC m g (cHi h g n s k) :=
  setCs_mat (by rw [zer, List.length_replicate, ha]) fun x hx => by
    have := (fw_good (l := colOf h g x n) hk hs (by rw [colOf_len]; exact hn) (fit_col (by omega) hf _ _ _)).2.2
    rw [colOf_len] at this
    unfold cHi; omega
theorem fw_b {l : List Int} {s k : Int} (hk : inr 1 3 k = true) (hs : inr 0 4096 s = true) (hn : l.length ≤ 4096) (hf : fit 35184372088832 l) : fit 281474976710656 (fw l s k).1 ∧ fit 281474976710656 (fw l s k).2.1 := by
  have hk' := inr_b hk
  have h1 := fz_low (s := s) hk' hf (by omega)
  have h2 := lb_ge (b := 35184372088832) (by omega) hk'
  have h3 := hb_ge (b := 35184372088832) (by omega) hk'
  rw [fw_ok hk' (inr_b hs) hn (fit_mono hf (by omega))]
  exact ⟨fit_mono h1.1 (by omega), fit_mono h1.2 (by omega)⟩
theorem half_ok {a b c d k : Int} {l : List Int} (hv : plV a b c d l = true) (hk : inr 1 3 k = true) (hf : fit 35184372088832 l) : ((sLo a b c d k l).length : Int) = cev a (c - a) * (d - b) ∧ ((sHi a b c d k l).length : Int) = ((c - a) - cev a (c - a)) * (d - b) ∧ fit 281474976710656 (sLo a b c d k l) ∧ fit 281474976710656 (sHi a b c d k l) := by
  have pb := plV_b hv
  have hf' : fit 281474976710656 l := fit_mono hf (by omega)
  obtain ⟨w', hw⟩ : ∃ w' : Nat, c - a = w' := ⟨(c - a).toNat, by omega⟩
  obtain ⟨n', hn⟩ : ∃ n' : Nat, d - b = n' := ⟨(d - b).toNat, by omega⟩
  have e5 : (c - a).toNat = w' := by omega
  have e6 : (d - b).toNat = n' := by omega
  have hll : l.length = n' * w' := by
    have := pb.2.2.1
    rw [hw, hn] at this
    rw [Nat.mul_comm]; exact_mod_cast this
  have ha : inr 0 4096 a = true := inr_t (by omega) (by omega)
  have ce := cev_bd (s := a) (n := (w' : Int)) (by omega)
  have hg := fun j (hj : j < n') => fw_good (l := rowAt l w' j) hk ha (by rw [rowAt_len hll hj]; omega) (fit_row hf' _ _)
  have hq := fun j (hj : j < n') => fw_b (l := rowAt l w' j) hk ha (by rw [rowAt_len hll hj]; omega) (fit_row hf _ _)
  have hlo := catR_len (f := rLo l w' a k) (g := (cev a w').toNat) n' (fun q hq => by have := (hg q (by omega)).2.1; rw [rowAt_len hll (by omega)] at this; unfold rLo; omega)
  have hhi := catR_len (f := rHi l w' a k) (g := (w' - cev a w').toNat) n' (fun q hq => by have := (hg q (by omega)).2.2; rw [rowAt_len hll (by omega)] at this; unfold rHi; omega)
  unfold sLo sHi
  rw [e5, e6, hlo, hhi, hw, hn, Int.natCast_mul, Int.natCast_mul, Int.toNat_of_nonneg (by omega), Int.toNat_of_nonneg (by omega), Int.mul_comm, Int.mul_comm (n' : Int)]
  exact ⟨rfl, rfl, fit_cat n' fun y hy => (hq y hy).1, fit_cat n' fun y hy => (hq y hy).2⟩
theorem spOk_i {p q b d k : Int} {h t0 t1 : List Int} (hv : 0 ≤ p ∧ p ≤ q ∧ q ≤ 4096 ∧ 0 ≤ b ∧ b ≤ d ∧ d ≤ 4096) (hk : inr 1 3 k = true) (hl : (h.length : Int) = (q - p) * (d - b)) (ha : (q - p) * (d - b) ≤ 1048576) (hf : fit 281474976710656 h) (l0 : (t0.length : Int) = (q - p) * cev b (d - b)) (l1 : (t1.length : Int) = (q - p) * ((d - b) - cev b (d - b))) : spOk p b q d b k p q p q h t0 t1 = true := by
  have hv' : valid p b q d = true := valid_i (by omega)
  have ar := area_v hv'
  simp only [spOk, plV, hv', hk, inr_t (a := 0) (b := 4096) (x := b) (by omega) (by omega), fit_fitB hf, l0, l1, decide_true, Bool.and_true, Bool.true_and, Bool.and_eq_true, decide_eq_true_eq]
  omega
theorem d_dwt_Split_1 {α : Type} {vs : List V} {bl : List (Option Blk)} {K} {r : α} {Q : Prop} (y0' : D_dwt_Split_1 vs bl K = some r) (hh' : ∀ (a : Int) (b : Int) (c : Int) (d : Int) (kk : Int) (ua0 : Int) (ub0 : Int) (uc0 : Int) (ud0 : Int) (ua1 : Int) (ub1 : Int) (uc1 : Int) (ud1 : Int) (ua2 : Int) (ub2 : Int) (uc2 : Int) (ud2 : Int) (ua3 : Int) (ub3 : Int) (uc3 : Int) (ud3 : Int) (va0 : Int) (vb0 : Int) (vc0 : Int) (vd0 : Int) (va1 : Int) (vb1 : Int) (vc1 : Int) (vd1 : Int) (va2 : Int) (vb2 : Int) (vc2 : Int) (vd2 : Int) (va3 : Int) (vb3 : Int) (vc3 : Int) (vd3 : Int) (ra : Int) (rb : Int) (rc : Int) (rd : Int) (a0 : Int) (b0 : Int) (c0 : Int) (d0 : Int) (a1 : Int) (b1 : Int) (c1 : Int) (d1 : Int) (a2 : Int) (b2 : Int) (c2 : Int) (d2 : Int) (a3 : Int) (b3 : Int) (c3 : Int) (d3 : Int) (p0 : Int) (e0 : Int) (q0 : Int) (f0 : Int) (p1 : Int) (e1 : Int) (q1 : Int) (f1 : Int) (y : Int) (l : List Int) (y0 : List Int) (y1 : List Int) (y2 : List Int) (y3 : List Int) (y4 : List Int) (y5 : List Int) (y6 : List Int) (y7 : List Int) (h0 : List Int) (h1 : List Int), vs = [.one (.ptr 0 0), .one (.ptr 1 0), .one (.ptr 2 0), .one (.ptr 3 0), .one (.ptr 4 0), .one (.ptr 5 0), .one (.ptr 6 0), .one (.int .i64 y)] → bl = [some (.box [.int .i64 a, .int .i64 b, .int .i64 c, .int .i64 d, .lst (.int .i64) l]), some (.box [.int .i64 kk]), some (.box [.int .i64 ua0, .int .i64 ub0, .int .i64 uc0, .int .i64 ud0, .row 7, .int .i64 ua1, .int .i64 ub1, .int .i64 uc1, .int .i64 ud1, .row 8, .int .i64 ua2, .int .i64 ub2, .int .i64 uc2, .int .i64 ud2, .row 9, .int .i64 ua3, .int .i64 ub3, .int .i64 uc3, .int .i64 ud3, .row 10]), some (.box [.int .i64 va0, .int .i64 vb0, .int .i64 vc0, .int .i64 vd0, .row 11, .int .i64 va1, .int .i64 vb1, .int .i64 vc1, .int .i64 vd1, .row 12, .int .i64 va2, .int .i64 vb2, .int .i64 vc2, .int .i64 vd2, .row 13, .int .i64 va3, .int .i64 vb3, .int .i64 vc3, .int .i64 vd3, .row 14]), some (.box [.int .i64 ra, .int .i64 rb, .int .i64 rc, .int .i64 rd]), some (.box [.int .i64 a0, .int .i64 b0, .int .i64 c0, .int .i64 d0, .int .i64 a1, .int .i64 b1, .int .i64 c1, .int .i64 d1, .int .i64 a2, .int .i64 b2, .int .i64 c2, .int .i64 d2, .int .i64 a3, .int .i64 b3, .int .i64 c3, .int .i64 d3]), some (.box [.int .i64 p0, .int .i64 e0, .int .i64 q0, .int .i64 f0, .row 15, .int .i64 p1, .int .i64 e1, .int .i64 q1, .int .i64 f1, .row 16]), some (.arr 3 (.int .i64) y0), some (.arr 3 (.int .i64) y1), some (.arr 3 (.int .i64) y2), some (.arr 3 (.int .i64) y3), some (.arr 3 (.int .i64) y4), some (.arr 3 (.int .i64) y5), some (.arr 3 (.int .i64) y6), some (.arr 3 (.int .i64) y7), some (.arr 3 (.int .i64) h0), some (.arr 3 (.int .i64) h1)] → K a b c d kk ua0 ub0 uc0 ud0 ua1 ub1 uc1 ud1 ua2 ub2 uc2 ud2 ua3 ub3 uc3 ud3 va0 vb0 vc0 vd0 va1 vb1 vc1 vd1 va2 vb2 vc2 vd2 va3 vb3 vc3 vd3 ra rb rc rd a0 b0 c0 d0 a1 b1 c1 d1 a2 b2 c2 d2 a3 b3 c3 d3 p0 e0 q0 f0 p1 e1 q1 f1 y l y0 y1 y2 y3 y4 y5 y6 y7 h0 h1 = some r → Q) : Q := by
  unfold D_dwt_Split_1 at y0'
  obtain ⟨vs, rfl, y1'⟩ := pP_s y0'
  obtain ⟨vs, rfl, y2'⟩ := pP_s y1'
  obtain ⟨vs, rfl, y3'⟩ := pP_s y2'
  obtain ⟨vs, rfl, y4'⟩ := pP_s y3'
  obtain ⟨vs, rfl, y5'⟩ := pP_s y4'
  obtain ⟨vs, rfl, y6'⟩ := pP_s y5'
  obtain ⟨vs, rfl, y7'⟩ := pP_s y6'
  obtain ⟨y, vs, rfl, y8'⟩ := pI_s y7'
  obtain ⟨rfl, y9'⟩ := pE_s y8'
  obtain ⟨q', bl, rfl, y10'⟩ := bB_s y9'
  obtain ⟨a, b, c, d, q', rfl, y11'⟩ := t4_s y10'
  obtain ⟨c', q', rfl, y12'⟩ := tC_s y11'
  obtain ⟨l, rfl, y13'⟩ := kLI_s y12'
  obtain ⟨rfl, y14'⟩ := tE_s y13'
  obtain ⟨q', bl, rfl, y15'⟩ := bB_s y14'
  obtain ⟨kk, q', rfl, y16'⟩ := tI_s y15'
  obtain ⟨rfl, y17'⟩ := tE_s y16'
  obtain ⟨q', bl, rfl, y18'⟩ := bB_s y17'
  obtain ⟨ua0, ub0, uc0, ud0, ua1, ub1, uc1, ud1, ua2, ub2, uc2, ud2, ua3, ub3, uc3, ud3, rfl, y19'⟩ := rd4P_s y18'
  obtain ⟨q', bl, rfl, y20'⟩ := bB_s y19'
  obtain ⟨va0, vb0, vc0, vd0, va1, vb1, vc1, vd1, va2, vb2, vc2, vd2, va3, vb3, vc3, vd3, rfl, y21'⟩ := rd4P_s y20'
  obtain ⟨q', bl, rfl, y22'⟩ := bB_s y21'
  obtain ⟨ra, rb, rc, rd, q', rfl, y23'⟩ := t4_s y22'
  obtain ⟨rfl, y24'⟩ := tE_s y23'
  obtain ⟨q', bl, rfl, y25'⟩ := bB_s y24'
  obtain ⟨a0, b0, c0, d0, a1, b1, c1, d1, a2, b2, c2, d2, a3, b3, c3, d3, rfl, y26'⟩ := rd4R_s y25'
  obtain ⟨q', bl, rfl, y27'⟩ := bB_s y26'
  obtain ⟨p0, e0, q0, f0, p1, e1, q1, f1, rfl, y28'⟩ := rd2P_s y27'
  obtain ⟨y0, bl, rfl, y29'⟩ := bAI_s y28'
  obtain ⟨y1, bl, rfl, y30'⟩ := bAI_s y29'
  obtain ⟨y2, bl, rfl, y31'⟩ := bAI_s y30'
  obtain ⟨y3, bl, rfl, y32'⟩ := bAI_s y31'
  obtain ⟨y4, bl, rfl, y33'⟩ := bAI_s y32'
  obtain ⟨y5, bl, rfl, y34'⟩ := bAI_s y33'
  obtain ⟨y6, bl, rfl, y35'⟩ := bAI_s y34'
  obtain ⟨y7, bl, rfl, y36'⟩ := bAI_s y35'
  obtain ⟨h0, bl, rfl, y37'⟩ := bAI_s y36'
  obtain ⟨h1, bl, rfl, y38'⟩ := bAI_s y37'
  obtain ⟨rfl, y39'⟩ := bE_s y38'
  have yy' := y39'
  exact hh' _ _ _ _ _ _ _ _ _ _ _ _ _ _ _ _ _ _ _ _ _ _ _ _ _ _ _ _ _ _ _ _ _ _ _ _ _ _ _ _ _ _ _ _ _ _ _ _ _ _ _ _ _ _ _ _ _ _ _ _ _ _ _ _ _ _ _ _ _ _ _ _ _ _ _ _ _ rfl rfl yy'
theorem r_dwt_Split_1 : RoundOk Try.prog t_dwt_Split (annOf []) l_dwt_Split Out 20 0 121 [2, 3, 4, 6, 7, 8, 9, 11] (kxOf [3, 4, 6, 7, 8, 9] [4, 5]) (loopOf Try.f34 1) T_dwt_Split_1 := by
  intro vs bl Kc r h
  unfold T_dwt_Split_1 at h
  obtain ⟨t, y0', h'⟩ := getD_run h
  refine d_dwt_Split_1 y0' fun a b c d kk ua0 ub0 uc0 ud0 ua1 ub1 uc1 ud1 ua2 ub2 uc2 ud2 ua3 ub3 uc3 ud3 va0 vb0 vc0 vd0 va1 vb1 vc1 vd1 va2 vb2 vc2 vd2 va3 vb3 vc3 vd3 ra rb rc rd a0 b0 c0 d0 a1 b1 c1 d1 a2 b2 c2 d2 a3 b3 c3 d3 p0 e0 q0 f0 p1 e1 q1 f1 y l y0 y1 y2 y3 y4 y5 y6 y7 h0 h1 u1' u2' yy' => ?_
  subst u1' u2'
  cases yy'
  exact (b_dwt_Split_1 ..).trans h'
theorem d_dwt_Split_3 {α : Type} {vs : List V} {bl : List (Option Blk)} {K} {r : α} {Q : Prop} (y0' : D_dwt_Split_3 vs bl K = some r) (hh' : ∀ (ua0 : Int) (ub0 : Int) (uc0 : Int) (ud0 : Int) (ua1 : Int) (ub1 : Int) (uc1 : Int) (ud1 : Int) (ua2 : Int) (ub2 : Int) (uc2 : Int) (ud2 : Int) (ua3 : Int) (ub3 : Int) (uc3 : Int) (ud3 : Int) (va0 : Int) (vb0 : Int) (vc0 : Int) (vd0 : Int) (va1 : Int) (vb1 : Int) (vc1 : Int) (vd1 : Int) (va2 : Int) (vb2 : Int) (vc2 : Int) (vd2 : Int) (va3 : Int) (vb3 : Int) (vc3 : Int) (vd3 : Int) (p0 : Int) (e0 : Int) (q0 : Int) (f0 : Int) (p1 : Int) (e1 : Int) (q1 : Int) (f1 : Int) (a : Int) (b : Int) (c : Int) (d : Int) (kk : Int) (ii : Int) (y0 : List Int) (y1 : List Int) (y2 : List Int) (y3 : List Int) (y4 : List Int) (y5 : List Int) (y6 : List Int) (y7 : List Int) (h0 : List Int) (h1 : List Int), vs = [.one (.ptr 0 0), .one (.ptr 1 0), .one (.fn 70 [2, 3, 4, 1]), .one (.int .i64 ii)] → bl = [some (.box [.int .i64 ua0, .int .i64 ub0, .int .i64 uc0, .int .i64 ud0, .row 5, .int .i64 ua1, .int .i64 ub1, .int .i64 uc1, .int .i64 ud1, .row 6, .int .i64 ua2, .int .i64 ub2, .int .i64 uc2, .int .i64 ud2, .row 7, .int .i64 ua3, .int .i64 ub3, .int .i64 uc3, .int .i64 ud3, .row 8]), some (.box [.int .i64 va0, .int .i64 vb0, .int .i64 vc0, .int .i64 vd0, .row 9, .int .i64 va1, .int .i64 vb1, .int .i64 vc1, .int .i64 vd1, .row 10, .int .i64 va2, .int .i64 vb2, .int .i64 vc2, .int .i64 vd2, .row 11, .int .i64 va3, .int .i64 vb3, .int .i64 vc3, .int .i64 vd3, .row 12]), some (.box [.int .i64 p0, .int .i64 e0, .int .i64 q0, .int .i64 f0, .row 13, .int .i64 p1, .int .i64 e1, .int .i64 q1, .int .i64 f1, .row 14]), some (.box [.int .i64 a, .int .i64 b, .int .i64 c, .int .i64 d]), some (.box [.int .i64 kk]), some (.arr 3 (.int .i64) y0), some (.arr 3 (.int .i64) y1), some (.arr 3 (.int .i64) y2), some (.arr 3 (.int .i64) y3), some (.arr 3 (.int .i64) y4), some (.arr 3 (.int .i64) y5), some (.arr 3 (.int .i64) y6), some (.arr 3 (.int .i64) y7), some (.arr 3 (.int .i64) h0), some (.arr 3 (.int .i64) h1)] → K ua0 ub0 uc0 ud0 ua1 ub1 uc1 ud1 ua2 ub2 uc2 ud2 ua3 ub3 uc3 ud3 va0 vb0 vc0 vd0 va1 vb1 vc1 vd1 va2 vb2 vc2 vd2 va3 vb3 vc3 vd3 p0 e0 q0 f0 p1 e1 q1 f1 a b c d kk ii y0 y1 y2 y3 y4 y5 y6 y7 h0 h1 = some r → Q) : Q := by
  unfold D_dwt_Split_3 at y0'
  obtain ⟨vs, rfl, y1'⟩ := pP_s y0'
  obtain ⟨vs, rfl, y2'⟩ := pP_s y1'
  obtain ⟨c', vs, rfl, y3'⟩ := pO_s y2'
  obtain ⟨rfl, y4'⟩ := kF_s y3'
  obtain ⟨ii, vs, rfl, y5'⟩ := pI_s y4'
  obtain ⟨rfl, y6'⟩ := pE_s y5'
  obtain ⟨q', bl, rfl, y7'⟩ := bB_s y6'
  obtain ⟨ua0, ub0, uc0, ud0, ua1, ub1, uc1, ud1, ua2, ub2, uc2, ud2, ua3, ub3, uc3, ud3, rfl, y8'⟩ := rd4P_s y7'
  obtain ⟨q', bl, rfl, y9'⟩ := bB_s y8'
  obtain ⟨va0, vb0, vc0, vd0, va1, vb1, vc1, vd1, va2, vb2, vc2, vd2, va3, vb3, vc3, vd3, rfl, y10'⟩ := rd4P_s y9'
  obtain ⟨q', bl, rfl, y11'⟩ := bB_s y10'
  obtain ⟨p0, e0, q0, f0, p1, e1, q1, f1, rfl, y12'⟩ := rd2P_s y11'
  obtain ⟨q', bl, rfl, y13'⟩ := bB_s y12'
  obtain ⟨a, b, c, d, q', rfl, y14'⟩ := t4_s y13'
  obtain ⟨rfl, y15'⟩ := tE_s y14'
  obtain ⟨q', bl, rfl, y16'⟩ := bB_s y15'
  obtain ⟨kk, q', rfl, y17'⟩ := tI_s y16'
  obtain ⟨rfl, y18'⟩ := tE_s y17'
  obtain ⟨y0, bl, rfl, y19'⟩ := bAI_s y18'
  obtain ⟨y1, bl, rfl, y20'⟩ := bAI_s y19'
  obtain ⟨y2, bl, rfl, y21'⟩ := bAI_s y20'
  obtain ⟨y3, bl, rfl, y22'⟩ := bAI_s y21'
  obtain ⟨y4, bl, rfl, y23'⟩ := bAI_s y22'
  obtain ⟨y5, bl, rfl, y24'⟩ := bAI_s y23'
  obtain ⟨y6, bl, rfl, y25'⟩ := bAI_s y24'
  obtain ⟨y7, bl, rfl, y26'⟩ := bAI_s y25'
  obtain ⟨h0, bl, rfl, y27'⟩ := bAI_s y26'
  obtain ⟨h1, bl, rfl, y28'⟩ := bAI_s y27'
  obtain ⟨rfl, y29'⟩ := bE_s y28'
  have yy' := y29'
  exact hh' _ _ _ _ _ _ _ _ _ _ _ _ _ _ _ _ _ _ _ _ _ _ _ _ _ _ _ _ _ _ _ _ _ _ _ _ _ _ _ _ _ _ _ _ _ _ _ _ _ _ _ _ _ _ _ _ rfl rfl yy'
theorem r_dwt_Split_3 : RoundOk Try.prog t_dwt_Split (annOf []) l_dwt_Split Out 20 0 121 [4, 6, 18, 109] (kxOf [4, 6] [4, 5]) (loopOf Try.f34 3) T_dwt_Split_3 := by
  intro vs bl Kc r h
  unfold T_dwt_Split_3 at h
  obtain ⟨t, y0', h'⟩ := getD_run h
  refine d_dwt_Split_3 y0' fun ua0 ub0 uc0 ud0 ua1 ub1 uc1 ud1 ua2 ub2 uc2 ud2 ua3 ub3 uc3 ud3 va0 vb0 vc0 vd0 va1 vb1 vc1 vd1 va2 vb2 vc2 vd2 va3 vb3 vc3 vd3 p0 e0 q0 f0 p1 e1 q1 f1 a b c d kk ii y0 y1 y2 y3 y4 y5 y6 y7 h0 h1 u1' u2' yy' => ?_
  subst u1' u2'
  cases yy'
  by_cases w0' : ii = 0
  · subst w0'; exact (b_dwt_Split_3_0 ..).trans h'
  by_cases w1' : ii = 1
  · subst w1'; exact (b_dwt_Split_3_1 ..).trans h'
  by_cases w2' : ii = 2
  · subst w2'; exact (b_dwt_Split_3_2 ..).trans h'
  rw [hds_no (by intro j hj; simp only [List.length_cons, List.length_nil] at hj; omega)] at h'
  cases h'
theorem o_dwt_Split : loopsOf (bodyOf Try.f34) = [loopOf Try.f34 0, loopOf Try.f34 1, loopOf Try.f34 2, loopOf Try.f34 3] := by kernel_rfl
theorem zz_dwt_Split_1 (a b c d kk ua0 ub0 uc0 ud0 ua1 ub1 uc1 ud1 ua2 ub2 uc2 ud2 ua3 ub3 uc3 ud3 va0 vb0 vc0 vd0 va1 vb1 vc1 vd1 va2 vb2 vc2 vd2 va3 vb3 vc3 vd3 ra rb rc rd a0 b0 c0 d0 a1 b1 c1 d1 a2 b2 c2 d2 a3 b3 c3 d3 p0 e0 q0 f0 p1 e1 q1 f1 y : Int) (l y0 y1 y2 y3 y4 y5 y6 y7 h0 h1 : List Int) (hk : k_dwt_Split_1 a b c d kk ua0 ub0 uc0 ud0 ua1 ub1 uc1 ud1 ua2 ub2 uc2 ud2 ua3 ub3 uc3 ud3 va0 vb0 vc0 vd0 va1 vb1 vc1 vd1 va2 vb2 vc2 vd2 va3 vb3 vc3 vd3 ra rb rc rd a0 b0 c0 d0 a1 b1 c1 d1 a2 b2 c2 d2 a3 b3 c3 d3 p0 e0 q0 f0 p1 e1 q1 f1 y l y0 y1 y2 y3 y4 y5 y6 y7 h0 h1 = true) : ZZ (c_dwt_Split_1 a b c d kk ua0 ub0 uc0 ud0 ua1 ub1 uc1 ud1 ua2 ub2 uc2 ud2 ua3 ub3 uc3 ud3 va0 vb0 vc0 vd0 va1 vb1 vc1 vd1 va2 vb2 vc2 vd2 va3 vb3 vc3 vd3 ra rb rc rd a0 b0 c0 d0 a1 b1 c1 d1 a2 b2 c2 d2 a3 b3 c3 d3 p0 e0 q0 f0 p1 e1 q1 f1 y l y0 y1 y2 y3 y4 y5 y6 y7 h0 h1) T_dwt_Split_1 [.one (.ptr 0 0), .one (.ptr 1 0), .one (.ptr 2 0), .one (.ptr 3 0), .one (.ptr 4 0), .one (.ptr 5 0), .one (.ptr 6 0), .one (.int .i64 y)] [some (.box [.int .i64 a, .int .i64 b, .int .i64 c, .int .i64 d, .lst (.int .i64) l]), some (.box [.int .i64 kk]), some (.box [.int .i64 ua0, .int .i64 ub0, .int .i64 uc0, .int .i64 ud0, .row 7, .int .i64 ua1, .int .i64 ub1, .int .i64 uc1, .int .i64 ud1, .row 8, .int .i64 ua2, .int .i64 ub2, .int .i64 uc2, .int .i64 ud2, .row 9, .int .i64 ua3, .int .i64 ub3, .int .i64 uc3, .int .i64 ud3, .row 10]), some (.box [.int .i64 va0, .int .i64 vb0, .int .i64 vc0, .int .i64 vd0, .row 11, .int .i64 va1, .int .i64 vb1, .int .i64 vc1, .int .i64 vd1, .row 12, .int .i64 va2, .int .i64 vb2, .int .i64 vc2, .int .i64 vd2, .row 13, .int .i64 va3, .int .i64 vb3, .int .i64 vc3, .int .i64 vd3, .row 14]), some (.box [.int .i64 ra, .int .i64 rb, .int .i64 rc, .int .i64 rd]), some (.box [.int .i64 a0, .int .i64 b0, .int .i64 c0, .int .i64 d0, .int .i64 a1, .int .i64 b1, .int .i64 c1, .int .i64 d1, .int .i64 a2, .int .i64 b2, .int .i64 c2, .int .i64 d2, .int .i64 a3, .int .i64 b3, .int .i64 c3, .int .i64 d3]), some (.box [.int .i64 p0, .int .i64 e0, .int .i64 q0, .int .i64 f0, .row 15, .int .i64 p1, .int .i64 e1, .int .i64 q1, .int .i64 f1, .row 16]), some (.arr 3 (.int .i64) y0), some (.arr 3 (.int .i64) y1), some (.arr 3 (.int .i64) y2), some (.arr 3 (.int .i64) y3), some (.arr 3 (.int .i64) y4), some (.arr 3 (.int .i64) y5), some (.arr 3 (.int .i64) y6), some (.arr 3 (.int .i64) y7), some (.arr 3 (.int .i64) h0), some (.arr 3 (.int .i64) h1)] := by
  simp only [k_dwt_Split_1, Bool.and_eq_true, decide_eq_true_eq] at hk
  obtain ⟨⟨⟨⟨⟨⟨⟨rfl, rfl⟩, rfl⟩, hv⟩, z1⟩, z2⟩, rfl⟩, rfl⟩ := hk
  have pb := plV_b hv
  have hf : fit 281474976710656 l := fit_mono (fitB_fit z2) (by omega)
  obtain ⟨w', hw⟩ : ∃ w' : Nat, c - ra = w' := ⟨(c - ra).toNat, by omega⟩
  obtain ⟨n', hn⟩ : ∃ n' : Nat, rd - y = n' := ⟨(rd - y).toNat, by omega⟩
  have e5 : (c - ra).toNat = w' := by omega
  have e6 : (rd - y).toNat = n' := by omega
  have hll : l.length = n' * w' := by
    have := pb.2.2.1
    rw [hw, hn] at this
    rw [Nat.mul_comm]; exact_mod_cast this
  have hg := fun j (hj : j < n') => fw_good (l := rowAt l w' j) z1 (inr_t (a := 0) (b := 4096) (x := ra) (by omega) (by omega)) (by rw [rowAt_len hll hj]; omega) (fit_row hf _ _)
  have ce := cev_bd (s := ra) (n := (w' : Int)) (by omega)
  have hlo := fun j (hj : j ≤ n') => catR_len (f := rLo l w' ra kk) (g := (cev ra w').toNat) j (fun q hq => by have := (hg q (by omega)).2.1; rw [rowAt_len hll (by omega)] at this; unfold rLo; omega)
  have hhi := fun j (hj : j ≤ n') => catR_len (f := rHi l w' ra kk) (g := (w' - cev ra w').toNat) j (fun q hq => by have := (hg q (by omega)).2.2; rw [rowAt_len hll (by omega)] at this; unfold rHi; omega)
  refine Exists.elim (z_fold (T := T_dwt_Split_1) (st := fun j => ([.one (.ptr 0 0), .one (.ptr 1 0), .one (.ptr 2 0), .one (.ptr 3 0), .one (.ptr 4 0), .one (.ptr 5 0), .one (.ptr 6 0), .one (.int .i64 (y + (j : Int)))], [some (.box [.int .i64 ra, .int .i64 y, .int .i64 c, .int .i64 rd, .lst (.int .i64) l]), some (.box [.int .i64 kk]), some (.box [.int .i64 ua0, .int .i64 ub0, .int .i64 uc0, .int .i64 ud0, .row 7, .int .i64 ua1, .int .i64 ub1, .int .i64 uc1, .int .i64 ud1, .row 8, .int .i64 ua2, .int .i64 ub2, .int .i64 uc2, .int .i64 ud2, .row 9, .int .i64 ua3, .int .i64 ub3, .int .i64 uc3, .int .i64 ud3, .row 10]), some (.box [.int .i64 va0, .int .i64 vb0, .int .i64 vc0, .int .i64 vd0, .row 11, .int .i64 va1, .int .i64 vb1, .int .i64 vc1, .int .i64 vd1, .row 12, .int .i64 va2, .int .i64 vb2, .int .i64 vc2, .int .i64 vd2, .row 13, .int .i64 va3, .int .i64 vb3, .int .i64 vc3, .int .i64 vd3, .row 14]), some (.box [.int .i64 ra, .int .i64 rb, .int .i64 rc, .int .i64 rd]), some (.box [.int .i64 a0, .int .i64 b0, .int .i64 c0, .int .i64 d0, .int .i64 a1, .int .i64 b1, .int .i64 c1, .int .i64 d1, .int .i64 a2, .int .i64 b2, .int .i64 c2, .int .i64 d2, .int .i64 a3, .int .i64 b3, .int .i64 c3, .int .i64 d3]), some (.box [.int .i64 p0, .int .i64 e0, .int .i64 q0, .int .i64 f0, .row 15, .int .i64 p1, .int .i64 e1, .int .i64 q1, .int .i64 f1, .row 16]), some (.arr 3 (.int .i64) y0), some (.arr 3 (.int .i64) y1), some (.arr 3 (.int .i64) y2), some (.arr 3 (.int .i64) y3), some (.arr 3 (.int .i64) y4), some (.arr 3 (.int .i64) y5), some (.arr 3 (.int .i64) y6), some (.arr 3 (.int .i64) y7), some (.arr 3 (.int .i64) (catR (rLo l w' ra kk) j)), some (.arr 3 (.int .i64) (catR (rHi l w' ra kk) j))])) n' (.leaf (.exit 2) [.one (.ptr 0 0), .one (.ptr 1 0), .one (.ptr 2 0), .one (.ptr 3 0), .one (.ptr 4 0), .one (.ptr 5 0)] [some (.box [.int .i64 kk]), some (.box [.int .i64 ua0, .int .i64 ub0, .int .i64 uc0, .int .i64 ud0, .row 6, .int .i64 ua1, .int .i64 ub1, .int .i64 uc1, .int .i64 ud1, .row 7, .int .i64 ua2, .int .i64 ub2, .int .i64 uc2, .int .i64 ud2, .row 8, .int .i64 ua3, .int .i64 ub3, .int .i64 uc3, .int .i64 ud3, .row 9]), some (.box [.int .i64 va0, .int .i64 vb0, .int .i64 vc0, .int .i64 vd0, .row 10, .int .i64 va1, .int .i64 vb1, .int .i64 vc1, .int .i64 vd1, .row 11, .int .i64 va2, .int .i64 vb2, .int .i64 vc2, .int .i64 vd2, .row 12, .int .i64 va3, .int .i64 vb3, .int .i64 vc3, .int .i64 vd3, .row 13]), some (.box [.int .i64 ra, .int .i64 rb, .int .i64 rc, .int .i64 rd]), some (.box [.int .i64 a0, .int .i64 b0, .int .i64 c0, .int .i64 d0, .int .i64 a1, .int .i64 b1, .int .i64 c1, .int .i64 d1, .int .i64 a2, .int .i64 b2, .int .i64 c2, .int .i64 d2, .int .i64 a3, .int .i64 b3, .int .i64 c3, .int .i64 d3]), some (.box [.int .i64 p0, .int .i64 e0, .int .i64 q0, .int .i64 f0, .row 14, .int .i64 p1, .int .i64 e1, .int .i64 q1, .int .i64 f1, .row 15]), some (.arr 3 (.int .i64) y0), some (.arr 3 (.int .i64) y1), some (.arr 3 (.int .i64) y2), some (.arr 3 (.int .i64) y3), some (.arr 3 (.int .i64) y4), some (.arr 3 (.int .i64) y5), some (.arr 3 (.int .i64) y6), some (.arr 3 (.int .i64) y7), some (.arr 3 (.int .i64) (catR (rLo l w' ra kk) n')), some (.arr 3 (.int .i64) (catR (rHi l w' ra kk) n'))]) (fun j hj F K => ?_) (fun F K => ?_)) (fun k hk => ⟨k, fun K r h => ?_⟩)
  · have hg' := hg j hj
    have hl1 := hlo j (by omega)
    have hl2 := hhi j (by omega)
    have hl3 := hlo (j + 1) (by omega)
    have hl4 := hhi (j + 1) (by omega)
    have m1 : (j + 1) * (cev ra w').toNat ≤ 4096 * 4096 := Nat.mul_le_mul (by omega) (by omega)
    have m2 : (j + 1) * (w' - cev ra w').toNat ≤ 4096 * 4096 := Nat.mul_le_mul (by omega) (by omega)
    have hc : plRow ra y c rd l (y + (j : Int)) = rowAt l w' j := by
      unfold plRow rowAt
      rw [if_pos (by simp only [rowOk, hv, Bool.and_eq_true, decide_eq_true_eq, true_and]; omega), e5, show y + (j : Int) - y = (j : Int) by omega, hw, show ((j : Int) * (w' : Int)).toNat = j * w' by rw [← Int.natCast_mul, Int.toNat_natCast]]
    simp only [catR, List.length_append] at hl3 hl4
    simp only [tu_dwt_Split_1, U_dwt_Split_1, LT.next, LT.run, ite2_bool, decide_eq_true_eq, hc]
    rw [if_pos (by omega), if_pos (small_of (by rw [rowAt_len hll hj]; omega)), hg'.1, if_neg (by decide), if_pos (by unfold rLo at hl3 ⊢; omega), if_pos (by unfold rHi at hl4 ⊢; omega), wrap_in (n := y + (j : Int) + 1) (by omega) (by omega), show y + (j : Int) + 1 = y + ((j + 1 : Nat) : Int) by omega]
    rfl
  · simp only [tu_dwt_Split_1, U_dwt_Split_1, LT.next, LT.run, ite2_bool, decide_eq_true_eq]
    rw [if_neg (by omega)]
  · unfold c_dwt_Split_1 sLo sHi at h
    rw [e5, e6] at h
    have hk' := hk K r h
    rw [show y + ((0 : Nat) : Int) = y by simp] at hk'
    exact hk'
theorem z_dwt_Split_1 : ZOk S_dwt_Split_1 T_dwt_Split_1 := by
  intro vs bl t y0'
  refine d_dwt_Split_1 y0' fun a b c d kk ua0 ub0 uc0 ud0 ua1 ub1 uc1 ud1 ua2 ub2 uc2 ud2 ua3 ub3 uc3 ud3 va0 vb0 vc0 vd0 va1 vb1 vc1 vd1 va2 vb2 vc2 vd2 va3 vb3 vc3 vd3 ra rb rc rd a0 b0 c0 d0 a1 b1 c1 d1 a2 b2 c2 d2 a3 b3 c3 d3 p0 e0 q0 f0 p1 e1 q1 f1 y l y0 y1 y2 y3 y4 y5 y6 y7 h0 h1 u1' u2' yy' => ?_
  subst u1' u2'
  obtain ⟨hk, rfl⟩ := Prod.mk.inj (Option.some.inj yy')
  exact zz_dwt_Split_1 _ _ _ _ _ _ _ _ _ _ _ _ _ _ _ _ _ _ _ _ _ _ _ _ _ _ _ _ _ _ _ _ _ _ _ _ _ _ _ _ _ _ _ _ _ _ _ _ _ _ _ _ _ _ _ _ _ _ _ _ _ _ _ _ _ _ _ _ _ _ _ _ _ _ _ _ _ hk
theorem zz_dwt_Split_3 (ua0 ub0 uc0 ud0 ua1 ub1 uc1 ud1 ua2 ub2 uc2 ud2 ua3 ub3 uc3 ud3 va0 vb0 vc0 vd0 va1 vb1 vc1 vd1 va2 vb2 vc2 vd2 va3 vb3 vc3 vd3 p0 e0 q0 f0 p1 e1 q1 f1 a b c d kk ii : Int) (y0 y1 y2 y3 y4 y5 y6 y7 h0 h1 : List Int) (hk : k_dwt_Split_3 ua0 ub0 uc0 ud0 ua1 ub1 uc1 ud1 ua2 ub2 uc2 ud2 ua3 ub3 uc3 ud3 va0 vb0 vc0 vd0 va1 vb1 vc1 vd1 va2 vb2 vc2 vd2 va3 vb3 vc3 vd3 p0 e0 q0 f0 p1 e1 q1 f1 a b c d kk ii y0 y1 y2 y3 y4 y5 y6 y7 h0 h1 = true) : ZZ (c_dwt_Split_3 ua0 ub0 uc0 ud0 ua1 ub1 uc1 ud1 ua2 ub2 uc2 ud2 ua3 ub3 uc3 ud3 va0 vb0 vc0 vd0 va1 vb1 vc1 vd1 va2 vb2 vc2 vd2 va3 vb3 vc3 vd3 p0 e0 q0 f0 p1 e1 q1 f1 a b c d kk ii y0 y1 y2 y3 y4 y5 y6 y7 h0 h1) T_dwt_Split_3 [.one (.ptr 0 0), .one (.ptr 1 0), .one (.fn 70 [2, 3, 4, 1]), .one (.int .i64 ii)] [some (.box [.int .i64 ua0, .int .i64 ub0, .int .i64 uc0, .int .i64 ud0, .row 5, .int .i64 ua1, .int .i64 ub1, .int .i64 uc1, .int .i64 ud1, .row 6, .int .i64 ua2, .int .i64 ub2, .int .i64 uc2, .int .i64 ud2, .row 7, .int .i64 ua3, .int .i64 ub3, .int .i64 uc3, .int .i64 ud3, .row 8]), some (.box [.int .i64 va0, .int .i64 vb0, .int .i64 vc0, .int .i64 vd0, .row 9, .int .i64 va1, .int .i64 vb1, .int .i64 vc1, .int .i64 vd1, .row 10, .int .i64 va2, .int .i64 vb2, .int .i64 vc2, .int .i64 vd2, .row 11, .int .i64 va3, .int .i64 vb3, .int .i64 vc3, .int .i64 vd3, .row 12]), some (.box [.int .i64 p0, .int .i64 e0, .int .i64 q0, .int .i64 f0, .row 13, .int .i64 p1, .int .i64 e1, .int .i64 q1, .int .i64 f1, .row 14]), some (.box [.int .i64 a, .int .i64 b, .int .i64 c, .int .i64 d]), some (.box [.int .i64 kk]), some (.arr 3 (.int .i64) y0), some (.arr 3 (.int .i64) y1), some (.arr 3 (.int .i64) y2), some (.arr 3 (.int .i64) y3), some (.arr 3 (.int .i64) y4), some (.arr 3 (.int .i64) y5), some (.arr 3 (.int .i64) y6), some (.arr 3 (.int .i64) y7), some (.arr 3 (.int .i64) h0), some (.arr 3 (.int .i64) h1)] := by
  simp only [k_dwt_Split_3, Bool.and_eq_true, decide_eq_true_eq] at hk
  obtain ⟨⟨rfl, s0⟩, s1⟩ := hk
  refine ⟨3, fun K r h => ?_⟩
  simp only [iter, tu_dwt_Split_3_0, U_dwt_Split_3_0, LT.next, LT.run, ite2_bool, s0, if_true]
  simp only [iter, tu_dwt_Split_3_1, U_dwt_Split_3_1, LT.next, LT.run, ite2_bool, s1, if_true]
  simp only [iter, tu_dwt_Split_3_2, U_dwt_Split_3_2, LT.next, LT.run, ite2_bool]
  exact h
theorem z_dwt_Split_3 : ZOk S_dwt_Split_3 T_dwt_Split_3 := by
  intro vs bl t y0'
  refine d_dwt_Split_3 y0' fun ua0 ub0 uc0 ud0 ua1 ub1 uc1 ud1 ua2 ub2 uc2 ud2 ua3 ub3 uc3 ud3 va0 vb0 vc0 vd0 va1 vb1 vc1 vd1 va2 vb2 vc2 vd2 va3 vb3 vc3 vd3 p0 e0 q0 f0 p1 e1 q1 f1 a b c d kk ii y0 y1 y2 y3 y4 y5 y6 y7 h0 h1 u1' u2' yy' => ?_
  subst u1' u2'
  obtain ⟨hk, rfl⟩ := Prod.mk.inj (Option.some.inj yy')
  exact zz_dwt_Split_3 _ _ _ _ _ _ _ _ _ _ _ _ _ _ _ _ _ _ _ _ _ _ _ _ _ _ _ _ _ _ _ _ _ _ _ _ _ _ _ _ _ _ _ _ _ _ _ _ _ _ _ _ _ _ _ _ hk
theorem q_dwt_Split (a b c d k : Int) (l : List Int) (hok : small l.length = true) : funR Try.prog t_dwt_Split (annOf []) l_dwt_Split 20 Try.f34 [.agg [.int .i64 a, .int .i64 b, .int .i64 c, .int .i64 d, .lst (.int .i64) l], .one (.int .i64 k)] [] = some ⟨.tup [(true, [.int .i64 ((spR a b c d k l 0).1), .int .i64 ((spR a b c d k l 0).2.1), .int .i64 ((spR a b c d k l 0).2.2.1), .int .i64 ((spR a b c d k l 0).2.2.2), .row 0, .int .i64 ((spR a b c d k l 1).1), .int .i64 ((spR a b c d k l 1).2.1), .int .i64 ((spR a b c d k l 1).2.2.1), .int .i64 ((spR a b c d k l 1).2.2.2), .row 1, .int .i64 ((spR a b c d k l 2).1), .int .i64 ((spR a b c d k l 2).2.1), .int .i64 ((spR a b c d k l 2).2.2.1), .int .i64 ((spR a b c d k l 2).2.2.2), .row 2, .int .i64 ((spR a b c d k l 3).1), .int .i64 ((spR a b c d k l 3).2.1), .int .i64 ((spR a b c d k l 3).2.2.1), .int .i64 ((spR a b c d k l 3).2.2.2), .row 3]), (false, [.int .i64 (spErr a b c d k l)])], [], [.arr 3 (.int .i64) (spD0 a b c d k l), .arr 3 (.int .i64) (spD1 a b c d k l), .arr 3 (.int .i64) (spD2 a b c d k l), .arr 3 (.int .i64) (spD3 a b c d k l)]⟩ := by
    refine (e_dwt_Split ..).trans ?_
    simp only [ite2_bool]
    cases hv : plV a b c d l
    · simp [spErr, spR, spD0, spD1, spD2, spD3, hv]
    cases hk : inr 1 3 k
    · simp [spErr, spR, spD0, spD1, spD2, spD3, hv, hk]
    cases hf : fitB 35184372088832 l
    · simp [spErr, spR, spD0, spD1, spD2, spD3, hv, hk, hf, hok]
    have pb := plV_b hv
    have e : spErr a b c d k l = 0 := by simp [spErr, hv, hk, hf]
    have ho := half_ok hv hk (fitB_fit hf)
    have hb := bnd_v pb.1
    have hs : inr 0 4096 b = true := inr_t (by omega) (by omega)
    have ce := cev_bd (s := a) (n := c - a) (by omega)
    have cf := cev_bd (s := b) (n := d - b) (by omega)
    have v0 := valid_bnd (a := a) (b := b) (c := c) (d := d) (o := 0) (by omega) (by omega)
    have v1 := valid_bnd (a := a) (b := b) (c := c) (d := d) (o := 1) (by omega) (by omega)
    have v2 := valid_bnd (a := a) (b := b) (c := c) (d := d) (o := 2) (by omega) (by omega)
    have v3 := valid_bnd (a := a) (b := b) (c := c) (d := d) (o := 3) (by omega) (by omega)
    have d0 : colsLo (zer (area (bnd a b c d 0).1 (bnd a b c d 0).2.1 (bnd a b c d 0).2.2.1 (bnd a b c d 0).2.2.2)) (sLo a b c d k l) (Int.toNat ((bnd a b c d 0).2.2.1 - (bnd a b c d 0).1)) (Int.toNat (d - b)) b k = spD0 a b c d k l := by
      rw [spD0, if_pos e]
      unfold bw bh
      refine colsLo_mat hk hs (by omega) ho.2.2.1 ?_ (toNat_area v0)
      simp only [hb.1, cev]; omega
    have d1 : colsLo (zer (area (bnd a b c d 1).1 (bnd a b c d 1).2.1 (bnd a b c d 1).2.2.1 (bnd a b c d 1).2.2.2)) (sHi a b c d k l) (Int.toNat ((bnd a b c d 1).2.2.1 - (bnd a b c d 1).1)) (Int.toNat (d - b)) b k = spD1 a b c d k l := by
      rw [spD1, if_pos e]
      unfold bw bh
      refine colsLo_mat hk hs (by omega) ho.2.2.2 ?_ (toNat_area v1)
      simp only [hb.2.1, cev]; omega
    have d2 : colsHi (zer (area (bnd a b c d 2).1 (bnd a b c d 2).2.1 (bnd a b c d 2).2.2.1 (bnd a b c d 2).2.2.2)) (sLo a b c d k l) (Int.toNat ((bnd a b c d 0).2.2.1 - (bnd a b c d 0).1)) (Int.toNat (d - b)) b k = spD2 a b c d k l := by
      rw [spD2, if_pos e]
      unfold bw bh
      have ta := toNat_area v2
      simp only [hb.1, hb.2.2.1] at ta ⊢
      refine colsHi_mat hk hs (by omega) ho.2.2.1 ?_ ta
      simp only [cev]; omega
    have d3 : colsHi (zer (area (bnd a b c d 3).1 (bnd a b c d 3).2.1 (bnd a b c d 3).2.2.1 (bnd a b c d 3).2.2.2)) (sHi a b c d k l) (Int.toNat ((bnd a b c d 1).2.2.1 - (bnd a b c d 1).1)) (Int.toNat (d - b)) b k = spD3 a b c d k l := by
      rw [spD3, if_pos e]
      unfold bw bh
      have ta := toNat_area v3
      simp only [hb.2.1, hb.2.2.2] at ta ⊢
      refine colsHi_mat hk hs (by omega) ho.2.2.2 ?_ ta
      simp only [cev]; omega
    rw [d0, d1, d2, d3]
    have k1 : k_dwt_Split_1 a b c d k 0 0 0 0 0 0 0 0 0 0 0 0 0 0 0 0 0 0 0 0 0 0 0 0 0 0 0 0 0 0 0 0 a b c d (bnd a b c d 0).1 (bnd a b c d 0).2.1 (bnd a b c d 0).2.2.1 (bnd a b c d 0).2.2.2 (bnd a b c d 1).1 (bnd a b c d 1).2.1 (bnd a b c d 1).2.2.1 (bnd a b c d 1).2.2.2 (bnd a b c d 2).1 (bnd a b c d 2).2.1 (bnd a b c d 2).2.2.1 (bnd a b c d 2).2.2.2 (bnd a b c d 3).1 (bnd a b c d 3).2.1 (bnd a b c d 3).2.2.1 (bnd a b c d 3).2.2.2 (bnd a b c d 0).1 b (bnd a b c d 0).2.2.1 d (bnd a b c d 1).1 b (bnd a b c d 1).2.2.1 d b l [] [] [] [] [] [] [] [] [] [] = true := by
      simp only [k_dwt_Split_1, hv, hk, hf, decide_true, Bool.and_self]
    rw [k1, v0, v1, v2, v3]
    have ta0 := toNat_area v0
    have ta1 := toNat_area v1
    have ta2 := toNat_area v2
    have ta3 := toNat_area v3
    have mm : ∀ x y z : Int, 0 ≤ x → x ≤ z → 0 ≤ y → x * y ≤ z * y := fun x y z h1 h2 h3 => Int.mul_le_mul_of_nonneg_right h2 h3
    have m1 := mm (cev a (c - a)) (d - b) (c - a) ce.1 ce.2 (by omega)
    have m2 := mm ((c - a) - cev a (c - a)) (d - b) (c - a) (by omega) (by omega) (by omega)
    have zl : ∀ (x : Int) (p q e f m n : Int), x.toNat = (f - e).toNat * (q - p).toNat → p ≤ q → f - e = m → 0 ≤ m → q - p = n → ((zer x).length : Int) = n * m := by
      intro x p q e f m n h1 h2 h3 h4 h5
      rw [zer, List.length_replicate, h1, Int.natCast_mul, Int.toNat_of_nonneg (by omega), Int.toNat_of_nonneg (by omega), h3, h5, Int.mul_comm]
    have s0 : spOk (bnd a b c d 0).1 b (bnd a b c d 0).2.2.1 d b k (bnd a b c d 0).1 (bnd a b c d 0).2.2.1 (bnd a b c d 2).1 (bnd a b c d 2).2.2.1 (sLo a b c d k l) (zer (area (bnd a b c d 0).1 (bnd a b c d 0).2.1 (bnd a b c d 0).2.2.1 (bnd a b c d 0).2.2.2)) (zer (area (bnd a b c d 2).1 (bnd a b c d 2).2.1 (bnd a b c d 2).2.2.1 (bnd a b c d 2).2.2.2)) = true := by
      simp only [hb.1, hb.2.2.1] at ta0 ta2 ⊢
      have ew : (c + 1) / 2 - (a + 1) / 2 = cev a (c - a) := by unfold cev; omega
      exact spOk_i (by omega) hk (by rw [ew]; exact ho.1) (by rw [ew]; omega) ho.2.2.1 (zl _ _ _ _ _ _ _ ta0 (by omega) (by unfold cev; omega) cf.1 rfl) (zl _ _ _ _ _ _ _ ta2 (by omega) (by unfold cev; omega) (by omega) rfl)
    have s1 : spOk (bnd a b c d 1).1 b (bnd a b c d 1).2.2.1 d b k (bnd a b c d 1).1 (bnd a b c d 1).2.2.1 (bnd a b c d 3).1 (bnd a b c d 3).2.2.1 (sHi a b c d k l) (zer (area (bnd a b c d 1).1 (bnd a b c d 1).2.1 (bnd a b c d 1).2.2.1 (bnd a b c d 1).2.2.2)) (zer (area (bnd a b c d 3).1 (bnd a b c d 3).2.1 (bnd a b c d 3).2.2.1 (bnd a b c d 3).2.2.2)) = true := by
      simp only [hb.2.1, hb.2.2.2] at ta1 ta3 ⊢
      have ew : c / 2 - a / 2 = (c - a) - cev a (c - a) := by unfold cev; omega
      exact spOk_i (by omega) hk (by rw [ew]; exact ho.2.1) (by rw [ew]; omega) ho.2.2.2 (zl _ _ _ _ _ _ _ ta1 (by omega) (by unfold cev; omega) cf.1 rfl) (zl _ _ _ _ _ _ _ ta3 (by omega) (by unfold cev; omega) (by omega) rfl)
    simp only [k_dwt_Split_3, s0, s1, decide_true, Bool.and_self, Bool.not_true, Bool.and_true, if_true, hok, spR, e, reduceIte, Bool.false_eq_true]
theorem s_dwt_Split : SoundFun Try.prog 34 G_dwt_Split := by
  refine fun_ok (tab := t_dwt_Split) (ann := annOf []) (lt := l_dwt_Split) (tab_cons s_pl_Valid (tab_cons s_dwt_Bands (tab_cons s_dwt_known (tab_cons s_dwt_exceeds (tab_cons s_pl_Row (tab_cons s_lift_Forward (tab_cons s_dwt_empty (tab_cons s_dwt_Split_1 tab_nil)))))))) (by kernel_rfl) (fn := Try.f34) (by kernel_rfl) (by decide) (c := bodyOf Try.f34) (by kernel_rfl) (by
    intro m b hb
    have hb' : b ∈ loopsOf (bodyOf Try.f34) := hb
    rw [o_dwt_Split] at hb'
    simp only [List.mem_cons, List.not_mem_nil, or_false] at hb'
    rcases hb' with rfl | rfl | rfl | rfl
    · exact loop_none (by kernel_rfl) m
    · exact loop_ok (key := 17) (by kernel_rfl) rfl r_dwt_Split_1 z_dwt_Split_1 m
    · exact loop_none (by kernel_rfl) m
    · exact loop_ok (key := 32) (by kernel_rfl) rfl r_dwt_Split_3 z_dwt_Split_3 m
    ) ?_ (keep_nil (by kernel_rfl))
  intro args lent o y0'
  unfold G_dwt_Split at y0'
  obtain ⟨q', args, rfl, y1'⟩ := pA_s y0'
  obtain ⟨a, b, c, d, q', rfl, y2'⟩ := t4_s y1'
  obtain ⟨c', q', rfl, y3'⟩ := tC_s y2'
  obtain ⟨l, rfl, y4'⟩ := kLI_s y3'
  obtain ⟨rfl, y5'⟩ := tE_s y4'
  obtain ⟨k, args, rfl, y6'⟩ := pI_s y5'
  obtain ⟨rfl, y7'⟩ := pE_s y6'
  obtain ⟨rfl, y8'⟩ := nE_s y7'
  have yy' := y8'
  unfold H_dwt_Split at yy'
  obtain ⟨hok, rfl⟩ := Prod.mk.inj (Option.some.inj yy')
  exact ⟨20, q_dwt_Split _ _ _ _ _ _ hok⟩
end Go.Rx.Ch06
