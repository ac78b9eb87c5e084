/- The summaries of these functions are sound. -/
import Derived.Test.YtnhjhjkhfdlapaaRE2
import Derived.Test.YtnhjhjkhfdlapaaRS2
set_option linter.unnecessarySimpa false
set_option linter.unusedVariables false
set_option linter.unusedSimpArgs false
set_option linter.unusedVariables false
set_option linter.unusedSimpArgs false
set_option maxRecDepth 100000
set_option maxHeartbeats 4000000
open Go Go.Rx Go.Proofs
namespace Go.Rx.Ch24
theorem chk_b {h : Hd} {p : Pm} (e : checkA h p = 0) : header h = 0 ∧ nums p = true ∧ (tilesL h.a h.b h.c h.d h.tw h.th).all (fun r => fits r p h.cs) = true ∧ h.cs.length ≤ 4 := by
  unfold checkA at e
  split at e
  · rename_i h1; exact (h1 e).elim
  · rename_i h1
    split at e
    · cases e
    · split at e
      · cases e
      · rename_i h3
        split at e
        · rename_i h4
          simp only [Bool.not_eq_true', Bool.not_eq_false, Bool.and_eq_true] at h3
          have h0 : header h = 0 := by omega
          have hb := inr_b (header_ok h0).2.2.2.2.1
          exact ⟨h0, h3.1, h4, by omega⟩
        · cases e
theorem exists_b {h : Hd} {p : Pm} {t k : Int} (e : existsB h p t k = true) : checkA h p = 0 ∧ header h = 0 ∧ nums p = true ∧ h.cs.length ≤ 4 ∧ 0 ≤ t ∧ t < (tilesH h).length ∧ 0 ≤ k ∧ k < h.cs.length := by
  simp only [existsB, Bool.and_eq_true, decide_eq_true_eq] at e
  have c := chk_b e.1.1.1.1
  exact ⟨e.1.1.1.1, c.1, c.2.1, c.2.2.2, e.1.1.1.2, e.1.1.2, e.1.2, e.2⟩
theorem pl_r {b n : Int} (h : plOk b n = true) : 0 ≤ (b + 2) / 3 ∧ (b + 2) / 3 ≤ n := by
  have := pl_b h
  omega
theorem pl_w {b n : Int} (h : plOk b n = true) (hb : b > 0) : IntKind.wrap .i64 (IntKind.wrap .i64 (n - plLv b n) + 1) = (b + 2) / 3 := by
  have h1 := pl_b h
  have h2 : plLv b n = n - (b + 2) / 3 + 1 := by
    unfold plLv
    rw [if_pos h, if_neg (by omega)]
  rw [h2, wrap_in (n := n - (n - (b + 2) / 3 + 1)) (by omega) (by omega), wrap_in (by omega) (by omega)]
  omega
theorem bX_w {p : Pm} (hn : nums p = true) {R : Int} (h0 : 0 < R) (h1 : R ≤ p.le) : min p.bx (IntKind.wrap .i64 ((prec p R).1 - 1)) = bX p R ∧ min p.bw (IntKind.wrap .i64 ((prec p R).2 - 1)) = bY p R := by
  have hp := prec_b hn (show 0 ≤ R by omega) h1
  rw [if_pos h0] at hp
  unfold bX bY
  rw [if_pos h0, wrap_in (by omega) (by omega), wrap_in (by omega) (by omega)]
  exact ⟨rfl, rfl⟩
theorem bX_m {p : Pm} (hn : nums p = true) {R : Int} (h0 : 0 ≤ R) (h1 : R ≤ p.le) : min p.bx (IntKind.wrap .i64 ((prec p R).1 - min R 1)) = bX p R ∧ min p.bw (IntKind.wrap .i64 ((prec p R).2 - min R 1)) = bY p R := by
  have hp := prec_b hn h0 h1
  have hi : min R 1 = if R > 0 then (1 : Int) else 0 := by split <;> omega
  rw [hi, wrap_in (by split at hp <;> split <;> omega) (by split at hp <;> split <;> omega), wrap_in (by split at hp <;> split <;> omega) (by split at hp <;> split <;> omega)]
  exact ⟨rfl, rfl⟩
theorem q_lay_find (h : Hd) (p : Pm) (t k b i : Int) (hok : (small h.cs.length && (small p.pr.length && small p.st.length) && existsB h p t k) = true) : funR Try.prog t_lay_find (annOf []) l_lay_find 20 Try.f46 [.agg (hdC h), .agg (pmC p), .one (.int .i64 t), .one (.int .i64 k), .one (.int .i64 b), .one (.int .i64 i)] [] = some ⟨.agg [.int .i64 (fndN (compT h t k) p b i).1, .int .i64 (fndN (compT h t k) p b i).2, .row 0], [], [.arr 23 (.pair (.int .i64) (.pair (.int .i64) (.pair (.int .i64) (.int .i64)))) (fndL (compT h t k) p b i)]⟩ := by
    refine (e_lay_find ..).trans ?_
    simp only [Bool.and_eq_true] at hok
    have eb := exists_b hok.2
    have hn := eb.2.2.1
    cases hp : plOk b p.le
    · simp only [ite2_bool, fndN, fndL, fndOk, hp, Bool.not_false, Bool.false_and, Bool.false_eq_true, if_true, if_false]
    have hr := pl_r hp
    have hx := bX_b hn hr.1 hr.2
    have hb0 := pl_b hp
    simp only [ite2_bool, decide_eq_true_eq, mn_eq, fndN, fndL, fndOk, fndG, inO, inT, rsR, hp, hok, Bool.not_true, Bool.true_and, Bool.false_eq_true, if_true, if_false]
    by_cases hb : b > 0
    · have hw := bX_w hn (show 0 < (b + 2) / 3 by omega) hr.2
      rw [pl_w hp hb, hw.1, hw.2, inr_t hx.1 hx.2.1, inr_t hx.2.2.1 hx.2.2.2, if_pos hb, if_pos (show (b + 2) / 3 > 0 by omega)]
      generalize inbOk _ _ _ _ _ _ _ _ _ _ _ _ = x
      cases x
      · rfl
      · rfl
    · have h0 : b = 0 := by omega
      subst h0
      have e0 : ((0 : Int) + 2) / 3 = 0 := rfl
      rw [e0] at hx
      have hq : min p.bx (prec p 0).1 = bX p 0 ∧ min p.bw (prec p 0).2 = bY p 0 := by
        unfold bX bY
        rw [if_neg (by omega), Int.sub_zero, Int.sub_zero]
        exact ⟨rfl, rfl⟩
      rw [e0, hq.1, hq.2, inr_t hx.1 hx.2.1, inr_t hx.2.2.1 hx.2.2.2, if_neg hb]
      generalize inbOk _ _ _ _ _ _ _ _ _ _ _ _ = x
      cases x
      · rfl
      · rfl
theorem s_lay_find : SoundFun Try.prog 46 G_lay_find := by
  refine fun_ok (tab := t_lay_find) (ann := annOf []) (lt := l_lay_find) (tab_cons s_lay_Component (tab_cons s_pyr_Band (tab_cons s_pyr_Resolution (tab_cons s_params_Precinct (tab_cons s_pyr_Place (tab_cons s_pa_InBand (tab_cons s_pa_Blocks tab_nil))))))) (by kernel_rfl) (fn := Try.f46) (by kernel_rfl) (by decide) (c := bodyOf Try.f46) (by kernel_rfl) (fun m b hb => absurd hb (by show b ∉ loopsOf (bodyOf Try.f46); rw [show loopsOf (bodyOf Try.f46) = [] from by kernel_rfl]; exact List.not_mem_nil)) ?_
  intro args lent o y0'
  unfold G_lay_find at y0'
  obtain ⟨q', args, rfl, y1'⟩ := pA_s y0'
  obtain ⟨h, rfl, y2'⟩ := rdHd_s y1'
  obtain ⟨q', args, rfl, y3'⟩ := pA_s y2'
  obtain ⟨p, rfl, y4'⟩ := rdPm_s y3'
  obtain ⟨c', args, rfl, y5'⟩ := pO_s y4'
  obtain ⟨t, rfl, y6'⟩ := kI_s y5'
  obtain ⟨c', args, rfl, y7'⟩ := pO_s y6'
  obtain ⟨k, rfl, y8'⟩ := kI_s y7'
  obtain ⟨c', args, rfl, y9'⟩ := pO_s y8'
  obtain ⟨b, rfl, y10'⟩ := kI_s y9'
  obtain ⟨c', args, rfl, y11'⟩ := pO_s y10'
  obtain ⟨i, rfl, y12'⟩ := kI_s y11'
  obtain ⟨rfl, y13'⟩ := pE_s y12'
  obtain ⟨rfl, y14'⟩ := nE_s y13'
  have yy' := y14'
  unfold H_lay_find at yy'
  obtain ⟨hok, rfl⟩ := Prod.mk.inj (Option.some.inj yy')
  exact ⟨20, q_lay_find _ _ _ _ _ _ hok⟩
theorem q_ref24_blocks (a c d e s b i : Int) (p : Pm) (hok : (nums p && plOk b p.le && decide (s = (b + 2) / 3)) = true) : funR Try.prog t_ref24_blocks (annOf []) l_ref24_blocks 20 Try.f47 [.agg [.int .i64 a, .int .i64 c, .int .i64 d, .int .i64 e], .agg (pmC p), .one (.int .i64 s), .one (.int .i64 b), .one (.int .i64 i)] [] = some ⟨.tup [(false, [.int .i64 (fndN (a, c, d, e) p b i).1]), (false, [.int .i64 (fndN (a, c, d, e) p b i).2]), (false, [.row 0])], [], [.arr 23 (.pair (.int .i64) (.pair (.int .i64) (.pair (.int .i64) (.int .i64)))) (fndL (a, c, d, e) p b i)]⟩ := by
    refine (e_ref24_blocks ..).trans ?_
    simp only [Bool.and_eq_true, decide_eq_true_eq] at hok
    obtain ⟨⟨hn, hp⟩, rfl⟩ := hok
    have hr := pl_r hp
    have hw := bX_m hn hr.1 hr.2
    simp only [ite2_bool, decide_eq_true_eq, mn_eq, fndN, fndL, fndOk, fndG, inO, inT, rsR, hp, hw, Bool.true_and]
    generalize inbOk _ _ _ _ _ _ _ _ _ _ _ _ = x
    cases x
    · rfl
    · rfl
theorem s_ref24_blocks : SoundFun Try.prog 47 G_ref24_blocks := by
  refine fun_ok (tab := t_ref24_blocks) (ann := annOf []) (lt := l_ref24_blocks) (tab_cons s_ref06_Resolution (tab_cons s_ref23_Precinct (tab_cons s_ref06_Place (tab_cons s_ref22_InBand (tab_cons s_ref06_Band (tab_cons s_ref22_Blocks tab_nil)))))) (by kernel_rfl) (fn := Try.f47) (by kernel_rfl) (by decide) (c := bodyOf Try.f47) (by kernel_rfl) (fun m b hb => absurd hb (by show b ∉ loopsOf (bodyOf Try.f47); rw [show loopsOf (bodyOf Try.f47) = [] from by kernel_rfl]; exact List.not_mem_nil)) ?_
  intro args lent o y0'
  unfold G_ref24_blocks at y0'
  obtain ⟨q', args, rfl, y1'⟩ := pA_s y0'
  obtain ⟨c', q', rfl, y2'⟩ := tC_s y1'
  obtain ⟨a, rfl, y3'⟩ := kI_s y2'
  obtain ⟨c', q', rfl, y4'⟩ := tC_s y3'
  obtain ⟨c, rfl, y5'⟩ := kI_s y4'
  obtain ⟨c', q', rfl, y6'⟩ := tC_s y5'
  obtain ⟨d, rfl, y7'⟩ := kI_s y6'
  obtain ⟨c', q', rfl, y8'⟩ := tC_s y7'
  obtain ⟨e, rfl, y9'⟩ := kI_s y8'
  obtain ⟨rfl, y10'⟩ := tE_s y9'
  obtain ⟨q', args, rfl, y11'⟩ := pA_s y10'
  obtain ⟨p, rfl, y12'⟩ := rdPm_s y11'
  obtain ⟨c', args, rfl, y13'⟩ := pO_s y12'
  obtain ⟨s, rfl, y14'⟩ := kI_s y13'
  obtain ⟨c', args, rfl, y15'⟩ := pO_s y14'
  obtain ⟨b, rfl, y16'⟩ := kI_s y15'
  obtain ⟨c', args, rfl, y17'⟩ := pO_s y16'
  obtain ⟨i, rfl, y18'⟩ := kI_s y17'
  obtain ⟨rfl, y19'⟩ := pE_s y18'
  obtain ⟨rfl, y20'⟩ := nE_s y19'
  have yy' := y20'
  unfold H_ref24_blocks at yy'
  obtain ⟨hok, rfl⟩ := Prod.mk.inj (Option.some.inj yy')
  exact ⟨20, q_ref24_blocks _ _ _ _ _ _ _ _ hok⟩
theorem q_lay_Grid (h : Hd) (p : Pm) (t k b i : Int) (hok : (small h.cs.length && (small p.pr.length && small p.st.length)) = true) : funR Try.prog t_lay_Grid (annOf []) l_lay_Grid 20 Try.f18 [.agg (hdC h), .agg (pmC p), .one (.int .i64 t), .one (.int .i64 k), .one (.int .i64 b), .one (.int .i64 i)] [] = some ⟨.tup [(false, [.int .i64 (gridN h p t k b i).1]), (false, [.int .i64 (gridN h p t k b i).2])], [], []⟩ := by
    refine (e_lay_Grid ..).trans ?_
    have hok' := hok
    simp only [Bool.and_eq_true] at hok'
    simp only [ite2_bool, decide_eq_true_eq, hok, hok', if_true, gridN]
    cases he : existsB h p t k
    · rfl
    rfl
theorem s_lay_Grid : SoundFun Try.prog 18 G_lay_Grid := by
  refine fun_ok (tab := t_lay_Grid) (ann := annOf []) (lt := l_lay_Grid) (tab_cons s_lay_exists (tab_cons s_lay_find tab_nil)) (by kernel_rfl) (fn := Try.f18) (by kernel_rfl) (by decide) (c := bodyOf Try.f18) (by kernel_rfl) (fun m b hb => absurd hb (by show b ∉ loopsOf (bodyOf Try.f18); rw [show loopsOf (bodyOf Try.f18) = [] from by kernel_rfl]; exact List.not_mem_nil)) ?_
  intro args lent o y0'
  unfold G_lay_Grid at y0'
  obtain ⟨q', args, rfl, y1'⟩ := pA_s y0'
  obtain ⟨h, rfl, y2'⟩ := rdHd_s y1'
  obtain ⟨q', args, rfl, y3'⟩ := pA_s y2'
  obtain ⟨p, rfl, y4'⟩ := rdPm_s y3'
  obtain ⟨c', args, rfl, y5'⟩ := pO_s y4'
  obtain ⟨t, rfl, y6'⟩ := kI_s y5'
  obtain ⟨c', args, rfl, y7'⟩ := pO_s y6'
  obtain ⟨k, rfl, y8'⟩ := kI_s y7'
  obtain ⟨c', args, rfl, y9'⟩ := pO_s y8'
  obtain ⟨b, rfl, y10'⟩ := kI_s y9'
  obtain ⟨c', args, rfl, y11'⟩ := pO_s y10'
  obtain ⟨i, rfl, y12'⟩ := kI_s y11'
  obtain ⟨rfl, y13'⟩ := pE_s y12'
  obtain ⟨rfl, y14'⟩ := nE_s y13'
  have yy' := y14'
  unfold H_lay_Grid at yy'
  obtain ⟨hok, rfl⟩ := Prod.mk.inj (Option.some.inj yy')
  exact ⟨20, q_lay_Grid _ _ _ _ _ _ hok⟩
theorem q_ref24_Grid (h : Hd) (p : Pm) (t k b i : Int) (hok : (small h.cs.length && (small p.pr.length && small p.st.length)) = true) : funR Try.prog t_ref24_Grid (annOf []) l_ref24_Grid 20 Try.f19 [.agg (hdC h), .agg (pmC p), .one (.int .i64 t), .one (.int .i64 k), .one (.int .i64 b), .one (.int .i64 i)] [] = some ⟨.tup [(false, [.int .i64 (gridN h p t k b i).1]), (false, [.int .i64 (gridN h p t k b i).2])], [], []⟩ := by
    refine (e_ref24_Grid ..).trans ?_
    have hok' := hok
    simp only [Bool.and_eq_true] at hok'
    simp only [ite2_bool, decide_eq_true_eq, hok, hok', if_true, gridN]
    cases he : existsB h p t k
    · rfl
    simp only [Bool.not_true, Bool.and_self, Bool.false_eq_true, if_true, if_false]
    have eb := exists_b he
    have nb := nums_b eb.2.2.1
    have hz : plOk b p.le = false → fndN (compT h t k) p b i = (0, 0) := by
      intro hp
      simp only [fndN, fndOk, hp, Bool.false_and, Bool.false_eq_true, if_false]
    have hc : plOk b p.le = (decide (0 ≤ b) && decide (b < 3 * p.le + 1)) := by
      unfold plOk count
      rw [inr_t nb.1.1 nb.1.2, if_pos rfl]
    rw [wrap_in (n := 3 * p.le) (by omega) (by omega)]
    by_cases h1 : b < 0
    · rw [if_pos h1, hz (by rw [hc]; simp; omega)]
    by_cases h2 : b > 3 * p.le
    · rw [if_neg h1, if_pos h2, hz (by rw [hc]; simp; omega)]
    have hp : plOk b p.le = true := by rw [hc]; simp; omega
    have hw : IntKind.wrap .i64 (Int.tdiv (IntKind.wrap .i64 (b + 2)) 3) = (b + 2) / 3 := by
      rw [wrap_in (n := b + 2) (by omega) (by omega), Int.tdiv_eq_ediv_of_nonneg (by omega), wrap_in (by omega) (by omega)]
    rw [if_neg h1, if_neg h2, hw, eb.2.2.1, hp]
    simp only [decide_true, Bool.and_self, if_true]
theorem s_ref24_Grid : SoundFun Try.prog 19 G_ref24_Grid := by
  refine fun_ok (tab := t_ref24_Grid) (ann := annOf []) (lt := l_ref24_Grid) (tab_cons s_ref24_Component (tab_cons s_ref24_exists (tab_cons s_ref24_blocks tab_nil))) (by kernel_rfl) (fn := Try.f19) (by kernel_rfl) (by decide) (c := bodyOf Try.f19) (by kernel_rfl) (fun m b hb => absurd hb (by show b ∉ loopsOf (bodyOf Try.f19); rw [show loopsOf (bodyOf Try.f19) = [] from by kernel_rfl]; exact List.not_mem_nil)) ?_
  intro args lent o y0'
  unfold G_ref24_Grid at y0'
  obtain ⟨q', args, rfl, y1'⟩ := pA_s y0'
  obtain ⟨h, rfl, y2'⟩ := rdHd_s y1'
  obtain ⟨q', args, rfl, y3'⟩ := pA_s y2'
  obtain ⟨p, rfl, y4'⟩ := rdPm_s y3'
  obtain ⟨c', args, rfl, y5'⟩ := pO_s y4'
  obtain ⟨t, rfl, y6'⟩ := kI_s y5'
  obtain ⟨c', args, rfl, y7'⟩ := pO_s y6'
  obtain ⟨k, rfl, y8'⟩ := kI_s y7'
  obtain ⟨c', args, rfl, y9'⟩ := pO_s y8'
  obtain ⟨b, rfl, y10'⟩ := kI_s y9'
  obtain ⟨c', args, rfl, y11'⟩ := pO_s y10'
  obtain ⟨i, rfl, y12'⟩ := kI_s y11'
  obtain ⟨rfl, y13'⟩ := pE_s y12'
  obtain ⟨rfl, y14'⟩ := nE_s y13'
  have yy' := y14'
  unfold H_ref24_Grid at yy'
  obtain ⟨hok, rfl⟩ := Prod.mk.inj (Option.some.inj yy')
  exact ⟨20, q_ref24_Grid _ _ _ _ _ _ hok⟩
end Go.Rx.Ch24

set_option linter.unusedVariables false
set_option linter.unusedSimpArgs false
set_option maxRecDepth 100000
set_option maxHeartbeats 4000000
open Go Go.Rx Go.Proofs
namespace Go.Rx.Ch24
theorem catT_s (u : List (List Bk)) (j : Nat) (hj : j < u.length) : catT u (j + 1) = catT u j ++ gM u j := by
  unfold catT gM
  rw [List.take_succ_eq_append_getElem hj, List.flatten_append, List.getD_eq_getElem?_getD, List.getElem?_eq_getElem hj]
  simp
theorem catT_l (u : List (List Bk)) (j : Nat) : (catT u j).length ≤ u.flatten.length := by
  have : u.flatten = (u.take j).flatten ++ (u.drop j).flatten := by rw [← List.flatten_append, List.take_append_drop]
  unfold catT
  rw [this, List.length_append]
  omega
theorem catT_n (u : List (List Bk)) : catT u u.length = u.flatten := by unfold catT; rw [List.take_length]
theorem bkT_s (k s b i : Int) (l : List Rc) (n : Nat) : bkT k s b i l (n + 1) = bkT k s b i l n ++ [(k, s, b, i, (n : Int), gR l n)] := by
  unfold bkT; rw [List.range_succ, List.map_append]; rfl
theorem bkT_l (k s b i : Int) (l : List Rc) (n : Nat) : (bkT k s b i l n).length = n := by simp [bkT]
theorem gridS_w {a b c d x y m : Int} (hm : m ≤ 12) : 0 ≤ (gridS a b c d x y m).2.2.1 ∧ 0 ≤ (gridS a b c d x y m).2.2.2 ∧ (gridS a b c d x y m).2.2.1 * (gridS a b c d x y m).2.2.2 ≤ 65536 := by
  unfold gridS
  split
  · simp
  · rename_i h
    split
    · simp
    · simp only [Bool.or_eq_true, Bool.not_eq_true', not_or, Bool.not_eq_false, Bool.and_eq_true] at h
      have hx := inr_b h.2.1
      have hy := inr_b h.2.2
      have hb := valid_b h.1.1
      have p1 := prN_b hb.1 hb.2.1 hb.2.2.1 (show x ≤ 12 by omega)
      have p2 := prN_b hb.2.2.2.1 hb.2.2.2.2.1 hb.2.2.2.2.2 (show y ≤ 12 by omega)
      exact ⟨p1.1, p2.1, by simp only; omega⟩
theorem blkGrid_len (a b c d x y h : Int) (m : Nat) : ∀ (n : Nat) (r : Int), (blkGrid a b c d x y h m n r).length = m * n
  | 0, r => by simp [blkGrid]
  | n + 1, r => by rw [blkGrid, List.length_append, blkRow_len, blkGrid_len a b c d x y h m n, Nat.mul_succ]; omega
theorem blkL_len (a b c d x y : Int) : ((blkL a b c d x y).length : Int) = (gridS a b c d x y 6).2.2.1 * (gridS a b c d x y 6).2.2.2 := by
  have g := gridS_w (a := a) (b := b) (c := c) (d := d) (x := x) (y := y) (m := 6) (by omega)
  unfold blkL
  rw [blkGrid_len, Int.natCast_mul, Int.toNat_of_nonneg g.1, Int.toNat_of_nonneg g.2.1]
theorem fndL_len (r : Rc) (p : Pm) (b i : Int) : ((fndL r p b i).length : Int) = (fndN r p b i).1 * (fndN r p b i).2 := by
  unfold fndL fndN
  cases fndOk r p b i
  · rfl
  · exact blkL_len ..
theorem fndN_w (r : Rc) (p : Pm) (b i : Int) : 0 ≤ (fndN r p b i).1 ∧ 0 ≤ (fndN r p b i).2 ∧ (fndN r p b i).1 * (fndN r p b i).2 ≤ 65536 := by
  unfold fndN
  cases fndOk r p b i
  · simp
  · exact gridS_w (by omega)
theorem pcU_len (r : Rc) (p : Pm) (k s i : Int) : (pcU r p k s i).length ≤ 3 := by
  unfold pcU
  rw [List.length_map]
  exact idxs_len ..
theorem flat_len {u : List (List Bk)} {M : Nat} (h : ∀ l ∈ u, l.length ≤ M) : u.flatten.length ≤ u.length * M := by
  induction u with
  | nil => simp
  | cons x u ih =>
    have h1 := h x (List.mem_cons_self ..)
    have h2 := ih (fun l hl => h l (List.mem_cons_of_mem _ hl))
    rw [List.flatten_cons, List.length_append, List.length_cons, Nat.add_mul]
    omega
theorem bkL_len (k s b i : Int) (r : Rc) (p : Pm) : (bkL k s b i (fndL r p b i)).length ≤ 65536 := by
  have h1 := fndL_len r p b i
  have h2 := fndN_w r p b i
  unfold bkL
  rw [bkT_l]
  omega
theorem pcL_len (r : Rc) (p : Pm) (k s i : Int) : (pcL r p k s i).length ≤ 196608 := by
  have h1 := pcU_len r p k s i
  have h2 := flat_len (u := pcU r p k s i) (M := 65536) (by
    intro l hl
    simp only [pcU, List.mem_map] at hl
    obtain ⟨b, _, rfl⟩ := hl
    exact bkL_len ..)
  unfold pcL
  have : (pcU r p k s i).length * 65536 ≤ 3 * 65536 := Nat.mul_le_mul_right _ h1
  omega
theorem r_lay_join_0 : RoundOk Try.prog t_lay_join (annOf []) l_lay_join Out 20 0 17 [3, 6, 7, 8] (kxOf [3] [2]) (loopOf Try.f50 0) T_lay_join_0 := by
  intro vs bl Kc r h
  unfold T_lay_join_0 at h
  obtain ⟨t, y0', h'⟩ := getD_run h
  obtain ⟨c', vs, rfl, y1'⟩ := pO_s y0'
  obtain ⟨rfl, y2'⟩ := kR_s y1'
  obtain ⟨c', vs, rfl, y3'⟩ := pO_s y2'
  obtain ⟨u, rfl, y4'⟩ := kLM_s y3'
  obtain ⟨c', vs, rfl, y5'⟩ := pO_s y4'
  obtain ⟨n, rfl, y6'⟩ := kI_s y5'
  obtain ⟨c', vs, rfl, y7'⟩ := pO_s y6'
  obtain ⟨i, rfl, y8'⟩ := kI_s y7'
  obtain ⟨rfl, y9'⟩ := pE_s y8'
  obtain ⟨t, bl, rfl, y10'⟩ := bAK_s y9'
  obtain ⟨rfl, y11'⟩ := bE_s y10'
  have yy' := y11'
  cases yy'
  exact (b_lay_join_0 ..).trans ((congrArg (LT.runc · Kc) (tu_lay_join_0 ..)).trans h')
theorem o_lay_join : loopsOf (bodyOf Try.f50) = [loopOf Try.f50 0] := by kernel_rfl
theorem zz_lay_join_0 (u : List (List Bk)) (t : List Bk) (n i : Int) (hk : k_lay_join_0 u t n i = true) : ∃ k, ∀ (K : Ex → List V → List (Option Blk) → Option Out) r, (c_lay_join_0 u t n i).run K = some r → (iter T_lay_join_0 k [.one (.row 0), .one (.lst (.sl (.pair (.int .i64) (.pair (.int .i64) (.pair (.int .i64) (.pair (.int .i64) (.pair (.int .i64) (.pair (.int .i64) (.pair (.int .i64) (.pair (.int .i64) (.int .i64)))))))))) u), .one (.int .i64 n), .one (.int .i64 i)] [some (.arr 65 (.pair (.int .i64) (.pair (.int .i64) (.pair (.int .i64) (.pair (.int .i64) (.pair (.int .i64) (.pair (.int .i64) (.pair (.int .i64) (.pair (.int .i64) (.int .i64))))))))) t)]).run K = some r := by
  simp only [k_lay_join_0, Bool.and_eq_true, decide_eq_true_eq] at hk
  obtain ⟨⟨⟨⟨rfl, rfl⟩, rfl⟩, hsm⟩, hl⟩ := hk
  refine Exists.elim (z_fold (T := T_lay_join_0) (st := fun j => ([.one (.row 0), .one (.lst (.sl (.pair (.int .i64) (.pair (.int .i64) (.pair (.int .i64) (.pair (.int .i64) (.pair (.int .i64) (.pair (.int .i64) (.pair (.int .i64) (.pair (.int .i64) (.int .i64)))))))))) u), .one (.int .i64 (u.length : Int)), .one (.int .i64 (j : Int))], [some (.arr 65 (.pair (.int .i64) (.pair (.int .i64) (.pair (.int .i64) (.pair (.int .i64) (.pair (.int .i64) (.pair (.int .i64) (.pair (.int .i64) (.pair (.int .i64) (.int .i64))))))))) (catT u j))])) u.length (c_lay_join_0 u [] (u.length : Int) 0) (fun j hj F K => ?_) (fun F K => ?_)) (fun k hk => ⟨k, hk⟩)
  · have h1 := catT_l u (j + 1)
    rw [catT_s u j hj, List.length_append] at h1
    simp only [tu_lay_join_0, U_lay_join_0, LT.next, LT.run, ite2_bool, decide_eq_true_eq, Int.toNat_natCast]
    rw [if_pos (by omega), if_pos (by omega), if_pos (by omega), wrap_next hj hsm, ← catT_s u j hj]
  · simp only [tu_lay_join_0, U_lay_join_0, LT.next, LT.run, ite2_bool, decide_eq_true_eq]
    rw [if_neg (by omega), catT_n]
    rfl
theorem z_lay_join_0 : ∀ vs bl t, S_lay_join_0 vs bl = some (true, t) → ∃ n, ∀ (K : Ex → List V → List (Option Blk) → Option Out) r, t.run K = some r → (iter T_lay_join_0 n vs bl).run K = some r := by
  intro vs bl t y0'
  unfold S_lay_join_0 at y0'
  obtain ⟨c', vs, rfl, y1'⟩ := pO_s y0'
  obtain ⟨rfl, y2'⟩ := kR_s y1'
  obtain ⟨c', vs, rfl, y3'⟩ := pO_s y2'
  obtain ⟨u, rfl, y4'⟩ := kLM_s y3'
  obtain ⟨c', vs, rfl, y5'⟩ := pO_s y4'
  obtain ⟨n, rfl, y6'⟩ := kI_s y5'
  obtain ⟨c', vs, rfl, y7'⟩ := pO_s y6'
  obtain ⟨i, rfl, y8'⟩ := kI_s y7'
  obtain ⟨rfl, y9'⟩ := pE_s y8'
  obtain ⟨t, bl, rfl, y10'⟩ := bAK_s y9'
  obtain ⟨rfl, y11'⟩ := bE_s y10'
  have yy' := y11'
  obtain ⟨hk, rfl⟩ := Prod.mk.inj (Option.some.inj yy')
  exact zz_lay_join_0 _ _ _ _ hk
theorem q_lay_join (u : List (List Bk)) (hok : (small u.length && decide (u.flatten.length ≤ 1900000000000)) = true) : funR Try.prog t_lay_join (annOf []) l_lay_join 20 Try.f50 [.one (.lst (.sl (.pair (.int .i64) (.pair (.int .i64) (.pair (.int .i64) (.pair (.int .i64) (.pair (.int .i64) (.pair (.int .i64) (.pair (.int .i64) (.pair (.int .i64) (.int .i64)))))))))) u)] [] = some ⟨.one (.row 0), [], [.arr 65 (.pair (.int .i64) (.pair (.int .i64) (.pair (.int .i64) (.pair (.int .i64) (.pair (.int .i64) (.pair (.int .i64) (.pair (.int .i64) (.pair (.int .i64) (.int .i64))))))))) u.flatten]⟩ := by
    refine (e_lay_join ..).trans ?_
    have hk : k_lay_join_0 u [] (u.length : Int) 0 = true := by
      simp only [Bool.and_eq_true] at hok
      simp only [k_lay_join_0, hok, decide_true, Bool.and_self]
    rw [hk]
    rfl
theorem s_lay_join : SoundFun Try.prog 50 G_lay_join := by
  refine fun_ok (tab := t_lay_join) (ann := annOf []) (lt := l_lay_join) tab_nil (by kernel_rfl) (fn := Try.f50) (by kernel_rfl) (by decide) (c := bodyOf Try.f50) (by kernel_rfl) (by
    intro m b hb
    have hb' : b ∈ loopsOf (bodyOf Try.f50) := hb
    rw [o_lay_join] at hb'
    simp only [List.mem_cons, List.not_mem_nil, or_false] at hb'
    rcases hb' with rfl
    · exact loop_ok (key := 3) (by kernel_rfl) rfl r_lay_join_0 z_lay_join_0 m
    ) ?_
  intro args lent o y0'
  unfold G_lay_join at y0'
  obtain ⟨c', args, rfl, y1'⟩ := pO_s y0'
  obtain ⟨u, rfl, y2'⟩ := kLM_s y1'
  obtain ⟨rfl, y3'⟩ := pE_s y2'
  obtain ⟨rfl, y4'⟩ := nE_s y3'
  have yy' := y4'
  unfold H_lay_join at yy'
  obtain ⟨hok, rfl⟩ := Prod.mk.inj (Option.some.inj yy')
  exact ⟨20, q_lay_join _ hok⟩
theorem r_lay_of_0 : RoundOk Try.prog t_lay_of (annOf []) l_lay_of Out 20 4 41 [0, 4, 7, 19, 20, 21] (kxOf [7] [6]) (loopOf Try.f82 0) T_lay_of_0 := by
  intro vs bl Kc r h
  unfold T_lay_of_0 at h
  obtain ⟨t, y0', h'⟩ := getD_run h
  obtain ⟨c', vs, rfl, y1'⟩ := pO_s y0'
  obtain ⟨b, rfl, y2'⟩ := kI_s y1'
  obtain ⟨c', vs, rfl, y3'⟩ := pO_s y2'
  obtain ⟨rfl, y4'⟩ := kP_s y3'
  obtain ⟨c', vs, rfl, y5'⟩ := pO_s y4'
  obtain ⟨rfl, y6'⟩ := kR_s y5'
  obtain ⟨c', vs, rfl, y7'⟩ := pO_s y6'
  obtain ⟨rfl, y8'⟩ := kR_s y7'
  obtain ⟨c', vs, rfl, y9'⟩ := pO_s y8'
  obtain ⟨n, rfl, y10'⟩ := kI_s y9'
  obtain ⟨c', vs, rfl, y11'⟩ := pO_s y10'
  obtain ⟨j, rfl, y12'⟩ := kI_s y11'
  obtain ⟨rfl, y13'⟩ := pE_s y12'
  obtain ⟨q', bl, rfl, y14'⟩ := bB_s y13'
  obtain ⟨h, rfl, y15'⟩ := rdHd_s y14'
  obtain ⟨q', bl, rfl, y16'⟩ := bB_s y15'
  obtain ⟨p, rfl, y17'⟩ := rdPm_s y16'
  obtain ⟨q', bl, rfl, y18'⟩ := bB_s y17'
  obtain ⟨c', q', rfl, y19'⟩ := tC_s y18'
  obtain ⟨t, rfl, y20'⟩ := kI_s y19'
  obtain ⟨rfl, y21'⟩ := tE_s y20'
  obtain ⟨q', bl, rfl, y22'⟩ := bB_s y21'
  obtain ⟨c', q', rfl, y23'⟩ := tC_s y22'
  obtain ⟨m, rfl, y24'⟩ := kI_s y23'
  obtain ⟨c', q', rfl, y25'⟩ := tC_s y24'
  obtain ⟨s, rfl, y26'⟩ := kI_s y25'
  obtain ⟨c', q', rfl, y27'⟩ := tC_s y26'
  obtain ⟨i, rfl, y28'⟩ := kI_s y27'
  obtain ⟨c', q', rfl, y29'⟩ := tC_s y28'
  obtain ⟨y, rfl, y30'⟩ := kI_s y29'
  obtain ⟨rfl, y31'⟩ := tE_s y30'
  obtain ⟨v, bl, rfl, y32'⟩ := bAK_s y31'
  obtain ⟨l, bl, rfl, y33'⟩ := bAR_s y32'
  obtain ⟨rfl, y34'⟩ := bE_s y33'
  have yy' := y34'
  cases yy'
  exact (b_lay_of_0 ..).trans ((congrArg (LT.runc · Kc) (tu_lay_of_0 ..)).trans h')
theorem o_lay_of : loopsOf (bodyOf Try.f82) = [loopOf Try.f82 0] := by kernel_rfl
theorem zz_lay_of_0 (h : Hd) (p : Pm) (t m s i y b n j : Int) (v : List Bk) (l : List Rc) (hk : k_lay_of_0 h p t m s i y b n j v l = true) : ∃ k, ∀ (K : Ex → List V → List (Option Blk) → Option Out) r, (c_lay_of_0 h p t m s i y b n j v l).run K = some r → (iter T_lay_of_0 k [.one (.int .i64 b), .one (.ptr 3 0), .one (.row 4), .one (.row 5), .one (.int .i64 n), .one (.int .i64 j)] [some (.box (hdC h)), some (.box (pmC p)), some (.box [.int .i64 t]), some (.box [.int .i64 m, .int .i64 s, .int .i64 i, .int .i64 y]), some (.arr 65 (.pair (.int .i64) (.pair (.int .i64) (.pair (.int .i64) (.pair (.int .i64) (.pair (.int .i64) (.pair (.int .i64) (.pair (.int .i64) (.pair (.int .i64) (.int .i64))))))))) v), some (.arr 23 (.pair (.int .i64) (.pair (.int .i64) (.pair (.int .i64) (.int .i64)))) l)]).run K = some r := by
  simp only [k_lay_of_0, Bool.and_eq_true, decide_eq_true_eq] at hk
  obtain ⟨⟨⟨rfl, rfl⟩, rfl⟩, hl⟩ := hk
  have hsm : small l.length = true := by simp only [small, decide_eq_true_eq]; omega
  refine Exists.elim (z_fold (T := T_lay_of_0) (st := fun j => ([.one (.int .i64 b), .one (.ptr 3 0), .one (.row 4), .one (.row 5), .one (.int .i64 (l.length : Int)), .one (.int .i64 (j : Int))], [some (.box (hdC h)), some (.box (pmC p)), some (.box [.int .i64 t]), some (.box [.int .i64 m, .int .i64 s, .int .i64 i, .int .i64 y]), some (.arr 65 (.pair (.int .i64) (.pair (.int .i64) (.pair (.int .i64) (.pair (.int .i64) (.pair (.int .i64) (.pair (.int .i64) (.pair (.int .i64) (.pair (.int .i64) (.int .i64))))))))) (bkT m s b i l j)), some (.arr 23 (.pair (.int .i64) (.pair (.int .i64) (.pair (.int .i64) (.int .i64)))) l)])) l.length (c_lay_of_0 h p t m s i y b (l.length : Int) 0 [] l) (fun j hj F K => ?_) (fun F K => ?_)) (fun k hk => ⟨k, hk⟩)
  · have h1 := bkT_l m s b i l j
    simp only [tu_lay_of_0, U_lay_of_0, LT.next, LT.run, ite2_bool, decide_eq_true_eq, Int.toNat_natCast]
    rw [bkT_s]
    repeat rw [if_pos (by first | omega | (simp only [List.length_singleton]; omega))]
    rw [wrap_next hj hsm]
    rfl
  · simp only [tu_lay_of_0, U_lay_of_0, LT.next, LT.run, ite2_bool, decide_eq_true_eq]
    rw [if_neg (by omega)]
    rfl
theorem z_lay_of_0 : ∀ vs bl t, S_lay_of_0 vs bl = some (true, t) → ∃ n, ∀ (K : Ex → List V → List (Option Blk) → Option Out) r, t.run K = some r → (iter T_lay_of_0 n vs bl).run K = some r := by
  intro vs bl t y0'
  unfold S_lay_of_0 at y0'
  obtain ⟨c', vs, rfl, y1'⟩ := pO_s y0'
  obtain ⟨b, rfl, y2'⟩ := kI_s y1'
  obtain ⟨c', vs, rfl, y3'⟩ := pO_s y2'
  obtain ⟨rfl, y4'⟩ := kP_s y3'
  obtain ⟨c', vs, rfl, y5'⟩ := pO_s y4'
  obtain ⟨rfl, y6'⟩ := kR_s y5'
  obtain ⟨c', vs, rfl, y7'⟩ := pO_s y6'
  obtain ⟨rfl, y8'⟩ := kR_s y7'
  obtain ⟨c', vs, rfl, y9'⟩ := pO_s y8'
  obtain ⟨n, rfl, y10'⟩ := kI_s y9'
  obtain ⟨c', vs, rfl, y11'⟩ := pO_s y10'
  obtain ⟨j, rfl, y12'⟩ := kI_s y11'
  obtain ⟨rfl, y13'⟩ := pE_s y12'
  obtain ⟨q', bl, rfl, y14'⟩ := bB_s y13'
  obtain ⟨h, rfl, y15'⟩ := rdHd_s y14'
  obtain ⟨q', bl, rfl, y16'⟩ := bB_s y15'
  obtain ⟨p, rfl, y17'⟩ := rdPm_s y16'
  obtain ⟨q', bl, rfl, y18'⟩ := bB_s y17'
  obtain ⟨c', q', rfl, y19'⟩ := tC_s y18'
  obtain ⟨t, rfl, y20'⟩ := kI_s y19'
  obtain ⟨rfl, y21'⟩ := tE_s y20'
  obtain ⟨q', bl, rfl, y22'⟩ := bB_s y21'
  obtain ⟨c', q', rfl, y23'⟩ := tC_s y22'
  obtain ⟨m, rfl, y24'⟩ := kI_s y23'
  obtain ⟨c', q', rfl, y25'⟩ := tC_s y24'
  obtain ⟨s, rfl, y26'⟩ := kI_s y25'
  obtain ⟨c', q', rfl, y27'⟩ := tC_s y26'
  obtain ⟨i, rfl, y28'⟩ := kI_s y27'
  obtain ⟨c', q', rfl, y29'⟩ := tC_s y28'
  obtain ⟨y, rfl, y30'⟩ := kI_s y29'
  obtain ⟨rfl, y31'⟩ := tE_s y30'
  obtain ⟨v, bl, rfl, y32'⟩ := bAK_s y31'
  obtain ⟨l, bl, rfl, y33'⟩ := bAR_s y32'
  obtain ⟨rfl, y34'⟩ := bE_s y33'
  have yy' := y34'
  obtain ⟨hk, rfl⟩ := Prod.mk.inj (Option.some.inj yy')
  exact zz_lay_of_0 _ _ _ _ _ _ _ _ _ _ _ _ hk
theorem q_lay_of (h : Hd) (p : Pm) (t m s i y b : Int) (hok : (small h.cs.length && (small p.pr.length && small p.st.length) && existsB h p t m) = true) : funR Try.prog t_lay_of (annOf []) l_lay_of 20 Try.f82 [.one (.int .i64 b), .one (.ptr 0 0), .one (.ptr 1 0), .one (.ptr 2 0), .one (.ptr 3 0)] [.box (hdC h), .box (pmC p), .box [.int .i64 t], .box [.int .i64 m, .int .i64 s, .int .i64 i, .int .i64 y]] = some ⟨.one (.row 4), [some (.box (hdC h)), some (.box (pmC p)), some (.box [.int .i64 t]), some (.box [.int .i64 m, .int .i64 s, .int .i64 i, .int .i64 y])], [.arr 65 (.pair (.int .i64) (.pair (.int .i64) (.pair (.int .i64) (.pair (.int .i64) (.pair (.int .i64) (.pair (.int .i64) (.pair (.int .i64) (.pair (.int .i64) (.int .i64))))))))) (bkL m s b i (fndL (compT h t m) p b i))]⟩ := by
    refine (e_lay_of ..).trans ?_
    have h1 := fndL_len (compT h t m) p b i
    have h2 := fndN_w (compT h t m) p b i
    have hk : k_lay_of_0 h p t m s i y b ((fndL (compT h t m) p b i).length : Int) 0 [] (fndL (compT h t m) p b i) = true := by
      simp only [k_lay_of_0, decide_true, Bool.true_and, decide_eq_true_eq]
      omega
    rw [hk, hok]
    rfl
theorem s_lay_of : SoundFun Try.prog 82 G_lay_of := by
  refine fun_ok (tab := t_lay_of) (ann := annOf []) (lt := l_lay_of) (tab_cons s_lay_find tab_nil) (by kernel_rfl) (fn := Try.f82) (by kernel_rfl) (by decide) (c := bodyOf Try.f82) (by kernel_rfl) (by
    intro m b hb
    have hb' : b ∈ loopsOf (bodyOf Try.f82) := hb
    rw [o_lay_of] at hb'
    simp only [List.mem_cons, List.not_mem_nil, or_false] at hb'
    rcases hb' with rfl
    · exact loop_ok (key := 3) (by kernel_rfl) rfl r_lay_of_0 z_lay_of_0 m
    ) ?_
  intro args lent o y0'
  unfold G_lay_of at y0'
  obtain ⟨c', args, rfl, y1'⟩ := pO_s y0'
  obtain ⟨b, rfl, y2'⟩ := kI_s y1'
  obtain ⟨c', args, rfl, y3'⟩ := pO_s y2'
  obtain ⟨rfl, y4'⟩ := kP_s y3'
  obtain ⟨c', args, rfl, y5'⟩ := pO_s y4'
  obtain ⟨rfl, y6'⟩ := kP_s y5'
  obtain ⟨c', args, rfl, y7'⟩ := pO_s y6'
  obtain ⟨rfl, y8'⟩ := kP_s y7'
  obtain ⟨c', args, rfl, y9'⟩ := pO_s y8'
  obtain ⟨rfl, y10'⟩ := kP_s y9'
  obtain ⟨rfl, y11'⟩ := pE_s y10'
  obtain ⟨q', lent, rfl, y12'⟩ := nB_s y11'
  obtain ⟨h, rfl, y13'⟩ := rdHd_s y12'
  obtain ⟨q', lent, rfl, y14'⟩ := nB_s y13'
  obtain ⟨p, rfl, y15'⟩ := rdPm_s y14'
  obtain ⟨q', lent, rfl, y16'⟩ := nB_s y15'
  obtain ⟨c', q', rfl, y17'⟩ := tC_s y16'
  obtain ⟨t, rfl, y18'⟩ := kI_s y17'
  obtain ⟨rfl, y19'⟩ := tE_s y18'
  obtain ⟨q', lent, rfl, y20'⟩ := nB_s y19'
  obtain ⟨c', q', rfl, y21'⟩ := tC_s y20'
  obtain ⟨m, rfl, y22'⟩ := kI_s y21'
  obtain ⟨c', q', rfl, y23'⟩ := tC_s y22'
  obtain ⟨s, rfl, y24'⟩ := kI_s y23'
  obtain ⟨c', q', rfl, y25'⟩ := tC_s y24'
  obtain ⟨i, rfl, y26'⟩ := kI_s y25'
  obtain ⟨c', q', rfl, y27'⟩ := tC_s y26'
  obtain ⟨y, rfl, y28'⟩ := kI_s y27'
  obtain ⟨rfl, y29'⟩ := tE_s y28'
  obtain ⟨rfl, y30'⟩ := nE_s y29'
  have yy' := y30'
  unfold H_lay_of at yy'
  obtain ⟨hok, rfl⟩ := Prod.mk.inj (Option.some.inj yy')
  exact ⟨20, q_lay_of _ _ _ _ _ _ _ _ hok⟩
end Go.Rx.Ch24

set_option linter.unusedVariables false
set_option linter.unusedSimpArgs false
set_option maxRecDepth 100000
set_option maxHeartbeats 4000000
open Go Go.Rx Go.Proofs
namespace Go.Rx.Ch24
theorem q_ref06_Indices (n r : Int) (hok : true = true) : funR Try.prog t_ref06_Indices (annOf []) l_ref06_Indices 20 Try.f83 [.one (.int .i64 n), .one (.int .i64 r)] [] = some ⟨.one (.row 0), [], [.arr 3 (.int .i64) (idxs n r)]⟩ := by
    refine (e_ref06_Indices ..).trans ?_
    simp only [ite2_bool, decide_eq_true_eq, idxs, count]
    cases h : inr 0 5 n
    · simp
    · have hb := inr_b h
      rw [if_pos rfl]
      cases h1 : inr 0 n r
      · have : r < 0 ∨ r > n := by simp [inr] at h1; omega
        rcases this with h2 | h2 <;> simp [h2]
      · have hc := inr_b h1
        simp (disch := omega) only [wrap_in, wrapu_in, Int.tdiv_eq_ediv_of_nonneg]
        simp only [beq_iff_eq, Bool.and_self, if_true]
        rw [if_neg (by omega), if_neg (by omega), if_neg (by omega)]
        split <;> simp [*]
theorem s_ref06_Indices : SoundFun Try.prog 83 G_ref06_Indices := by
  refine fun_ok (tab := t_ref06_Indices) (ann := annOf []) (lt := l_ref06_Indices) (tab_cons s_ref06_Count tab_nil) (by kernel_rfl) (fn := Try.f83) (by kernel_rfl) (by decide) (c := bodyOf Try.f83) (by kernel_rfl) (fun m b hb => absurd hb (by show b ∉ loopsOf (bodyOf Try.f83); rw [show loopsOf (bodyOf Try.f83) = [] from by kernel_rfl]; exact List.not_mem_nil)) ?_
  intro args lent o y0'
  unfold G_ref06_Indices at y0'
  obtain ⟨c', args, rfl, y1'⟩ := pO_s y0'
  obtain ⟨n, rfl, y2'⟩ := kI_s y1'
  obtain ⟨c', args, rfl, y3'⟩ := pO_s y2'
  obtain ⟨r, rfl, y4'⟩ := kI_s y3'
  obtain ⟨rfl, y5'⟩ := pE_s y4'
  obtain ⟨rfl, y6'⟩ := nE_s y5'
  have yy' := y6'
  unfold H_ref06_Indices at yy'
  obtain ⟨hok, rfl⟩ := Prod.mk.inj (Option.some.inj yy')
  exact ⟨20, q_ref06_Indices _ _ hok⟩
theorem ofT_s (r : Rc) (p : Pm) (m s i : Int) (l : List Int) (j : Nat) : ofT r p m s i l (j + 1) = ofT r p m s i l j ++ [bkL m s (gI l j) i (fndL r p (gI l j) i)] := by
  unfold ofT; rw [List.range_succ, List.map_append]; rfl
theorem ofT_l (r : Rc) (p : Pm) (m s i : Int) (l : List Int) (j : Nat) : (ofT r p m s i l j).length = j := by simp [ofT]
theorem ofT_n (r : Rc) (p : Pm) (m s i : Int) : ofT r p m s i (idxs p.le s) (idxs p.le s).length = pcU r p m s i := by
  unfold ofT pcU
  apply List.ext_getElem
  · simp
  · intro n h1 h2
    have h3 : n < (idxs p.le s).length := by simpa using h1
    simp [gI, List.getD_eq_getElem?_getD, List.getElem?_eq_getElem h3]
theorem gM_pcU (r : Rc) (p : Pm) (m s i : Int) (j : Nat) (hj : j < (idxs p.le s).length) : gM (pcU r p m s i) j = bkL m s (gI (idxs p.le s) j) i (fndL r p (gI (idxs p.le s) j) i) := by
  have h : j < (pcU r p m s i).length := by unfold pcU; rw [List.length_map]; exact hj
  unfold gM
  rw [List.getD_eq_getElem?_getD, List.getElem?_eq_getElem h]
  simp [pcU, gI, List.getD_eq_getElem?_getD, List.getElem?_eq_getElem hj]
theorem idxs_pl {n s : Int} {j : Nat} (hj : j < (idxs n s).length) : plOk (gI (idxs n s) j) n = true ∧ (gI (idxs n s) j + 2) / 3 = s ∧ 0 ≤ s ∧ s ≤ n := by
  have hm : gI (idxs n s) j ∈ idxs n s := by
    rw [gI, List.getD_eq_getElem?_getD, List.getElem?_eq_getElem hj]
    exact List.getElem_mem hj
  generalize gI (idxs n s) j = b at hm ⊢
  unfold idxs at hm
  split at hm
  · rename_i h
    simp only [Bool.and_eq_true] at h
    have h1 := inr_b h.1
    have h2 := inr_b h.2
    have hb : 0 ≤ b ∧ b ≤ 3 * n ∧ (b + 2) / 3 = s := by
      split at hm
      · simp at hm; omega
      · simp at hm; omega
    refine ⟨?_, hb.2.2, h2.1, h2.2⟩
    unfold plOk count
    rw [h.1, if_pos rfl]
    simp; omega
  · simp at hm
theorem r_lay_precinct_0 : RoundOk Try.prog t_lay_precinct (annOf []) l_lay_precinct Out 20 0 33 [9, 10, 18, 19, 20] (kxOf [10] [8]) (loopOf Try.f48 0) T_lay_precinct_0 := by
  intro vs bl Kc r h
  unfold T_lay_precinct_0 at h
  obtain ⟨t, y0', h'⟩ := getD_run h
  obtain ⟨c', vs, rfl, y1'⟩ := pO_s y0'
  obtain ⟨rfl, y2'⟩ := kF_s y1'
  obtain ⟨c', vs, rfl, y3'⟩ := pO_s y2'
  obtain ⟨rfl, y4'⟩ := kR_s y3'
  obtain ⟨c', vs, rfl, y5'⟩ := pO_s y4'
  obtain ⟨rfl, y6'⟩ := kR_s y5'
  obtain ⟨c', vs, rfl, y7'⟩ := pO_s y6'
  obtain ⟨n, rfl, y8'⟩ := kI_s y7'
  obtain ⟨c', vs, rfl, y9'⟩ := pO_s y8'
  obtain ⟨j, rfl, y10'⟩ := kI_s y9'
  obtain ⟨rfl, y11'⟩ := pE_s y10'
  obtain ⟨q', bl, rfl, y12'⟩ := bB_s y11'
  obtain ⟨h, rfl, y13'⟩ := rdHd_s y12'
  obtain ⟨q', bl, rfl, y14'⟩ := bB_s y13'
  obtain ⟨p, rfl, y15'⟩ := rdPm_s y14'
  obtain ⟨q', bl, rfl, y16'⟩ := bB_s y15'
  obtain ⟨c', q', rfl, y17'⟩ := tC_s y16'
  obtain ⟨t, rfl, y18'⟩ := kI_s y17'
  obtain ⟨rfl, y19'⟩ := tE_s y18'
  obtain ⟨q', bl, rfl, y20'⟩ := bB_s y19'
  obtain ⟨c', q', rfl, y21'⟩ := tC_s y20'
  obtain ⟨m, rfl, y22'⟩ := kI_s y21'
  obtain ⟨c', q', rfl, y23'⟩ := tC_s y22'
  obtain ⟨s, rfl, y24'⟩ := kI_s y23'
  obtain ⟨c', q', rfl, y25'⟩ := tC_s y24'
  obtain ⟨i, rfl, y26'⟩ := kI_s y25'
  obtain ⟨c', q', rfl, y27'⟩ := tC_s y26'
  obtain ⟨y, rfl, y28'⟩ := kI_s y27'
  obtain ⟨rfl, y29'⟩ := tE_s y28'
  obtain ⟨u, bl, rfl, y30'⟩ := bAM_s y29'
  obtain ⟨l, bl, rfl, y31'⟩ := bAI_s y30'
  obtain ⟨rfl, y32'⟩ := bE_s y31'
  have yy' := y32'
  cases yy'
  exact (b_lay_precinct_0 ..).trans ((congrArg (LT.runc · Kc) (tu_lay_precinct_0 ..)).trans h')
theorem o_lay_precinct : loopsOf (bodyOf Try.f48) = [loopOf Try.f48 0] := by kernel_rfl
theorem zz_lay_precinct_0 (h : Hd) (p : Pm) (t m s i y n j : Int) (u : List (List Bk)) (l : List Int) (hk : k_lay_precinct_0 h p t m s i y n j u l = true) : ∃ k, ∀ (K : Ex → List V → List (Option Blk) → Option Out) r, (c_lay_precinct_0 h p t m s i y n j u l).run K = some r → (iter T_lay_precinct_0 k [.one (.fn 82 [0, 1, 2, 3]), .one (.row 4), .one (.row 5), .one (.int .i64 n), .one (.int .i64 j)] [some (.box (hdC h)), some (.box (pmC p)), some (.box [.int .i64 t]), some (.box [.int .i64 m, .int .i64 s, .int .i64 i, .int .i64 y]), some (.arr 53 (.sl (.pair (.int .i64) (.pair (.int .i64) (.pair (.int .i64) (.pair (.int .i64) (.pair (.int .i64) (.pair (.int .i64) (.pair (.int .i64) (.pair (.int .i64) (.int .i64)))))))))) u), some (.arr 3 (.int .i64) l)]).run K = some r := by
  simp only [k_lay_precinct_0] at hk
  rw [Bool.and_eq_true] at hk
  obtain ⟨hk, hok⟩ := hk
  simp only [Bool.and_eq_true, decide_eq_true_eq] at hk
  obtain ⟨⟨⟨rfl, rfl⟩, rfl⟩, hl⟩ := hk
  have hsm : small l.length = true := by simp only [small, decide_eq_true_eq]; omega
  refine Exists.elim (z_fold (T := T_lay_precinct_0) (st := fun j => ([.one (.fn 82 [0, 1, 2, 3]), .one (.row 4), .one (.row 5), .one (.int .i64 (l.length : Int)), .one (.int .i64 (j : Int))], [some (.box (hdC h)), some (.box (pmC p)), some (.box [.int .i64 t]), some (.box [.int .i64 m, .int .i64 s, .int .i64 i, .int .i64 y]), some (.arr 53 (.sl (.pair (.int .i64) (.pair (.int .i64) (.pair (.int .i64) (.pair (.int .i64) (.pair (.int .i64) (.pair (.int .i64) (.pair (.int .i64) (.pair (.int .i64) (.int .i64)))))))))) (ofT (compT h t m) p m s i l j)), some (.arr 3 (.int .i64) l)])) l.length (c_lay_precinct_0 h p t m s i y (l.length : Int) 0 [] l) (fun j hj F K => ?_) (fun F K => ?_)) (fun k hk => ⟨k, hk⟩)
  · have h1 := ofT_l (compT h t m) p m s i l j
    simp only [tu_lay_precinct_0, U_lay_precinct_0, LT.next, LT.run, ite2_bool, decide_eq_true_eq, Int.toNat_natCast, hok, if_true]
    rw [ofT_s]
    repeat rw [if_pos (by first | omega | (simp only [List.length_singleton]; omega))]
    rw [wrap_next hj hsm]
    rfl
  · simp only [tu_lay_precinct_0, U_lay_precinct_0, LT.next, LT.run, ite2_bool, decide_eq_true_eq]
    rw [if_neg (by omega)]
    rfl
theorem z_lay_precinct_0 : ∀ vs bl t, S_lay_precinct_0 vs bl = some (true, t) → ∃ n, ∀ (K : Ex → List V → List (Option Blk) → Option Out) r, t.run K = some r → (iter T_lay_precinct_0 n vs bl).run K = some r := by
  intro vs bl t y0'
  unfold S_lay_precinct_0 at y0'
  obtain ⟨c', vs, rfl, y1'⟩ := pO_s y0'
  obtain ⟨rfl, y2'⟩ := kF_s y1'
  obtain ⟨c', vs, rfl, y3'⟩ := pO_s y2'
  obtain ⟨rfl, y4'⟩ := kR_s y3'
  obtain ⟨c', vs, rfl, y5'⟩ := pO_s y4'
  obtain ⟨rfl, y6'⟩ := kR_s y5'
  obtain ⟨c', vs, rfl, y7'⟩ := pO_s y6'
  obtain ⟨n, rfl, y8'⟩ := kI_s y7'
  obtain ⟨c', vs, rfl, y9'⟩ := pO_s y8'
  obtain ⟨j, rfl, y10'⟩ := kI_s y9'
  obtain ⟨rfl, y11'⟩ := pE_s y10'
  obtain ⟨q', bl, rfl, y12'⟩ := bB_s y11'
  obtain ⟨h, rfl, y13'⟩ := rdHd_s y12'
  obtain ⟨q', bl, rfl, y14'⟩ := bB_s y13'
  obtain ⟨p, rfl, y15'⟩ := rdPm_s y14'
  obtain ⟨q', bl, rfl, y16'⟩ := bB_s y15'
  obtain ⟨c', q', rfl, y17'⟩ := tC_s y16'
  obtain ⟨t, rfl, y18'⟩ := kI_s y17'
  obtain ⟨rfl, y19'⟩ := tE_s y18'
  obtain ⟨q', bl, rfl, y20'⟩ := bB_s y19'
  obtain ⟨c', q', rfl, y21'⟩ := tC_s y20'
  obtain ⟨m, rfl, y22'⟩ := kI_s y21'
  obtain ⟨c', q', rfl, y23'⟩ := tC_s y22'
  obtain ⟨s, rfl, y24'⟩ := kI_s y23'
  obtain ⟨c', q', rfl, y25'⟩ := tC_s y24'
  obtain ⟨i, rfl, y26'⟩ := kI_s y25'
  obtain ⟨c', q', rfl, y27'⟩ := tC_s y26'
  obtain ⟨y, rfl, y28'⟩ := kI_s y27'
  obtain ⟨rfl, y29'⟩ := tE_s y28'
  obtain ⟨u, bl, rfl, y30'⟩ := bAM_s y29'
  obtain ⟨l, bl, rfl, y31'⟩ := bAI_s y30'
  obtain ⟨rfl, y32'⟩ := bE_s y31'
  have yy' := y32'
  obtain ⟨hk, rfl⟩ := Prod.mk.inj (Option.some.inj yy')
  exact zz_lay_precinct_0 _ _ _ _ _ _ _ _ _ _ _ hk
theorem q_lay_precinct (h : Hd) (p : Pm) (t m s i y : Int) (hok : (small h.cs.length && (small p.pr.length && small p.st.length) && existsB h p t m) = true) : funR Try.prog t_lay_precinct (annOf []) l_lay_precinct 20 Try.f48 [.agg (hdC h), .agg (pmC p), .one (.int .i64 t), .agg [.int .i64 m, .int .i64 s, .int .i64 i, .int .i64 y]] [] = some ⟨.one (.row 0), [], [.arr 65 (.pair (.int .i64) (.pair (.int .i64) (.pair (.int .i64) (.pair (.int .i64) (.pair (.int .i64) (.pair (.int .i64) (.pair (.int .i64) (.pair (.int .i64) (.int .i64))))))))) (pcL (compT h t m) p m s i)]⟩ := by
    refine (e_lay_precinct ..).trans ?_
    have h1 := idxs_len p.le s
    have h2 := pcL_len (compT h t m) p m s i
    have h3 := pcU_len (compT h t m) p m s i
    have hk : k_lay_precinct_0 h p t m s i y ((idxs p.le s).length : Int) 0 [] (idxs p.le s) = true := by
      simp only [k_lay_precinct_0, hok, decide_true, Bool.true_and, Bool.and_true, decide_eq_true_eq]
      exact h1
    unfold pcL at h2 ⊢
    have hs : (small (pcU (compT h t m) p m s i).length && decide ((pcU (compT h t m) p m s i).flatten.length ≤ 1900000000000)) = true := by
      simp only [small, Bool.and_eq_true, decide_eq_true_eq]; omega
    simp only [ofT_n, hk, hok, hs, ite2_bool, if_true]
    rfl
theorem s_lay_precinct : SoundFun Try.prog 48 G_lay_precinct := by
  refine fun_ok (tab := t_lay_precinct) (ann := annOf []) (lt := l_lay_precinct) (tab_cons s_pyr_Indices (tab_cons s_lay_join (tab_cons s_lay_of tab_nil))) (by kernel_rfl) (fn := Try.f48) (by kernel_rfl) (by decide) (c := bodyOf Try.f48) (by kernel_rfl) (by
    intro m b hb
    have hb' : b ∈ loopsOf (bodyOf Try.f48) := hb
    rw [o_lay_precinct] at hb'
    simp only [List.mem_cons, List.not_mem_nil, or_false] at hb'
    rcases hb' with rfl
    · exact loop_ok (key := 4) (by kernel_rfl) rfl r_lay_precinct_0 z_lay_precinct_0 m
    ) ?_
  intro args lent o y0'
  unfold G_lay_precinct at y0'
  obtain ⟨q', args, rfl, y1'⟩ := pA_s y0'
  obtain ⟨h, rfl, y2'⟩ := rdHd_s y1'
  obtain ⟨q', args, rfl, y3'⟩ := pA_s y2'
  obtain ⟨p, rfl, y4'⟩ := rdPm_s y3'
  obtain ⟨c', args, rfl, y5'⟩ := pO_s y4'
  obtain ⟨t, rfl, y6'⟩ := kI_s y5'
  obtain ⟨q', args, rfl, y7'⟩ := pA_s y6'
  obtain ⟨c', q', rfl, y8'⟩ := tC_s y7'
  obtain ⟨m, rfl, y9'⟩ := kI_s y8'
  obtain ⟨c', q', rfl, y10'⟩ := tC_s y9'
  obtain ⟨s, rfl, y11'⟩ := kI_s y10'
  obtain ⟨c', q', rfl, y12'⟩ := tC_s y11'
  obtain ⟨i, rfl, y13'⟩ := kI_s y12'
  obtain ⟨c', q', rfl, y14'⟩ := tC_s y13'
  obtain ⟨y, rfl, y15'⟩ := kI_s y14'
  obtain ⟨rfl, y16'⟩ := tE_s y15'
  obtain ⟨rfl, y17'⟩ := pE_s y16'
  obtain ⟨rfl, y18'⟩ := nE_s y17'
  have yy' := y18'
  unfold H_lay_precinct at yy'
  obtain ⟨hok, rfl⟩ := Prod.mk.inj (Option.some.inj yy')
  exact ⟨20, q_lay_precinct _ _ _ _ _ _ _ hok⟩
theorem r_ref24_inPrecinct_0 : RoundOk Try.prog t_ref24_inPrecinct (annOf []) l_ref24_inPrecinct Out 20 0 65 [2, 3, 4, 5, 6, 11, 12, 13] (kxOf [11] [10]) (loopOf Try.f49 0) T_ref24_inPrecinct_0 := by
  intro vs bl Kc r h
  unfold T_ref24_inPrecinct_0 at h
  obtain ⟨t, y0', h'⟩ := getD_run h
  obtain ⟨c', vs, rfl, y1'⟩ := pO_s y0'
  obtain ⟨m, rfl, y2'⟩ := kI_s y1'
  obtain ⟨c', vs, rfl, y3'⟩ := pO_s y2'
  obtain ⟨s, rfl, y4'⟩ := kI_s y3'
  obtain ⟨c', vs, rfl, y5'⟩ := pO_s y4'
  obtain ⟨i, rfl, y6'⟩ := kI_s y5'
  obtain ⟨c', vs, rfl, y7'⟩ := pO_s y6'
  obtain ⟨rfl, y8'⟩ := kP_s y7'
  obtain ⟨c', vs, rfl, y9'⟩ := pO_s y8'
  obtain ⟨rfl, y10'⟩ := kP_s y9'
  obtain ⟨c', vs, rfl, y11'⟩ := pO_s y10'
  obtain ⟨rfl, y12'⟩ := kR_s y11'
  obtain ⟨c', vs, rfl, y13'⟩ := pO_s y12'
  obtain ⟨rfl, y14'⟩ := kR_s y13'
  obtain ⟨c', vs, rfl, y15'⟩ := pO_s y14'
  obtain ⟨j, rfl, y16'⟩ := kI_s y15'
  obtain ⟨rfl, y17'⟩ := pE_s y16'
  obtain ⟨q', bl, rfl, y18'⟩ := bB_s y17'
  obtain ⟨c', q', rfl, y19'⟩ := tC_s y18'
  obtain ⟨a, rfl, y20'⟩ := kI_s y19'
  obtain ⟨c', q', rfl, y21'⟩ := tC_s y20'
  obtain ⟨c, rfl, y22'⟩ := kI_s y21'
  obtain ⟨c', q', rfl, y23'⟩ := tC_s y22'
  obtain ⟨d, rfl, y24'⟩ := kI_s y23'
  obtain ⟨c', q', rfl, y25'⟩ := tC_s y24'
  obtain ⟨e, rfl, y26'⟩ := kI_s y25'
  obtain ⟨rfl, y27'⟩ := tE_s y26'
  obtain ⟨q', bl, rfl, y28'⟩ := bB_s y27'
  obtain ⟨p, rfl, y29'⟩ := rdPm_s y28'
  obtain ⟨v, bl, rfl, y30'⟩ := bAK_s y29'
  obtain ⟨l, bl, rfl, y31'⟩ := bAI_s y30'
  obtain ⟨rfl, y32'⟩ := bE_s y31'
  have yy' := y32'
  cases yy'
  exact (b_ref24_inPrecinct_0 ..).trans ((congrArg (LT.runc · Kc) (tu_ref24_inPrecinct_0 ..)).trans h')
theorem r_ref24_inPrecinct_1 : RoundOk Try.prog t_ref24_inPrecinct (annOf []) l_ref24_inPrecinct Out 20 0 65 [2, 3, 4, 5, 6, 11, 12, 13, 16, 17] (kxOf [2, 3, 4, 5, 6, 11, 12, 13] [10]) (loopOf Try.f49 1) T_ref24_inPrecinct_1 := by
  intro vs bl Kc r h
  unfold T_ref24_inPrecinct_1 at h
  obtain ⟨t, y0', h'⟩ := getD_run h
  obtain ⟨c', vs, rfl, y1'⟩ := pO_s y0'
  obtain ⟨m, rfl, y2'⟩ := kI_s y1'
  obtain ⟨c', vs, rfl, y3'⟩ := pO_s y2'
  obtain ⟨s, rfl, y4'⟩ := kI_s y3'
  obtain ⟨c', vs, rfl, y5'⟩ := pO_s y4'
  obtain ⟨i, rfl, y6'⟩ := kI_s y5'
  obtain ⟨c', vs, rfl, y7'⟩ := pO_s y6'
  obtain ⟨rfl, y8'⟩ := kP_s y7'
  obtain ⟨c', vs, rfl, y9'⟩ := pO_s y8'
  obtain ⟨rfl, y10'⟩ := kP_s y9'
  obtain ⟨c', vs, rfl, y11'⟩ := pO_s y10'
  obtain ⟨rfl, y12'⟩ := kR_s y11'
  obtain ⟨c', vs, rfl, y13'⟩ := pO_s y12'
  obtain ⟨rfl, y14'⟩ := kR_s y13'
  obtain ⟨c', vs, rfl, y15'⟩ := pO_s y14'
  obtain ⟨j, rfl, y16'⟩ := kI_s y15'
  obtain ⟨c', vs, rfl, y17'⟩ := pO_s y16'
  obtain ⟨rfl, y18'⟩ := kR_s y17'
  obtain ⟨c', vs, rfl, y19'⟩ := pO_s y18'
  obtain ⟨q, rfl, y20'⟩ := kI_s y19'
  obtain ⟨rfl, y21'⟩ := pE_s y20'
  obtain ⟨q', bl, rfl, y22'⟩ := bB_s y21'
  obtain ⟨c', q', rfl, y23'⟩ := tC_s y22'
  obtain ⟨a, rfl, y24'⟩ := kI_s y23'
  obtain ⟨c', q', rfl, y25'⟩ := tC_s y24'
  obtain ⟨c, rfl, y26'⟩ := kI_s y25'
  obtain ⟨c', q', rfl, y27'⟩ := tC_s y26'
  obtain ⟨d, rfl, y28'⟩ := kI_s y27'
  obtain ⟨c', q', rfl, y29'⟩ := tC_s y28'
  obtain ⟨e, rfl, y30'⟩ := kI_s y29'
  obtain ⟨rfl, y31'⟩ := tE_s y30'
  obtain ⟨q', bl, rfl, y32'⟩ := bB_s y31'
  obtain ⟨p, rfl, y33'⟩ := rdPm_s y32'
  obtain ⟨v, bl, rfl, y34'⟩ := bAK_s y33'
  obtain ⟨l, bl, rfl, y35'⟩ := bAI_s y34'
  obtain ⟨w, bl, rfl, y36'⟩ := bAR_s y35'
  obtain ⟨rfl, y37'⟩ := bE_s y36'
  have yy' := y37'
  cases yy'
  exact (b_ref24_inPrecinct_1 ..).trans ((congrArg (LT.runc · Kc) (tu_ref24_inPrecinct_1 ..)).trans h')
theorem o_ref24_inPrecinct : loopsOf (bodyOf Try.f49) = [loopOf Try.f49 0, loopOf Try.f49 1] := by kernel_rfl
theorem zz_ref24_inPrecinct_0 (a c d e : Int) (p : Pm) (m s i j : Int) (v : List Bk) (l : List Int) (hk : k_ref24_inPrecinct_0 a c d e p m s i j v l = true) : ∃ k, ∀ (K : Ex → List V → List (Option Blk) → Option Out) r, (c_ref24_inPrecinct_0 a c d e p m s i j v l).run K = some r → (iter T_ref24_inPrecinct_0 k [.one (.int .i64 m), .one (.int .i64 s), .one (.int .i64 i), .one (.ptr 0 0), .one (.ptr 1 0), .one (.row 2), .one (.row 3), .one (.int .i64 j)] [some (.box [.int .i64 a, .int .i64 c, .int .i64 d, .int .i64 e]), some (.box (pmC p)), some (.arr 65 (.pair (.int .i64) (.pair (.int .i64) (.pair (.int .i64) (.pair (.int .i64) (.pair (.int .i64) (.pair (.int .i64) (.pair (.int .i64) (.pair (.int .i64) (.int .i64))))))))) v), some (.arr 3 (.int .i64) l)]).run K = some r := by
  simp only [k_ref24_inPrecinct_0, Bool.and_eq_true, decide_eq_true_eq] at hk
  obtain ⟨⟨⟨⟨rfl, hn⟩, hs⟩, rfl⟩, rfl⟩ := hk
  have h1 := idxs_len p.le s
  refine Exists.elim (z_fold (T := T_ref24_inPrecinct_0) (st := fun j => ([.one (.int .i64 m), .one (.int .i64 s), .one (.int .i64 i), .one (.ptr 0 0), .one (.ptr 1 0), .one (.row 2), .one (.row 3), .one (.int .i64 (j : Int))], [some (.box [.int .i64 a, .int .i64 c, .int .i64 d, .int .i64 e]), some (.box (pmC p)), some (.arr 65 (.pair (.int .i64) (.pair (.int .i64) (.pair (.int .i64) (.pair (.int .i64) (.pair (.int .i64) (.pair (.int .i64) (.pair (.int .i64) (.pair (.int .i64) (.int .i64))))))))) (catT (pcU (a, c, d, e) p m s i) j)), some (.arr 3 (.int .i64) (idxs p.le s))])) (idxs p.le s).length (c_ref24_inPrecinct_0 a c d e p m s i 0 [] (idxs p.le s)) (fun j hj F K => ?_) (fun F K => ?_)) (fun k hk => ⟨k, hk⟩)
  · have hp := idxs_pl hj
    have g := gM_pcU (a, c, d, e) p m s i j hj
    have hl : j < (pcU (a, c, d, e) p m s i).length := by unfold pcU; rw [List.length_map]; exact hj
    have g1 := fndL_len (a, c, d, e) p (gI (idxs p.le s) j) i
    have g2 := fndN_w (a, c, d, e) p (gI (idxs p.le s) j) i
    have g3 := catT_l (pcU (a, c, d, e) p m s i) j
    have g4 := pcL_len (a, c, d, e) p m s i
    unfold pcL at g4
    simp only [tu_ref24_inPrecinct_0, U_ref24_inPrecinct_0, LT.next, LT.run, ite2_bool, decide_eq_true_eq, Int.toNat_natCast]
    have hw : (nums p && plOk (gI (idxs p.le s) j) p.le && decide (s = (gI (idxs p.le s) j + 2) / 3)) = true := by rw [hn, hp.1, hp.2.1]; simp
    have hk1 : k_ref24_inPrecinct_1 a c d e p m s i j 0 (catT (pcU (a, c, d, e) p m s i) j) (fndL (a, c, d, e) p (gI (idxs p.le s) j) i) (idxs p.le s) = true := by
      simp only [k_ref24_inPrecinct_1, Bool.and_eq_true, decide_eq_true_eq, true_and]
      omega
    rw [hw, hk1, wrap_in (n := (j : Int) + 1) (by omega) (by omega), show ((j : Int) + 1) = ((j + 1 : Nat) : Int) from rfl, catT_s _ _ hl, g]
    repeat rw [if_pos (by first | rfl | omega)]
    rfl
  · simp only [tu_ref24_inPrecinct_0, U_ref24_inPrecinct_0, LT.next, LT.run, ite2_bool, decide_eq_true_eq]
    have e : catT (pcU (a, c, d, e) p m s i) (idxs p.le s).length = pcL (a, c, d, e) p m s i := by
      have h : (pcU (a, c, d, e) p m s i).length = (idxs p.le s).length := by unfold pcU; rw [List.length_map]
      rw [← h, catT_n]; rfl
    rw [if_neg (by omega), e]
    rfl
theorem z_ref24_inPrecinct_0 : ∀ vs bl t, S_ref24_inPrecinct_0 vs bl = some (true, t) → ∃ n, ∀ (K : Ex → List V → List (Option Blk) → Option Out) r, t.run K = some r → (iter T_ref24_inPrecinct_0 n vs bl).run K = some r := by
  intro vs bl t y0'
  unfold S_ref24_inPrecinct_0 at y0'
  obtain ⟨c', vs, rfl, y1'⟩ := pO_s y0'
  obtain ⟨m, rfl, y2'⟩ := kI_s y1'
  obtain ⟨c', vs, rfl, y3'⟩ := pO_s y2'
  obtain ⟨s, rfl, y4'⟩ := kI_s y3'
  obtain ⟨c', vs, rfl, y5'⟩ := pO_s y4'
  obtain ⟨i, rfl, y6'⟩ := kI_s y5'
  obtain ⟨c', vs, rfl, y7'⟩ := pO_s y6'
  obtain ⟨rfl, y8'⟩ := kP_s y7'
  obtain ⟨c', vs, rfl, y9'⟩ := pO_s y8'
  obtain ⟨rfl, y10'⟩ := kP_s y9'
  obtain ⟨c', vs, rfl, y11'⟩ := pO_s y10'
  obtain ⟨rfl, y12'⟩ := kR_s y11'
  obtain ⟨c', vs, rfl, y13'⟩ := pO_s y12'
  obtain ⟨rfl, y14'⟩ := kR_s y13'
  obtain ⟨c', vs, rfl, y15'⟩ := pO_s y14'
  obtain ⟨j, rfl, y16'⟩ := kI_s y15'
  obtain ⟨rfl, y17'⟩ := pE_s y16'
  obtain ⟨q', bl, rfl, y18'⟩ := bB_s y17'
  obtain ⟨c', q', rfl, y19'⟩ := tC_s y18'
  obtain ⟨a, rfl, y20'⟩ := kI_s y19'
  obtain ⟨c', q', rfl, y21'⟩ := tC_s y20'
  obtain ⟨c, rfl, y22'⟩ := kI_s y21'
  obtain ⟨c', q', rfl, y23'⟩ := tC_s y22'
  obtain ⟨d, rfl, y24'⟩ := kI_s y23'
  obtain ⟨c', q', rfl, y25'⟩ := tC_s y24'
  obtain ⟨e, rfl, y26'⟩ := kI_s y25'
  obtain ⟨rfl, y27'⟩ := tE_s y26'
  obtain ⟨q', bl, rfl, y28'⟩ := bB_s y27'
  obtain ⟨p, rfl, y29'⟩ := rdPm_s y28'
  obtain ⟨v, bl, rfl, y30'⟩ := bAK_s y29'
  obtain ⟨l, bl, rfl, y31'⟩ := bAI_s y30'
  obtain ⟨rfl, y32'⟩ := bE_s y31'
  have yy' := y32'
  obtain ⟨hk, rfl⟩ := Prod.mk.inj (Option.some.inj yy')
  exact zz_ref24_inPrecinct_0 _ _ _ _ _ _ _ _ _ _ _ hk
theorem zz_ref24_inPrecinct_1 (a c d e : Int) (p : Pm) (m s i j q : Int) (v : List Bk) (w : List Rc) (l : List Int) (hk : k_ref24_inPrecinct_1 a c d e p m s i j q v w l = true) : ∃ k, ∀ (K : Ex → List V → List (Option Blk) → Option Out) r, (c_ref24_inPrecinct_1 a c d e p m s i j q v w l).run K = some r → (iter T_ref24_inPrecinct_1 k [.one (.int .i64 m), .one (.int .i64 s), .one (.int .i64 i), .one (.ptr 0 0), .one (.ptr 1 0), .one (.row 2), .one (.row 3), .one (.int .i64 j), .one (.row 4), .one (.int .i64 q)] [some (.box [.int .i64 a, .int .i64 c, .int .i64 d, .int .i64 e]), some (.box (pmC p)), some (.arr 65 (.pair (.int .i64) (.pair (.int .i64) (.pair (.int .i64) (.pair (.int .i64) (.pair (.int .i64) (.pair (.int .i64) (.pair (.int .i64) (.pair (.int .i64) (.int .i64))))))))) v), some (.arr 3 (.int .i64) l), some (.arr 23 (.pair (.int .i64) (.pair (.int .i64) (.pair (.int .i64) (.int .i64)))) w)]).run K = some r := by
  simp only [k_ref24_inPrecinct_1, Bool.and_eq_true, decide_eq_true_eq] at hk
  obtain ⟨⟨⟨rfl, hj⟩, hw⟩, hv⟩ := hk
  have hsm : small w.length = true := by simp only [small, decide_eq_true_eq]; omega
  refine Exists.elim (z_fold (T := T_ref24_inPrecinct_1) (st := fun q => ([.one (.int .i64 m), .one (.int .i64 s), .one (.int .i64 i), .one (.ptr 0 0), .one (.ptr 1 0), .one (.row 2), .one (.row 3), .one (.int .i64 j), .one (.row 4), .one (.int .i64 (q : Int))], [some (.box [.int .i64 a, .int .i64 c, .int .i64 d, .int .i64 e]), some (.box (pmC p)), some (.arr 65 (.pair (.int .i64) (.pair (.int .i64) (.pair (.int .i64) (.pair (.int .i64) (.pair (.int .i64) (.pair (.int .i64) (.pair (.int .i64) (.pair (.int .i64) (.int .i64))))))))) (v ++ bkT m s (gI l j.toNat) i w q)), some (.arr 3 (.int .i64) l), some (.arr 23 (.pair (.int .i64) (.pair (.int .i64) (.pair (.int .i64) (.int .i64)))) w)])) w.length (c_ref24_inPrecinct_1 a c d e p m s i j 0 v w l) (fun q hq F K => ?_) (fun F K => ?_)) (fun k hk => ⟨k, fun K r h => ?_⟩)
  · have h1 := bkT_l m s (gI l j.toNat) i w q
    simp only [tu_ref24_inPrecinct_1, U_ref24_inPrecinct_1, LT.next, LT.run, ite2_bool, decide_eq_true_eq, Int.toNat_natCast]
    rw [bkT_s, ← List.append_assoc]
    repeat rw [if_pos (by first | omega | (simp only [List.length_singleton, List.length_append]; omega))]
    rw [wrap_next hq hsm]
    rfl
  · simp only [tu_ref24_inPrecinct_1, U_ref24_inPrecinct_1, LT.next, LT.run, ite2_bool, decide_eq_true_eq]
    rw [if_neg (by omega)]
    rfl
  · have := hk K r h
    rw [show bkT m s (gI l j.toNat) i w 0 = [] from rfl, List.append_nil] at this
    exact this
theorem z_ref24_inPrecinct_1 : ∀ vs bl t, S_ref24_inPrecinct_1 vs bl = some (true, t) → ∃ n, ∀ (K : Ex → List V → List (Option Blk) → Option Out) r, t.run K = some r → (iter T_ref24_inPrecinct_1 n vs bl).run K = some r := by
  intro vs bl t y0'
  unfold S_ref24_inPrecinct_1 at y0'
  obtain ⟨c', vs, rfl, y1'⟩ := pO_s y0'
  obtain ⟨m, rfl, y2'⟩ := kI_s y1'
  obtain ⟨c', vs, rfl, y3'⟩ := pO_s y2'
  obtain ⟨s, rfl, y4'⟩ := kI_s y3'
  obtain ⟨c', vs, rfl, y5'⟩ := pO_s y4'
  obtain ⟨i, rfl, y6'⟩ := kI_s y5'
  obtain ⟨c', vs, rfl, y7'⟩ := pO_s y6'
  obtain ⟨rfl, y8'⟩ := kP_s y7'
  obtain ⟨c', vs, rfl, y9'⟩ := pO_s y8'
  obtain ⟨rfl, y10'⟩ := kP_s y9'
  obtain ⟨c', vs, rfl, y11'⟩ := pO_s y10'
  obtain ⟨rfl, y12'⟩ := kR_s y11'
  obtain ⟨c', vs, rfl, y13'⟩ := pO_s y12'
  obtain ⟨rfl, y14'⟩ := kR_s y13'
  obtain ⟨c', vs, rfl, y15'⟩ := pO_s y14'
  obtain ⟨j, rfl, y16'⟩ := kI_s y15'
  obtain ⟨c', vs, rfl, y17'⟩ := pO_s y16'
  obtain ⟨rfl, y18'⟩ := kR_s y17'
  obtain ⟨c', vs, rfl, y19'⟩ := pO_s y18'
  obtain ⟨q, rfl, y20'⟩ := kI_s y19'
  obtain ⟨rfl, y21'⟩ := pE_s y20'
  obtain ⟨q', bl, rfl, y22'⟩ := bB_s y21'
  obtain ⟨c', q', rfl, y23'⟩ := tC_s y22'
  obtain ⟨a, rfl, y24'⟩ := kI_s y23'
  obtain ⟨c', q', rfl, y25'⟩ := tC_s y24'
  obtain ⟨c, rfl, y26'⟩ := kI_s y25'
  obtain ⟨c', q', rfl, y27'⟩ := tC_s y26'
  obtain ⟨d, rfl, y28'⟩ := kI_s y27'
  obtain ⟨c', q', rfl, y29'⟩ := tC_s y28'
  obtain ⟨e, rfl, y30'⟩ := kI_s y29'
  obtain ⟨rfl, y31'⟩ := tE_s y30'
  obtain ⟨q', bl, rfl, y32'⟩ := bB_s y31'
  obtain ⟨p, rfl, y33'⟩ := rdPm_s y32'
  obtain ⟨v, bl, rfl, y34'⟩ := bAK_s y33'
  obtain ⟨l, bl, rfl, y35'⟩ := bAI_s y34'
  obtain ⟨w, bl, rfl, y36'⟩ := bAR_s y35'
  obtain ⟨rfl, y37'⟩ := bE_s y36'
  have yy' := y37'
  obtain ⟨hk, rfl⟩ := Prod.mk.inj (Option.some.inj yy')
  exact zz_ref24_inPrecinct_1 _ _ _ _ _ _ _ _ _ _ _ _ _ hk
theorem q_ref24_inPrecinct (a c d e : Int) (p : Pm) (m s i : Int) (hok : (nums p && inr 0 p.le s) = true) : funR Try.prog t_ref24_inPrecinct (annOf []) l_ref24_inPrecinct 20 Try.f49 [.agg [.int .i64 a, .int .i64 c, .int .i64 d, .int .i64 e], .agg (pmC p), .one (.int .i64 m), .one (.int .i64 s), .one (.int .i64 i)] [] = some ⟨.one (.row 0), [], [.arr 65 (.pair (.int .i64) (.pair (.int .i64) (.pair (.int .i64) (.pair (.int .i64) (.pair (.int .i64) (.pair (.int .i64) (.pair (.int .i64) (.pair (.int .i64) (.int .i64))))))))) (pcL (a, c, d, e) p m s i)]⟩ := by
    refine (e_ref24_inPrecinct ..).trans ?_
    simp only [Bool.and_eq_true] at hok
    have hk : k_ref24_inPrecinct_0 a c d e p m s i 0 [] (idxs p.le s) = true := by
      simp only [k_ref24_inPrecinct_0, hok, decide_true, Bool.and_self]
    rw [hk]
    rfl
theorem s_ref24_inPrecinct : SoundFun Try.prog 49 G_ref24_inPrecinct := by
  refine fun_ok (tab := t_ref24_inPrecinct) (ann := annOf []) (lt := l_ref24_inPrecinct) (tab_cons s_ref24_blocks (tab_cons s_ref06_Indices tab_nil)) (by kernel_rfl) (fn := Try.f49) (by kernel_rfl) (by decide) (c := bodyOf Try.f49) (by kernel_rfl) (by
    intro m b hb
    have hb' : b ∈ loopsOf (bodyOf Try.f49) := hb
    rw [o_ref24_inPrecinct] at hb'
    simp only [List.mem_cons, List.not_mem_nil, or_false] at hb'
    rcases hb' with rfl | rfl
    · exact loop_ok (key := 4) (by kernel_rfl) rfl r_ref24_inPrecinct_0 z_ref24_inPrecinct_0 m
    · exact loop_ok (key := 8) (by kernel_rfl) rfl r_ref24_inPrecinct_1 z_ref24_inPrecinct_1 m
    ) ?_
  intro args lent o y0'
  unfold G_ref24_inPrecinct at y0'
  obtain ⟨q', args, rfl, y1'⟩ := pA_s y0'
  obtain ⟨c', q', rfl, y2'⟩ := tC_s y1'
  obtain ⟨a, rfl, y3'⟩ := kI_s y2'
  obtain ⟨c', q', rfl, y4'⟩ := tC_s y3'
  obtain ⟨c, rfl, y5'⟩ := kI_s y4'
  obtain ⟨c', q', rfl, y6'⟩ := tC_s y5'
  obtain ⟨d, rfl, y7'⟩ := kI_s y6'
  obtain ⟨c', q', rfl, y8'⟩ := tC_s y7'
  obtain ⟨e, rfl, y9'⟩ := kI_s y8'
  obtain ⟨rfl, y10'⟩ := tE_s y9'
  obtain ⟨q', args, rfl, y11'⟩ := pA_s y10'
  obtain ⟨p, rfl, y12'⟩ := rdPm_s y11'
  obtain ⟨c', args, rfl, y13'⟩ := pO_s y12'
  obtain ⟨m, rfl, y14'⟩ := kI_s y13'
  obtain ⟨c', args, rfl, y15'⟩ := pO_s y14'
  obtain ⟨s, rfl, y16'⟩ := kI_s y15'
  obtain ⟨c', args, rfl, y17'⟩ := pO_s y16'
  obtain ⟨i, rfl, y18'⟩ := kI_s y17'
  obtain ⟨rfl, y19'⟩ := pE_s y18'
  obtain ⟨rfl, y20'⟩ := nE_s y19'
  have yy' := y20'
  unfold H_ref24_inPrecinct at yy'
  obtain ⟨hok, rfl⟩ := Prod.mk.inj (Option.some.inj yy')
  exact ⟨20, q_ref24_inPrecinct _ _ _ _ _ _ _ _ hok⟩
end Go.Rx.Ch24

set_option linter.unusedVariables false
set_option linter.unusedSimpArgs false
set_option maxRecDepth 100000
set_option maxHeartbeats 4000000
open Go Go.Rx Go.Proofs
namespace Go.Rx.Ch24
theorem fm_s {α : Type} (f : Nat → List α) (n : Nat) : (List.range (n + 1)).flatMap f = (List.range n).flatMap f ++ f n := by
  rw [List.range_succ, List.flatMap_append]; simp
theorem fm_len {α : Type} (f : Nat → List α) (M : Nat) (h : ∀ i, (f i).length ≤ M) : ∀ n, ((List.range n).flatMap f).length ≤ n * M
  | 0 => by simp
  | n + 1 => by
    have h1 := fm_len f M h n
    have h2 := h n
    rw [fm_s, List.length_append, Nat.add_mul]
    omega
theorem fm_flat {α : Type} (f : Nat → List (List α)) (M : Nat) (h : ∀ i, (f i).flatten.length ≤ M) : ∀ n, ((List.range n).flatMap f).flatten.length ≤ n * M
  | 0 => by simp
  | n + 1 => by
    have h1 := fm_flat f M h n
    have h2 := h n
    rw [fm_s, List.flatten_append, List.length_append, Nat.add_mul]
    omega
theorem pcs_s (r : Rc) (p : Pm) (m s : Int) (n : Nat) : pcs r p m s (n + 1) = pcs r p m s n ++ [pcL r p m s n] := by
  unfold pcs; rw [List.range_succ, List.map_append]; rfl
theorem pcs_l (r : Rc) (p : Pm) (m s : Int) (n : Nat) : (pcs r p m s n).length = n := by simp [pcs]
theorem pcs_f (r : Rc) (p : Pm) (m s : Int) (n : Nat) : (pcs r p m s n).flatten.length ≤ n * 196608 := by
  have := flat_len (u := pcs r p m s n) (M := 196608) (by
    intro l hl
    simp only [pcs, List.mem_map] at hl
    obtain ⟨i, _, rfl⟩ := hl
    exact pcL_len ..)
  rwa [pcs_l] at this
theorem rsN_w (r : Rc) (p : Pm) (s : Int) : 0 ≤ (rsN r p s).1 * (rsN r p s).2 ∧ (rsN r p s).1 * (rsN r p s).2 ≤ 65536 := prec_w ..
theorem rsK_w (r : Rc) (p : Pm) (s : Int) : rsK r p s ≤ 65536 := by
  have := rsN_w r p s
  unfold rsK
  omega
theorem rss_s (r : Rc) (p : Pm) (m : Int) (n : Nat) : rss r p m (n + 1) = rss r p m n ++ pcs r p m n (rsK r p n) := fm_s ..
theorem rss_l (r : Rc) (p : Pm) (m : Int) (n : Nat) : (rss r p m n).length ≤ n * 65536 := fm_len _ _ (fun i => by rw [pcs_l]; exact rsK_w ..) n
theorem rss_f (r : Rc) (p : Pm) (m : Int) (n : Nat) : (rss r p m n).flatten.length ≤ n * 12884901888 := fm_flat _ _ (fun i => by
  have h1 := pcs_f r p m i (rsK r p i)
  have h2 := rsK_w r p i
  omega) n
theorem cmps_s (h : Hd) (p : Pm) (t : Int) (n : Nat) : cmps h p t (n + 1) = cmps h p t n ++ rss (compT h t n) p n (p.le + 1).toNat := fm_s ..
theorem cmps_l {p : Pm} (hp : p.le ≤ 5) (h : Hd) (t : Int) (n : Nat) : (cmps h p t n).length ≤ n * 393216 := fm_len _ _ (fun i => by
  have h1 := rss_l (compT h t i) p i (p.le + 1).toNat
  omega) n
theorem cmps_f {p : Pm} (hp : p.le ≤ 5) (h : Hd) (t : Int) (n : Nat) : (cmps h p t n).flatten.length ≤ n * 77309411328 := fm_flat _ _ (fun i => by
  have h1 := rss_f (compT h t i) p i (p.le + 1).toNat
  omega) n
theorem exists_m {h : Hd} {p : Pm} {t k m : Int} (e : existsB h p t k = true) (h0 : 0 ≤ m) (h1 : m < h.cs.length) : existsB h p t m = true := by
  have := exists_b e
  simp only [existsB, Bool.and_eq_true, decide_eq_true_eq]
  exact ⟨⟨⟨⟨this.1, this.2.2.2.2.1⟩, this.2.2.2.2.2.1⟩, h0⟩, h1⟩
theorem pcL_out {r : Rc} {p : Pm} {s i : Int} (h : ¬ (0 ≤ i ∧ i < (rsN r p s).1 * (rsN r p s).2)) (m : Int) : pcL r p m s i = [] := by
  have key : ∀ j, j < (idxs p.le s).length → fndL r p (gI (idxs p.le s) j) i = [] := by
    intro j hj
    have hp := idxs_pl hj
    have : fndOk r p (gI (idxs p.le s) j) i = false := by
      unfold fndOk inO inbOk plcOk
      rw [hp.2.1]
      have : (decide (0 ≤ i) && decide (i < (precN (rsR r p s).1 (rsR r p s).2.1 (rsR r p s).2.2.1 (rsR r p s).2.2.2 (prec p s).1 (prec p s).2).1 * (precN (rsR r p s).1 (rsR r p s).2.1 (rsR r p s).2.2.1 (rsR r p s).2.2.2 (prec p s).1 (prec p s).2).2)) = false := by
        rw [Bool.eq_false_iff]
        intro hh
        simp only [Bool.and_eq_true, decide_eq_true_eq] at hh
        exact h hh
      rw [this]
      simp
    unfold fndL
    rw [this]
    rfl
  unfold pcL
  rw [← ofT_n]
  have : ∀ n, n ≤ (idxs p.le s).length → (ofT r p m s i (idxs p.le s) n).flatten = [] := by
    intro n
    induction n with
    | zero => intro _; rfl
    | succ n ih =>
      intro hn
      rw [ofT_s, List.flatten_append, ih (by omega), key n (by omega)]
      rfl
  exact this _ (Nat.le_refl _)
theorem idxs_n {n s : Int} (h : inr 0 n s = false) : idxs n s = [] := by
  unfold idxs; rw [h]; simp
theorem pcL_n {p : Pm} {s : Int} (h : inr 0 p.le s = false) (r : Rc) (m i : Int) : pcL r p m s i = [] := by
  unfold pcL pcU; rw [idxs_n h]; rfl
theorem sumN_ge {p : Pm} (h : nums p = true) (r : Rc) {s k : Nat} (hs : s < k) (hk : (k : Int) ≤ p.le + 1) : resN r p s ≤ sumN r p k := by
  induction k with
  | zero => omega
  | succ k ih =>
    have h1 := sumN_b h r k (by omega)
    have h2 := resN_b h r (s := k) (by omega) (by omega)
    simp only [sumN]
    rcases Nat.lt_or_ge s k with h3 | h3
    · have := ih h3 (by omega); omega
    · rw [show s = k by omega]; omega
theorem totN_ge {p : Pm} (h : nums p = true) (t : Rc) (l : List (Int × Bool × Int × Int)) {s k : Nat} (hs : s < k) : compN (redT t (gC l s)) p ≤ totN t p l k := by
  induction k with
  | zero => omega
  | succ k ih =>
    have h1 := totN_b h t l k
    have h2 := compN_b h (redT t (gC l k))
    simp only [totN]
    rcases Nat.lt_or_ge s k with h3 | h3
    · have := ih h3; omega
    · rw [show s = k by omega]; omega
theorem tilesH_e {h : Hd} (e : header h = 0) : tilesH h = tilesL h.a h.b h.c h.d h.tw h.th := by
  unfold tilesH; rw [if_neg (by omega)]
theorem tile_f {h : Hd} {p : Pm} {t k : Int} (e : existsB h p t k = true) : fits (gR (tilesH h) t.toNat) p h.cs = true ∧ validR (gR (tilesH h) t.toNat) = true := by
  have eb := exists_b e
  have c := chk_b eb.1
  have hv := valid_tilesL h.a h.b h.c h.d h.tw h.th
  have hl : t.toNat < (tilesL h.a h.b h.c h.d h.tw h.th).length := by
    have := eb.2.2.2.2.2.1
    rw [tilesH_e c.1] at this
    omega
  rw [tilesH_e c.1, gR, List.getD_eq_getElem?_getD, List.getElem?_eq_getElem hl]
  exact ⟨List.all_eq_true.1 c.2.2.1 _ (List.getElem_mem hl), List.all_eq_true.1 hv _ (List.getElem_mem hl)⟩
theorem compT_e {h : Hd} {p : Pm} {t k : Int} (e : existsB h p t k = true) : compT h t k = redT (gR (tilesH h) t.toNat) (gC h.cs k.toNat) := by
  have eb := exists_b e
  unfold compT
  rw [if_neg (by omega)]
theorem resN_f {h : Hd} {p : Pm} {t k : Int} (e : existsB h p t k = true) {s : Int} (h0 : 0 ≤ s) (h1 : s ≤ p.le) : 0 ≤ resN (compT h t k) p s ∧ resN (compT h t k) p s ≤ 65536 := by
  have eb := exists_b e
  have f := (tile_f e).1
  have hn := eb.2.2.1
  have nb := nums_b hn
  simp only [fits, Bool.and_eq_true, decide_eq_true_eq] at f
  have t1 := totN_b hn (gR (tilesH h) t.toNat) h.cs h.cs.length
  have t2 : 1 * totN (gR (tilesH h) t.toNat) p h.cs h.cs.length ≤ p.la * totN (gR (tilesH h) t.toNat) p h.cs h.cs.length := Int.mul_le_mul_of_nonneg_right (by omega) t1.1
  have t3 := f.2
  unfold packs at t3
  have t4 := totN_ge hn (gR (tilesH h) t.toNat) h.cs (s := k.toNat) (k := h.cs.length) (by omega)
  have t5 := sumN_ge hn (compT h t k) (s := s.toNat) (k := (p.le + 1).toNat) (by omega) (by omega)
  rw [← compT_e e] at t4
  unfold compN at t4
  rw [Int.toNat_of_nonneg h0] at t5
  have t6 := resN_b hn (compT h t k) h0 h1
  omega
theorem rs_prod {h : Hd} {p : Pm} {t k : Int} (e : existsB h p t k = true) {s : Int} (h0 : 0 ≤ s) (h1 : s ≤ p.le) : (rsN (compT h t k) p s).1 * (rsN (compT h t k) p s).2 = resN (compT h t k) p s := by
  have eb := exists_b e
  have hn := eb.2.2.1
  have f := resN_f e h0 h1
  have pb := prec_b hn h0 h1
  have hv : validR (rsR (compT h t k) p s) = true := valid_resR ..
  have e1 : resN (compT h t k) p s = cellsN (rsR (compT h t k) p s).1 (rsR (compT h t k) p s).2.1 (rsR (compT h t k) p s).2.2.1 (rsR (compT h t k) p s).2.2.2 (prec p s).1 (prec p s).2 := rfl
  rw [e1] at f ⊢
  unfold rsN
  generalize rsR (compT h t k) p s = q at f hv ⊢
  obtain ⟨a, b, c, d⟩ := q
  simp only at f ⊢
  unfold validR at hv
  simp only at hv
  have hb := valid_b hv
  have q0 : (0 : Int) ≤ (prec p s).1 ∧ (0 : Int) ≤ (prec p s).2 := by
    refine ⟨Int.le_trans ?_ pb.1, Int.le_trans ?_ pb.2.2.1⟩ <;> split <;> omega
  have p1 := prN_b hb.1 hb.2.1 hb.2.2.1 pb.2.1
  have p2 := prN_b hb.2.2.2.1 hb.2.2.2.2.1 hb.2.2.2.2.2 pb.2.2.2
  have m1 := prod_b p1.1 p1.2 p2.1 p2.2
  unfold precN gridS
  unfold cellsN at f ⊢
  rw [hv, inr_t (a := 0) (b := 12) (x := (prec p s).1) q0.1 pb.2.1, inr_t (a := 0) (b := 12) (x := (prec p s).2) q0.2 pb.2.2.2]
  cases he : empty a b c d
  rotate_left
  · simp
  rw [he] at f
  unfold prN at p1 p2 m1 ⊢
  unfold w at f ⊢
  simp only [Bool.false_eq_true, if_false] at f ⊢
  rw [wrap_in (n := cdiv c (pw (prec p s).1) - fdiv a (pw (prec p s).1)) (by omega) (by omega), wrap_in (n := cdiv d (pw (prec p s).2) - fdiv b (pw (prec p s).2)) (by omega) (by omega), wrap_in (by omega) (by omega)] at f ⊢
  rw [if_neg (by decide), if_neg (by omega)]
theorem q_lay_Blocks (h : Hd) (p : Pm) (t m s i y : Int) (hok : (small h.cs.length && (small p.pr.length && small p.st.length)) = true) : funR Try.prog t_lay_Blocks (annOf []) l_lay_Blocks 20 Try.f21 [.agg (hdC h), .agg (pmC p), .one (.int .i64 t), .agg [.int .i64 m, .int .i64 s, .int .i64 i, .int .i64 y]] [] = some ⟨.one (.row 0), [], [.arr 65 (.pair (.int .i64) (.pair (.int .i64) (.pair (.int .i64) (.pair (.int .i64) (.pair (.int .i64) (.pair (.int .i64) (.pair (.int .i64) (.pair (.int .i64) (.int .i64))))))))) (blocksL h p t m s i)]⟩ := by
    refine (e_lay_Blocks ..).trans ?_
    have hok' := hok
    simp only [Bool.and_eq_true] at hok'
    simp only [ite2_bool, decide_eq_true_eq, hok, hok', if_true, blocksL]
    cases existsB h p t m <;> rfl
theorem s_lay_Blocks : SoundFun Try.prog 21 G_lay_Blocks := by
  refine fun_ok (tab := t_lay_Blocks) (ann := annOf []) (lt := l_lay_Blocks) (tab_cons s_lay_exists (tab_cons s_lay_precinct tab_nil)) (by kernel_rfl) (fn := Try.f21) (by kernel_rfl) (by decide) (c := bodyOf Try.f21) (by kernel_rfl) (fun m b hb => absurd hb (by show b ∉ loopsOf (bodyOf Try.f21); rw [show loopsOf (bodyOf Try.f21) = [] from by kernel_rfl]; exact List.not_mem_nil)) ?_
  intro args lent o y0'
  unfold G_lay_Blocks at y0'
  obtain ⟨q', args, rfl, y1'⟩ := pA_s y0'
  obtain ⟨h, rfl, y2'⟩ := rdHd_s y1'
  obtain ⟨q', args, rfl, y3'⟩ := pA_s y2'
  obtain ⟨p, rfl, y4'⟩ := rdPm_s y3'
  obtain ⟨c', args, rfl, y5'⟩ := pO_s y4'
  obtain ⟨t, rfl, y6'⟩ := kI_s y5'
  obtain ⟨q', args, rfl, y7'⟩ := pA_s y6'
  obtain ⟨c', q', rfl, y8'⟩ := tC_s y7'
  obtain ⟨m, rfl, y9'⟩ := kI_s y8'
  obtain ⟨c', q', rfl, y10'⟩ := tC_s y9'
  obtain ⟨s, rfl, y11'⟩ := kI_s y10'
  obtain ⟨c', q', rfl, y12'⟩ := tC_s y11'
  obtain ⟨i, rfl, y13'⟩ := kI_s y12'
  obtain ⟨c', q', rfl, y14'⟩ := tC_s y13'
  obtain ⟨y, rfl, y15'⟩ := kI_s y14'
  obtain ⟨rfl, y16'⟩ := tE_s y15'
  obtain ⟨rfl, y17'⟩ := pE_s y16'
  obtain ⟨rfl, y18'⟩ := nE_s y17'
  have yy' := y18'
  unfold H_lay_Blocks at yy'
  obtain ⟨hok, rfl⟩ := Prod.mk.inj (Option.some.inj yy')
  exact ⟨20, q_lay_Blocks _ _ _ _ _ _ _ hok⟩
theorem q_ref24_Blocks (h : Hd) (p : Pm) (t m s i y : Int) (hok : (small h.cs.length && (small p.pr.length && small p.st.length)) = true) : funR Try.prog t_ref24_Blocks (annOf []) l_ref24_Blocks 20 Try.f22 [.agg (hdC h), .agg (pmC p), .one (.int .i64 t), .agg [.int .i64 m, .int .i64 s, .int .i64 i, .int .i64 y]] [] = some ⟨.one (.row 0), [], [.arr 65 (.pair (.int .i64) (.pair (.int .i64) (.pair (.int .i64) (.pair (.int .i64) (.pair (.int .i64) (.pair (.int .i64) (.pair (.int .i64) (.pair (.int .i64) (.int .i64))))))))) (blocksL h p t m s i)]⟩ := by
    refine (e_ref24_Blocks ..).trans ?_
    have hok' := hok
    simp only [Bool.and_eq_true] at hok'
    simp only [ite2_bool, decide_eq_true_eq, hok, hok', if_true, blocksL]
    unfold resM
    by_cases e : existsB h p t m = true
    rotate_left
    · simp only [Bool.not_eq_true] at e
      simp only [e, Bool.false_and, Bool.false_eq_true, if_false]
      by_cases h1 : i < 0
      · simp [h1]
      · have : i ≥ IntKind.wrap .i64 (0 * 0) := by rw [Int.zero_mul, wrap_in (by omega) (by omega)]; omega
        rw [if_neg h1, if_pos this]
        rfl
    have eb := exists_b e
    by_cases hs : inr 0 p.le s = true
    rotate_left
    · simp only [Bool.not_eq_true] at hs
      rw [pcL_n hs]
      simp only [e, hs, Bool.and_false, Bool.false_eq_true, if_false]
      by_cases h1 : i < 0
      · simp [h1]
      · have : i ≥ IntKind.wrap .i64 (0 * 0) := by rw [Int.zero_mul, wrap_in (by omega) (by omega)]; omega
        rw [if_neg h1, if_pos this]
        rfl
    have pw0 := rsN_w (compT h t m) p s
    simp only [e, hs, eb.2.2.1, Bool.and_self, if_true]
    rw [wrap_in (n := (rsN (compT h t m) p s).1 * (rsN (compT h t m) p s).2) (by omega) (by omega)]
    by_cases h1 : i < 0
    · rw [if_pos h1, pcL_out (by omega)]
    by_cases h2 : i ≥ (rsN (compT h t m) p s).1 * (rsN (compT h t m) p s).2
    · rw [if_neg h1, if_pos h2, pcL_out (by omega)]
    rw [if_neg h1, if_neg h2]
theorem s_ref24_Blocks : SoundFun Try.prog 22 G_ref24_Blocks := by
  refine fun_ok (tab := t_ref24_Blocks) (ann := annOf []) (lt := l_ref24_Blocks) (tab_cons s_ref24_Component (tab_cons s_ref24_Resolution (tab_cons s_ref24_inPrecinct tab_nil))) (by kernel_rfl) (fn := Try.f22) (by kernel_rfl) (by decide) (c := bodyOf Try.f22) (by kernel_rfl) (fun m b hb => absurd hb (by show b ∉ loopsOf (bodyOf Try.f22); rw [show loopsOf (bodyOf Try.f22) = [] from by kernel_rfl]; exact List.not_mem_nil)) ?_
  intro args lent o y0'
  unfold G_ref24_Blocks at y0'
  obtain ⟨q', args, rfl, y1'⟩ := pA_s y0'
  obtain ⟨h, rfl, y2'⟩ := rdHd_s y1'
  obtain ⟨q', args, rfl, y3'⟩ := pA_s y2'
  obtain ⟨p, rfl, y4'⟩ := rdPm_s y3'
  obtain ⟨c', args, rfl, y5'⟩ := pO_s y4'
  obtain ⟨t, rfl, y6'⟩ := kI_s y5'
  obtain ⟨q', args, rfl, y7'⟩ := pA_s y6'
  obtain ⟨c', q', rfl, y8'⟩ := tC_s y7'
  obtain ⟨m, rfl, y9'⟩ := kI_s y8'
  obtain ⟨c', q', rfl, y10'⟩ := tC_s y9'
  obtain ⟨s, rfl, y11'⟩ := kI_s y10'
  obtain ⟨c', q', rfl, y12'⟩ := tC_s y11'
  obtain ⟨i, rfl, y13'⟩ := kI_s y12'
  obtain ⟨c', q', rfl, y14'⟩ := tC_s y13'
  obtain ⟨y, rfl, y15'⟩ := kI_s y14'
  obtain ⟨rfl, y16'⟩ := tE_s y15'
  obtain ⟨rfl, y17'⟩ := pE_s y16'
  obtain ⟨rfl, y18'⟩ := nE_s y17'
  have yy' := y18'
  unfold H_ref24_Blocks at yy'
  obtain ⟨hok, rfl⟩ := Prod.mk.inj (Option.some.inj yy')
  exact ⟨20, q_ref24_Blocks _ _ _ _ _ _ _ hok⟩
theorem r_ref24_SameBlocks_0 : RoundOk Try.prog t_ref24_SameBlocks (annOf []) l_ref24_SameBlocks Out 20 0 26 [0, 1, 5] (kxOf [] [4]) (loopOf Try.f20 0) T_ref24_SameBlocks_0 := by
  intro vs bl Kc r h
  unfold T_ref24_SameBlocks_0 at h
  obtain ⟨t, y0', h'⟩ := getD_run h
  obtain ⟨c', vs, rfl, y1'⟩ := pO_s y0'
  obtain ⟨l, rfl, y2'⟩ := kLK_s y1'
  obtain ⟨c', vs, rfl, y3'⟩ := pO_s y2'
  obtain ⟨m, rfl, y4'⟩ := kLK_s y3'
  obtain ⟨c', vs, rfl, y5'⟩ := pO_s y4'
  obtain ⟨i, rfl, y6'⟩ := kI_s y5'
  obtain ⟨rfl, y7'⟩ := pE_s y6'
  obtain ⟨rfl, y8'⟩ := bE_s y7'
  have yy' := y8'
  cases yy'
  exact (b_ref24_SameBlocks_0 ..).trans ((congrArg (LT.runc · Kc) (tu_ref24_SameBlocks_0 ..)).trans h')
theorem o_ref24_SameBlocks : loopsOf (bodyOf Try.f20) = [loopOf Try.f20 0] := by kernel_rfl
theorem zz_ref24_SameBlocks_0 (l m : List Bk) (hsm : small (l.length) = true) (hc : decide (l.length = m.length) = true) : ∃ k, ∀ (K : Ex → List V → List (Option Blk) → Option Out) r, (c_ref24_SameBlocks_0 l m).run K = some r → (iter T_ref24_SameBlocks_0 k [.one (.lst (.pair (.int .i64) (.pair (.int .i64) (.pair (.int .i64) (.pair (.int .i64) (.pair (.int .i64) (.pair (.int .i64) (.pair (.int .i64) (.pair (.int .i64) (.int .i64))))))))) l), .one (.lst (.pair (.int .i64) (.pair (.int .i64) (.pair (.int .i64) (.pair (.int .i64) (.pair (.int .i64) (.pair (.int .i64) (.pair (.int .i64) (.pair (.int .i64) (.int .i64))))))))) m), .one (.int .i64 0)] []).run K = some r := by
  refine z_idx (st := fun i => ([.one (.lst (.pair (.int .i64) (.pair (.int .i64) (.pair (.int .i64) (.pair (.int .i64) (.pair (.int .i64) (.pair (.int .i64) (.pair (.int .i64) (.pair (.int .i64) (.int .i64))))))))) l), .one (.lst (.pair (.int .i64) (.pair (.int .i64) (.pair (.int .i64) (.pair (.int .i64) (.pair (.int .i64) (.pair (.int .i64) (.pair (.int .i64) (.pair (.int .i64) (.int .i64))))))))) m), .one (.int .i64 ((i : Nat) : Int))], [])) (l.length) (fun j => gK l j == gK m j) _ _ (fun i hi F K => ?_) (fun F K => ?_)
  · have hi' : (i : Int) < (l.length : Int) := by omega
    have hc' := hc
    simp only [Bool.and_eq_true, decide_eq_true_eq] at hc'
    simp only [tu_ref24_SameBlocks_0, U_ref24_SameBlocks_0, LT.next, LT.run, ite2_dec, ite2_bool, wrap_next hi hsm, Int.toNat_natCast, hi', Int.natCast_nonneg, and_self, if_true, gI, gP, gC, gR, gK]
    have hj : (i : Int) < (m.length : Int) := by omega
    simp [hj, Prod.ext_iff] <;> (repeat' split) <;> simp_all
  · simp only [tu_ref24_SameBlocks_0, U_ref24_SameBlocks_0, LT.next, LT.run, ite2_dec, Int.lt_irrefl, if_false]
    try rfl
theorem z_ref24_SameBlocks_0 : ∀ vs bl t, S_ref24_SameBlocks_0 vs bl = some (true, t) → ∃ n, ∀ (K : Ex → List V → List (Option Blk) → Option Out) r, t.run K = some r → (iter T_ref24_SameBlocks_0 n vs bl).run K = some r := by
  intro vs bl t y0'
  unfold S_ref24_SameBlocks_0 at y0'
  obtain ⟨c', vs, rfl, y1'⟩ := pO_s y0'
  obtain ⟨l, rfl, y2'⟩ := kLK_s y1'
  obtain ⟨c', vs, rfl, y3'⟩ := pO_s y2'
  obtain ⟨m, rfl, y4'⟩ := kLK_s y3'
  obtain ⟨c', vs, rfl, y5'⟩ := pO_s y4'
  obtain ⟨i, rfl, y6'⟩ := kI_s y5'
  obtain ⟨rfl, y7'⟩ := pE_s y6'
  obtain ⟨rfl, y8'⟩ := bE_s y7'
  have yy' := y8'
  obtain ⟨hk, rfl⟩ := Prod.mk.inj (Option.some.inj yy')
  unfold k_ref24_SameBlocks_0 at hk
  simp only [Bool.and_eq_true, decide_eq_true_eq, and_assoc] at hk
  obtain ⟨rfl, hsm, hc⟩ := hk
  exact zz_ref24_SameBlocks_0 _ _ hsm (by first | exact hc | simpa using hc)
theorem q_ref24_SameBlocks (l m : List Bk) (hok : small l.length = true) : funR Try.prog t_ref24_SameBlocks (annOf []) l_ref24_SameBlocks 20 Try.f20 [.one (.lst (.pair (.int .i64) (.pair (.int .i64) (.pair (.int .i64) (.pair (.int .i64) (.pair (.int .i64) (.pair (.int .i64) (.pair (.int .i64) (.pair (.int .i64) (.int .i64))))))))) l), .one (.lst (.pair (.int .i64) (.pair (.int .i64) (.pair (.int .i64) (.pair (.int .i64) (.pair (.int .i64) (.pair (.int .i64) (.pair (.int .i64) (.pair (.int .i64) (.int .i64))))))))) m)] [] = some ⟨.one (.bool (decide (l = m))), [], []⟩ := by
    refine (e_ref24_SameBlocks ..).trans ?_
    simp only [ite2_bool, k_ref24_SameBlocks_0, p_ref24_SameBlocks_0, gK]
    by_cases hl : l.length = m.length
    · rw [all_eq l m _ hl]
      rw [hl] at hok
      simp [hl, hok]
      split <;> simp_all
    · have h1 : l ≠ m := fun e => hl (by rw [e])
      have h2 : ¬ ((l.length : Int) = m.length) := by omega
      simp [h1, h2]
theorem s_ref24_SameBlocks : SoundFun Try.prog 20 G_ref24_SameBlocks := by
  refine fun_ok (tab := t_ref24_SameBlocks) (ann := annOf []) (lt := l_ref24_SameBlocks) tab_nil (by kernel_rfl) (fn := Try.f20) (by kernel_rfl) (by decide) (c := bodyOf Try.f20) (by kernel_rfl) (by
    intro m b hb
    have hb' : b ∈ loopsOf (bodyOf Try.f20) := hb
    rw [o_ref24_SameBlocks] at hb'
    simp only [List.mem_cons, List.not_mem_nil, or_false] at hb'
    rcases hb' with rfl
    · exact loop_ok (key := 4) (by kernel_rfl) rfl r_ref24_SameBlocks_0 z_ref24_SameBlocks_0 m
    ) ?_
  intro args lent o y0'
  unfold G_ref24_SameBlocks at y0'
  obtain ⟨c', args, rfl, y1'⟩ := pO_s y0'
  obtain ⟨l, rfl, y2'⟩ := kLK_s y1'
  obtain ⟨c', args, rfl, y3'⟩ := pO_s y2'
  obtain ⟨m, rfl, y4'⟩ := kLK_s y3'
  obtain ⟨rfl, y5'⟩ := pE_s y4'
  obtain ⟨rfl, y6'⟩ := nE_s y5'
  have yy' := y6'
  unfold H_ref24_SameBlocks at yy'
  obtain ⟨hok, rfl⟩ := Prod.mk.inj (Option.some.inj yy')
  exact ⟨20, q_ref24_SameBlocks _ _ hok⟩
theorem q_ref24_Packets (h : Hd) (p : Pm) (t : Int) (hok : (small h.cs.length && (small p.pr.length && small p.st.length)) = true) : funR Try.prog t_ref24_Packets (annOf []) l_ref24_Packets 20 Try.f17 [.agg (hdC h), .agg (pmC p), .one (.int .i64 t)] [] = some ⟨.one (.int .i64 (pkN h p t)), [], []⟩ := by
    refine (e_ref24_Packets ..).trans ?_
    have hok' := hok
    simp only [Bool.and_eq_true] at hok'
    simp only [ite2_bool, decide_eq_true_eq, hok, hok', if_true, pkN]
    cases e : existsB h p t 0
    · rfl
    have eb := exists_b e
    have f := (tile_f e).2
    unfold validR at f
    have h4 : h.cs.length ≤ 4 := eb.2.2.2.1
    rw [eb.2.2.1, f, if_pos (show 0 ≤ t ∧ t < ((tilesH h).length : Int) by omega), if_pos (show t.toNat < (tilesH h).length by omega)]
    simp only [h4, decide_true, Bool.and_self, if_true, Bool.not_true, Bool.false_eq_true, if_false]
theorem s_ref24_Packets : SoundFun Try.prog 17 G_ref24_Packets := by
  refine fun_ok (tab := t_ref24_Packets) (ann := annOf []) (lt := l_ref24_Packets) (tab_cons s_ref24_Tiles (tab_cons s_ref24_exists (tab_cons s_ref23_Packets tab_nil))) (by kernel_rfl) (fn := Try.f17) (by kernel_rfl) (by decide) (c := bodyOf Try.f17) (by kernel_rfl) (fun m b hb => absurd hb (by show b ∉ loopsOf (bodyOf Try.f17); rw [show loopsOf (bodyOf Try.f17) = [] from by kernel_rfl]; exact List.not_mem_nil)) ?_
  intro args lent o y0'
  unfold G_ref24_Packets at y0'
  obtain ⟨q', args, rfl, y1'⟩ := pA_s y0'
  obtain ⟨h, rfl, y2'⟩ := rdHd_s y1'
  obtain ⟨q', args, rfl, y3'⟩ := pA_s y2'
  obtain ⟨p, rfl, y4'⟩ := rdPm_s y3'
  obtain ⟨c', args, rfl, y5'⟩ := pO_s y4'
  obtain ⟨t, rfl, y6'⟩ := kI_s y5'
  obtain ⟨rfl, y7'⟩ := pE_s y6'
  obtain ⟨rfl, y8'⟩ := nE_s y7'
  have yy' := y8'
  unfold H_ref24_Packets at yy'
  obtain ⟨hok, rfl⟩ := Prod.mk.inj (Option.some.inj yy')
  exact ⟨20, q_ref24_Packets _ _ _ hok⟩
theorem r_lay_Packets_0 : RoundOk Try.prog t_lay_Packets (annOf []) l_lay_Packets Out 20 0 50 [2, 3, 4, 7, 20, 21] (kxOf [4, 7] [6]) (loopOf Try.f16 0) T_lay_Packets_0 := by
  intro vs bl Kc r h
  unfold T_lay_Packets_0 at h
  obtain ⟨t, y0', h'⟩ := getD_run h
  obtain ⟨c', vs, rfl, y1'⟩ := pO_s y0'
  obtain ⟨t, rfl, y2'⟩ := kI_s y1'
  obtain ⟨c', vs, rfl, y3'⟩ := pO_s y2'
  obtain ⟨rfl, y4'⟩ := kP_s y3'
  obtain ⟨c', vs, rfl, y5'⟩ := pO_s y4'
  obtain ⟨rfl, y6'⟩ := kP_s y5'
  obtain ⟨c', vs, rfl, y7'⟩ := pO_s y6'
  obtain ⟨a, rfl, y8'⟩ := kI_s y7'
  obtain ⟨c', vs, rfl, y9'⟩ := pO_s y8'
  obtain ⟨n, rfl, y10'⟩ := kI_s y9'
  obtain ⟨c', vs, rfl, y11'⟩ := pO_s y10'
  obtain ⟨j, rfl, y12'⟩ := kI_s y11'
  obtain ⟨rfl, y13'⟩ := pE_s y12'
  obtain ⟨q', bl, rfl, y14'⟩ := bB_s y13'
  obtain ⟨h, rfl, y15'⟩ := rdHd_s y14'
  obtain ⟨q', bl, rfl, y16'⟩ := bB_s y15'
  obtain ⟨p, rfl, y17'⟩ := rdPm_s y16'
  obtain ⟨rfl, y18'⟩ := bE_s y17'
  have yy' := y18'
  cases yy'
  exact (b_lay_Packets_0 ..).trans ((congrArg (LT.runc · Kc) (tu_lay_Packets_0 ..)).trans h')
theorem r_lay_Packets_1 : RoundOk Try.prog t_lay_Packets (annOf []) l_lay_Packets Out 20 0 50 [2, 3, 4, 7, 8, 9, 20, 21] (kxOf [2, 3, 4, 7, 20, 21] [6]) (loopOf Try.f16 1) T_lay_Packets_1 := by
  intro vs bl Kc r h
  unfold T_lay_Packets_1 at h
  obtain ⟨t, y0', h'⟩ := getD_run h
  obtain ⟨c', vs, rfl, y1'⟩ := pO_s y0'
  obtain ⟨t, rfl, y2'⟩ := kI_s y1'
  obtain ⟨c', vs, rfl, y3'⟩ := pO_s y2'
  obtain ⟨rfl, y4'⟩ := kP_s y3'
  obtain ⟨c', vs, rfl, y5'⟩ := pO_s y4'
  obtain ⟨rfl, y6'⟩ := kP_s y5'
  obtain ⟨c', vs, rfl, y7'⟩ := pO_s y6'
  obtain ⟨a, rfl, y8'⟩ := kI_s y7'
  obtain ⟨c', vs, rfl, y9'⟩ := pO_s y8'
  obtain ⟨m, rfl, y10'⟩ := kI_s y9'
  obtain ⟨c', vs, rfl, y11'⟩ := pO_s y10'
  obtain ⟨s, rfl, y12'⟩ := kI_s y11'
  obtain ⟨c', vs, rfl, y13'⟩ := pO_s y12'
  obtain ⟨n, rfl, y14'⟩ := kI_s y13'
  obtain ⟨c', vs, rfl, y15'⟩ := pO_s y14'
  obtain ⟨j, rfl, y16'⟩ := kI_s y15'
  obtain ⟨rfl, y17'⟩ := pE_s y16'
  obtain ⟨q', bl, rfl, y18'⟩ := bB_s y17'
  obtain ⟨h, rfl, y19'⟩ := rdHd_s y18'
  obtain ⟨q', bl, rfl, y20'⟩ := bB_s y19'
  obtain ⟨p, rfl, y21'⟩ := rdPm_s y20'
  obtain ⟨rfl, y22'⟩ := bE_s y21'
  have yy' := y22'
  cases yy'
  exact (b_lay_Packets_1 ..).trans ((congrArg (LT.runc · Kc) (tu_lay_Packets_1 ..)).trans h')
theorem o_lay_Packets : loopsOf (bodyOf Try.f16) = [loopOf Try.f16 0, loopOf Try.f16 1] := by kernel_rfl
theorem zz_lay_Packets_0 (h : Hd) (p : Pm) (t a n j : Int) (hk : k_lay_Packets_0 h p t a n j = true) : ∃ k, ∀ (K : Ex → List V → List (Option Blk) → Option Out) r, (c_lay_Packets_0 h p t a n j).run K = some r → (iter T_lay_Packets_0 k [.one (.int .i64 t), .one (.ptr 0 0), .one (.ptr 1 0), .one (.int .i64 a), .one (.int .i64 n), .one (.int .i64 j)] [some (.box (hdC h)), some (.box (pmC p))]).run K = some r := by
  simp only [k_lay_Packets_0] at hk
  rw [Bool.and_eq_true] at hk
  obtain ⟨hk, hok⟩ := hk
  simp only [Bool.and_eq_true, decide_eq_true_eq] at hk
  obtain ⟨⟨rfl, rfl⟩, rfl⟩ := hk
  have he : existsB h p t 0 = true := by rw [Bool.and_eq_true] at hok; exact hok.2
  have eb := exists_b he
  have hsm : small h.cs.length = true := by simp only [small, decide_eq_true_eq]; omega
  refine Exists.elim (z_fold (T := T_lay_Packets_0) (st := fun j => ([.one (.int .i64 t), .one (.ptr 0 0), .one (.ptr 1 0), .one (.int .i64 (totN (gR (tilesH h) t.toNat) p h.cs j)), .one (.int .i64 (h.cs.length : Int)), .one (.int .i64 (j : Int))], [some (.box (hdC h)), some (.box (pmC p))])) h.cs.length (c_lay_Packets_0 h p t 0 (h.cs.length : Int) 0) (fun j hj F K => ?_) (fun F K => ?_)) (fun k hk => ⟨k, hk⟩)
  · have ht := totN_b eb.2.2.1 (gR (tilesH h) t.toNat) h.cs j
    have hm := exists_m he (show 0 ≤ (j : Int) by omega) (by omega)
    have hk1 : k_lay_Packets_1 h p t (totN (gR (tilesH h) t.toNat) p h.cs j) j 0 (h.cs.length : Int) j = true := by
      simp only [k_lay_Packets_1, hm, decide_true, Bool.and_true, Bool.true_and]
      rw [Bool.and_eq_true] at hok
      rw [hok.1]
      simp only [Bool.and_true, Bool.and_eq_true, decide_eq_true_eq]
      omega
    simp only [tu_lay_Packets_0, U_lay_Packets_0, LT.next, LT.run, ite2_bool, decide_eq_true_eq]
    rw [if_pos (by omega), hk1, wrap_next hj hsm, compT_e hm, Int.toNat_natCast]
    rfl
  · simp only [tu_lay_Packets_0, U_lay_Packets_0, LT.next, LT.run, ite2_bool, decide_eq_true_eq]
    rw [if_neg (by omega)]
    rfl
theorem z_lay_Packets_0 : ∀ vs bl t, S_lay_Packets_0 vs bl = some (true, t) → ∃ n, ∀ (K : Ex → List V → List (Option Blk) → Option Out) r, t.run K = some r → (iter T_lay_Packets_0 n vs bl).run K = some r := by
  intro vs bl t y0'
  unfold S_lay_Packets_0 at y0'
  obtain ⟨c', vs, rfl, y1'⟩ := pO_s y0'
  obtain ⟨t, rfl, y2'⟩ := kI_s y1'
  obtain ⟨c', vs, rfl, y3'⟩ := pO_s y2'
  obtain ⟨rfl, y4'⟩ := kP_s y3'
  obtain ⟨c', vs, rfl, y5'⟩ := pO_s y4'
  obtain ⟨rfl, y6'⟩ := kP_s y5'
  obtain ⟨c', vs, rfl, y7'⟩ := pO_s y6'
  obtain ⟨a, rfl, y8'⟩ := kI_s y7'
  obtain ⟨c', vs, rfl, y9'⟩ := pO_s y8'
  obtain ⟨n, rfl, y10'⟩ := kI_s y9'
  obtain ⟨c', vs, rfl, y11'⟩ := pO_s y10'
  obtain ⟨j, rfl, y12'⟩ := kI_s y11'
  obtain ⟨rfl, y13'⟩ := pE_s y12'
  obtain ⟨q', bl, rfl, y14'⟩ := bB_s y13'
  obtain ⟨h, rfl, y15'⟩ := rdHd_s y14'
  obtain ⟨q', bl, rfl, y16'⟩ := bB_s y15'
  obtain ⟨p, rfl, y17'⟩ := rdPm_s y16'
  obtain ⟨rfl, y18'⟩ := bE_s y17'
  have yy' := y18'
  obtain ⟨hk, rfl⟩ := Prod.mk.inj (Option.some.inj yy')
  exact zz_lay_Packets_0 _ _ _ _ _ _ hk
theorem zz_lay_Packets_1 (h : Hd) (p : Pm) (t a m s n j : Int) (hk : k_lay_Packets_1 h p t a m s n j = true) : ∃ k, ∀ (K : Ex → List V → List (Option Blk) → Option Out) r, (c_lay_Packets_1 h p t a m s n j).run K = some r → (iter T_lay_Packets_1 k [.one (.int .i64 t), .one (.ptr 0 0), .one (.ptr 1 0), .one (.int .i64 a), .one (.int .i64 m), .one (.int .i64 s), .one (.int .i64 n), .one (.int .i64 j)] [some (.box (hdC h)), some (.box (pmC p))]).run K = some r := by
  simp only [k_lay_Packets_1] at hk
  rw [Bool.and_eq_true] at hk
  obtain ⟨hk, hok⟩ := hk
  simp only [Bool.and_eq_true, decide_eq_true_eq] at hk
  obtain ⟨rfl, ha⟩ := hk
  rw [Bool.and_eq_true] at hok
  have he := hok.2
  have eb := exists_b he
  have nb := nums_b eb.2.2.1
  refine Exists.elim (z_fold (T := T_lay_Packets_1) (st := fun s => ([.one (.int .i64 t), .one (.ptr 0 0), .one (.ptr 1 0), .one (.int .i64 (a + sumN (compT h t m) p s)), .one (.int .i64 m), .one (.int .i64 (s : Int)), .one (.int .i64 n), .one (.int .i64 j)], [some (.box (hdC h)), some (.box (pmC p))])) (p.le + 1).toNat (c_lay_Packets_1 h p t a m 0 n j) (fun s hs F K => ?_) (fun F K => ?_)) (fun k hk => ⟨k, fun K r hh => ?_⟩)
  · have hs2 := sumN_b eb.2.2.1 (compT h t m) s (by omega)
    have hr := rs_prod he (s := s) (by omega) (by omega)
    have hb := resN_f he (s := s) (by omega) (by omega)
    have hi : inr 0 p.le (s : Int) = true := inr_t (by omega) (by omega)
    have e2 : a + sumN (compT h t m) p s + resN (compT h t m) p s = a + sumN (compT h t m) p (s + 1) := by simp only [sumN]; omega
    simp only [tu_lay_Packets_1, U_lay_Packets_1, LT.next, LT.run, ite2_bool, decide_eq_true_eq, hok.1, if_true, resM, he, hi, Bool.and_self, hr]
    rw [if_pos (by omega), wrap_in (n := resN (compT h t m) p s) (by omega) (by omega), wrap_in (n := a + sumN (compT h t m) p s + resN (compT h t m) p s) (by omega) (by omega), e2, wrap_in (n := (s : Int) + 1) (by omega) (by omega)]
    rfl
  · simp only [tu_lay_Packets_1, U_lay_Packets_1, LT.next, LT.run, ite2_bool, decide_eq_true_eq]
    rw [if_neg (by omega)]
    rfl
  · have := hk K r hh
    have e0 : a + sumN (compT h t m) p 0 = a := by simp [sumN]
    rw [e0] at this
    exact this
theorem z_lay_Packets_1 : ∀ vs bl t, S_lay_Packets_1 vs bl = some (true, t) → ∃ n, ∀ (K : Ex → List V → List (Option Blk) → Option Out) r, t.run K = some r → (iter T_lay_Packets_1 n vs bl).run K = some r := by
  intro vs bl t y0'
  unfold S_lay_Packets_1 at y0'
  obtain ⟨c', vs, rfl, y1'⟩ := pO_s y0'
  obtain ⟨t, rfl, y2'⟩ := kI_s y1'
  obtain ⟨c', vs, rfl, y3'⟩ := pO_s y2'
  obtain ⟨rfl, y4'⟩ := kP_s y3'
  obtain ⟨c', vs, rfl, y5'⟩ := pO_s y4'
  obtain ⟨rfl, y6'⟩ := kP_s y5'
  obtain ⟨c', vs, rfl, y7'⟩ := pO_s y6'
  obtain ⟨a, rfl, y8'⟩ := kI_s y7'
  obtain ⟨c', vs, rfl, y9'⟩ := pO_s y8'
  obtain ⟨m, rfl, y10'⟩ := kI_s y9'
  obtain ⟨c', vs, rfl, y11'⟩ := pO_s y10'
  obtain ⟨s, rfl, y12'⟩ := kI_s y11'
  obtain ⟨c', vs, rfl, y13'⟩ := pO_s y12'
  obtain ⟨n, rfl, y14'⟩ := kI_s y13'
  obtain ⟨c', vs, rfl, y15'⟩ := pO_s y14'
  obtain ⟨j, rfl, y16'⟩ := kI_s y15'
  obtain ⟨rfl, y17'⟩ := pE_s y16'
  obtain ⟨q', bl, rfl, y18'⟩ := bB_s y17'
  obtain ⟨h, rfl, y19'⟩ := rdHd_s y18'
  obtain ⟨q', bl, rfl, y20'⟩ := bB_s y19'
  obtain ⟨p, rfl, y21'⟩ := rdPm_s y20'
  obtain ⟨rfl, y22'⟩ := bE_s y21'
  have yy' := y22'
  obtain ⟨hk, rfl⟩ := Prod.mk.inj (Option.some.inj yy')
  exact zz_lay_Packets_1 _ _ _ _ _ _ _ _ hk
theorem q_lay_Packets (h : Hd) (p : Pm) (t : Int) (hok : (small h.cs.length && (small p.pr.length && small p.st.length)) = true) : funR Try.prog t_lay_Packets (annOf []) l_lay_Packets 20 Try.f16 [.agg (hdC h), .agg (pmC p), .one (.int .i64 t)] [] = some ⟨.one (.int .i64 (pkN h p t)), [], []⟩ := by
    refine (e_lay_Packets ..).trans ?_
    simp only [ite2_bool, pkN]
    cases e : existsB h p t 0
    · rw [hok]
      rfl
    have eb := exists_b e
    have hk : k_lay_Packets_0 h p t 0 (h.cs.length : Int) 0 = true := by
      simp only [k_lay_Packets_0, hok, e, decide_true, Bool.and_self]
    have ht := totN_b eb.2.2.1 (gR (tilesH h) t.toNat) h.cs h.cs.length
    have ht2 := la_b eb.2.2.1 ht.1 ht.2
    rw [hok, hk, Int.mul_comm, wrap_in (by omega) (by omega)]
    rfl
theorem s_lay_Packets : SoundFun Try.prog 16 G_lay_Packets := by
  refine fun_ok (tab := t_lay_Packets) (ann := annOf []) (lt := l_lay_Packets) (tab_cons s_lay_Resolution (tab_cons s_lay_exists tab_nil)) (by kernel_rfl) (fn := Try.f16) (by kernel_rfl) (by decide) (c := bodyOf Try.f16) (by kernel_rfl) (by
    intro m b hb
    have hb' : b ∈ loopsOf (bodyOf Try.f16) := hb
    rw [o_lay_Packets] at hb'
    simp only [List.mem_cons, List.not_mem_nil, or_false] at hb'
    rcases hb' with rfl | rfl
    · exact loop_ok (key := 5) (by kernel_rfl) rfl r_lay_Packets_0 z_lay_Packets_0 m
    · exact loop_ok (key := 8) (by kernel_rfl) rfl r_lay_Packets_1 z_lay_Packets_1 m
    ) ?_
  intro args lent o y0'
  unfold G_lay_Packets at y0'
  obtain ⟨q', args, rfl, y1'⟩ := pA_s y0'
  obtain ⟨h, rfl, y2'⟩ := rdHd_s y1'
  obtain ⟨q', args, rfl, y3'⟩ := pA_s y2'
  obtain ⟨p, rfl, y4'⟩ := rdPm_s y3'
  obtain ⟨c', args, rfl, y5'⟩ := pO_s y4'
  obtain ⟨t, rfl, y6'⟩ := kI_s y5'
  obtain ⟨rfl, y7'⟩ := pE_s y6'
  obtain ⟨rfl, y8'⟩ := nE_s y7'
  have yy' := y8'
  unfold H_lay_Packets at yy'
  obtain ⟨hok, rfl⟩ := Prod.mk.inj (Option.some.inj yy')
  exact ⟨20, q_lay_Packets _ _ _ hok⟩
end Go.Rx.Ch24

