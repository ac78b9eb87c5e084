/- The summaries of these functions are sound. -/
import Derived.Test.YtnhjhjkhfdlapaaRE1
import Derived.Test.YtnhjhjkhfdlapaaRS1
set_option linter.unnecessarySimpa false
set_option linter.unusedVariables false
set_option linter.unusedSimpArgs false
set_option linter.unusedVariables false
set_option linter.unusedSimpArgs false
set_option maxRecDepth 100000
set_option maxHeartbeats 4000000
open Go Go.Rx Go.Proofs
namespace Go.Rx.Ch24
theorem fm_s {α : Type} (f : Nat → List α) (n : Nat) : (List.range (n + 1)).flatMap f = (List.range n).flatMap f ++ f n := by
  rw [List.range_succ, List.flatMap_append]; simp
theorem fm_len {α : Type} (f : Nat → List α) (M : Nat) (h : ∀ i, (f i).length ≤ M) : ∀ n, ((List.range n).flatMap f).length ≤ n * M
  | 0 => by simp
  | n + 1 => by
    have h1 := fm_len f M h n
    have h2 := h n
    rw [fm_s, List.length_append, Nat.add_mul]
    omega
theorem fm_flat {α : Type} (f : Nat → List (List α)) (M : Nat) (h : ∀ i, (f i).flatten.length ≤ M) : ∀ n, ((List.range n).flatMap f).flatten.length ≤ n * M
  | 0 => by simp
  | n + 1 => by
    have h1 := fm_flat f M h n
    have h2 := h n
    rw [fm_s, List.flatten_append, List.length_append, Nat.add_mul]
    omega
theorem pcs_s (r : Rc) (p : Pm) (m s : Int) (n : Nat) : pcs r p m s (n + 1) = pcs r p m s n ++ [pcL r p m s n] := by
  unfold pcs; rw [List.range_succ, List.map_append]; rfl
theorem pcs_l (r : Rc) (p : Pm) (m s : Int) (n : Nat) : (pcs r p m s n).length = n := by simp [pcs]
theorem pcs_f (r : Rc) (p : Pm) (m s : Int) (n : Nat) : (pcs r p m s n).flatten.length ≤ n * 196608 := by
  have := flat_len (u := pcs r p m s n) (M := 196608) (by
    intro l hl
    simp only [pcs, List.mem_map] at hl
    obtain ⟨i, _, rfl⟩ := hl
    exact pcL_len ..)
  rwa [pcs_l] at this
theorem rsN_w (r : Rc) (p : Pm) (s : Int) : 0 ≤ (rsN r p s).1 * (rsN r p s).2 ∧ (rsN r p s).1 * (rsN r p s).2 ≤ 65536 := prec_w ..
theorem rsK_w (r : Rc) (p : Pm) (s : Int) : rsK r p s ≤ 65536 := by
  have := rsN_w r p s
  unfold rsK
  omega
theorem rss_s (r : Rc) (p : Pm) (m : Int) (n : Nat) : rss r p m (n + 1) = rss r p m n ++ pcs r p m n (rsK r p n) := fm_s ..
theorem rss_l (r : Rc) (p : Pm) (m : Int) (n : Nat) : (rss r p m n).length ≤ n * 65536 := fm_len _ _ (fun i => by rw [pcs_l]; exact rsK_w ..) n
theorem rss_f (r : Rc) (p : Pm) (m : Int) (n : Nat) : (rss r p m n).flatten.length ≤ n * 12884901888 := fm_flat _ _ (fun i => by
  have h1 := pcs_f r p m i (rsK r p i)
  have h2 := rsK_w r p i
  omega) n
theorem cmps_s (h : Hd) (p : Pm) (t : Int) (n : Nat) : cmps h p t (n + 1) = cmps h p t n ++ rss (compT h t n) p n (p.le + 1).toNat := fm_s ..
theorem cmps_l {p : Pm} (hp : p.le ≤ 5) (h : Hd) (t : Int) (n : Nat) : (cmps h p t n).length ≤ n * 393216 := fm_len _ _ (fun i => by
  have h1 := rss_l (compT h t i) p i (p.le + 1).toNat
  omega) n
theorem cmps_f {p : Pm} (hp : p.le ≤ 5) (h : Hd) (t : Int) (n : Nat) : (cmps h p t n).flatten.length ≤ n * 77309411328 := fm_flat _ _ (fun i => by
  have h1 := rss_f (compT h t i) p i (p.le + 1).toNat
  omega) n
theorem exists_m {h : Hd} {p : Pm} {t k m : Int} (e : existsB h p t k = true) (h0 : 0 ≤ m) (h1 : m < h.cs.length) : existsB h p t m = true := by
  have := exists_b e
  simp only [existsB, Bool.and_eq_true, decide_eq_true_eq]
  exact ⟨⟨⟨⟨this.1, this.2.2.2.2.1⟩, this.2.2.2.2.2.1⟩, h0⟩, h1⟩
theorem sumN_ge {p : Pm} (h : nums p = true) (r : Rc) {s k : Nat} (hs : s < k) (hk : (k : Int) ≤ p.le + 1) : resN r p s ≤ sumN r p k := by
  induction k with
  | zero => omega
  | succ k ih =>
    have h1 := sumN_b h r k (by omega)
    have h2 := resN_b h r (s := k) (by omega) (by omega)
    simp only [sumN]
    rcases Nat.lt_or_ge s k with h3 | h3
    · have := ih h3 (by omega); omega
    · rw [show s = k by omega]; omega
theorem totN_ge {p : Pm} (h : nums p = true) (t : Rc) (l : List (Int × Bool × Int × Int)) {s k : Nat} (hs : s < k) : compN (redT t (gC l s)) p ≤ totN t p l k := by
  induction k with
  | zero => omega
  | succ k ih =>
    have h1 := totN_b h t l k
    have h2 := compN_b h (redT t (gC l k))
    simp only [totN]
    rcases Nat.lt_or_ge s k with h3 | h3
    · have := ih h3; omega
    · rw [show s = k by omega]; omega
theorem tilesH_e {h : Hd} (e : header h = 0) : tilesH h = tilesL h.a h.b h.c h.d h.tw h.th := by
  unfold tilesH; rw [if_neg (by omega)]
theorem tile_f {h : Hd} {p : Pm} {t k : Int} (e : existsB h p t k = true) : fits (gR (tilesH h) t.toNat) p h.cs = true ∧ validR (gR (tilesH h) t.toNat) = true := by
  have eb := exists_b e
  have c := chk_b eb.1
  have hv := valid_tilesL h.a h.b h.c h.d h.tw h.th
  have hl : t.toNat < (tilesL h.a h.b h.c h.d h.tw h.th).length := by
    have := eb.2.2.2.2.2.1
    rw [tilesH_e c.1] at this
    omega
  rw [tilesH_e c.1, gR, List.getD_eq_getElem?_getD, List.getElem?_eq_getElem hl]
  exact ⟨List.all_eq_true.1 c.2.2.1 _ (List.getElem_mem hl), List.all_eq_true.1 hv _ (List.getElem_mem hl)⟩
theorem compT_e {h : Hd} {p : Pm} {t k : Int} (e : existsB h p t k = true) : compT h t k = redT (gR (tilesH h) t.toNat) (gC h.cs k.toNat) := by
  have eb := exists_b e
  unfold compT
  rw [if_neg (by omega)]
theorem resN_f {h : Hd} {p : Pm} {t k : Int} (e : existsB h p t k = true) {s : Int} (h0 : 0 ≤ s) (h1 : s ≤ p.le) : 0 ≤ resN (compT h t k) p s ∧ resN (compT h t k) p s ≤ 65536 := by
  have eb := exists_b e
  have f := (tile_f e).1
  have hn := eb.2.2.1
  have nb := nums_b hn
  simp only [fits, Bool.and_eq_true, decide_eq_true_eq] at f
  have t1 := totN_b hn (gR (tilesH h) t.toNat) h.cs h.cs.length
  have t2 : 1 * totN (gR (tilesH h) t.toNat) p h.cs h.cs.length ≤ p.la * totN (gR (tilesH h) t.toNat) p h.cs h.cs.length := Int.mul_le_mul_of_nonneg_right (by omega) t1.1
  have t3 := f.2
  unfold packs at t3
  have t4 := totN_ge hn (gR (tilesH h) t.toNat) h.cs (s := k.toNat) (k := h.cs.length) (by omega)
  have t5 := sumN_ge hn (compT h t k) (s := s.toNat) (k := (p.le + 1).toNat) (by omega) (by omega)
  rw [← compT_e e] at t4
  unfold compN at t4
  rw [Int.toNat_of_nonneg h0] at t5
  have t6 := resN_b hn (compT h t k) h0 h1
  omega
theorem rs_prod {h : Hd} {p : Pm} {t k : Int} (e : existsB h p t k = true) {s : Int} (h0 : 0 ≤ s) (h1 : s ≤ p.le) : (rsN (compT h t k) p s).1 * (rsN (compT h t k) p s).2 = resN (compT h t k) p s := by
  have eb := exists_b e
  have hn := eb.2.2.1
  have f := resN_f e h0 h1
  have pb := prec_b hn h0 h1
  have hv : validR (rsR (compT h t k) p s) = true := valid_resR ..
  have e1 : resN (compT h t k) p s = cellsN (rsR (compT h t k) p s).1 (rsR (compT h t k) p s).2.1 (rsR (compT h t k) p s).2.2.1 (rsR (compT h t k) p s).2.2.2 (prec p s).1 (prec p s).2 := rfl
  rw [e1] at f ⊢
  unfold rsN
  generalize rsR (compT h t k) p s = q at f hv ⊢
  obtain ⟨a, b, c, d⟩ := q
  simp only at f ⊢
  unfold validR at hv
  simp only at hv
  have hb := valid_b hv
  have q0 : (0 : Int) ≤ (prec p s).1 ∧ (0 : Int) ≤ (prec p s).2 := by
    refine ⟨Int.le_trans ?_ pb.1, Int.le_trans ?_ pb.2.2.1⟩ <;> split <;> omega
  have p1 := prN_b hb.1 hb.2.1 hb.2.2.1 pb.2.1
  have p2 := prN_b hb.2.2.2.1 hb.2.2.2.2.1 hb.2.2.2.2.2 pb.2.2.2
  have m1 := prod_b p1.1 p1.2 p2.1 p2.2
  unfold precN gridS
  unfold cellsN at f ⊢
  rw [hv, inr_t (a := 0) (b := 12) (x := (prec p s).1) q0.1 pb.2.1, inr_t (a := 0) (b := 12) (x := (prec p s).2) q0.2 pb.2.2.2]
  cases he : empty a b c d
  rotate_left
  · simp
  rw [he] at f
  unfold prN at p1 p2 m1 ⊢
  unfold w at f ⊢
  simp only [Bool.false_eq_true, if_false] at f ⊢
  rw [wrap_in (n := cdiv c (pw (prec p s).1) - fdiv a (pw (prec p s).1)) (by omega) (by omega), wrap_in (n := cdiv d (pw (prec p s).2) - fdiv b (pw (prec p s).2)) (by omega) (by omega), wrap_in (by omega) (by omega)] at f ⊢
  rw [if_neg (by decide), if_neg (by omega)]
theorem q_lay_Blocks (h : Hd) (p : Pm) (t m s i y : Int) (hok : (small h.cs.length && (small p.pr.length && small p.st.length)) = true) : funR Try.prog t_lay_Blocks (annOf []) l_lay_Blocks 20 Try.f21 [.agg (hdC h), .agg (pmC p), .one (.int .i64 t), .agg [.int .i64 m, .int .i64 s, .int .i64 i, .int .i64 y]] [] = some ⟨.one (.row 0), [], [.arr 65 (.pair (.int .i64) (.pair (.int .i64) (.pair (.int .i64) (.pair (.int .i64) (.pair (.int .i64) (.pair (.int .i64) (.pair (.int .i64) (.pair (.int .i64) (.int .i64))))))))) (blocksL h p t m s i)]⟩ := by
    refine (e_lay_Blocks ..).trans ?_
    have hok' := hok
    simp only [Bool.and_eq_true] at hok'
    simp only [ite2_bool, decide_eq_true_eq, hok, hok', if_true, blocksL]
    cases existsB h p t m <;> rfl
theorem s_lay_Blocks : SoundFun Try.prog 21 G_lay_Blocks := by
  refine fun_ok (tab := t_lay_Blocks) (ann := annOf []) (lt := l_lay_Blocks) (tab_cons s_lay_exists (tab_cons s_lay_precinct tab_nil)) (by kernel_rfl) (fn := Try.f21) (by kernel_rfl) (by decide) (c := bodyOf Try.f21) (by kernel_rfl) (fun m b hb => absurd hb (by show b ∉ loopsOf (bodyOf Try.f21); rw [show loopsOf (bodyOf Try.f21) = [] from by kernel_rfl]; exact List.not_mem_nil)) ?_
  intro args lent o y0'
  unfold G_lay_Blocks at y0'
  obtain ⟨q', args, rfl, y1'⟩ := pA_s y0'
  obtain ⟨h, rfl, y2'⟩ := rdHd_s y1'
  obtain ⟨q', args, rfl, y3'⟩ := pA_s y2'
  obtain ⟨p, rfl, y4'⟩ := rdPm_s y3'
  obtain ⟨c', args, rfl, y5'⟩ := pO_s y4'
  obtain ⟨t, rfl, y6'⟩ := kI_s y5'
  obtain ⟨q', args, rfl, y7'⟩ := pA_s y6'
  obtain ⟨c', q', rfl, y8'⟩ := tC_s y7'
  obtain ⟨m, rfl, y9'⟩ := kI_s y8'
  obtain ⟨c', q', rfl, y10'⟩ := tC_s y9'
  obtain ⟨s, rfl, y11'⟩ := kI_s y10'
  obtain ⟨c', q', rfl, y12'⟩ := tC_s y11'
  obtain ⟨i, rfl, y13'⟩ := kI_s y12'
  obtain ⟨c', q', rfl, y14'⟩ := tC_s y13'
  obtain ⟨y, rfl, y15'⟩ := kI_s y14'
  obtain ⟨rfl, y16'⟩ := tE_s y15'
  obtain ⟨rfl, y17'⟩ := pE_s y16'
  obtain ⟨rfl, y18'⟩ := nE_s y17'
  have yy' := y18'
  unfold H_lay_Blocks at yy'
  obtain ⟨hok, rfl⟩ := Prod.mk.inj (Option.some.inj yy')
  exact ⟨20, q_lay_Blocks _ _ _ _ _ _ _ hok⟩
theorem r_lay_Packets_0 : RoundOk Try.prog t_lay_Packets (annOf []) l_lay_Packets Out 20 0 50 [2, 3, 4, 7, 20, 21] (kxOf [4, 7] [6]) (loopOf Try.f16 0) T_lay_Packets_0 := by
  intro vs bl Kc r h
  unfold T_lay_Packets_0 at h
  obtain ⟨t, y0', h'⟩ := getD_run h
  obtain ⟨c', vs, rfl, y1'⟩ := pO_s y0'
  obtain ⟨t, rfl, y2'⟩ := kI_s y1'
  obtain ⟨c', vs, rfl, y3'⟩ := pO_s y2'
  obtain ⟨rfl, y4'⟩ := kP_s y3'
  obtain ⟨c', vs, rfl, y5'⟩ := pO_s y4'
  obtain ⟨rfl, y6'⟩ := kP_s y5'
  obtain ⟨c', vs, rfl, y7'⟩ := pO_s y6'
  obtain ⟨a, rfl, y8'⟩ := kI_s y7'
  obtain ⟨c', vs, rfl, y9'⟩ := pO_s y8'
  obtain ⟨n, rfl, y10'⟩ := kI_s y9'
  obtain ⟨c', vs, rfl, y11'⟩ := pO_s y10'
  obtain ⟨j, rfl, y12'⟩ := kI_s y11'
  obtain ⟨rfl, y13'⟩ := pE_s y12'
  obtain ⟨q', bl, rfl, y14'⟩ := bB_s y13'
  obtain ⟨h, rfl, y15'⟩ := rdHd_s y14'
  obtain ⟨q', bl, rfl, y16'⟩ := bB_s y15'
  obtain ⟨p, rfl, y17'⟩ := rdPm_s y16'
  obtain ⟨rfl, y18'⟩ := bE_s y17'
  have yy' := y18'
  cases yy'
  exact (b_lay_Packets_0 ..).trans ((congrArg (LT.runc · Kc) (tu_lay_Packets_0 ..)).trans h')
theorem r_lay_Packets_1 : RoundOk Try.prog t_lay_Packets (annOf []) l_lay_Packets Out 20 0 50 [2, 3, 4, 7, 8, 9, 20, 21] (kxOf [2, 3, 4, 7, 20, 21] [6]) (loopOf Try.f16 1) T_lay_Packets_1 := by
  intro vs bl Kc r h
  unfold T_lay_Packets_1 at h
  obtain ⟨t, y0', h'⟩ := getD_run h
  obtain ⟨c', vs, rfl, y1'⟩ := pO_s y0'
  obtain ⟨t, rfl, y2'⟩ := kI_s y1'
  obtain ⟨c', vs, rfl, y3'⟩ := pO_s y2'
  obtain ⟨rfl, y4'⟩ := kP_s y3'
  obtain ⟨c', vs, rfl, y5'⟩ := pO_s y4'
  obtain ⟨rfl, y6'⟩ := kP_s y5'
  obtain ⟨c', vs, rfl, y7'⟩ := pO_s y6'
  obtain ⟨a, rfl, y8'⟩ := kI_s y7'
  obtain ⟨c', vs, rfl, y9'⟩ := pO_s y8'
  obtain ⟨m, rfl, y10'⟩ := kI_s y9'
  obtain ⟨c', vs, rfl, y11'⟩ := pO_s y10'
  obtain ⟨s, rfl, y12'⟩ := kI_s y11'
  obtain ⟨c', vs, rfl, y13'⟩ := pO_s y12'
  obtain ⟨n, rfl, y14'⟩ := kI_s y13'
  obtain ⟨c', vs, rfl, y15'⟩ := pO_s y14'
  obtain ⟨j, rfl, y16'⟩ := kI_s y15'
  obtain ⟨rfl, y17'⟩ := pE_s y16'
  obtain ⟨q', bl, rfl, y18'⟩ := bB_s y17'
  obtain ⟨h, rfl, y19'⟩ := rdHd_s y18'
  obtain ⟨q', bl, rfl, y20'⟩ := bB_s y19'
  obtain ⟨p, rfl, y21'⟩ := rdPm_s y20'
  obtain ⟨rfl, y22'⟩ := bE_s y21'
  have yy' := y22'
  cases yy'
  exact (b_lay_Packets_1 ..).trans ((congrArg (LT.runc · Kc) (tu_lay_Packets_1 ..)).trans h')
theorem o_lay_Packets : loopsOf (bodyOf Try.f16) = [loopOf Try.f16 0, loopOf Try.f16 1] := by kernel_rfl
theorem zz_lay_Packets_0 (h : Hd) (p : Pm) (t a n j : Int) (hk : k_lay_Packets_0 h p t a n j = true) : ∃ k, ∀ (K : Ex → List V → List (Option Blk) → Option Out) r, (c_lay_Packets_0 h p t a n j).run K = some r → (iter T_lay_Packets_0 k [.one (.int .i64 t), .one (.ptr 0 0), .one (.ptr 1 0), .one (.int .i64 a), .one (.int .i64 n), .one (.int .i64 j)] [some (.box (hdC h)), some (.box (pmC p))]).run K = some r := by
  simp only [k_lay_Packets_0] at hk
  rw [Bool.and_eq_true] at hk
  obtain ⟨hk, hok⟩ := hk
  simp only [Bool.and_eq_true, decide_eq_true_eq] at hk
  obtain ⟨⟨rfl, rfl⟩, rfl⟩ := hk
  have he : existsB h p t 0 = true := by rw [Bool.and_eq_true] at hok; exact hok.2
  have eb := exists_b he
  have hsm : small h.cs.length = true := by simp only [small, decide_eq_true_eq]; omega
  refine Exists.elim (z_fold (T := T_lay_Packets_0) (st := fun j => ([.one (.int .i64 t), .one (.ptr 0 0), .one (.ptr 1 0), .one (.int .i64 (totN (gR (tilesH h) t.toNat) p h.cs j)), .one (.int .i64 (h.cs.length : Int)), .one (.int .i64 (j : Int))], [some (.box (hdC h)), some (.box (pmC p))])) h.cs.length (c_lay_Packets_0 h p t 0 (h.cs.length : Int) 0) (fun j hj F K => ?_) (fun F K => ?_)) (fun k hk => ⟨k, hk⟩)
  · have ht := totN_b eb.2.2.1 (gR (tilesH h) t.toNat) h.cs j
    have hm := exists_m he (show 0 ≤ (j : Int) by omega) (by omega)
    have hk1 : k_lay_Packets_1 h p t (totN (gR (tilesH h) t.toNat) p h.cs j) j 0 (h.cs.length : Int) j = true := by
      simp only [k_lay_Packets_1, hm, decide_true, Bool.and_true, Bool.true_and]
      rw [Bool.and_eq_true] at hok
      rw [hok.1]
      simp only [Bool.and_true, Bool.and_eq_true, decide_eq_true_eq]
      omega
    simp only [tu_lay_Packets_0, U_lay_Packets_0, LT.next, LT.run, ite2_bool, decide_eq_true_eq]
    rw [if_pos (by omega), hk1, wrap_next hj hsm, compT_e hm, Int.toNat_natCast]
    rfl
  · simp only [tu_lay_Packets_0, U_lay_Packets_0, LT.next, LT.run, ite2_bool, decide_eq_true_eq]
    rw [if_neg (by omega)]
    rfl
theorem z_lay_Packets_0 : ∀ vs bl t, S_lay_Packets_0 vs bl = some (true, t) → ∃ n, ∀ (K : Ex → List V → List (Option Blk) → Option Out) r, t.run K = some r → (iter T_lay_Packets_0 n vs bl).run K = some r := by
  intro vs bl t y0'
  unfold S_lay_Packets_0 at y0'
  obtain ⟨c', vs, rfl, y1'⟩ := pO_s y0'
  obtain ⟨t, rfl, y2'⟩ := kI_s y1'
  obtain ⟨c', vs, rfl, y3'⟩ := pO_s y2'
  obtain ⟨rfl, y4'⟩ := kP_s y3'
  obtain ⟨c', vs, rfl, y5'⟩ := pO_s y4'
  obtain ⟨rfl, y6'⟩ := kP_s y5'
  obtain ⟨c', vs, rfl, y7'⟩ := pO_s y6'
  obtain ⟨a, rfl, y8'⟩ := kI_s y7'
  obtain ⟨c', vs, rfl, y9'⟩ := pO_s y8'
  obtain ⟨n, rfl, y10'⟩ := kI_s y9'
  obtain ⟨c', vs, rfl, y11'⟩ := pO_s y10'
  obtain ⟨j, rfl, y12'⟩ := kI_s y11'
  obtain ⟨rfl, y13'⟩ := pE_s y12'
  obtain ⟨q', bl, rfl, y14'⟩ := bB_s y13'
  obtain ⟨h, rfl, y15'⟩ := rdHd_s y14'
  obtain ⟨q', bl, rfl, y16'⟩ := bB_s y15'
  obtain ⟨p, rfl, y17'⟩ := rdPm_s y16'
  obtain ⟨rfl, y18'⟩ := bE_s y17'
  have yy' := y18'
  obtain ⟨hk, rfl⟩ := Prod.mk.inj (Option.some.inj yy')
  exact zz_lay_Packets_0 _ _ _ _ _ _ hk
theorem zz_lay_Packets_1 (h : Hd) (p : Pm) (t a m s n j : Int) (hk : k_lay_Packets_1 h p t a m s n j = true) : ∃ k, ∀ (K : Ex → List V → List (Option Blk) → Option Out) r, (c_lay_Packets_1 h p t a m s n j).run K = some r → (iter T_lay_Packets_1 k [.one (.int .i64 t), .one (.ptr 0 0), .one (.ptr 1 0), .one (.int .i64 a), .one (.int .i64 m), .one (.int .i64 s), .one (.int .i64 n), .one (.int .i64 j)] [some (.box (hdC h)), some (.box (pmC p))]).run K = some r := by
  simp only [k_lay_Packets_1] at hk
  rw [Bool.and_eq_true] at hk
  obtain ⟨hk, hok⟩ := hk
  simp only [Bool.and_eq_true, decide_eq_true_eq] at hk
  obtain ⟨rfl, ha⟩ := hk
  rw [Bool.and_eq_true] at hok
  have he := hok.2
  have eb := exists_b he
  have nb := nums_b eb.2.2.1
  refine Exists.elim (z_fold (T := T_lay_Packets_1) (st := fun s => ([.one (.int .i64 t), .one (.ptr 0 0), .one (.ptr 1 0), .one (.int .i64 (a + sumN (compT h t m) p s)), .one (.int .i64 m), .one (.int .i64 (s : Int)), .one (.int .i64 n), .one (.int .i64 j)], [some (.box (hdC h)), some (.box (pmC p))])) (p.le + 1).toNat (c_lay_Packets_1 h p t a m 0 n j) (fun s hs F K => ?_) (fun F K => ?_)) (fun k hk => ⟨k, fun K r hh => ?_⟩)
  · have hs2 := sumN_b eb.2.2.1 (compT h t m) s (by omega)
    have hr := rs_prod he (s := s) (by omega) (by omega)
    have hb := resN_f he (s := s) (by omega) (by omega)
    have hi : inr 0 p.le (s : Int) = true := inr_t (by omega) (by omega)
    have e2 : a + sumN (compT h t m) p s + resN (compT h t m) p s = a + sumN (compT h t m) p (s + 1) := by simp only [sumN]; omega
    simp only [tu_lay_Packets_1, U_lay_Packets_1, LT.next, LT.run, ite2_bool, decide_eq_true_eq, hok.1, if_true, resM, he, hi, Bool.and_self, hr]
    rw [if_pos (by omega), wrap_in (n := resN (compT h t m) p s) (by omega) (by omega), wrap_in (n := a + sumN (compT h t m) p s + resN (compT h t m) p s) (by omega) (by omega), e2, wrap_in (n := (s : Int) + 1) (by omega) (by omega)]
    rfl
  · simp only [tu_lay_Packets_1, U_lay_Packets_1, LT.next, LT.run, ite2_bool, decide_eq_true_eq]
    rw [if_neg (by omega)]
    rfl
  · have := hk K r hh
    have e0 : a + sumN (compT h t m) p 0 = a := by simp [sumN]
    rw [e0] at this
    exact this
theorem z_lay_Packets_1 : ∀ vs bl t, S_lay_Packets_1 vs bl = some (true, t) → ∃ n, ∀ (K : Ex → List V → List (Option Blk) → Option Out) r, t.run K = some r → (iter T_lay_Packets_1 n vs bl).run K = some r := by
  intro vs bl t y0'
  unfold S_lay_Packets_1 at y0'
  obtain ⟨c', vs, rfl, y1'⟩ := pO_s y0'
  obtain ⟨t, rfl, y2'⟩ := kI_s y1'
  obtain ⟨c', vs, rfl, y3'⟩ := pO_s y2'
  obtain ⟨rfl, y4'⟩ := kP_s y3'
  obtain ⟨c', vs, rfl, y5'⟩ := pO_s y4'
  obtain ⟨rfl, y6'⟩ := kP_s y5'
  obtain ⟨c', vs, rfl, y7'⟩ := pO_s y6'
  obtain ⟨a, rfl, y8'⟩ := kI_s y7'
  obtain ⟨c', vs, rfl, y9'⟩ := pO_s y8'
  obtain ⟨m, rfl, y10'⟩ := kI_s y9'
  obtain ⟨c', vs, rfl, y11'⟩ := pO_s y10'
  obtain ⟨s, rfl, y12'⟩ := kI_s y11'
  obtain ⟨c', vs, rfl, y13'⟩ := pO_s y12'
  obtain ⟨n, rfl, y14'⟩ := kI_s y13'
  obtain ⟨c', vs, rfl, y15'⟩ := pO_s y14'
  obtain ⟨j, rfl, y16'⟩ := kI_s y15'
  obtain ⟨rfl, y17'⟩ := pE_s y16'
  obtain ⟨q', bl, rfl, y18'⟩ := bB_s y17'
  obtain ⟨h, rfl, y19'⟩ := rdHd_s y18'
  obtain ⟨q', bl, rfl, y20'⟩ := bB_s y19'
  obtain ⟨p, rfl, y21'⟩ := rdPm_s y20'
  obtain ⟨rfl, y22'⟩ := bE_s y21'
  have yy' := y22'
  obtain ⟨hk, rfl⟩ := Prod.mk.inj (Option.some.inj yy')
  exact zz_lay_Packets_1 _ _ _ _ _ _ _ _ hk
theorem q_lay_Packets (h : Hd) (p : Pm) (t : Int) (hok : (small h.cs.length && (small p.pr.length && small p.st.length)) = true) : funR Try.prog t_lay_Packets (annOf []) l_lay_Packets 20 Try.f16 [.agg (hdC h), .agg (pmC p), .one (.int .i64 t)] [] = some ⟨.one (.int .i64 (pkN h p t)), [], []⟩ := by
    refine (e_lay_Packets ..).trans ?_
    simp only [ite2_bool, pkN]
    cases e : existsB h p t 0
    · rw [hok]
      rfl
    have eb := exists_b e
    have hk : k_lay_Packets_0 h p t 0 (h.cs.length : Int) 0 = true := by
      simp only [k_lay_Packets_0, hok, e, decide_true, Bool.and_self]
    have ht := totN_b eb.2.2.1 (gR (tilesH h) t.toNat) h.cs h.cs.length
    have ht2 := la_b eb.2.2.1 ht.1 ht.2
    rw [hok, hk, Int.mul_comm, wrap_in (by omega) (by omega)]
    rfl
theorem s_lay_Packets : SoundFun Try.prog 16 G_lay_Packets := by
  refine fun_ok (tab := t_lay_Packets) (ann := annOf []) (lt := l_lay_Packets) (tab_cons s_lay_Resolution (tab_cons s_lay_exists tab_nil)) (by kernel_rfl) (fn := Try.f16) (by kernel_rfl) (by decide) (c := bodyOf Try.f16) (by kernel_rfl) (by
    intro m b hb
    have hb' : b ∈ loopsOf (bodyOf Try.f16) := hb
    rw [o_lay_Packets] at hb'
    simp only [List.mem_cons, List.not_mem_nil, or_false] at hb'
    rcases hb' with rfl | rfl
    · exact loop_ok (key := 5) (by kernel_rfl) rfl r_lay_Packets_0 z_lay_Packets_0 m
    · exact loop_ok (key := 8) (by kernel_rfl) rfl r_lay_Packets_1 z_lay_Packets_1 m
    ) ?_
  intro args lent o y0'
  unfold G_lay_Packets at y0'
  obtain ⟨q', args, rfl, y1'⟩ := pA_s y0'
  obtain ⟨h, rfl, y2'⟩ := rdHd_s y1'
  obtain ⟨q', args, rfl, y3'⟩ := pA_s y2'
  obtain ⟨p, rfl, y4'⟩ := rdPm_s y3'
  obtain ⟨c', args, rfl, y5'⟩ := pO_s y4'
  obtain ⟨t, rfl, y6'⟩ := kI_s y5'
  obtain ⟨rfl, y7'⟩ := pE_s y6'
  obtain ⟨rfl, y8'⟩ := nE_s y7'
  have yy' := y8'
  unfold H_lay_Packets at yy'
  obtain ⟨hok, rfl⟩ := Prod.mk.inj (Option.some.inj yy')
  exact ⟨20, q_lay_Packets _ _ _ hok⟩
end Go.Rx.Ch24

set_option linter.unusedVariables false
set_option linter.unusedSimpArgs false
set_option maxRecDepth 100000
set_option maxHeartbeats 4000000
open Go Go.Rx Go.Proofs
namespace Go.Rx.Ch24
theorem r_lay_All_0 : RoundOk Try.prog t_lay_All (annOf []) l_lay_All Out 20 0 62 [2, 3, 4, 7, 21, 22] (kxOf [7] [6]) (loopOf Try.f23 0) T_lay_All_0 := by
  intro vs bl Kc r h
  unfold T_lay_All_0 at h
  obtain ⟨t, y0', h'⟩ := getD_run h
  obtain ⟨c', vs, rfl, y1'⟩ := pO_s y0'
  obtain ⟨t, rfl, y2'⟩ := kI_s y1'
  obtain ⟨c', vs, rfl, y3'⟩ := pO_s y2'
  obtain ⟨rfl, y4'⟩ := kP_s y3'
  obtain ⟨c', vs, rfl, y5'⟩ := pO_s y4'
  obtain ⟨rfl, y6'⟩ := kP_s y5'
  obtain ⟨c', vs, rfl, y7'⟩ := pO_s y6'
  obtain ⟨rfl, y8'⟩ := kR_s y7'
  obtain ⟨c', vs, rfl, y9'⟩ := pO_s y8'
  obtain ⟨n, rfl, y10'⟩ := kI_s y9'
  obtain ⟨c', vs, rfl, y11'⟩ := pO_s y10'
  obtain ⟨j, rfl, y12'⟩ := kI_s y11'
  obtain ⟨rfl, y13'⟩ := pE_s y12'
  obtain ⟨q', bl, rfl, y14'⟩ := bB_s y13'
  obtain ⟨h, rfl, y15'⟩ := rdHd_s y14'
  obtain ⟨q', bl, rfl, y16'⟩ := bB_s y15'
  obtain ⟨p, rfl, y17'⟩ := rdPm_s y16'
  obtain ⟨u, bl, rfl, y18'⟩ := bAM_s y17'
  obtain ⟨rfl, y19'⟩ := bE_s y18'
  have yy' := y19'
  cases yy'
  exact (b_lay_All_0 ..).trans ((congrArg (LT.runc · Kc) (tu_lay_All_0 ..)).trans h')
theorem r_lay_All_1 : RoundOk Try.prog t_lay_All (annOf []) l_lay_All Out 20 0 62 [2, 3, 4, 7, 8, 9, 21, 22] (kxOf [2, 3, 4, 7, 21, 22] [6]) (loopOf Try.f23 1) T_lay_All_1 := by
  intro vs bl Kc r h
  unfold T_lay_All_1 at h
  obtain ⟨t, y0', h'⟩ := getD_run h
  obtain ⟨c', vs, rfl, y1'⟩ := pO_s y0'
  obtain ⟨t, rfl, y2'⟩ := kI_s y1'
  obtain ⟨c', vs, rfl, y3'⟩ := pO_s y2'
  obtain ⟨rfl, y4'⟩ := kP_s y3'
  obtain ⟨c', vs, rfl, y5'⟩ := pO_s y4'
  obtain ⟨rfl, y6'⟩ := kP_s y5'
  obtain ⟨c', vs, rfl, y7'⟩ := pO_s y6'
  obtain ⟨rfl, y8'⟩ := kR_s y7'
  obtain ⟨c', vs, rfl, y9'⟩ := pO_s y8'
  obtain ⟨m, rfl, y10'⟩ := kI_s y9'
  obtain ⟨c', vs, rfl, y11'⟩ := pO_s y10'
  obtain ⟨s, rfl, y12'⟩ := kI_s y11'
  obtain ⟨c', vs, rfl, y13'⟩ := pO_s y12'
  obtain ⟨n, rfl, y14'⟩ := kI_s y13'
  obtain ⟨c', vs, rfl, y15'⟩ := pO_s y14'
  obtain ⟨j, rfl, y16'⟩ := kI_s y15'
  obtain ⟨rfl, y17'⟩ := pE_s y16'
  obtain ⟨q', bl, rfl, y18'⟩ := bB_s y17'
  obtain ⟨h, rfl, y19'⟩ := rdHd_s y18'
  obtain ⟨q', bl, rfl, y20'⟩ := bB_s y19'
  obtain ⟨p, rfl, y21'⟩ := rdPm_s y20'
  obtain ⟨u, bl, rfl, y22'⟩ := bAM_s y21'
  obtain ⟨rfl, y23'⟩ := bE_s y22'
  have yy' := y23'
  cases yy'
  exact (b_lay_All_1 ..).trans ((congrArg (LT.runc · Kc) (tu_lay_All_1 ..)).trans h')
theorem r_lay_All_2 : RoundOk Try.prog t_lay_All (annOf []) l_lay_All Out 20 0 62 [2, 3, 4, 7, 8, 9, 21, 22, 43, 44] (kxOf [2, 3, 4, 7, 8, 9, 21, 22] [6]) (loopOf Try.f23 2) T_lay_All_2 := by
  intro vs bl Kc r h
  unfold T_lay_All_2 at h
  obtain ⟨t, y0', h'⟩ := getD_run h
  obtain ⟨c', vs, rfl, y1'⟩ := pO_s y0'
  obtain ⟨t, rfl, y2'⟩ := kI_s y1'
  obtain ⟨c', vs, rfl, y3'⟩ := pO_s y2'
  obtain ⟨rfl, y4'⟩ := kP_s y3'
  obtain ⟨c', vs, rfl, y5'⟩ := pO_s y4'
  obtain ⟨rfl, y6'⟩ := kP_s y5'
  obtain ⟨c', vs, rfl, y7'⟩ := pO_s y6'
  obtain ⟨rfl, y8'⟩ := kR_s y7'
  obtain ⟨c', vs, rfl, y9'⟩ := pO_s y8'
  obtain ⟨m, rfl, y10'⟩ := kI_s y9'
  obtain ⟨c', vs, rfl, y11'⟩ := pO_s y10'
  obtain ⟨s, rfl, y12'⟩ := kI_s y11'
  obtain ⟨c', vs, rfl, y13'⟩ := pO_s y12'
  obtain ⟨n, rfl, y14'⟩ := kI_s y13'
  obtain ⟨c', vs, rfl, y15'⟩ := pO_s y14'
  obtain ⟨j, rfl, y16'⟩ := kI_s y15'
  obtain ⟨c', vs, rfl, y17'⟩ := pO_s y16'
  obtain ⟨w, rfl, y18'⟩ := kI_s y17'
  obtain ⟨c', vs, rfl, y19'⟩ := pO_s y18'
  obtain ⟨i, rfl, y20'⟩ := kI_s y19'
  obtain ⟨rfl, y21'⟩ := pE_s y20'
  obtain ⟨q', bl, rfl, y22'⟩ := bB_s y21'
  obtain ⟨h, rfl, y23'⟩ := rdHd_s y22'
  obtain ⟨q', bl, rfl, y24'⟩ := bB_s y23'
  obtain ⟨p, rfl, y25'⟩ := rdPm_s y24'
  obtain ⟨u, bl, rfl, y26'⟩ := bAM_s y25'
  obtain ⟨rfl, y27'⟩ := bE_s y26'
  have yy' := y27'
  cases yy'
  exact (b_lay_All_2 ..).trans ((congrArg (LT.runc · Kc) (tu_lay_All_2 ..)).trans h')
theorem o_lay_All : loopsOf (bodyOf Try.f23) = [loopOf Try.f23 0, loopOf Try.f23 1, loopOf Try.f23 2] := by kernel_rfl
theorem zz_lay_All_0 (h : Hd) (p : Pm) (t n j : Int) (u : List (List Bk)) (hk : k_lay_All_0 h p t n j u = true) : ∃ k, ∀ (K : Ex → List V → List (Option Blk) → Option Out) r, (c_lay_All_0 h p t n j u).run K = some r → (iter T_lay_All_0 k [.one (.int .i64 t), .one (.ptr 0 0), .one (.ptr 1 0), .one (.row 2), .one (.int .i64 n), .one (.int .i64 j)] [some (.box (hdC h)), some (.box (pmC p)), some (.arr 53 (.sl (.pair (.int .i64) (.pair (.int .i64) (.pair (.int .i64) (.pair (.int .i64) (.pair (.int .i64) (.pair (.int .i64) (.pair (.int .i64) (.pair (.int .i64) (.int .i64)))))))))) u)]).run K = some r := by
  simp only [k_lay_All_0] at hk
  rw [Bool.and_eq_true] at hk
  obtain ⟨hk, hok⟩ := hk
  simp only [Bool.and_eq_true, decide_eq_true_eq] at hk
  obtain ⟨⟨rfl, rfl⟩, rfl⟩ := hk
  have he : existsB h p t 0 = true := by rw [Bool.and_eq_true] at hok; exact hok.2
  have eb := exists_b he
  have nb := nums_b eb.2.2.1
  have hsm : small h.cs.length = true := by simp only [small, decide_eq_true_eq]; omega
  refine Exists.elim (z_fold (T := T_lay_All_0) (st := fun j => ([.one (.int .i64 t), .one (.ptr 0 0), .one (.ptr 1 0), .one (.row 2), .one (.int .i64 (h.cs.length : Int)), .one (.int .i64 (j : Int))], [some (.box (hdC h)), some (.box (pmC p)), some (.arr 53 (.sl (.pair (.int .i64) (.pair (.int .i64) (.pair (.int .i64) (.pair (.int .i64) (.pair (.int .i64) (.pair (.int .i64) (.pair (.int .i64) (.pair (.int .i64) (.int .i64)))))))))) (cmps h p t j))])) h.cs.length (c_lay_All_0 h p t (h.cs.length : Int) 0 []) (fun j hj F K => ?_) (fun F K => ?_)) (fun k hk => ⟨k, hk⟩)
  · have hl := cmps_l nb.1.2 h t j
    have hm := exists_m he (show 0 ≤ (j : Int) by omega) (by omega)
    have hk1 : k_lay_All_1 h p t j 0 (h.cs.length : Int) j (cmps h p t j) = true := by
      rw [Bool.and_eq_true] at hok
      simp only [k_lay_All_1, hm, hok.1, decide_true, Bool.and_true, Bool.true_and, decide_eq_true_eq]
      omega
    simp only [tu_lay_All_0, U_lay_All_0, LT.next, LT.run, ite2_bool, decide_eq_true_eq]
    rw [if_pos (by omega), hk1, wrap_next hj hsm, cmps_s]
    rfl
  · simp only [tu_lay_All_0, U_lay_All_0, LT.next, LT.run, ite2_bool, decide_eq_true_eq]
    rw [if_neg (by omega)]
    rfl
theorem z_lay_All_0 : ∀ vs bl t, S_lay_All_0 vs bl = some (true, t) → ∃ n, ∀ (K : Ex → List V → List (Option Blk) → Option Out) r, t.run K = some r → (iter T_lay_All_0 n vs bl).run K = some r := by
  intro vs bl t y0'
  unfold S_lay_All_0 at y0'
  obtain ⟨c', vs, rfl, y1'⟩ := pO_s y0'
  obtain ⟨t, rfl, y2'⟩ := kI_s y1'
  obtain ⟨c', vs, rfl, y3'⟩ := pO_s y2'
  obtain ⟨rfl, y4'⟩ := kP_s y3'
  obtain ⟨c', vs, rfl, y5'⟩ := pO_s y4'
  obtain ⟨rfl, y6'⟩ := kP_s y5'
  obtain ⟨c', vs, rfl, y7'⟩ := pO_s y6'
  obtain ⟨rfl, y8'⟩ := kR_s y7'
  obtain ⟨c', vs, rfl, y9'⟩ := pO_s y8'
  obtain ⟨n, rfl, y10'⟩ := kI_s y9'
  obtain ⟨c', vs, rfl, y11'⟩ := pO_s y10'
  obtain ⟨j, rfl, y12'⟩ := kI_s y11'
  obtain ⟨rfl, y13'⟩ := pE_s y12'
  obtain ⟨q', bl, rfl, y14'⟩ := bB_s y13'
  obtain ⟨h, rfl, y15'⟩ := rdHd_s y14'
  obtain ⟨q', bl, rfl, y16'⟩ := bB_s y15'
  obtain ⟨p, rfl, y17'⟩ := rdPm_s y16'
  obtain ⟨u, bl, rfl, y18'⟩ := bAM_s y17'
  obtain ⟨rfl, y19'⟩ := bE_s y18'
  have yy' := y19'
  obtain ⟨hk, rfl⟩ := Prod.mk.inj (Option.some.inj yy')
  exact zz_lay_All_0 _ _ _ _ _ _ hk
theorem zz_lay_All_1 (h : Hd) (p : Pm) (t m s n j : Int) (u : List (List Bk)) (hk : k_lay_All_1 h p t m s n j u = true) : ∃ k, ∀ (K : Ex → List V → List (Option Blk) → Option Out) r, (c_lay_All_1 h p t m s n j u).run K = some r → (iter T_lay_All_1 k [.one (.int .i64 t), .one (.ptr 0 0), .one (.ptr 1 0), .one (.row 2), .one (.int .i64 m), .one (.int .i64 s), .one (.int .i64 n), .one (.int .i64 j)] [some (.box (hdC h)), some (.box (pmC p)), some (.arr 53 (.sl (.pair (.int .i64) (.pair (.int .i64) (.pair (.int .i64) (.pair (.int .i64) (.pair (.int .i64) (.pair (.int .i64) (.pair (.int .i64) (.pair (.int .i64) (.int .i64)))))))))) u)]).run K = some r := by
  simp only [k_lay_All_1] at hk
  rw [Bool.and_eq_true] at hk
  obtain ⟨hk, hok⟩ := hk
  simp only [Bool.and_eq_true, decide_eq_true_eq] at hk
  obtain ⟨rfl, hu⟩ := hk
  have hok' := hok
  rw [Bool.and_eq_true] at hok
  have he := hok.2
  have eb := exists_b he
  have nb := nums_b eb.2.2.1
  refine Exists.elim (z_fold (T := T_lay_All_1) (st := fun s => ([.one (.int .i64 t), .one (.ptr 0 0), .one (.ptr 1 0), .one (.row 2), .one (.int .i64 m), .one (.int .i64 (s : Int)), .one (.int .i64 n), .one (.int .i64 j)], [some (.box (hdC h)), some (.box (pmC p)), some (.arr 53 (.sl (.pair (.int .i64) (.pair (.int .i64) (.pair (.int .i64) (.pair (.int .i64) (.pair (.int .i64) (.pair (.int .i64) (.pair (.int .i64) (.pair (.int .i64) (.int .i64)))))))))) (u ++ rss (compT h t m) p m s))])) (p.le + 1).toNat (c_lay_All_1 h p t m 0 n j u) (fun s hs F K => ?_) (fun F K => ?_)) (fun k hk => ⟨k, fun K r hh => ?_⟩)
  · have hl := rss_l (compT h t m) p m s
    have hw := rsN_w (compT h t m) p s
    have hi : inr 0 p.le (s : Int) = true := inr_t (by omega) (by omega)
    have hk1 : k_lay_All_2 h p t m s n j ((rsN (compT h t m) p s).1 * (rsN (compT h t m) p s).2) 0 (u ++ rss (compT h t m) p m s) = true := by
      simp only [k_lay_All_2, hok', decide_true, Bool.and_true, Bool.true_and, Bool.and_eq_true, decide_eq_true_eq, List.length_append]
      omega
    simp only [tu_lay_All_1, U_lay_All_1, LT.next, LT.run, ite2_bool, decide_eq_true_eq, hok.1, if_true, resM, he, hi, Bool.and_self]
    rw [if_pos (by omega), wrap_in (n := (rsN (compT h t m) p s).1 * (rsN (compT h t m) p s).2) (by omega) (by omega), hk1, wrap_in (n := (s : Int) + 1) (by omega) (by omega), rss_s, ← List.append_assoc]
    rfl
  · simp only [tu_lay_All_1, U_lay_All_1, LT.next, LT.run, ite2_bool, decide_eq_true_eq]
    rw [if_neg (by omega)]
    rfl
  · have := hk K r hh
    rw [show rss (compT h t m) p m 0 = [] from rfl, List.append_nil] at this
    exact this
theorem z_lay_All_1 : ∀ vs bl t, S_lay_All_1 vs bl = some (true, t) → ∃ n, ∀ (K : Ex → List V → List (Option Blk) → Option Out) r, t.run K = some r → (iter T_lay_All_1 n vs bl).run K = some r := by
  intro vs bl t y0'
  unfold S_lay_All_1 at y0'
  obtain ⟨c', vs, rfl, y1'⟩ := pO_s y0'
  obtain ⟨t, rfl, y2'⟩ := kI_s y1'
  obtain ⟨c', vs, rfl, y3'⟩ := pO_s y2'
  obtain ⟨rfl, y4'⟩ := kP_s y3'
  obtain ⟨c', vs, rfl, y5'⟩ := pO_s y4'
  obtain ⟨rfl, y6'⟩ := kP_s y5'
  obtain ⟨c', vs, rfl, y7'⟩ := pO_s y6'
  obtain ⟨rfl, y8'⟩ := kR_s y7'
  obtain ⟨c', vs, rfl, y9'⟩ := pO_s y8'
  obtain ⟨m, rfl, y10'⟩ := kI_s y9'
  obtain ⟨c', vs, rfl, y11'⟩ := pO_s y10'
  obtain ⟨s, rfl, y12'⟩ := kI_s y11'
  obtain ⟨c', vs, rfl, y13'⟩ := pO_s y12'
  obtain ⟨n, rfl, y14'⟩ := kI_s y13'
  obtain ⟨c', vs, rfl, y15'⟩ := pO_s y14'
  obtain ⟨j, rfl, y16'⟩ := kI_s y15'
  obtain ⟨rfl, y17'⟩ := pE_s y16'
  obtain ⟨q', bl, rfl, y18'⟩ := bB_s y17'
  obtain ⟨h, rfl, y19'⟩ := rdHd_s y18'
  obtain ⟨q', bl, rfl, y20'⟩ := bB_s y19'
  obtain ⟨p, rfl, y21'⟩ := rdPm_s y20'
  obtain ⟨u, bl, rfl, y22'⟩ := bAM_s y21'
  obtain ⟨rfl, y23'⟩ := bE_s y22'
  have yy' := y23'
  obtain ⟨hk, rfl⟩ := Prod.mk.inj (Option.some.inj yy')
  exact zz_lay_All_1 _ _ _ _ _ _ _ _ hk
theorem zz_lay_All_2 (h : Hd) (p : Pm) (t m s n j w i : Int) (u : List (List Bk)) (hk : k_lay_All_2 h p t m s n j w i u = true) : ∃ k, ∀ (K : Ex → List V → List (Option Blk) → Option Out) r, (c_lay_All_2 h p t m s n j w i u).run K = some r → (iter T_lay_All_2 k [.one (.int .i64 t), .one (.ptr 0 0), .one (.ptr 1 0), .one (.row 2), .one (.int .i64 m), .one (.int .i64 s), .one (.int .i64 n), .one (.int .i64 j), .one (.int .i64 w), .one (.int .i64 i)] [some (.box (hdC h)), some (.box (pmC p)), some (.arr 53 (.sl (.pair (.int .i64) (.pair (.int .i64) (.pair (.int .i64) (.pair (.int .i64) (.pair (.int .i64) (.pair (.int .i64) (.pair (.int .i64) (.pair (.int .i64) (.int .i64)))))))))) u)]).run K = some r := by
  simp only [k_lay_All_2] at hk
  rw [Bool.and_eq_true] at hk
  obtain ⟨hk, hok⟩ := hk
  simp only [Bool.and_eq_true, decide_eq_true_eq] at hk
  obtain ⟨⟨rfl, hw⟩, hu⟩ := hk
  refine Exists.elim (z_fold (T := T_lay_All_2) (st := fun i => ([.one (.int .i64 t), .one (.ptr 0 0), .one (.ptr 1 0), .one (.row 2), .one (.int .i64 m), .one (.int .i64 s), .one (.int .i64 n), .one (.int .i64 j), .one (.int .i64 w), .one (.int .i64 (i : Int))], [some (.box (hdC h)), some (.box (pmC p)), some (.arr 53 (.sl (.pair (.int .i64) (.pair (.int .i64) (.pair (.int .i64) (.pair (.int .i64) (.pair (.int .i64) (.pair (.int .i64) (.pair (.int .i64) (.pair (.int .i64) (.int .i64)))))))))) (u ++ pcs (compT h t m) p m s i))])) w.toNat (c_lay_All_2 h p t m s n j w 0 u) (fun i hi F K => ?_) (fun F K => ?_)) (fun k hk => ⟨k, fun K r hh => ?_⟩)
  · have hl := pcs_l (compT h t m) p m s i
    simp only [tu_lay_All_2, U_lay_All_2, LT.next, LT.run, ite2_bool, decide_eq_true_eq, hok, if_true]
    rw [pcs_s, ← List.append_assoc]
    repeat rw [if_pos (by first | omega | (simp only [List.length_singleton, List.length_append]; omega))]
    rw [wrap_in (n := (i : Int) + 1) (by omega) (by omega)]
    rfl
  · simp only [tu_lay_All_2, U_lay_All_2, LT.next, LT.run, ite2_bool, decide_eq_true_eq]
    rw [if_neg (by omega)]
    rfl
  · have := hk K r hh
    rw [show pcs (compT h t m) p m s 0 = [] from rfl, List.append_nil] at this
    exact this
theorem z_lay_All_2 : ∀ vs bl t, S_lay_All_2 vs bl = some (true, t) → ∃ n, ∀ (K : Ex → List V → List (Option Blk) → Option Out) r, t.run K = some r → (iter T_lay_All_2 n vs bl).run K = some r := by
  intro vs bl t y0'
  unfold S_lay_All_2 at y0'
  obtain ⟨c', vs, rfl, y1'⟩ := pO_s y0'
  obtain ⟨t, rfl, y2'⟩ := kI_s y1'
  obtain ⟨c', vs, rfl, y3'⟩ := pO_s y2'
  obtain ⟨rfl, y4'⟩ := kP_s y3'
  obtain ⟨c', vs, rfl, y5'⟩ := pO_s y4'
  obtain ⟨rfl, y6'⟩ := kP_s y5'
  obtain ⟨c', vs, rfl, y7'⟩ := pO_s y6'
  obtain ⟨rfl, y8'⟩ := kR_s y7'
  obtain ⟨c', vs, rfl, y9'⟩ := pO_s y8'
  obtain ⟨m, rfl, y10'⟩ := kI_s y9'
  obtain ⟨c', vs, rfl, y11'⟩ := pO_s y10'
  obtain ⟨s, rfl, y12'⟩ := kI_s y11'
  obtain ⟨c', vs, rfl, y13'⟩ := pO_s y12'
  obtain ⟨n, rfl, y14'⟩ := kI_s y13'
  obtain ⟨c', vs, rfl, y15'⟩ := pO_s y14'
  obtain ⟨j, rfl, y16'⟩ := kI_s y15'
  obtain ⟨c', vs, rfl, y17'⟩ := pO_s y16'
  obtain ⟨w, rfl, y18'⟩ := kI_s y17'
  obtain ⟨c', vs, rfl, y19'⟩ := pO_s y18'
  obtain ⟨i, rfl, y20'⟩ := kI_s y19'
  obtain ⟨rfl, y21'⟩ := pE_s y20'
  obtain ⟨q', bl, rfl, y22'⟩ := bB_s y21'
  obtain ⟨h, rfl, y23'⟩ := rdHd_s y22'
  obtain ⟨q', bl, rfl, y24'⟩ := bB_s y23'
  obtain ⟨p, rfl, y25'⟩ := rdPm_s y24'
  obtain ⟨u, bl, rfl, y26'⟩ := bAM_s y25'
  obtain ⟨rfl, y27'⟩ := bE_s y26'
  have yy' := y27'
  obtain ⟨hk, rfl⟩ := Prod.mk.inj (Option.some.inj yy')
  exact zz_lay_All_2 _ _ _ _ _ _ _ _ _ _ hk
theorem q_lay_All (h : Hd) (p : Pm) (t : Int) (hok : (small h.cs.length && (small p.pr.length && small p.st.length)) = true) : funR Try.prog t_lay_All (annOf []) l_lay_All 20 Try.f23 [.agg (hdC h), .agg (pmC p), .one (.int .i64 t)] [] = some ⟨.one (.row 0), [], [.arr 65 (.pair (.int .i64) (.pair (.int .i64) (.pair (.int .i64) (.pair (.int .i64) (.pair (.int .i64) (.pair (.int .i64) (.pair (.int .i64) (.pair (.int .i64) (.int .i64))))))))) (allL h p t)]⟩ := by
    refine (e_lay_All ..).trans ?_
    simp only [ite2_bool, allL, allU]
    cases e : existsB h p t 0
    · rw [hok]
      rfl
    have eb := exists_b e
    have nb := nums_b eb.2.2.1
    have hk : k_lay_All_0 h p t (h.cs.length : Int) 0 [] = true := by
      simp only [k_lay_All_0, hok, e, decide_true, Bool.and_self]
    have h1 := cmps_l nb.1.2 h t h.cs.length
    have h2 := cmps_f nb.1.2 h t h.cs.length
    have hs : (small (cmps h p t h.cs.length).length && decide ((cmps h p t h.cs.length).flatten.length ≤ 1900000000000)) = true := by
      have h4 := eb.2.2.2.1
      simp only [small, Bool.and_eq_true, decide_eq_true_eq]; omega
    rw [hok, hk, hs]
    rfl
theorem s_lay_All : SoundFun Try.prog 23 G_lay_All := by
  refine fun_ok (tab := t_lay_All) (ann := annOf []) (lt := l_lay_All) (tab_cons s_lay_Resolution (tab_cons s_lay_exists (tab_cons s_lay_precinct (tab_cons s_lay_join tab_nil)))) (by kernel_rfl) (fn := Try.f23) (by kernel_rfl) (by decide) (c := bodyOf Try.f23) (by kernel_rfl) (by
    intro m b hb
    have hb' : b ∈ loopsOf (bodyOf Try.f23) := hb
    rw [o_lay_All] at hb'
    simp only [List.mem_cons, List.not_mem_nil, or_false] at hb'
    rcases hb' with rfl | rfl | rfl
    · exact loop_ok (key := 5) (by kernel_rfl) rfl r_lay_All_0 z_lay_All_0 m
    · exact loop_ok (key := 8) (by kernel_rfl) rfl r_lay_All_1 z_lay_All_1 m
    · exact loop_ok (key := 12) (by kernel_rfl) rfl r_lay_All_2 z_lay_All_2 m
    ) ?_
  intro args lent o y0'
  unfold G_lay_All at y0'
  obtain ⟨q', args, rfl, y1'⟩ := pA_s y0'
  obtain ⟨h, rfl, y2'⟩ := rdHd_s y1'
  obtain ⟨q', args, rfl, y3'⟩ := pA_s y2'
  obtain ⟨p, rfl, y4'⟩ := rdPm_s y3'
  obtain ⟨c', args, rfl, y5'⟩ := pO_s y4'
  obtain ⟨t, rfl, y6'⟩ := kI_s y5'
  obtain ⟨rfl, y7'⟩ := pE_s y6'
  obtain ⟨rfl, y8'⟩ := nE_s y7'
  have yy' := y8'
  unfold H_lay_All at yy'
  obtain ⟨hok, rfl⟩ := Prod.mk.inj (Option.some.inj yy')
  exact ⟨20, q_lay_All _ _ _ hok⟩
end Go.Rx.Ch24

set_option linter.unusedVariables false
set_option linter.unusedSimpArgs false
set_option maxRecDepth 100000
set_option maxHeartbeats 4000000
open Go Go.Rx Go.Proofs
namespace Go.Rx.Ch24
theorem pcs_fs (r : Rc) (p : Pm) (m s : Int) (n : Nat) : (pcs r p m s (n + 1)).flatten = (pcs r p m s n).flatten ++ pcL r p m s n := by rw [pcs_s, List.flatten_append]; simp
theorem rss_fs (r : Rc) (p : Pm) (m : Int) (n : Nat) : (rss r p m (n + 1)).flatten = (rss r p m n).flatten ++ (pcs r p m n (rsK r p n)).flatten := by rw [rss_s, List.flatten_append]
theorem cmps_fs (h : Hd) (p : Pm) (t : Int) (n : Nat) : (cmps h p t (n + 1)).flatten = (cmps h p t n).flatten ++ (rss (compT h t n) p n (p.le + 1).toNat).flatten := by rw [cmps_s, List.flatten_append]
end Go.Rx.Ch24

set_option linter.unusedVariables false
set_option linter.unusedSimpArgs false
set_option maxRecDepth 100000
set_option maxHeartbeats 4000000
open Go Go.Rx Go.Proofs
namespace Go.Rx.Ch24
theorem o_law_area : loopsOf (bodyOf Try.f31) = [loopOf Try.f31 0] := by kernel_rfl
theorem q_law_area (a b c d : Int) (hok : true = true) : funR Try.prog t_law_area (annOf []) l_law_area 20 Try.f31 [.agg [.int .i64 a, .int .i64 b, .int .i64 c, .int .i64 d]] [] = some ⟨.one (.int .i64 (area4 a b c d)), [], []⟩ := by
    refine (e_law_area ..).trans ?_
    simp only [ite2_bool, decide_eq_true_eq, area4, mx_eq]
    by_cases la : a < 0
    · have : inr 0 4096 a = false := by simp [inr]; omega
      simp [la, this]
    by_cases ga : a > 4096
    · have : inr 0 4096 a = false := by simp [inr]; omega
      simp [la, ga, this]
    by_cases lb : b < 0
    · have : inr 0 4096 b = false := by simp [inr]; omega
      simp [la, ga, lb, this]
    by_cases gb : b > 4096
    · have : inr 0 4096 b = false := by simp [inr]; omega
      simp [la, ga, lb, gb, this]
    by_cases lc : c < 0
    · have : inr 0 4096 c = false := by simp [inr]; omega
      simp [la, ga, lb, gb, lc, this]
    by_cases gc : c > 4096
    · have : inr 0 4096 c = false := by simp [inr]; omega
      simp [la, ga, lb, gb, lc, gc, this]
    by_cases ld : d < 0
    · have : inr 0 4096 d = false := by simp [inr]; omega
      simp [la, ga, lb, gb, lc, gc, ld, this]
    by_cases gd : d > 4096
    · have : inr 0 4096 d = false := by simp [inr]; omega
      simp [la, ga, lb, gb, lc, gc, ld, gd, this]
    rw [if_neg la, if_neg ga, if_neg lb, if_neg gb, if_neg lc, if_neg gc, if_neg ld, if_neg gd, inr_t (a := 0) (b := 4096) (x := a) (by omega) (by omega), inr_t (a := 0) (b := 4096) (x := b) (by omega) (by omega), inr_t (a := 0) (b := 4096) (x := c) (by omega) (by omega), inr_t (a := 0) (b := 4096) (x := d) (by omega) (by omega), wrap_in (n := c - a) (by omega) (by omega), wrap_in (n := d - b) (by omega) (by omega)]
    have m1 := prod_b (show 0 ≤ max 0 (c - a) by omega) (show max 0 (c - a) ≤ 4096 by omega) (show 0 ≤ max 0 (d - b) by omega) (show max 0 (d - b) ≤ 4096 by omega)
    rw [wrap_in (by omega) (by omega)]
    rfl
theorem s_law_area : SoundFun Try.prog 31 G_law_area := by
  refine fun_ok (tab := t_law_area) (ann := annOf []) (lt := l_law_area) tab_nil (by kernel_rfl) (fn := Try.f31) (by kernel_rfl) (by decide) (c := bodyOf Try.f31) (by kernel_rfl) (by
    intro m b hb
    have hb' : b ∈ loopsOf (bodyOf Try.f31) := hb
    rw [o_law_area] at hb'
    simp only [List.mem_cons, List.not_mem_nil, or_false] at hb'
    rcases hb' with rfl
    · exact loop_none (by kernel_rfl) m
    ) ?_
  intro args lent o y0'
  unfold G_law_area at y0'
  obtain ⟨q', args, rfl, y1'⟩ := pA_s y0'
  obtain ⟨c', q', rfl, y2'⟩ := tC_s y1'
  obtain ⟨a, rfl, y3'⟩ := kI_s y2'
  obtain ⟨c', q', rfl, y4'⟩ := tC_s y3'
  obtain ⟨b, rfl, y5'⟩ := kI_s y4'
  obtain ⟨c', q', rfl, y6'⟩ := tC_s y5'
  obtain ⟨c, rfl, y7'⟩ := kI_s y6'
  obtain ⟨c', q', rfl, y8'⟩ := tC_s y7'
  obtain ⟨d, rfl, y9'⟩ := kI_s y8'
  obtain ⟨rfl, y10'⟩ := tE_s y9'
  obtain ⟨rfl, y11'⟩ := pE_s y10'
  obtain ⟨rfl, y12'⟩ := nE_s y11'
  have yy' := y12'
  unfold H_law_area at yy'
  obtain ⟨hok, rfl⟩ := Prod.mk.inj (Option.some.inj yy')
  exact ⟨20, q_law_area _ _ _ _ hok⟩
theorem q_law_small (h : Hd) (p : Pm) (hok : true = true) : funR Try.prog t_law_small (annOf []) l_law_small 20 Try.f8 [.agg (hdC h), .agg (pmC p)] [] = some ⟨.one (.bool (smallB h p)), [], []⟩ := by
    refine (e_law_small ..).trans ?_
    simp only [ite2_dec, ite2_bool, mx_eq, mn_eq, smallB]
    (repeat' split) <;> (try simp_all) <;> (try omega) <;> (try (rw [Bool.eq_iff_iff]; simp; omega))
theorem s_law_small : SoundFun Try.prog 8 G_law_small := by
  refine fun_ok (tab := t_law_small) (ann := annOf []) (lt := l_law_small) (tab_cons s_law_area tab_nil) (by kernel_rfl) (fn := Try.f8) (by kernel_rfl) (by decide) (c := bodyOf Try.f8) (by kernel_rfl) (fun m b hb => absurd hb (by show b ∉ loopsOf (bodyOf Try.f8); rw [show loopsOf (bodyOf Try.f8) = [] from by kernel_rfl]; exact List.not_mem_nil)) ?_
  intro args lent o y0'
  unfold G_law_small at y0'
  obtain ⟨q', args, rfl, y1'⟩ := pA_s y0'
  obtain ⟨h, rfl, y2'⟩ := rdHd_s y1'
  obtain ⟨q', args, rfl, y3'⟩ := pA_s y2'
  obtain ⟨p, rfl, y4'⟩ := rdPm_s y3'
  obtain ⟨rfl, y5'⟩ := pE_s y4'
  obtain ⟨rfl, y6'⟩ := nE_s y5'
  have yy' := y6'
  unfold H_law_small at yy'
  obtain ⟨hok, rfl⟩ := Prod.mk.inj (Option.some.inj yy')
  exact ⟨20, q_law_small _ _ hok⟩
theorem q_law_example  (hok : true = true) : funR Try.prog t_law_example (annOf []) l_law_example 20 Try.f32 [] [] = some ⟨.tup [(true, [.int .i64 0, .int .i64 0, .int .i64 16, .int .i64 16, .int .i64 16, .int .i64 16, .row 0]), (true, [.int .i64 2, .int .i64 1, .int .i64 0, .int .i64 2, .int .i64 2, .row 1, .int .i64 1, .int .i64 3, .bool false, .bool false, .bool false, .bool false, .bool false, .bool false, .bool false, .bool false, .row 2, .int .i64 16, .int .i64 0])], [], [.arr 73 (.pair (.int .i64) (.pair .bool (.pair (.int .i64) (.int .i64)))) exCs, .arr 61 (.pair (.int .i64) (.int .i64)) exPr, .arr 3 (.int .i64) exSt]⟩ := by
    refine (e_law_example ..).trans ?_
    kernel_rfl
theorem s_law_example : SoundFun Try.prog 32 G_law_example := by
  refine fun_ok (tab := t_law_example) (ann := annOf []) (lt := l_law_example) tab_nil (by kernel_rfl) (fn := Try.f32) (by kernel_rfl) (by decide) (c := bodyOf Try.f32) (by kernel_rfl) (fun m b hb => absurd hb (by show b ∉ loopsOf (bodyOf Try.f32); rw [show loopsOf (bodyOf Try.f32) = [] from by kernel_rfl]; exact List.not_mem_nil)) ?_
  intro args lent o y0'
  unfold G_law_example at y0'
  obtain ⟨rfl, y1'⟩ := pE_s y0'
  obtain ⟨rfl, y2'⟩ := nE_s y1'
  have yy' := y2'
  unfold H_law_example at yy'
  obtain ⟨hok, rfl⟩ := Prod.mk.inj (Option.some.inj yy')
  exact ⟨20, q_law_example hok⟩
theorem q_awake  (hok : true = true) : funR Try.prog t_awake (annOf []) l_awake 20 Try.f9 [] [] = some ⟨.one (.bool true), [], []⟩ := by
    refine (e_awake ..).trans ?_
    kernel_rfl
theorem s_awake : SoundFun Try.prog 9 G_awake := by
  refine fun_ok (tab := t_awake) (ann := annOf []) (lt := l_awake) (tab_cons s_lay_Tiles (tab_cons s_lay_Component (tab_cons s_lay_Resolution (tab_cons s_lay_Packets (tab_cons s_lay_Grid (tab_cons s_lay_Blocks (tab_cons s_lay_All (tab_cons s_law_example tab_nil)))))))) (by kernel_rfl) (fn := Try.f9) (by kernel_rfl) (by decide) (c := bodyOf Try.f9) (by kernel_rfl) (fun m b hb => absurd hb (by show b ∉ loopsOf (bodyOf Try.f9); rw [show loopsOf (bodyOf Try.f9) = [] from by kernel_rfl]; exact List.not_mem_nil)) ?_
  intro args lent o y0'
  unfold G_awake at y0'
  obtain ⟨rfl, y1'⟩ := pE_s y0'
  obtain ⟨rfl, y2'⟩ := nE_s y1'
  have yy' := y2'
  unfold H_awake at yy'
  obtain ⟨hok, rfl⟩ := Prod.mk.inj (Option.some.inj yy')
  exact ⟨20, q_awake hok⟩
end Go.Rx.Ch24

set_option linter.unusedVariables false
set_option linter.unusedSimpArgs false
set_option maxRecDepth 100000
set_option maxHeartbeats 4000000
open Go Go.Rx Go.Proofs
namespace Go.Rx.Ch24
theorem smallB_s {h : Hd} {p : Pm} (hf : smallB h p = true) : small h.cs.length = true ∧ small p.pr.length = true ∧ small p.st.length = true := by
  simp only [smallB, Bool.and_eq_true, decide_eq_true_eq] at hf
  simp only [small, decide_eq_true_eq]
  omega
theorem allL_len (h : Hd) (p : Pm) (t : Int) : (allL h p t).length ≤ 400000000000 := by
  unfold allL allU
  split
  · rename_i e
    have eb := exists_b e
    have nb := nums_b eb.2.2.1
    have h2 := cmps_f nb.1.2 h t h.cs.length
    have h4 := eb.2.2.2.1
    omega
  · simp
theorem tilesH_len (h : Hd) : (tilesH h).length ≤ 65536 := by
  unfold tilesH
  split
  · simp
  · exact tilesL_len ..
end Go.Rx.Ch24

set_option linter.unusedVariables false
set_option linter.unusedSimpArgs false
set_option maxRecDepth 100000
set_option maxHeartbeats 4000000
open Go Go.Rx Go.Proofs
namespace Go.Rx.Ch24
end Go.Rx.Ch24

