/- The summaries of these functions are sound. -/
import Derived.Test.YtfobgkchlcbniaaRE2
import Derived.Test.YtfobgkchlcbniaaRS4
import Derived.Test.YtfobgkchlcbniaaRE3
set_option linter.unnecessarySimpa false
set_option linter.unusedVariables false
set_option linter.unusedSimpArgs false
set_option linter.unusedVariables false
set_option linter.unusedSimpArgs false
set_option maxRecDepth 100000
set_option maxHeartbeats 40000000
open Go Go.Rx Go.Proofs
namespace Go.Rx.Ch05
theorem rowsOk_s {l : List (List Int)} (h : rowsOk l = true) : l.length ≤ 4096 ∧ (∀ i, i < l.length → (gL l i).length = (gL l 0).length) ∧ (gL l 0).length ≤ 4096 := by
  simp only [rowsOk, Bool.and_eq_true, decide_eq_true_eq, List.all_eq_true] at h
  refine ⟨h.1.1, fun i hi => ?_, h.2⟩
  have e : gL l i = l[i] := by simp [gL, List.getD_eq_getElem?_getD, hi]
  rw [e]
  exact h.1.2 _ (List.getElem_mem hi)
theorem rowsP_succ (l : List (List Int)) (y j : Nat) : rowsP l y (j + 1) = rowsP l y j ++ [gI (gL l j) y] := by
  simp [rowsP, List.range_succ]
theorem rowsM_succ (l : List (List Int)) (j : Nat) : rowsM l (j + 1) = rowsM l j ++ rowsP l j l.length := matC_succ ..
theorem colsL_succ (f : Nat → List Int) (j : Nat) : colsL f (j + 1) = colsL f j ++ [f j] := by
  simp [colsL, List.range_succ]
theorem colsL_len (f : Nat → List Int) (j : Nat) : (colsL f j).length = j := by simp [colsL]
theorem gL_cols {f : Nat → List Int} {g x : Nat} (h : x < g) : gL (colsL f g) x = f x := by
  simp [gL, colsL, List.getD_eq_getElem?_getD, h]
theorem colOf_succ (l : List Int) (w x n : Nat) : colOf l w x (n + 1) = colOf l w x n ++ [gI l (n * w + x)] := by
  simp [colOf, List.range_succ]
theorem rows_cols {f : Nat → List Int} {g m : Nat} (hg : g ≤ 4096) (hm : m ≤ 4096) (h : ∀ x, x < g → (f x).length = m) : rowsOk (colsL f g) = true ∧ rowsM (colsL f g) (gL (colsL f g) 0).length = matC m g f := by
  by_cases h0 : g = 0
  · subst h0
    exact ⟨rfl, (List.length_eq_zero_iff.1 (by rw [matC_len, Nat.mul_zero])).symm⟩
  have e0 : (gL (colsL f g) 0).length = m := by rw [gL_cols (by omega), h 0 (by omega)]
  constructor
  · simp only [rowsOk, e0, colsL_len, Bool.and_eq_true, decide_eq_true_eq, List.all_eq_true]
    refine ⟨⟨hg, fun c hc => ?_⟩, hm⟩
    obtain ⟨x, hx, rfl⟩ := List.mem_map.1 hc
    exact h x (List.mem_range.1 hx)
  · rw [e0]
    unfold rowsM
    rw [colsL_len]
    exact matC_congr fun x hx => gL_cols hx
theorem r_ref05_rows_0 : RoundOk Try.prog t_ref05_rows (annOf []) l_ref05_rows Out 20 0 36 [0, 3, 4] (kxOf [3] [2]) (loopOf Try.f61 0) T_ref05_rows_0 := by
  intro vs bl Kc r h
  unfold T_ref05_rows_0 at h
  obtain ⟨t, y0', h'⟩ := getD_run h
  obtain ⟨c', vs, rfl, y1'⟩ := pO_s y0'
  obtain ⟨l, rfl, y2'⟩ := kLJ_s y1'
  obtain ⟨c', vs, rfl, y3'⟩ := pO_s y2'
  obtain ⟨rfl, y4'⟩ := kR_s y3'
  obtain ⟨c', vs, rfl, y5'⟩ := pO_s y4'
  obtain ⟨y, rfl, y6'⟩ := kI_s y5'
  obtain ⟨rfl, y7'⟩ := pE_s y6'
  obtain ⟨v, bl, rfl, y8'⟩ := bAI_s y7'
  obtain ⟨rfl, y9'⟩ := bE_s y8'
  have yy' := y9'
  cases yy'
  exact (b_ref05_rows_0 ..).trans ((congrArg (LT.runc · Kc) (tu_ref05_rows_0 ..)).trans h')
theorem r_ref05_rows_1 : RoundOk Try.prog t_ref05_rows (annOf []) l_ref05_rows Out 20 0 36 [0, 3, 4, 5] (kxOf [0, 3, 4] [2]) (loopOf Try.f61 1) T_ref05_rows_1 := by
  intro vs bl Kc r h
  unfold T_ref05_rows_1 at h
  obtain ⟨t, y0', h'⟩ := getD_run h
  obtain ⟨c', vs, rfl, y1'⟩ := pO_s y0'
  obtain ⟨l, rfl, y2'⟩ := kLJ_s y1'
  obtain ⟨c', vs, rfl, y3'⟩ := pO_s y2'
  obtain ⟨rfl, y4'⟩ := kR_s y3'
  obtain ⟨c', vs, rfl, y5'⟩ := pO_s y4'
  obtain ⟨y, rfl, y6'⟩ := kI_s y5'
  obtain ⟨c', vs, rfl, y7'⟩ := pO_s y6'
  obtain ⟨x, rfl, y8'⟩ := kI_s y7'
  obtain ⟨rfl, y9'⟩ := pE_s y8'
  obtain ⟨v, bl, rfl, y10'⟩ := bAI_s y9'
  obtain ⟨rfl, y11'⟩ := bE_s y10'
  have yy' := y11'
  cases yy'
  exact (b_ref05_rows_1 ..).trans ((congrArg (LT.runc · Kc) (tu_ref05_rows_1 ..)).trans h')
theorem o_ref05_rows : loopsOf (bodyOf Try.f61) = [loopOf Try.f61 0, loopOf Try.f61 1] := by kernel_rfl
theorem zz_ref05_rows_0 (y : Int) (l : List (List Int)) (v : List Int) (hk : k_ref05_rows_0 y l v = true) : ∃ k, ∀ (K : Ex → List V → List (Option Blk) → Option Out) r, (c_ref05_rows_0 y l v).run K = some r → (iter T_ref05_rows_0 k [.one (.lst (.sl (.int .i64)) l), .one (.row 0), .one (.int .i64 y)] [some (.arr 3 (.int .i64) v)]).run K = some r := by
  simp only [k_ref05_rows_0, Bool.and_eq_true, decide_eq_true_eq] at hk
  obtain ⟨⟨⟨hr, h1⟩, rfl⟩, rfl⟩ := hk
  have rs := rowsOk_s hr
  refine Exists.elim (z_fold (T := T_ref05_rows_0) (st := fun j => ([.one (.lst (.sl (.int .i64)) l), .one (.row 0), .one (.int .i64 (j : Int))], [some (.arr 3 (.int .i64) (rowsM l j))])) (gL l 0).length (.leaf (.exit 0) [.one (.row 0)] [some (.arr 3 (.int .i64) (rowsM l (gL l 0).length))]) (fun j hj F K => ?_) (fun F K => ?_)) (fun k hk => ⟨k, fun K r h => ?_⟩)
  · have m1 : j * l.length ≤ 4096 * 4096 := Nat.mul_le_mul (by omega) (by omega)
    have hl : (rowsM l j).length = j * l.length := matC_len ..
    simp only [tu_ref05_rows_0, U_ref05_rows_0, LT.next, LT.run, ite2_bool, decide_eq_true_eq]
    rw [if_pos (by omega), if_pos (by omega), if_pos (by simp only [k_ref05_rows_1, hr, decide_true, Bool.true_and, Bool.and_eq_true, decide_eq_true_eq]; omega), wrap_in (n := (j : Int) + 1) (by omega) (by omega), show (j : Int) + 1 = ((j + 1 : Nat) : Int) by omega, rowsM_succ]
    rfl
  · simp only [tu_ref05_rows_0, U_ref05_rows_0, LT.next, LT.run, ite2_bool, decide_eq_true_eq]
    rw [if_pos (by omega), if_neg (by omega)]
  · exact hk K r h
theorem z_ref05_rows_0 : ∀ vs bl t, S_ref05_rows_0 vs bl = some (true, t) → ∃ n, ∀ (K : Ex → List V → List (Option Blk) → Option Out) r, t.run K = some r → (iter T_ref05_rows_0 n vs bl).run K = some r := by
  intro vs bl t y0'
  unfold S_ref05_rows_0 at y0'
  obtain ⟨c', vs, rfl, y1'⟩ := pO_s y0'
  obtain ⟨l, rfl, y2'⟩ := kLJ_s y1'
  obtain ⟨c', vs, rfl, y3'⟩ := pO_s y2'
  obtain ⟨rfl, y4'⟩ := kR_s y3'
  obtain ⟨c', vs, rfl, y5'⟩ := pO_s y4'
  obtain ⟨y, rfl, y6'⟩ := kI_s y5'
  obtain ⟨rfl, y7'⟩ := pE_s y6'
  obtain ⟨v, bl, rfl, y8'⟩ := bAI_s y7'
  obtain ⟨rfl, y9'⟩ := bE_s y8'
  have yy' := y9'
  obtain ⟨hk, rfl⟩ := Prod.mk.inj (Option.some.inj yy')
  exact zz_ref05_rows_0 _ _ _ hk
theorem zz_ref05_rows_1 (y x : Int) (l : List (List Int)) (v : List Int) (hk : k_ref05_rows_1 y x l v = true) : ∃ k, ∀ (K : Ex → List V → List (Option Blk) → Option Out) r, (c_ref05_rows_1 y x l v).run K = some r → (iter T_ref05_rows_1 k [.one (.lst (.sl (.int .i64)) l), .one (.row 0), .one (.int .i64 y), .one (.int .i64 x)] [some (.arr 3 (.int .i64) v)]).run K = some r := by
  simp only [k_ref05_rows_1, Bool.and_eq_true, decide_eq_true_eq] at hk
  obtain ⟨⟨⟨⟨hr, rfl⟩, h1⟩, h2⟩, h3⟩ := hk
  have rs := rowsOk_s hr
  refine Exists.elim (z_fold (T := T_ref05_rows_1) (st := fun j => ([.one (.lst (.sl (.int .i64)) l), .one (.row 0), .one (.int .i64 y), .one (.int .i64 (j : Int))], [some (.arr 3 (.int .i64) (v ++ rowsP l y.toNat j))])) l.length (.leaf (.exit 2) [.one (.lst (.sl (.int .i64)) l), .one (.row 0), .one (.int .i64 y)] [some (.arr 3 (.int .i64) (v ++ rowsP l y.toNat l.length))]) (fun j hj F K => ?_) (fun F K => ?_)) (fun k hk => ⟨k, fun K r h => ?_⟩)
  · have hl : (rowsP l y.toNat j).length = j := by simp [rowsP]
    have hr2 := rs.2.1 j hj
    simp only [tu_ref05_rows_1, U_ref05_rows_1, LT.next, LT.run, ite2_bool, decide_eq_true_eq, Int.toNat_natCast]
    rw [if_pos (by omega), if_pos (by omega), if_pos (by omega), if_pos (by simp only [List.length_append, List.length_singleton]; omega), wrap_in (n := (j : Int) + 1) (by omega) (by omega), show (j : Int) + 1 = ((j + 1 : Nat) : Int) by omega, rowsP_succ, List.append_assoc]
  · simp only [tu_ref05_rows_1, U_ref05_rows_1, LT.next, LT.run, ite2_bool, decide_eq_true_eq]
    rw [if_neg (by omega)]
  · have hk' := hk K r h
    rw [show v ++ rowsP l y.toNat 0 = v by simp [rowsP]] at hk'
    exact hk'
theorem z_ref05_rows_1 : ∀ vs bl t, S_ref05_rows_1 vs bl = some (true, t) → ∃ n, ∀ (K : Ex → List V → List (Option Blk) → Option Out) r, t.run K = some r → (iter T_ref05_rows_1 n vs bl).run K = some r := by
  intro vs bl t y0'
  unfold S_ref05_rows_1 at y0'
  obtain ⟨c', vs, rfl, y1'⟩ := pO_s y0'
  obtain ⟨l, rfl, y2'⟩ := kLJ_s y1'
  obtain ⟨c', vs, rfl, y3'⟩ := pO_s y2'
  obtain ⟨rfl, y4'⟩ := kR_s y3'
  obtain ⟨c', vs, rfl, y5'⟩ := pO_s y4'
  obtain ⟨y, rfl, y6'⟩ := kI_s y5'
  obtain ⟨c', vs, rfl, y7'⟩ := pO_s y6'
  obtain ⟨x, rfl, y8'⟩ := kI_s y7'
  obtain ⟨rfl, y9'⟩ := pE_s y8'
  obtain ⟨v, bl, rfl, y10'⟩ := bAI_s y9'
  obtain ⟨rfl, y11'⟩ := bE_s y10'
  have yy' := y11'
  obtain ⟨hk, rfl⟩ := Prod.mk.inj (Option.some.inj yy')
  exact zz_ref05_rows_1 _ _ _ _ hk
theorem q_ref05_rows (l : List (List Int)) (hok : rowsOk l = true) : funR Try.prog t_ref05_rows (annOf []) l_ref05_rows 20 Try.f61 [.one (.lst (.sl (.int .i64)) l)] [] = some ⟨.one (.row 0), [], [.arr 3 (.int .i64) (rowsM l (gL l 0).length)]⟩ := by
    refine (e_ref05_rows ..).trans ?_
    simp only [ite2_bool, beq_iff_eq]
    have rs := rowsOk_s hok
    by_cases h : (l.length : Int) = 0
    · have : l = [] := List.length_eq_zero_iff.1 (by omega)
      subst this
      rfl
    · rw [if_neg h, if_pos (by simp only [k_ref05_rows_0, hok, decide_true, Bool.true_and, Bool.and_true, decide_eq_true_eq]; omega)]
theorem s_ref05_rows : SoundFun Try.prog 61 G_ref05_rows := by
  refine fun_ok (tab := t_ref05_rows) (ann := annOf []) (lt := l_ref05_rows) tab_nil (by kernel_rfl) (fn := Try.f61) (by kernel_rfl) (by decide) (c := bodyOf Try.f61) (by kernel_rfl) (by
    intro m b hb
    have hb' : b ∈ loopsOf (bodyOf Try.f61) := hb
    rw [o_ref05_rows] at hb'
    simp only [List.mem_cons, List.not_mem_nil, or_false] at hb'
    rcases hb' with rfl | rfl
    · exact loop_ok (key := 5) (by kernel_rfl) rfl r_ref05_rows_0 z_ref05_rows_0 m
    · exact loop_ok (key := 8) (by kernel_rfl) rfl r_ref05_rows_1 z_ref05_rows_1 m
    ) ?_ (keep_nil (by kernel_rfl))
  intro args lent o y0'
  unfold G_ref05_rows at y0'
  obtain ⟨c', args, rfl, y1'⟩ := pO_s y0'
  obtain ⟨l, rfl, y2'⟩ := kLJ_s y1'
  obtain ⟨rfl, y3'⟩ := pE_s y2'
  obtain ⟨rfl, y4'⟩ := nE_s y3'
  have yy' := y4'
  unfold H_ref05_rows at yy'
  obtain ⟨hok, rfl⟩ := Prod.mk.inj (Option.some.inj yy')
  exact ⟨20, q_ref05_rows _ hok⟩
theorem r_ref05_columns_0 : RoundOk Try.prog t_ref05_columns (annOf []) l_ref05_columns Out 20 0 64 [0, 1, 2, 3, 4, 12, 13, 14] (kxOf [12, 13] [10, 11]) (loopOf Try.f43 0) T_ref05_columns_0 := by
  intro vs bl Kc r h
  unfold T_ref05_columns_0 at h
  obtain ⟨t, y0', h'⟩ := getD_run h
  obtain ⟨c', vs, rfl, y1'⟩ := pO_s y0'
  obtain ⟨l, rfl, y2'⟩ := kLI_s y1'
  obtain ⟨c', vs, rfl, y3'⟩ := pO_s y2'
  obtain ⟨g, rfl, y4'⟩ := kI_s y3'
  obtain ⟨c', vs, rfl, y5'⟩ := pO_s y4'
  obtain ⟨n, rfl, y6'⟩ := kI_s y5'
  obtain ⟨c', vs, rfl, y7'⟩ := pO_s y6'
  obtain ⟨s, rfl, y8'⟩ := kI_s y7'
  obtain ⟨c', vs, rfl, y9'⟩ := pO_s y8'
  obtain ⟨kk, rfl, y10'⟩ := kI_s y9'
  obtain ⟨c', vs, rfl, y11'⟩ := pO_s y10'
  obtain ⟨rfl, y12'⟩ := kR_s y11'
  obtain ⟨c', vs, rfl, y13'⟩ := pO_s y12'
  obtain ⟨rfl, y14'⟩ := kR_s y13'
  obtain ⟨c', vs, rfl, y15'⟩ := pO_s y14'
  obtain ⟨x, rfl, y16'⟩ := kI_s y15'
  obtain ⟨rfl, y17'⟩ := pE_s y16'
  obtain ⟨p, bl, rfl, y18'⟩ := bAJ_s y17'
  obtain ⟨q, bl, rfl, y19'⟩ := bAJ_s y18'
  obtain ⟨rfl, y20'⟩ := bE_s y19'
  have yy' := y20'
  cases yy'
  exact (b_ref05_columns_0 ..).trans ((congrArg (LT.runc · Kc) (tu_ref05_columns_0 ..)).trans h')
theorem r_ref05_columns_1 : RoundOk Try.prog t_ref05_columns (annOf []) l_ref05_columns Out 20 0 64 [0, 1, 2, 3, 4, 12, 13, 14, 15, 16] (kxOf [0, 1, 2, 3, 4, 12, 13, 14, 15] [10, 11]) (loopOf Try.f43 1) T_ref05_columns_1 := by
  intro vs bl Kc r h
  unfold T_ref05_columns_1 at h
  obtain ⟨t, y0', h'⟩ := getD_run h
  obtain ⟨c', vs, rfl, y1'⟩ := pO_s y0'
  obtain ⟨l, rfl, y2'⟩ := kLI_s y1'
  obtain ⟨c', vs, rfl, y3'⟩ := pO_s y2'
  obtain ⟨g, rfl, y4'⟩ := kI_s y3'
  obtain ⟨c', vs, rfl, y5'⟩ := pO_s y4'
  obtain ⟨n, rfl, y6'⟩ := kI_s y5'
  obtain ⟨c', vs, rfl, y7'⟩ := pO_s y6'
  obtain ⟨s, rfl, y8'⟩ := kI_s y7'
  obtain ⟨c', vs, rfl, y9'⟩ := pO_s y8'
  obtain ⟨kk, rfl, y10'⟩ := kI_s y9'
  obtain ⟨c', vs, rfl, y11'⟩ := pO_s y10'
  obtain ⟨rfl, y12'⟩ := kR_s y11'
  obtain ⟨c', vs, rfl, y13'⟩ := pO_s y12'
  obtain ⟨rfl, y14'⟩ := kR_s y13'
  obtain ⟨c', vs, rfl, y15'⟩ := pO_s y14'
  obtain ⟨x, rfl, y16'⟩ := kI_s y15'
  obtain ⟨c', vs, rfl, y17'⟩ := pO_s y16'
  obtain ⟨rfl, y18'⟩ := kR_s y17'
  obtain ⟨c', vs, rfl, y19'⟩ := pO_s y18'
  obtain ⟨y, rfl, y20'⟩ := kI_s y19'
  obtain ⟨rfl, y21'⟩ := pE_s y20'
  obtain ⟨p, bl, rfl, y22'⟩ := bAJ_s y21'
  obtain ⟨q, bl, rfl, y23'⟩ := bAJ_s y22'
  obtain ⟨v, bl, rfl, y24'⟩ := bAI_s y23'
  obtain ⟨rfl, y25'⟩ := bE_s y24'
  have yy' := y25'
  cases yy'
  exact (b_ref05_columns_1 ..).trans ((congrArg (LT.runc · Kc) (tu_ref05_columns_1 ..)).trans h')
theorem o_ref05_columns : loopsOf (bodyOf Try.f43) = [loopOf Try.f43 0, loopOf Try.f43 1] := by kernel_rfl
theorem zz_ref05_columns_0 (g n s kk x : Int) (l : List Int) (p q : List (List Int)) (hk : k_ref05_columns_0 g n s kk x l p q = true) : ∃ k, ∀ (K : Ex → List V → List (Option Blk) → Option Out) r, (c_ref05_columns_0 g n s kk x l p q).run K = some r → (iter T_ref05_columns_0 k [.one (.lst (.int .i64) l), .one (.int .i64 g), .one (.int .i64 n), .one (.int .i64 s), .one (.int .i64 kk), .one (.row 0), .one (.row 1), .one (.int .i64 x)] [some (.arr 28 (.sl (.int .i64)) p), some (.arr 28 (.sl (.int .i64)) q)]).run K = some r := by
  simp only [k_ref05_columns_0, Bool.and_eq_true, decide_eq_true_eq] at hk
  obtain ⟨⟨⟨rfl, rfl⟩, rfl⟩, ⟨⟨⟨⟨z1, z2⟩, z3⟩, z4⟩, z5⟩, z6⟩ := hk
  have b1 := inr_b z1
  have b2 := inr_b z2
  have hf := fitB_fit z6
  obtain ⟨w', hw⟩ : ∃ w' : Nat, g = w' := ⟨g.toNat, by omega⟩
  have e5 : g.toNat = w' := by omega
  refine Exists.elim (z_fold (T := T_ref05_columns_0) (st := fun j => ([.one (.lst (.int .i64) l), .one (.int .i64 g), .one (.int .i64 n), .one (.int .i64 s), .one (.int .i64 kk), .one (.row 0), .one (.row 1), .one (.int .i64 (j : Int))], [some (.arr 28 (.sl (.int .i64)) (colsL (cLo l g.toNat n.toNat s kk) j)), some (.arr 28 (.sl (.int .i64)) (colsL (cHi l g.toNat n.toNat s kk) j))])) w' (.leaf (.exit 0) [.one (.row 0), .one (.row 1)] [some (.arr 28 (.sl (.int .i64)) (colsL (cLo l g.toNat n.toNat s kk) w')), some (.arr 28 (.sl (.int .i64)) (colsL (cHi l g.toNat n.toNat s kk) w'))]) (fun j hj F K => ?_) (fun F K => ?_)) (fun k hk => ⟨k, fun K r h => ?_⟩)
  · simp only [tu_ref05_columns_0, U_ref05_columns_0, LT.next, LT.run, ite2_bool, decide_eq_true_eq, Int.toNat_natCast]
    rw [if_pos (by omega), if_pos (by simp only [k_ref05_columns_1, z1, z2, z3, decide_true, Bool.true_and, Bool.and_true, Bool.and_eq_true, decide_eq_true_eq]; omega), if_pos (small_of (by rw [colOf_len]; omega)), if_pos (by rw [colsL_len, List.length_singleton]; omega), if_pos (by rw [colsL_len, List.length_singleton]; omega), wrap_in (n := (j : Int) + 1) (by omega) (by omega), show (j : Int) + 1 = ((j + 1 : Nat) : Int) by omega, colsL_succ, colsL_succ]
    rfl
  · simp only [tu_ref05_columns_0, U_ref05_columns_0, LT.next, LT.run, ite2_bool, decide_eq_true_eq]
    rw [if_neg (by omega)]
  · unfold c_ref05_columns_0 at h
    rw [e5] at h
    rw [e5] at hk
    exact hk K r h
theorem z_ref05_columns_0 : ∀ vs bl t, S_ref05_columns_0 vs bl = some (true, t) → ∃ n, ∀ (K : Ex → List V → List (Option Blk) → Option Out) r, t.run K = some r → (iter T_ref05_columns_0 n vs bl).run K = some r := by
  intro vs bl t y0'
  unfold S_ref05_columns_0 at y0'
  obtain ⟨c', vs, rfl, y1'⟩ := pO_s y0'
  obtain ⟨l, rfl, y2'⟩ := kLI_s y1'
  obtain ⟨c', vs, rfl, y3'⟩ := pO_s y2'
  obtain ⟨g, rfl, y4'⟩ := kI_s y3'
  obtain ⟨c', vs, rfl, y5'⟩ := pO_s y4'
  obtain ⟨n, rfl, y6'⟩ := kI_s y5'
  obtain ⟨c', vs, rfl, y7'⟩ := pO_s y6'
  obtain ⟨s, rfl, y8'⟩ := kI_s y7'
  obtain ⟨c', vs, rfl, y9'⟩ := pO_s y8'
  obtain ⟨kk, rfl, y10'⟩ := kI_s y9'
  obtain ⟨c', vs, rfl, y11'⟩ := pO_s y10'
  obtain ⟨rfl, y12'⟩ := kR_s y11'
  obtain ⟨c', vs, rfl, y13'⟩ := pO_s y12'
  obtain ⟨rfl, y14'⟩ := kR_s y13'
  obtain ⟨c', vs, rfl, y15'⟩ := pO_s y14'
  obtain ⟨x, rfl, y16'⟩ := kI_s y15'
  obtain ⟨rfl, y17'⟩ := pE_s y16'
  obtain ⟨p, bl, rfl, y18'⟩ := bAJ_s y17'
  obtain ⟨q, bl, rfl, y19'⟩ := bAJ_s y18'
  obtain ⟨rfl, y20'⟩ := bE_s y19'
  have yy' := y20'
  obtain ⟨hk, rfl⟩ := Prod.mk.inj (Option.some.inj yy')
  exact zz_ref05_columns_0 _ _ _ _ _ _ _ _ hk
theorem zz_ref05_columns_1 (g n s kk x y : Int) (l v : List Int) (p q : List (List Int)) (hk : k_ref05_columns_1 g n s kk x y l v p q = true) : ∃ k, ∀ (K : Ex → List V → List (Option Blk) → Option Out) r, (c_ref05_columns_1 g n s kk x y l v p q).run K = some r → (iter T_ref05_columns_1 k [.one (.lst (.int .i64) l), .one (.int .i64 g), .one (.int .i64 n), .one (.int .i64 s), .one (.int .i64 kk), .one (.row 0), .one (.row 1), .one (.int .i64 x), .one (.row 2), .one (.int .i64 y)] [some (.arr 28 (.sl (.int .i64)) p), some (.arr 28 (.sl (.int .i64)) q), some (.arr 3 (.int .i64) v)]).run K = some r := by
  simp only [k_ref05_columns_1, Bool.and_eq_true, decide_eq_true_eq] at hk
  obtain ⟨⟨⟨⟨⟨⟨rfl, rfl⟩, h1⟩, h2⟩, z1⟩, z2⟩, z3⟩ := hk
  have b1 := inr_b z1
  have b2 := inr_b z2
  obtain ⟨w', rfl⟩ : ∃ w' : Nat, g = w' := ⟨g.toNat, by omega⟩
  obtain ⟨x', rfl⟩ : ∃ x' : Nat, x = x' := ⟨x.toNat, by omega⟩
  obtain ⟨n', rfl⟩ : ∃ n' : Nat, n = n' := ⟨n.toNat, by omega⟩
  simp only [c_ref05_columns_1, Int.toNat_natCast]
  refine Exists.elim (z_fold (T := T_ref05_columns_1) (st := fun j => ([.one (.lst (.int .i64) l), .one (.int .i64 (w' : Int)), .one (.int .i64 (n' : Int)), .one (.int .i64 s), .one (.int .i64 kk), .one (.row 0), .one (.row 1), .one (.int .i64 (x' : Int)), .one (.row 2), .one (.int .i64 (j : Int))], [some (.arr 28 (.sl (.int .i64)) p), some (.arr 28 (.sl (.int .i64)) q), some (.arr 3 (.int .i64) (colOf l w' x' j))])) n' (.leaf (.exit 2) [.one (.lst (.int .i64) l), .one (.int .i64 (w' : Int)), .one (.int .i64 (n' : Int)), .one (.int .i64 s), .one (.int .i64 kk), .one (.row 0), .one (.row 1), .one (.int .i64 (x' : Int)), .one (.row 2)] [some (.arr 28 (.sl (.int .i64)) p), some (.arr 28 (.sl (.int .i64)) q), some (.arr 3 (.int .i64) (colOf l w' x' n'))]) (fun j hj F K => ?_) (fun F K => ?_)) (fun k hk => ⟨k, fun K r h => ?_⟩)
  · have ib := idx_b (i := (j : Int)) (w := (w' : Int)) (h := (n' : Int)) (by omega) (by omega) (by omega)
    have mb : (w' : Int) * (n' : Int) ≤ 4096 * 4096 := Int.mul_le_mul (by omega) (by omega) (by omega) (by omega)
    have mc : (n' : Int) * (w' : Int) = (w' : Int) * (n' : Int) := Int.mul_comm ..
    have hl := colOf_len l w' x' j
    have e1 : ((j * w' + x' : Nat) : Int) = (j : Int) * w' + x' := by simp
    simp only [tu_ref05_columns_1, U_ref05_columns_1, LT.next, LT.run, ite2_bool, decide_eq_true_eq]
    rw [wrap_in (n := (j : Int) * (w' : Int)) (by omega) (by omega), wrap_in (n := (j : Int) * (w' : Int) + (x' : Int)) (by omega) (by omega), ← e1, Int.toNat_natCast, if_pos (by omega), if_pos (by omega), if_pos (by rw [List.length_singleton]; omega), wrap_in (n := (j : Int) + 1) (by omega) (by omega), show (j : Int) + 1 = ((j + 1 : Nat) : Int) by omega, colOf_succ]
  · simp only [tu_ref05_columns_1, U_ref05_columns_1, LT.next, LT.run, ite2_bool, decide_eq_true_eq]
    rw [if_neg (by omega)]
  · exact hk K r h
theorem z_ref05_columns_1 : ∀ vs bl t, S_ref05_columns_1 vs bl = some (true, t) → ∃ n, ∀ (K : Ex → List V → List (Option Blk) → Option Out) r, t.run K = some r → (iter T_ref05_columns_1 n vs bl).run K = some r := by
  intro vs bl t y0'
  unfold S_ref05_columns_1 at y0'
  obtain ⟨c', vs, rfl, y1'⟩ := pO_s y0'
  obtain ⟨l, rfl, y2'⟩ := kLI_s y1'
  obtain ⟨c', vs, rfl, y3'⟩ := pO_s y2'
  obtain ⟨g, rfl, y4'⟩ := kI_s y3'
  obtain ⟨c', vs, rfl, y5'⟩ := pO_s y4'
  obtain ⟨n, rfl, y6'⟩ := kI_s y5'
  obtain ⟨c', vs, rfl, y7'⟩ := pO_s y6'
  obtain ⟨s, rfl, y8'⟩ := kI_s y7'
  obtain ⟨c', vs, rfl, y9'⟩ := pO_s y8'
  obtain ⟨kk, rfl, y10'⟩ := kI_s y9'
  obtain ⟨c', vs, rfl, y11'⟩ := pO_s y10'
  obtain ⟨rfl, y12'⟩ := kR_s y11'
  obtain ⟨c', vs, rfl, y13'⟩ := pO_s y12'
  obtain ⟨rfl, y14'⟩ := kR_s y13'
  obtain ⟨c', vs, rfl, y15'⟩ := pO_s y14'
  obtain ⟨x, rfl, y16'⟩ := kI_s y15'
  obtain ⟨c', vs, rfl, y17'⟩ := pO_s y16'
  obtain ⟨rfl, y18'⟩ := kR_s y17'
  obtain ⟨c', vs, rfl, y19'⟩ := pO_s y18'
  obtain ⟨y, rfl, y20'⟩ := kI_s y19'
  obtain ⟨rfl, y21'⟩ := pE_s y20'
  obtain ⟨p, bl, rfl, y22'⟩ := bAJ_s y21'
  obtain ⟨q, bl, rfl, y23'⟩ := bAJ_s y22'
  obtain ⟨v, bl, rfl, y24'⟩ := bAI_s y23'
  obtain ⟨rfl, y25'⟩ := bE_s y24'
  have yy' := y25'
  obtain ⟨hk, rfl⟩ := Prod.mk.inj (Option.some.inj yy')
  exact zz_ref05_columns_1 _ _ _ _ _ _ _ _ _ _ hk
theorem q_ref05_columns (g n s k : Int) (l : List Int) (hok : (inr 0 4096 g && inr 0 4096 n && decide ((l.length : Int) = n * g) && inr 0 4096 s && inr 1 3 k && fitB 281474976710656 l) = true) : funR Try.prog t_ref05_columns (annOf []) l_ref05_columns 20 Try.f43 [.one (.lst (.int .i64) l), .one (.int .i64 g), .one (.int .i64 n), .one (.int .i64 s), .one (.int .i64 k)] [] = some ⟨.tup [(false, [.row 0]), (false, [.row 1])], [], [.arr 3 (.int .i64) (matC (cev s n).toNat g.toNat (cLo l g.toNat n.toNat s k)), .arr 3 (.int .i64) (matC (n - cev s n).toNat g.toNat (cHi l g.toNat n.toNat s k))]⟩ := by
    refine (e_ref05_columns ..).trans ?_
    have hok' := hok
    simp only [Bool.and_eq_true, decide_eq_true_eq] at hok'
    obtain ⟨⟨⟨⟨⟨z1, z2⟩, z3⟩, z4⟩, z5⟩, z6⟩ := hok'
    have b1 := inr_b z1
    have b2 := inr_b z2
    have hn : ((n.toNat : Nat) : Int) = n := Int.toNat_of_nonneg b2.1
    have ce := cev_bd (s := s) (n := n) (by omega)
    have hg := fun x => fw_good (l := colOf l g.toNat x n.toNat) z5 z4 (by rw [colOf_len]; omega) (fit_col (by omega) (fitB_fit z6) _ _ _)
    simp only [colOf_len, hn] at hg
    have r1 := rows_cols (f := cLo l g.toNat n.toNat s k) (g := g.toNat) (m := (cev s n).toNat) (by omega) (by omega) (fun x hx => by have := (hg x).2.1; unfold cLo; omega)
    have r2 := rows_cols (f := cHi l g.toNat n.toNat s k) (g := g.toNat) (m := (n - cev s n).toNat) (by omega) (by omega) (fun x hx => by have := (hg x).2.2; unfold cHi; omega)
    simp only [ite2_bool]
    rw [if_pos (by simp only [k_ref05_columns_0, z1, z2, z3, z4, z5, z6, decide_true, Bool.and_self]), r1.1, r1.2, r2.1, r2.2]
    rfl
theorem s_ref05_columns : SoundFun Try.prog 43 G_ref05_columns := by
  refine fun_ok (tab := t_ref05_columns) (ann := annOf []) (lt := l_ref05_columns) (tab_cons s_ref04_Forward (tab_cons s_ref05_rows tab_nil)) (by kernel_rfl) (fn := Try.f43) (by kernel_rfl) (by decide) (c := bodyOf Try.f43) (by kernel_rfl) (by
    intro m b hb
    have hb' : b ∈ loopsOf (bodyOf Try.f43) := hb
    rw [o_ref05_columns] at hb'
    simp only [List.mem_cons, List.not_mem_nil, or_false] at hb'
    rcases hb' with rfl | rfl
    · exact loop_ok (key := 3) (by kernel_rfl) rfl r_ref05_columns_0 z_ref05_columns_0 m
    · exact loop_ok (key := 7) (by kernel_rfl) rfl r_ref05_columns_1 z_ref05_columns_1 m
    ) ?_ (keep_nil (by kernel_rfl))
  intro args lent o y0'
  unfold G_ref05_columns at y0'
  obtain ⟨c', args, rfl, y1'⟩ := pO_s y0'
  obtain ⟨l, rfl, y2'⟩ := kLI_s y1'
  obtain ⟨c', args, rfl, y3'⟩ := pO_s y2'
  obtain ⟨g, rfl, y4'⟩ := kI_s y3'
  obtain ⟨c', args, rfl, y5'⟩ := pO_s y4'
  obtain ⟨n, rfl, y6'⟩ := kI_s y5'
  obtain ⟨c', args, rfl, y7'⟩ := pO_s y6'
  obtain ⟨s, rfl, y8'⟩ := kI_s y7'
  obtain ⟨c', args, rfl, y9'⟩ := pO_s y8'
  obtain ⟨k, rfl, y10'⟩ := kI_s y9'
  obtain ⟨rfl, y11'⟩ := pE_s y10'
  obtain ⟨rfl, y12'⟩ := nE_s y11'
  have yy' := y12'
  unfold H_ref05_columns at yy'
  obtain ⟨hok, rfl⟩ := Prod.mk.inj (Option.some.inj yy')
  exact ⟨20, q_ref05_columns _ _ _ _ _ hok⟩
end Go.Rx.Ch05

set_option linter.unusedVariables false
set_option linter.unusedSimpArgs false
set_option maxRecDepth 100000
set_option maxHeartbeats 40000000
open Go Go.Rx Go.Proofs
namespace Go.Rx.Ch05
theorem sl_b (j g : Nat) (hj : j < 4096) (hg : g ≤ 4096) : IntKind.wrap .i64 (IntKind.wrap .i64 ((j : Int) + 1) * (g : Int)) = (((j + 1) * g : Nat) : Int) ∧ IntKind.wrap .i64 ((j : Int) * (g : Int)) = ((j * g : Nat) : Int) ∧ ∀ l : List Int, List.take ((j + 1) * g - j * g) (List.drop (j * g) l) = rowAt l g j := by
  have m1 : (j + 1) * g ≤ 4096 * 4096 := Nat.mul_le_mul (by omega) hg
  have m2 : (j + 1) * g = j * g + g := by rw [Nat.add_mul, Nat.one_mul]
  have e1 : ((j : Int) + 1) * (g : Int) = (((j + 1) * g : Nat) : Int) := by rw [Int.natCast_mul]; rfl
  have e2 : (j : Int) * (g : Int) = ((j * g : Nat) : Int) := (Int.natCast_mul ..).symm
  refine ⟨?_, ?_, fun l => ?_⟩
  · rw [wrap_in (n := (j : Int) + 1) (by omega) (by omega), e1, wrap_in (by omega) (by omega)]
  · rw [e2, wrap_in (by omega) (by omega)]
  · rw [show (j + 1) * g - j * g = g by omega]; rfl
theorem sl_in {l g n j : Nat} (hl : l = n * g) (hj : j < n) : (j + 1) * g ≤ l ∧ j * g ≤ (j + 1) * g := by
  have m1 : (j + 1) * g ≤ n * g := Nat.mul_le_mul_right _ (by omega)
  have m2 : (j + 1) * g = j * g + g := by rw [Nat.add_mul, Nat.one_mul]
  omega
theorem bw_bh {a b c d : Int} (h : valid a b c d = true) : bw a b c d 0 = (cev a (c - a)).toNat ∧ bw a b c d 1 = ((c - a) - cev a (c - a)).toNat ∧ bh a b c d 0 = (cev b (d - b)).toNat ∧ bh a b c d 1 = (cev b (d - b)).toNat ∧ bh a b c d 2 = ((d - b) - cev b (d - b)).toNat ∧ bh a b c d 3 = ((d - b) - cev b (d - b)).toNat := by
  have hb := bnd_v h
  simp only [bw, bh, hb.1, hb.2.1, hb.2.2.1, hb.2.2.2, cev]
  refine ⟨?_, ?_, ?_, ?_, ?_, ?_⟩ <;> omega
theorem r_ref05_Split_0 : RoundOk Try.prog t_ref05_Split (annOf []) l_ref05_Split Out 20 0 132 [1, 2, 4, 6, 7, 8, 9, 10] (kxOf [1, 2, 4, 7, 8, 9] [4, 5]) (loopOf Try.f15 0) T_ref05_Split_0 := by
  intro vs bl Kc r h
  unfold T_ref05_Split_0 at h
  obtain ⟨t, y0', h'⟩ := getD_run h
  obtain ⟨c', vs, rfl, y1'⟩ := pO_s y0'
  obtain ⟨kk, rfl, y2'⟩ := kI_s y1'
  obtain ⟨c', vs, rfl, y3'⟩ := pO_s y2'
  obtain ⟨rfl, y4'⟩ := kP_s y3'
  obtain ⟨c', vs, rfl, y5'⟩ := pO_s y4'
  obtain ⟨rfl, y6'⟩ := kP_s y5'
  obtain ⟨c', vs, rfl, y7'⟩ := pO_s y6'
  obtain ⟨g, rfl, y8'⟩ := kI_s y7'
  obtain ⟨c', vs, rfl, y9'⟩ := pO_s y8'
  obtain ⟨n, rfl, y10'⟩ := kI_s y9'
  obtain ⟨c', vs, rfl, y11'⟩ := pO_s y10'
  obtain ⟨rfl, y12'⟩ := kR_s y11'
  obtain ⟨c', vs, rfl, y13'⟩ := pO_s y12'
  obtain ⟨rfl, y14'⟩ := kR_s y13'
  obtain ⟨c', vs, rfl, y15'⟩ := pO_s y14'
  obtain ⟨y, rfl, y16'⟩ := kI_s y15'
  obtain ⟨rfl, y17'⟩ := pE_s y16'
  obtain ⟨q', bl, rfl, y18'⟩ := bB_s y17'
  obtain ⟨c', q', rfl, y19'⟩ := tC_s y18'
  obtain ⟨a, rfl, y20'⟩ := kI_s y19'
  obtain ⟨c', q', rfl, y21'⟩ := tC_s y20'
  obtain ⟨b, rfl, y22'⟩ := kI_s y21'
  obtain ⟨c', q', rfl, y23'⟩ := tC_s y22'
  obtain ⟨c, rfl, y24'⟩ := kI_s y23'
  obtain ⟨c', q', rfl, y25'⟩ := tC_s y24'
  obtain ⟨d, rfl, y26'⟩ := kI_s y25'
  obtain ⟨c', q', rfl, y27'⟩ := tC_s y26'
  obtain ⟨l, rfl, y28'⟩ := kLI_s y27'
  obtain ⟨rfl, y29'⟩ := tE_s y28'
  obtain ⟨q', bl, rfl, y30'⟩ := bB_s y29'
  obtain ⟨ua0, ub0, uc0, ud0, ua1, ub1, uc1, ud1, ua2, ub2, uc2, ud2, ua3, ub3, uc3, ud3, rfl, y31'⟩ := rd4P_s y30'
  obtain ⟨h0, bl, rfl, y32'⟩ := bAI_s y31'
  obtain ⟨h1, bl, rfl, y33'⟩ := bAI_s y32'
  obtain ⟨y0, bl, rfl, y34'⟩ := bAI_s y33'
  obtain ⟨y1, bl, rfl, y35'⟩ := bAI_s y34'
  obtain ⟨y2, bl, rfl, y36'⟩ := bAI_s y35'
  obtain ⟨y3, bl, rfl, y37'⟩ := bAI_s y36'
  obtain ⟨rfl, y38'⟩ := bE_s y37'
  have yy' := y38'
  cases yy'
  exact (b_ref05_Split_0 ..).trans ((congrArg (LT.runc · Kc) (tu_ref05_Split_0 ..)).trans h')
theorem o_ref05_Split : loopsOf (bodyOf Try.f15) = [loopOf Try.f15 0, loopOf Try.f15 1] := by kernel_rfl
theorem zz_ref05_Split_0 (a b c d kk ua0 ub0 uc0 ud0 ua1 ub1 uc1 ud1 ua2 ub2 uc2 ud2 ua3 ub3 uc3 ud3 g n y : Int) (l y0 y1 y2 y3 h0 h1 : List Int) (hk : k_ref05_Split_0 a b c d kk ua0 ub0 uc0 ud0 ua1 ub1 uc1 ud1 ua2 ub2 uc2 ud2 ua3 ub3 uc3 ud3 g n y l y0 y1 y2 y3 h0 h1 = true) : ∃ k, ∀ (K : Ex → List V → List (Option Blk) → Option Out) r, (c_ref05_Split_0 a b c d kk ua0 ub0 uc0 ud0 ua1 ub1 uc1 ud1 ua2 ub2 uc2 ud2 ua3 ub3 uc3 ud3 g n y l y0 y1 y2 y3 h0 h1).run K = some r → (iter T_ref05_Split_0 k [.one (.int .i64 kk), .one (.ptr 0 0), .one (.ptr 1 0), .one (.int .i64 g), .one (.int .i64 n), .one (.row 2), .one (.row 3), .one (.int .i64 y)] [some (.box [.int .i64 a, .int .i64 b, .int .i64 c, .int .i64 d, .lst (.int .i64) l]), some (.box [.int .i64 ua0, .int .i64 ub0, .int .i64 uc0, .int .i64 ud0, .row 4, .int .i64 ua1, .int .i64 ub1, .int .i64 uc1, .int .i64 ud1, .row 5, .int .i64 ua2, .int .i64 ub2, .int .i64 uc2, .int .i64 ud2, .row 6, .int .i64 ua3, .int .i64 ub3, .int .i64 uc3, .int .i64 ud3, .row 7]), some (.arr 3 (.int .i64) h0), some (.arr 3 (.int .i64) h1), some (.arr 3 (.int .i64) y0), some (.arr 3 (.int .i64) y1), some (.arr 3 (.int .i64) y2), some (.arr 3 (.int .i64) y3)]).run K = some r := by
  simp only [k_ref05_Split_0, Bool.and_eq_true, decide_eq_true_eq] at hk
  obtain ⟨⟨⟨⟨⟨⟨⟨rfl, rfl⟩, rfl⟩, hv⟩, z1⟩, z2⟩, t1⟩, t2⟩ := hk
  have pb := plV_b hv
  have hf : fit 281474976710656 l := fit_mono (fitB_fit z2) (by omega)
  obtain ⟨w', hw⟩ : ∃ w' : Nat, c - a = w' := ⟨(c - a).toNat, by omega⟩
  obtain ⟨n', hn⟩ : ∃ n' : Nat, d - b = n' := ⟨(d - b).toNat, by omega⟩
  have e5 : (c - a).toNat = w' := by omega
  have e6 : (d - b).toNat = n' := by omega
  rw [hw] at t1
  rw [hn] at t2
  subst t1 t2
  have hll : l.length = n' * w' := by have := plV_len hv; rw [e5, e6] at this; exact this
  have ha : inr 0 4096 a = true := inr_t (by omega) (by omega)
  have ce := cev_bd (s := a) (n := (w' : Int)) (by omega)
  have hg := fun j (hj : j < n') => fw_good (l := rowAt l w' j) z1 ha (by rw [rowAt_len hll hj]; omega) (fit_row hf _ _)
  have hlo := fun j (hj : j ≤ n') => catR_len (f := rLo l w' a kk) (g := (cev a w').toNat) j (fun q hq => by have := (hg q (by omega)).2.1; rw [rowAt_len hll (by omega)] at this; unfold rLo; omega)
  have hhi := fun j (hj : j ≤ n') => catR_len (f := rHi l w' a kk) (g := (w' - cev a w').toNat) j (fun q hq => by have := (hg q (by omega)).2.2; rw [rowAt_len hll (by omega)] at this; unfold rHi; omega)
  refine Exists.elim (z_fold (T := T_ref05_Split_0) (st := fun j => ([.one (.int .i64 kk), .one (.ptr 0 0), .one (.ptr 1 0), .one (.int .i64 (w' : Int)), .one (.int .i64 (n' : Int)), .one (.row 2), .one (.row 3), .one (.int .i64 (j : Int))], [some (.box [.int .i64 a, .int .i64 b, .int .i64 c, .int .i64 d, .lst (.int .i64) l]), some (.box [.int .i64 ua0, .int .i64 ub0, .int .i64 uc0, .int .i64 ud0, .row 4, .int .i64 ua1, .int .i64 ub1, .int .i64 uc1, .int .i64 ud1, .row 5, .int .i64 ua2, .int .i64 ub2, .int .i64 uc2, .int .i64 ud2, .row 6, .int .i64 ua3, .int .i64 ub3, .int .i64 uc3, .int .i64 ud3, .row 7]), some (.arr 3 (.int .i64) (catR (rLo l w' a kk) j)), some (.arr 3 (.int .i64) (catR (rHi l w' a kk) j)), some (.arr 3 (.int .i64) y0), some (.arr 3 (.int .i64) y1), some (.arr 3 (.int .i64) y2), some (.arr 3 (.int .i64) y3)])) n' (.leaf (.exit 0) [.one (.int .i64 kk), .one (.ptr 0 0), .one (.ptr 1 0), .one (.int .i64 (n' : Int)), .one (.row 2), .one (.row 3)] [some (.box [.int .i64 a, .int .i64 b, .int .i64 c, .int .i64 d, .lst (.int .i64) l]), some (.box [.int .i64 ua0, .int .i64 ub0, .int .i64 uc0, .int .i64 ud0, .row 4, .int .i64 ua1, .int .i64 ub1, .int .i64 uc1, .int .i64 ud1, .row 5, .int .i64 ua2, .int .i64 ub2, .int .i64 uc2, .int .i64 ud2, .row 6, .int .i64 ua3, .int .i64 ub3, .int .i64 uc3, .int .i64 ud3, .row 7]), some (.arr 3 (.int .i64) (catR (rLo l w' a kk) n')), some (.arr 3 (.int .i64) (catR (rHi l w' a kk) n')), some (.arr 3 (.int .i64) y0), some (.arr 3 (.int .i64) y1), some (.arr 3 (.int .i64) y2), some (.arr 3 (.int .i64) y3)]) (fun j hj F K => ?_) (fun F K => ?_)) (fun k hk => ⟨k, fun K r h => ?_⟩)
  · have hg' := hg j hj
    have hl1 := hlo j (by omega)
    have hl2 := hhi j (by omega)
    have hl3 := hlo (j + 1) (by omega)
    have hl4 := hhi (j + 1) (by omega)
    have m1 : (j + 1) * (cev a w').toNat ≤ 4096 * 4096 := Nat.mul_le_mul (by omega) (by omega)
    have m2 : (j + 1) * (w' - cev a w').toNat ≤ 4096 * 4096 := Nat.mul_le_mul (by omega) (by omega)
    have sb := sl_b j w' (by omega) (by omega)
    have si := sl_in hll hj
    simp only [catR, List.length_append] at hl3 hl4
    simp only [tu_ref05_Split_0, U_ref05_Split_0, LT.next, LT.run, ite2_bool, decide_eq_true_eq, sb.1, sb.2.1, Int.toNat_natCast, sb.2.2, Bool.and_eq_true]
    rw [if_pos (by omega), if_pos (by omega), if_pos (small_of (by rw [rowAt_len hll hj]; omega)), if_pos (by unfold rLo at hl3 ⊢; omega), if_pos (by unfold rHi at hl4 ⊢; omega), wrap_in (n := (j : Int) + 1) (by omega) (by omega), show (j : Int) + 1 = ((j + 1 : Nat) : Int) by omega]
    rfl
  · simp only [tu_ref05_Split_0, U_ref05_Split_0, LT.next, LT.run, ite2_bool, decide_eq_true_eq]
    rw [if_neg (by omega)]
  · unfold c_ref05_Split_0 sLo sHi at h
    rw [e5, e6] at h
    exact hk K r h
theorem z_ref05_Split_0 : ∀ vs bl t, S_ref05_Split_0 vs bl = some (true, t) → ∃ n, ∀ (K : Ex → List V → List (Option Blk) → Option Out) r, t.run K = some r → (iter T_ref05_Split_0 n vs bl).run K = some r := by
  intro vs bl t y0'
  unfold S_ref05_Split_0 at y0'
  obtain ⟨c', vs, rfl, y1'⟩ := pO_s y0'
  obtain ⟨kk, rfl, y2'⟩ := kI_s y1'
  obtain ⟨c', vs, rfl, y3'⟩ := pO_s y2'
  obtain ⟨rfl, y4'⟩ := kP_s y3'
  obtain ⟨c', vs, rfl, y5'⟩ := pO_s y4'
  obtain ⟨rfl, y6'⟩ := kP_s y5'
  obtain ⟨c', vs, rfl, y7'⟩ := pO_s y6'
  obtain ⟨g, rfl, y8'⟩ := kI_s y7'
  obtain ⟨c', vs, rfl, y9'⟩ := pO_s y8'
  obtain ⟨n, rfl, y10'⟩ := kI_s y9'
  obtain ⟨c', vs, rfl, y11'⟩ := pO_s y10'
  obtain ⟨rfl, y12'⟩ := kR_s y11'
  obtain ⟨c', vs, rfl, y13'⟩ := pO_s y12'
  obtain ⟨rfl, y14'⟩ := kR_s y13'
  obtain ⟨c', vs, rfl, y15'⟩ := pO_s y14'
  obtain ⟨y, rfl, y16'⟩ := kI_s y15'
  obtain ⟨rfl, y17'⟩ := pE_s y16'
  obtain ⟨q', bl, rfl, y18'⟩ := bB_s y17'
  obtain ⟨c', q', rfl, y19'⟩ := tC_s y18'
  obtain ⟨a, rfl, y20'⟩ := kI_s y19'
  obtain ⟨c', q', rfl, y21'⟩ := tC_s y20'
  obtain ⟨b, rfl, y22'⟩ := kI_s y21'
  obtain ⟨c', q', rfl, y23'⟩ := tC_s y22'
  obtain ⟨c, rfl, y24'⟩ := kI_s y23'
  obtain ⟨c', q', rfl, y25'⟩ := tC_s y24'
  obtain ⟨d, rfl, y26'⟩ := kI_s y25'
  obtain ⟨c', q', rfl, y27'⟩ := tC_s y26'
  obtain ⟨l, rfl, y28'⟩ := kLI_s y27'
  obtain ⟨rfl, y29'⟩ := tE_s y28'
  obtain ⟨q', bl, rfl, y30'⟩ := bB_s y29'
  obtain ⟨ua0, ub0, uc0, ud0, ua1, ub1, uc1, ud1, ua2, ub2, uc2, ud2, ua3, ub3, uc3, ud3, rfl, y31'⟩ := rd4P_s y30'
  obtain ⟨h0, bl, rfl, y32'⟩ := bAI_s y31'
  obtain ⟨h1, bl, rfl, y33'⟩ := bAI_s y32'
  obtain ⟨y0, bl, rfl, y34'⟩ := bAI_s y33'
  obtain ⟨y1, bl, rfl, y35'⟩ := bAI_s y34'
  obtain ⟨y2, bl, rfl, y36'⟩ := bAI_s y35'
  obtain ⟨y3, bl, rfl, y37'⟩ := bAI_s y36'
  obtain ⟨rfl, y38'⟩ := bE_s y37'
  have yy' := y38'
  obtain ⟨hk, rfl⟩ := Prod.mk.inj (Option.some.inj yy')
  exact zz_ref05_Split_0 _ _ _ _ _ _ _ _ _ _ _ _ _ _ _ _ _ _ _ _ _ _ _ _ _ _ _ _ _ _ _ hk
theorem q_ref05_Split (a b c d k : Int) (l : List Int) (hok : small l.length = true) : funR Try.prog t_ref05_Split (annOf []) l_ref05_Split 20 Try.f15 [.agg [.int .i64 a, .int .i64 b, .int .i64 c, .int .i64 d, .lst (.int .i64) l], .one (.int .i64 k)] [] = some ⟨.tup [(true, [.int .i64 ((spR a b c d k l 0).1), .int .i64 ((spR a b c d k l 0).2.1), .int .i64 ((spR a b c d k l 0).2.2.1), .int .i64 ((spR a b c d k l 0).2.2.2), .row 0, .int .i64 ((spR a b c d k l 1).1), .int .i64 ((spR a b c d k l 1).2.1), .int .i64 ((spR a b c d k l 1).2.2.1), .int .i64 ((spR a b c d k l 1).2.2.2), .row 1, .int .i64 ((spR a b c d k l 2).1), .int .i64 ((spR a b c d k l 2).2.1), .int .i64 ((spR a b c d k l 2).2.2.1), .int .i64 ((spR a b c d k l 2).2.2.2), .row 2, .int .i64 ((spR a b c d k l 3).1), .int .i64 ((spR a b c d k l 3).2.1), .int .i64 ((spR a b c d k l 3).2.2.1), .int .i64 ((spR a b c d k l 3).2.2.2), .row 3]), (false, [.int .i64 (spErr a b c d k l)])], [], [.arr 3 (.int .i64) (spD0 a b c d k l), .arr 3 (.int .i64) (spD1 a b c d k l), .arr 3 (.int .i64) (spD2 a b c d k l), .arr 3 (.int .i64) (spD3 a b c d k l)]⟩ := by
    refine (e_ref05_Split ..).trans ?_
    simp only [ite2_bool]
    cases hv : plV a b c d l
    · simp [spErr, spR, spD0, spD1, spD2, spD3, hv]
    cases hk : inr 1 3 k
    · simp [spErr, spR, spD0, spD1, spD2, spD3, hv, hk]
    cases hf : fitB 35184372088832 l
    · simp [spErr, spR, spD0, spD1, spD2, spD3, hv, hk, hf, hok]
    have pb := plV_b hv
    have e : spErr a b c d k l = 0 := by simp [spErr, hv, hk, hf]
    have ho := half_ok hv hk (fitB_fit hf)
    have hb := bnd_v pb.1
    have wb := bw_bh pb.1
    have hs : inr 0 4096 b = true := inr_t (by omega) (by omega)
    have hn : inr 0 4096 (d - b) = true := inr_t (by omega) (by omega)
    have ce := cev_bd (s := a) (n := c - a) (by omega)
    have x0 : (bnd a b c d 0).2.2.1 - (bnd a b c d 0).1 = cev a (c - a) := by simp only [hb.1, cev]; omega
    have x1 : (bnd a b c d 1).2.2.1 - (bnd a b c d 1).1 = (c - a) - cev a (c - a) := by simp only [hb.2.1, cev]; omega
    have W0 : IntKind.wrap .i64 ((bnd a b c d 0).2.2.1 - (bnd a b c d 0).1) = cev a (c - a) := by rw [x0, wrap_in (by omega) (by omega)]
    have W1 : IntKind.wrap .i64 ((bnd a b c d 1).2.2.1 - (bnd a b c d 1).1) = (c - a) - cev a (c - a) := by rw [x1, wrap_in (by omega) (by omega)]
    have Wn : IntKind.wrap .i64 (d - b) = d - b := wrap_in (by omega) (by omega)
    have Wg : IntKind.wrap .i64 (c - a) = c - a := wrap_in (by omega) (by omega)
    simp only [W0, W1, Wn, Wg, hok, Bool.and_true, if_true, Bool.not_true, Bool.false_eq_true, if_false]
    rw [if_pos (by simp only [k_ref05_Split_0, hv, hk, hf, decide_true, Bool.and_self]), if_pos (by simp only [hn, hs, hk, fit_fitB ho.2.2.1, inr_t (a := 0) (b := 4096) (x := cev a (c - a)) (by omega) (by omega), Bool.true_and, Bool.and_true, decide_eq_true_eq]; rw [ho.1, Int.mul_comm]), if_pos (by simp only [hn, hs, hk, fit_fitB ho.2.2.2, inr_t (a := 0) (b := 4096) (x := (c - a) - cev a (c - a)) (by omega) (by omega), Bool.true_and, Bool.and_true, decide_eq_true_eq]; rw [ho.2.1, Int.mul_comm])]
    simp only [spR, spD0, spD1, spD2, spD3, e, if_true, wb.1, wb.2.1, wb.2.2.1, wb.2.2.2.1, wb.2.2.2.2.1, wb.2.2.2.2.2]
theorem s_ref05_Split : SoundFun Try.prog 15 G_ref05_Split := by
  refine fun_ok (tab := t_ref05_Split) (ann := annOf []) (lt := l_ref05_Split) (tab_cons s_ref05_Bands (tab_cons s_ref02_Valid (tab_cons s_ref05_Known (tab_cons s_ref05_Above (tab_cons s_ref04_Forward (tab_cons s_ref05_columns tab_nil)))))) (by kernel_rfl) (fn := Try.f15) (by kernel_rfl) (by decide) (c := bodyOf Try.f15) (by kernel_rfl) (by
    intro m b hb
    have hb' : b ∈ loopsOf (bodyOf Try.f15) := hb
    rw [o_ref05_Split] at hb'
    simp only [List.mem_cons, List.not_mem_nil, or_false] at hb'
    rcases hb' with rfl | rfl
    · exact loop_ok (key := 10) (by kernel_rfl) rfl r_ref05_Split_0 z_ref05_Split_0 m
    · exact loop_none (by kernel_rfl) m
    ) ?_ (keep_nil (by kernel_rfl))
  intro args lent o y0'
  unfold G_ref05_Split at y0'
  obtain ⟨q', args, rfl, y1'⟩ := pA_s y0'
  obtain ⟨c', q', rfl, y2'⟩ := tC_s y1'
  obtain ⟨a, rfl, y3'⟩ := kI_s y2'
  obtain ⟨c', q', rfl, y4'⟩ := tC_s y3'
  obtain ⟨b, rfl, y5'⟩ := kI_s y4'
  obtain ⟨c', q', rfl, y6'⟩ := tC_s y5'
  obtain ⟨c, rfl, y7'⟩ := kI_s y6'
  obtain ⟨c', q', rfl, y8'⟩ := tC_s y7'
  obtain ⟨d, rfl, y9'⟩ := kI_s y8'
  obtain ⟨c', q', rfl, y10'⟩ := tC_s y9'
  obtain ⟨l, rfl, y11'⟩ := kLI_s y10'
  obtain ⟨rfl, y12'⟩ := tE_s y11'
  obtain ⟨c', args, rfl, y13'⟩ := pO_s y12'
  obtain ⟨k, rfl, y14'⟩ := kI_s y13'
  obtain ⟨rfl, y15'⟩ := pE_s y14'
  obtain ⟨rfl, y16'⟩ := nE_s y15'
  have yy' := y16'
  unfold H_ref05_Split at yy'
  obtain ⟨hok, rfl⟩ := Prod.mk.inj (Option.some.inj yy')
  exact ⟨20, q_ref05_Split _ _ _ _ _ _ hok⟩
theorem r_ref05_restore_0 : RoundOk Try.prog t_ref05_restore (annOf []) l_ref05_restore Out 20 0 81 [2, 3, 4, 5, 9, 10, 11] (kxOf [10] [8]) (loopOf Try.f46 0) T_ref05_restore_0 := by
  intro vs bl Kc r h
  unfold T_ref05_restore_0 at h
  obtain ⟨t, y0', h'⟩ := getD_run h
  obtain ⟨c', vs, rfl, y1'⟩ := pO_s y0'
  obtain ⟨s, rfl, y2'⟩ := kI_s y1'
  obtain ⟨c', vs, rfl, y3'⟩ := pO_s y2'
  obtain ⟨kk, rfl, y4'⟩ := kI_s y3'
  obtain ⟨c', vs, rfl, y5'⟩ := pO_s y4'
  obtain ⟨rfl, y6'⟩ := kP_s y5'
  obtain ⟨c', vs, rfl, y7'⟩ := pO_s y6'
  obtain ⟨rfl, y8'⟩ := kP_s y7'
  obtain ⟨c', vs, rfl, y9'⟩ := pO_s y8'
  obtain ⟨g, rfl, y10'⟩ := kI_s y9'
  obtain ⟨c', vs, rfl, y11'⟩ := pO_s y10'
  obtain ⟨rfl, y12'⟩ := kR_s y11'
  obtain ⟨c', vs, rfl, y13'⟩ := pO_s y12'
  obtain ⟨x, rfl, y14'⟩ := kI_s y13'
  obtain ⟨rfl, y15'⟩ := pE_s y14'
  obtain ⟨q', bl, rfl, y16'⟩ := bB_s y15'
  obtain ⟨c', q', rfl, y17'⟩ := tC_s y16'
  obtain ⟨a, rfl, y18'⟩ := kI_s y17'
  obtain ⟨c', q', rfl, y19'⟩ := tC_s y18'
  obtain ⟨b, rfl, y20'⟩ := kI_s y19'
  obtain ⟨c', q', rfl, y21'⟩ := tC_s y20'
  obtain ⟨c, rfl, y22'⟩ := kI_s y21'
  obtain ⟨c', q', rfl, y23'⟩ := tC_s y22'
  obtain ⟨d, rfl, y24'⟩ := kI_s y23'
  obtain ⟨c', q', rfl, y25'⟩ := tC_s y24'
  obtain ⟨l, rfl, y26'⟩ := kLI_s y25'
  obtain ⟨rfl, y27'⟩ := tE_s y26'
  obtain ⟨q', bl, rfl, y28'⟩ := bB_s y27'
  obtain ⟨c', q', rfl, y29'⟩ := tC_s y28'
  obtain ⟨a1, rfl, y30'⟩ := kI_s y29'
  obtain ⟨c', q', rfl, y31'⟩ := tC_s y30'
  obtain ⟨b1, rfl, y32'⟩ := kI_s y31'
  obtain ⟨c', q', rfl, y33'⟩ := tC_s y32'
  obtain ⟨c1, rfl, y34'⟩ := kI_s y33'
  obtain ⟨c', q', rfl, y35'⟩ := tC_s y34'
  obtain ⟨d1, rfl, y36'⟩ := kI_s y35'
  obtain ⟨c', q', rfl, y37'⟩ := tC_s y36'
  obtain ⟨m, rfl, y38'⟩ := kLI_s y37'
  obtain ⟨rfl, y39'⟩ := tE_s y38'
  obtain ⟨p, bl, rfl, y40'⟩ := bAJ_s y39'
  obtain ⟨rfl, y41'⟩ := bE_s y40'
  have yy' := y41'
  cases yy'
  exact (b_ref05_restore_0 ..).trans ((congrArg (LT.runc · Kc) (tu_ref05_restore_0 ..)).trans h')
theorem r_ref05_restore_1 : RoundOk Try.prog t_ref05_restore (annOf []) l_ref05_restore Out 20 0 81 [2, 3, 4, 5, 9, 10, 11, 12, 13, 14] (kxOf [2, 3, 4, 5, 9, 10, 11, 12, 13] [8]) (loopOf Try.f46 1) T_ref05_restore_1 := by
  intro vs bl Kc r h
  unfold T_ref05_restore_1 at h
  obtain ⟨t, y0', h'⟩ := getD_run h
  obtain ⟨c', vs, rfl, y1'⟩ := pO_s y0'
  obtain ⟨s, rfl, y2'⟩ := kI_s y1'
  obtain ⟨c', vs, rfl, y3'⟩ := pO_s y2'
  obtain ⟨kk, rfl, y4'⟩ := kI_s y3'
  obtain ⟨c', vs, rfl, y5'⟩ := pO_s y4'
  obtain ⟨rfl, y6'⟩ := kP_s y5'
  obtain ⟨c', vs, rfl, y7'⟩ := pO_s y6'
  obtain ⟨rfl, y8'⟩ := kP_s y7'
  obtain ⟨c', vs, rfl, y9'⟩ := pO_s y8'
  obtain ⟨g, rfl, y10'⟩ := kI_s y9'
  obtain ⟨c', vs, rfl, y11'⟩ := pO_s y10'
  obtain ⟨rfl, y12'⟩ := kR_s y11'
  obtain ⟨c', vs, rfl, y13'⟩ := pO_s y12'
  obtain ⟨x, rfl, y14'⟩ := kI_s y13'
  obtain ⟨c', vs, rfl, y15'⟩ := pO_s y14'
  obtain ⟨rfl, y16'⟩ := kR_s y15'
  obtain ⟨c', vs, rfl, y17'⟩ := pO_s y16'
  obtain ⟨rfl, y18'⟩ := kR_s y17'
  obtain ⟨c', vs, rfl, y19'⟩ := pO_s y18'
  obtain ⟨i, rfl, y20'⟩ := kI_s y19'
  obtain ⟨rfl, y21'⟩ := pE_s y20'
  obtain ⟨q', bl, rfl, y22'⟩ := bB_s y21'
  obtain ⟨c', q', rfl, y23'⟩ := tC_s y22'
  obtain ⟨a, rfl, y24'⟩ := kI_s y23'
  obtain ⟨c', q', rfl, y25'⟩ := tC_s y24'
  obtain ⟨b, rfl, y26'⟩ := kI_s y25'
  obtain ⟨c', q', rfl, y27'⟩ := tC_s y26'
  obtain ⟨c, rfl, y28'⟩ := kI_s y27'
  obtain ⟨c', q', rfl, y29'⟩ := tC_s y28'
  obtain ⟨d, rfl, y30'⟩ := kI_s y29'
  obtain ⟨c', q', rfl, y31'⟩ := tC_s y30'
  obtain ⟨l, rfl, y32'⟩ := kLI_s y31'
  obtain ⟨rfl, y33'⟩ := tE_s y32'
  obtain ⟨q', bl, rfl, y34'⟩ := bB_s y33'
  obtain ⟨c', q', rfl, y35'⟩ := tC_s y34'
  obtain ⟨a1, rfl, y36'⟩ := kI_s y35'
  obtain ⟨c', q', rfl, y37'⟩ := tC_s y36'
  obtain ⟨b1, rfl, y38'⟩ := kI_s y37'
  obtain ⟨c', q', rfl, y39'⟩ := tC_s y38'
  obtain ⟨c1, rfl, y40'⟩ := kI_s y39'
  obtain ⟨c', q', rfl, y41'⟩ := tC_s y40'
  obtain ⟨d1, rfl, y42'⟩ := kI_s y41'
  obtain ⟨c', q', rfl, y43'⟩ := tC_s y42'
  obtain ⟨m, rfl, y44'⟩ := kLI_s y43'
  obtain ⟨rfl, y45'⟩ := tE_s y44'
  obtain ⟨p, bl, rfl, y46'⟩ := bAJ_s y45'
  obtain ⟨v, bl, rfl, y47'⟩ := bAI_s y46'
  obtain ⟨u, bl, rfl, y48'⟩ := bAI_s y47'
  obtain ⟨rfl, y49'⟩ := bE_s y48'
  have yy' := y49'
  cases yy'
  exact (b_ref05_restore_1 ..).trans ((congrArg (LT.runc · Kc) (tu_ref05_restore_1 ..)).trans h')
theorem r_ref05_restore_2 : RoundOk Try.prog t_ref05_restore (annOf []) l_ref05_restore Out 20 0 81 [2, 3, 4, 5, 9, 10, 11, 12, 13, 15] (kxOf [2, 3, 4, 5, 9, 10, 11, 12, 13] [8]) (loopOf Try.f46 2) T_ref05_restore_2 := by
  intro vs bl Kc r h
  unfold T_ref05_restore_2 at h
  obtain ⟨t, y0', h'⟩ := getD_run h
  obtain ⟨c', vs, rfl, y1'⟩ := pO_s y0'
  obtain ⟨s, rfl, y2'⟩ := kI_s y1'
  obtain ⟨c', vs, rfl, y3'⟩ := pO_s y2'
  obtain ⟨kk, rfl, y4'⟩ := kI_s y3'
  obtain ⟨c', vs, rfl, y5'⟩ := pO_s y4'
  obtain ⟨rfl, y6'⟩ := kP_s y5'
  obtain ⟨c', vs, rfl, y7'⟩ := pO_s y6'
  obtain ⟨rfl, y8'⟩ := kP_s y7'
  obtain ⟨c', vs, rfl, y9'⟩ := pO_s y8'
  obtain ⟨g, rfl, y10'⟩ := kI_s y9'
  obtain ⟨c', vs, rfl, y11'⟩ := pO_s y10'
  obtain ⟨rfl, y12'⟩ := kR_s y11'
  obtain ⟨c', vs, rfl, y13'⟩ := pO_s y12'
  obtain ⟨x, rfl, y14'⟩ := kI_s y13'
  obtain ⟨c', vs, rfl, y15'⟩ := pO_s y14'
  obtain ⟨rfl, y16'⟩ := kR_s y15'
  obtain ⟨c', vs, rfl, y17'⟩ := pO_s y16'
  obtain ⟨rfl, y18'⟩ := kR_s y17'
  obtain ⟨c', vs, rfl, y19'⟩ := pO_s y18'
  obtain ⟨i, rfl, y20'⟩ := kI_s y19'
  obtain ⟨rfl, y21'⟩ := pE_s y20'
  obtain ⟨q', bl, rfl, y22'⟩ := bB_s y21'
  obtain ⟨c', q', rfl, y23'⟩ := tC_s y22'
  obtain ⟨a, rfl, y24'⟩ := kI_s y23'
  obtain ⟨c', q', rfl, y25'⟩ := tC_s y24'
  obtain ⟨b, rfl, y26'⟩ := kI_s y25'
  obtain ⟨c', q', rfl, y27'⟩ := tC_s y26'
  obtain ⟨c, rfl, y28'⟩ := kI_s y27'
  obtain ⟨c', q', rfl, y29'⟩ := tC_s y28'
  obtain ⟨d, rfl, y30'⟩ := kI_s y29'
  obtain ⟨c', q', rfl, y31'⟩ := tC_s y30'
  obtain ⟨l, rfl, y32'⟩ := kLI_s y31'
  obtain ⟨rfl, y33'⟩ := tE_s y32'
  obtain ⟨q', bl, rfl, y34'⟩ := bB_s y33'
  obtain ⟨c', q', rfl, y35'⟩ := tC_s y34'
  obtain ⟨a1, rfl, y36'⟩ := kI_s y35'
  obtain ⟨c', q', rfl, y37'⟩ := tC_s y36'
  obtain ⟨b1, rfl, y38'⟩ := kI_s y37'
  obtain ⟨c', q', rfl, y39'⟩ := tC_s y38'
  obtain ⟨c1, rfl, y40'⟩ := kI_s y39'
  obtain ⟨c', q', rfl, y41'⟩ := tC_s y40'
  obtain ⟨d1, rfl, y42'⟩ := kI_s y41'
  obtain ⟨c', q', rfl, y43'⟩ := tC_s y42'
  obtain ⟨m, rfl, y44'⟩ := kLI_s y43'
  obtain ⟨rfl, y45'⟩ := tE_s y44'
  obtain ⟨p, bl, rfl, y46'⟩ := bAJ_s y45'
  obtain ⟨v, bl, rfl, y47'⟩ := bAI_s y46'
  obtain ⟨u, bl, rfl, y48'⟩ := bAI_s y47'
  obtain ⟨rfl, y49'⟩ := bE_s y48'
  have yy' := y49'
  cases yy'
  exact (b_ref05_restore_2 ..).trans ((congrArg (LT.runc · Kc) (tu_ref05_restore_2 ..)).trans h')
theorem o_ref05_restore : loopsOf (bodyOf Try.f46) = [loopOf Try.f46 0, loopOf Try.f46 1, loopOf Try.f46 2] := by kernel_rfl
theorem zz_ref05_restore_0 (a b c d a1 b1 c1 d1 s kk g x : Int) (l m : List Int) (p : List (List Int)) (hk : k_ref05_restore_0 a b c d a1 b1 c1 d1 s kk g x l m p = true) : ∃ k, ∀ (K : Ex → List V → List (Option Blk) → Option Out) r, (c_ref05_restore_0 a b c d a1 b1 c1 d1 s kk g x l m p).run K = some r → (iter T_ref05_restore_0 k [.one (.int .i64 s), .one (.int .i64 kk), .one (.ptr 0 0), .one (.ptr 1 0), .one (.int .i64 g), .one (.row 2), .one (.int .i64 x)] [some (.box [.int .i64 a, .int .i64 b, .int .i64 c, .int .i64 d, .lst (.int .i64) l]), some (.box [.int .i64 a1, .int .i64 b1, .int .i64 c1, .int .i64 d1, .lst (.int .i64) m]), some (.arr 28 (.sl (.int .i64)) p)]).run K = some r := by
  simp only [k_ref05_restore_0, Bool.and_eq_true, decide_eq_true_eq] at hk
  obtain ⟨⟨⟨rfl, rfl⟩, t1⟩, ⟨⟨⟨⟨⟨⟨⟨⟨v1, v2⟩, z1⟩, z2⟩, f1⟩, f2⟩, t2⟩, z3⟩, t3⟩⟩ := hk
  have pb1 := plV_b v1
  have pb2 := plV_b v2
  obtain ⟨w', hw⟩ : ∃ w' : Nat, c - a = w' := ⟨(c - a).toNat, by omega⟩
  have e5 : (c - a).toNat = w' := by omega
  rw [hw] at t1
  subst t1
  simp only [c_ref05_restore_0, e5]
  refine Exists.elim (z_fold (T := T_ref05_restore_0) (st := fun j => ([.one (.int .i64 s), .one (.int .i64 kk), .one (.ptr 0 0), .one (.ptr 1 0), .one (.int .i64 (w' : Int)), .one (.row 2), .one (.int .i64 (j : Int))], [some (.box [.int .i64 a, .int .i64 b, .int .i64 c, .int .i64 d, .lst (.int .i64) l]), some (.box [.int .i64 a1, .int .i64 b1, .int .i64 c1, .int .i64 d1, .lst (.int .i64) m]), some (.arr 28 (.sl (.int .i64)) (colsL (mgCol l m w' (d - b).toNat (d1 - b1).toNat s kk) j))])) w' (.leaf (.exit 0) [.one (.row 0)] [some (.arr 28 (.sl (.int .i64)) (colsL (mgCol l m w' (d - b).toNat (d1 - b1).toNat s kk) w'))]) (fun j hj F K => ?_) (fun F K => ?_)) (fun k hk => ⟨k, fun K r h => ?_⟩)
  · simp only [tu_ref05_restore_0, U_ref05_restore_0, LT.next, LT.run, ite2_bool, decide_eq_true_eq, Int.toNat_natCast]
    rw [if_pos (by omega), if_pos (by simp only [k_ref05_restore_1, v1, decide_true, Bool.true_and, Bool.and_true, Bool.and_eq_true, decide_eq_true_eq]; omega), if_pos (by simp only [k_ref05_restore_2, v2, decide_true, Bool.true_and, Bool.and_true, Bool.and_eq_true, decide_eq_true_eq]; omega), if_pos (by rw [small_of (by rw [colOf_len]; omega), small_of (by rw [colOf_len]; omega)]; rfl), if_pos (by rw [colsL_len, List.length_singleton]; omega), wrap_in (n := (j : Int) + 1) (by omega) (by omega), show (j : Int) + 1 = ((j + 1 : Nat) : Int) by omega, colsL_succ, t2, e5]
    rfl
  · simp only [tu_ref05_restore_0, U_ref05_restore_0, LT.next, LT.run, ite2_bool, decide_eq_true_eq]
    rw [if_neg (by omega)]
  · exact hk K r h
theorem z_ref05_restore_0 : ∀ vs bl t, S_ref05_restore_0 vs bl = some (true, t) → ∃ n, ∀ (K : Ex → List V → List (Option Blk) → Option Out) r, t.run K = some r → (iter T_ref05_restore_0 n vs bl).run K = some r := by
  intro vs bl t y0'
  unfold S_ref05_restore_0 at y0'
  obtain ⟨c', vs, rfl, y1'⟩ := pO_s y0'
  obtain ⟨s, rfl, y2'⟩ := kI_s y1'
  obtain ⟨c', vs, rfl, y3'⟩ := pO_s y2'
  obtain ⟨kk, rfl, y4'⟩ := kI_s y3'
  obtain ⟨c', vs, rfl, y5'⟩ := pO_s y4'
  obtain ⟨rfl, y6'⟩ := kP_s y5'
  obtain ⟨c', vs, rfl, y7'⟩ := pO_s y6'
  obtain ⟨rfl, y8'⟩ := kP_s y7'
  obtain ⟨c', vs, rfl, y9'⟩ := pO_s y8'
  obtain ⟨g, rfl, y10'⟩ := kI_s y9'
  obtain ⟨c', vs, rfl, y11'⟩ := pO_s y10'
  obtain ⟨rfl, y12'⟩ := kR_s y11'
  obtain ⟨c', vs, rfl, y13'⟩ := pO_s y12'
  obtain ⟨x, rfl, y14'⟩ := kI_s y13'
  obtain ⟨rfl, y15'⟩ := pE_s y14'
  obtain ⟨q', bl, rfl, y16'⟩ := bB_s y15'
  obtain ⟨c', q', rfl, y17'⟩ := tC_s y16'
  obtain ⟨a, rfl, y18'⟩ := kI_s y17'
  obtain ⟨c', q', rfl, y19'⟩ := tC_s y18'
  obtain ⟨b, rfl, y20'⟩ := kI_s y19'
  obtain ⟨c', q', rfl, y21'⟩ := tC_s y20'
  obtain ⟨c, rfl, y22'⟩ := kI_s y21'
  obtain ⟨c', q', rfl, y23'⟩ := tC_s y22'
  obtain ⟨d, rfl, y24'⟩ := kI_s y23'
  obtain ⟨c', q', rfl, y25'⟩ := tC_s y24'
  obtain ⟨l, rfl, y26'⟩ := kLI_s y25'
  obtain ⟨rfl, y27'⟩ := tE_s y26'
  obtain ⟨q', bl, rfl, y28'⟩ := bB_s y27'
  obtain ⟨c', q', rfl, y29'⟩ := tC_s y28'
  obtain ⟨a1, rfl, y30'⟩ := kI_s y29'
  obtain ⟨c', q', rfl, y31'⟩ := tC_s y30'
  obtain ⟨b1, rfl, y32'⟩ := kI_s y31'
  obtain ⟨c', q', rfl, y33'⟩ := tC_s y32'
  obtain ⟨c1, rfl, y34'⟩ := kI_s y33'
  obtain ⟨c', q', rfl, y35'⟩ := tC_s y34'
  obtain ⟨d1, rfl, y36'⟩ := kI_s y35'
  obtain ⟨c', q', rfl, y37'⟩ := tC_s y36'
  obtain ⟨m, rfl, y38'⟩ := kLI_s y37'
  obtain ⟨rfl, y39'⟩ := tE_s y38'
  obtain ⟨p, bl, rfl, y40'⟩ := bAJ_s y39'
  obtain ⟨rfl, y41'⟩ := bE_s y40'
  have yy' := y41'
  obtain ⟨hk, rfl⟩ := Prod.mk.inj (Option.some.inj yy')
  exact zz_ref05_restore_0 _ _ _ _ _ _ _ _ _ _ _ _ _ _ _ hk
theorem zz_ref05_restore_1 (a b c d a1 b1 c1 d1 s kk g x i : Int) (l m v u : List Int) (p : List (List Int)) (hk : k_ref05_restore_1 a b c d a1 b1 c1 d1 s kk g x i l m v u p = true) : ∃ k, ∀ (K : Ex → List V → List (Option Blk) → Option Out) r, (c_ref05_restore_1 a b c d a1 b1 c1 d1 s kk g x i l m v u p).run K = some r → (iter T_ref05_restore_1 k [.one (.int .i64 s), .one (.int .i64 kk), .one (.ptr 0 0), .one (.ptr 1 0), .one (.int .i64 g), .one (.row 2), .one (.int .i64 x), .one (.row 3), .one (.row 4), .one (.int .i64 i)] [some (.box [.int .i64 a, .int .i64 b, .int .i64 c, .int .i64 d, .lst (.int .i64) l]), some (.box [.int .i64 a1, .int .i64 b1, .int .i64 c1, .int .i64 d1, .lst (.int .i64) m]), some (.arr 28 (.sl (.int .i64)) p), some (.arr 3 (.int .i64) v), some (.arr 3 (.int .i64) u)]).run K = some r := by
  simp only [k_ref05_restore_1, Bool.and_eq_true, decide_eq_true_eq] at hk
  obtain ⟨⟨⟨⟨⟨t1, rfl⟩, h0⟩, h1⟩, t2⟩, hv⟩ := hk
  have pb := plV_b hv
  obtain ⟨x', rfl⟩ : ∃ x' : Nat, x = x' := ⟨x.toNat, by omega⟩
  obtain ⟨w', hw⟩ : ∃ w' : Nat, c - a = w' := ⟨(c - a).toNat, by omega⟩
  have e5 : (c - a).toNat = w' := by omega
  rw [hw] at t2
  subst t2
  refine Exists.elim (z_fold (T := T_ref05_restore_1) (st := fun j => ([.one (.int .i64 s), .one (.int .i64 kk), .one (.ptr 0 0), .one (.ptr 1 0), .one (.int .i64 (w' : Int)), .one (.row 2), .one (.int .i64 (x' : Int)), .one (.row 3), .one (.row 4), .one (.int .i64 ((j * w' + x' : Nat) : Int))], [some (.box [.int .i64 a, .int .i64 b, .int .i64 c, .int .i64 d, .lst (.int .i64) l]), some (.box [.int .i64 a1, .int .i64 b1, .int .i64 c1, .int .i64 d1, .lst (.int .i64) m]), some (.arr 28 (.sl (.int .i64)) p), some (.arr 3 (.int .i64) (colOf l w' x' j)), some (.arr 3 (.int .i64) u)])) (d - b).toNat (.leaf (.exit 2) [.one (.int .i64 s), .one (.int .i64 kk), .one (.ptr 0 0), .one (.ptr 1 0), .one (.int .i64 (w' : Int)), .one (.row 2), .one (.int .i64 (x' : Int)), .one (.row 3), .one (.row 4)] [some (.box [.int .i64 a, .int .i64 b, .int .i64 c, .int .i64 d, .lst (.int .i64) l]), some (.box [.int .i64 a1, .int .i64 b1, .int .i64 c1, .int .i64 d1, .lst (.int .i64) m]), some (.arr 28 (.sl (.int .i64)) p), some (.arr 3 (.int .i64) (colOf l w' x' (d - b).toNat)), some (.arr 3 (.int .i64) u)]) (fun j hj F K => ?_) (fun F K => ?_)) (fun k hk => ⟨k, fun K r h => ?_⟩)
  · have ib := idx_b (i := (j : Int)) (w := c - a) (h := d - b) (by omega) (by omega) (by omega)
    rw [hw] at ib pb
    have e1 : ((j * w' + x' : Nat) : Int) = (j : Int) * w' + x' := by simp
    have hlt : ((j * w' + x' : Nat) : Int) < (l.length : Int) := by omega
    have hle : (colOf l w' x' j).length = j := colOf_len ..
    have e3 : ((j * w' + x' : Nat) : Int) + (w' : Int) = (((j + 1) * w' + x' : Nat) : Int) := by
      rw [Nat.add_mul, Nat.one_mul]; simp; omega
    simp only [tu_ref05_restore_1, U_ref05_restore_1, LT.next, LT.run, ite2_bool, decide_eq_true_eq, Int.toNat_natCast]
    rw [if_pos hlt, if_pos ⟨by omega, hlt⟩, if_pos (by rw [List.length_singleton]; omega), wrap_in (n := ((j * w' + x' : Nat) : Int) + (w' : Int)) (by omega) (by omega), e3, colOf_succ]
  · have hge : ¬ ((((d - b).toNat * w' + x' : Nat) : Int) < (l.length : Int)) := by
      have : (((d - b).toNat * w' + x' : Nat) : Int) = (w' : Int) * (d - b) + x' := by
        rw [Int.natCast_add, Int.natCast_mul, Int.toNat_of_nonneg (by omega), Int.mul_comm]
      rw [this, pb.2.2.1, hw]
      omega
    simp only [tu_ref05_restore_1, U_ref05_restore_1, LT.next, LT.run, ite2_bool, decide_eq_true_eq]
    rw [if_neg hge]
  · unfold c_ref05_restore_1 at h
    rw [e5, Int.toNat_natCast] at h
    have hk' := hk K r h
    rw [show colOf l w' x' 0 = [] from rfl, show ((0 * w' + x' : Nat) : Int) = i by rw [t1]; simp] at hk'
    exact hk'
theorem z_ref05_restore_1 : ∀ vs bl t, S_ref05_restore_1 vs bl = some (true, t) → ∃ n, ∀ (K : Ex → List V → List (Option Blk) → Option Out) r, t.run K = some r → (iter T_ref05_restore_1 n vs bl).run K = some r := by
  intro vs bl t y0'
  unfold S_ref05_restore_1 at y0'
  obtain ⟨c', vs, rfl, y1'⟩ := pO_s y0'
  obtain ⟨s, rfl, y2'⟩ := kI_s y1'
  obtain ⟨c', vs, rfl, y3'⟩ := pO_s y2'
  obtain ⟨kk, rfl, y4'⟩ := kI_s y3'
  obtain ⟨c', vs, rfl, y5'⟩ := pO_s y4'
  obtain ⟨rfl, y6'⟩ := kP_s y5'
  obtain ⟨c', vs, rfl, y7'⟩ := pO_s y6'
  obtain ⟨rfl, y8'⟩ := kP_s y7'
  obtain ⟨c', vs, rfl, y9'⟩ := pO_s y8'
  obtain ⟨g, rfl, y10'⟩ := kI_s y9'
  obtain ⟨c', vs, rfl, y11'⟩ := pO_s y10'
  obtain ⟨rfl, y12'⟩ := kR_s y11'
  obtain ⟨c', vs, rfl, y13'⟩ := pO_s y12'
  obtain ⟨x, rfl, y14'⟩ := kI_s y13'
  obtain ⟨c', vs, rfl, y15'⟩ := pO_s y14'
  obtain ⟨rfl, y16'⟩ := kR_s y15'
  obtain ⟨c', vs, rfl, y17'⟩ := pO_s y16'
  obtain ⟨rfl, y18'⟩ := kR_s y17'
  obtain ⟨c', vs, rfl, y19'⟩ := pO_s y18'
  obtain ⟨i, rfl, y20'⟩ := kI_s y19'
  obtain ⟨rfl, y21'⟩ := pE_s y20'
  obtain ⟨q', bl, rfl, y22'⟩ := bB_s y21'
  obtain ⟨c', q', rfl, y23'⟩ := tC_s y22'
  obtain ⟨a, rfl, y24'⟩ := kI_s y23'
  obtain ⟨c', q', rfl, y25'⟩ := tC_s y24'
  obtain ⟨b, rfl, y26'⟩ := kI_s y25'
  obtain ⟨c', q', rfl, y27'⟩ := tC_s y26'
  obtain ⟨c, rfl, y28'⟩ := kI_s y27'
  obtain ⟨c', q', rfl, y29'⟩ := tC_s y28'
  obtain ⟨d, rfl, y30'⟩ := kI_s y29'
  obtain ⟨c', q', rfl, y31'⟩ := tC_s y30'
  obtain ⟨l, rfl, y32'⟩ := kLI_s y31'
  obtain ⟨rfl, y33'⟩ := tE_s y32'
  obtain ⟨q', bl, rfl, y34'⟩ := bB_s y33'
  obtain ⟨c', q', rfl, y35'⟩ := tC_s y34'
  obtain ⟨a1, rfl, y36'⟩ := kI_s y35'
  obtain ⟨c', q', rfl, y37'⟩ := tC_s y36'
  obtain ⟨b1, rfl, y38'⟩ := kI_s y37'
  obtain ⟨c', q', rfl, y39'⟩ := tC_s y38'
  obtain ⟨c1, rfl, y40'⟩ := kI_s y39'
  obtain ⟨c', q', rfl, y41'⟩ := tC_s y40'
  obtain ⟨d1, rfl, y42'⟩ := kI_s y41'
  obtain ⟨c', q', rfl, y43'⟩ := tC_s y42'
  obtain ⟨m, rfl, y44'⟩ := kLI_s y43'
  obtain ⟨rfl, y45'⟩ := tE_s y44'
  obtain ⟨p, bl, rfl, y46'⟩ := bAJ_s y45'
  obtain ⟨v, bl, rfl, y47'⟩ := bAI_s y46'
  obtain ⟨u, bl, rfl, y48'⟩ := bAI_s y47'
  obtain ⟨rfl, y49'⟩ := bE_s y48'
  have yy' := y49'
  obtain ⟨hk, rfl⟩ := Prod.mk.inj (Option.some.inj yy')
  exact zz_ref05_restore_1 _ _ _ _ _ _ _ _ _ _ _ _ _ _ _ _ _ _ hk
theorem zz_ref05_restore_2 (a b c d a1 b1 c1 d1 s kk g x i : Int) (l m v u : List Int) (p : List (List Int)) (hk : k_ref05_restore_2 a b c d a1 b1 c1 d1 s kk g x i l m v u p = true) : ∃ k, ∀ (K : Ex → List V → List (Option Blk) → Option Out) r, (c_ref05_restore_2 a b c d a1 b1 c1 d1 s kk g x i l m v u p).run K = some r → (iter T_ref05_restore_2 k [.one (.int .i64 s), .one (.int .i64 kk), .one (.ptr 0 0), .one (.ptr 1 0), .one (.int .i64 g), .one (.row 2), .one (.int .i64 x), .one (.row 3), .one (.row 4), .one (.int .i64 i)] [some (.box [.int .i64 a, .int .i64 b, .int .i64 c, .int .i64 d, .lst (.int .i64) l]), some (.box [.int .i64 a1, .int .i64 b1, .int .i64 c1, .int .i64 d1, .lst (.int .i64) m]), some (.arr 28 (.sl (.int .i64)) p), some (.arr 3 (.int .i64) v), some (.arr 3 (.int .i64) u)]).run K = some r := by
  simp only [k_ref05_restore_2, Bool.and_eq_true, decide_eq_true_eq] at hk
  obtain ⟨⟨⟨⟨⟨t1, rfl⟩, h0⟩, h1⟩, t2⟩, hv⟩ := hk
  have pb := plV_b hv
  obtain ⟨x', rfl⟩ : ∃ x' : Nat, x = x' := ⟨x.toNat, by omega⟩
  obtain ⟨w', hw⟩ : ∃ w' : Nat, c1 - a1 = w' := ⟨(c1 - a1).toNat, by omega⟩
  have e5 : (c1 - a1).toNat = w' := by omega
  rw [hw] at t2
  subst t2
  refine Exists.elim (z_fold (T := T_ref05_restore_2) (st := fun j => ([.one (.int .i64 s), .one (.int .i64 kk), .one (.ptr 0 0), .one (.ptr 1 0), .one (.int .i64 (w' : Int)), .one (.row 2), .one (.int .i64 (x' : Int)), .one (.row 3), .one (.row 4), .one (.int .i64 ((j * w' + x' : Nat) : Int))], [some (.box [.int .i64 a, .int .i64 b, .int .i64 c, .int .i64 d, .lst (.int .i64) l]), some (.box [.int .i64 a1, .int .i64 b1, .int .i64 c1, .int .i64 d1, .lst (.int .i64) m]), some (.arr 28 (.sl (.int .i64)) p), some (.arr 3 (.int .i64) v), some (.arr 3 (.int .i64) (colOf m w' x' j))])) (d1 - b1).toNat (.leaf (.exit 4) [.one (.int .i64 s), .one (.int .i64 kk), .one (.ptr 0 0), .one (.ptr 1 0), .one (.int .i64 (w' : Int)), .one (.row 2), .one (.int .i64 (x' : Int)), .one (.row 3), .one (.row 4)] [some (.box [.int .i64 a, .int .i64 b, .int .i64 c, .int .i64 d, .lst (.int .i64) l]), some (.box [.int .i64 a1, .int .i64 b1, .int .i64 c1, .int .i64 d1, .lst (.int .i64) m]), some (.arr 28 (.sl (.int .i64)) p), some (.arr 3 (.int .i64) v), some (.arr 3 (.int .i64) (colOf m w' x' (d1 - b1).toNat))]) (fun j hj F K => ?_) (fun F K => ?_)) (fun k hk => ⟨k, fun K r h => ?_⟩)
  · have ib := idx_b (i := (j : Int)) (w := c1 - a1) (h := d1 - b1) (by omega) (by omega) (by omega)
    rw [hw] at ib pb
    have e1 : ((j * w' + x' : Nat) : Int) = (j : Int) * w' + x' := by simp
    have hlt : ((j * w' + x' : Nat) : Int) < (m.length : Int) := by omega
    have hle : (colOf m w' x' j).length = j := colOf_len ..
    have e3 : ((j * w' + x' : Nat) : Int) + (w' : Int) = (((j + 1) * w' + x' : Nat) : Int) := by
      rw [Nat.add_mul, Nat.one_mul]; simp; omega
    simp only [tu_ref05_restore_2, U_ref05_restore_2, LT.next, LT.run, ite2_bool, decide_eq_true_eq, Int.toNat_natCast]
    rw [if_pos hlt, if_pos ⟨by omega, hlt⟩, if_pos (by rw [List.length_singleton]; omega), wrap_in (n := ((j * w' + x' : Nat) : Int) + (w' : Int)) (by omega) (by omega), e3, colOf_succ]
  · have hge : ¬ ((((d1 - b1).toNat * w' + x' : Nat) : Int) < (m.length : Int)) := by
      have : (((d1 - b1).toNat * w' + x' : Nat) : Int) = (w' : Int) * (d1 - b1) + x' := by
        rw [Int.natCast_add, Int.natCast_mul, Int.toNat_of_nonneg (by omega), Int.mul_comm]
      rw [this, pb.2.2.1, hw]
      omega
    simp only [tu_ref05_restore_2, U_ref05_restore_2, LT.next, LT.run, ite2_bool, decide_eq_true_eq]
    rw [if_neg hge]
  · unfold c_ref05_restore_2 at h
    rw [e5, Int.toNat_natCast] at h
    have hk' := hk K r h
    rw [show colOf m w' x' 0 = [] from rfl, show ((0 * w' + x' : Nat) : Int) = i by rw [t1]; simp] at hk'
    exact hk'
theorem z_ref05_restore_2 : ∀ vs bl t, S_ref05_restore_2 vs bl = some (true, t) → ∃ n, ∀ (K : Ex → List V → List (Option Blk) → Option Out) r, t.run K = some r → (iter T_ref05_restore_2 n vs bl).run K = some r := by
  intro vs bl t y0'
  unfold S_ref05_restore_2 at y0'
  obtain ⟨c', vs, rfl, y1'⟩ := pO_s y0'
  obtain ⟨s, rfl, y2'⟩ := kI_s y1'
  obtain ⟨c', vs, rfl, y3'⟩ := pO_s y2'
  obtain ⟨kk, rfl, y4'⟩ := kI_s y3'
  obtain ⟨c', vs, rfl, y5'⟩ := pO_s y4'
  obtain ⟨rfl, y6'⟩ := kP_s y5'
  obtain ⟨c', vs, rfl, y7'⟩ := pO_s y6'
  obtain ⟨rfl, y8'⟩ := kP_s y7'
  obtain ⟨c', vs, rfl, y9'⟩ := pO_s y8'
  obtain ⟨g, rfl, y10'⟩ := kI_s y9'
  obtain ⟨c', vs, rfl, y11'⟩ := pO_s y10'
  obtain ⟨rfl, y12'⟩ := kR_s y11'
  obtain ⟨c', vs, rfl, y13'⟩ := pO_s y12'
  obtain ⟨x, rfl, y14'⟩ := kI_s y13'
  obtain ⟨c', vs, rfl, y15'⟩ := pO_s y14'
  obtain ⟨rfl, y16'⟩ := kR_s y15'
  obtain ⟨c', vs, rfl, y17'⟩ := pO_s y16'
  obtain ⟨rfl, y18'⟩ := kR_s y17'
  obtain ⟨c', vs, rfl, y19'⟩ := pO_s y18'
  obtain ⟨i, rfl, y20'⟩ := kI_s y19'
  obtain ⟨rfl, y21'⟩ := pE_s y20'
  obtain ⟨q', bl, rfl, y22'⟩ := bB_s y21'
  obtain ⟨c', q', rfl, y23'⟩ := tC_s y22'
  obtain ⟨a, rfl, y24'⟩ := kI_s y23'
  obtain ⟨c', q', rfl, y25'⟩ := tC_s y24'
  obtain ⟨b, rfl, y26'⟩ := kI_s y25'
  obtain ⟨c', q', rfl, y27'⟩ := tC_s y26'
  obtain ⟨c, rfl, y28'⟩ := kI_s y27'
  obtain ⟨c', q', rfl, y29'⟩ := tC_s y28'
  obtain ⟨d, rfl, y30'⟩ := kI_s y29'
  obtain ⟨c', q', rfl, y31'⟩ := tC_s y30'
  obtain ⟨l, rfl, y32'⟩ := kLI_s y31'
  obtain ⟨rfl, y33'⟩ := tE_s y32'
  obtain ⟨q', bl, rfl, y34'⟩ := bB_s y33'
  obtain ⟨c', q', rfl, y35'⟩ := tC_s y34'
  obtain ⟨a1, rfl, y36'⟩ := kI_s y35'
  obtain ⟨c', q', rfl, y37'⟩ := tC_s y36'
  obtain ⟨b1, rfl, y38'⟩ := kI_s y37'
  obtain ⟨c', q', rfl, y39'⟩ := tC_s y38'
  obtain ⟨c1, rfl, y40'⟩ := kI_s y39'
  obtain ⟨c', q', rfl, y41'⟩ := tC_s y40'
  obtain ⟨d1, rfl, y42'⟩ := kI_s y41'
  obtain ⟨c', q', rfl, y43'⟩ := tC_s y42'
  obtain ⟨m, rfl, y44'⟩ := kLI_s y43'
  obtain ⟨rfl, y45'⟩ := tE_s y44'
  obtain ⟨p, bl, rfl, y46'⟩ := bAJ_s y45'
  obtain ⟨v, bl, rfl, y47'⟩ := bAI_s y46'
  obtain ⟨u, bl, rfl, y48'⟩ := bAI_s y47'
  obtain ⟨rfl, y49'⟩ := bE_s y48'
  have yy' := y49'
  obtain ⟨hk, rfl⟩ := Prod.mk.inj (Option.some.inj yy')
  exact zz_ref05_restore_2 _ _ _ _ _ _ _ _ _ _ _ _ _ _ _ _ _ _ hk
theorem q_ref05_restore (a b c d a1 b1 c1 d1 s k : Int) (l m : List Int) (hok : (plV a b c d l && plV a1 b1 c1 d1 m && inr 1 3 k && inr 0 4096 s && fitB 281474976710656 l && fitB 281474976710656 m && decide (c1 - a1 = c - a) && inr 0 4096 ((d - b) + (d1 - b1)) && decide (d - b = cev s ((d - b) + (d1 - b1)))) = true) : funR Try.prog t_ref05_restore (annOf []) l_ref05_restore 20 Try.f46 [.agg [.int .i64 a, .int .i64 b, .int .i64 c, .int .i64 d, .lst (.int .i64) l], .agg [.int .i64 a1, .int .i64 b1, .int .i64 c1, .int .i64 d1, .lst (.int .i64) m], .one (.int .i64 s), .one (.int .i64 k)] [] = some ⟨.one (.row 0), [], [.arr 3 (.int .i64) (matC ((d - b) + (d1 - b1)).toNat (c - a).toNat (mgCol l m (c - a).toNat (d - b).toNat (d1 - b1).toNat s k))]⟩ := by
    refine (e_ref05_restore ..).trans ?_
    have hok' := hok
    simp only [Bool.and_eq_true, decide_eq_true_eq] at hok'
    obtain ⟨⟨⟨⟨⟨⟨⟨⟨v1, v2⟩, z1⟩, z2⟩, f1⟩, f2⟩, t2⟩, z3⟩, t3⟩ := hok'
    have pb1 := plV_b v1
    have pb2 := plV_b v2
    have z3' := inr_b z3
    have hc := fun x => mgCol_ok (l := l) (l' := m) (g := (c - a).toNat) (n := (d - b).toNat) (n' := (d1 - b1).toNat) z1 z2 z3' (by omega) (by omega) (fitB_fit f1) (fitB_fit f2) x
    have rr := rows_cols (f := mgCol l m (c - a).toNat (d - b).toNat (d1 - b1).toNat s k) (g := (c - a).toNat) (m := ((d - b) + (d1 - b1)).toNat) (by omega) (by omega) (fun x hx => by have := (hc x).2.1; omega)
    simp only [ite2_bool]
    rw [wrap_in (n := c - a) (by omega) (by omega), if_pos (by simp only [k_ref05_restore_0, v1, v2, z1, z2, f1, f2, z3, decide_true, Bool.true_and, Bool.and_true, Bool.and_eq_true, decide_eq_true_eq]; exact ⟨t2, t3⟩), rr.1, rr.2]
    rfl
theorem s_ref05_restore : SoundFun Try.prog 46 G_ref05_restore := by
  refine fun_ok (tab := t_ref05_restore) (ann := annOf []) (lt := l_ref05_restore) (tab_cons s_ref04_Inverse (tab_cons s_ref05_rows tab_nil)) (by kernel_rfl) (fn := Try.f46) (by kernel_rfl) (by decide) (c := bodyOf Try.f46) (by kernel_rfl) (by
    intro m b hb
    have hb' : b ∈ loopsOf (bodyOf Try.f46) := hb
    rw [o_ref05_restore] at hb'
    simp only [List.mem_cons, List.not_mem_nil, or_false] at hb'
    rcases hb' with rfl | rfl | rfl
    · exact loop_ok (key := 4) (by kernel_rfl) rfl r_ref05_restore_0 z_ref05_restore_0 m
    · exact loop_ok (key := 8) (by kernel_rfl) rfl r_ref05_restore_1 z_ref05_restore_1 m
    · exact loop_ok (key := 12) (by kernel_rfl) rfl r_ref05_restore_2 z_ref05_restore_2 m
    ) ?_ (keep_nil (by kernel_rfl))
  intro args lent o y0'
  unfold G_ref05_restore at y0'
  obtain ⟨q', args, rfl, y1'⟩ := pA_s y0'
  obtain ⟨c', q', rfl, y2'⟩ := tC_s y1'
  obtain ⟨a, rfl, y3'⟩ := kI_s y2'
  obtain ⟨c', q', rfl, y4'⟩ := tC_s y3'
  obtain ⟨b, rfl, y5'⟩ := kI_s y4'
  obtain ⟨c', q', rfl, y6'⟩ := tC_s y5'
  obtain ⟨c, rfl, y7'⟩ := kI_s y6'
  obtain ⟨c', q', rfl, y8'⟩ := tC_s y7'
  obtain ⟨d, rfl, y9'⟩ := kI_s y8'
  obtain ⟨c', q', rfl, y10'⟩ := tC_s y9'
  obtain ⟨l, rfl, y11'⟩ := kLI_s y10'
  obtain ⟨rfl, y12'⟩ := tE_s y11'
  obtain ⟨q', args, rfl, y13'⟩ := pA_s y12'
  obtain ⟨c', q', rfl, y14'⟩ := tC_s y13'
  obtain ⟨a1, rfl, y15'⟩ := kI_s y14'
  obtain ⟨c', q', rfl, y16'⟩ := tC_s y15'
  obtain ⟨b1, rfl, y17'⟩ := kI_s y16'
  obtain ⟨c', q', rfl, y18'⟩ := tC_s y17'
  obtain ⟨c1, rfl, y19'⟩ := kI_s y18'
  obtain ⟨c', q', rfl, y20'⟩ := tC_s y19'
  obtain ⟨d1, rfl, y21'⟩ := kI_s y20'
  obtain ⟨c', q', rfl, y22'⟩ := tC_s y21'
  obtain ⟨m, rfl, y23'⟩ := kLI_s y22'
  obtain ⟨rfl, y24'⟩ := tE_s y23'
  obtain ⟨c', args, rfl, y25'⟩ := pO_s y24'
  obtain ⟨s, rfl, y26'⟩ := kI_s y25'
  obtain ⟨c', args, rfl, y27'⟩ := pO_s y26'
  obtain ⟨k, rfl, y28'⟩ := kI_s y27'
  obtain ⟨rfl, y29'⟩ := pE_s y28'
  obtain ⟨rfl, y30'⟩ := nE_s y29'
  have yy' := y30'
  unfold H_ref05_restore at yy'
  obtain ⟨hok, rfl⟩ := Prod.mk.inj (Option.some.inj yy')
  exact ⟨20, q_ref05_restore _ _ _ _ _ _ _ _ _ _ _ _ hok⟩
theorem r_ref05_Merge_2 : RoundOk Try.prog t_ref05_Merge (annOf []) l_ref05_Merge Out 20 0 137 [2, 4, 6, 11, 12, 13, 14, 15, 16] (kxOf [6, 15] [6, 7]) (loopOf Try.f18 2) T_ref05_Merge_2 := by
  intro vs bl Kc r h
  unfold T_ref05_Merge_2 at h
  obtain ⟨t, y0', h'⟩ := getD_run h
  obtain ⟨c', vs, rfl, y1'⟩ := pO_s y0'
  obtain ⟨kk, rfl, y2'⟩ := kI_s y1'
  obtain ⟨c', vs, rfl, y3'⟩ := pO_s y2'
  obtain ⟨rfl, y4'⟩ := kP_s y3'
  obtain ⟨c', vs, rfl, y5'⟩ := pO_s y4'
  obtain ⟨rfl, y6'⟩ := kP_s y5'
  obtain ⟨c', vs, rfl, y7'⟩ := pO_s y6'
  obtain ⟨rfl, y8'⟩ := kR_s y7'
  obtain ⟨c', vs, rfl, y9'⟩ := pO_s y8'
  obtain ⟨rfl, y10'⟩ := kR_s y9'
  obtain ⟨c', vs, rfl, y11'⟩ := pO_s y10'
  obtain ⟨g0, rfl, y12'⟩ := kI_s y11'
  obtain ⟨c', vs, rfl, y13'⟩ := pO_s y12'
  obtain ⟨g1, rfl, y14'⟩ := kI_s y13'
  obtain ⟨c', vs, rfl, y15'⟩ := pO_s y14'
  obtain ⟨rfl, y16'⟩ := kP_s y15'
  obtain ⟨c', vs, rfl, y17'⟩ := pO_s y16'
  obtain ⟨y, rfl, y18'⟩ := kI_s y17'
  obtain ⟨rfl, y19'⟩ := pE_s y18'
  obtain ⟨q', bl, rfl, y20'⟩ := bB_s y19'
  obtain ⟨c', q', rfl, y21'⟩ := tC_s y20'
  obtain ⟨a, rfl, y22'⟩ := kI_s y21'
  obtain ⟨c', q', rfl, y23'⟩ := tC_s y22'
  obtain ⟨b, rfl, y24'⟩ := kI_s y23'
  obtain ⟨c', q', rfl, y25'⟩ := tC_s y24'
  obtain ⟨c, rfl, y26'⟩ := kI_s y25'
  obtain ⟨c', q', rfl, y27'⟩ := tC_s y26'
  obtain ⟨d, rfl, y28'⟩ := kI_s y27'
  obtain ⟨rfl, y29'⟩ := tE_s y28'
  obtain ⟨q', bl, rfl, y30'⟩ := bB_s y29'
  obtain ⟨za, zb, zc, zd, rfl, y31'⟩ := rd1P_s y30'
  obtain ⟨h0, bl, rfl, y32'⟩ := bAI_s y31'
  obtain ⟨h1, bl, rfl, y33'⟩ := bAI_s y32'
  obtain ⟨q', bl, rfl, y34'⟩ := bB_s y33'
  obtain ⟨oa, ob, oc, od, rfl, y35'⟩ := rd1P_s y34'
  obtain ⟨y0, bl, rfl, y36'⟩ := bAI_s y35'
  obtain ⟨v, bl, rfl, y37'⟩ := bAI_s y36'
  obtain ⟨rfl, y38'⟩ := bE_s y37'
  have yy' := y38'
  cases yy'
  exact (b_ref05_Merge_2 ..).trans ((congrArg (LT.runc · Kc) (tu_ref05_Merge_2 ..)).trans h')
theorem o_ref05_Merge : loopsOf (bodyOf Try.f18) = [loopOf Try.f18 0, loopOf Try.f18 1, loopOf Try.f18 2] := by kernel_rfl
theorem zz_ref05_Merge_2 (kk a b c d za zb zc zd g0 g1 oa ob oc od y : Int) (h0 h1 y0 v : List Int) (hk : k_ref05_Merge_2 kk a b c d za zb zc zd g0 g1 oa ob oc od y h0 h1 y0 v = true) : ∃ k, ∀ (K : Ex → List V → List (Option Blk) → Option Out) r, (c_ref05_Merge_2 kk a b c d za zb zc zd g0 g1 oa ob oc od y h0 h1 y0 v).run K = some r → (iter T_ref05_Merge_2 k [.one (.int .i64 kk), .one (.ptr 0 0), .one (.ptr 1 0), .one (.row 2), .one (.row 3), .one (.int .i64 g0), .one (.int .i64 g1), .one (.ptr 4 0), .one (.int .i64 y)] [some (.box [.int .i64 a, .int .i64 b, .int .i64 c, .int .i64 d]), some (.box [.int .i64 za, .int .i64 zb, .int .i64 zc, .int .i64 zd, .row 5]), some (.arr 3 (.int .i64) h0), some (.arr 3 (.int .i64) h1), some (.box [.int .i64 oa, .int .i64 ob, .int .i64 oc, .int .i64 od, .row 6]), some (.arr 3 (.int .i64) y0), some (.arr 3 (.int .i64) v)]).run K = some r := by
  simp only [k_ref05_Merge_2, Bool.and_eq_true, decide_eq_true_eq] at hk
  obtain ⟨⟨⟨⟨⟨⟨⟨⟨⟨⟨⟨rfl, rfl⟩, z1⟩, z2⟩, z3⟩, f1⟩, f2⟩, z4⟩, t1⟩, t2⟩, t3⟩, t4⟩ := hk
  have vb := valid_b z3
  have z4' := inr_b z4
  have ce := cev_bd (s := a) (n := c - a) (by omega)
  obtain ⟨n', hn⟩ : ∃ n' : Nat, d - b = n' := ⟨(d - b).toNat, by omega⟩
  obtain ⟨p', hp⟩ : ∃ p' : Nat, g0 = p' := ⟨g0.toNat, by omega⟩
  obtain ⟨q', hq⟩ : ∃ q' : Nat, g1 = q' := ⟨g1.toNat, by omega⟩
  subst hp hq
  have e6 : (d - b).toNat = n' := by omega
  have l0 : h0.length = n' * p' := by rw [hn] at t3; rw [Nat.mul_comm]; exact_mod_cast t3
  have l1 : h1.length = n' * q' := by rw [hn] at t4; rw [Nat.mul_comm]; exact_mod_cast t4
  have hr := fun j (hj : j < n') => iv_good z1 z2 (n := c - a) (by omega) (p := rowAt h0 p' j) (q := rowAt h1 q' j) (by rw [rowAt_len l0 hj, t1]) (by rw [rowAt_len l1 hj, t2]) (fit_row (fitB_fit f1) _ _) (fit_row (fitB_fit f2) _ _)
  have hl := fun j (hj : j ≤ n') => catR_len (f := mgRow h0 h1 p' q' a kk) (g := (c - a).toNat) j (fun q hq => by have := (hr q (by omega)).2.1; unfold mgRow; omega)
  simp only [c_ref05_Merge_2, Int.toNat_natCast, e6]
  refine Exists.elim (z_fold (T := T_ref05_Merge_2) (st := fun j => ([.one (.int .i64 kk), .one (.ptr 0 0), .one (.ptr 1 0), .one (.row 2), .one (.row 3), .one (.int .i64 (p' : Int)), .one (.int .i64 (q' : Int)), .one (.ptr 4 0), .one (.int .i64 (j : Int))], [some (.box [.int .i64 a, .int .i64 b, .int .i64 c, .int .i64 d]), some (.box [.int .i64 za, .int .i64 zb, .int .i64 zc, .int .i64 zd, .row 5]), some (.arr 3 (.int .i64) h0), some (.arr 3 (.int .i64) h1), some (.box [.int .i64 oa, .int .i64 ob, .int .i64 oc, .int .i64 od, .row 6]), some (.arr 3 (.int .i64) y0), some (.arr 3 (.int .i64) (catR (mgRow h0 h1 p' q' a kk) j))])) n' (.leaf (.exit 4) [.one (.ptr 0 0), .one (.ptr 1 0)] [some (.box [.int .i64 za, .int .i64 zb, .int .i64 zc, .int .i64 zd, .row 2]), some (.box [.int .i64 oa, .int .i64 ob, .int .i64 oc, .int .i64 od, .row 3]), some (.arr 3 (.int .i64) y0), some (.arr 3 (.int .i64) (catR (mgRow h0 h1 p' q' a kk) n'))]) (fun j hj F K => ?_) (fun F K => ?_)) (fun k hk => ⟨k, fun K r h => ?_⟩)
  · have hl1 := hl j (by omega)
    have hl2 := hl (j + 1) (by omega)
    have m1 : (j + 1) * (c - a).toNat ≤ 4096 * 4096 := Nat.mul_le_mul (by omega) (by omega)
    have s0 := sl_b j p' (by omega) (by omega)
    have s1 := sl_b j q' (by omega) (by omega)
    have i0 := sl_in l0 hj
    have i1 := sl_in l1 hj
    have r0 := rowAt_len l0 hj
    have r1 := rowAt_len l1 hj
    simp only [catR, List.length_append] at hl2
    have m9 : (iv (rowAt h0 p' j) (rowAt h1 q' j) a kk).1 = mgRow h0 h1 p' q' a kk j := rfl
    simp only [tu_ref05_Merge_2, U_ref05_Merge_2, LT.next, LT.run, ite2_bool, decide_eq_true_eq, s0.1, s0.2.1, s0.2.2, s1.1, s1.2.1, s1.2.2, Int.toNat_natCast, m9, Bool.and_eq_true]
    rw [wrap_in (n := d - b) (by omega) (by omega), if_pos (by omega), if_pos (by omega), if_pos (by omega), if_pos ⟨small_of (by omega), small_of (by omega)⟩, if_pos (by omega), wrap_in (n := (j : Int) + 1) (by omega) (by omega), show (j : Int) + 1 = ((j + 1 : Nat) : Int) by omega]
    rfl
  · simp only [tu_ref05_Merge_2, U_ref05_Merge_2, LT.next, LT.run, ite2_bool, decide_eq_true_eq]
    rw [wrap_in (n := d - b) (by omega) (by omega), if_neg (by omega)]
  · exact hk K r h
theorem z_ref05_Merge_2 : ∀ vs bl t, S_ref05_Merge_2 vs bl = some (true, t) → ∃ n, ∀ (K : Ex → List V → List (Option Blk) → Option Out) r, t.run K = some r → (iter T_ref05_Merge_2 n vs bl).run K = some r := by
  intro vs bl t y0'
  unfold S_ref05_Merge_2 at y0'
  obtain ⟨c', vs, rfl, y1'⟩ := pO_s y0'
  obtain ⟨kk, rfl, y2'⟩ := kI_s y1'
  obtain ⟨c', vs, rfl, y3'⟩ := pO_s y2'
  obtain ⟨rfl, y4'⟩ := kP_s y3'
  obtain ⟨c', vs, rfl, y5'⟩ := pO_s y4'
  obtain ⟨rfl, y6'⟩ := kP_s y5'
  obtain ⟨c', vs, rfl, y7'⟩ := pO_s y6'
  obtain ⟨rfl, y8'⟩ := kR_s y7'
  obtain ⟨c', vs, rfl, y9'⟩ := pO_s y8'
  obtain ⟨rfl, y10'⟩ := kR_s y9'
  obtain ⟨c', vs, rfl, y11'⟩ := pO_s y10'
  obtain ⟨g0, rfl, y12'⟩ := kI_s y11'
  obtain ⟨c', vs, rfl, y13'⟩ := pO_s y12'
  obtain ⟨g1, rfl, y14'⟩ := kI_s y13'
  obtain ⟨c', vs, rfl, y15'⟩ := pO_s y14'
  obtain ⟨rfl, y16'⟩ := kP_s y15'
  obtain ⟨c', vs, rfl, y17'⟩ := pO_s y16'
  obtain ⟨y, rfl, y18'⟩ := kI_s y17'
  obtain ⟨rfl, y19'⟩ := pE_s y18'
  obtain ⟨q', bl, rfl, y20'⟩ := bB_s y19'
  obtain ⟨c', q', rfl, y21'⟩ := tC_s y20'
  obtain ⟨a, rfl, y22'⟩ := kI_s y21'
  obtain ⟨c', q', rfl, y23'⟩ := tC_s y22'
  obtain ⟨b, rfl, y24'⟩ := kI_s y23'
  obtain ⟨c', q', rfl, y25'⟩ := tC_s y24'
  obtain ⟨c, rfl, y26'⟩ := kI_s y25'
  obtain ⟨c', q', rfl, y27'⟩ := tC_s y26'
  obtain ⟨d, rfl, y28'⟩ := kI_s y27'
  obtain ⟨rfl, y29'⟩ := tE_s y28'
  obtain ⟨q', bl, rfl, y30'⟩ := bB_s y29'
  obtain ⟨za, zb, zc, zd, rfl, y31'⟩ := rd1P_s y30'
  obtain ⟨h0, bl, rfl, y32'⟩ := bAI_s y31'
  obtain ⟨h1, bl, rfl, y33'⟩ := bAI_s y32'
  obtain ⟨q', bl, rfl, y34'⟩ := bB_s y33'
  obtain ⟨oa, ob, oc, od, rfl, y35'⟩ := rd1P_s y34'
  obtain ⟨y0, bl, rfl, y36'⟩ := bAI_s y35'
  obtain ⟨v, bl, rfl, y37'⟩ := bAI_s y36'
  obtain ⟨rfl, y38'⟩ := bE_s y37'
  have yy' := y38'
  obtain ⟨hk, rfl⟩ := Prod.mk.inj (Option.some.inj yy')
  exact zz_ref05_Merge_2 _ _ _ _ _ _ _ _ _ _ _ _ _ _ _ _ _ _ _ _ hk
theorem q_ref05_Merge (a0 b0 c0 d0 a1 b1 c1 d1 a2 b2 c2 d2 a3 b3 c3 d3 a b c d k : Int) (l0 l1 l2 l3 : List Int) (hok : (small l0.length && small l1.length && small l2.length && small l3.length) = true) : funR Try.prog t_ref05_Merge (annOf []) l_ref05_Merge 20 Try.f18 [.agg [.int .i64 a0, .int .i64 b0, .int .i64 c0, .int .i64 d0, .lst (.int .i64) l0, .int .i64 a1, .int .i64 b1, .int .i64 c1, .int .i64 d1, .lst (.int .i64) l1, .int .i64 a2, .int .i64 b2, .int .i64 c2, .int .i64 d2, .lst (.int .i64) l2, .int .i64 a3, .int .i64 b3, .int .i64 c3, .int .i64 d3, .lst (.int .i64) l3], .agg [.int .i64 a, .int .i64 b, .int .i64 c, .int .i64 d], .one (.int .i64 k)] [] = some ⟨.tup [(true, [.int .i64 ((mgR (mgErr a0 b0 c0 d0 a1 b1 c1 d1 a2 b2 c2 d2 a3 b3 c3 d3 a b c d k l0 l1 l2 l3) a b c d).1), .int .i64 ((mgR (mgErr a0 b0 c0 d0 a1 b1 c1 d1 a2 b2 c2 d2 a3 b3 c3 d3 a b c d k l0 l1 l2 l3) a b c d).2.1), .int .i64 ((mgR (mgErr a0 b0 c0 d0 a1 b1 c1 d1 a2 b2 c2 d2 a3 b3 c3 d3 a b c d k l0 l1 l2 l3) a b c d).2.2.1), .int .i64 ((mgR (mgErr a0 b0 c0 d0 a1 b1 c1 d1 a2 b2 c2 d2 a3 b3 c3 d3 a b c d k l0 l1 l2 l3) a b c d).2.2.2), .row 0]), (false, [.int .i64 (mgErr a0 b0 c0 d0 a1 b1 c1 d1 a2 b2 c2 d2 a3 b3 c3 d3 a b c d k l0 l1 l2 l3)])], [], [.arr 3 (.int .i64) (mgL (mgErr a0 b0 c0 d0 a1 b1 c1 d1 a2 b2 c2 d2 a3 b3 c3 d3 a b c d k l0 l1 l2 l3) a b c d k l0 l1 l2 l3)]⟩ := by
    refine (e_ref05_Merge ..).trans ?_
    simp only [ite2_bool]
    have hR : ∀ (a b c d : Int) (r : Rc), (a == r.1 && (b == r.2.1 && (c == r.2.2.1 && (d == r.2.2.2 && true)))) = isR a b c d r := fun _ _ _ _ _ => rfl
    simp only [hR]
    simp only [Bool.and_eq_true] at hok
    obtain ⟨⟨⟨o0, o1⟩, o2⟩, o3⟩ := hok
    simp only [o0, o1, o2, o3, Bool.and_true, if_true]
    cases z0 : valid a b c d
    · simp [mgErr, mgR, mgL, z0]
    cases z1 : decide (area a b c d > 1048576)
    rotate_left
    · simp [mgErr, mgR, mgL, z0, z1]
    cases z2 : inr 1 3 k
    · simp [mgErr, mgR, mgL, z0, z1, z2]
    cases r0' : isR a0 b0 c0 d0 (bnd a b c d 0)
    · simp [mgErr, mgR, mgL, z0, z1, z2, r0']
    cases p0' : plV a0 b0 c0 d0 l0
    · simp [mgErr, mgR, mgL, z0, z1, z2, r0', p0']
    cases r1' : isR a1 b1 c1 d1 (bnd a b c d 1)
    · simp [mgErr, mgR, mgL, z0, z1, z2, r0', p0', r1']
    cases p1' : plV a1 b1 c1 d1 l1
    · simp [mgErr, mgR, mgL, z0, z1, z2, r0', p0', r1', p1']
    cases r2' : isR a2 b2 c2 d2 (bnd a b c d 2)
    · simp [mgErr, mgR, mgL, z0, z1, z2, r0', p0', r1', p1', r2']
    cases p2' : plV a2 b2 c2 d2 l2
    · simp [mgErr, mgR, mgL, z0, z1, z2, r0', p0', r1', p1', r2', p2']
    cases r3' : isR a3 b3 c3 d3 (bnd a b c d 3)
    · simp [mgErr, mgR, mgL, z0, z1, z2, r0', p0', r1', p1', r2', p2', r3']
    cases p3' : plV a3 b3 c3 d3 l3
    · simp [mgErr, mgR, mgL, z0, z1, z2, r0', p0', r1', p1', r2', p2', r3', p3']
    cases g0 : fitB 281474976710656 l0
    · simp [mgErr, mgR, mgL, z0, z1, z2, r0', p0', r1', p1', r2', p2', r3', p3', g0]
    cases g1 : fitB 281474976710656 l1
    · simp [mgErr, mgR, mgL, z0, z1, z2, r0', p0', r1', p1', r2', p2', r3', p3', g0, g1]
    cases g2 : fitB 281474976710656 l2
    · simp [mgErr, mgR, mgL, z0, z1, z2, r0', p0', r1', p1', r2', p2', r3', p3', g0, g1, g2]
    cases g3 : fitB 281474976710656 l3
    · simp [mgErr, mgR, mgL, z0, z1, z2, r0', p0', r1', p1', r2', p2', r3', p3', g0, g1, g2, g3]
    have e : mgErr a0 b0 c0 d0 a1 b1 c1 d1 a2 b2 c2 d2 a3 b3 c3 d3 a b c d k l0 l1 l2 l3 = 0 := by simp [mgErr, z0, z1, z2, r0', p0', r1', p1', r2', p2', r3', p3', g0, g1, g2, g3]
    rw [e]
    simp only [Bool.not_true, Bool.false_eq_true, if_false]
    obtain ⟨rfl, rfl, rfl, rfl⟩ := isR_s r0'
    obtain ⟨rfl, rfl, rfl, rfl⟩ := isR_s r1'
    obtain ⟨rfl, rfl, rfl, rfl⟩ := isR_s r2'
    obtain ⟨rfl, rfl, rfl, rfl⟩ := isR_s r3'
    have hb := bnd_v z0
    have ab := valid_b z0
    have hb0 := hb.1
    have hb1 := hb.2.1
    have hb2 := hb.2.2.1
    have hb3 := hb.2.2.2
    have hs : inr 0 4096 b = true := inr_t (by omega) (by omega)
    have ha : inr 0 4096 a = true := inr_t (by omega) (by omega)
    have hn : inr 0 4096 (d - b) = true := inr_t (by omega) (by omega)
    have hw : inr 0 4096 (c - a) = true := inr_t (by omega) (by omega)
    have ce := cev_bd (s := a) (n := c - a) (by omega)
    have cf := cev_bd (s := b) (n := d - b) (by omega)
    have x0 : ((bnd a b c d 0).2.2.1 - (bnd a b c d 0).1) = cev a (c - a) := by simp only [hb0, cev]; omega
    have x1 : ((bnd a b c d 1).2.2.1 - (bnd a b c d 1).1) = (c - a) - cev a (c - a) := by simp only [hb1, cev]; omega
    have x2 : ((bnd a b c d 2).2.2.1 - (bnd a b c d 2).1) = ((bnd a b c d 0).2.2.1 - (bnd a b c d 0).1) := by simp only [hb2, hb0]
    have x3 : ((bnd a b c d 3).2.2.1 - (bnd a b c d 3).1) = ((bnd a b c d 1).2.2.1 - (bnd a b c d 1).1) := by simp only [hb3, hb1]
    have y0 : ((bnd a b c d 0).2.2.2 - (bnd a b c d 0).2.1) = cev b (d - b) := by simp only [hb0, cev]; omega
    have y1 : ((bnd a b c d 1).2.2.2 - (bnd a b c d 1).2.1) = cev b (d - b) := by simp only [hb1, cev]; omega
    have y2 : ((bnd a b c d 2).2.2.2 - (bnd a b c d 2).2.1) = (d - b) - cev b (d - b) := by simp only [hb2, cev]; omega
    have y3 : ((bnd a b c d 3).2.2.2 - (bnd a b c d 3).2.1) = (d - b) - cev b (d - b) := by simp only [hb3, cev]; omega
    have N0 : ((bnd a b c d 0).2.2.2 - (bnd a b c d 0).2.1) + ((bnd a b c d 2).2.2.2 - (bnd a b c d 2).2.1) = d - b := by rw [y0, y2]; omega
    have N1 : ((bnd a b c d 1).2.2.2 - (bnd a b c d 1).2.1) + ((bnd a b c d 3).2.2.2 - (bnd a b c d 3).2.1) = d - b := by rw [y1, y3]; omega
    have W0 : IntKind.wrap .i64 ((bnd a b c d 0).2.2.1 - (bnd a b c d 0).1) = ((bnd a b c d 0).2.2.1 - (bnd a b c d 0).1) := by rw [x0]; exact wrap_in (by omega) (by omega)
    have W1 : IntKind.wrap .i64 ((bnd a b c d 1).2.2.1 - (bnd a b c d 1).1) = ((bnd a b c d 1).2.2.1 - (bnd a b c d 1).1) := by rw [x1]; exact wrap_in (by omega) (by omega)
    have zl : ∀ (g : Int), 0 ≤ g → (((d - b).toNat * g.toNat : Nat) : Int) = g * (d - b) := by
      intro g hg
      rw [Int.natCast_mul, Int.toNat_of_nonneg (by omega), Int.toNat_of_nonneg hg, Int.mul_comm]
    simp only [N0, N1, W0, W1]
    have F0 : fitB 1125899906842624 (matC (d - b).toNat ((bnd a b c d 0).2.2.1 - (bnd a b c d 0).1).toNat (mgCol l0 l2 ((bnd a b c d 0).2.2.1 - (bnd a b c d 0).1).toNat ((bnd a b c d 0).2.2.2 - (bnd a b c d 0).2.1).toNat ((bnd a b c d 2).2.2.2 - (bnd a b c d 2).2.1).toNat b k)) = true := fit_fitB (fit_mat (by omega) fun x hx => (mgCol_ok z2 hs (m := d - b) (by omega) (by rw [y0]; omega) (by rw [y2]; omega) (fitB_fit g0) (fitB_fit g2) x).2.2)
    have L0 : (((matC (d - b).toNat ((bnd a b c d 0).2.2.1 - (bnd a b c d 0).1).toNat (mgCol l0 l2 ((bnd a b c d 0).2.2.1 - (bnd a b c d 0).1).toNat ((bnd a b c d 0).2.2.2 - (bnd a b c d 0).2.1).toNat ((bnd a b c d 2).2.2.2 - (bnd a b c d 2).2.1).toNat b k)).length : Nat) : Int) = ((bnd a b c d 0).2.2.1 - (bnd a b c d 0).1) * (d - b) := by rw [matC_len, zl _ (by rw [x0]; omega)]
    have F1 : fitB 1125899906842624 (matC (d - b).toNat ((bnd a b c d 1).2.2.1 - (bnd a b c d 1).1).toNat (mgCol l1 l3 ((bnd a b c d 1).2.2.1 - (bnd a b c d 1).1).toNat ((bnd a b c d 1).2.2.2 - (bnd a b c d 1).2.1).toNat ((bnd a b c d 3).2.2.2 - (bnd a b c d 3).2.1).toNat b k)) = true := fit_fitB (fit_mat (by omega) fun x hx => (mgCol_ok z2 hs (m := d - b) (by omega) (by rw [y1]; omega) (by rw [y3]; omega) (fitB_fit g1) (fitB_fit g3) x).2.2)
    have L1 : (((matC (d - b).toNat ((bnd a b c d 1).2.2.1 - (bnd a b c d 1).1).toNat (mgCol l1 l3 ((bnd a b c d 1).2.2.1 - (bnd a b c d 1).1).toNat ((bnd a b c d 1).2.2.2 - (bnd a b c d 1).2.1).toNat ((bnd a b c d 3).2.2.2 - (bnd a b c d 3).2.1).toNat b k)).length : Nat) : Int) = ((bnd a b c d 1).2.2.1 - (bnd a b c d 1).1) * (d - b) := by rw [matC_len, zl _ (by rw [x1]; omega)]
    rw [if_pos (by simp only [p0', p2', z2, hs, g0, g2, x2, hn, y0, decide_true, Bool.and_self]), if_pos (by simp only [p1', p3', z2, hs, g1, g3, x3, hn, y1, decide_true, Bool.and_self])]
    rw [if_pos (by simp only [k_ref05_Merge_2, z0, z2, ha, F0, F1, L0, L1, hw, decide_true, Bool.true_and, Bool.and_true, Bool.and_eq_true, decide_eq_true_eq]; exact ⟨x0, x1⟩)]
    rfl
theorem s_ref05_Merge : SoundFun Try.prog 18 G_ref05_Merge := by
  refine fun_ok (tab := t_ref05_Merge) (ann := annOf []) (lt := l_ref05_Merge) (tab_cons s_ref05_Bands (tab_cons s_ref01_Valid (tab_cons s_ref02_Valid (tab_cons s_ref05_Known (tab_cons s_ref05_Above (tab_cons s_ref01_Area (tab_cons s_ref05_restore (tab_cons s_ref04_Inverse tab_nil)))))))) (by kernel_rfl) (fn := Try.f18) (by kernel_rfl) (by decide) (c := bodyOf Try.f18) (by kernel_rfl) (by
    intro m b hb
    have hb' : b ∈ loopsOf (bodyOf Try.f18) := hb
    rw [o_ref05_Merge] at hb'
    simp only [List.mem_cons, List.not_mem_nil, or_false] at hb'
    rcases hb' with rfl | rfl | rfl
    · exact loop_none (by kernel_rfl) m
    · exact loop_none (by kernel_rfl) m
    · exact loop_ok (key := 20) (by kernel_rfl) rfl r_ref05_Merge_2 z_ref05_Merge_2 m
    ) ?_ (keep_nil (by kernel_rfl))
  intro args lent o y0'
  unfold G_ref05_Merge at y0'
  obtain ⟨q', args, rfl, y1'⟩ := pA_s y0'
  obtain ⟨a0, b0, c0, d0, l0, a1, b1, c1, d1, l1, a2, b2, c2, d2, l2, a3, b3, c3, d3, l3, rfl, y2'⟩ := rd4L_s y1'
  obtain ⟨q', args, rfl, y3'⟩ := pA_s y2'
  obtain ⟨c', q', rfl, y4'⟩ := tC_s y3'
  obtain ⟨a, rfl, y5'⟩ := kI_s y4'
  obtain ⟨c', q', rfl, y6'⟩ := tC_s y5'
  obtain ⟨b, rfl, y7'⟩ := kI_s y6'
  obtain ⟨c', q', rfl, y8'⟩ := tC_s y7'
  obtain ⟨c, rfl, y9'⟩ := kI_s y8'
  obtain ⟨c', q', rfl, y10'⟩ := tC_s y9'
  obtain ⟨d, rfl, y11'⟩ := kI_s y10'
  obtain ⟨rfl, y12'⟩ := tE_s y11'
  obtain ⟨c', args, rfl, y13'⟩ := pO_s y12'
  obtain ⟨k, rfl, y14'⟩ := kI_s y13'
  obtain ⟨rfl, y15'⟩ := pE_s y14'
  obtain ⟨rfl, y16'⟩ := nE_s y15'
  have yy' := y16'
  unfold H_ref05_Merge at yy'
  obtain ⟨hok, rfl⟩ := Prod.mk.inj (Option.some.inj yy')
  exact ⟨20, q_ref05_Merge _ _ _ _ _ _ _ _ _ _ _ _ _ _ _ _ _ _ _ _ _ _ _ _ _ hok⟩
end Go.Rx.Ch05

set_option linter.unusedVariables false
set_option linter.unusedSimpArgs false
set_option maxRecDepth 100000
set_option maxHeartbeats 40000000
open Go Go.Rx Go.Proofs
namespace Go.Rx.Ch05
theorem r_law_same_0 : RoundOk Try.prog t_law_same (annOf []) l_law_same Out 20 0 38 [2, 3, 22, 23] (kxOf [] [4]) (loopOf Try.f16 0) T_law_same_0 := by
  intro vs bl Kc r h
  unfold T_law_same_0 at h
  obtain ⟨t, y0', h'⟩ := getD_run h
  obtain ⟨c', vs, rfl, y1'⟩ := pO_s y0'
  obtain ⟨rfl, y2'⟩ := kP_s y1'
  obtain ⟨c', vs, rfl, y3'⟩ := pO_s y2'
  obtain ⟨rfl, y4'⟩ := kP_s y3'
  obtain ⟨c', vs, rfl, y5'⟩ := pO_s y4'
  obtain ⟨n, rfl, y6'⟩ := kI_s y5'
  obtain ⟨c', vs, rfl, y7'⟩ := pO_s y6'
  obtain ⟨i, rfl, y8'⟩ := kI_s y7'
  obtain ⟨rfl, y9'⟩ := pE_s y8'
  obtain ⟨q', bl, rfl, y10'⟩ := bB_s y9'
  obtain ⟨c', q', rfl, y11'⟩ := tC_s y10'
  obtain ⟨a, rfl, y12'⟩ := kI_s y11'
  obtain ⟨c', q', rfl, y13'⟩ := tC_s y12'
  obtain ⟨b, rfl, y14'⟩ := kI_s y13'
  obtain ⟨c', q', rfl, y15'⟩ := tC_s y14'
  obtain ⟨c, rfl, y16'⟩ := kI_s y15'
  obtain ⟨c', q', rfl, y17'⟩ := tC_s y16'
  obtain ⟨d, rfl, y18'⟩ := kI_s y17'
  obtain ⟨c', q', rfl, y19'⟩ := tC_s y18'
  obtain ⟨l, rfl, y20'⟩ := kLI_s y19'
  obtain ⟨rfl, y21'⟩ := tE_s y20'
  obtain ⟨q', bl, rfl, y22'⟩ := bB_s y21'
  obtain ⟨c', q', rfl, y23'⟩ := tC_s y22'
  obtain ⟨a1, rfl, y24'⟩ := kI_s y23'
  obtain ⟨c', q', rfl, y25'⟩ := tC_s y24'
  obtain ⟨b1, rfl, y26'⟩ := kI_s y25'
  obtain ⟨c', q', rfl, y27'⟩ := tC_s y26'
  obtain ⟨c1, rfl, y28'⟩ := kI_s y27'
  obtain ⟨c', q', rfl, y29'⟩ := tC_s y28'
  obtain ⟨d1, rfl, y30'⟩ := kI_s y29'
  obtain ⟨c', q', rfl, y31'⟩ := tC_s y30'
  obtain ⟨m, rfl, y32'⟩ := kLI_s y31'
  obtain ⟨rfl, y33'⟩ := tE_s y32'
  obtain ⟨rfl, y34'⟩ := bE_s y33'
  have yy' := y34'
  cases yy'
  exact (b_law_same_0 ..).trans ((congrArg (LT.runc · Kc) (tu_law_same_0 ..)).trans h')
theorem o_law_same : loopsOf (bodyOf Try.f16) = [loopOf Try.f16 0] := by kernel_rfl
theorem zz_law_same_0 (a b c d a1 b1 c1 d1 : Int) (l m : List Int) (hsm : small (l.length) = true) (hc : decide (l.length = m.length) = true) : ∃ k, ∀ (K : Ex → List V → List (Option Blk) → Option Out) r, (c_law_same_0 a b c d a1 b1 c1 d1 l m).run K = some r → (iter T_law_same_0 k [.one (.ptr 0 0), .one (.ptr 1 0), .one (.int .i64 (l.length : Int)), .one (.int .i64 0)] [some (.box [.int .i64 a, .int .i64 b, .int .i64 c, .int .i64 d, .lst (.int .i64) l]), some (.box [.int .i64 a1, .int .i64 b1, .int .i64 c1, .int .i64 d1, .lst (.int .i64) m])]).run K = some r := by
  refine z_idx (st := fun i => ([.one (.ptr 0 0), .one (.ptr 1 0), .one (.int .i64 (l.length : Int)), .one (.int .i64 ((i : Nat) : Int))], [some (.box [.int .i64 a, .int .i64 b, .int .i64 c, .int .i64 d, .lst (.int .i64) l]), some (.box [.int .i64 a1, .int .i64 b1, .int .i64 c1, .int .i64 d1, .lst (.int .i64) m])])) (l.length) (fun j => gI l j == gI m j) _ _ (fun i hi F K => ?_) (fun F K => ?_)
  · have hi' : (i : Int) < (l.length : Int) := by omega
    have hc' := hc
    simp only [Bool.and_eq_true, decide_eq_true_eq] at hc'
    simp only [tu_law_same_0, U_law_same_0, LT.next, LT.run, ite2_dec, ite2_bool, wrap_next hi hsm, Int.toNat_natCast, hi', Int.natCast_nonneg, and_self, if_true, gI, gP, gC, gR]
    have hj : (i : Int) < (m.length : Int) := by omega
    simp [hj, gI] <;> (repeat' split) <;> simp_all
  · simp only [tu_law_same_0, U_law_same_0, LT.next, LT.run, ite2_dec, Int.lt_irrefl, if_false]
    try rfl
theorem z_law_same_0 : ∀ vs bl t, S_law_same_0 vs bl = some (true, t) → ∃ n, ∀ (K : Ex → List V → List (Option Blk) → Option Out) r, t.run K = some r → (iter T_law_same_0 n vs bl).run K = some r := by
  intro vs bl t y0'
  unfold S_law_same_0 at y0'
  obtain ⟨c', vs, rfl, y1'⟩ := pO_s y0'
  obtain ⟨rfl, y2'⟩ := kP_s y1'
  obtain ⟨c', vs, rfl, y3'⟩ := pO_s y2'
  obtain ⟨rfl, y4'⟩ := kP_s y3'
  obtain ⟨c', vs, rfl, y5'⟩ := pO_s y4'
  obtain ⟨n, rfl, y6'⟩ := kI_s y5'
  obtain ⟨c', vs, rfl, y7'⟩ := pO_s y6'
  obtain ⟨i, rfl, y8'⟩ := kI_s y7'
  obtain ⟨rfl, y9'⟩ := pE_s y8'
  obtain ⟨q', bl, rfl, y10'⟩ := bB_s y9'
  obtain ⟨c', q', rfl, y11'⟩ := tC_s y10'
  obtain ⟨a, rfl, y12'⟩ := kI_s y11'
  obtain ⟨c', q', rfl, y13'⟩ := tC_s y12'
  obtain ⟨b, rfl, y14'⟩ := kI_s y13'
  obtain ⟨c', q', rfl, y15'⟩ := tC_s y14'
  obtain ⟨c, rfl, y16'⟩ := kI_s y15'
  obtain ⟨c', q', rfl, y17'⟩ := tC_s y16'
  obtain ⟨d, rfl, y18'⟩ := kI_s y17'
  obtain ⟨c', q', rfl, y19'⟩ := tC_s y18'
  obtain ⟨l, rfl, y20'⟩ := kLI_s y19'
  obtain ⟨rfl, y21'⟩ := tE_s y20'
  obtain ⟨q', bl, rfl, y22'⟩ := bB_s y21'
  obtain ⟨c', q', rfl, y23'⟩ := tC_s y22'
  obtain ⟨a1, rfl, y24'⟩ := kI_s y23'
  obtain ⟨c', q', rfl, y25'⟩ := tC_s y24'
  obtain ⟨b1, rfl, y26'⟩ := kI_s y25'
  obtain ⟨c', q', rfl, y27'⟩ := tC_s y26'
  obtain ⟨c1, rfl, y28'⟩ := kI_s y27'
  obtain ⟨c', q', rfl, y29'⟩ := tC_s y28'
  obtain ⟨d1, rfl, y30'⟩ := kI_s y29'
  obtain ⟨c', q', rfl, y31'⟩ := tC_s y30'
  obtain ⟨m, rfl, y32'⟩ := kLI_s y31'
  obtain ⟨rfl, y33'⟩ := tE_s y32'
  obtain ⟨rfl, y34'⟩ := bE_s y33'
  have yy' := y34'
  obtain ⟨hk, rfl⟩ := Prod.mk.inj (Option.some.inj yy')
  unfold k_law_same_0 at hk
  simp only [Bool.and_eq_true, decide_eq_true_eq, and_assoc] at hk
  obtain ⟨rfl, rfl, hsm, hc⟩ := hk
  exact zz_law_same_0 _ _ _ _ _ _ _ _ _ _ hsm (by first | exact hc | simpa using hc)
theorem q_law_same (a b c d a1 b1 c1 d1 : Int) (l m : List Int) (hok : small l.length = true) : funR Try.prog t_law_same (annOf []) l_law_same 20 Try.f16 [.agg [.int .i64 a, .int .i64 b, .int .i64 c, .int .i64 d, .lst (.int .i64) l], .agg [.int .i64 a1, .int .i64 b1, .int .i64 c1, .int .i64 d1, .lst (.int .i64) m]] [] = some ⟨.one (.bool (samePl a b c d l a1 b1 c1 d1 m)), [], []⟩ := by
    refine (e_law_same ..).trans ?_
    simp only [ite2_bool, k_law_same_0, p_law_same_0, samePl]
    rw [show (a == a1 && (b == b1 && (c == c1 && (d == d1 && true)))) = isR a b c d (a1, b1, c1, d1) from rfl]
    cases hR : isR a b c d (a1, b1, c1, d1)
    · simp
    by_cases hl : l.length = m.length
    · have hq : (List.range l.length).all (fun j => gI l j == gI m j) = decide (l = m) := all_eq l m (0 : Int) hl
      rw [hl] at hok
      rw [hq]
      simp [hl, hok]
      (repeat' split) <;> simp_all
    · have g1 : l ≠ m := fun e => hl (by rw [e])
      have g2 : ¬ ((l.length : Int) = m.length) := by omega
      simp [g1, g2]
theorem s_law_same : SoundFun Try.prog 16 G_law_same := by
  refine fun_ok (tab := t_law_same) (ann := annOf []) (lt := l_law_same) tab_nil (by kernel_rfl) (fn := Try.f16) (by kernel_rfl) (by decide) (c := bodyOf Try.f16) (by kernel_rfl) (by
    intro m b hb
    have hb' : b ∈ loopsOf (bodyOf Try.f16) := hb
    rw [o_law_same] at hb'
    simp only [List.mem_cons, List.not_mem_nil, or_false] at hb'
    rcases hb' with rfl
    · exact loop_ok (key := 4) (by kernel_rfl) rfl r_law_same_0 z_law_same_0 m
    ) ?_ (keep_nil (by kernel_rfl))
  intro args lent o y0'
  unfold G_law_same at y0'
  obtain ⟨q', args, rfl, y1'⟩ := pA_s y0'
  obtain ⟨c', q', rfl, y2'⟩ := tC_s y1'
  obtain ⟨a, rfl, y3'⟩ := kI_s y2'
  obtain ⟨c', q', rfl, y4'⟩ := tC_s y3'
  obtain ⟨b, rfl, y5'⟩ := kI_s y4'
  obtain ⟨c', q', rfl, y6'⟩ := tC_s y5'
  obtain ⟨c, rfl, y7'⟩ := kI_s y6'
  obtain ⟨c', q', rfl, y8'⟩ := tC_s y7'
  obtain ⟨d, rfl, y9'⟩ := kI_s y8'
  obtain ⟨c', q', rfl, y10'⟩ := tC_s y9'
  obtain ⟨l, rfl, y11'⟩ := kLI_s y10'
  obtain ⟨rfl, y12'⟩ := tE_s y11'
  obtain ⟨q', args, rfl, y13'⟩ := pA_s y12'
  obtain ⟨c', q', rfl, y14'⟩ := tC_s y13'
  obtain ⟨a1, rfl, y15'⟩ := kI_s y14'
  obtain ⟨c', q', rfl, y16'⟩ := tC_s y15'
  obtain ⟨b1, rfl, y17'⟩ := kI_s y16'
  obtain ⟨c', q', rfl, y18'⟩ := tC_s y17'
  obtain ⟨c1, rfl, y19'⟩ := kI_s y18'
  obtain ⟨c', q', rfl, y20'⟩ := tC_s y19'
  obtain ⟨d1, rfl, y21'⟩ := kI_s y20'
  obtain ⟨c', q', rfl, y22'⟩ := tC_s y21'
  obtain ⟨m, rfl, y23'⟩ := kLI_s y22'
  obtain ⟨rfl, y24'⟩ := tE_s y23'
  obtain ⟨rfl, y25'⟩ := pE_s y24'
  obtain ⟨rfl, y26'⟩ := nE_s y25'
  have yy' := y26'
  unfold H_law_same at yy'
  obtain ⟨hok, rfl⟩ := Prod.mk.inj (Option.some.inj yy')
  exact ⟨20, q_law_same _ _ _ _ _ _ _ _ _ _ hok⟩
theorem q_law_few (a b c d : Int) (l : List Int) (hok : true = true) : funR Try.prog t_law_few (annOf []) l_law_few 20 Try.f13 [.agg [.int .i64 a, .int .i64 b, .int .i64 c, .int .i64 d, .lst (.int .i64) l]] [] = some ⟨.one (.bool (decide (l.length ≤ 4000))), [], []⟩ := by
    refine (e_law_few ..).trans ?_
    simp
    omega
theorem s_law_few : SoundFun Try.prog 13 G_law_few := by
  refine fun_ok (tab := t_law_few) (ann := annOf []) (lt := l_law_few) tab_nil (by kernel_rfl) (fn := Try.f13) (by kernel_rfl) (by decide) (c := bodyOf Try.f13) (by kernel_rfl) (fun m b hb => absurd hb (by show b ∉ loopsOf (bodyOf Try.f13); rw [show loopsOf (bodyOf Try.f13) = [] from by kernel_rfl]; exact List.not_mem_nil)) ?_ (keep_nil (by kernel_rfl))
  intro args lent o y0'
  unfold G_law_few at y0'
  obtain ⟨q', args, rfl, y1'⟩ := pA_s y0'
  obtain ⟨c', q', rfl, y2'⟩ := tC_s y1'
  obtain ⟨a, rfl, y3'⟩ := kI_s y2'
  obtain ⟨c', q', rfl, y4'⟩ := tC_s y3'
  obtain ⟨b, rfl, y5'⟩ := kI_s y4'
  obtain ⟨c', q', rfl, y6'⟩ := tC_s y5'
  obtain ⟨c, rfl, y7'⟩ := kI_s y6'
  obtain ⟨c', q', rfl, y8'⟩ := tC_s y7'
  obtain ⟨d, rfl, y9'⟩ := kI_s y8'
  obtain ⟨c', q', rfl, y10'⟩ := tC_s y9'
  obtain ⟨l, rfl, y11'⟩ := kLI_s y10'
  obtain ⟨rfl, y12'⟩ := tE_s y11'
  obtain ⟨rfl, y13'⟩ := pE_s y12'
  obtain ⟨rfl, y14'⟩ := nE_s y13'
  have yy' := y14'
  unfold H_law_few at yy'
  obtain ⟨hok, rfl⟩ := Prod.mk.inj (Option.some.inj yy')
  exact ⟨20, q_law_few _ _ _ _ _ hok⟩
end Go.Rx.Ch05

set_option linter.unusedVariables false
set_option linter.unusedSimpArgs false
set_option maxRecDepth 100000
set_option maxHeartbeats 40000000
open Go Go.Rx Go.Proofs
namespace Go.Rx.Ch05
theorem q_awake  (hok : true = true) : funR Try.prog t_awake (annOf []) l_awake 20 Try.f12 [] [] = some ⟨.one (.bool true), [], []⟩ := by
    refine (e_awake ..).trans ?_
    kernel_rfl
theorem s_awake : SoundFun Try.prog 12 G_awake := by
  refine fun_ok (tab := t_awake) (ann := annOf []) (lt := l_awake) (tab_cons s_dwt_Bands (tab_cons s_dwt_Split (tab_cons s_dwt_Merge tab_nil))) (by kernel_rfl) (fn := Try.f12) (by kernel_rfl) (by decide) (c := bodyOf Try.f12) (by kernel_rfl) (fun m b hb => absurd hb (by show b ∉ loopsOf (bodyOf Try.f12); rw [show loopsOf (bodyOf Try.f12) = [] from by kernel_rfl]; exact List.not_mem_nil)) ?_ (keep_nil (by kernel_rfl))
  intro args lent o y0'
  unfold G_awake at y0'
  obtain ⟨rfl, y1'⟩ := pE_s y0'
  obtain ⟨rfl, y2'⟩ := nE_s y1'
  have yy' := y2'
  unfold H_awake at yy'
  obtain ⟨hok, rfl⟩ := Prod.mk.inj (Option.some.inj yy')
  exact ⟨20, q_awake hok⟩
theorem small_d {n : Nat} (h : n ≤ 16777216) : small n = true := by simp only [small, decide_eq_true_eq]; omega
theorem samePl_refl (a b c d : Int) (l : List Int) : samePl a b c d l a b c d l = true := by simp [samePl, isR]
theorem bw_le (a b c d o : Int) (h0 : 0 ≤ o) (h1 : o ≤ 3) : bw a b c d o ≤ 4096 ∧ bh a b c d o ≤ 4096 := by
  have hb := valid_b (valid_bnd (a := a) (b := b) (c := c) (d := d) h0 h1)
  unfold bw bh
  omega
theorem mat_le {n g : Nat} {f : Nat → List Int} (hn : n ≤ 4096) (hg : g ≤ 4096) : (matC n g f).length ≤ 16777216 := by
  rw [matC_len]
  exact Nat.mul_le_mul hn hg
theorem spD_le (a b c d k : Int) (l : List Int) : (spD0 a b c d k l).length ≤ 16777216 ∧ (spD1 a b c d k l).length ≤ 16777216 ∧ (spD2 a b c d k l).length ≤ 16777216 ∧ (spD3 a b c d k l).length ≤ 16777216 := by
  have h0 := bw_le a b c d 0 (by omega) (by omega)
  have h1 := bw_le a b c d 1 (by omega) (by omega)
  have h2 := bw_le a b c d 2 (by omega) (by omega)
  have h3 := bw_le a b c d 3 (by omega) (by omega)
  refine ⟨?_, ?_, ?_, ?_⟩
  · unfold spD0; split
    · exact mat_le h0.2 h0.1
    · simp
  · unfold spD1; split
    · exact mat_le h1.2 h1.1
    · simp
  · unfold spD2; split
    · exact mat_le h2.2 h0.1
    · simp
  · unfold spD3; split
    · exact mat_le h3.2 h1.1
    · simp
theorem catR_le {f : Nat → List Int} {g : Nat} : ∀ n, (∀ y, (f y).length ≤ g) → (catR f n).length ≤ n * g
  | 0, _ => by simp [catR]
  | n + 1, h => by
    have h1 := catR_le n h
    have h2 := h n
    rw [Nat.add_mul, Nat.one_mul]
    simp only [catR, List.length_append]
    omega
theorem mgErr_v {a0 b0 c0 d0 a1 b1 c1 d1 a2 b2 c2 d2 a3 b3 c3 d3 a b c d k : Int} {l0 l1 l2 l3 : List Int} (h : mgErr a0 b0 c0 d0 a1 b1 c1 d1 a2 b2 c2 d2 a3 b3 c3 d3 a b c d k l0 l1 l2 l3 = 0) : valid a b c d = true := by
  cases hv : valid a b c d
  · simp [mgErr, hv] at h
  · rfl
theorem mgL_le {e a b c d k : Int} {l0 l1 l2 l3 : List Int} (h : e = 0 → valid a b c d = true) : (mgL e a b c d k l0 l1 l2 l3).length ≤ 16777216 := by
  unfold mgL
  split
  · rename_i he
    have hb := valid_b (h he)
    have h1 := catR_le (f := mgRow (mgLo a b c d k l0 l2) (mgHi a b c d k l1 l3) (bw a b c d 0) (bw a b c d 1) a k) (g := 4096) (d - b).toNat (fun y => iv_len ..)
    have h2 : (d - b).toNat * 4096 ≤ 4096 * 4096 := Nat.mul_le_mul_right _ (by omega)
    omega
  · simp
theorem q_DwtBands (a b c d : Int) (hok : ok_DwtBands a b c d = true) : funR Try.prog t_DwtBands (annOf []) l_DwtBands 20 Try.f3 [.agg [.int .i64 a, .int .i64 b, .int .i64 c, .int .i64 d]] [] = some ⟨.one (.bool true), [], []⟩ := by
    refine (e_DwtBands ..).trans ?_
    simp [ite2_bool]
theorem s_DwtBands : SoundFun Try.prog 3 G_DwtBands := by
  refine fun_ok (tab := t_DwtBands) (ann := annOf []) (lt := l_DwtBands) (tab_cons s_dwt_Bands (tab_cons s_ref05_Bands (tab_cons s_awake tab_nil))) (by kernel_rfl) (fn := Try.f3) (by kernel_rfl) (by decide) (c := bodyOf Try.f3) (by kernel_rfl) (fun m b hb => absurd hb (by show b ∉ loopsOf (bodyOf Try.f3); rw [show loopsOf (bodyOf Try.f3) = [] from by kernel_rfl]; exact List.not_mem_nil)) ?_ (keep_nil (by kernel_rfl))
  intro args lent o y0'
  unfold G_DwtBands at y0'
  obtain ⟨q', args, rfl, y1'⟩ := pA_s y0'
  obtain ⟨c', q', rfl, y2'⟩ := tC_s y1'
  obtain ⟨a, rfl, y3'⟩ := kI_s y2'
  obtain ⟨c', q', rfl, y4'⟩ := tC_s y3'
  obtain ⟨b, rfl, y5'⟩ := kI_s y4'
  obtain ⟨c', q', rfl, y6'⟩ := tC_s y5'
  obtain ⟨c, rfl, y7'⟩ := kI_s y6'
  obtain ⟨c', q', rfl, y8'⟩ := tC_s y7'
  obtain ⟨d, rfl, y9'⟩ := kI_s y8'
  obtain ⟨rfl, y10'⟩ := tE_s y9'
  obtain ⟨rfl, y11'⟩ := pE_s y10'
  obtain ⟨rfl, y12'⟩ := nE_s y11'
  have yy' := y12'
  unfold H_DwtBands at yy'
  obtain ⟨hok, rfl⟩ := Prod.mk.inj (Option.some.inj yy')
  exact ⟨20, q_DwtBands _ _ _ _ hok⟩
theorem o_DwtSplits : loopsOf (bodyOf Try.f4) = [loopOf Try.f4 0] := by kernel_rfl
theorem q_DwtSplits (a b c d : Int) (l : List Int) (k : Int) (hok : ok_DwtSplits a b c d l k = true) : funR Try.prog t_DwtSplits (annOf []) l_DwtSplits 20 Try.f4 [.agg [.int .i64 a, .int .i64 b, .int .i64 c, .int .i64 d, .lst (.int .i64) l], .one (.int .i64 k)] [] = some ⟨.one (.bool true), [], []⟩ := by
    refine (e_DwtSplits ..).trans ?_
    simp only [ite2_bool, samePl_refl, beq_self_eq_true]
    cases hf : decide (l.length ≤ 4000)
    · rfl
    have hl : l.length ≤ 4000 := by simpa using hf
    have sl := spD_le a b c d k l
    simp only [small_d (show l.length ≤ 16777216 by omega), small_d sl.1, small_d sl.2.1, small_d sl.2.2.1, small_d sl.2.2.2, Bool.not_true, Bool.false_eq_true, if_false, if_true]
theorem s_DwtSplits : SoundFun Try.prog 4 G_DwtSplits := by
  refine fun_ok (tab := t_DwtSplits) (ann := annOf []) (lt := l_DwtSplits) (tab_cons s_awake (tab_cons s_law_few (tab_cons s_dwt_Split (tab_cons s_ref05_Split (tab_cons s_law_same tab_nil))))) (by kernel_rfl) (fn := Try.f4) (by kernel_rfl) (by decide) (c := bodyOf Try.f4) (by kernel_rfl) (by
    intro m b hb
    have hb' : b ∈ loopsOf (bodyOf Try.f4) := hb
    rw [o_DwtSplits] at hb'
    simp only [List.mem_cons, List.not_mem_nil, or_false] at hb'
    rcases hb' with rfl
    · exact loop_none (by kernel_rfl) m
    ) ?_ (keep_nil (by kernel_rfl))
  intro args lent o y0'
  unfold G_DwtSplits at y0'
  obtain ⟨q', args, rfl, y1'⟩ := pA_s y0'
  obtain ⟨c', q', rfl, y2'⟩ := tC_s y1'
  obtain ⟨a, rfl, y3'⟩ := kI_s y2'
  obtain ⟨c', q', rfl, y4'⟩ := tC_s y3'
  obtain ⟨b, rfl, y5'⟩ := kI_s y4'
  obtain ⟨c', q', rfl, y6'⟩ := tC_s y5'
  obtain ⟨c, rfl, y7'⟩ := kI_s y6'
  obtain ⟨c', q', rfl, y8'⟩ := tC_s y7'
  obtain ⟨d, rfl, y9'⟩ := kI_s y8'
  obtain ⟨c', q', rfl, y10'⟩ := tC_s y9'
  obtain ⟨l, rfl, y11'⟩ := kLI_s y10'
  obtain ⟨rfl, y12'⟩ := tE_s y11'
  obtain ⟨c', args, rfl, y13'⟩ := pO_s y12'
  obtain ⟨k, rfl, y14'⟩ := kI_s y13'
  obtain ⟨rfl, y15'⟩ := pE_s y14'
  obtain ⟨rfl, y16'⟩ := nE_s y15'
  have yy' := y16'
  unfold H_DwtSplits at yy'
  obtain ⟨hok, rfl⟩ := Prod.mk.inj (Option.some.inj yy')
  exact ⟨20, q_DwtSplits _ _ _ _ _ _ hok⟩
theorem o_DwtMerges : loopsOf (bodyOf Try.f5) = [loopOf Try.f5 0] := by kernel_rfl
theorem q_DwtMerges (a0 b0 c0 d0 : Int) (l0 : List Int) (a1 b1 c1 d1 : Int) (l1 : List Int) (a2 b2 c2 d2 : Int) (l2 : List Int) (a3 b3 c3 d3 : Int) (l3 : List Int) (a b c d k : Int) (hok : ok_DwtMerges a0 b0 c0 d0 l0 a1 b1 c1 d1 l1 a2 b2 c2 d2 l2 a3 b3 c3 d3 l3 a b c d k = true) : funR Try.prog t_DwtMerges (annOf []) l_DwtMerges 20 Try.f5 [.agg [.int .i64 a0, .int .i64 b0, .int .i64 c0, .int .i64 d0, .lst (.int .i64) l0, .int .i64 a1, .int .i64 b1, .int .i64 c1, .int .i64 d1, .lst (.int .i64) l1, .int .i64 a2, .int .i64 b2, .int .i64 c2, .int .i64 d2, .lst (.int .i64) l2, .int .i64 a3, .int .i64 b3, .int .i64 c3, .int .i64 d3, .lst (.int .i64) l3], .agg [.int .i64 a, .int .i64 b, .int .i64 c, .int .i64 d], .one (.int .i64 k)] [] = some ⟨.one (.bool true), [], []⟩ := by
    refine (e_DwtMerges ..).trans ?_
    simp only [ite2_bool, samePl_refl, beq_self_eq_true]
    have hm := fun e => mgErr_v (a0 := a0) (b0 := b0) (c0 := c0) (d0 := d0) (a1 := a1) (b1 := b1) (c1 := c1) (d1 := d1) (a2 := a2) (b2 := b2) (c2 := c2) (d2 := d2) (a3 := a3) (b3 := b3) (c3 := c3) (d3 := d3) (a := a) (b := b) (c := c) (d := d) (k := k) (l0 := l0) (l1 := l1) (l2 := l2) (l3 := l3) e
    rw [small_d (mgL_le (k := k) (l0 := l0) (l1 := l1) (l2 := l2) (l3 := l3) hm)]
    cases f0 : decide (l0.length ≤ 4000)
    · rfl
    cases f1 : decide (l1.length ≤ 4000)
    · rfl
    cases f2 : decide (l2.length ≤ 4000)
    · rfl
    cases f3 : decide (l3.length ≤ 4000)
    · rfl
    have g0 : l0.length ≤ 4000 := by simpa using f0
    have g1 : l1.length ≤ 4000 := by simpa using f1
    have g2 : l2.length ≤ 4000 := by simpa using f2
    have g3 : l3.length ≤ 4000 := by simpa using f3
    simp only [small_d (show l0.length ≤ 16777216 by omega), small_d (show l1.length ≤ 16777216 by omega), small_d (show l2.length ≤ 16777216 by omega), small_d (show l3.length ≤ 16777216 by omega), Bool.and_self, Bool.not_true, Bool.false_eq_true, if_false, if_true]
theorem s_DwtMerges : SoundFun Try.prog 5 G_DwtMerges := by
  refine fun_ok (tab := t_DwtMerges) (ann := annOf []) (lt := l_DwtMerges) (tab_cons s_awake (tab_cons s_law_few (tab_cons s_law_same (tab_cons s_dwt_Merge (tab_cons s_ref05_Merge tab_nil))))) (by kernel_rfl) (fn := Try.f5) (by kernel_rfl) (by decide) (c := bodyOf Try.f5) (by kernel_rfl) (by
    intro m b hb
    have hb' : b ∈ loopsOf (bodyOf Try.f5) := hb
    rw [o_DwtMerges] at hb'
    simp only [List.mem_cons, List.not_mem_nil, or_false] at hb'
    rcases hb' with rfl
    · exact loop_none (by kernel_rfl) m
    ) ?_ (keep_nil (by kernel_rfl))
  intro args lent o y0'
  unfold G_DwtMerges at y0'
  obtain ⟨q', args, rfl, y1'⟩ := pA_s y0'
  obtain ⟨a0, b0, c0, d0, l0, a1, b1, c1, d1, l1, a2, b2, c2, d2, l2, a3, b3, c3, d3, l3, rfl, y2'⟩ := rd4L_s y1'
  obtain ⟨q', args, rfl, y3'⟩ := pA_s y2'
  obtain ⟨c', q', rfl, y4'⟩ := tC_s y3'
  obtain ⟨a, rfl, y5'⟩ := kI_s y4'
  obtain ⟨c', q', rfl, y6'⟩ := tC_s y5'
  obtain ⟨b, rfl, y7'⟩ := kI_s y6'
  obtain ⟨c', q', rfl, y8'⟩ := tC_s y7'
  obtain ⟨c, rfl, y9'⟩ := kI_s y8'
  obtain ⟨c', q', rfl, y10'⟩ := tC_s y9'
  obtain ⟨d, rfl, y11'⟩ := kI_s y10'
  obtain ⟨rfl, y12'⟩ := tE_s y11'
  obtain ⟨c', args, rfl, y13'⟩ := pO_s y12'
  obtain ⟨k, rfl, y14'⟩ := kI_s y13'
  obtain ⟨rfl, y15'⟩ := pE_s y14'
  obtain ⟨rfl, y16'⟩ := nE_s y15'
  have yy' := y16'
  unfold H_DwtMerges at yy'
  obtain ⟨hok, rfl⟩ := Prod.mk.inj (Option.some.inj yy')
  exact ⟨20, q_DwtMerges _ _ _ _ _ _ _ _ _ _ _ _ _ _ _ _ _ _ _ _ _ _ _ _ _ hok⟩
end Go.Rx.Ch05

