/- The summaries of these functions are sound. -/
import Derived.Test.YtmkifbcadobmjaaRE13
import Derived.Test.YtmkifbcadobmjaaRS12
set_option linter.unnecessarySimpa false
set_option linter.unusedVariables false
set_option linter.unusedSimpArgs false
set_option linter.unusedVariables false
set_option linter.unusedSimpArgs false
set_option maxRecDepth 100000
set_option maxHeartbeats 4000000
open Go Go.Rx Go.Proofs
namespace Go.Rx.Ch23
theorem upd_step {α : Type} (f : α → α) (l : List α) (d : α) (j : Nat) (hj : j < l.length) :
    ((l.take j).map f ++ l.drop j).getD j d = l.getD j d ∧ ((l.take j).map f ++ l.drop j).set j (f (l.getD j d)) = (l.take (j + 1)).map f ++ l.drop (j + 1) ∧ ((l.take j).map f ++ l.drop j).length = l.length := by
  have hl : ((l.take j).map f).length = j := by rw [List.length_map, List.length_take]; omega
  have hd : l.drop j = l.getD j d :: l.drop (j + 1) := by
    rw [List.getD_eq_getElem?_getD, List.getElem?_eq_getElem hj]
    exact List.drop_eq_getElem_cons hj
  refine ⟨?_, ?_, ?_⟩
  · rw [List.getD_eq_getElem?_getD, List.getElem?_append_right (by omega), hl, Nat.sub_self, hd]
    rfl
  · rw [List.set_append_right _ _ (by omega), hl, Nat.sub_self, hd, List.set_cons_zero]
    have : l.take (j + 1) = l.take j ++ [l.getD j d] := by
      rw [List.getD_eq_getElem?_getD, List.getElem?_eq_getElem hj, List.take_succ_eq_append_getElem hj]
      rfl
    rw [this, List.map_append, List.append_assoc]
    rfl
  · rw [List.length_append, hl, List.length_drop]; omega
theorem header_flip (h : Hd) : header ⟨h.a, h.b, h.c, h.d, h.tw, h.th, h.cs.map flip1⟩ = header h := by
  have e1 : (h.cs.map flip1).all (okC ⟨h.a, h.b, h.c, h.d, h.tw, h.th, h.cs.map flip1⟩) = h.cs.all (okC h) := by rw [List.all_map]; rfl
  have e2 : (h.cs.map flip1).all (smC ⟨h.a, h.b, h.c, h.d, h.tw, h.th, h.cs.map flip1⟩) = h.cs.all (smC h) := by rw [List.all_map]; rfl
  have e3 : tiles ⟨h.a, h.b, h.c, h.d, h.tw, h.th, h.cs.map flip1⟩ = tiles h := rfl
  unfold header
  rw [e1, e2, e3]
  simp only [List.length_map]
theorem check_opts (h : Hd) (p q : Pm) : checkA h ⟨p.ke, p.le, p.co, p.bx, p.bw, p.pr, p.od, p.la, q.m1, q.m2, q.m3, q.m4, q.m5, q.dv, q.sy, q.fe, p.st, p.de, p.sf⟩ = checkA h p := by kernel_rfl
theorem r_ParamsIgnores_0 : RoundOk Try.prog t_ParamsIgnores (annOf []) l_ParamsIgnores Out 20 0 69 [3, 4, 5, 7, 8, 23, 24] (kxOf [3, 4, 5, 7, 8] [6]) (loopOf Try.f7 0) T_ParamsIgnores_0 := by
  intro vs bl Kc r h
  unfold T_ParamsIgnores_0 at h
  obtain ⟨t, y0', h'⟩ := getD_run h
  obtain ⟨c', vs, rfl, y1'⟩ := pO_s y0'
  obtain ⟨rfl, y2'⟩ := kP_s y1'
  obtain ⟨c', vs, rfl, y3'⟩ := pO_s y2'
  obtain ⟨rfl, y4'⟩ := kP_s y3'
  obtain ⟨c', vs, rfl, y5'⟩ := pO_s y4'
  obtain ⟨rfl, y6'⟩ := kP_s y5'
  obtain ⟨c', vs, rfl, y7'⟩ := pO_s y6'
  obtain ⟨rfl, y8'⟩ := kP_s y7'
  obtain ⟨c', vs, rfl, y9'⟩ := pO_s y8'
  obtain ⟨rfl, y10'⟩ := kP_s y9'
  obtain ⟨c', vs, rfl, y11'⟩ := pO_s y10'
  obtain ⟨n, rfl, y12'⟩ := kI_s y11'
  obtain ⟨c', vs, rfl, y13'⟩ := pO_s y12'
  obtain ⟨i, rfl, y14'⟩ := kI_s y13'
  obtain ⟨rfl, y15'⟩ := pE_s y14'
  obtain ⟨q', bl, rfl, y16'⟩ := bB_s y15'
  obtain ⟨h, rfl, y17'⟩ := rdHd_s y16'
  obtain ⟨q', bl, rfl, y18'⟩ := bB_s y17'
  obtain ⟨p, rfl, y19'⟩ := rdPm_s y18'
  obtain ⟨q', bl, rfl, y20'⟩ := bB_s y19'
  obtain ⟨q, rfl, y21'⟩ := rdPm_s y20'
  obtain ⟨q', bl, rfl, y22'⟩ := bB_s y21'
  obtain ⟨a1, a2, a3, a4, a5, a6, rfl, y23'⟩ := rdHR_s y22'
  obtain ⟨q', bl, rfl, y24'⟩ := bB_s y23'
  obtain ⟨b1, b2, b3, b4, b5, b6, b7, c1, c2, c3, c4, c5, c6, c7, c8, b8, b9, rfl, y25'⟩ := rdPR_s y24'
  obtain ⟨l, bl, rfl, y26'⟩ := bAC_s y25'
  obtain ⟨t, bl, rfl, y27'⟩ := bAP_s y26'
  obtain ⟨u, bl, rfl, y28'⟩ := bAI_s y27'
  obtain ⟨rfl, y29'⟩ := bE_s y28'
  have yy' := y29'
  cases yy'
  exact (b_ParamsIgnores_0 ..).trans ((congrArg (LT.runc · Kc) (tu_ParamsIgnores_0 ..)).trans h')
theorem o_ParamsIgnores : loopsOf (bodyOf Try.f7) = [loopOf Try.f7 0] := by kernel_rfl
theorem zz_ParamsIgnores_0 (h : Hd) (p q : Pm) (l : List (Int × Bool × Int × Int)) (t : List (Int × Int)) (u : List Int) (a1 a2 a3 a4 a5 a6 b1 b2 b3 b4 b5 b6 b7 b8 b9 : Int) (c1 c2 c3 c4 c5 c6 c7 c8 : Bool) (n i : Int) (hk : k_ParamsIgnores_0 h p q l t u a1 a2 a3 a4 a5 a6 b1 b2 b3 b4 b5 b6 b7 b8 b9 c1 c2 c3 c4 c5 c6 c7 c8 n i = true) : ∃ k, ∀ (K : Ex → List V → List (Option Blk) → Option Out) r, (c_ParamsIgnores_0 h p q l t u a1 a2 a3 a4 a5 a6 b1 b2 b3 b4 b5 b6 b7 b8 b9 c1 c2 c3 c4 c5 c6 c7 c8 n i).run K = some r → (iter T_ParamsIgnores_0 k [.one (.ptr 0 0), .one (.ptr 1 0), .one (.ptr 2 0), .one (.ptr 3 0), .one (.ptr 4 0), .one (.int .i64 n), .one (.int .i64 i)] [some (.box (hdC h)), some (.box (pmC p)), some (.box (pmC q)), some (.box [.int .i64 a1, .int .i64 a2, .int .i64 a3, .int .i64 a4, .int .i64 a5, .int .i64 a6, .row 5]), some (.box [.int .i64 b1, .int .i64 b2, .int .i64 b3, .int .i64 b4, .int .i64 b5, .row 6, .int .i64 b6, .int .i64 b7, .bool c1, .bool c2, .bool c3, .bool c4, .bool c5, .bool c6, .bool c7, .bool c8, .row 7, .int .i64 b8, .int .i64 b9]), some (.arr 54 (.pair (.int .i64) (.pair .bool (.pair (.int .i64) (.int .i64)))) l), some (.arr 43 (.pair (.int .i64) (.int .i64)) t), some (.arr 3 (.int .i64) u)]).run K = some r := by
  simp only [k_ParamsIgnores_0, Bool.and_eq_true, decide_eq_true_eq] at hk
  obtain ⟨⟨rfl, rfl⟩, hl⟩ := hk
  have hsm : small l.length = true := by simp only [small, decide_eq_true_eq]; omega
  refine Exists.elim (z_fold (T := T_ParamsIgnores_0) (st := fun j => ([.one (.ptr 0 0), .one (.ptr 1 0), .one (.ptr 2 0), .one (.ptr 3 0), .one (.ptr 4 0), .one (.int .i64 (l.length : Int)), .one (.int .i64 (j : Int))], [some (.box (hdC h)), some (.box (pmC p)), some (.box (pmC q)), some (.box [.int .i64 a1, .int .i64 a2, .int .i64 a3, .int .i64 a4, .int .i64 a5, .int .i64 a6, .row 5]), some (.box [.int .i64 b1, .int .i64 b2, .int .i64 b3, .int .i64 b4, .int .i64 b5, .row 6, .int .i64 b6, .int .i64 b7, .bool c1, .bool c2, .bool c3, .bool c4, .bool c5, .bool c6, .bool c7, .bool c8, .row 7, .int .i64 b8, .int .i64 b9]), some (.arr 54 (.pair (.int .i64) (.pair .bool (.pair (.int .i64) (.int .i64)))) ((l.take j).map flip1 ++ l.drop j)), some (.arr 43 (.pair (.int .i64) (.int .i64)) t), some (.arr 3 (.int .i64) u)])) l.length (c_ParamsIgnores_0 h p q l t u a1 a2 a3 a4 a5 a6 b1 b2 b3 b4 b5 b6 b7 b8 b9 c1 c2 c3 c4 c5 c6 c7 c8 (l.length : Int) 0) (fun j hj F K => ?_) (fun F K => ?_)) (fun k hk => ⟨k, fun K r h => ?_⟩)
  · obtain ⟨g1, g2, g3⟩ := upd_step flip1 l (0, false, 0, 0) j hj
    simp only [tu_ParamsIgnores_0, U_ParamsIgnores_0, LT.next, LT.run, ite2_bool, decide_eq_true_eq, Int.toNat_natCast, gC, g1, g3]
    have e : ∀ c : Int × Bool × Int × Int, (c.1, !c.2.1, c.2.2.1, c.2.2.2) = flip1 c := fun _ => rfl
    rw [if_pos (by omega), if_pos (by omega), if_pos hj, if_pos (by omega), if_pos hj, wrap_next hj hsm, ← g2]
    rfl
  · simp only [tu_ParamsIgnores_0, U_ParamsIgnores_0, LT.next, LT.run, ite2_bool, decide_eq_true_eq]
    rw [if_neg (by omega)]
    rw [List.take_of_length_le (Nat.le_refl _), List.drop_of_length_le (Nat.le_refl _), List.append_nil]
    rfl
  · exact hk K r h
theorem z_ParamsIgnores_0 : ∀ vs bl t, S_ParamsIgnores_0 vs bl = some (true, t) → ∃ n, ∀ (K : Ex → List V → List (Option Blk) → Option Out) r, t.run K = some r → (iter T_ParamsIgnores_0 n vs bl).run K = some r := by
  intro vs bl t y0'
  unfold S_ParamsIgnores_0 at y0'
  obtain ⟨c', vs, rfl, y1'⟩ := pO_s y0'
  obtain ⟨rfl, y2'⟩ := kP_s y1'
  obtain ⟨c', vs, rfl, y3'⟩ := pO_s y2'
  obtain ⟨rfl, y4'⟩ := kP_s y3'
  obtain ⟨c', vs, rfl, y5'⟩ := pO_s y4'
  obtain ⟨rfl, y6'⟩ := kP_s y5'
  obtain ⟨c', vs, rfl, y7'⟩ := pO_s y6'
  obtain ⟨rfl, y8'⟩ := kP_s y7'
  obtain ⟨c', vs, rfl, y9'⟩ := pO_s y8'
  obtain ⟨rfl, y10'⟩ := kP_s y9'
  obtain ⟨c', vs, rfl, y11'⟩ := pO_s y10'
  obtain ⟨n, rfl, y12'⟩ := kI_s y11'
  obtain ⟨c', vs, rfl, y13'⟩ := pO_s y12'
  obtain ⟨i, rfl, y14'⟩ := kI_s y13'
  obtain ⟨rfl, y15'⟩ := pE_s y14'
  obtain ⟨q', bl, rfl, y16'⟩ := bB_s y15'
  obtain ⟨h, rfl, y17'⟩ := rdHd_s y16'
  obtain ⟨q', bl, rfl, y18'⟩ := bB_s y17'
  obtain ⟨p, rfl, y19'⟩ := rdPm_s y18'
  obtain ⟨q', bl, rfl, y20'⟩ := bB_s y19'
  obtain ⟨q, rfl, y21'⟩ := rdPm_s y20'
  obtain ⟨q', bl, rfl, y22'⟩ := bB_s y21'
  obtain ⟨a1, a2, a3, a4, a5, a6, rfl, y23'⟩ := rdHR_s y22'
  obtain ⟨q', bl, rfl, y24'⟩ := bB_s y23'
  obtain ⟨b1, b2, b3, b4, b5, b6, b7, c1, c2, c3, c4, c5, c6, c7, c8, b8, b9, rfl, y25'⟩ := rdPR_s y24'
  obtain ⟨l, bl, rfl, y26'⟩ := bAC_s y25'
  obtain ⟨t, bl, rfl, y27'⟩ := bAP_s y26'
  obtain ⟨u, bl, rfl, y28'⟩ := bAI_s y27'
  obtain ⟨rfl, y29'⟩ := bE_s y28'
  have yy' := y29'
  obtain ⟨hk, rfl⟩ := Prod.mk.inj (Option.some.inj yy')
  exact zz_ParamsIgnores_0 _ _ _ _ _ _ _ _ _ _ _ _ _ _ _ _ _ _ _ _ _ _ _ _ _ _ _ _ _ _ _ hk
theorem q_ParamsIgnores (h : Hd) (p q : Pm) (hok : ok_ParamsIgnores h p q = true) : funR Try.prog t_ParamsIgnores (annOf []) l_ParamsIgnores 20 Try.f7 [.agg (hdC h), .agg (pmC p), .agg (pmC q)] [] = some ⟨.one (.bool true), [], []⟩ := by
    refine (e_ParamsIgnores ..).trans ?_
    cases hf : few h p
    · rfl
    have hs := few_small hf
    have hl : h.cs.length ≤ 10 ∧ p.st.length ≤ 40 ∧ p.pr.length ≤ 40 := by
      simp only [few, Bool.and_eq_true, decide_eq_true_eq] at hf
      exact ⟨hf.1.1, hf.1.2, hf.2⟩
    have h1 : (decide (h.cs.length ≤ 1000000) && decide (p.pr.length ≤ 1000000) && decide (p.st.length ≤ 1000000)) = true := by
      simp only [Bool.and_eq_true, decide_eq_true_eq]; omega
    have h2 : k_ParamsIgnores_0 h p q h.cs p.pr p.st h.a h.b h.c h.d h.tw h.th p.ke p.le p.co p.bx p.bw p.od p.la p.de p.sf p.m1 p.m2 p.m3 p.m4 p.m5 p.dv p.sy p.fe (h.cs.length : Int) 0 = true := by
      simp only [k_ParamsIgnores_0, Bool.and_eq_true, decide_eq_true_eq, true_and]; omega
    simp only [h1, h2, ite2_bool, List.length_map, hs, header_flip, check_opts, if_true, Bool.and_self, Bool.not_true, Bool.false_eq_true, if_false, beq_self_eq_true]
theorem s_ParamsIgnores : SoundFun Try.prog 7 G_ParamsIgnores := by
  refine fun_ok (tab := t_ParamsIgnores) (ann := annOf []) (lt := l_ParamsIgnores) (tab_cons s_awake (tab_cons s_params_Header (tab_cons s_few_ (tab_cons s_params_Check (tab_cons s_params_Clone tab_nil))))) (by kernel_rfl) (fn := Try.f7) (by kernel_rfl) (by decide) (c := bodyOf Try.f7) (by kernel_rfl) (by
    intro m b hb
    have hb' : b ∈ loopsOf (bodyOf Try.f7) := hb
    rw [o_ParamsIgnores] at hb'
    simp only [List.mem_cons, List.not_mem_nil, or_false] at hb'
    rcases hb' with rfl
    · exact loop_ok (key := 5) (by kernel_rfl) rfl r_ParamsIgnores_0 z_ParamsIgnores_0 m
    ) ?_
  intro args lent o y0'
  unfold G_ParamsIgnores at y0'
  obtain ⟨q', args, rfl, y1'⟩ := pA_s y0'
  obtain ⟨h, rfl, y2'⟩ := rdHd_s y1'
  obtain ⟨q', args, rfl, y3'⟩ := pA_s y2'
  obtain ⟨p, rfl, y4'⟩ := rdPm_s y3'
  obtain ⟨q', args, rfl, y5'⟩ := pA_s y4'
  obtain ⟨q, rfl, y6'⟩ := rdPm_s y5'
  obtain ⟨rfl, y7'⟩ := pE_s y6'
  obtain ⟨rfl, y8'⟩ := nE_s y7'
  have yy' := y8'
  unfold H_ParamsIgnores at yy'
  obtain ⟨hok, rfl⟩ := Prod.mk.inj (Option.some.inj yy')
  exact ⟨20, q_ParamsIgnores _ _ _ hok⟩
end Go.Rx.Ch23
