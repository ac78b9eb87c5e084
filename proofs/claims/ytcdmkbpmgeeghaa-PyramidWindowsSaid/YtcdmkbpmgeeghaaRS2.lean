/- The summaries of these functions are sound. -/
import Derived.Test.YtcdmkbpmgeeghaaRE0
import Derived.Test.YtcdmkbpmgeeghaaRS1
import Derived.Test.YtcdmkbpmgeeghaaRxD
set_option linter.unnecessarySimpa false
set_option linter.unusedVariables false
set_option linter.unusedSimpArgs false
set_option maxRecDepth 100000
set_option maxHeartbeats 40000000
open Go Go.Rx Go.Proofs
namespace Go.Rx.Ch06
theorem q_pl_width (a b c d : Int) (l : List Int) (hok : true = true) : funR Try.prog t_pl_width (annOf []) l_pl_width 20 Try.f86 [.agg [.int .i64 a, .int .i64 b, .int .i64 c, .int .i64 d, .lst (.int .i64) l]] [] = some ⟨.one (.int .i64 (w (c - a))), [], []⟩ := by
    refine (e_pl_width ..).trans ?_
    rfl
theorem s_pl_width : SoundFun Try.prog 86 G_pl_width := by
  refine fun_ok (tab := t_pl_width) (ann := annOf []) (lt := l_pl_width) tab_nil (by kernel_rfl) (fn := Try.f86) (by kernel_rfl) (by decide) (c := bodyOf Try.f86) (by kernel_rfl) (no_loops (by kernel_rfl)) ?_ (keep_nil (by kernel_rfl))
  intro args lent o y0'
  unfold G_pl_width at y0'
  obtain ⟨q', args, rfl, y1'⟩ := pA_s y0'
  obtain ⟨a, b, c, d, q', rfl, y2'⟩ := t4_s y1'
  obtain ⟨c', q', rfl, y3'⟩ := tC_s y2'
  obtain ⟨l, rfl, y4'⟩ := kLI_s y3'
  obtain ⟨rfl, y5'⟩ := tE_s y4'
  obtain ⟨rfl, y6'⟩ := pE_s y5'
  obtain ⟨rfl, y7'⟩ := nE_s y6'
  have yy' := y7'
  unfold H_pl_width at yy'
  obtain ⟨hok, rfl⟩ := Prod.mk.inj (Option.some.inj yy')
  exact ⟨20, q_pl_width _ _ _ _ _ hok⟩
theorem q_pl_Valid (a b c d : Int) (l : List Int) (hok : true = true) : funR Try.prog t_pl_Valid (annOf []) l_pl_Valid 20 Try.f39 [.agg [.int .i64 a, .int .i64 b, .int .i64 c, .int .i64 d, .lst (.int .i64) l]] [] = some ⟨.one (.bool (plV a b c d l)), [], []⟩ := by
    refine (e_pl_Valid ..).trans ?_
    simp only [ite2_dec, ite2_bool, mx_eq, mn_eq, plV]
    (repeat' split) <;> (try simp_all) <;> (try omega) <;> (try (rw [Bool.eq_iff_iff]; simp; omega)) <;> (try (rw [Bool.eq_iff_iff]; simp))
theorem s_pl_Valid : SoundFun Try.prog 39 G_pl_Valid := by
  refine fun_ok (tab := t_pl_Valid) (ann := annOf []) (lt := l_pl_Valid) (tab_cons s_rect_Valid (tab_cons s_rect_Area tab_nil)) (by kernel_rfl) (fn := Try.f39) (by kernel_rfl) (by decide) (c := bodyOf Try.f39) (by kernel_rfl) (no_loops (by kernel_rfl)) ?_ (keep_nil (by kernel_rfl))
  intro args lent o y0'
  unfold G_pl_Valid at y0'
  obtain ⟨q', args, rfl, y1'⟩ := pA_s y0'
  obtain ⟨a, b, c, d, q', rfl, y2'⟩ := t4_s y1'
  obtain ⟨c', q', rfl, y3'⟩ := tC_s y2'
  obtain ⟨l, rfl, y4'⟩ := kLI_s y3'
  obtain ⟨rfl, y5'⟩ := tE_s y4'
  obtain ⟨rfl, y6'⟩ := pE_s y5'
  obtain ⟨rfl, y7'⟩ := nE_s y6'
  have yy' := y7'
  unfold H_pl_Valid at yy'
  obtain ⟨hok, rfl⟩ := Prod.mk.inj (Option.some.inj yy')
  exact ⟨20, q_pl_Valid _ _ _ _ _ hok⟩
theorem prod_b5 {x y m n : Int} (h0 : 0 ≤ x) (h1 : x ≤ m) (h2 : 0 ≤ y) (h3 : y ≤ n) : 0 ≤ x * y ∧ x * y ≤ m * n :=
  ⟨Int.mul_nonneg h0 h2, Int.mul_le_mul h1 h3 h2 (by omega)⟩
theorem marg_k (k : Int) : decide (marg k > 0) = inr 1 3 k := by
  unfold marg
  by_cases h1 : k = 1
  · subst h1; rfl
  by_cases h2 : k = 2
  · subst h2; rfl
  by_cases h3 : k = 3
  · subst h3; rfl
  have h4 : inr 1 3 k = false := by simp [inr]; omega
  have h5 : inr 1 2 k = false := by simp [inr]; omega
  simp [h3, h4, h5]
theorem plV_b {a b c d : Int} {l : List Int} (h : plV a b c d l = true) : valid a b c d = true ∧ (0 ≤ a ∧ a ≤ c ∧ c ≤ 4096 ∧ 0 ≤ b ∧ b ≤ d ∧ d ≤ 4096) ∧ (l.length : Int) = (c - a) * (d - b) ∧ (c - a) * (d - b) ≤ 1048576 ∧ 0 ≤ (c - a) * (d - b) := by
  simp only [plV, Bool.and_eq_true, decide_eq_true_eq] at h
  have hb := valid_b h.1.1
  have m := prod_b5 (show 0 ≤ c - a by omega) (show c - a ≤ 4096 by omega) (show 0 ≤ d - b by omega) (show d - b ≤ 4096 by omega)
  have e : area a b c d = (c - a) * (d - b) := by
    unfold area w
    rw [if_pos h.1.1, wrap_in (n := c - a) (by omega) (by omega), wrap_in (n := d - b) (by omega) (by omega), wrap_in (by omega) (by omega)]
  rw [e] at h
  exact ⟨h.1.1, hb, h.2, h.1.2, m.1⟩
theorem area_v {a b c d : Int} (h : valid a b c d = true) : area a b c d = (c - a) * (d - b) ∧ 0 ≤ area a b c d ∧ area a b c d ≤ 16777216 := by
  have hb := valid_b h
  have m := prod_b5 (show 0 ≤ c - a by omega) (show c - a ≤ 4096 by omega) (show 0 ≤ d - b by omega) (show d - b ≤ 4096 by omega)
  have e : area a b c d = (c - a) * (d - b) := by
    unfold area w
    rw [if_pos h, wrap_in (n := c - a) (by omega) (by omega), wrap_in (n := d - b) (by omega) (by omega), wrap_in (by omega) (by omega)]
  omega
theorem idx_b {i w h : Int} (h0 : 0 ≤ i) (h1 : i < h) (hw : 0 ≤ w) : 0 ≤ i * w ∧ i * w + w ≤ w * h := by
  have m1 := Int.mul_nonneg h0 hw
  have m2 : (i + 1) * w ≤ h * w := Int.mul_le_mul_of_nonneg_right (by omega) hw
  rw [Int.add_mul, Int.one_mul, Int.mul_comm h] at m2
  omega
theorem q_dwt_known (k : Int) (hok : true = true) : funR Try.prog t_dwt_known (annOf []) l_dwt_known 20 Try.f65 [.one (.int .i64 k)] [] = some ⟨.one (.bool (inr 1 3 k)), [], []⟩ := by
    refine (e_dwt_known ..).trans ?_
    rw [marg_k]
theorem s_dwt_known : SoundFun Try.prog 65 G_dwt_known := by
  refine fun_ok (tab := t_dwt_known) (ann := annOf []) (lt := l_dwt_known) (tab_cons s_lift_Margin tab_nil) (by kernel_rfl) (fn := Try.f65) (by kernel_rfl) (by decide) (c := bodyOf Try.f65) (by kernel_rfl) (no_loops (by kernel_rfl)) ?_ (keep_nil (by kernel_rfl))
  intro args lent o y0'
  unfold G_dwt_known at y0'
  obtain ⟨k, args, rfl, y1'⟩ := pI_s y0'
  obtain ⟨rfl, y2'⟩ := pE_s y1'
  obtain ⟨rfl, y3'⟩ := nE_s y2'
  have yy' := y3'
  unfold H_dwt_known at yy'
  obtain ⟨hok, rfl⟩ := Prod.mk.inj (Option.some.inj yy')
  exact ⟨20, q_dwt_known _ hok⟩
theorem d_dwt_exceeds_0 {α : Type} {vs : List V} {bl : List (Option Blk)} {K} {r0' : α} {Q : Prop} (y0' : D_dwt_exceeds_0 vs bl K = some r0') (hh' : ∀ (b : Int) (l : List Int) (n : Int) (i : Int), vs = [.one (.int .i64 b), .one (.lst (.int .i64) l), .one (.int .i64 n), .one (.int .i64 i)] → bl = [] → K b l n i = some r0' → Q) : Q := by
  unfold D_dwt_exceeds_0 at y0'
  obtain ⟨b, vs, rfl, y1'⟩ := pI_s y0'
  obtain ⟨c', vs, rfl, y2'⟩ := pO_s y1'
  obtain ⟨l, rfl, y3'⟩ := kLI_s y2'
  obtain ⟨n, vs, rfl, y4'⟩ := pI_s y3'
  obtain ⟨i, vs, rfl, y5'⟩ := pI_s y4'
  obtain ⟨rfl, y6'⟩ := pE_s y5'
  obtain ⟨rfl, y7'⟩ := bE_s y6'
  have yy' := y7'
  exact hh' _ _ _ _ rfl rfl yy'
theorem r_dwt_exceeds_0 : RoundOk Try.prog t_dwt_exceeds (annOf []) l_dwt_exceeds Out 20 0 23 [1, 7, 8, 9] (kxOf [] [4]) (loopOf Try.f66 0) T_dwt_exceeds_0 := by
  intro vs bl Kc r h
  unfold T_dwt_exceeds_0 at h
  obtain ⟨t, y0', h'⟩ := getD_run h
  refine d_dwt_exceeds_0 y0' fun b l n i u1' u2' yy' => ?_
  subst u1' u2'
  cases yy'
  exact (b_dwt_exceeds_0 ..).trans h'
theorem o_dwt_exceeds : loopsOf (bodyOf Try.f66) = [loopOf Try.f66 0] := by kernel_rfl
theorem zz_dwt_exceeds_0 (b : Int) (l : List Int) (hsm : small (l.length) = true) (hc : (decide (0 ≤ b) && decide (b ≤ 4503599627370496)) = true) : ZZ (c_dwt_exceeds_0 b l) T_dwt_exceeds_0 [.one (.int .i64 b), .one (.lst (.int .i64) l), .one (.int .i64 (l.length : Int)), .one (.int .i64 0)] [] := by
  refine z_list (st := fun i => ([.one (.int .i64 b), .one (.lst (.int .i64) l), .one (.int .i64 (l.length : Int)), .one (.int .i64 ((i : Nat) : Int))], [])) l 0 (inr (-b) b) _ _ (fun i hi F K => ?_) (fun F K => ?_)
  · have hi' : (i : Int) < (l.length : Int) := by omega
    have hc' := hc
    simp only [Bool.and_eq_true, decide_eq_true_eq] at hc'
    simp only [tu_dwt_exceeds_0, U_dwt_exceeds_0, LT.next, LT.run, ite2_dec, ite2_bool, wrap_next hi hsm, Int.toNat_natCast, hi', Int.natCast_nonneg, and_self, if_true, gI, gP, gC, gR]
    rw [show (0 : Int) - b = -b by omega, wrap_in (n := -b) (by omega) (by omega)]
    simp only [inr, Bool.and_eq_true, decide_eq_true_eq]
    by_cases h1 : l[i]?.getD 0 < -b
    · have h3 : ¬ -b ≤ l[i]?.getD 0 := by omega
      simp [h1, h3, gI]
    by_cases h2 : b < l[i]?.getD 0
    · have h3 : ¬ l[i]?.getD 0 ≤ b := by omega
      simp [h1, h2, h3, gI]
    have h3 : -b ≤ l[i]?.getD 0 := by omega
    have h4 : l[i]?.getD 0 ≤ b := by omega
    have h5 : ¬ b < l[i]?.getD 0 := by omega
    simp [h1, h3, h4, h5, gI]
  · simp only [tu_dwt_exceeds_0, U_dwt_exceeds_0, LT.next, LT.run, ite2_dec, Int.lt_irrefl, if_false]
    try rfl
theorem z_dwt_exceeds_0 : ZOk S_dwt_exceeds_0 T_dwt_exceeds_0 := by
  intro vs bl t y0'
  refine d_dwt_exceeds_0 y0' fun b l n i u1' u2' yy' => ?_
  subst u1' u2'
  obtain ⟨hk, rfl⟩ := Prod.mk.inj (Option.some.inj yy')
  unfold k_dwt_exceeds_0 at hk
  simp only [Bool.and_eq_true, decide_eq_true_eq, and_assoc] at hk
  obtain ⟨rfl, rfl, hsm, hc⟩ := hk
  exact zz_dwt_exceeds_0 _ _ hsm (by first | exact hc | simpa using hc | simpa only [Bool.and_eq_true, decide_eq_true_eq, and_assoc] using hc)
theorem q_dwt_exceeds (l : List Int) (b : Int) (hok : (small l.length && (decide (0 ≤ b) && decide (b ≤ 4503599627370496))) = true) : funR Try.prog t_dwt_exceeds (annOf []) l_dwt_exceeds 20 Try.f66 [.one (.lst (.int .i64) l), .one (.int .i64 b)] [] = some ⟨.one (.bool (!fitB b l)), [], []⟩ := by
    refine (e_dwt_exceeds ..).trans ?_
    simp only [ite2_bool, k_dwt_exceeds_0, p_dwt_exceeds_0, hok, Bool.and_true, decide_true, Bool.true_and]
    simp only [Bool.and_eq_true] at hok
    simp [hok, fitB]
    (repeat' split) <;> simp_all
theorem s_dwt_exceeds : SoundFun Try.prog 66 G_dwt_exceeds := by
  refine fun_ok (tab := t_dwt_exceeds) (ann := annOf []) (lt := l_dwt_exceeds) tab_nil (by kernel_rfl) (fn := Try.f66) (by kernel_rfl) (by decide) (c := bodyOf Try.f66) (by kernel_rfl) (by
    intro m b hb
    have hb' : b ∈ loopsOf (bodyOf Try.f66) := hb
    rw [o_dwt_exceeds] at hb'
    simp only [List.mem_cons, List.not_mem_nil, or_false] at hb'
    rcases hb' with rfl
    · exact loop_ok (key := 2) (by kernel_rfl) rfl r_dwt_exceeds_0 z_dwt_exceeds_0 m
    ) ?_ (keep_nil (by kernel_rfl))
  intro args lent o y0'
  unfold G_dwt_exceeds at y0'
  obtain ⟨c', args, rfl, y1'⟩ := pO_s y0'
  obtain ⟨l, rfl, y2'⟩ := kLI_s y1'
  obtain ⟨b, args, rfl, y3'⟩ := pI_s y2'
  obtain ⟨rfl, y4'⟩ := pE_s y3'
  obtain ⟨rfl, y5'⟩ := nE_s y4'
  have yy' := y5'
  unfold H_dwt_exceeds at yy'
  obtain ⟨hok, rfl⟩ := Prod.mk.inj (Option.some.inj yy')
  exact ⟨20, q_dwt_exceeds _ _ hok⟩
theorem q_dwt_empty (a b c d : Int) (hok : valid a b c d = true) : funR Try.prog t_dwt_empty (annOf []) l_dwt_empty 20 Try.f69 [.agg [.int .i64 a, .int .i64 b, .int .i64 c, .int .i64 d]] [] = some ⟨.agg [.int .i64 (a), .int .i64 (b), .int .i64 (c), .int .i64 (d), .row 0], [], [.arr 3 (.int .i64) (zer (area a b c d))]⟩ := by
    refine (e_dwt_empty ..).trans ?_
    have h := area_v hok
    simp only [ite2_bool, decide_eq_true_eq]
    rw [if_pos (by omega)]
    rfl
theorem s_dwt_empty : SoundFun Try.prog 69 G_dwt_empty := by
  refine fun_ok (tab := t_dwt_empty) (ann := annOf []) (lt := l_dwt_empty) (tab_cons s_rect_Area tab_nil) (by kernel_rfl) (fn := Try.f69) (by kernel_rfl) (by decide) (c := bodyOf Try.f69) (by kernel_rfl) (no_loops (by kernel_rfl)) ?_ (keep_nil (by kernel_rfl))
  intro args lent o y0'
  unfold G_dwt_empty at y0'
  obtain ⟨q', args, rfl, y1'⟩ := pA_s y0'
  obtain ⟨a, b, c, d, q', rfl, y2'⟩ := t4_s y1'
  obtain ⟨rfl, y3'⟩ := tE_s y2'
  obtain ⟨rfl, y4'⟩ := pE_s y3'
  obtain ⟨rfl, y5'⟩ := nE_s y4'
  have yy' := y5'
  unfold H_dwt_empty at yy'
  obtain ⟨hok, rfl⟩ := Prod.mk.inj (Option.some.inj yy')
  exact ⟨20, q_dwt_empty _ _ _ _ hok⟩
theorem q_pl_Row (a b c d : Int) (l : List Int) (y : Int) (hok : true = true) : funR Try.prog t_pl_Row (annOf []) l_pl_Row 20 Try.f67 [.agg [.int .i64 a, .int .i64 b, .int .i64 c, .int .i64 d, .lst (.int .i64) l], .one (.int .i64 y)] [] = some ⟨.tup [(false, [.row 0]), (false, [.bool (rowOk a b c d l y)])], [], [.arr 3 (.int .i64) (plRow a b c d l y)]⟩ := by
    refine (e_pl_Row ..).trans ?_
    simp only [ite2_bool, decide_eq_true_eq, plRow]
    cases h : rowOk a b c d l y
    · have : plV a b c d l = false ∨ y < b ∨ y ≥ d := by
        by_cases hv : plV a b c d l = true
        · simp [rowOk, hv] at h; omega
        · exact .inl (by simpa using hv)
      rcases this with h1 | h1 | h1
      · simp [h1]
      · simp [h1]
      · simp [h1]
    have h' := h
    simp only [rowOk, Bool.and_eq_true, decide_eq_true_eq] at h'
    have pb := plV_b h'.1.1
    have ib := idx_b (i := y - b) (w := c - a) (h := d - b) (by omega) (by omega) (by omega)
    rw [h'.1.1, wrap_in (n := c - a) (by omega) (by omega), wrap_in (n := y - b) (by omega) (by omega), wrap_in (n := (y - b) * (c - a)) (by omega) (by omega), if_neg (by decide), if_neg (by omega), if_neg (by omega), if_pos (by omega), if_pos (by simp; omega)]
    have e : List.take (List.length (List.replicate (c - a).toNat (0 : Int))) (List.take (l.length - ((y - b) * (c - a)).toNat) (List.drop ((y - b) * (c - a)).toNat l)) ++ List.drop (min (List.length (List.take (l.length - ((y - b) * (c - a)).toNat) (List.drop ((y - b) * (c - a)).toNat l))) (List.length (List.replicate (c - a).toNat (0 : Int)))) (List.replicate (c - a).toNat (0 : Int)) = (l.drop ((y - b) * (c - a)).toNat).take (c - a).toNat := by
      have h1 : List.take (l.length - ((y - b) * (c - a)).toNat) (List.drop ((y - b) * (c - a)).toNat l) = List.drop ((y - b) * (c - a)).toNat l := List.take_of_length_le (by simp)
      rw [h1, List.length_replicate, List.length_drop, show List.drop (min (l.length - ((y - b) * (c - a)).toNat) (c - a).toNat) (List.replicate (c - a).toNat (0 : Int)) = [] from List.drop_eq_nil_of_le (by rw [List.length_replicate]; omega), List.append_nil]
    rw [if_pos rfl]
    exact congrArg (fun z => some (⟨.tup [(false, [.row 0]), (false, [.bool true])], [], [.arr 3 (.int .i64) z]⟩ : Out)) e
theorem s_pl_Row : SoundFun Try.prog 67 G_pl_Row := by
  refine fun_ok (tab := t_pl_Row) (ann := annOf []) (lt := l_pl_Row) (tab_cons s_pl_Valid (tab_cons s_pl_width tab_nil)) (by kernel_rfl) (fn := Try.f67) (by kernel_rfl) (by decide) (c := bodyOf Try.f67) (by kernel_rfl) (no_loops (by kernel_rfl)) ?_ (keep_nil (by kernel_rfl))
  intro args lent o y0'
  unfold G_pl_Row at y0'
  obtain ⟨q', args, rfl, y1'⟩ := pA_s y0'
  obtain ⟨a, b, c, d, q', rfl, y2'⟩ := t4_s y1'
  obtain ⟨c', q', rfl, y3'⟩ := tC_s y2'
  obtain ⟨l, rfl, y4'⟩ := kLI_s y3'
  obtain ⟨rfl, y5'⟩ := tE_s y4'
  obtain ⟨y, args, rfl, y6'⟩ := pI_s y5'
  obtain ⟨rfl, y7'⟩ := pE_s y6'
  obtain ⟨rfl, y8'⟩ := nE_s y7'
  have yy' := y8'
  unfold H_pl_Row at yy'
  obtain ⟨hok, rfl⟩ := Prod.mk.inj (Option.some.inj yy')
  exact ⟨20, q_pl_Row _ _ _ _ _ _ hok⟩
theorem d_pl_Column_0 {α : Type} {vs : List V} {bl : List (Option Blk)} {K} {r0' : α} {Q : Prop} (y0' : D_pl_Column_0 vs bl K = some r0') (hh' : ∀ (a : Int) (b : Int) (c : Int) (d : Int) (i : Int) (l : List Int) (v : List Int), vs = [.one (.ptr 0 0), .one (.row 1), .one (.int .i64 i)] → bl = [some (.box [.int .i64 a, .int .i64 b, .int .i64 c, .int .i64 d, .lst (.int .i64) l]), some (.arr 3 (.int .i64) v)] → K a b c d i l v = some r0' → Q) : Q := by
  unfold D_pl_Column_0 at y0'
  obtain ⟨vs, rfl, y1'⟩ := pP_s y0'
  obtain ⟨c', vs, rfl, y2'⟩ := pO_s y1'
  obtain ⟨rfl, y3'⟩ := kR_s y2'
  obtain ⟨i, vs, rfl, y4'⟩ := pI_s y3'
  obtain ⟨rfl, y5'⟩ := pE_s y4'
  obtain ⟨q', bl, rfl, y6'⟩ := bB_s y5'
  obtain ⟨a, b, c, d, q', rfl, y7'⟩ := t4_s y6'
  obtain ⟨c', q', rfl, y8'⟩ := tC_s y7'
  obtain ⟨l, rfl, y9'⟩ := kLI_s y8'
  obtain ⟨rfl, y10'⟩ := tE_s y9'
  obtain ⟨v, bl, rfl, y11'⟩ := bAI_s y10'
  obtain ⟨rfl, y12'⟩ := bE_s y11'
  have yy' := y12'
  exact hh' _ _ _ _ _ _ _ rfl rfl yy'
theorem r_pl_Column_0 : RoundOk Try.prog t_pl_Column (annOf []) l_pl_Column Out 20 0 56 [2, 6, 7] (kxOf [6] [4, 5]) (loopOf Try.f71 0) T_pl_Column_0 := by
  intro vs bl Kc r h
  unfold T_pl_Column_0 at h
  obtain ⟨t, y0', h'⟩ := getD_run h
  refine d_pl_Column_0 y0' fun a b c d i l v u1' u2' yy' => ?_
  subst u1' u2'
  cases yy'
  exact (b_pl_Column_0 ..).trans h'
theorem o_pl_Column : loopsOf (bodyOf Try.f71) = [loopOf Try.f71 0] := by kernel_rfl
theorem zz_pl_Column_0 (a b c d i : Int) (l v : List Int) (hk : k_pl_Column_0 a b c d i l v = true) : ZZ (c_pl_Column_0 a b c d i l v) T_pl_Column_0 [.one (.ptr 0 0), .one (.row 1), .one (.int .i64 i)] [some (.box [.int .i64 a, .int .i64 b, .int .i64 c, .int .i64 d, .lst (.int .i64) l]), some (.arr 3 (.int .i64) v)] := by
  simp only [k_pl_Column_0, Bool.and_eq_true, decide_eq_true_eq] at hk
  obtain ⟨⟨hv, h0, h1⟩, rfl⟩ := hk
  have pb := plV_b hv
  obtain ⟨x, rfl⟩ : ∃ x : Nat, i = x := ⟨i.toNat, by omega⟩
  obtain ⟨w', hw⟩ : ∃ w' : Nat, c - a = w' := ⟨(c - a).toNat, by omega⟩
  have ew : w (c - a) = w' := by unfold w; rw [wrap_in (by omega) (by omega), hw]
  refine Exists.elim (z_fold (T := T_pl_Column_0) (st := fun j => ([.one (.ptr 0 0), .one (.row 1), .one (.int .i64 ((j * w' + x : Nat) : Int))], [some (.box [.int .i64 a, .int .i64 b, .int .i64 c, .int .i64 d, .lst (.int .i64) l]), some (.arr 3 (.int .i64) (colOf l w' x j))])) (d - b).toNat (c_pl_Column_0 a b c d x l []) (fun j hj F K => ?_) (fun F K => ?_)) (fun k hk => ⟨k, fun K r h => ?_⟩)
  · have ib := idx_b (i := (j : Int)) (w := c - a) (h := d - b) (by omega) (by omega) (by omega)
    rw [hw] at ib pb
    have e1 : ((j * w' + x : Nat) : Int) = (j : Int) * w' + x := by simp
    have hlt : ((j * w' + x : Nat) : Int) < (l.length : Int) := by omega
    have hle : (colOf l w' x j).length = j := by simp [colOf]
    simp only [tu_pl_Column_0, U_pl_Column_0, LT.next, LT.run, ite2_bool, decide_eq_true_eq, Int.toNat_natCast, ew]
    rw [if_pos hlt, if_pos (by omega), if_pos (by simp only [List.length_singleton]; omega), wrap_in (n := ((j * w' + x : Nat) : Int) + (w' : Int)) (by omega) (by omega)]
    have e2 : colOf l w' x (j + 1) = colOf l w' x j ++ [gI l (j * w' + x)] := by unfold colOf; rw [List.range_succ, List.map_append]; rfl
    have e3 : ((j * w' + x : Nat) : Int) + (w' : Int) = (((j + 1) * w' + x : Nat) : Int) := by
      rw [Nat.add_mul, Nat.one_mul]; simp; omega
    rw [e2, e3]
  · have hge : ¬ ((((d - b).toNat * w' + x : Nat) : Int) < (l.length : Int)) := by
      have : (((d - b).toNat * w' + x : Nat) : Int) = (w' : Int) * (d - b) + x := by
        rw [Int.natCast_add, Int.natCast_mul, Int.toNat_of_nonneg (by omega), Int.mul_comm]
      rw [this, pb.2.2.1, hw]
      omega
    simp only [tu_pl_Column_0, U_pl_Column_0, LT.next, LT.run, ite2_bool, decide_eq_true_eq]
    rw [if_neg hge]
    have e4 : (c - a).toNat = w' := by omega
    rw [show c_pl_Column_0 a b c d x l [] = LT.leaf (.exit 0) [.one (.row 0)] [some (.arr 3 (.int .i64) (colOf l w' x (d - b).toNat))] by unfold c_pl_Column_0; rw [e4]; rfl]
    rfl
  · have := hk K r h
    simpa [colOf] using this
theorem z_pl_Column_0 : ZOk S_pl_Column_0 T_pl_Column_0 := by
  intro vs bl t y0'
  refine d_pl_Column_0 y0' fun a b c d i l v u1' u2' yy' => ?_
  subst u1' u2'
  obtain ⟨hk, rfl⟩ := Prod.mk.inj (Option.some.inj yy')
  exact zz_pl_Column_0 _ _ _ _ _ _ _ hk
theorem q_pl_Column (a b c d : Int) (l : List Int) (x : Int) (hok : true = true) : funR Try.prog t_pl_Column (annOf []) l_pl_Column 20 Try.f71 [.agg [.int .i64 a, .int .i64 b, .int .i64 c, .int .i64 d, .lst (.int .i64) l], .one (.int .i64 x)] [] = some ⟨.tup [(false, [.row 0]), (false, [.bool (colOk a b c d l x)])], [], [.arr 3 (.int .i64) (plCol a b c d l x)]⟩ := by
    refine (e_pl_Column ..).trans ?_
    simp only [ite2_bool, decide_eq_true_eq, plCol]
    cases h : colOk a b c d l x
    · have : plV a b c d l = false ∨ x < a ∨ x ≥ c := by
        by_cases hv : plV a b c d l = true
        · simp [colOk, hv] at h; omega
        · exact .inl (by simpa using hv)
      rcases this with h1 | h1 | h1
      · simp [h1]
      · simp [h1]
      · simp [h1]
    have h' := h
    simp only [colOk, Bool.and_eq_true, decide_eq_true_eq] at h'
    have pb := plV_b h'.1.1
    have hk : k_pl_Column_0 a b c d (x - a) l [] = true := by
      simp only [k_pl_Column_0, h'.1.1, Bool.true_and, decide_true, Bool.and_true, Bool.and_eq_true, decide_eq_true_eq]; omega
    rw [h'.1.1, wrap_in (n := d - b) (by omega) (by omega), wrap_in (n := x - a) (by omega) (by omega), if_neg (by decide), if_neg (by omega), if_neg (by omega), if_pos (by omega)]
    rw [show k_pl_Column_0 a b c d (x - a) l (List.replicate 0 (0 : Int)) = true from hk]
    rfl
theorem s_pl_Column : SoundFun Try.prog 71 G_pl_Column := by
  refine fun_ok (tab := t_pl_Column) (ann := annOf []) (lt := l_pl_Column) (tab_cons s_pl_Valid (tab_cons s_pl_width tab_nil)) (by kernel_rfl) (fn := Try.f71) (by kernel_rfl) (by decide) (c := bodyOf Try.f71) (by kernel_rfl) (by
    intro m b hb
    have hb' : b ∈ loopsOf (bodyOf Try.f71) := hb
    rw [o_pl_Column] at hb'
    simp only [List.mem_cons, List.not_mem_nil, or_false] at hb'
    rcases hb' with rfl
    · exact loop_ok (key := 5) (by kernel_rfl) rfl r_pl_Column_0 z_pl_Column_0 m
    ) ?_ (keep_nil (by kernel_rfl))
  intro args lent o y0'
  unfold G_pl_Column at y0'
  obtain ⟨q', args, rfl, y1'⟩ := pA_s y0'
  obtain ⟨a, b, c, d, q', rfl, y2'⟩ := t4_s y1'
  obtain ⟨c', q', rfl, y3'⟩ := tC_s y2'
  obtain ⟨l, rfl, y4'⟩ := kLI_s y3'
  obtain ⟨rfl, y5'⟩ := tE_s y4'
  obtain ⟨x, args, rfl, y6'⟩ := pI_s y5'
  obtain ⟨rfl, y7'⟩ := pE_s y6'
  obtain ⟨rfl, y8'⟩ := nE_s y7'
  have yy' := y8'
  unfold H_pl_Column at yy'
  obtain ⟨hok, rfl⟩ := Prod.mk.inj (Option.some.inj yy')
  exact ⟨20, q_pl_Column _ _ _ _ _ _ hok⟩
theorem setT_len (l : List Int) (g x : Nat) (m : List Int) : ∀ j, (setT l g x m j).length = l.length
  | 0 => rfl
  | j + 1 => by simp [setT, setT_len l g x m j]
theorem or_ok {P : Program} {f : FuncId} {G1 G2 : Summ} (h1 : SoundFun P f G1) (h2 : SoundFun P f G2) (hk : KeepOk (orG G1 G2)) : SoundFun P f (orG G1 G2) := by
  refine ⟨h1.1, ?_, hk⟩
  intro args lent o h
  unfold orG at h
  cases h3 : G1 args lent with
  | none => rw [h3] at h; exact h2.2.1 args lent o h
  | some z => rw [h3] at h; simp only at h; exact h1.2.1 args lent o (h3.trans h)
theorem d_setCol0_0 {α : Type} {vs : List V} {bl : List (Option Blk)} {K} {r0' : α} {Q : Prop} (y0' : D_setCol0_0 vs bl K = some r0') (hh' : ∀ (x : Int) (g : Int) (n : Int) (i : Int) (a0 : Int) (b0 : Int) (c0 : Int) (d0 : Int) (a1 : Int) (b1 : Int) (c1 : Int) (d1 : Int) (a2 : Int) (b2 : Int) (c2 : Int) (d2 : Int) (a3 : Int) (b3 : Int) (c3 : Int) (d3 : Int) (l0 : List Int) (l1 : List Int) (l2 : List Int) (l3 : List Int) (m : List Int), vs = [.one (.ptr 0 0), .one (.int .i64 x), .one (.int .i64 g), .one (.lst (.int .i64) m), .one (.int .i64 n), .one (.int .i64 i)] → bl = [some (.box [.int .i64 a0, .int .i64 b0, .int .i64 c0, .int .i64 d0, .row 1, .int .i64 a1, .int .i64 b1, .int .i64 c1, .int .i64 d1, .row 2, .int .i64 a2, .int .i64 b2, .int .i64 c2, .int .i64 d2, .row 3, .int .i64 a3, .int .i64 b3, .int .i64 c3, .int .i64 d3, .row 4]), some (.arr 3 (.int .i64) l0), some (.arr 3 (.int .i64) l1), some (.arr 3 (.int .i64) l2), some (.arr 3 (.int .i64) l3)] → K x g n i a0 b0 c0 d0 a1 b1 c1 d1 a2 b2 c2 d2 a3 b3 c3 d3 l0 l1 l2 l3 m = some r0' → Q) : Q := by
  unfold D_setCol0_0 at y0'
  obtain ⟨vs, rfl, y1'⟩ := pP_s y0'
  obtain ⟨x, vs, rfl, y2'⟩ := pI_s y1'
  obtain ⟨g, vs, rfl, y3'⟩ := pI_s y2'
  obtain ⟨c', vs, rfl, y4'⟩ := pO_s y3'
  obtain ⟨m, rfl, y5'⟩ := kLI_s y4'
  obtain ⟨n, vs, rfl, y6'⟩ := pI_s y5'
  obtain ⟨i, vs, rfl, y7'⟩ := pI_s y6'
  obtain ⟨rfl, y8'⟩ := pE_s y7'
  obtain ⟨q', bl, rfl, y9'⟩ := bB_s y8'
  obtain ⟨a0, b0, c0, d0, a1, b1, c1, d1, a2, b2, c2, d2, a3, b3, c3, d3, rfl, y10'⟩ := rd4P_s y9'
  obtain ⟨l0, bl, rfl, y11'⟩ := bAI_s y10'
  obtain ⟨l1, bl, rfl, y12'⟩ := bAI_s y11'
  obtain ⟨l2, bl, rfl, y13'⟩ := bAI_s y12'
  obtain ⟨l3, bl, rfl, y14'⟩ := bAI_s y13'
  obtain ⟨rfl, y15'⟩ := bE_s y14'
  have yy' := y15'
  exact hh' _ _ _ _ _ _ _ _ _ _ _ _ _ _ _ _ _ _ _ _ _ _ _ _ _ rfl rfl yy'
theorem r_setCol0_0 : RoundOk Try.prog t_setCol0 (annOf []) l_setCol0 Out 20 5 45 [0, 1, 6, 20, 21, 22] (kxOf [] []) (loopOf Try.f72 0) T_setCol0_0 := by
  intro vs bl Kc r h
  unfold T_setCol0_0 at h
  obtain ⟨t, y0', h'⟩ := getD_run h
  refine d_setCol0_0 y0' fun x g n i a0 b0 c0 d0 a1 b1 c1 d1 a2 b2 c2 d2 a3 b3 c3 d3 l0 l1 l2 l3 m u1' u2' yy' => ?_
  subst u1' u2'
  cases yy'
  exact (b_setCol0_0 ..).trans h'
theorem o_setCol0 : loopsOf (bodyOf Try.f72) = [loopOf Try.f72 0] := by kernel_rfl
theorem zz_setCol0_0 (x g n i a0 b0 c0 d0 a1 b1 c1 d1 a2 b2 c2 d2 a3 b3 c3 d3 : Int) (l0 l1 l2 l3 m : List Int) (hk : k_setCol0_0 x g n i a0 b0 c0 d0 a1 b1 c1 d1 a2 b2 c2 d2 a3 b3 c3 d3 l0 l1 l2 l3 m = true) : ZZ (c_setCol0_0 x g n i a0 b0 c0 d0 a1 b1 c1 d1 a2 b2 c2 d2 a3 b3 c3 d3 l0 l1 l2 l3 m) T_setCol0_0 [.one (.ptr 0 0), .one (.int .i64 x), .one (.int .i64 g), .one (.lst (.int .i64) m), .one (.int .i64 n), .one (.int .i64 i)] [some (.box [.int .i64 a0, .int .i64 b0, .int .i64 c0, .int .i64 d0, .row 1, .int .i64 a1, .int .i64 b1, .int .i64 c1, .int .i64 d1, .row 2, .int .i64 a2, .int .i64 b2, .int .i64 c2, .int .i64 d2, .row 3, .int .i64 a3, .int .i64 b3, .int .i64 c3, .int .i64 d3, .row 4]), some (.arr 3 (.int .i64) l0), some (.arr 3 (.int .i64) l1), some (.arr 3 (.int .i64) l2), some (.arr 3 (.int .i64) l3)] := by
  simp only [k_setCol0_0, Bool.and_eq_true, decide_eq_true_eq] at hk
  obtain ⟨⟨⟨⟨⟨rfl, rfl⟩, rfl⟩, ⟨⟨h1, h2⟩, h3⟩, h4⟩, h5⟩, h6⟩ := hk
  obtain ⟨x', hx⟩ : ∃ x' : Nat, x - a0 = x' := ⟨(x - a0).toNat, by omega⟩
  obtain ⟨w', hw⟩ : ∃ w' : Nat, c0 - a0 = w' := ⟨(c0 - a0).toNat, by omega⟩
  have e5 : (c0 - a0).toNat = w' := by omega
  have e6 : (x - a0).toNat = x' := by omega
  have hsm : small m.length = true := small_of (by omega)
  refine Exists.elim (z_fold (T := T_setCol0_0) (st := fun j => ([.one (.ptr 0 0), .one (.int .i64 x), .one (.int .i64 (c0 - a0)), .one (.lst (.int .i64) m), .one (.int .i64 (m.length : Int)), .one (.int .i64 (j : Int))], [some (.box [.int .i64 a0, .int .i64 b0, .int .i64 c0, .int .i64 d0, .row 1, .int .i64 a1, .int .i64 b1, .int .i64 c1, .int .i64 d1, .row 2, .int .i64 a2, .int .i64 b2, .int .i64 c2, .int .i64 d2, .row 3, .int .i64 a3, .int .i64 b3, .int .i64 c3, .int .i64 d3, .row 4]), some (.arr 3 (.int .i64) (setT l0 w' x' m j)), some (.arr 3 (.int .i64) l1), some (.arr 3 (.int .i64) l2), some (.arr 3 (.int .i64) l3)])) m.length (.leaf (.exit 0) [] [some (.box [.int .i64 a0, .int .i64 b0, .int .i64 c0, .int .i64 d0, .row 1, .int .i64 a1, .int .i64 b1, .int .i64 c1, .int .i64 d1, .row 2, .int .i64 a2, .int .i64 b2, .int .i64 c2, .int .i64 d2, .row 3, .int .i64 a3, .int .i64 b3, .int .i64 c3, .int .i64 d3, .row 4]), some (.arr 3 (.int .i64) (setT l0 w' x' m m.length)), some (.arr 3 (.int .i64) l1), some (.arr 3 (.int .i64) l2), some (.arr 3 (.int .i64) l3)]) (fun j hj F K => ?_) (fun F K => ?_)) (fun k hk => ⟨k, fun K r h => ?_⟩)
  · have ib := idx_b (i := (j : Int)) (w := c0 - a0) (h := (m.length : Int)) (by omega) (by omega) (by omega)
    have hl := setT_len l0 w' x' m j
    rw [hw] at ib h6
    have e1 : ((j * w' + x' : Nat) : Int) = (j : Int) * w' + x' := by simp
    have mb : (w' : Int) * (m.length : Int) ≤ 4096 * 4096 := Int.mul_le_mul (by omega) (by omega) (by omega) (by omega)
    simp only [tu_setCol0_0, U_setCol0_0, LT.next, LT.run, ite2_bool, decide_eq_true_eq, Int.toNat_natCast, hw]
    rw [wrap_in (n := (j : Int) * (w' : Int)) (by omega) (by omega), wrap_in (n := (j : Int) * (w' : Int) + x) (by omega) (by omega), show (j : Int) * (w' : Int) + x - a0 = ((j * w' + x' : Nat) : Int) by omega, wrap_in (n := ((j * w' + x' : Nat) : Int)) (by omega) (by omega), wrap_next hj hsm, Int.toNat_natCast]
    repeat rw [if_pos (by first | rfl | omega)]
    rfl
  · simp only [tu_setCol0_0, U_setCol0_0, LT.next, LT.run, ite2_bool, decide_eq_true_eq]
    rw [if_neg (by omega)]
  · refine hk K r ?_
    unfold c_setCol0_0 setC at h
    rw [e5, e6] at h
    exact h
theorem z_setCol0_0 : ZOk S_setCol0_0 T_setCol0_0 := by
  intro vs bl t y0'
  refine d_setCol0_0 y0' fun x g n i a0 b0 c0 d0 a1 b1 c1 d1 a2 b2 c2 d2 a3 b3 c3 d3 l0 l1 l2 l3 m u1' u2' yy' => ?_
  subst u1' u2'
  obtain ⟨hk, rfl⟩ := Prod.mk.inj (Option.some.inj yy')
  exact zz_setCol0_0 _ _ _ _ _ _ _ _ _ _ _ _ _ _ _ _ _ _ _ _ _ _ _ _ _ hk
theorem q_setCol0 (x a0 b0 c0 d0 a1 b1 c1 d1 a2 b2 c2 d2 a3 b3 c3 d3 : Int) (l0 l1 l2 l3 m : List Int) (hok : ((decide (0 ≤ a0) && decide (a0 ≤ x) && decide (x < c0) && decide (c0 ≤ 4096)) && decide (m.length ≤ 4096) && decide ((l0.length : Int) = (c0 - a0) * (m.length : Int))) = true) : funR Try.prog t_setCol0 (annOf []) l_setCol0 20 Try.f72 [.one (.ptr 0 0), .one (.int .i64 x), .one (.lst (.int .i64) m)] [.box [.int .i64 a0, .int .i64 b0, .int .i64 c0, .int .i64 d0, .row 1, .int .i64 a1, .int .i64 b1, .int .i64 c1, .int .i64 d1, .row 2, .int .i64 a2, .int .i64 b2, .int .i64 c2, .int .i64 d2, .row 3, .int .i64 a3, .int .i64 b3, .int .i64 c3, .int .i64 d3, .row 4], .arr 3 (.int .i64) l0, .arr 3 (.int .i64) l1, .arr 3 (.int .i64) l2, .arr 3 (.int .i64) l3] = some ⟨.tup [], [some (.box [.int .i64 a0, .int .i64 b0, .int .i64 c0, .int .i64 d0, .row 1, .int .i64 a1, .int .i64 b1, .int .i64 c1, .int .i64 d1, .row 2, .int .i64 a2, .int .i64 b2, .int .i64 c2, .int .i64 d2, .row 3, .int .i64 a3, .int .i64 b3, .int .i64 c3, .int .i64 d3, .row 4]), some (.arr 3 (.int .i64) (setC l0 (c0 - a0).toNat (x - a0).toNat m)), some (.arr 3 (.int .i64) l1), some (.arr 3 (.int .i64) l2), some (.arr 3 (.int .i64) l3)], []⟩ := by
    refine (e_setCol0 ..).trans ?_
    have hok' := hok
    simp only [Bool.and_eq_true, decide_eq_true_eq] at hok'
    rw [wrap_in (n := c0 - a0) (by omega) (by omega)]
    have hk : k_setCol0_0 x (c0 - a0) (m.length : Int) 0 a0 b0 c0 d0 a1 b1 c1 d1 a2 b2 c2 d2 a3 b3 c3 d3 l0 l1 l2 l3 m = true := by
      simp only [k_setCol0_0, Bool.and_eq_true, decide_eq_true_eq]
      exact ⟨⟨⟨⟨⟨trivial, trivial⟩, trivial⟩, hok'.1.1⟩, hok'.1.2⟩, hok'.2⟩
    rw [hk]
    rfl
theorem s_setCol0 : SoundFun Try.prog 72 G_setCol0 := by
  refine fun_ok (tab := t_setCol0) (ann := annOf []) (lt := l_setCol0) tab_nil (by kernel_rfl) (fn := Try.f72) (by kernel_rfl) (by decide) (c := bodyOf Try.f72) (by kernel_rfl) (by
    intro m b hb
    have hb' : b ∈ loopsOf (bodyOf Try.f72) := hb
    rw [o_setCol0] at hb'
    simp only [List.mem_cons, List.not_mem_nil, or_false] at hb'
    rcases hb' with rfl
    · exact loop_ok (key := 2) (by kernel_rfl) rfl r_setCol0_0 z_setCol0_0 m
    ) ?_ (keep_nil (by kernel_rfl))
  intro args lent o y0'
  unfold G_setCol0 at y0'
  obtain ⟨args, rfl, y1'⟩ := pP_s y0'
  obtain ⟨x, args, rfl, y2'⟩ := pI_s y1'
  obtain ⟨c', args, rfl, y3'⟩ := pO_s y2'
  obtain ⟨m, rfl, y4'⟩ := kLI_s y3'
  obtain ⟨rfl, y5'⟩ := pE_s y4'
  obtain ⟨q', lent, rfl, y6'⟩ := nB_s y5'
  obtain ⟨a0, b0, c0, d0, a1, b1, c1, d1, a2, b2, c2, d2, a3, b3, c3, d3, rfl, y7'⟩ := rd4P_s y6'
  obtain ⟨l0, lent, rfl, y8'⟩ := nAI_s y7'
  obtain ⟨l1, lent, rfl, y9'⟩ := nAI_s y8'
  obtain ⟨l2, lent, rfl, y10'⟩ := nAI_s y9'
  obtain ⟨l3, lent, rfl, y11'⟩ := nAI_s y10'
  obtain ⟨rfl, y12'⟩ := nE_s y11'
  have yy' := y12'
  unfold H_setCol0 at yy'
  obtain ⟨hok, rfl⟩ := Prod.mk.inj (Option.some.inj yy')
  exact ⟨20, q_setCol0 _ _ _ _ _ _ _ _ _ _ _ _ _ _ _ _ _ _ _ _ _ _ hok⟩
theorem d_setCol1_0 {α : Type} {vs : List V} {bl : List (Option Blk)} {K} {r0' : α} {Q : Prop} (y0' : D_setCol1_0 vs bl K = some r0') (hh' : ∀ (x : Int) (g : Int) (n : Int) (i : Int) (a0 : Int) (b0 : Int) (c0 : Int) (d0 : Int) (a1 : Int) (b1 : Int) (c1 : Int) (d1 : Int) (a2 : Int) (b2 : Int) (c2 : Int) (d2 : Int) (a3 : Int) (b3 : Int) (c3 : Int) (d3 : Int) (l0 : List Int) (l1 : List Int) (l2 : List Int) (l3 : List Int) (m : List Int), vs = [.one (.ptr 0 5), .one (.int .i64 x), .one (.int .i64 g), .one (.lst (.int .i64) m), .one (.int .i64 n), .one (.int .i64 i)] → bl = [some (.box [.int .i64 a0, .int .i64 b0, .int .i64 c0, .int .i64 d0, .row 1, .int .i64 a1, .int .i64 b1, .int .i64 c1, .int .i64 d1, .row 2, .int .i64 a2, .int .i64 b2, .int .i64 c2, .int .i64 d2, .row 3, .int .i64 a3, .int .i64 b3, .int .i64 c3, .int .i64 d3, .row 4]), some (.arr 3 (.int .i64) l0), some (.arr 3 (.int .i64) l1), some (.arr 3 (.int .i64) l2), some (.arr 3 (.int .i64) l3)] → K x g n i a0 b0 c0 d0 a1 b1 c1 d1 a2 b2 c2 d2 a3 b3 c3 d3 l0 l1 l2 l3 m = some r0' → Q) : Q := by
  unfold D_setCol1_0 at y0'
  obtain ⟨vs, rfl, y1'⟩ := pP_s y0'
  obtain ⟨x, vs, rfl, y2'⟩ := pI_s y1'
  obtain ⟨g, vs, rfl, y3'⟩ := pI_s y2'
  obtain ⟨c', vs, rfl, y4'⟩ := pO_s y3'
  obtain ⟨m, rfl, y5'⟩ := kLI_s y4'
  obtain ⟨n, vs, rfl, y6'⟩ := pI_s y5'
  obtain ⟨i, vs, rfl, y7'⟩ := pI_s y6'
  obtain ⟨rfl, y8'⟩ := pE_s y7'
  obtain ⟨q', bl, rfl, y9'⟩ := bB_s y8'
  obtain ⟨a0, b0, c0, d0, a1, b1, c1, d1, a2, b2, c2, d2, a3, b3, c3, d3, rfl, y10'⟩ := rd4P_s y9'
  obtain ⟨l0, bl, rfl, y11'⟩ := bAI_s y10'
  obtain ⟨l1, bl, rfl, y12'⟩ := bAI_s y11'
  obtain ⟨l2, bl, rfl, y13'⟩ := bAI_s y12'
  obtain ⟨l3, bl, rfl, y14'⟩ := bAI_s y13'
  obtain ⟨rfl, y15'⟩ := bE_s y14'
  have yy' := y15'
  exact hh' _ _ _ _ _ _ _ _ _ _ _ _ _ _ _ _ _ _ _ _ _ _ _ _ _ rfl rfl yy'
theorem r_setCol1_0 : RoundOk Try.prog t_setCol1 (annOf []) l_setCol1 Out 20 5 45 [0, 1, 6, 20, 21, 22] (kxOf [] []) (loopOf Try.f72 0) T_setCol1_0 := by
  intro vs bl Kc r h
  unfold T_setCol1_0 at h
  obtain ⟨t, y0', h'⟩ := getD_run h
  refine d_setCol1_0 y0' fun x g n i a0 b0 c0 d0 a1 b1 c1 d1 a2 b2 c2 d2 a3 b3 c3 d3 l0 l1 l2 l3 m u1' u2' yy' => ?_
  subst u1' u2'
  cases yy'
  exact (b_setCol1_0 ..).trans h'
theorem o_setCol1 : loopsOf (bodyOf Try.f72) = [loopOf Try.f72 0] := by kernel_rfl
theorem zz_setCol1_0 (x g n i a0 b0 c0 d0 a1 b1 c1 d1 a2 b2 c2 d2 a3 b3 c3 d3 : Int) (l0 l1 l2 l3 m : List Int) (hk : k_setCol1_0 x g n i a0 b0 c0 d0 a1 b1 c1 d1 a2 b2 c2 d2 a3 b3 c3 d3 l0 l1 l2 l3 m = true) : ZZ (c_setCol1_0 x g n i a0 b0 c0 d0 a1 b1 c1 d1 a2 b2 c2 d2 a3 b3 c3 d3 l0 l1 l2 l3 m) T_setCol1_0 [.one (.ptr 0 5), .one (.int .i64 x), .one (.int .i64 g), .one (.lst (.int .i64) m), .one (.int .i64 n), .one (.int .i64 i)] [some (.box [.int .i64 a0, .int .i64 b0, .int .i64 c0, .int .i64 d0, .row 1, .int .i64 a1, .int .i64 b1, .int .i64 c1, .int .i64 d1, .row 2, .int .i64 a2, .int .i64 b2, .int .i64 c2, .int .i64 d2, .row 3, .int .i64 a3, .int .i64 b3, .int .i64 c3, .int .i64 d3, .row 4]), some (.arr 3 (.int .i64) l0), some (.arr 3 (.int .i64) l1), some (.arr 3 (.int .i64) l2), some (.arr 3 (.int .i64) l3)] := by
  simp only [k_setCol1_0, Bool.and_eq_true, decide_eq_true_eq] at hk
  obtain ⟨⟨⟨⟨⟨rfl, rfl⟩, rfl⟩, ⟨⟨h1, h2⟩, h3⟩, h4⟩, h5⟩, h6⟩ := hk
  obtain ⟨x', hx⟩ : ∃ x' : Nat, x - a1 = x' := ⟨(x - a1).toNat, by omega⟩
  obtain ⟨w', hw⟩ : ∃ w' : Nat, c1 - a1 = w' := ⟨(c1 - a1).toNat, by omega⟩
  have e5 : (c1 - a1).toNat = w' := by omega
  have e6 : (x - a1).toNat = x' := by omega
  have hsm : small m.length = true := small_of (by omega)
  refine Exists.elim (z_fold (T := T_setCol1_0) (st := fun j => ([.one (.ptr 0 5), .one (.int .i64 x), .one (.int .i64 (c1 - a1)), .one (.lst (.int .i64) m), .one (.int .i64 (m.length : Int)), .one (.int .i64 (j : Int))], [some (.box [.int .i64 a0, .int .i64 b0, .int .i64 c0, .int .i64 d0, .row 1, .int .i64 a1, .int .i64 b1, .int .i64 c1, .int .i64 d1, .row 2, .int .i64 a2, .int .i64 b2, .int .i64 c2, .int .i64 d2, .row 3, .int .i64 a3, .int .i64 b3, .int .i64 c3, .int .i64 d3, .row 4]), some (.arr 3 (.int .i64) l0), some (.arr 3 (.int .i64) (setT l1 w' x' m j)), some (.arr 3 (.int .i64) l2), some (.arr 3 (.int .i64) l3)])) m.length (.leaf (.exit 0) [] [some (.box [.int .i64 a0, .int .i64 b0, .int .i64 c0, .int .i64 d0, .row 1, .int .i64 a1, .int .i64 b1, .int .i64 c1, .int .i64 d1, .row 2, .int .i64 a2, .int .i64 b2, .int .i64 c2, .int .i64 d2, .row 3, .int .i64 a3, .int .i64 b3, .int .i64 c3, .int .i64 d3, .row 4]), some (.arr 3 (.int .i64) l0), some (.arr 3 (.int .i64) (setT l1 w' x' m m.length)), some (.arr 3 (.int .i64) l2), some (.arr 3 (.int .i64) l3)]) (fun j hj F K => ?_) (fun F K => ?_)) (fun k hk => ⟨k, fun K r h => ?_⟩)
  · have ib := idx_b (i := (j : Int)) (w := c1 - a1) (h := (m.length : Int)) (by omega) (by omega) (by omega)
    have hl := setT_len l1 w' x' m j
    rw [hw] at ib h6
    have e1 : ((j * w' + x' : Nat) : Int) = (j : Int) * w' + x' := by simp
    have mb : (w' : Int) * (m.length : Int) ≤ 4096 * 4096 := Int.mul_le_mul (by omega) (by omega) (by omega) (by omega)
    simp only [tu_setCol1_0, U_setCol1_0, LT.next, LT.run, ite2_bool, decide_eq_true_eq, Int.toNat_natCast, hw]
    rw [wrap_in (n := (j : Int) * (w' : Int)) (by omega) (by omega), wrap_in (n := (j : Int) * (w' : Int) + x) (by omega) (by omega), show (j : Int) * (w' : Int) + x - a1 = ((j * w' + x' : Nat) : Int) by omega, wrap_in (n := ((j * w' + x' : Nat) : Int)) (by omega) (by omega), wrap_next hj hsm, Int.toNat_natCast]
    repeat rw [if_pos (by first | rfl | omega)]
    rfl
  · simp only [tu_setCol1_0, U_setCol1_0, LT.next, LT.run, ite2_bool, decide_eq_true_eq]
    rw [if_neg (by omega)]
  · refine hk K r ?_
    unfold c_setCol1_0 setC at h
    rw [e5, e6] at h
    exact h
theorem z_setCol1_0 : ZOk S_setCol1_0 T_setCol1_0 := by
  intro vs bl t y0'
  refine d_setCol1_0 y0' fun x g n i a0 b0 c0 d0 a1 b1 c1 d1 a2 b2 c2 d2 a3 b3 c3 d3 l0 l1 l2 l3 m u1' u2' yy' => ?_
  subst u1' u2'
  obtain ⟨hk, rfl⟩ := Prod.mk.inj (Option.some.inj yy')
  exact zz_setCol1_0 _ _ _ _ _ _ _ _ _ _ _ _ _ _ _ _ _ _ _ _ _ _ _ _ _ hk
theorem q_setCol1 (x a0 b0 c0 d0 a1 b1 c1 d1 a2 b2 c2 d2 a3 b3 c3 d3 : Int) (l0 l1 l2 l3 m : List Int) (hok : ((decide (0 ≤ a1) && decide (a1 ≤ x) && decide (x < c1) && decide (c1 ≤ 4096)) && decide (m.length ≤ 4096) && decide ((l1.length : Int) = (c1 - a1) * (m.length : Int))) = true) : funR Try.prog t_setCol1 (annOf []) l_setCol1 20 Try.f72 [.one (.ptr 0 5), .one (.int .i64 x), .one (.lst (.int .i64) m)] [.box [.int .i64 a0, .int .i64 b0, .int .i64 c0, .int .i64 d0, .row 1, .int .i64 a1, .int .i64 b1, .int .i64 c1, .int .i64 d1, .row 2, .int .i64 a2, .int .i64 b2, .int .i64 c2, .int .i64 d2, .row 3, .int .i64 a3, .int .i64 b3, .int .i64 c3, .int .i64 d3, .row 4], .arr 3 (.int .i64) l0, .arr 3 (.int .i64) l1, .arr 3 (.int .i64) l2, .arr 3 (.int .i64) l3] = some ⟨.tup [], [some (.box [.int .i64 a0, .int .i64 b0, .int .i64 c0, .int .i64 d0, .row 1, .int .i64 a1, .int .i64 b1, .int .i64 c1, .int .i64 d1, .row 2, .int .i64 a2, .int .i64 b2, .int .i64 c2, .int .i64 d2, .row 3, .int .i64 a3, .int .i64 b3, .int .i64 c3, .int .i64 d3, .row 4]), some (.arr 3 (.int .i64) l0), some (.arr 3 (.int .i64) (setC l1 (c1 - a1).toNat (x - a1).toNat m)), some (.arr 3 (.int .i64) l2), some (.arr 3 (.int .i64) l3)], []⟩ := by
    refine (e_setCol1 ..).trans ?_
    have hok' := hok
    simp only [Bool.and_eq_true, decide_eq_true_eq] at hok'
    rw [wrap_in (n := c1 - a1) (by omega) (by omega)]
    have hk : k_setCol1_0 x (c1 - a1) (m.length : Int) 0 a0 b0 c0 d0 a1 b1 c1 d1 a2 b2 c2 d2 a3 b3 c3 d3 l0 l1 l2 l3 m = true := by
      simp only [k_setCol1_0, Bool.and_eq_true, decide_eq_true_eq]
      exact ⟨⟨⟨⟨⟨trivial, trivial⟩, trivial⟩, hok'.1.1⟩, hok'.1.2⟩, hok'.2⟩
    rw [hk]
    rfl
theorem s_setCol1 : SoundFun Try.prog 72 G_setCol1 := by
  refine fun_ok (tab := t_setCol1) (ann := annOf []) (lt := l_setCol1) tab_nil (by kernel_rfl) (fn := Try.f72) (by kernel_rfl) (by decide) (c := bodyOf Try.f72) (by kernel_rfl) (by
    intro m b hb
    have hb' : b ∈ loopsOf (bodyOf Try.f72) := hb
    rw [o_setCol1] at hb'
    simp only [List.mem_cons, List.not_mem_nil, or_false] at hb'
    rcases hb' with rfl
    · exact loop_ok (key := 2) (by kernel_rfl) rfl r_setCol1_0 z_setCol1_0 m
    ) ?_ (keep_nil (by kernel_rfl))
  intro args lent o y0'
  unfold G_setCol1 at y0'
  obtain ⟨args, rfl, y1'⟩ := pP_s y0'
  obtain ⟨x, args, rfl, y2'⟩ := pI_s y1'
  obtain ⟨c', args, rfl, y3'⟩ := pO_s y2'
  obtain ⟨m, rfl, y4'⟩ := kLI_s y3'
  obtain ⟨rfl, y5'⟩ := pE_s y4'
  obtain ⟨q', lent, rfl, y6'⟩ := nB_s y5'
  obtain ⟨a0, b0, c0, d0, a1, b1, c1, d1, a2, b2, c2, d2, a3, b3, c3, d3, rfl, y7'⟩ := rd4P_s y6'
  obtain ⟨l0, lent, rfl, y8'⟩ := nAI_s y7'
  obtain ⟨l1, lent, rfl, y9'⟩ := nAI_s y8'
  obtain ⟨l2, lent, rfl, y10'⟩ := nAI_s y9'
  obtain ⟨l3, lent, rfl, y11'⟩ := nAI_s y10'
  obtain ⟨rfl, y12'⟩ := nE_s y11'
  have yy' := y12'
  unfold H_setCol1 at yy'
  obtain ⟨hok, rfl⟩ := Prod.mk.inj (Option.some.inj yy')
  exact ⟨20, q_setCol1 _ _ _ _ _ _ _ _ _ _ _ _ _ _ _ _ _ _ _ _ _ _ hok⟩
theorem d_setCol2_0 {α : Type} {vs : List V} {bl : List (Option Blk)} {K} {r0' : α} {Q : Prop} (y0' : D_setCol2_0 vs bl K = some r0') (hh' : ∀ (x : Int) (g : Int) (n : Int) (i : Int) (a0 : Int) (b0 : Int) (c0 : Int) (d0 : Int) (a1 : Int) (b1 : Int) (c1 : Int) (d1 : Int) (a2 : Int) (b2 : Int) (c2 : Int) (d2 : Int) (a3 : Int) (b3 : Int) (c3 : Int) (d3 : Int) (l0 : List Int) (l1 : List Int) (l2 : List Int) (l3 : List Int) (m : List Int), vs = [.one (.ptr 0 10), .one (.int .i64 x), .one (.int .i64 g), .one (.lst (.int .i64) m), .one (.int .i64 n), .one (.int .i64 i)] → bl = [some (.box [.int .i64 a0, .int .i64 b0, .int .i64 c0, .int .i64 d0, .row 1, .int .i64 a1, .int .i64 b1, .int .i64 c1, .int .i64 d1, .row 2, .int .i64 a2, .int .i64 b2, .int .i64 c2, .int .i64 d2, .row 3, .int .i64 a3, .int .i64 b3, .int .i64 c3, .int .i64 d3, .row 4]), some (.arr 3 (.int .i64) l0), some (.arr 3 (.int .i64) l1), some (.arr 3 (.int .i64) l2), some (.arr 3 (.int .i64) l3)] → K x g n i a0 b0 c0 d0 a1 b1 c1 d1 a2 b2 c2 d2 a3 b3 c3 d3 l0 l1 l2 l3 m = some r0' → Q) : Q := by
  unfold D_setCol2_0 at y0'
  obtain ⟨vs, rfl, y1'⟩ := pP_s y0'
  obtain ⟨x, vs, rfl, y2'⟩ := pI_s y1'
  obtain ⟨g, vs, rfl, y3'⟩ := pI_s y2'
  obtain ⟨c', vs, rfl, y4'⟩ := pO_s y3'
  obtain ⟨m, rfl, y5'⟩ := kLI_s y4'
  obtain ⟨n, vs, rfl, y6'⟩ := pI_s y5'
  obtain ⟨i, vs, rfl, y7'⟩ := pI_s y6'
  obtain ⟨rfl, y8'⟩ := pE_s y7'
  obtain ⟨q', bl, rfl, y9'⟩ := bB_s y8'
  obtain ⟨a0, b0, c0, d0, a1, b1, c1, d1, a2, b2, c2, d2, a3, b3, c3, d3, rfl, y10'⟩ := rd4P_s y9'
  obtain ⟨l0, bl, rfl, y11'⟩ := bAI_s y10'
  obtain ⟨l1, bl, rfl, y12'⟩ := bAI_s y11'
  obtain ⟨l2, bl, rfl, y13'⟩ := bAI_s y12'
  obtain ⟨l3, bl, rfl, y14'⟩ := bAI_s y13'
  obtain ⟨rfl, y15'⟩ := bE_s y14'
  have yy' := y15'
  exact hh' _ _ _ _ _ _ _ _ _ _ _ _ _ _ _ _ _ _ _ _ _ _ _ _ _ rfl rfl yy'
theorem r_setCol2_0 : RoundOk Try.prog t_setCol2 (annOf []) l_setCol2 Out 20 5 45 [0, 1, 6, 20, 21, 22] (kxOf [] []) (loopOf Try.f72 0) T_setCol2_0 := by
  intro vs bl Kc r h
  unfold T_setCol2_0 at h
  obtain ⟨t, y0', h'⟩ := getD_run h
  refine d_setCol2_0 y0' fun x g n i a0 b0 c0 d0 a1 b1 c1 d1 a2 b2 c2 d2 a3 b3 c3 d3 l0 l1 l2 l3 m u1' u2' yy' => ?_
  subst u1' u2'
  cases yy'
  exact (b_setCol2_0 ..).trans h'
theorem o_setCol2 : loopsOf (bodyOf Try.f72) = [loopOf Try.f72 0] := by kernel_rfl
theorem zz_setCol2_0 (x g n i a0 b0 c0 d0 a1 b1 c1 d1 a2 b2 c2 d2 a3 b3 c3 d3 : Int) (l0 l1 l2 l3 m : List Int) (hk : k_setCol2_0 x g n i a0 b0 c0 d0 a1 b1 c1 d1 a2 b2 c2 d2 a3 b3 c3 d3 l0 l1 l2 l3 m = true) : ZZ (c_setCol2_0 x g n i a0 b0 c0 d0 a1 b1 c1 d1 a2 b2 c2 d2 a3 b3 c3 d3 l0 l1 l2 l3 m) T_setCol2_0 [.one (.ptr 0 10), .one (.int .i64 x), .one (.int .i64 g), .one (.lst (.int .i64) m), .one (.int .i64 n), .one (.int .i64 i)] [some (.box [.int .i64 a0, .int .i64 b0, .int .i64 c0, .int .i64 d0, .row 1, .int .i64 a1, .int .i64 b1, .int .i64 c1, .int .i64 d1, .row 2, .int .i64 a2, .int .i64 b2, .int .i64 c2, .int .i64 d2, .row 3, .int .i64 a3, .int .i64 b3, .int .i64 c3, .int .i64 d3, .row 4]), some (.arr 3 (.int .i64) l0), some (.arr 3 (.int .i64) l1), some (.arr 3 (.int .i64) l2), some (.arr 3 (.int .i64) l3)] := by
  simp only [k_setCol2_0, Bool.and_eq_true, decide_eq_true_eq] at hk
  obtain ⟨⟨⟨⟨⟨rfl, rfl⟩, rfl⟩, ⟨⟨h1, h2⟩, h3⟩, h4⟩, h5⟩, h6⟩ := hk
  obtain ⟨x', hx⟩ : ∃ x' : Nat, x - a2 = x' := ⟨(x - a2).toNat, by omega⟩
  obtain ⟨w', hw⟩ : ∃ w' : Nat, c2 - a2 = w' := ⟨(c2 - a2).toNat, by omega⟩
  have e5 : (c2 - a2).toNat = w' := by omega
  have e6 : (x - a2).toNat = x' := by omega
  have hsm : small m.length = true := small_of (by omega)
  refine Exists.elim (z_fold (T := T_setCol2_0) (st := fun j => ([.one (.ptr 0 10), .one (.int .i64 x), .one (.int .i64 (c2 - a2)), .one (.lst (.int .i64) m), .one (.int .i64 (m.length : Int)), .one (.int .i64 (j : Int))], [some (.box [.int .i64 a0, .int .i64 b0, .int .i64 c0, .int .i64 d0, .row 1, .int .i64 a1, .int .i64 b1, .int .i64 c1, .int .i64 d1, .row 2, .int .i64 a2, .int .i64 b2, .int .i64 c2, .int .i64 d2, .row 3, .int .i64 a3, .int .i64 b3, .int .i64 c3, .int .i64 d3, .row 4]), some (.arr 3 (.int .i64) l0), some (.arr 3 (.int .i64) l1), some (.arr 3 (.int .i64) (setT l2 w' x' m j)), some (.arr 3 (.int .i64) l3)])) m.length (.leaf (.exit 0) [] [some (.box [.int .i64 a0, .int .i64 b0, .int .i64 c0, .int .i64 d0, .row 1, .int .i64 a1, .int .i64 b1, .int .i64 c1, .int .i64 d1, .row 2, .int .i64 a2, .int .i64 b2, .int .i64 c2, .int .i64 d2, .row 3, .int .i64 a3, .int .i64 b3, .int .i64 c3, .int .i64 d3, .row 4]), some (.arr 3 (.int .i64) l0), some (.arr 3 (.int .i64) l1), some (.arr 3 (.int .i64) (setT l2 w' x' m m.length)), some (.arr 3 (.int .i64) l3)]) (fun j hj F K => ?_) (fun F K => ?_)) (fun k hk => ⟨k, fun K r h => ?_⟩)
  · have ib := idx_b (i := (j : Int)) (w := c2 - a2) (h := (m.length : Int)) (by omega) (by omega) (by omega)
    have hl := setT_len l2 w' x' m j
    rw [hw] at ib h6
    have e1 : ((j * w' + x' : Nat) : Int) = (j : Int) * w' + x' := by simp
    have mb : (w' : Int) * (m.length : Int) ≤ 4096 * 4096 := Int.mul_le_mul (by omega) (by omega) (by omega) (by omega)
    simp only [tu_setCol2_0, U_setCol2_0, LT.next, LT.run, ite2_bool, decide_eq_true_eq, Int.toNat_natCast, hw]
    rw [wrap_in (n := (j : Int) * (w' : Int)) (by omega) (by omega), wrap_in (n := (j : Int) * (w' : Int) + x) (by omega) (by omega), show (j : Int) * (w' : Int) + x - a2 = ((j * w' + x' : Nat) : Int) by omega, wrap_in (n := ((j * w' + x' : Nat) : Int)) (by omega) (by omega), wrap_next hj hsm, Int.toNat_natCast]
    repeat rw [if_pos (by first | rfl | omega)]
    rfl
  · simp only [tu_setCol2_0, U_setCol2_0, LT.next, LT.run, ite2_bool, decide_eq_true_eq]
    rw [if_neg (by omega)]
  · refine hk K r ?_
    unfold c_setCol2_0 setC at h
    rw [e5, e6] at h
    exact h
theorem z_setCol2_0 : ZOk S_setCol2_0 T_setCol2_0 := by
  intro vs bl t y0'
  refine d_setCol2_0 y0' fun x g n i a0 b0 c0 d0 a1 b1 c1 d1 a2 b2 c2 d2 a3 b3 c3 d3 l0 l1 l2 l3 m u1' u2' yy' => ?_
  subst u1' u2'
  obtain ⟨hk, rfl⟩ := Prod.mk.inj (Option.some.inj yy')
  exact zz_setCol2_0 _ _ _ _ _ _ _ _ _ _ _ _ _ _ _ _ _ _ _ _ _ _ _ _ _ hk
theorem q_setCol2 (x a0 b0 c0 d0 a1 b1 c1 d1 a2 b2 c2 d2 a3 b3 c3 d3 : Int) (l0 l1 l2 l3 m : List Int) (hok : ((decide (0 ≤ a2) && decide (a2 ≤ x) && decide (x < c2) && decide (c2 ≤ 4096)) && decide (m.length ≤ 4096) && decide ((l2.length : Int) = (c2 - a2) * (m.length : Int))) = true) : funR Try.prog t_setCol2 (annOf []) l_setCol2 20 Try.f72 [.one (.ptr 0 10), .one (.int .i64 x), .one (.lst (.int .i64) m)] [.box [.int .i64 a0, .int .i64 b0, .int .i64 c0, .int .i64 d0, .row 1, .int .i64 a1, .int .i64 b1, .int .i64 c1, .int .i64 d1, .row 2, .int .i64 a2, .int .i64 b2, .int .i64 c2, .int .i64 d2, .row 3, .int .i64 a3, .int .i64 b3, .int .i64 c3, .int .i64 d3, .row 4], .arr 3 (.int .i64) l0, .arr 3 (.int .i64) l1, .arr 3 (.int .i64) l2, .arr 3 (.int .i64) l3] = some ⟨.tup [], [some (.box [.int .i64 a0, .int .i64 b0, .int .i64 c0, .int .i64 d0, .row 1, .int .i64 a1, .int .i64 b1, .int .i64 c1, .int .i64 d1, .row 2, .int .i64 a2, .int .i64 b2, .int .i64 c2, .int .i64 d2, .row 3, .int .i64 a3, .int .i64 b3, .int .i64 c3, .int .i64 d3, .row 4]), some (.arr 3 (.int .i64) l0), some (.arr 3 (.int .i64) l1), some (.arr 3 (.int .i64) (setC l2 (c2 - a2).toNat (x - a2).toNat m)), some (.arr 3 (.int .i64) l3)], []⟩ := by
    refine (e_setCol2 ..).trans ?_
    have hok' := hok
    simp only [Bool.and_eq_true, decide_eq_true_eq] at hok'
    rw [wrap_in (n := c2 - a2) (by omega) (by omega)]
    have hk : k_setCol2_0 x (c2 - a2) (m.length : Int) 0 a0 b0 c0 d0 a1 b1 c1 d1 a2 b2 c2 d2 a3 b3 c3 d3 l0 l1 l2 l3 m = true := by
      simp only [k_setCol2_0, Bool.and_eq_true, decide_eq_true_eq]
      exact ⟨⟨⟨⟨⟨trivial, trivial⟩, trivial⟩, hok'.1.1⟩, hok'.1.2⟩, hok'.2⟩
    rw [hk]
    rfl
theorem s_setCol2 : SoundFun Try.prog 72 G_setCol2 := by
  refine fun_ok (tab := t_setCol2) (ann := annOf []) (lt := l_setCol2) tab_nil (by kernel_rfl) (fn := Try.f72) (by kernel_rfl) (by decide) (c := bodyOf Try.f72) (by kernel_rfl) (by
    intro m b hb
    have hb' : b ∈ loopsOf (bodyOf Try.f72) := hb
    rw [o_setCol2] at hb'
    simp only [List.mem_cons, List.not_mem_nil, or_false] at hb'
    rcases hb' with rfl
    · exact loop_ok (key := 2) (by kernel_rfl) rfl r_setCol2_0 z_setCol2_0 m
    ) ?_ (keep_nil (by kernel_rfl))
  intro args lent o y0'
  unfold G_setCol2 at y0'
  obtain ⟨args, rfl, y1'⟩ := pP_s y0'
  obtain ⟨x, args, rfl, y2'⟩ := pI_s y1'
  obtain ⟨c', args, rfl, y3'⟩ := pO_s y2'
  obtain ⟨m, rfl, y4'⟩ := kLI_s y3'
  obtain ⟨rfl, y5'⟩ := pE_s y4'
  obtain ⟨q', lent, rfl, y6'⟩ := nB_s y5'
  obtain ⟨a0, b0, c0, d0, a1, b1, c1, d1, a2, b2, c2, d2, a3, b3, c3, d3, rfl, y7'⟩ := rd4P_s y6'
  obtain ⟨l0, lent, rfl, y8'⟩ := nAI_s y7'
  obtain ⟨l1, lent, rfl, y9'⟩ := nAI_s y8'
  obtain ⟨l2, lent, rfl, y10'⟩ := nAI_s y9'
  obtain ⟨l3, lent, rfl, y11'⟩ := nAI_s y10'
  obtain ⟨rfl, y12'⟩ := nE_s y11'
  have yy' := y12'
  unfold H_setCol2 at yy'
  obtain ⟨hok, rfl⟩ := Prod.mk.inj (Option.some.inj yy')
  exact ⟨20, q_setCol2 _ _ _ _ _ _ _ _ _ _ _ _ _ _ _ _ _ _ _ _ _ _ hok⟩
theorem d_setCol3_0 {α : Type} {vs : List V} {bl : List (Option Blk)} {K} {r0' : α} {Q : Prop} (y0' : D_setCol3_0 vs bl K = some r0') (hh' : ∀ (x : Int) (g : Int) (n : Int) (i : Int) (a0 : Int) (b0 : Int) (c0 : Int) (d0 : Int) (a1 : Int) (b1 : Int) (c1 : Int) (d1 : Int) (a2 : Int) (b2 : Int) (c2 : Int) (d2 : Int) (a3 : Int) (b3 : Int) (c3 : Int) (d3 : Int) (l0 : List Int) (l1 : List Int) (l2 : List Int) (l3 : List Int) (m : List Int), vs = [.one (.ptr 0 15), .one (.int .i64 x), .one (.int .i64 g), .one (.lst (.int .i64) m), .one (.int .i64 n), .one (.int .i64 i)] → bl = [some (.box [.int .i64 a0, .int .i64 b0, .int .i64 c0, .int .i64 d0, .row 1, .int .i64 a1, .int .i64 b1, .int .i64 c1, .int .i64 d1, .row 2, .int .i64 a2, .int .i64 b2, .int .i64 c2, .int .i64 d2, .row 3, .int .i64 a3, .int .i64 b3, .int .i64 c3, .int .i64 d3, .row 4]), some (.arr 3 (.int .i64) l0), some (.arr 3 (.int .i64) l1), some (.arr 3 (.int .i64) l2), some (.arr 3 (.int .i64) l3)] → K x g n i a0 b0 c0 d0 a1 b1 c1 d1 a2 b2 c2 d2 a3 b3 c3 d3 l0 l1 l2 l3 m = some r0' → Q) : Q := by
  unfold D_setCol3_0 at y0'
  obtain ⟨vs, rfl, y1'⟩ := pP_s y0'
  obtain ⟨x, vs, rfl, y2'⟩ := pI_s y1'
  obtain ⟨g, vs, rfl, y3'⟩ := pI_s y2'
  obtain ⟨c', vs, rfl, y4'⟩ := pO_s y3'
  obtain ⟨m, rfl, y5'⟩ := kLI_s y4'
  obtain ⟨n, vs, rfl, y6'⟩ := pI_s y5'
  obtain ⟨i, vs, rfl, y7'⟩ := pI_s y6'
  obtain ⟨rfl, y8'⟩ := pE_s y7'
  obtain ⟨q', bl, rfl, y9'⟩ := bB_s y8'
  obtain ⟨a0, b0, c0, d0, a1, b1, c1, d1, a2, b2, c2, d2, a3, b3, c3, d3, rfl, y10'⟩ := rd4P_s y9'
  obtain ⟨l0, bl, rfl, y11'⟩ := bAI_s y10'
  obtain ⟨l1, bl, rfl, y12'⟩ := bAI_s y11'
  obtain ⟨l2, bl, rfl, y13'⟩ := bAI_s y12'
  obtain ⟨l3, bl, rfl, y14'⟩ := bAI_s y13'
  obtain ⟨rfl, y15'⟩ := bE_s y14'
  have yy' := y15'
  exact hh' _ _ _ _ _ _ _ _ _ _ _ _ _ _ _ _ _ _ _ _ _ _ _ _ _ rfl rfl yy'
theorem r_setCol3_0 : RoundOk Try.prog t_setCol3 (annOf []) l_setCol3 Out 20 5 45 [0, 1, 6, 20, 21, 22] (kxOf [] []) (loopOf Try.f72 0) T_setCol3_0 := by
  intro vs bl Kc r h
  unfold T_setCol3_0 at h
  obtain ⟨t, y0', h'⟩ := getD_run h
  refine d_setCol3_0 y0' fun x g n i a0 b0 c0 d0 a1 b1 c1 d1 a2 b2 c2 d2 a3 b3 c3 d3 l0 l1 l2 l3 m u1' u2' yy' => ?_
  subst u1' u2'
  cases yy'
  exact (b_setCol3_0 ..).trans h'
theorem o_setCol3 : loopsOf (bodyOf Try.f72) = [loopOf Try.f72 0] := by kernel_rfl
theorem zz_setCol3_0 (x g n i a0 b0 c0 d0 a1 b1 c1 d1 a2 b2 c2 d2 a3 b3 c3 d3 : Int) (l0 l1 l2 l3 m : List Int) (hk : k_setCol3_0 x g n i a0 b0 c0 d0 a1 b1 c1 d1 a2 b2 c2 d2 a3 b3 c3 d3 l0 l1 l2 l3 m = true) : ZZ (c_setCol3_0 x g n i a0 b0 c0 d0 a1 b1 c1 d1 a2 b2 c2 d2 a3 b3 c3 d3 l0 l1 l2 l3 m) T_setCol3_0 [.one (.ptr 0 15), .one (.int .i64 x), .one (.int .i64 g), .one (.lst (.int .i64) m), .one (.int .i64 n), .one (.int .i64 i)] [some (.box [.int .i64 a0, .int .i64 b0, .int .i64 c0, .int .i64 d0, .row 1, .int .i64 a1, .int .i64 b1, .int .i64 c1, .int .i64 d1, .row 2, .int .i64 a2, .int .i64 b2, .int .i64 c2, .int .i64 d2, .row 3, .int .i64 a3, .int .i64 b3, .int .i64 c3, .int .i64 d3, .row 4]), some (.arr 3 (.int .i64) l0), some (.arr 3 (.int .i64) l1), some (.arr 3 (.int .i64) l2), some (.arr 3 (.int .i64) l3)] := by
  simp only [k_setCol3_0, Bool.and_eq_true, decide_eq_true_eq] at hk
  obtain ⟨⟨⟨⟨⟨rfl, rfl⟩, rfl⟩, ⟨⟨h1, h2⟩, h3⟩, h4⟩, h5⟩, h6⟩ := hk
  obtain ⟨x', hx⟩ : ∃ x' : Nat, x - a3 = x' := ⟨(x - a3).toNat, by omega⟩
  obtain ⟨w', hw⟩ : ∃ w' : Nat, c3 - a3 = w' := ⟨(c3 - a3).toNat, by omega⟩
  have e5 : (c3 - a3).toNat = w' := by omega
  have e6 : (x - a3).toNat = x' := by omega
  have hsm : small m.length = true := small_of (by omega)
  refine Exists.elim (z_fold (T := T_setCol3_0) (st := fun j => ([.one (.ptr 0 15), .one (.int .i64 x), .one (.int .i64 (c3 - a3)), .one (.lst (.int .i64) m), .one (.int .i64 (m.length : Int)), .one (.int .i64 (j : Int))], [some (.box [.int .i64 a0, .int .i64 b0, .int .i64 c0, .int .i64 d0, .row 1, .int .i64 a1, .int .i64 b1, .int .i64 c1, .int .i64 d1, .row 2, .int .i64 a2, .int .i64 b2, .int .i64 c2, .int .i64 d2, .row 3, .int .i64 a3, .int .i64 b3, .int .i64 c3, .int .i64 d3, .row 4]), some (.arr 3 (.int .i64) l0), some (.arr 3 (.int .i64) l1), some (.arr 3 (.int .i64) l2), some (.arr 3 (.int .i64) (setT l3 w' x' m j))])) m.length (.leaf (.exit 0) [] [some (.box [.int .i64 a0, .int .i64 b0, .int .i64 c0, .int .i64 d0, .row 1, .int .i64 a1, .int .i64 b1, .int .i64 c1, .int .i64 d1, .row 2, .int .i64 a2, .int .i64 b2, .int .i64 c2, .int .i64 d2, .row 3, .int .i64 a3, .int .i64 b3, .int .i64 c3, .int .i64 d3, .row 4]), some (.arr 3 (.int .i64) l0), some (.arr 3 (.int .i64) l1), some (.arr 3 (.int .i64) l2), some (.arr 3 (.int .i64) (setT l3 w' x' m m.length))]) (fun j hj F K => ?_) (fun F K => ?_)) (fun k hk => ⟨k, fun K r h => ?_⟩)
  · have ib := idx_b (i := (j : Int)) (w := c3 - a3) (h := (m.length : Int)) (by omega) (by omega) (by omega)
    have hl := setT_len l3 w' x' m j
    rw [hw] at ib h6
    have e1 : ((j * w' + x' : Nat) : Int) = (j : Int) * w' + x' := by simp
    have mb : (w' : Int) * (m.length : Int) ≤ 4096 * 4096 := Int.mul_le_mul (by omega) (by omega) (by omega) (by omega)
    simp only [tu_setCol3_0, U_setCol3_0, LT.next, LT.run, ite2_bool, decide_eq_true_eq, Int.toNat_natCast, hw]
    rw [wrap_in (n := (j : Int) * (w' : Int)) (by omega) (by omega), wrap_in (n := (j : Int) * (w' : Int) + x) (by omega) (by omega), show (j : Int) * (w' : Int) + x - a3 = ((j * w' + x' : Nat) : Int) by omega, wrap_in (n := ((j * w' + x' : Nat) : Int)) (by omega) (by omega), wrap_next hj hsm, Int.toNat_natCast]
    repeat rw [if_pos (by first | rfl | omega)]
    rfl
  · simp only [tu_setCol3_0, U_setCol3_0, LT.next, LT.run, ite2_bool, decide_eq_true_eq]
    rw [if_neg (by omega)]
  · refine hk K r ?_
    unfold c_setCol3_0 setC at h
    rw [e5, e6] at h
    exact h
theorem z_setCol3_0 : ZOk S_setCol3_0 T_setCol3_0 := by
  intro vs bl t y0'
  refine d_setCol3_0 y0' fun x g n i a0 b0 c0 d0 a1 b1 c1 d1 a2 b2 c2 d2 a3 b3 c3 d3 l0 l1 l2 l3 m u1' u2' yy' => ?_
  subst u1' u2'
  obtain ⟨hk, rfl⟩ := Prod.mk.inj (Option.some.inj yy')
  exact zz_setCol3_0 _ _ _ _ _ _ _ _ _ _ _ _ _ _ _ _ _ _ _ _ _ _ _ _ _ hk
theorem q_setCol3 (x a0 b0 c0 d0 a1 b1 c1 d1 a2 b2 c2 d2 a3 b3 c3 d3 : Int) (l0 l1 l2 l3 m : List Int) (hok : ((decide (0 ≤ a3) && decide (a3 ≤ x) && decide (x < c3) && decide (c3 ≤ 4096)) && decide (m.length ≤ 4096) && decide ((l3.length : Int) = (c3 - a3) * (m.length : Int))) = true) : funR Try.prog t_setCol3 (annOf []) l_setCol3 20 Try.f72 [.one (.ptr 0 15), .one (.int .i64 x), .one (.lst (.int .i64) m)] [.box [.int .i64 a0, .int .i64 b0, .int .i64 c0, .int .i64 d0, .row 1, .int .i64 a1, .int .i64 b1, .int .i64 c1, .int .i64 d1, .row 2, .int .i64 a2, .int .i64 b2, .int .i64 c2, .int .i64 d2, .row 3, .int .i64 a3, .int .i64 b3, .int .i64 c3, .int .i64 d3, .row 4], .arr 3 (.int .i64) l0, .arr 3 (.int .i64) l1, .arr 3 (.int .i64) l2, .arr 3 (.int .i64) l3] = some ⟨.tup [], [some (.box [.int .i64 a0, .int .i64 b0, .int .i64 c0, .int .i64 d0, .row 1, .int .i64 a1, .int .i64 b1, .int .i64 c1, .int .i64 d1, .row 2, .int .i64 a2, .int .i64 b2, .int .i64 c2, .int .i64 d2, .row 3, .int .i64 a3, .int .i64 b3, .int .i64 c3, .int .i64 d3, .row 4]), some (.arr 3 (.int .i64) l0), some (.arr 3 (.int .i64) l1), some (.arr 3 (.int .i64) l2), some (.arr 3 (.int .i64) (setC l3 (c3 - a3).toNat (x - a3).toNat m))], []⟩ := by
    refine (e_setCol3 ..).trans ?_
    have hok' := hok
    simp only [Bool.and_eq_true, decide_eq_true_eq] at hok'
    rw [wrap_in (n := c3 - a3) (by omega) (by omega)]
    have hk : k_setCol3_0 x (c3 - a3) (m.length : Int) 0 a0 b0 c0 d0 a1 b1 c1 d1 a2 b2 c2 d2 a3 b3 c3 d3 l0 l1 l2 l3 m = true := by
      simp only [k_setCol3_0, Bool.and_eq_true, decide_eq_true_eq]
      exact ⟨⟨⟨⟨⟨trivial, trivial⟩, trivial⟩, hok'.1.1⟩, hok'.1.2⟩, hok'.2⟩
    rw [hk]
    rfl
theorem s_setCol3 : SoundFun Try.prog 72 G_setCol3 := by
  refine fun_ok (tab := t_setCol3) (ann := annOf []) (lt := l_setCol3) tab_nil (by kernel_rfl) (fn := Try.f72) (by kernel_rfl) (by decide) (c := bodyOf Try.f72) (by kernel_rfl) (by
    intro m b hb
    have hb' : b ∈ loopsOf (bodyOf Try.f72) := hb
    rw [o_setCol3] at hb'
    simp only [List.mem_cons, List.not_mem_nil, or_false] at hb'
    rcases hb' with rfl
    · exact loop_ok (key := 2) (by kernel_rfl) rfl r_setCol3_0 z_setCol3_0 m
    ) ?_ (keep_nil (by kernel_rfl))
  intro args lent o y0'
  unfold G_setCol3 at y0'
  obtain ⟨args, rfl, y1'⟩ := pP_s y0'
  obtain ⟨x, args, rfl, y2'⟩ := pI_s y1'
  obtain ⟨c', args, rfl, y3'⟩ := pO_s y2'
  obtain ⟨m, rfl, y4'⟩ := kLI_s y3'
  obtain ⟨rfl, y5'⟩ := pE_s y4'
  obtain ⟨q', lent, rfl, y6'⟩ := nB_s y5'
  obtain ⟨a0, b0, c0, d0, a1, b1, c1, d1, a2, b2, c2, d2, a3, b3, c3, d3, rfl, y7'⟩ := rd4P_s y6'
  obtain ⟨l0, lent, rfl, y8'⟩ := nAI_s y7'
  obtain ⟨l1, lent, rfl, y9'⟩ := nAI_s y8'
  obtain ⟨l2, lent, rfl, y10'⟩ := nAI_s y9'
  obtain ⟨l3, lent, rfl, y11'⟩ := nAI_s y10'
  obtain ⟨rfl, y12'⟩ := nE_s y11'
  have yy' := y12'
  unfold H_setCol3 at yy'
  obtain ⟨hok, rfl⟩ := Prod.mk.inj (Option.some.inj yy')
  exact ⟨20, q_setCol3 _ _ _ _ _ _ _ _ _ _ _ _ _ _ _ _ _ _ _ _ _ _ hok⟩
theorem d_setCol4_0 {α : Type} {vs : List V} {bl : List (Option Blk)} {K} {r0' : α} {Q : Prop} (y0' : D_setCol4_0 vs bl K = some r0') (hh' : ∀ (x : Int) (g : Int) (n : Int) (i : Int) (a0 : Int) (b0 : Int) (c0 : Int) (d0 : Int) (l0 : List Int) (m : List Int), vs = [.one (.ptr 0 0), .one (.int .i64 x), .one (.int .i64 g), .one (.lst (.int .i64) m), .one (.int .i64 n), .one (.int .i64 i)] → bl = [some (.box [.int .i64 a0, .int .i64 b0, .int .i64 c0, .int .i64 d0, .row 1]), some (.arr 3 (.int .i64) l0)] → K x g n i a0 b0 c0 d0 l0 m = some r0' → Q) : Q := by
  unfold D_setCol4_0 at y0'
  obtain ⟨vs, rfl, y1'⟩ := pP_s y0'
  obtain ⟨x, vs, rfl, y2'⟩ := pI_s y1'
  obtain ⟨g, vs, rfl, y3'⟩ := pI_s y2'
  obtain ⟨c', vs, rfl, y4'⟩ := pO_s y3'
  obtain ⟨m, rfl, y5'⟩ := kLI_s y4'
  obtain ⟨n, vs, rfl, y6'⟩ := pI_s y5'
  obtain ⟨i, vs, rfl, y7'⟩ := pI_s y6'
  obtain ⟨rfl, y8'⟩ := pE_s y7'
  obtain ⟨q', bl, rfl, y9'⟩ := bB_s y8'
  obtain ⟨a0, b0, c0, d0, rfl, y10'⟩ := rd1P_s y9'
  obtain ⟨l0, bl, rfl, y11'⟩ := bAI_s y10'
  obtain ⟨rfl, y12'⟩ := bE_s y11'
  have yy' := y12'
  exact hh' _ _ _ _ _ _ _ _ _ _ rfl rfl yy'
theorem r_setCol4_0 : RoundOk Try.prog t_setCol4 (annOf []) l_setCol4 Out 20 2 45 [0, 1, 6, 20, 21, 22] (kxOf [] []) (loopOf Try.f72 0) T_setCol4_0 := by
  intro vs bl Kc r h
  unfold T_setCol4_0 at h
  obtain ⟨t, y0', h'⟩ := getD_run h
  refine d_setCol4_0 y0' fun x g n i a0 b0 c0 d0 l0 m u1' u2' yy' => ?_
  subst u1' u2'
  cases yy'
  exact (b_setCol4_0 ..).trans h'
theorem o_setCol4 : loopsOf (bodyOf Try.f72) = [loopOf Try.f72 0] := by kernel_rfl
theorem zz_setCol4_0 (x g n i a0 b0 c0 d0 : Int) (l0 m : List Int) (hk : k_setCol4_0 x g n i a0 b0 c0 d0 l0 m = true) : ZZ (c_setCol4_0 x g n i a0 b0 c0 d0 l0 m) T_setCol4_0 [.one (.ptr 0 0), .one (.int .i64 x), .one (.int .i64 g), .one (.lst (.int .i64) m), .one (.int .i64 n), .one (.int .i64 i)] [some (.box [.int .i64 a0, .int .i64 b0, .int .i64 c0, .int .i64 d0, .row 1]), some (.arr 3 (.int .i64) l0)] := by
  simp only [k_setCol4_0, Bool.and_eq_true, decide_eq_true_eq] at hk
  obtain ⟨⟨⟨⟨⟨rfl, rfl⟩, rfl⟩, ⟨⟨h1, h2⟩, h3⟩, h4⟩, h5⟩, h6⟩ := hk
  obtain ⟨x', hx⟩ : ∃ x' : Nat, x - a0 = x' := ⟨(x - a0).toNat, by omega⟩
  obtain ⟨w', hw⟩ : ∃ w' : Nat, c0 - a0 = w' := ⟨(c0 - a0).toNat, by omega⟩
  have e5 : (c0 - a0).toNat = w' := by omega
  have e6 : (x - a0).toNat = x' := by omega
  have hsm : small m.length = true := small_of (by omega)
  refine Exists.elim (z_fold (T := T_setCol4_0) (st := fun j => ([.one (.ptr 0 0), .one (.int .i64 x), .one (.int .i64 (c0 - a0)), .one (.lst (.int .i64) m), .one (.int .i64 (m.length : Int)), .one (.int .i64 (j : Int))], [some (.box [.int .i64 a0, .int .i64 b0, .int .i64 c0, .int .i64 d0, .row 1]), some (.arr 3 (.int .i64) (setT l0 w' x' m j))])) m.length (.leaf (.exit 0) [] [some (.box [.int .i64 a0, .int .i64 b0, .int .i64 c0, .int .i64 d0, .row 1]), some (.arr 3 (.int .i64) (setT l0 w' x' m m.length))]) (fun j hj F K => ?_) (fun F K => ?_)) (fun k hk => ⟨k, fun K r h => ?_⟩)
  · have ib := idx_b (i := (j : Int)) (w := c0 - a0) (h := (m.length : Int)) (by omega) (by omega) (by omega)
    have hl := setT_len l0 w' x' m j
    rw [hw] at ib h6
    have e1 : ((j * w' + x' : Nat) : Int) = (j : Int) * w' + x' := by simp
    have mb : (w' : Int) * (m.length : Int) ≤ 4096 * 4096 := Int.mul_le_mul (by omega) (by omega) (by omega) (by omega)
    simp only [tu_setCol4_0, U_setCol4_0, LT.next, LT.run, ite2_bool, decide_eq_true_eq, Int.toNat_natCast, hw]
    rw [wrap_in (n := (j : Int) * (w' : Int)) (by omega) (by omega), wrap_in (n := (j : Int) * (w' : Int) + x) (by omega) (by omega), show (j : Int) * (w' : Int) + x - a0 = ((j * w' + x' : Nat) : Int) by omega, wrap_in (n := ((j * w' + x' : Nat) : Int)) (by omega) (by omega), wrap_next hj hsm, Int.toNat_natCast]
    repeat rw [if_pos (by first | rfl | omega)]
    rfl
  · simp only [tu_setCol4_0, U_setCol4_0, LT.next, LT.run, ite2_bool, decide_eq_true_eq]
    rw [if_neg (by omega)]
  · refine hk K r ?_
    unfold c_setCol4_0 setC at h
    rw [e5, e6] at h
    exact h
theorem z_setCol4_0 : ZOk S_setCol4_0 T_setCol4_0 := by
  intro vs bl t y0'
  refine d_setCol4_0 y0' fun x g n i a0 b0 c0 d0 l0 m u1' u2' yy' => ?_
  subst u1' u2'
  obtain ⟨hk, rfl⟩ := Prod.mk.inj (Option.some.inj yy')
  exact zz_setCol4_0 _ _ _ _ _ _ _ _ _ _ hk
theorem q_setCol4 (x a0 b0 c0 d0 : Int) (l0 m : List Int) (hok : ((decide (0 ≤ a0) && decide (a0 ≤ x) && decide (x < c0) && decide (c0 ≤ 4096)) && decide (m.length ≤ 4096) && decide ((l0.length : Int) = (c0 - a0) * (m.length : Int))) = true) : funR Try.prog t_setCol4 (annOf []) l_setCol4 20 Try.f72 [.one (.ptr 0 0), .one (.int .i64 x), .one (.lst (.int .i64) m)] [.box [.int .i64 a0, .int .i64 b0, .int .i64 c0, .int .i64 d0, .row 1], .arr 3 (.int .i64) l0] = some ⟨.tup [], [some (.box [.int .i64 a0, .int .i64 b0, .int .i64 c0, .int .i64 d0, .row 1]), some (.arr 3 (.int .i64) (setC l0 (c0 - a0).toNat (x - a0).toNat m))], []⟩ := by
    refine (e_setCol4 ..).trans ?_
    have hok' := hok
    simp only [Bool.and_eq_true, decide_eq_true_eq] at hok'
    rw [wrap_in (n := c0 - a0) (by omega) (by omega)]
    have hk : k_setCol4_0 x (c0 - a0) (m.length : Int) 0 a0 b0 c0 d0 l0 m = true := by
      simp only [k_setCol4_0, Bool.and_eq_true, decide_eq_true_eq]
      exact ⟨⟨⟨⟨⟨trivial, trivial⟩, trivial⟩, hok'.1.1⟩, hok'.1.2⟩, hok'.2⟩
    rw [hk]
    rfl
theorem s_setCol4 : SoundFun Try.prog 72 G_setCol4 := by
  refine fun_ok (tab := t_setCol4) (ann := annOf []) (lt := l_setCol4) tab_nil (by kernel_rfl) (fn := Try.f72) (by kernel_rfl) (by decide) (c := bodyOf Try.f72) (by kernel_rfl) (by
    intro m b hb
    have hb' : b ∈ loopsOf (bodyOf Try.f72) := hb
    rw [o_setCol4] at hb'
    simp only [List.mem_cons, List.not_mem_nil, or_false] at hb'
    rcases hb' with rfl
    · exact loop_ok (key := 2) (by kernel_rfl) rfl r_setCol4_0 z_setCol4_0 m
    ) ?_ (keep_nil (by kernel_rfl))
  intro args lent o y0'
  unfold G_setCol4 at y0'
  obtain ⟨args, rfl, y1'⟩ := pP_s y0'
  obtain ⟨x, args, rfl, y2'⟩ := pI_s y1'
  obtain ⟨c', args, rfl, y3'⟩ := pO_s y2'
  obtain ⟨m, rfl, y4'⟩ := kLI_s y3'
  obtain ⟨rfl, y5'⟩ := pE_s y4'
  obtain ⟨q', lent, rfl, y6'⟩ := nB_s y5'
  obtain ⟨a0, b0, c0, d0, rfl, y7'⟩ := rd1P_s y6'
  obtain ⟨l0, lent, rfl, y8'⟩ := nAI_s y7'
  obtain ⟨rfl, y9'⟩ := nE_s y8'
  have yy' := y9'
  unfold H_setCol4 at yy'
  obtain ⟨hok, rfl⟩ := Prod.mk.inj (Option.some.inj yy')
  exact ⟨20, q_setCol4 _ _ _ _ _ _ _ hok⟩
theorem s_dwt_setColumn : SoundFun Try.prog 72 G_dwt_setColumn := or_ok s_setCol0 (or_ok s_setCol1 (or_ok s_setCol2 (or_ok s_setCol3 s_setCol4 (keep_nil (by kernel_rfl))) (keep_nil (by kernel_rfl))) (keep_nil (by kernel_rfl))) (keep_nil (by kernel_rfl))
theorem setCs_len (l : List Int) (g : Nat) (f : Nat → List Int) : ∀ j, (setCs l g f j).length = l.length
  | 0 => rfl
  | j + 1 => by simp [setCs, setC, setT_len, setCs_len l g f j]
theorem colOf_len (l : List Int) (w x n : Nat) : (colOf l w x n).length = n := by simp [colOf]
theorem fitB_fit {b : Int} {l : List Int} (h : fitB b l = true) : fit b l := by rw [fitB_d] at h; simpa using h
theorem fit_fitB {b : Int} {l : List Int} (h : fit b l) : fitB b l = true := by rw [fitB_d]; simpa using h
theorem gI_fit {b : Int} {l : List Int} (h0 : 0 ≤ b) (h : fit b l) (i : Nat) : -b ≤ gI l i ∧ gI l i ≤ b := by
  rw [gI_rd]; exact Bd.of_mem h0 h i
theorem fit_col {b : Int} {l : List Int} (h0 : 0 ≤ b) (h : fit b l) (w x n : Nat) : fit b (colOf l w x n) := by
  intro y hy
  unfold colOf at hy
  obtain ⟨i, _, rfl⟩ := List.mem_map.1 hy
  exact gI_fit h0 h _
theorem set_ok {a c x : Int} {m l : Nat} (h0 : 0 ≤ a) (h1 : a ≤ x) (h2 : x < c) (h3 : c ≤ 4096) (h4 : m ≤ 4096) (h5 : (l : Int) = (c - a) * (m : Int)) : (decide (0 ≤ a) && decide (a ≤ x) && decide (x < c) && decide (c ≤ 4096) && decide (m ≤ 4096) && decide ((l : Int) = (c - a) * (m : Int))) = true := by
  simp only [h0, h1, h2, h3, h4, h5, decide_true, Bool.and_self]
theorem fw_good {l : List Int} {s k : Int} (hk : inr 1 3 k = true) (hs : inr 0 4096 s = true) (hn : l.length ≤ 4096) (hf : fit 281474976710656 l) : (fw l s k).2.2 = 0 ∧ ((fw l s k).1.length : Int) = cev s l.length ∧ ((fw l s k).2.1.length : Int) = l.length - cev s l.length := by
  rw [fw_ok (inr_b hk) (inr_b hs) hn hf]
  refine ⟨rfl, ?_, ?_⟩
  · show ((evs s (fz l s k)).length : Int) = _
    rw [evs_length, fz_len]
  · show ((ods s (fz l s k)).length : Int) = _
    rw [ods_length, fz_len]
theorem d_spCol0_0 {α : Type} {vs : List V} {bl : List (Option Blk)} {K} {r0' : α} {Q : Prop} (y0' : D_spCol0_0 vs bl K = some r0') (hh' : ∀ (p0 : Int) (e0 : Int) (q0 : Int) (f0 : Int) (p1 : Int) (e1 : Int) (q1 : Int) (f1 : Int) (a : Int) (b : Int) (c : Int) (d : Int) (kk : Int) (a0 : Int) (b0 : Int) (c0 : Int) (d0 : Int) (a1 : Int) (b1 : Int) (c1 : Int) (d1 : Int) (a2 : Int) (b2 : Int) (c2 : Int) (d2 : Int) (a3 : Int) (b3 : Int) (c3 : Int) (d3 : Int) (g0 : Int) (g1 : Int) (g2 : Int) (g3 : Int) (x : Int) (h0 : List Int) (h1 : List Int) (l0 : List Int) (l1 : List Int) (l2 : List Int) (l3 : List Int), vs = [.one (.int .i64 0), .one (.ptr 1 0), .one (.ptr 2 0), .one (.ptr 3 0), .one (.ptr 10 0), .one (.int .i64 x)] → bl = [some (.box [.int .i64 p0, .int .i64 e0, .int .i64 q0, .int .i64 f0, .row 4, .int .i64 p1, .int .i64 e1, .int .i64 q1, .int .i64 f1, .row 5]), some (.box [.int .i64 a, .int .i64 b, .int .i64 c, .int .i64 d]), some (.box [.int .i64 kk]), some (.box [.int .i64 a0, .int .i64 b0, .int .i64 c0, .int .i64 d0, .row 6, .int .i64 a1, .int .i64 b1, .int .i64 c1, .int .i64 d1, .row 7, .int .i64 a2, .int .i64 b2, .int .i64 c2, .int .i64 d2, .row 8, .int .i64 a3, .int .i64 b3, .int .i64 c3, .int .i64 d3, .row 9]), some (.arr 3 (.int .i64) h0), some (.arr 3 (.int .i64) h1), some (.arr 3 (.int .i64) l0), some (.arr 3 (.int .i64) l1), some (.arr 3 (.int .i64) l2), some (.arr 3 (.int .i64) l3), some (.box [.int .i64 g0, .int .i64 g1, .int .i64 g2, .int .i64 g3, .row 4])] → K p0 e0 q0 f0 p1 e1 q1 f1 a b c d kk a0 b0 c0 d0 a1 b1 c1 d1 a2 b2 c2 d2 a3 b3 c3 d3 g0 g1 g2 g3 x h0 h1 l0 l1 l2 l3 = some r0' → Q) : Q := by
  unfold D_spCol0_0 at y0'
  obtain ⟨c', vs, rfl, y1'⟩ := pO_s y0'
  obtain ⟨rfl, y2'⟩ := kJ_s y1'
  obtain ⟨vs, rfl, y3'⟩ := pP_s y2'
  obtain ⟨vs, rfl, y4'⟩ := pP_s y3'
  obtain ⟨vs, rfl, y5'⟩ := pP_s y4'
  obtain ⟨vs, rfl, y6'⟩ := pP_s y5'
  obtain ⟨x, vs, rfl, y7'⟩ := pI_s y6'
  obtain ⟨rfl, y8'⟩ := pE_s y7'
  obtain ⟨q', bl, rfl, y9'⟩ := bB_s y8'
  obtain ⟨p0, e0, q0, f0, p1, e1, q1, f1, rfl, y10'⟩ := rd2P_s y9'
  obtain ⟨q', bl, rfl, y11'⟩ := bB_s y10'
  obtain ⟨a, b, c, d, q', rfl, y12'⟩ := t4_s y11'
  obtain ⟨rfl, y13'⟩ := tE_s y12'
  obtain ⟨q', bl, rfl, y14'⟩ := bB_s y13'
  obtain ⟨kk, q', rfl, y15'⟩ := tI_s y14'
  obtain ⟨rfl, y16'⟩ := tE_s y15'
  obtain ⟨q', bl, rfl, y17'⟩ := bB_s y16'
  obtain ⟨a0, b0, c0, d0, a1, b1, c1, d1, a2, b2, c2, d2, a3, b3, c3, d3, rfl, y18'⟩ := rd4P_s y17'
  obtain ⟨h0, bl, rfl, y19'⟩ := bAI_s y18'
  obtain ⟨h1, bl, rfl, y20'⟩ := bAI_s y19'
  obtain ⟨l0, bl, rfl, y21'⟩ := bAI_s y20'
  obtain ⟨l1, bl, rfl, y22'⟩ := bAI_s y21'
  obtain ⟨l2, bl, rfl, y23'⟩ := bAI_s y22'
  obtain ⟨l3, bl, rfl, y24'⟩ := bAI_s y23'
  obtain ⟨q', bl, rfl, y25'⟩ := bB_s y24'
  obtain ⟨g0, g1, g2, g3, rfl, y26'⟩ := rd1P_s y25'
  obtain ⟨rfl, y27'⟩ := bE_s y26'
  have yy' := y27'
  exact hh' _ _ _ _ _ _ _ _ _ _ _ _ _ _ _ _ _ _ _ _ _ _ _ _ _ _ _ _ _ _ _ _ _ _ _ _ _ _ _ _ rfl rfl yy'
theorem r_spCol0_0 : RoundOk Try.prog t_spCol0 (annOf []) l_spCol0 Out 20 10 56 [0, 2, 3, 4, 7, 8] (kxOf [] [6]) (loopOf Try.f70 0) T_spCol0_0 := by
  intro vs bl Kc r h
  unfold T_spCol0_0 at h
  obtain ⟨t, y0', h'⟩ := getD_run h
  refine d_spCol0_0 y0' fun p0 e0 q0 f0 p1 e1 q1 f1 a b c d kk a0 b0 c0 d0 a1 b1 c1 d1 a2 b2 c2 d2 a3 b3 c3 d3 g0 g1 g2 g3 x h0 h1 l0 l1 l2 l3 u1' u2' yy' => ?_
  subst u1' u2'
  cases yy'
  exact (b_spCol0_0 ..).trans h'
theorem o_spCol0 : loopsOf (bodyOf Try.f70) = [loopOf Try.f70 0] := by kernel_rfl
theorem zz_spCol0_0 (p0 e0 q0 f0 p1 e1 q1 f1 a b c d kk a0 b0 c0 d0 a1 b1 c1 d1 a2 b2 c2 d2 a3 b3 c3 d3 g0 g1 g2 g3 x : Int) (h0 h1 l0 l1 l2 l3 : List Int) (hk : k_spCol0_0 p0 e0 q0 f0 p1 e1 q1 f1 a b c d kk a0 b0 c0 d0 a1 b1 c1 d1 a2 b2 c2 d2 a3 b3 c3 d3 g0 g1 g2 g3 x h0 h1 l0 l1 l2 l3 = true) : ZZ (c_spCol0_0 p0 e0 q0 f0 p1 e1 q1 f1 a b c d kk a0 b0 c0 d0 a1 b1 c1 d1 a2 b2 c2 d2 a3 b3 c3 d3 g0 g1 g2 g3 x h0 h1 l0 l1 l2 l3) T_spCol0_0 [.one (.int .i64 0), .one (.ptr 1 0), .one (.ptr 2 0), .one (.ptr 3 0), .one (.ptr 10 0), .one (.int .i64 x)] [some (.box [.int .i64 p0, .int .i64 e0, .int .i64 q0, .int .i64 f0, .row 4, .int .i64 p1, .int .i64 e1, .int .i64 q1, .int .i64 f1, .row 5]), some (.box [.int .i64 a, .int .i64 b, .int .i64 c, .int .i64 d]), some (.box [.int .i64 kk]), some (.box [.int .i64 a0, .int .i64 b0, .int .i64 c0, .int .i64 d0, .row 6, .int .i64 a1, .int .i64 b1, .int .i64 c1, .int .i64 d1, .row 7, .int .i64 a2, .int .i64 b2, .int .i64 c2, .int .i64 d2, .row 8, .int .i64 a3, .int .i64 b3, .int .i64 c3, .int .i64 d3, .row 9]), some (.arr 3 (.int .i64) h0), some (.arr 3 (.int .i64) h1), some (.arr 3 (.int .i64) l0), some (.arr 3 (.int .i64) l1), some (.arr 3 (.int .i64) l2), some (.arr 3 (.int .i64) l3), some (.box [.int .i64 g0, .int .i64 g1, .int .i64 g2, .int .i64 g3, .row 4])] := by
  simp only [k_spCol0_0, spOk, Bool.and_eq_true, decide_eq_true_eq] at hk
  obtain ⟨rfl, ⟨⟨⟨⟨⟨⟨⟨⟨hv, y1⟩, y2⟩, y3⟩, y4⟩, y5⟩, y6⟩, y7⟩, y8⟩, y9⟩ := hk
  have pb := plV_b hv
  have hf := fitB_fit y3
  obtain ⟨w', hw⟩ : ∃ w' : Nat, g2 - x = w' := ⟨(g2 - x).toNat, by omega⟩
  obtain ⟨n', hn⟩ : ∃ n' : Nat, g3 - g1 = n' := ⟨(g3 - g1).toNat, by omega⟩
  have e5 : (g2 - x).toNat = w' := by omega
  have e6 : (g3 - g1).toNat = n' := by omega
  refine Exists.elim (z_fold (T := T_spCol0_0) (st := fun j => ([.one (.int .i64 0), .one (.ptr 1 0), .one (.ptr 2 0), .one (.ptr 3 0), .one (.ptr 10 0), .one (.int .i64 (x + (j : Int)))], [some (.box [.int .i64 p0, .int .i64 e0, .int .i64 q0, .int .i64 f0, .row 4, .int .i64 p1, .int .i64 e1, .int .i64 q1, .int .i64 f1, .row 5]), some (.box [.int .i64 a, .int .i64 b, .int .i64 c, .int .i64 d]), some (.box [.int .i64 kk]), some (.box [.int .i64 a0, .int .i64 b0, .int .i64 c0, .int .i64 d0, .row 6, .int .i64 a1, .int .i64 b1, .int .i64 c1, .int .i64 d1, .row 7, .int .i64 a2, .int .i64 b2, .int .i64 c2, .int .i64 d2, .row 8, .int .i64 a3, .int .i64 b3, .int .i64 c3, .int .i64 d3, .row 9]), some (.arr 3 (.int .i64) h0), some (.arr 3 (.int .i64) h1), some (.arr 3 (.int .i64) (setCs l0 w' (cLo h0 w' n' b kk) j)), some (.arr 3 (.int .i64) l1), some (.arr 3 (.int .i64) (setCs l2 w' (cHi h0 w' n' b kk) j)), some (.arr 3 (.int .i64) l3), some (.box [.int .i64 x, .int .i64 g1, .int .i64 g2, .int .i64 g3, .row 4])])) w' (.leaf (.exit 0) [] [some (.box [.int .i64 p0, .int .i64 e0, .int .i64 q0, .int .i64 f0, .row 4, .int .i64 p1, .int .i64 e1, .int .i64 q1, .int .i64 f1, .row 5]), some (.box [.int .i64 a, .int .i64 b, .int .i64 c, .int .i64 d]), some (.box [.int .i64 kk]), some (.box [.int .i64 a0, .int .i64 b0, .int .i64 c0, .int .i64 d0, .row 6, .int .i64 a1, .int .i64 b1, .int .i64 c1, .int .i64 d1, .row 7, .int .i64 a2, .int .i64 b2, .int .i64 c2, .int .i64 d2, .row 8, .int .i64 a3, .int .i64 b3, .int .i64 c3, .int .i64 d3, .row 9]), some (.arr 3 (.int .i64) h0), some (.arr 3 (.int .i64) h1), some (.arr 3 (.int .i64) (setCs l0 w' (cLo h0 w' n' b kk) w')), some (.arr 3 (.int .i64) l1), some (.arr 3 (.int .i64) (setCs l2 w' (cHi h0 w' n' b kk) w')), some (.arr 3 (.int .i64) l3)]) (fun j hj F K => ?_) (fun F K => ?_)) (fun k hk => ⟨k, fun K r h => ?_⟩)
  · have hg := fw_good (l := colOf h0 w' j n') y1 y2 (by rw [colOf_len]; omega) (fit_col (by omega) hf _ _ _)
    rw [colOf_len] at hg
    have hl1 := setCs_len l0 w' (cLo h0 w' n' b kk) j
    have hl2 := setCs_len l2 w' (cHi h0 w' n' b kk) j
    have hc : plCol x g1 g2 g3 h0 (x + (j : Int)) = colOf h0 w' j n' := by
      unfold plCol
      rw [if_pos (by simp only [colOk, hv, Bool.and_eq_true, decide_eq_true_eq, true_and]; omega), e5, e6, show (x + (j : Int) - x).toNat = j by omega]
    simp only [tu_spCol0_0, U_spCol0_0, LT.next, LT.run, ite2_bool, decide_eq_true_eq, hc]
    have eb := cev_bd (s := b) (n := (n' : Int)) (by omega)
    rw [if_pos (by omega), if_pos (small_of (by rw [colOf_len]; omega)), hg.1, if_neg (by decide), if_pos (set_ok (by omega) (by omega) (by omega) (by omega) (by omega) (by rw [hl1, hg.2.1, ← hn, y8, y4, y5])), if_pos (set_ok (by omega) (by omega) (by omega) (by omega) (by omega) (by rw [hl2, hg.2.2, ← hn, y9, y6, y7])), wrap_in (n := x + (j : Int) + 1) (by omega) (by omega), show (c0 - a0).toNat = w' by omega, show (x + (j : Int) - a0).toNat = j by omega, show (c2 - a2).toNat = w' by omega, show (x + (j : Int) - a2).toNat = j by omega, show x + (j : Int) + 1 = x + ((j + 1 : Nat) : Int) by omega]
    rfl
  · simp only [tu_spCol0_0, U_spCol0_0, LT.next, LT.run, ite2_bool, decide_eq_true_eq]
    rw [if_neg (by omega)]
  · unfold c_spCol0_0 colsLo colsHi at h
    rw [e5, e6] at h
    have hk' := hk K r h
    rw [show x + ((0 : Nat) : Int) = x by simp] at hk'
    exact hk'
theorem z_spCol0_0 : ZOk S_spCol0_0 T_spCol0_0 := by
  intro vs bl t y0'
  refine d_spCol0_0 y0' fun p0 e0 q0 f0 p1 e1 q1 f1 a b c d kk a0 b0 c0 d0 a1 b1 c1 d1 a2 b2 c2 d2 a3 b3 c3 d3 g0 g1 g2 g3 x h0 h1 l0 l1 l2 l3 u1' u2' yy' => ?_
  subst u1' u2'
  obtain ⟨hk, rfl⟩ := Prod.mk.inj (Option.some.inj yy')
  exact zz_spCol0_0 _ _ _ _ _ _ _ _ _ _ _ _ _ _ _ _ _ _ _ _ _ _ _ _ _ _ _ _ _ _ _ _ _ _ _ _ _ _ _ _ hk
theorem q_spCol0 (p0 e0 q0 f0 p1 e1 q1 f1 a b c d k a0 b0 c0 d0 a1 b1 c1 d1 a2 b2 c2 d2 a3 b3 c3 d3 : Int) (h0 h1 l0 l1 l2 l3 : List Int) (hok : spOk p0 e0 q0 f0 b k a0 c0 a2 c2 h0 l0 l2 = true) : funR Try.prog t_spCol0 (annOf []) l_spCol0 20 Try.f70 [.one (.int .i64 0), .one (.ptr 0 0), .one (.ptr 1 0), .one (.ptr 2 0), .one (.ptr 3 0)] [.box [.int .i64 p0, .int .i64 e0, .int .i64 q0, .int .i64 f0, .row 4, .int .i64 p1, .int .i64 e1, .int .i64 q1, .int .i64 f1, .row 5], .box [.int .i64 a, .int .i64 b, .int .i64 c, .int .i64 d], .box [.int .i64 k], .box [.int .i64 a0, .int .i64 b0, .int .i64 c0, .int .i64 d0, .row 6, .int .i64 a1, .int .i64 b1, .int .i64 c1, .int .i64 d1, .row 7, .int .i64 a2, .int .i64 b2, .int .i64 c2, .int .i64 d2, .row 8, .int .i64 a3, .int .i64 b3, .int .i64 c3, .int .i64 d3, .row 9], .arr 3 (.int .i64) h0, .arr 3 (.int .i64) h1, .arr 3 (.int .i64) l0, .arr 3 (.int .i64) l1, .arr 3 (.int .i64) l2, .arr 3 (.int .i64) l3] = some ⟨.one (.int .i64 0), [some (.box [.int .i64 p0, .int .i64 e0, .int .i64 q0, .int .i64 f0, .row 4, .int .i64 p1, .int .i64 e1, .int .i64 q1, .int .i64 f1, .row 5]), some (.box [.int .i64 a, .int .i64 b, .int .i64 c, .int .i64 d]), some (.box [.int .i64 k]), some (.box [.int .i64 a0, .int .i64 b0, .int .i64 c0, .int .i64 d0, .row 6, .int .i64 a1, .int .i64 b1, .int .i64 c1, .int .i64 d1, .row 7, .int .i64 a2, .int .i64 b2, .int .i64 c2, .int .i64 d2, .row 8, .int .i64 a3, .int .i64 b3, .int .i64 c3, .int .i64 d3, .row 9]), some (.arr 3 (.int .i64) h0), some (.arr 3 (.int .i64) h1), some (.arr 3 (.int .i64) (colsLo l0 h0 (q0 - p0).toNat (f0 - e0).toNat b k)), some (.arr 3 (.int .i64) l1), some (.arr 3 (.int .i64) (colsHi l2 h0 (q0 - p0).toNat (f0 - e0).toNat b k)), some (.arr 3 (.int .i64) l3)], []⟩ := by
    refine (e_spCol0 ..).trans ?_
    have hk : k_spCol0_0 p0 e0 q0 f0 p1 e1 q1 f1 a b c d k a0 b0 c0 d0 a1 b1 c1 d1 a2 b2 c2 d2 a3 b3 c3 d3 p0 e0 q0 f0 p0 h0 h1 l0 l1 l2 l3 = true := by
      simp only [k_spCol0_0, hok, decide_true, Bool.and_self]
    rw [hk]
    rfl
theorem s_spCol0 : SoundFun Try.prog 70 G_spCol0 := by
  refine fun_ok (tab := t_spCol0) (ann := annOf []) (lt := l_spCol0) (tab_cons s_lift_Forward (tab_cons s_pl_Column (tab_cons s_dwt_setColumn tab_nil))) (by kernel_rfl) (fn := Try.f70) (by kernel_rfl) (by decide) (c := bodyOf Try.f70) (by kernel_rfl) (by
    intro m b hb
    have hb' : b ∈ loopsOf (bodyOf Try.f70) := hb
    rw [o_spCol0] at hb'
    simp only [List.mem_cons, List.not_mem_nil, or_false] at hb'
    rcases hb' with rfl
    · exact loop_ok (key := 3) (by kernel_rfl) rfl r_spCol0_0 z_spCol0_0 m
    ) ?_ (keep_nil (by kernel_rfl))
  intro args lent o y0'
  unfold G_spCol0 at y0'
  obtain ⟨c', args, rfl, y1'⟩ := pO_s y0'
  obtain ⟨rfl, y2'⟩ := kJ_s y1'
  obtain ⟨args, rfl, y3'⟩ := pP_s y2'
  obtain ⟨args, rfl, y4'⟩ := pP_s y3'
  obtain ⟨args, rfl, y5'⟩ := pP_s y4'
  obtain ⟨args, rfl, y6'⟩ := pP_s y5'
  obtain ⟨rfl, y7'⟩ := pE_s y6'
  obtain ⟨q', lent, rfl, y8'⟩ := nB_s y7'
  obtain ⟨p0, e0, q0, f0, p1, e1, q1, f1, rfl, y9'⟩ := rd2P_s y8'
  obtain ⟨q', lent, rfl, y10'⟩ := nB_s y9'
  obtain ⟨a, b, c, d, q', rfl, y11'⟩ := t4_s y10'
  obtain ⟨rfl, y12'⟩ := tE_s y11'
  obtain ⟨q', lent, rfl, y13'⟩ := nB_s y12'
  obtain ⟨k, q', rfl, y14'⟩ := tI_s y13'
  obtain ⟨rfl, y15'⟩ := tE_s y14'
  obtain ⟨q', lent, rfl, y16'⟩ := nB_s y15'
  obtain ⟨a0, b0, c0, d0, a1, b1, c1, d1, a2, b2, c2, d2, a3, b3, c3, d3, rfl, y17'⟩ := rd4P_s y16'
  obtain ⟨h0, lent, rfl, y18'⟩ := nAI_s y17'
  obtain ⟨h1, lent, rfl, y19'⟩ := nAI_s y18'
  obtain ⟨l0, lent, rfl, y20'⟩ := nAI_s y19'
  obtain ⟨l1, lent, rfl, y21'⟩ := nAI_s y20'
  obtain ⟨l2, lent, rfl, y22'⟩ := nAI_s y21'
  obtain ⟨l3, lent, rfl, y23'⟩ := nAI_s y22'
  obtain ⟨rfl, y24'⟩ := nE_s y23'
  have yy' := y24'
  unfold H_spCol0 at yy'
  obtain ⟨hok, rfl⟩ := Prod.mk.inj (Option.some.inj yy')
  exact ⟨20, q_spCol0 _ _ _ _ _ _ _ _ _ _ _ _ _ _ _ _ _ _ _ _ _ _ _ _ _ _ _ _ _ _ _ _ _ _ _ hok⟩
theorem d_spCol1_0 {α : Type} {vs : List V} {bl : List (Option Blk)} {K} {r0' : α} {Q : Prop} (y0' : D_spCol1_0 vs bl K = some r0') (hh' : ∀ (p0 : Int) (e0 : Int) (q0 : Int) (f0 : Int) (p1 : Int) (e1 : Int) (q1 : Int) (f1 : Int) (a : Int) (b : Int) (c : Int) (d : Int) (kk : Int) (a0 : Int) (b0 : Int) (c0 : Int) (d0 : Int) (a1 : Int) (b1 : Int) (c1 : Int) (d1 : Int) (a2 : Int) (b2 : Int) (c2 : Int) (d2 : Int) (a3 : Int) (b3 : Int) (c3 : Int) (d3 : Int) (g0 : Int) (g1 : Int) (g2 : Int) (g3 : Int) (x : Int) (h0 : List Int) (h1 : List Int) (l0 : List Int) (l1 : List Int) (l2 : List Int) (l3 : List Int), vs = [.one (.int .i64 1), .one (.ptr 1 0), .one (.ptr 2 0), .one (.ptr 3 0), .one (.ptr 10 0), .one (.int .i64 x)] → bl = [some (.box [.int .i64 p0, .int .i64 e0, .int .i64 q0, .int .i64 f0, .row 4, .int .i64 p1, .int .i64 e1, .int .i64 q1, .int .i64 f1, .row 5]), some (.box [.int .i64 a, .int .i64 b, .int .i64 c, .int .i64 d]), some (.box [.int .i64 kk]), some (.box [.int .i64 a0, .int .i64 b0, .int .i64 c0, .int .i64 d0, .row 6, .int .i64 a1, .int .i64 b1, .int .i64 c1, .int .i64 d1, .row 7, .int .i64 a2, .int .i64 b2, .int .i64 c2, .int .i64 d2, .row 8, .int .i64 a3, .int .i64 b3, .int .i64 c3, .int .i64 d3, .row 9]), some (.arr 3 (.int .i64) h0), some (.arr 3 (.int .i64) h1), some (.arr 3 (.int .i64) l0), some (.arr 3 (.int .i64) l1), some (.arr 3 (.int .i64) l2), some (.arr 3 (.int .i64) l3), some (.box [.int .i64 g0, .int .i64 g1, .int .i64 g2, .int .i64 g3, .row 5])] → K p0 e0 q0 f0 p1 e1 q1 f1 a b c d kk a0 b0 c0 d0 a1 b1 c1 d1 a2 b2 c2 d2 a3 b3 c3 d3 g0 g1 g2 g3 x h0 h1 l0 l1 l2 l3 = some r0' → Q) : Q := by
  unfold D_spCol1_0 at y0'
  obtain ⟨c', vs, rfl, y1'⟩ := pO_s y0'
  obtain ⟨rfl, y2'⟩ := kJ_s y1'
  obtain ⟨vs, rfl, y3'⟩ := pP_s y2'
  obtain ⟨vs, rfl, y4'⟩ := pP_s y3'
  obtain ⟨vs, rfl, y5'⟩ := pP_s y4'
  obtain ⟨vs, rfl, y6'⟩ := pP_s y5'
  obtain ⟨x, vs, rfl, y7'⟩ := pI_s y6'
  obtain ⟨rfl, y8'⟩ := pE_s y7'
  obtain ⟨q', bl, rfl, y9'⟩ := bB_s y8'
  obtain ⟨p0, e0, q0, f0, p1, e1, q1, f1, rfl, y10'⟩ := rd2P_s y9'
  obtain ⟨q', bl, rfl, y11'⟩ := bB_s y10'
  obtain ⟨a, b, c, d, q', rfl, y12'⟩ := t4_s y11'
  obtain ⟨rfl, y13'⟩ := tE_s y12'
  obtain ⟨q', bl, rfl, y14'⟩ := bB_s y13'
  obtain ⟨kk, q', rfl, y15'⟩ := tI_s y14'
  obtain ⟨rfl, y16'⟩ := tE_s y15'
  obtain ⟨q', bl, rfl, y17'⟩ := bB_s y16'
  obtain ⟨a0, b0, c0, d0, a1, b1, c1, d1, a2, b2, c2, d2, a3, b3, c3, d3, rfl, y18'⟩ := rd4P_s y17'
  obtain ⟨h0, bl, rfl, y19'⟩ := bAI_s y18'
  obtain ⟨h1, bl, rfl, y20'⟩ := bAI_s y19'
  obtain ⟨l0, bl, rfl, y21'⟩ := bAI_s y20'
  obtain ⟨l1, bl, rfl, y22'⟩ := bAI_s y21'
  obtain ⟨l2, bl, rfl, y23'⟩ := bAI_s y22'
  obtain ⟨l3, bl, rfl, y24'⟩ := bAI_s y23'
  obtain ⟨q', bl, rfl, y25'⟩ := bB_s y24'
  obtain ⟨g0, g1, g2, g3, rfl, y26'⟩ := rd1P_s y25'
  obtain ⟨rfl, y27'⟩ := bE_s y26'
  have yy' := y27'
  exact hh' _ _ _ _ _ _ _ _ _ _ _ _ _ _ _ _ _ _ _ _ _ _ _ _ _ _ _ _ _ _ _ _ _ _ _ _ _ _ _ _ rfl rfl yy'
theorem r_spCol1_0 : RoundOk Try.prog t_spCol1 (annOf []) l_spCol1 Out 20 10 56 [0, 2, 3, 4, 7, 8] (kxOf [] [6]) (loopOf Try.f70 0) T_spCol1_0 := by
  intro vs bl Kc r h
  unfold T_spCol1_0 at h
  obtain ⟨t, y0', h'⟩ := getD_run h
  refine d_spCol1_0 y0' fun p0 e0 q0 f0 p1 e1 q1 f1 a b c d kk a0 b0 c0 d0 a1 b1 c1 d1 a2 b2 c2 d2 a3 b3 c3 d3 g0 g1 g2 g3 x h0 h1 l0 l1 l2 l3 u1' u2' yy' => ?_
  subst u1' u2'
  cases yy'
  exact (b_spCol1_0 ..).trans h'
theorem o_spCol1 : loopsOf (bodyOf Try.f70) = [loopOf Try.f70 0] := by kernel_rfl
theorem zz_spCol1_0 (p0 e0 q0 f0 p1 e1 q1 f1 a b c d kk a0 b0 c0 d0 a1 b1 c1 d1 a2 b2 c2 d2 a3 b3 c3 d3 g0 g1 g2 g3 x : Int) (h0 h1 l0 l1 l2 l3 : List Int) (hk : k_spCol1_0 p0 e0 q0 f0 p1 e1 q1 f1 a b c d kk a0 b0 c0 d0 a1 b1 c1 d1 a2 b2 c2 d2 a3 b3 c3 d3 g0 g1 g2 g3 x h0 h1 l0 l1 l2 l3 = true) : ZZ (c_spCol1_0 p0 e0 q0 f0 p1 e1 q1 f1 a b c d kk a0 b0 c0 d0 a1 b1 c1 d1 a2 b2 c2 d2 a3 b3 c3 d3 g0 g1 g2 g3 x h0 h1 l0 l1 l2 l3) T_spCol1_0 [.one (.int .i64 1), .one (.ptr 1 0), .one (.ptr 2 0), .one (.ptr 3 0), .one (.ptr 10 0), .one (.int .i64 x)] [some (.box [.int .i64 p0, .int .i64 e0, .int .i64 q0, .int .i64 f0, .row 4, .int .i64 p1, .int .i64 e1, .int .i64 q1, .int .i64 f1, .row 5]), some (.box [.int .i64 a, .int .i64 b, .int .i64 c, .int .i64 d]), some (.box [.int .i64 kk]), some (.box [.int .i64 a0, .int .i64 b0, .int .i64 c0, .int .i64 d0, .row 6, .int .i64 a1, .int .i64 b1, .int .i64 c1, .int .i64 d1, .row 7, .int .i64 a2, .int .i64 b2, .int .i64 c2, .int .i64 d2, .row 8, .int .i64 a3, .int .i64 b3, .int .i64 c3, .int .i64 d3, .row 9]), some (.arr 3 (.int .i64) h0), some (.arr 3 (.int .i64) h1), some (.arr 3 (.int .i64) l0), some (.arr 3 (.int .i64) l1), some (.arr 3 (.int .i64) l2), some (.arr 3 (.int .i64) l3), some (.box [.int .i64 g0, .int .i64 g1, .int .i64 g2, .int .i64 g3, .row 5])] := by
  simp only [k_spCol1_0, spOk, Bool.and_eq_true, decide_eq_true_eq] at hk
  obtain ⟨rfl, ⟨⟨⟨⟨⟨⟨⟨⟨hv, y1⟩, y2⟩, y3⟩, y4⟩, y5⟩, y6⟩, y7⟩, y8⟩, y9⟩ := hk
  have pb := plV_b hv
  have hf := fitB_fit y3
  obtain ⟨w', hw⟩ : ∃ w' : Nat, g2 - x = w' := ⟨(g2 - x).toNat, by omega⟩
  obtain ⟨n', hn⟩ : ∃ n' : Nat, g3 - g1 = n' := ⟨(g3 - g1).toNat, by omega⟩
  have e5 : (g2 - x).toNat = w' := by omega
  have e6 : (g3 - g1).toNat = n' := by omega
  refine Exists.elim (z_fold (T := T_spCol1_0) (st := fun j => ([.one (.int .i64 1), .one (.ptr 1 0), .one (.ptr 2 0), .one (.ptr 3 0), .one (.ptr 10 0), .one (.int .i64 (x + (j : Int)))], [some (.box [.int .i64 p0, .int .i64 e0, .int .i64 q0, .int .i64 f0, .row 4, .int .i64 p1, .int .i64 e1, .int .i64 q1, .int .i64 f1, .row 5]), some (.box [.int .i64 a, .int .i64 b, .int .i64 c, .int .i64 d]), some (.box [.int .i64 kk]), some (.box [.int .i64 a0, .int .i64 b0, .int .i64 c0, .int .i64 d0, .row 6, .int .i64 a1, .int .i64 b1, .int .i64 c1, .int .i64 d1, .row 7, .int .i64 a2, .int .i64 b2, .int .i64 c2, .int .i64 d2, .row 8, .int .i64 a3, .int .i64 b3, .int .i64 c3, .int .i64 d3, .row 9]), some (.arr 3 (.int .i64) h0), some (.arr 3 (.int .i64) h1), some (.arr 3 (.int .i64) l0), some (.arr 3 (.int .i64) (setCs l1 w' (cLo h1 w' n' b kk) j)), some (.arr 3 (.int .i64) l2), some (.arr 3 (.int .i64) (setCs l3 w' (cHi h1 w' n' b kk) j)), some (.box [.int .i64 x, .int .i64 g1, .int .i64 g2, .int .i64 g3, .row 5])])) w' (.leaf (.exit 0) [] [some (.box [.int .i64 p0, .int .i64 e0, .int .i64 q0, .int .i64 f0, .row 4, .int .i64 p1, .int .i64 e1, .int .i64 q1, .int .i64 f1, .row 5]), some (.box [.int .i64 a, .int .i64 b, .int .i64 c, .int .i64 d]), some (.box [.int .i64 kk]), some (.box [.int .i64 a0, .int .i64 b0, .int .i64 c0, .int .i64 d0, .row 6, .int .i64 a1, .int .i64 b1, .int .i64 c1, .int .i64 d1, .row 7, .int .i64 a2, .int .i64 b2, .int .i64 c2, .int .i64 d2, .row 8, .int .i64 a3, .int .i64 b3, .int .i64 c3, .int .i64 d3, .row 9]), some (.arr 3 (.int .i64) h0), some (.arr 3 (.int .i64) h1), some (.arr 3 (.int .i64) l0), some (.arr 3 (.int .i64) (setCs l1 w' (cLo h1 w' n' b kk) w')), some (.arr 3 (.int .i64) l2), some (.arr 3 (.int .i64) (setCs l3 w' (cHi h1 w' n' b kk) w'))]) (fun j hj F K => ?_) (fun F K => ?_)) (fun k hk => ⟨k, fun K r h => ?_⟩)
  · have hg := fw_good (l := colOf h1 w' j n') y1 y2 (by rw [colOf_len]; omega) (fit_col (by omega) hf _ _ _)
    rw [colOf_len] at hg
    have hl1 := setCs_len l1 w' (cLo h1 w' n' b kk) j
    have hl2 := setCs_len l3 w' (cHi h1 w' n' b kk) j
    have hc : plCol x g1 g2 g3 h1 (x + (j : Int)) = colOf h1 w' j n' := by
      unfold plCol
      rw [if_pos (by simp only [colOk, hv, Bool.and_eq_true, decide_eq_true_eq, true_and]; omega), e5, e6, show (x + (j : Int) - x).toNat = j by omega]
    simp only [tu_spCol1_0, U_spCol1_0, LT.next, LT.run, ite2_bool, decide_eq_true_eq, hc]
    have eb := cev_bd (s := b) (n := (n' : Int)) (by omega)
    rw [if_pos (by omega), if_pos (small_of (by rw [colOf_len]; omega)), hg.1, if_neg (by decide), if_pos (set_ok (by omega) (by omega) (by omega) (by omega) (by omega) (by rw [hl1, hg.2.1, ← hn, y8, y4, y5])), if_pos (set_ok (by omega) (by omega) (by omega) (by omega) (by omega) (by rw [hl2, hg.2.2, ← hn, y9, y6, y7])), wrap_in (n := x + (j : Int) + 1) (by omega) (by omega), show (c1 - a1).toNat = w' by omega, show (x + (j : Int) - a1).toNat = j by omega, show (c3 - a3).toNat = w' by omega, show (x + (j : Int) - a3).toNat = j by omega, show x + (j : Int) + 1 = x + ((j + 1 : Nat) : Int) by omega]
    rfl
  · simp only [tu_spCol1_0, U_spCol1_0, LT.next, LT.run, ite2_bool, decide_eq_true_eq]
    rw [if_neg (by omega)]
  · unfold c_spCol1_0 colsLo colsHi at h
    rw [e5, e6] at h
    have hk' := hk K r h
    rw [show x + ((0 : Nat) : Int) = x by simp] at hk'
    exact hk'
theorem z_spCol1_0 : ZOk S_spCol1_0 T_spCol1_0 := by
  intro vs bl t y0'
  refine d_spCol1_0 y0' fun p0 e0 q0 f0 p1 e1 q1 f1 a b c d kk a0 b0 c0 d0 a1 b1 c1 d1 a2 b2 c2 d2 a3 b3 c3 d3 g0 g1 g2 g3 x h0 h1 l0 l1 l2 l3 u1' u2' yy' => ?_
  subst u1' u2'
  obtain ⟨hk, rfl⟩ := Prod.mk.inj (Option.some.inj yy')
  exact zz_spCol1_0 _ _ _ _ _ _ _ _ _ _ _ _ _ _ _ _ _ _ _ _ _ _ _ _ _ _ _ _ _ _ _ _ _ _ _ _ _ _ _ _ hk
theorem q_spCol1 (p0 e0 q0 f0 p1 e1 q1 f1 a b c d k a0 b0 c0 d0 a1 b1 c1 d1 a2 b2 c2 d2 a3 b3 c3 d3 : Int) (h0 h1 l0 l1 l2 l3 : List Int) (hok : spOk p1 e1 q1 f1 b k a1 c1 a3 c3 h1 l1 l3 = true) : funR Try.prog t_spCol1 (annOf []) l_spCol1 20 Try.f70 [.one (.int .i64 1), .one (.ptr 0 0), .one (.ptr 1 0), .one (.ptr 2 0), .one (.ptr 3 0)] [.box [.int .i64 p0, .int .i64 e0, .int .i64 q0, .int .i64 f0, .row 4, .int .i64 p1, .int .i64 e1, .int .i64 q1, .int .i64 f1, .row 5], .box [.int .i64 a, .int .i64 b, .int .i64 c, .int .i64 d], .box [.int .i64 k], .box [.int .i64 a0, .int .i64 b0, .int .i64 c0, .int .i64 d0, .row 6, .int .i64 a1, .int .i64 b1, .int .i64 c1, .int .i64 d1, .row 7, .int .i64 a2, .int .i64 b2, .int .i64 c2, .int .i64 d2, .row 8, .int .i64 a3, .int .i64 b3, .int .i64 c3, .int .i64 d3, .row 9], .arr 3 (.int .i64) h0, .arr 3 (.int .i64) h1, .arr 3 (.int .i64) l0, .arr 3 (.int .i64) l1, .arr 3 (.int .i64) l2, .arr 3 (.int .i64) l3] = some ⟨.one (.int .i64 0), [some (.box [.int .i64 p0, .int .i64 e0, .int .i64 q0, .int .i64 f0, .row 4, .int .i64 p1, .int .i64 e1, .int .i64 q1, .int .i64 f1, .row 5]), some (.box [.int .i64 a, .int .i64 b, .int .i64 c, .int .i64 d]), some (.box [.int .i64 k]), some (.box [.int .i64 a0, .int .i64 b0, .int .i64 c0, .int .i64 d0, .row 6, .int .i64 a1, .int .i64 b1, .int .i64 c1, .int .i64 d1, .row 7, .int .i64 a2, .int .i64 b2, .int .i64 c2, .int .i64 d2, .row 8, .int .i64 a3, .int .i64 b3, .int .i64 c3, .int .i64 d3, .row 9]), some (.arr 3 (.int .i64) h0), some (.arr 3 (.int .i64) h1), some (.arr 3 (.int .i64) l0), some (.arr 3 (.int .i64) (colsLo l1 h1 (q1 - p1).toNat (f1 - e1).toNat b k)), some (.arr 3 (.int .i64) l2), some (.arr 3 (.int .i64) (colsHi l3 h1 (q1 - p1).toNat (f1 - e1).toNat b k))], []⟩ := by
    refine (e_spCol1 ..).trans ?_
    have hk : k_spCol1_0 p0 e0 q0 f0 p1 e1 q1 f1 a b c d k a0 b0 c0 d0 a1 b1 c1 d1 a2 b2 c2 d2 a3 b3 c3 d3 p1 e1 q1 f1 p1 h0 h1 l0 l1 l2 l3 = true := by
      simp only [k_spCol1_0, hok, decide_true, Bool.and_self]
    rw [hk]
    rfl
theorem s_spCol1 : SoundFun Try.prog 70 G_spCol1 := by
  refine fun_ok (tab := t_spCol1) (ann := annOf []) (lt := l_spCol1) (tab_cons s_lift_Forward (tab_cons s_pl_Column (tab_cons s_dwt_setColumn tab_nil))) (by kernel_rfl) (fn := Try.f70) (by kernel_rfl) (by decide) (c := bodyOf Try.f70) (by kernel_rfl) (by
    intro m b hb
    have hb' : b ∈ loopsOf (bodyOf Try.f70) := hb
    rw [o_spCol1] at hb'
    simp only [List.mem_cons, List.not_mem_nil, or_false] at hb'
    rcases hb' with rfl
    · exact loop_ok (key := 3) (by kernel_rfl) rfl r_spCol1_0 z_spCol1_0 m
    ) ?_ (keep_nil (by kernel_rfl))
  intro args lent o y0'
  unfold G_spCol1 at y0'
  obtain ⟨c', args, rfl, y1'⟩ := pO_s y0'
  obtain ⟨rfl, y2'⟩ := kJ_s y1'
  obtain ⟨args, rfl, y3'⟩ := pP_s y2'
  obtain ⟨args, rfl, y4'⟩ := pP_s y3'
  obtain ⟨args, rfl, y5'⟩ := pP_s y4'
  obtain ⟨args, rfl, y6'⟩ := pP_s y5'
  obtain ⟨rfl, y7'⟩ := pE_s y6'
  obtain ⟨q', lent, rfl, y8'⟩ := nB_s y7'
  obtain ⟨p0, e0, q0, f0, p1, e1, q1, f1, rfl, y9'⟩ := rd2P_s y8'
  obtain ⟨q', lent, rfl, y10'⟩ := nB_s y9'
  obtain ⟨a, b, c, d, q', rfl, y11'⟩ := t4_s y10'
  obtain ⟨rfl, y12'⟩ := tE_s y11'
  obtain ⟨q', lent, rfl, y13'⟩ := nB_s y12'
  obtain ⟨k, q', rfl, y14'⟩ := tI_s y13'
  obtain ⟨rfl, y15'⟩ := tE_s y14'
  obtain ⟨q', lent, rfl, y16'⟩ := nB_s y15'
  obtain ⟨a0, b0, c0, d0, a1, b1, c1, d1, a2, b2, c2, d2, a3, b3, c3, d3, rfl, y17'⟩ := rd4P_s y16'
  obtain ⟨h0, lent, rfl, y18'⟩ := nAI_s y17'
  obtain ⟨h1, lent, rfl, y19'⟩ := nAI_s y18'
  obtain ⟨l0, lent, rfl, y20'⟩ := nAI_s y19'
  obtain ⟨l1, lent, rfl, y21'⟩ := nAI_s y20'
  obtain ⟨l2, lent, rfl, y22'⟩ := nAI_s y21'
  obtain ⟨l3, lent, rfl, y23'⟩ := nAI_s y22'
  obtain ⟨rfl, y24'⟩ := nE_s y23'
  have yy' := y24'
  unfold H_spCol1 at yy'
  obtain ⟨hok, rfl⟩ := Prod.mk.inj (Option.some.inj yy')
  exact ⟨20, q_spCol1 _ _ _ _ _ _ _ _ _ _ _ _ _ _ _ _ _ _ _ _ _ _ _ _ _ _ _ _ _ _ _ _ _ _ _ hok⟩
theorem s_dwt_Split_1 : SoundFun Try.prog 70 G_dwt_Split_1 := or_ok s_spCol0 s_spCol1 (keep_nil (by kernel_rfl))
end Go.Rx.Ch06
