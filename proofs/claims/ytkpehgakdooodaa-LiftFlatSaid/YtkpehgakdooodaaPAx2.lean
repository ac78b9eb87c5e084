-- Written by wip/tools/wprint.py (the prover's own program over the kit's print) for this claim. Not trusted: Lean checks it.
import Derived.Test.YtkpehgakdooodaaPAx0
import Derived.Test.YtkpehgakdooodaaPAx1
namespace Go.Proofs.Ytkpehgakdooodaa.PA
open Go.RowKit Go.Proofs.YtkpehgakdooodaaW.PrintWords Go.Proofs.YtkpehgakdooodaaW.PrintLast Go.Proofs.YtkpehgakdooodaaW.PrintMore
attribute [local go_sem] max2_int min2_int max_two min_two max_three min_three max_four min_four   -- for this text's walks alone
set_option linter.unusedVariables false
set_option linter.unusedSimpArgs false

/-! ### lift_line_predict_2: function 40 -/
def lift_line_predict_2.f (k : Nat) (l : List Int) (s i : Int) : Option Int := (lift_line_at.f k l s (wrap64 (i - 1))).bind fun t1 => (lift_line_at.f k l s (wrap64 (i + 1))).bind fun t2 => some (wrap64 (t1 + t2) / 2)
theorem lift_line_predict_2.mono (l : List Int) (s i : Int) (k : Nat) : LeO (lift_line_predict_2.f k l s i) (lift_line_predict_2.f (k + 1) l s i) := by
  unfold lift_line_predict_2.f
  exact LeO.bind (lift_line_at.mono _ _ _ k) (fun _ => LeO.bind (lift_line_at.mono _ _ _ k) (fun _ => LeO.refl _))
set_option maxHeartbeats 4000000 in
set_option maxRecDepth 100000 in
theorem lift_line_predict_2.calls (k : Nat) (A : Option Addr) (c : Nat) (l : List Int) (s i r : Int) (g : Nat) (w : World) (hb : w.heap[g]? = some (.cells #[.slice A l.length c, .int .i64 s] 45 (0, 0))) (hr : Kd.C (Kd.int .i64) w A l.length l) (hc : l.length ≤ c) (h : lift_line_predict_2.f k l s i = some r) :
    Calls Try.prog 40 #[.int .i64 i, .pointer (some ⟨g, 0, none⟩)] w fun e w' => e = .returned (.int .i64 r) ∧ Below w.heap.size w w' := by
  have hu45 := Try.underlying45
  have c0 : w.cell? ⟨g, 0, none⟩ = some (.slice A l.length c) := (blk_cell hb 0).trans rfl
  have c1 : w.cell? ⟨g, 1, none⟩ = some (.int .i64 s) := (blk_cell hb 1).trans rfl
  have HR := Aside0.mk hr
  have HC := Aside0.mk hc
  clear hr hc hb
  replace h := Option.bind_eq_some_iff.mp h
  obtain ⟨t1, A1, h⟩ := h
  replace A1 : Aside0 (lift_line_at.f k l s (IntKind.i64.wrap (i - 1)) = some t1) := ⟨by simp only [i64_w]; exact A1⟩
  replace h := Option.bind_eq_some_iff.mp h
  obtain ⟨t2, A2, h⟩ := h
  replace A2 : Aside0 (lift_line_at.f k l s (IntKind.i64.wrap (i + 1)) = some t2) := ⟨by simp only [i64_w]; exact A2⟩
  obtain rfl := Option.some.inj h
  clear h
  go_enter Try.func40, Try.ntmps40
  go_wp2
  have HW := Aside0.mk (⟨c0, c1, HR.out, Below.refl _ _⟩ : LS w A l c s g w)
  clear c0 c1 HR
  go_region_held3 (fun w' => w'.cell? ⟨g, 0, none⟩ = some (.slice A l.length c) ∧ w'.cell? ⟨g, 1, none⟩ = some (.int .i64 s) ∧ Kd.C (Kd.int .i64) w' A l.length l ∧ Below w.heap.size w w') (first | exact (LS.below (w0 := w) (A := A) (l := l) (c := c) (s := s) (g := g) (by assumption) hb) | exact (show LS w A l c s g _ by assumption) | exact LS.drew (w0 := w) (A := A) (l := l) (c := c) (s := s) (g := g) HW.out | fail) (first
    | (go_at_call 39; (with_reducible refine (lift_line_at.calls k A c l s (IntKind.i64.wrap (i - 1)) t1 _ (LS.reads (w0 := w) (A := A) (l := l) (c := c) (s := s) (g := g) (by assumption)) HC.out A1.out).mono ?_); rintro e w' ⟨rfl, hb⟩)
    | (go_at_call 39; (with_reducible refine (lift_line_at.calls k A c l s (IntKind.i64.wrap (i + 1)) t2 _ (LS.reads (w0 := w) (A := A) (l := l) (c := c) (s := s) (g := g) (by assumption)) HC.out A2.out).mono ?_); rintro e w' ⟨rfl, hb⟩)
    | fail)
  go_wp2
  go_ret
  exact ⟨(by first | rfl | (simp only [i64_w]; rfl) | (simp only [i64_w])), LS.since (w0 := w) (A := A) (l := l) (c := c) (s := s) (g := g) (by assumption)⟩

/-! ### lift_line_predict_3: function 41 -/
def lift_line_predict_3.f (k : Nat) (l : List Int) (s i : Int) : Option Int := (lift_line_at.f k l s (wrap64 (i - 1))).bind fun t1 => (lift_line_at.f k l s (wrap64 (i + 1))).bind fun t2 => (lift_line_at.f k l s (wrap64 (i - 3))).bind fun t3 => (lift_line_at.f k l s (wrap64 (i + 3))).bind fun t4 => some (wrap64 (wrap64 (wrap64 (9 * wrap64 (t1 + t2)) - wrap64 (t3 + t4)) + 8) / 16)
theorem lift_line_predict_3.mono (l : List Int) (s i : Int) (k : Nat) : LeO (lift_line_predict_3.f k l s i) (lift_line_predict_3.f (k + 1) l s i) := by
  unfold lift_line_predict_3.f
  exact LeO.bind (lift_line_at.mono _ _ _ k) (fun _ => LeO.bind (lift_line_at.mono _ _ _ k) (fun _ => LeO.bind (lift_line_at.mono _ _ _ k) (fun _ => LeO.bind (lift_line_at.mono _ _ _ k) (fun _ => LeO.refl _))))
set_option maxHeartbeats 4000000 in
set_option maxRecDepth 100000 in
theorem lift_line_predict_3.calls (k : Nat) (A : Option Addr) (c : Nat) (l : List Int) (s i r : Int) (g : Nat) (w : World) (hb : w.heap[g]? = some (.cells #[.slice A l.length c, .int .i64 s] 45 (0, 0))) (hr : Kd.C (Kd.int .i64) w A l.length l) (hc : l.length ≤ c) (h : lift_line_predict_3.f k l s i = some r) :
    Calls Try.prog 41 #[.int .i64 i, .pointer (some ⟨g, 0, none⟩)] w fun e w' => e = .returned (.int .i64 r) ∧ Below w.heap.size w w' := by
  have hu45 := Try.underlying45
  have c0 : w.cell? ⟨g, 0, none⟩ = some (.slice A l.length c) := (blk_cell hb 0).trans rfl
  have c1 : w.cell? ⟨g, 1, none⟩ = some (.int .i64 s) := (blk_cell hb 1).trans rfl
  have HR := Aside0.mk hr
  have HC := Aside0.mk hc
  clear hr hc hb
  replace h := Option.bind_eq_some_iff.mp h
  obtain ⟨t1, A1, h⟩ := h
  replace A1 : Aside0 (lift_line_at.f k l s (IntKind.i64.wrap (i - 1)) = some t1) := ⟨by simp only [i64_w]; exact A1⟩
  replace h := Option.bind_eq_some_iff.mp h
  obtain ⟨t2, A2, h⟩ := h
  replace A2 : Aside0 (lift_line_at.f k l s (IntKind.i64.wrap (i + 1)) = some t2) := ⟨by simp only [i64_w]; exact A2⟩
  replace h := Option.bind_eq_some_iff.mp h
  obtain ⟨t3, A3, h⟩ := h
  replace A3 : Aside0 (lift_line_at.f k l s (IntKind.i64.wrap (i - 3)) = some t3) := ⟨by simp only [i64_w]; exact A3⟩
  replace h := Option.bind_eq_some_iff.mp h
  obtain ⟨t4, A4, h⟩ := h
  replace A4 : Aside0 (lift_line_at.f k l s (IntKind.i64.wrap (i + 3)) = some t4) := ⟨by simp only [i64_w]; exact A4⟩
  obtain rfl := Option.some.inj h
  clear h
  go_enter Try.func41, Try.ntmps41
  go_wp2
  have HW := Aside0.mk (⟨c0, c1, HR.out, Below.refl _ _⟩ : LS w A l c s g w)
  clear c0 c1 HR
  go_region_held3 (fun w' => w'.cell? ⟨g, 0, none⟩ = some (.slice A l.length c) ∧ w'.cell? ⟨g, 1, none⟩ = some (.int .i64 s) ∧ Kd.C (Kd.int .i64) w' A l.length l ∧ Below w.heap.size w w') (first | exact (LS.below (w0 := w) (A := A) (l := l) (c := c) (s := s) (g := g) (by assumption) hb) | exact (show LS w A l c s g _ by assumption) | exact LS.drew (w0 := w) (A := A) (l := l) (c := c) (s := s) (g := g) HW.out | fail) (first
    | (go_at_call 39; (with_reducible refine (lift_line_at.calls k A c l s (IntKind.i64.wrap (i - 1)) t1 _ (LS.reads (w0 := w) (A := A) (l := l) (c := c) (s := s) (g := g) (by assumption)) HC.out A1.out).mono ?_); rintro e w' ⟨rfl, hb⟩)
    | (go_at_call 39; (with_reducible refine (lift_line_at.calls k A c l s (IntKind.i64.wrap (i + 1)) t2 _ (LS.reads (w0 := w) (A := A) (l := l) (c := c) (s := s) (g := g) (by assumption)) HC.out A2.out).mono ?_); rintro e w' ⟨rfl, hb⟩)
    | (go_at_call 39; (with_reducible refine (lift_line_at.calls k A c l s (IntKind.i64.wrap (i - 3)) t3 _ (LS.reads (w0 := w) (A := A) (l := l) (c := c) (s := s) (g := g) (by assumption)) HC.out A3.out).mono ?_); rintro e w' ⟨rfl, hb⟩)
    | (go_at_call 39; (with_reducible refine (lift_line_at.calls k A c l s (IntKind.i64.wrap (i + 3)) t4 _ (LS.reads (w0 := w) (A := A) (l := l) (c := c) (s := s) (g := g) (by assumption)) HC.out A4.out).mono ?_); rintro e w' ⟨rfl, hb⟩)
    | fail)
  go_wp2
  go_ret
  exact ⟨(by first | rfl | (simp only [i64_w]; rfl) | (simp only [i64_w])), LS.since (w0 := w) (A := A) (l := l) (c := c) (s := s) (g := g) (by assumption)⟩

/-! ### lift_line_predict: function 30 -/
def lift_line_predict.f (k : Nat) (l : List Int) (s kk : Int) : Option Int := some (if kk = 1 then 38 else if kk = 2 then 40 else 41)
theorem lift_line_predict.mono (l : List Int) (s kk : Int) (k : Nat) : LeO (lift_line_predict.f k l s kk) (lift_line_predict.f (k + 1) l s kk) := LeO.refl _
set_option maxHeartbeats 4000000 in
set_option maxRecDepth 100000 in
theorem lift_line_predict.calls (k : Nat) (A : Option Addr) (c : Nat) (l : List Int) (s kk r : Int) (w : World) (_hr : Kd.C (Kd.int .i64) w A l.length l) (_hc : l.length ≤ c) (h : lift_line_predict.f k l s kk = some r) :
    Calls Try.prog 30 #[.agg #[.slice A l.length c, .int .i64 s], .int .i64 kk] w fun e w' => ∃ g, e = .returned (.func (.func r.toNat) #[] #[.pointer (some ⟨g, 0, none⟩)]) ∧ w'.heap[g]? = some (.cells #[.slice A l.length c, .int .i64 s] 45 (0, 0)) ∧ w.heap.size ≤ g ∧ Below w.heap.size w w' := by
  have hu45 := Try.underlying45
  obtain rfl := Option.some.inj h
  clear h
  by_cases e1 : kk = 1
  · subst e1
    go_enter Try.func30, Try.ntmps30
    go_wp2_with (first | ((with_reducible refine gate_dst (N := 2) rfl ?_); refine box_event ?hg (N := 2) ?hd (cs := #[.slice A l.length c, .int .i64 s]) (t := 45) ?hr ?_; (case hd => rfl); (case hg => rfl); (case hr => first | (go_simp; done) | (go_simp; rfl)); intro g hg w1 hbox hb; have BK := Aside0.mk hbox; have HB := Aside0.mk hb; clear hbox hb))
    go_ret
    first
      | exact ⟨g, rfl, BK.out, (by omega), HB.out⟩
      | exact ⟨g, (by simp [*]), BK.out, (by omega), HB.out⟩
  · have f1 : (kk == 1) = false := beq_eq_false_iff_ne.mpr e1
    by_cases e2 : kk = 2
    · subst e2
      go_enter Try.func30, Try.ntmps30
      go_wp2_with (first | ((with_reducible refine gate_dst (N := 2) rfl ?_); refine box_event ?hg (N := 2) ?hd (cs := #[.slice A l.length c, .int .i64 s]) (t := 45) ?hr ?_; (case hd => rfl); (case hg => rfl); (case hr => first | (go_simp; done) | (go_simp; rfl)); intro g hg w1 hbox hb; have BK := Aside0.mk hbox; have HB := Aside0.mk hb; clear hbox hb))
      go_ret
      first
        | exact ⟨g, rfl, BK.out, (by omega), HB.out⟩
        | exact ⟨g, (by simp [*]), BK.out, (by omega), HB.out⟩
    · have f2 : (kk == 2) = false := beq_eq_false_iff_ne.mpr e2
      go_enter Try.func30, Try.ntmps30
      go_wp2_with (first | ((with_reducible refine gate_dst (N := 2) rfl ?_); refine box_event ?hg (N := 2) ?hd (cs := #[.slice A l.length c, .int .i64 s]) (t := 45) ?hr ?_; (case hd => rfl); (case hg => rfl); (case hr => first | (go_simp; done) | (go_simp; rfl)); intro g hg w1 hbox hb; have BK := Aside0.mk hbox; have HB := Aside0.mk hb; clear hbox hb))
      go_ret
      first
        | exact ⟨g, rfl, BK.out, (by omega), HB.out⟩
        | exact ⟨g, (by simp [*]), BK.out, (by omega), HB.out⟩

/-! ### lift_line_update_1: function 42 -/
def lift_line_update_1.f (k : Nat) (l : List Int) (s i : Int) : Option Int := (lift_line_at.f k l s (wrap64 (i + 1))).bind fun t1 => some (t1 / 2)
theorem lift_line_update_1.mono (l : List Int) (s i : Int) (k : Nat) : LeO (lift_line_update_1.f k l s i) (lift_line_update_1.f (k + 1) l s i) := by
  unfold lift_line_update_1.f
  exact LeO.bind (lift_line_at.mono _ _ _ k) (fun _ => LeO.refl _)
set_option maxHeartbeats 4000000 in
set_option maxRecDepth 100000 in
theorem lift_line_update_1.calls (k : Nat) (A : Option Addr) (c : Nat) (l : List Int) (s i r : Int) (g : Nat) (w : World) (hb : w.heap[g]? = some (.cells #[.slice A l.length c, .int .i64 s] 45 (0, 0))) (hr : Kd.C (Kd.int .i64) w A l.length l) (hc : l.length ≤ c) (h : lift_line_update_1.f k l s i = some r) :
    Calls Try.prog 42 #[.int .i64 i, .pointer (some ⟨g, 0, none⟩)] w fun e w' => e = .returned (.int .i64 r) ∧ Below w.heap.size w w' := by
  have hu45 := Try.underlying45
  have c0 : w.cell? ⟨g, 0, none⟩ = some (.slice A l.length c) := (blk_cell hb 0).trans rfl
  have c1 : w.cell? ⟨g, 1, none⟩ = some (.int .i64 s) := (blk_cell hb 1).trans rfl
  have HR := Aside0.mk hr
  have HC := Aside0.mk hc
  clear hr hc hb
  replace h := Option.bind_eq_some_iff.mp h
  obtain ⟨t1, A1, h⟩ := h
  have A1 := Aside0.mk A1
  obtain rfl := Option.some.inj h
  clear h
  go_enter Try.func42, Try.ntmps42
  go_wp2_with (go_at_call 39; (with_reducible refine (lift_line_at.calls k A c l s (wrap64 (i + 1)) t1 _ HR.out HC.out A1.out).mono ?_); rintro e w' ⟨rfl, hb⟩)
  go_ret
  exact ⟨rfl, hb⟩

/-! ### lift_line_update_2: function 43 -/
def lift_line_update_2.f (k : Nat) (l : List Int) (s i : Int) : Option Int := (lift_line_at.f k l s (wrap64 (i - 1))).bind fun t1 => (lift_line_at.f k l s (wrap64 (i + 1))).bind fun t2 => some (wrap64 (wrap64 (t1 + t2) + 2) / 4)
theorem lift_line_update_2.mono (l : List Int) (s i : Int) (k : Nat) : LeO (lift_line_update_2.f k l s i) (lift_line_update_2.f (k + 1) l s i) := by
  unfold lift_line_update_2.f
  exact LeO.bind (lift_line_at.mono _ _ _ k) (fun _ => LeO.bind (lift_line_at.mono _ _ _ k) (fun _ => LeO.refl _))
set_option maxHeartbeats 4000000 in
set_option maxRecDepth 100000 in
theorem lift_line_update_2.calls (k : Nat) (A : Option Addr) (c : Nat) (l : List Int) (s i r : Int) (g : Nat) (w : World) (hb : w.heap[g]? = some (.cells #[.slice A l.length c, .int .i64 s] 45 (0, 0))) (hr : Kd.C (Kd.int .i64) w A l.length l) (hc : l.length ≤ c) (h : lift_line_update_2.f k l s i = some r) :
    Calls Try.prog 43 #[.int .i64 i, .pointer (some ⟨g, 0, none⟩)] w fun e w' => e = .returned (.int .i64 r) ∧ Below w.heap.size w w' := by
  have hu45 := Try.underlying45
  have c0 : w.cell? ⟨g, 0, none⟩ = some (.slice A l.length c) := (blk_cell hb 0).trans rfl
  have c1 : w.cell? ⟨g, 1, none⟩ = some (.int .i64 s) := (blk_cell hb 1).trans rfl
  have HR := Aside0.mk hr
  have HC := Aside0.mk hc
  clear hr hc hb
  replace h := Option.bind_eq_some_iff.mp h
  obtain ⟨t1, A1, h⟩ := h
  replace A1 : Aside0 (lift_line_at.f k l s (IntKind.i64.wrap (i - 1)) = some t1) := ⟨by simp only [i64_w]; exact A1⟩
  replace h := Option.bind_eq_some_iff.mp h
  obtain ⟨t2, A2, h⟩ := h
  replace A2 : Aside0 (lift_line_at.f k l s (IntKind.i64.wrap (i + 1)) = some t2) := ⟨by simp only [i64_w]; exact A2⟩
  obtain rfl := Option.some.inj h
  clear h
  go_enter Try.func43, Try.ntmps43
  go_wp2
  have HW := Aside0.mk (⟨c0, c1, HR.out, Below.refl _ _⟩ : LS w A l c s g w)
  clear c0 c1 HR
  go_region_held3 (fun w' => w'.cell? ⟨g, 0, none⟩ = some (.slice A l.length c) ∧ w'.cell? ⟨g, 1, none⟩ = some (.int .i64 s) ∧ Kd.C (Kd.int .i64) w' A l.length l ∧ Below w.heap.size w w') (first | exact (LS.below (w0 := w) (A := A) (l := l) (c := c) (s := s) (g := g) (by assumption) hb) | exact (show LS w A l c s g _ by assumption) | exact LS.drew (w0 := w) (A := A) (l := l) (c := c) (s := s) (g := g) HW.out | fail) (first
    | (go_at_call 39; (with_reducible refine (lift_line_at.calls k A c l s (IntKind.i64.wrap (i - 1)) t1 _ (LS.reads (w0 := w) (A := A) (l := l) (c := c) (s := s) (g := g) (by assumption)) HC.out A1.out).mono ?_); rintro e w' ⟨rfl, hb⟩)
    | (go_at_call 39; (with_reducible refine (lift_line_at.calls k A c l s (IntKind.i64.wrap (i + 1)) t2 _ (LS.reads (w0 := w) (A := A) (l := l) (c := c) (s := s) (g := g) (by assumption)) HC.out A2.out).mono ?_); rintro e w' ⟨rfl, hb⟩)
    | fail)
  go_wp2
  go_ret
  exact ⟨(by first | rfl | (simp only [i64_w]; rfl) | (simp only [i64_w])), LS.since (w0 := w) (A := A) (l := l) (c := c) (s := s) (g := g) (by assumption)⟩

/-! ### lift_line_update: function 31 -/
def lift_line_update.f (k : Nat) (l : List Int) (s kk : Int) : Option Int := some (if kk = 1 then 42 else 43)
theorem lift_line_update.mono (l : List Int) (s kk : Int) (k : Nat) : LeO (lift_line_update.f k l s kk) (lift_line_update.f (k + 1) l s kk) := LeO.refl _
set_option maxHeartbeats 4000000 in
set_option maxRecDepth 100000 in
theorem lift_line_update.calls (k : Nat) (A : Option Addr) (c : Nat) (l : List Int) (s kk r : Int) (w : World) (_hr : Kd.C (Kd.int .i64) w A l.length l) (_hc : l.length ≤ c) (h : lift_line_update.f k l s kk = some r) :
    Calls Try.prog 31 #[.agg #[.slice A l.length c, .int .i64 s], .int .i64 kk] w fun e w' => ∃ g, e = .returned (.func (.func r.toNat) #[] #[.pointer (some ⟨g, 0, none⟩)]) ∧ w'.heap[g]? = some (.cells #[.slice A l.length c, .int .i64 s] 45 (0, 0)) ∧ w.heap.size ≤ g ∧ Below w.heap.size w w' := by
  have hu45 := Try.underlying45
  obtain rfl := Option.some.inj h
  clear h
  by_cases e1 : kk = 1
  · subst e1
    go_enter Try.func31, Try.ntmps31
    go_wp2_with (first | ((with_reducible refine gate_dst (N := 2) rfl ?_); refine box_event ?hg (N := 2) ?hd (cs := #[.slice A l.length c, .int .i64 s]) (t := 45) ?hr ?_; (case hd => rfl); (case hg => rfl); (case hr => first | (go_simp; done) | (go_simp; rfl)); intro g hg w1 hbox hb; have BK := Aside0.mk hbox; have HB := Aside0.mk hb; clear hbox hb))
    go_ret
    first
      | exact ⟨g, rfl, BK.out, (by omega), HB.out⟩
      | exact ⟨g, (by simp [*]), BK.out, (by omega), HB.out⟩
  · have f1 : (kk == 1) = false := beq_eq_false_iff_ne.mpr e1
    go_enter Try.func31, Try.ntmps31
    go_wp2_with (first | ((with_reducible refine gate_dst (N := 2) rfl ?_); refine box_event ?hg (N := 2) ?hd (cs := #[.slice A l.length c, .int .i64 s]) (t := 45) ?hr ?_; (case hd => rfl); (case hg => rfl); (case hr => first | (go_simp; done) | (go_simp; rfl)); intro g hg w1 hbox hb; have BK := Aside0.mk hbox; have HB := Aside0.mk hb; clear hbox hb))
    go_ret
    first
      | exact ⟨g, rfl, BK.out, (by omega), HB.out⟩
      | exact ⟨g, (by simp [*]), BK.out, (by omega), HB.out⟩
def lift_fn.f (k : Nat) (l : List Int) (s a i : Int) : Option Int := if a = 38 then lift_line_predict_1.f k l s i else if a = 40 then lift_line_predict_2.f k l s i else if a = 41 then lift_line_predict_3.f k l s i else if a = 42 then lift_line_update_1.f k l s i else if a = 43 then lift_line_update_2.f k l s i else none
theorem lift_fn.mono (l : List Int) (s a i : Int) (k : Nat) : LeO (lift_fn.f k l s a i) (lift_fn.f (k + 1) l s a i) := by
  unfold lift_fn.f
  exact LeO.ite (lift_line_predict_1.mono l s i k) (LeO.ite (lift_line_predict_2.mono l s i k) (LeO.ite (lift_line_predict_3.mono l s i k) (LeO.ite (lift_line_update_1.mono l s i k) (LeO.ite (lift_line_update_2.mono l s i k) (LeO.none _)))))
theorem lift_fn.func {k : Nat} {l : List Int} {s a i r : Int} (h : lift_fn.f k l s a i = some r) : ∃ fn, Try.prog.funcs[a.toNat]? = some fn ∧ (fn.name == "runtime.NumGoroutine") = false ∧ fn.body.isSome = true := by
  unfold lift_fn.f at h
  split at h
  · next e => subst e; exact ⟨_, Try.func38, by kernel_rfl, rfl⟩
  split at h
  · next e => subst e; exact ⟨_, Try.func40, by kernel_rfl, rfl⟩
  split at h
  · next e => subst e; exact ⟨_, Try.func41, by kernel_rfl, rfl⟩
  split at h
  · next e => subst e; exact ⟨_, Try.func42, by kernel_rfl, rfl⟩
  split at h
  · next e => subst e; exact ⟨_, Try.func43, by kernel_rfl, rfl⟩
  exact absurd h (by simp)
theorem lift_fn.calls (k : Nat) (A : Option Addr) (c : Nat) (l : List Int) (s a i r : Int) (g : Nat) (w : World) (hb : w.heap[g]? = some (.cells #[.slice A l.length c, .int .i64 s] 45 (0, 0))) (hr : Kd.C (Kd.int .i64) w A l.length l) (hc : l.length ≤ c) (h : lift_fn.f k l s a i = some r) :
    Calls Try.prog a.toNat #[.int .i64 i, .pointer (some ⟨g, 0, none⟩)] w fun e w' => e = .returned (.int .i64 r) ∧ Below w.heap.size w w' := by
  unfold lift_fn.f at h
  split at h
  · next e => subst e; exact lift_line_predict_1.calls k A c l s i r g w hb hr hc h
  split at h
  · next e => subst e; exact lift_line_predict_2.calls k A c l s i r g w hb hr hc h
  split at h
  · next e => subst e; exact lift_line_predict_3.calls k A c l s i r g w hb hr hc h
  split at h
  · next e => subst e; exact lift_line_update_1.calls k A c l s i r g w hb hr hc h
  split at h
  · next e => subst e; exact lift_line_update_2.calls k A c l s i r g w hb hr hc h
  exact absurd h (by simp)

end Go.Proofs.Ytkpehgakdooodaa.PA
