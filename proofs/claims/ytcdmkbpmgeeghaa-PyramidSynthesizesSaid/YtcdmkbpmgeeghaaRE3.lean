/- Each function, run by the executor: an equation. -/
import Derived.Test.YtcdmkbpmgeeghaaRG
import Derived.Test.YtcdmkbpmgeeghaaProg
import Derived.KernelRfl
set_option linter.unnecessarySimpa false
set_option linter.unusedVariables false
set_option maxRecDepth 100000
set_option maxHeartbeats 40000000
open Go Go.Rx Go.Proofs
namespace Go.Rx.Ch06
noncomputable section
def t_sy_step : FuncId → Option Summ := tabOf [(25, G_pyr_Resolution), (62, G_dwt_Merge)]
def l_sy_step : Nat → Option LSumm := ltOf []
theorem e_sy_step (a b c d n k q o0 o1 o2 o3 : Int) (u : List Int) (v : List (Rc × List Int)) : funR Try.prog t_sy_step (annOf []) l_sy_step 20 Try.f61 [.one (.int .i64 q), .one (.ptr 0 0), .one (.ptr 1 0), .one (.ptr 2 0), .one (.ptr 3 0), .one (.ptr 4 0)] [.box [.int .i64 o0, .int .i64 o1, .int .i64 o2, .int .i64 o3, .row 5], .box [.lst (.pair (.pair (.int .i64) (.pair (.int .i64) (.pair (.int .i64) (.int .i64)))) (.sl (.int .i64))) v], .box [.int .i64 a, .int .i64 b, .int .i64 c, .int .i64 d], .box [.int .i64 n], .box [.int .i64 k], .arr 3 (.int .i64) u] =
  (let z2_ := gN v (Int.toNat (IntKind.wrap .i64 (IntKind.wrap .i64 (3 * q) - 2))); let z3_ := gN v (Int.toNat (IntKind.wrap .i64 (IntKind.wrap .i64 (3 * q) - 1))); let z4_ := gN v (Int.toNat (IntKind.wrap .i64 (3 * q))); let z1_ := mgErr o0 o1 o2 o3 z2_.1.1 z2_.1.2.1 z2_.1.2.2.1 z2_.1.2.2.2 z3_.1.1 z3_.1.2.1 z3_.1.2.2.1 z3_.1.2.2.2 z4_.1.1 z4_.1.2.1 z4_.1.2.2.1 z4_.1.2.2.2 (resR a b c d n q).1 (resR a b c d n q).2.1 (resR a b c d n q).2.2.1 (resR a b c d n q).2.2.2 k u z2_.2 z3_.2 z4_.2; let z5_ := mgR z1_ (resR a b c d n q).1 (resR a b c d n q).2.1 (resR a b c d n q).2.2.1 (resR a b c d n q).2.2.2; (ite2 (decide (0 ≤ IntKind.wrap .i64 (IntKind.wrap .i64 (3 * q) - 2) ∧ IntKind.wrap .i64 (IntKind.wrap .i64 (3 * q) - 2) < (↑(List.length v) : Int)))
  (ite2 (decide (0 ≤ IntKind.wrap .i64 (IntKind.wrap .i64 (3 * q) - 1) ∧ IntKind.wrap .i64 (IntKind.wrap .i64 (3 * q) - 1) < (↑(List.length v) : Int)))
   (ite2 (decide (0 ≤ IntKind.wrap .i64 (3 * q) ∧ IntKind.wrap .i64 (3 * q) < (↑(List.length v) : Int)))
    (ite2 (small (List.length u) && small (List.length z2_.2) && small (List.length z3_.2) && small (List.length z4_.2))
     (some ⟨.one (.int .i64 z1_), [some (.box [.int .i64 z5_.1, .int .i64 z5_.2.1, .int .i64 z5_.2.2.1, .int .i64 z5_.2.2.2, .row 6]), some (.box [.lst (.pair (.pair (.int .i64) (Sh.pair (Sh.int .i64) (Sh.pair (Sh.int .i64) (Sh.int .i64)))) (Sh.sl (Sh.int .i64))) v]), some (.box [.int .i64 a, .int .i64 b, .int .i64 c, .int .i64 d]), some (.box [.int .i64 n]), some (.box [.int .i64 k]), some (.arr 3 (.int .i64) u)], [.arr 3 (.int .i64) (mgL z1_ (resR a b c d n q).1 (resR a b c d n q).2.1 (resR a b c d n q).2.2.1 (resR a b c d n q).2.2.2 k u z2_.2 z3_.2 z4_.2)]⟩)
     none)
    none)
   none)
  none)) := by kernel_rfl
def t_pyr_Synth : FuncId → Option Summ := tabOf [(13, G_pyr_Count), (25, G_pyr_Resolution), (27, G_pyr_Band), (38, G_pyr_validLevels), (39, G_pl_Valid), (40, G_lift_Margin), (41, G_pyr_exceeds), (46, G_rect_Valid), (60, G_rect_Area), (61, G_sy_step)]
def l_pyr_Synth : Nat → Option LSumm := ltOf [(8, ⟨0, 116, [3, 5, 6, 7, 9, 10, 12], (kxOf [3, 5, 6, 7, 9, 10] [10, 11]), S_pyr_Synth_0⟩), (13, ⟨0, 116, [3, 5, 6, 7, 9, 10, 13], (kxOf [3, 5, 6, 7, 9, 10] [10, 11]), S_pyr_Synth_1⟩), (20, ⟨0, 116, [3, 10, 14, 15, 16], (kxOf [10, 14] [10, 11]), S_pyr_Synth_2⟩)]
theorem e_pyr_Synth (a b c d n r k : Int) (v : List (Rc × List Int)) : funR Try.prog t_pyr_Synth (annOf []) l_pyr_Synth 20 Try.f30 [.one (.lst (.pair (.pair (.int .i64) (.pair (.int .i64) (.pair (.int .i64) (.int .i64)))) (.sl (.int .i64))) v), .agg [.int .i64 a, .int .i64 b, .int .i64 c, .int .i64 d], .one (.int .i64 n), .one (.int .i64 r), .one (.int .i64 k)] [] =
  (ite2 (!valid a b c d)
  (some ⟨.tup [(true, [.int .i64 0, .int .i64 0, .int .i64 0, .int .i64 0, .row 0]), (false, [.int .i64 2])], [], [.arr 3 (.int .i64) ([] : List (Int))]⟩)
  (ite2 (!inr 0 5 n)
   (some ⟨.tup [(true, [.int .i64 0, .int .i64 0, .int .i64 0, .int .i64 0, .row 0]), (false, [.int .i64 2])], [], [.arr 3 (.int .i64) ([] : List (Int))]⟩)
   (ite2 (decide (r < 0))
    (some ⟨.tup [(true, [.int .i64 0, .int .i64 0, .int .i64 0, .int .i64 0, .row 0]), (false, [.int .i64 2])], [], [.arr 3 (.int .i64) ([] : List (Int))]⟩)
    (ite2 (decide (r > n))
     (some ⟨.tup [(true, [.int .i64 0, .int .i64 0, .int .i64 0, .int .i64 0, .row 0]), (false, [.int .i64 2])], [], [.arr 3 (.int .i64) ([] : List (Int))]⟩)
     (ite2 (decide (area (resR a b c d n r).1 (resR a b c d n r).2.1 (resR a b c d n r).2.2.1 (resR a b c d n r).2.2.2 > 1048576))
      (some ⟨.tup [(true, [.int .i64 0, .int .i64 0, .int .i64 0, .int .i64 0, .row 0]), (false, [.int .i64 2])], [], [.arr 3 (.int .i64) ([] : List (Int))]⟩)
      (ite2 (marg k == 0)
       (some ⟨.tup [(true, [.int .i64 0, .int .i64 0, .int .i64 0, .int .i64 0, .row 0]), (false, [.int .i64 3])], [], [.arr 3 (.int .i64) ([] : List (Int))]⟩)
       (ite2 ((↑(List.length v) : Int) != count n)
        (some ⟨.tup [(true, [.int .i64 0, .int .i64 0, .int .i64 0, .int .i64 0, .row 0]), (false, [.int .i64 4])], [], [.arr 3 (.int .i64) ([] : List (Int))]⟩)
        (ite2 (k_pyr_Synth_0 a b c d n k 0 0 0 0 r 0 v [])
         (ite2 (syBnd a b c d n r v)
          (ite2 (k_pyr_Synth_1 a b c d n k 0 0 0 0 r 0 v [])
           (ite2 (syFit r v)
            (ite2 (decide ((0 : Int) ≤ 0 ∧ 0 < (↑(List.length v) : Int)))
             (ite2 (decide ((0 : Int) ≤ 0 ∧ 0 < (↑(List.length v) : Int)))
              (ite2 (decide (List.length (gN v 0).2 * 9 ≤ 140737488355328))
               (ite2 (k_pyr_Synth_2 a b c d n k r (gN v 0).1.1 (gN v 0).1.2.1 (gN v 0).1.2.2.1 (gN v 0).1.2.2.2 0 0 0 0 1 v [] (gN v 0).2)
                (some ⟨.tup [(true, [.int .i64 (syS a b c d n k v (Int.toNat r)).1.1, .int .i64 (syS a b c d n k v (Int.toNat r)).1.2.1, .int .i64 (syS a b c d n k v (Int.toNat r)).1.2.2.1, .int .i64 (syS a b c d n k v (Int.toNat r)).1.2.2.2, .row 0]), (false, [.int .i64 0])], [], [.arr 3 (.int .i64) (syS a b c d n k v (Int.toNat r)).2]⟩)
                none)
               none)
              none)
             none)
            (some ⟨.tup [(true, [.int .i64 0, .int .i64 0, .int .i64 0, .int .i64 0, .row 0]), (false, [.int .i64 2])], [], [.arr 3 (.int .i64) ([] : List (Int))]⟩))
           none)
          (some ⟨.tup [(true, [.int .i64 0, .int .i64 0, .int .i64 0, .int .i64 0, .row 0]), (false, [.int .i64 1])], [], [.arr 3 (.int .i64) ([] : List (Int))]⟩))
         none)))))))) := by kernel_rfl
def U_pyr_Synth_0 (a b c d n kk z0 z1 z2 z3 m i : Int) (v : List (Rc × List Int)) (y0 : List Int) : LT :=
  (.br (decide (i ≤ IntKind.wrap .i64 (3 * m)))
    (.br (decide (0 ≤ i ∧ i < (↑(List.length v) : Int)))
     (.br (!plV (gN v (Int.toNat i)).1.1 (gN v (Int.toNat i)).1.2.1 (gN v (Int.toNat i)).1.2.2.1 (gN v (Int.toNat i)).1.2.2.2 (gN v (Int.toNat i)).2)
      (.leaf Ex.ret [.one (.ptr 0 0), .one (.int .i64 1)] [some (.box [.int .i64 0, .int .i64 0, .int .i64 0, .int .i64 0, .row 1]), some (.arr 3 (.int .i64) ([] : List (Int)))])
      (.br (decide (0 ≤ i ∧ i < (↑(List.length v) : Int)))
       (.br (!((gN v (Int.toNat i)).1.1 == (bandR a b c d n i).1 && ((gN v (Int.toNat i)).1.2.1 == (bandR a b c d n i).2.1 && ((gN v (Int.toNat i)).1.2.2.1 == (bandR a b c d n i).2.2.1 && ((gN v (Int.toNat i)).1.2.2.2 == (bandR a b c d n i).2.2.2 && true)))))
        (.leaf Ex.ret [.one (.ptr 0 0), .one (.int .i64 1)] [some (.box [.int .i64 0, .int .i64 0, .int .i64 0, .int .i64 0, .row 1]), some (.arr 3 (.int .i64) ([] : List (Int)))])
        (.leaf Ex.normal [.one (.int .i64 m), .one (.ptr 0 0), .one (.ptr 1 0), .one (.ptr 2 0), .one (.ptr 3 0), .one (.ptr 4 0), .one (.int .i64 (IntKind.wrap .i64 (i + 1)))] [some (.box [.lst (.pair (.pair (.int .i64) (Sh.pair (Sh.int .i64) (Sh.pair (Sh.int .i64) (Sh.int .i64)))) (Sh.sl (Sh.int .i64))) v]), some (.box [.int .i64 a, .int .i64 b, .int .i64 c, .int .i64 d]), some (.box [.int .i64 n]), some (.box [.int .i64 kk]), some (.box [.int .i64 z0, .int .i64 z1, .int .i64 z2, .int .i64 z3, .row 5]), some (.arr 3 (.int .i64) y0)]))
       .no))
     .no)
    (.leaf (Ex.exit 0) [.one (.int .i64 m), .one (.ptr 0 0), .one (.ptr 1 0), .one (.ptr 2 0), .one (.ptr 3 0), .one (.ptr 4 0)] [some (.box [.lst (.pair (.pair (.int .i64) (Sh.pair (Sh.int .i64) (Sh.pair (Sh.int .i64) (Sh.int .i64)))) (Sh.sl (Sh.int .i64))) v]), some (.box [.int .i64 a, .int .i64 b, .int .i64 c, .int .i64 d]), some (.box [.int .i64 n]), some (.box [.int .i64 kk]), some (.box [.int .i64 z0, .int .i64 z1, .int .i64 z2, .int .i64 z3, .row 5]), some (.arr 3 (.int .i64) y0)]))
def T_pyr_Synth_0 : TT := fun vs bl => (D_pyr_Synth_0 vs bl fun a b c d n kk z0 z1 z2 z3 m i v y0 => some (U_pyr_Synth_0 a b c d n kk z0 z1 z2 z3 m i v y0)).getD .no
theorem tu_pyr_Synth_0 (a b c d n kk z0 z1 z2 z3 m i : Int) (v : List (Rc × List Int)) (y0 : List Int) : T_pyr_Synth_0 [.one (.int .i64 m), .one (.ptr 0 0), .one (.ptr 1 0), .one (.ptr 2 0), .one (.ptr 3 0), .one (.ptr 4 0), .one (.int .i64 i)] [some (.box [.lst (.pair (.pair (.int .i64) (.pair (.int .i64) (.pair (.int .i64) (.int .i64)))) (.sl (.int .i64))) v]), some (.box [.int .i64 a, .int .i64 b, .int .i64 c, .int .i64 d]), some (.box [.int .i64 n]), some (.box [.int .i64 kk]), some (.box [.int .i64 z0, .int .i64 z1, .int .i64 z2, .int .i64 z3, .row 5]), some (.arr 3 (.int .i64) y0)] = U_pyr_Synth_0 a b c d n kk z0 z1 z2 z3 m i v y0 := by kernel_rfl
theorem b_pyr_Synth_0 (a b c d n kk z0 z1 z2 z3 m i : Int) (v : List (Rc × List Int)) (y0 : List Int) (Kc : KT) : exec Try.prog t_pyr_Synth (annOf []) l_pyr_Synth 20 0 (loopOf Try.f30 0) (unp 116 [3, 5, 6, 7, 9, 10, 12] [.one (.int .i64 m), .one (.ptr 0 0), .one (.ptr 1 0), .one (.ptr 2 0), .one (.ptr 3 0), .one (.ptr 4 0), .one (.int .i64 i)] [some (.box [.lst (.pair (.pair (.int .i64) (.pair (.int .i64) (.pair (.int .i64) (.int .i64)))) (.sl (.int .i64))) v]), some (.box [.int .i64 a, .int .i64 b, .int .i64 c, .int .i64 d]), some (.box [.int .i64 n]), some (.box [.int .i64 kk]), some (.box [.int .i64 z0, .int .i64 z1, .int .i64 z2, .int .i64 z3, .row 5]), some (.arr 3 (.int .i64) y0)]) (endc 0 116 [3, 5, 6, 7, 9, 10, 12] (kxOf [3, 5, 6, 7, 9, 10] [10, 11]) Kc) =
  (U_pyr_Synth_0 a b c d n kk z0 z1 z2 z3 m i v y0).runc Kc := by kernel_rfl
def U_pyr_Synth_1 (a b c d n kk z0 z1 z2 z3 m i : Int) (v : List (Rc × List Int)) (y0 : List Int) : LT :=
  (.br (decide (i ≤ IntKind.wrap .i64 (3 * m)))
    (.br (decide (0 ≤ i ∧ i < (↑(List.length v) : Int)))
     (.br (small (List.length (gN v (Int.toNat i)).2) && true)
      (.br (!fitB 4294967296 (gN v (Int.toNat i)).2)
       (.leaf Ex.ret [.one (.ptr 0 0), .one (.int .i64 2)] [some (.box [.int .i64 0, .int .i64 0, .int .i64 0, .int .i64 0, .row 1]), some (.arr 3 (.int .i64) ([] : List (Int)))])
       (.leaf Ex.normal [.one (.int .i64 m), .one (.ptr 0 0), .one (.ptr 1 0), .one (.ptr 2 0), .one (.ptr 3 0), .one (.ptr 4 0), .one (.int .i64 (IntKind.wrap .i64 (i + 1)))] [some (.box [.lst (.pair (.pair (.int .i64) (Sh.pair (Sh.int .i64) (Sh.pair (Sh.int .i64) (Sh.int .i64)))) (Sh.sl (Sh.int .i64))) v]), some (.box [.int .i64 a, .int .i64 b, .int .i64 c, .int .i64 d]), some (.box [.int .i64 n]), some (.box [.int .i64 kk]), some (.box [.int .i64 z0, .int .i64 z1, .int .i64 z2, .int .i64 z3, .row 5]), some (.arr 3 (.int .i64) y0)]))
      .no)
     .no)
    (.leaf (Ex.exit 2) [.one (.int .i64 m), .one (.ptr 0 0), .one (.ptr 1 0), .one (.ptr 2 0), .one (.ptr 3 0), .one (.ptr 4 0)] [some (.box [.lst (.pair (.pair (.int .i64) (Sh.pair (Sh.int .i64) (Sh.pair (Sh.int .i64) (Sh.int .i64)))) (Sh.sl (Sh.int .i64))) v]), some (.box [.int .i64 a, .int .i64 b, .int .i64 c, .int .i64 d]), some (.box [.int .i64 n]), some (.box [.int .i64 kk]), some (.box [.int .i64 z0, .int .i64 z1, .int .i64 z2, .int .i64 z3, .row 5]), some (.arr 3 (.int .i64) y0)]))
def T_pyr_Synth_1 : TT := fun vs bl => (D_pyr_Synth_1 vs bl fun a b c d n kk z0 z1 z2 z3 m i v y0 => some (U_pyr_Synth_1 a b c d n kk z0 z1 z2 z3 m i v y0)).getD .no
theorem tu_pyr_Synth_1 (a b c d n kk z0 z1 z2 z3 m i : Int) (v : List (Rc × List Int)) (y0 : List Int) : T_pyr_Synth_1 [.one (.int .i64 m), .one (.ptr 0 0), .one (.ptr 1 0), .one (.ptr 2 0), .one (.ptr 3 0), .one (.ptr 4 0), .one (.int .i64 i)] [some (.box [.lst (.pair (.pair (.int .i64) (.pair (.int .i64) (.pair (.int .i64) (.int .i64)))) (.sl (.int .i64))) v]), some (.box [.int .i64 a, .int .i64 b, .int .i64 c, .int .i64 d]), some (.box [.int .i64 n]), some (.box [.int .i64 kk]), some (.box [.int .i64 z0, .int .i64 z1, .int .i64 z2, .int .i64 z3, .row 5]), some (.arr 3 (.int .i64) y0)] = U_pyr_Synth_1 a b c d n kk z0 z1 z2 z3 m i v y0 := by kernel_rfl
theorem b_pyr_Synth_1 (a b c d n kk z0 z1 z2 z3 m i : Int) (v : List (Rc × List Int)) (y0 : List Int) (Kc : KT) : exec Try.prog t_pyr_Synth (annOf []) l_pyr_Synth 20 0 (loopOf Try.f30 1) (unp 116 [3, 5, 6, 7, 9, 10, 13] [.one (.int .i64 m), .one (.ptr 0 0), .one (.ptr 1 0), .one (.ptr 2 0), .one (.ptr 3 0), .one (.ptr 4 0), .one (.int .i64 i)] [some (.box [.lst (.pair (.pair (.int .i64) (.pair (.int .i64) (.pair (.int .i64) (.int .i64)))) (.sl (.int .i64))) v]), some (.box [.int .i64 a, .int .i64 b, .int .i64 c, .int .i64 d]), some (.box [.int .i64 n]), some (.box [.int .i64 kk]), some (.box [.int .i64 z0, .int .i64 z1, .int .i64 z2, .int .i64 z3, .row 5]), some (.arr 3 (.int .i64) y0)]) (endc 0 116 [3, 5, 6, 7, 9, 10, 13] (kxOf [3, 5, 6, 7, 9, 10] [10, 11]) Kc) =
  (U_pyr_Synth_1 a b c d n kk z0 z1 z2 z3 m i v y0).runc Kc := by kernel_rfl
def U_pyr_Synth_2 (a b c d n kk m o0 o1 o2 o3 z0 z1 z2 z3 q : Int) (v : List (Rc × List Int)) (y0 u : List Int) : LT :=
  (.br (decide (q ≤ m))
    (.br (inr 1 5 q && decide (3 * q < (↑(List.length v) : Int)) && smAll v && small (List.length u))
     (.br (syE a b c d n kk q (o0, o1, o2, o3) u v != 0)
      (.leaf Ex.ret [.one (.ptr 0 0), .one (.int .i64 (syE a b c d n kk q (o0, o1, o2, o3) u v))] [some (.box [.int .i64 0, .int .i64 0, .int .i64 0, .int .i64 0, .row 1]), some (.arr 3 (.int .i64) ([] : List (Int)))])
      (.leaf Ex.normal [.one (.int .i64 m), .one (.ptr 0 0), .one (.ptr 1 0), .one (.fn 61 [1, 2, 3, 4, 5]), .one (.int .i64 (IntKind.wrap .i64 (q + 1)))] [some (.box [.int .i64 z0, .int .i64 z1, .int .i64 z2, .int .i64 z3, .row 6]), some (.box [.int .i64 (syNR (syE a b c d n kk q (o0, o1, o2, o3) u v) a b c d n q).1, .int .i64 (syNR (syE a b c d n kk q (o0, o1, o2, o3) u v) a b c d n q).2.1, .int .i64 (syNR (syE a b c d n kk q (o0, o1, o2, o3) u v) a b c d n q).2.2.1, .int .i64 (syNR (syE a b c d n kk q (o0, o1, o2, o3) u v) a b c d n q).2.2.2, .row 7]), some (.box [.lst (.pair (.pair (.int .i64) (Sh.pair (Sh.int .i64) (Sh.pair (Sh.int .i64) (Sh.int .i64)))) (Sh.sl (Sh.int .i64))) v]), some (.box [.int .i64 a, .int .i64 b, .int .i64 c, .int .i64 d]), some (.box [.int .i64 n]), some (.box [.int .i64 kk]), some (.arr 3 (.int .i64) y0), some (.arr 3 (.int .i64) (syNL (syE a b c d n kk q (o0, o1, o2, o3) u v) a b c d n kk q u v))]))
     .no)
    (.leaf (Ex.exit 4) [.one (.ptr 0 0), .one (.ptr 1 0)] [some (.box [.int .i64 z0, .int .i64 z1, .int .i64 z2, .int .i64 z3, .row 2]), some (.box [.int .i64 o0, .int .i64 o1, .int .i64 o2, .int .i64 o3, .row 3]), some (.arr 3 (.int .i64) y0), some (.arr 3 (.int .i64) u)]))
def T_pyr_Synth_2 : TT := fun vs bl => (D_pyr_Synth_2 vs bl fun a b c d n kk m o0 o1 o2 o3 z0 z1 z2 z3 q v y0 u => some (U_pyr_Synth_2 a b c d n kk m o0 o1 o2 o3 z0 z1 z2 z3 q v y0 u)).getD .no
theorem tu_pyr_Synth_2 (a b c d n kk m o0 o1 o2 o3 z0 z1 z2 z3 q : Int) (v : List (Rc × List Int)) (y0 u : List Int) : T_pyr_Synth_2 [.one (.int .i64 m), .one (.ptr 0 0), .one (.ptr 1 0), .one (.fn 61 [1, 2, 3, 4, 5]), .one (.int .i64 q)] [some (.box [.int .i64 z0, .int .i64 z1, .int .i64 z2, .int .i64 z3, .row 6]), some (.box [.int .i64 o0, .int .i64 o1, .int .i64 o2, .int .i64 o3, .row 7]), some (.box [.lst (.pair (.pair (.int .i64) (.pair (.int .i64) (.pair (.int .i64) (.int .i64)))) (.sl (.int .i64))) v]), some (.box [.int .i64 a, .int .i64 b, .int .i64 c, .int .i64 d]), some (.box [.int .i64 n]), some (.box [.int .i64 kk]), some (.arr 3 (.int .i64) y0), some (.arr 3 (.int .i64) u)] = U_pyr_Synth_2 a b c d n kk m o0 o1 o2 o3 z0 z1 z2 z3 q v y0 u := by kernel_rfl
theorem b_pyr_Synth_2 (a b c d n kk m o0 o1 o2 o3 z0 z1 z2 z3 q : Int) (v : List (Rc × List Int)) (y0 u : List Int) (Kc : KT) : exec Try.prog t_pyr_Synth (annOf []) l_pyr_Synth 20 0 (loopOf Try.f30 2) (unp 116 [3, 10, 14, 15, 16] [.one (.int .i64 m), .one (.ptr 0 0), .one (.ptr 1 0), .one (.fn 61 [1, 2, 3, 4, 5]), .one (.int .i64 q)] [some (.box [.int .i64 z0, .int .i64 z1, .int .i64 z2, .int .i64 z3, .row 6]), some (.box [.int .i64 o0, .int .i64 o1, .int .i64 o2, .int .i64 o3, .row 7]), some (.box [.lst (.pair (.pair (.int .i64) (.pair (.int .i64) (.pair (.int .i64) (.int .i64)))) (.sl (.int .i64))) v]), some (.box [.int .i64 a, .int .i64 b, .int .i64 c, .int .i64 d]), some (.box [.int .i64 n]), some (.box [.int .i64 kk]), some (.arr 3 (.int .i64) y0), some (.arr 3 (.int .i64) u)]) (endc 0 116 [3, 10, 14, 15, 16] (kxOf [10, 14] [10, 11]) Kc) =
  (U_pyr_Synth_2 a b c d n kk m o0 o1 o2 o3 z0 z1 z2 z3 q v y0 u).runc Kc := by kernel_rfl
def t_ref06_Synth : FuncId → Option Summ := tabOf [(14, G_ref06_Count), (26, G_ref06_Resolution), (28, G_ref06_Band), (42, G_ref02_Valid), (43, G_ref05_Known), (44, G_ref05_Above), (49, G_ref01_Valid), (63, G_ref01_Area), (64, G_ref05_Merge)]
def l_ref06_Synth : Nat → Option LSumm := ltOf [(8, ⟨0, 135, [0, 2, 3, 4, 6, 10, 12], (kxOf [0, 2, 3, 4, 6, 10] [10, 11]), S_ref06_Synth_0⟩), (13, ⟨0, 135, [0, 2, 3, 4, 6, 10, 13], (kxOf [0, 2, 3, 4, 6, 10] [10, 11]), S_ref06_Synth_1⟩), (19, ⟨0, 135, [0, 2, 3, 4, 6, 10, 14, 15], (kxOf [10, 14] [10, 11]), S_ref06_Synth_2⟩)]
theorem e_ref06_Synth (a b c d n r k : Int) (v : List (Rc × List Int)) : funR Try.prog t_ref06_Synth (annOf []) l_ref06_Synth 20 Try.f31 [.one (.lst (.pair (.pair (.int .i64) (.pair (.int .i64) (.pair (.int .i64) (.int .i64)))) (.sl (.int .i64))) v), .agg [.int .i64 a, .int .i64 b, .int .i64 c, .int .i64 d], .one (.int .i64 n), .one (.int .i64 r), .one (.int .i64 k)] [] =
  (ite2 (!valid a b c d)
  (some ⟨.tup [(true, [.int .i64 0, .int .i64 0, .int .i64 0, .int .i64 0, .row 0]), (false, [.int .i64 2])], [], [.arr 3 (.int .i64) ([] : List (Int))]⟩)
  (ite2 (count n == 0)
   (some ⟨.tup [(true, [.int .i64 0, .int .i64 0, .int .i64 0, .int .i64 0, .row 0]), (false, [.int .i64 2])], [], [.arr 3 (.int .i64) ([] : List (Int))]⟩)
   (ite2 (decide (r < 0))
    (some ⟨.tup [(true, [.int .i64 0, .int .i64 0, .int .i64 0, .int .i64 0, .row 0]), (false, [.int .i64 2])], [], [.arr 3 (.int .i64) ([] : List (Int))]⟩)
    (ite2 (decide (r > n))
     (some ⟨.tup [(true, [.int .i64 0, .int .i64 0, .int .i64 0, .int .i64 0, .row 0]), (false, [.int .i64 2])], [], [.arr 3 (.int .i64) ([] : List (Int))]⟩)
     (ite2 (decide (area (resR a b c d n r).1 (resR a b c d n r).2.1 (resR a b c d n r).2.2.1 (resR a b c d n r).2.2.2 > 1048576))
      (some ⟨.tup [(true, [.int .i64 0, .int .i64 0, .int .i64 0, .int .i64 0, .row 0]), (false, [.int .i64 2])], [], [.arr 3 (.int .i64) ([] : List (Int))]⟩)
      (ite2 (!inr 1 3 k)
       (some ⟨.tup [(true, [.int .i64 0, .int .i64 0, .int .i64 0, .int .i64 0, .row 0]), (false, [.int .i64 3])], [], [.arr 3 (.int .i64) ([] : List (Int))]⟩)
       (ite2 ((↑(List.length v) : Int) != count n)
        (some ⟨.tup [(true, [.int .i64 0, .int .i64 0, .int .i64 0, .int .i64 0, .row 0]), (false, [.int .i64 4])], [], [.arr 3 (.int .i64) ([] : List (Int))]⟩)
        (ite2 (k_ref06_Synth_0 a b c d n k 0 0 0 0 r 0 v [])
         (ite2 (syBnd a b c d n r v)
          (ite2 (k_ref06_Synth_1 a b c d n k 0 0 0 0 r 0 v [])
           (ite2 (syFit r v)
            (ite2 (decide ((0 : Int) ≤ 0 ∧ 0 < (↑(List.length v) : Int)))
             (ite2 (decide ((0 : Int) ≤ 0 ∧ 0 < (↑(List.length v) : Int)))
              (ite2 (decide ((0 + List.length (gN v 0).2) * 9 ≤ 140737488355328))
               (ite2 (k_ref06_Synth_2 a b c d n k r (gN v 0).1.1 (gN v 0).1.2.1 (gN v 0).1.2.2.1 (gN v 0).1.2.2.2 0 0 0 0 1 v [] ([] ++ (gN v 0).2))
                (some ⟨.tup [(true, [.int .i64 (syS a b c d n k v (Int.toNat r)).1.1, .int .i64 (syS a b c d n k v (Int.toNat r)).1.2.1, .int .i64 (syS a b c d n k v (Int.toNat r)).1.2.2.1, .int .i64 (syS a b c d n k v (Int.toNat r)).1.2.2.2, .row 0]), (false, [.int .i64 0])], [], [.arr 3 (.int .i64) (syS a b c d n k v (Int.toNat r)).2]⟩)
                none)
               none)
              none)
             none)
            (some ⟨.tup [(true, [.int .i64 0, .int .i64 0, .int .i64 0, .int .i64 0, .row 0]), (false, [.int .i64 2])], [], [.arr 3 (.int .i64) ([] : List (Int))]⟩))
           none)
          (some ⟨.tup [(true, [.int .i64 0, .int .i64 0, .int .i64 0, .int .i64 0, .row 0]), (false, [.int .i64 1])], [], [.arr 3 (.int .i64) ([] : List (Int))]⟩))
         none)))))))) := by kernel_rfl
def U_ref06_Synth_0 (a b c d n kk z0 z1 z2 z3 m i : Int) (v : List (Rc × List Int)) (y0 : List Int) : LT :=
  (.br (decide (i ≤ IntKind.wrap .i64 (3 * m)))
    (.br (decide (0 ≤ i ∧ i < (↑(List.length v) : Int)))
     (.br (!((gN v (Int.toNat i)).1.1 == (bandR a b c d n i).1 && ((gN v (Int.toNat i)).1.2.1 == (bandR a b c d n i).2.1 && ((gN v (Int.toNat i)).1.2.2.1 == (bandR a b c d n i).2.2.1 && ((gN v (Int.toNat i)).1.2.2.2 == (bandR a b c d n i).2.2.2 && true)))))
      (.leaf Ex.ret [.one (.ptr 0 0), .one (.int .i64 1)] [some (.box [.int .i64 0, .int .i64 0, .int .i64 0, .int .i64 0, .row 1]), some (.arr 3 (.int .i64) ([] : List (Int)))])
      (.br (decide (0 ≤ i ∧ i < (↑(List.length v) : Int)))
       (.br (!plV (gN v (Int.toNat i)).1.1 (gN v (Int.toNat i)).1.2.1 (gN v (Int.toNat i)).1.2.2.1 (gN v (Int.toNat i)).1.2.2.2 (gN v (Int.toNat i)).2)
        (.leaf Ex.ret [.one (.ptr 0 0), .one (.int .i64 1)] [some (.box [.int .i64 0, .int .i64 0, .int .i64 0, .int .i64 0, .row 1]), some (.arr 3 (.int .i64) ([] : List (Int)))])
        (.leaf Ex.normal [.one (.lst (.pair (.pair (.int .i64) (Sh.pair (Sh.int .i64) (Sh.pair (Sh.int .i64) (Sh.int .i64)))) (Sh.sl (Sh.int .i64))) v), .one (.int .i64 n), .one (.int .i64 m), .one (.int .i64 kk), .one (.ptr 0 0), .one (.ptr 1 0), .one (.int .i64 (IntKind.wrap .i64 (i + 1)))] [some (.box [.int .i64 a, .int .i64 b, .int .i64 c, .int .i64 d]), some (.box [.int .i64 z0, .int .i64 z1, .int .i64 z2, .int .i64 z3, .row 2]), some (.arr 3 (.int .i64) y0)]))
       .no))
     .no)
    (.leaf (Ex.exit 0) [.one (.lst (.pair (.pair (.int .i64) (Sh.pair (Sh.int .i64) (Sh.pair (Sh.int .i64) (Sh.int .i64)))) (Sh.sl (Sh.int .i64))) v), .one (.int .i64 n), .one (.int .i64 m), .one (.int .i64 kk), .one (.ptr 0 0), .one (.ptr 1 0)] [some (.box [.int .i64 a, .int .i64 b, .int .i64 c, .int .i64 d]), some (.box [.int .i64 z0, .int .i64 z1, .int .i64 z2, .int .i64 z3, .row 2]), some (.arr 3 (.int .i64) y0)]))
def T_ref06_Synth_0 : TT := fun vs bl => (D_ref06_Synth_0 vs bl fun a b c d n kk z0 z1 z2 z3 m i v y0 => some (U_ref06_Synth_0 a b c d n kk z0 z1 z2 z3 m i v y0)).getD .no
theorem tu_ref06_Synth_0 (a b c d n kk z0 z1 z2 z3 m i : Int) (v : List (Rc × List Int)) (y0 : List Int) : T_ref06_Synth_0 [.one (.lst (.pair (.pair (.int .i64) (.pair (.int .i64) (.pair (.int .i64) (.int .i64)))) (.sl (.int .i64))) v), .one (.int .i64 n), .one (.int .i64 m), .one (.int .i64 kk), .one (.ptr 0 0), .one (.ptr 1 0), .one (.int .i64 i)] [some (.box [.int .i64 a, .int .i64 b, .int .i64 c, .int .i64 d]), some (.box [.int .i64 z0, .int .i64 z1, .int .i64 z2, .int .i64 z3, .row 2]), some (.arr 3 (.int .i64) y0)] = U_ref06_Synth_0 a b c d n kk z0 z1 z2 z3 m i v y0 := by kernel_rfl
theorem b_ref06_Synth_0 (a b c d n kk z0 z1 z2 z3 m i : Int) (v : List (Rc × List Int)) (y0 : List Int) (Kc : KT) : exec Try.prog t_ref06_Synth (annOf []) l_ref06_Synth 20 0 (loopOf Try.f31 0) (unp 135 [0, 2, 3, 4, 6, 10, 12] [.one (.lst (.pair (.pair (.int .i64) (.pair (.int .i64) (.pair (.int .i64) (.int .i64)))) (.sl (.int .i64))) v), .one (.int .i64 n), .one (.int .i64 m), .one (.int .i64 kk), .one (.ptr 0 0), .one (.ptr 1 0), .one (.int .i64 i)] [some (.box [.int .i64 a, .int .i64 b, .int .i64 c, .int .i64 d]), some (.box [.int .i64 z0, .int .i64 z1, .int .i64 z2, .int .i64 z3, .row 2]), some (.arr 3 (.int .i64) y0)]) (endc 0 135 [0, 2, 3, 4, 6, 10, 12] (kxOf [0, 2, 3, 4, 6, 10] [10, 11]) Kc) =
  (U_ref06_Synth_0 a b c d n kk z0 z1 z2 z3 m i v y0).runc Kc := by kernel_rfl
def U_ref06_Synth_1 (a b c d n kk z0 z1 z2 z3 m i : Int) (v : List (Rc × List Int)) (y0 : List Int) : LT :=
  (.br (decide (i ≤ IntKind.wrap .i64 (3 * m)))
    (.br (decide (0 ≤ i ∧ i < (↑(List.length v) : Int)))
     (.br (small (List.length (gN v (Int.toNat i)).2) && true)
      (.br (!fitB 4294967296 (gN v (Int.toNat i)).2)
       (.leaf Ex.ret [.one (.ptr 0 0), .one (.int .i64 2)] [some (.box [.int .i64 0, .int .i64 0, .int .i64 0, .int .i64 0, .row 1]), some (.arr 3 (.int .i64) ([] : List (Int)))])
       (.leaf Ex.normal [.one (.lst (.pair (.pair (.int .i64) (Sh.pair (Sh.int .i64) (Sh.pair (Sh.int .i64) (Sh.int .i64)))) (Sh.sl (Sh.int .i64))) v), .one (.int .i64 n), .one (.int .i64 m), .one (.int .i64 kk), .one (.ptr 0 0), .one (.ptr 1 0), .one (.int .i64 (IntKind.wrap .i64 (i + 1)))] [some (.box [.int .i64 a, .int .i64 b, .int .i64 c, .int .i64 d]), some (.box [.int .i64 z0, .int .i64 z1, .int .i64 z2, .int .i64 z3, .row 2]), some (.arr 3 (.int .i64) y0)]))
      .no)
     .no)
    (.leaf (Ex.exit 2) [.one (.lst (.pair (.pair (.int .i64) (Sh.pair (Sh.int .i64) (Sh.pair (Sh.int .i64) (Sh.int .i64)))) (Sh.sl (Sh.int .i64))) v), .one (.int .i64 n), .one (.int .i64 m), .one (.int .i64 kk), .one (.ptr 0 0), .one (.ptr 1 0)] [some (.box [.int .i64 a, .int .i64 b, .int .i64 c, .int .i64 d]), some (.box [.int .i64 z0, .int .i64 z1, .int .i64 z2, .int .i64 z3, .row 2]), some (.arr 3 (.int .i64) y0)]))
def T_ref06_Synth_1 : TT := fun vs bl => (D_ref06_Synth_1 vs bl fun a b c d n kk z0 z1 z2 z3 m i v y0 => some (U_ref06_Synth_1 a b c d n kk z0 z1 z2 z3 m i v y0)).getD .no
theorem tu_ref06_Synth_1 (a b c d n kk z0 z1 z2 z3 m i : Int) (v : List (Rc × List Int)) (y0 : List Int) : T_ref06_Synth_1 [.one (.lst (.pair (.pair (.int .i64) (.pair (.int .i64) (.pair (.int .i64) (.int .i64)))) (.sl (.int .i64))) v), .one (.int .i64 n), .one (.int .i64 m), .one (.int .i64 kk), .one (.ptr 0 0), .one (.ptr 1 0), .one (.int .i64 i)] [some (.box [.int .i64 a, .int .i64 b, .int .i64 c, .int .i64 d]), some (.box [.int .i64 z0, .int .i64 z1, .int .i64 z2, .int .i64 z3, .row 2]), some (.arr 3 (.int .i64) y0)] = U_ref06_Synth_1 a b c d n kk z0 z1 z2 z3 m i v y0 := by kernel_rfl
theorem b_ref06_Synth_1 (a b c d n kk z0 z1 z2 z3 m i : Int) (v : List (Rc × List Int)) (y0 : List Int) (Kc : KT) : exec Try.prog t_ref06_Synth (annOf []) l_ref06_Synth 20 0 (loopOf Try.f31 1) (unp 135 [0, 2, 3, 4, 6, 10, 13] [.one (.lst (.pair (.pair (.int .i64) (.pair (.int .i64) (.pair (.int .i64) (.int .i64)))) (.sl (.int .i64))) v), .one (.int .i64 n), .one (.int .i64 m), .one (.int .i64 kk), .one (.ptr 0 0), .one (.ptr 1 0), .one (.int .i64 i)] [some (.box [.int .i64 a, .int .i64 b, .int .i64 c, .int .i64 d]), some (.box [.int .i64 z0, .int .i64 z1, .int .i64 z2, .int .i64 z3, .row 2]), some (.arr 3 (.int .i64) y0)]) (endc 0 135 [0, 2, 3, 4, 6, 10, 13] (kxOf [0, 2, 3, 4, 6, 10] [10, 11]) Kc) =
  (U_ref06_Synth_1 a b c d n kk z0 z1 z2 z3 m i v y0).runc Kc := by kernel_rfl
def U_ref06_Synth_2 (a b c d n kk m o0 o1 o2 o3 z0 z1 z2 z3 q : Int) (v : List (Rc × List Int)) (y0 u : List Int) : LT :=
  let z2_ := gN v (Int.toNat (IntKind.wrap .i64 (IntKind.wrap .i64 (3 * q) - 2))); let z3_ := gN v (Int.toNat (IntKind.wrap .i64 (IntKind.wrap .i64 (3 * q) - 1))); let z4_ := gN v (Int.toNat (IntKind.wrap .i64 (3 * q))); let z1_ := mgErr o0 o1 o2 o3 z2_.1.1 z2_.1.2.1 z2_.1.2.2.1 z2_.1.2.2.2 z3_.1.1 z3_.1.2.1 z3_.1.2.2.1 z3_.1.2.2.2 z4_.1.1 z4_.1.2.1 z4_.1.2.2.1 z4_.1.2.2.2 (resR a b c d n q).1 (resR a b c d n q).2.1 (resR a b c d n q).2.2.1 (resR a b c d n q).2.2.2 kk u z2_.2 z3_.2 z4_.2; let z5_ := mgR z1_ (resR a b c d n q).1 (resR a b c d n q).2.1 (resR a b c d n q).2.2.1 (resR a b c d n q).2.2.2; (.br (decide (q ≤ m))
    (.br (decide (0 ≤ IntKind.wrap .i64 (IntKind.wrap .i64 (3 * q) - 2) ∧ IntKind.wrap .i64 (IntKind.wrap .i64 (3 * q) - 2) < (↑(List.length v) : Int)))
     (.br (decide (0 ≤ IntKind.wrap .i64 (IntKind.wrap .i64 (3 * q) - 1) ∧ IntKind.wrap .i64 (IntKind.wrap .i64 (3 * q) - 1) < (↑(List.length v) : Int)))
      (.br (decide (0 ≤ IntKind.wrap .i64 (3 * q) ∧ IntKind.wrap .i64 (3 * q) < (↑(List.length v) : Int)))
       (.br (small (List.length u) && small (List.length z2_.2) && small (List.length z3_.2) && small (List.length z4_.2))
        (.leaf Ex.normal [.one (.lst (.pair (.pair (.int .i64) (Sh.pair (Sh.int .i64) (Sh.pair (Sh.int .i64) (Sh.int .i64)))) (Sh.sl (Sh.int .i64))) v), .one (.int .i64 n), .one (.int .i64 m), .one (.int .i64 kk), .one (.ptr 0 0), .one (.ptr 1 0), .one (.ptr 2 0), .one (.int .i64 (IntKind.wrap .i64 (q + 1)))] [some (.box [.int .i64 a, .int .i64 b, .int .i64 c, .int .i64 d]), some (.box [.int .i64 z0, .int .i64 z1, .int .i64 z2, .int .i64 z3, .row 3]), some (.box [.int .i64 z5_.1, .int .i64 z5_.2.1, .int .i64 z5_.2.2.1, .int .i64 z5_.2.2.2, .row 4]), some (.arr 3 (.int .i64) y0), some (.arr 3 (.int .i64) (mgL z1_ (resR a b c d n q).1 (resR a b c d n q).2.1 (resR a b c d n q).2.2.1 (resR a b c d n q).2.2.2 kk u z2_.2 z3_.2 z4_.2))])
        .no)
       .no)
      .no)
     .no)
    (.leaf (Ex.exit 4) [.one (.ptr 0 0), .one (.ptr 1 0)] [some (.box [.int .i64 z0, .int .i64 z1, .int .i64 z2, .int .i64 z3, .row 2]), some (.box [.int .i64 o0, .int .i64 o1, .int .i64 o2, .int .i64 o3, .row 3]), some (.arr 3 (.int .i64) y0), some (.arr 3 (.int .i64) u)]))
def T_ref06_Synth_2 : TT := fun vs bl => (D_ref06_Synth_2 vs bl fun a b c d n kk m o0 o1 o2 o3 z0 z1 z2 z3 q v y0 u => some (U_ref06_Synth_2 a b c d n kk m o0 o1 o2 o3 z0 z1 z2 z3 q v y0 u)).getD .no
theorem tu_ref06_Synth_2 (a b c d n kk m o0 o1 o2 o3 z0 z1 z2 z3 q : Int) (v : List (Rc × List Int)) (y0 u : List Int) : T_ref06_Synth_2 [.one (.lst (.pair (.pair (.int .i64) (.pair (.int .i64) (.pair (.int .i64) (.int .i64)))) (.sl (.int .i64))) v), .one (.int .i64 n), .one (.int .i64 m), .one (.int .i64 kk), .one (.ptr 0 0), .one (.ptr 1 0), .one (.ptr 2 0), .one (.int .i64 q)] [some (.box [.int .i64 a, .int .i64 b, .int .i64 c, .int .i64 d]), some (.box [.int .i64 z0, .int .i64 z1, .int .i64 z2, .int .i64 z3, .row 3]), some (.box [.int .i64 o0, .int .i64 o1, .int .i64 o2, .int .i64 o3, .row 4]), some (.arr 3 (.int .i64) y0), some (.arr 3 (.int .i64) u)] = U_ref06_Synth_2 a b c d n kk m o0 o1 o2 o3 z0 z1 z2 z3 q v y0 u := by kernel_rfl
theorem b_ref06_Synth_2 (a b c d n kk m o0 o1 o2 o3 z0 z1 z2 z3 q : Int) (v : List (Rc × List Int)) (y0 u : List Int) (Kc : KT) : exec Try.prog t_ref06_Synth (annOf []) l_ref06_Synth 20 0 (loopOf Try.f31 2) (unp 135 [0, 2, 3, 4, 6, 10, 14, 15] [.one (.lst (.pair (.pair (.int .i64) (.pair (.int .i64) (.pair (.int .i64) (.int .i64)))) (.sl (.int .i64))) v), .one (.int .i64 n), .one (.int .i64 m), .one (.int .i64 kk), .one (.ptr 0 0), .one (.ptr 1 0), .one (.ptr 2 0), .one (.int .i64 q)] [some (.box [.int .i64 a, .int .i64 b, .int .i64 c, .int .i64 d]), some (.box [.int .i64 z0, .int .i64 z1, .int .i64 z2, .int .i64 z3, .row 3]), some (.box [.int .i64 o0, .int .i64 o1, .int .i64 o2, .int .i64 o3, .row 4]), some (.arr 3 (.int .i64) y0), some (.arr 3 (.int .i64) u)]) (endc 0 135 [0, 2, 3, 4, 6, 10, 14, 15] (kxOf [10, 14] [10, 11]) Kc) =
  (U_ref06_Synth_2 a b c d n kk m o0 o1 o2 o3 z0 z1 z2 z3 q v y0 u).runc Kc := by kernel_rfl
def t_law_few : FuncId → Option Summ := tabOf []
def l_law_few : Nat → Option LSumm := ltOf [(2, ⟨0, 24, [0, 3], (kxOf [0] [2]), S_law_few_0⟩)]
theorem e_law_few (l : List (Rc × List Int)) : funR Try.prog t_law_few (annOf []) l_law_few 20 Try.f29 [.one (.lst (.pair (.pair (.int .i64) (.pair (.int .i64) (.pair (.int .i64) (.int .i64)))) (.sl (.int .i64))) l)] [] =
  (ite2 (List.all (List.range (min (List.length l) 20)) fun i ↦ decide (List.length (gN l i).2 ≤ 4000))
  (some ⟨.one (.bool (decide ((↑(List.length l) : Int) ≤ 20))), [], []⟩)
  (some ⟨.one (.bool false), [], []⟩)) := by kernel_rfl
def U_law_few_0 (i : Int) (l : List (Rc × List Int)) : LT :=
  (.br (decide (i < (↑(List.length l) : Int)))
    (.br (decide (i < 20))
     (.br (decide (0 ≤ i ∧ i < (↑(List.length l) : Int)))
      (.br (decide ((↑(List.length (gN l (Int.toNat i)).2) : Int) > 4000))
       (.leaf Ex.ret [.one (.bool false)] [])
       (.leaf Ex.normal [.one (.lst (.pair (.pair (.int .i64) (Sh.pair (Sh.int .i64) (Sh.pair (Sh.int .i64) (Sh.int .i64)))) (Sh.sl (Sh.int .i64))) l), .one (.int .i64 (IntKind.wrap .i64 (i + 1)))] []))
      .no)
     (.leaf (Ex.exit 0) [.one (.lst (.pair (.pair (.int .i64) (Sh.pair (Sh.int .i64) (Sh.pair (Sh.int .i64) (Sh.int .i64)))) (Sh.sl (Sh.int .i64))) l)] []))
    (.leaf (Ex.exit 0) [.one (.lst (.pair (.pair (.int .i64) (Sh.pair (Sh.int .i64) (Sh.pair (Sh.int .i64) (Sh.int .i64)))) (Sh.sl (Sh.int .i64))) l)] []))
def T_law_few_0 : TT := fun vs bl => (D_law_few_0 vs bl fun i l => some (U_law_few_0 i l)).getD .no
theorem tu_law_few_0 (i : Int) (l : List (Rc × List Int)) : T_law_few_0 [.one (.lst (.pair (.pair (.int .i64) (.pair (.int .i64) (.pair (.int .i64) (.int .i64)))) (.sl (.int .i64))) l), .one (.int .i64 i)] [] = U_law_few_0 i l := by kernel_rfl
theorem b_law_few_0 (i : Int) (l : List (Rc × List Int)) (Kc : KT) : exec Try.prog t_law_few (annOf []) l_law_few 20 0 (loopOf Try.f29 0) (unp 24 [0, 3] [.one (.lst (.pair (.pair (.int .i64) (.pair (.int .i64) (.pair (.int .i64) (.int .i64)))) (.sl (.int .i64))) l), .one (.int .i64 i)] []) (endc 0 24 [0, 3] (kxOf [0] [2]) Kc) =
  (U_law_few_0 i l).runc Kc := by kernel_rfl
def t_PyramidSynthesizes : FuncId → Option Summ := tabOf [(17, G_awake), (29, G_law_few), (30, G_pyr_Synth), (31, G_ref06_Synth), (32, G_law_same)]
def l_PyramidSynthesizes : Nat → Option LSumm := ltOf []
theorem e_PyramidSynthesizes (v : List (Rc × List Int)) (a b c d n r k : Int) : funR Try.prog t_PyramidSynthesizes (annOf []) l_PyramidSynthesizes 20 Try.f8 [.agg [.lst (.pair (.pair (.int .i64) (.pair (.int .i64) (.pair (.int .i64) (.int .i64)))) (.sl (.int .i64))) v, .int .i64 a, .int .i64 b, .int .i64 c, .int .i64 d], .agg [.int .i64 n, .int .i64 r, .int .i64 k]] [] =
  (ite2 (!fewB v)
  (some ⟨.one (.bool true), [], []⟩)
  (ite2 (smAll v)
   (ite2 (smAll v)
    (ite2 (small (List.length (syL a b c d n r k v)))
     (ite2 (samePl (syR a b c d n r k v).1 (syR a b c d n r k v).2.1 (syR a b c d n r k v).2.2.1 (syR a b c d n r k v).2.2.2 (syL a b c d n r k v) (syR a b c d n r k v).1 (syR a b c d n r k v).2.1 (syR a b c d n r k v).2.2.1 (syR a b c d n r k v).2.2.2 (syL a b c d n r k v))
      (ite2 (syErr a b c d n r k v == syErr a b c d n r k v)
       (some ⟨.one (.bool true), [], []⟩)
       (some ⟨.one (.bool false), [], []⟩))
      (some ⟨.one (.bool false), [], []⟩))
     none)
    none)
   none)) := by kernel_rfl
end
end Go.Rx.Ch06
