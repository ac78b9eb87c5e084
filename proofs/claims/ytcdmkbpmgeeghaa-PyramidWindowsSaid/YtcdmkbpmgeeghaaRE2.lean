/- Each function, run by the executor: an equation. -/
import Derived.Test.YtcdmkbpmgeeghaaRG
import Derived.Test.YtcdmkbpmgeeghaaProg
import Derived.KernelRfl
set_option linter.unnecessarySimpa false
set_option linter.unusedVariables false
set_option maxRecDepth 100000
set_option maxHeartbeats 40000000
open Go Go.Rx Go.Proofs
namespace Go.Rx.Ch06
noncomputable section
def t_sy_step : FuncId → Option Summ := tabOf [(25, G_pyr_Resolution), (62, G_dwt_Merge)]
def l_sy_step : Nat → Option LSumm := ltOf []
theorem e_sy_step (a b c d n k q o0 o1 o2 o3 : Int) (u : List Int) (v : List (Rc × List Int)) : funR Try.prog t_sy_step (annOf []) l_sy_step 20 Try.f61 [.one (.int .i64 q), .one (.ptr 0 0), .one (.ptr 1 0), .one (.ptr 2 0), .one (.ptr 3 0), .one (.ptr 4 0)] [.box [.int .i64 o0, .int .i64 o1, .int .i64 o2, .int .i64 o3, .row 5], .box [.lst (.pair (.pair (.int .i64) (.pair (.int .i64) (.pair (.int .i64) (.int .i64)))) (.sl (.int .i64))) v], .box [.int .i64 a, .int .i64 b, .int .i64 c, .int .i64 d], .box [.int .i64 n], .box [.int .i64 k], .arr 3 (.int .i64) u] =
  (let z2_ := gN v (Int.toNat (IntKind.wrap .i64 (IntKind.wrap .i64 (3 * q) - 2))); let z3_ := gN v (Int.toNat (IntKind.wrap .i64 (IntKind.wrap .i64 (3 * q) - 1))); let z4_ := gN v (Int.toNat (IntKind.wrap .i64 (3 * q))); let z1_ := mgErr o0 o1 o2 o3 z2_.1.1 z2_.1.2.1 z2_.1.2.2.1 z2_.1.2.2.2 z3_.1.1 z3_.1.2.1 z3_.1.2.2.1 z3_.1.2.2.2 z4_.1.1 z4_.1.2.1 z4_.1.2.2.1 z4_.1.2.2.2 (resR a b c d n q).1 (resR a b c d n q).2.1 (resR a b c d n q).2.2.1 (resR a b c d n q).2.2.2 k u z2_.2 z3_.2 z4_.2; let z5_ := mgR z1_ (resR a b c d n q).1 (resR a b c d n q).2.1 (resR a b c d n q).2.2.1 (resR a b c d n q).2.2.2; (ite2 (decide (0 ≤ IntKind.wrap .i64 (IntKind.wrap .i64 (3 * q) - 2) ∧ IntKind.wrap .i64 (IntKind.wrap .i64 (3 * q) - 2) < (↑(List.length v) : Int)))
  (ite2 (decide (0 ≤ IntKind.wrap .i64 (IntKind.wrap .i64 (3 * q) - 1) ∧ IntKind.wrap .i64 (IntKind.wrap .i64 (3 * q) - 1) < (↑(List.length v) : Int)))
   (ite2 (decide (0 ≤ IntKind.wrap .i64 (3 * q) ∧ IntKind.wrap .i64 (3 * q) < (↑(List.length v) : Int)))
    (ite2 (small (List.length u) && small (List.length z2_.2) && small (List.length z3_.2) && small (List.length z4_.2))
     (some ⟨.one (.int .i64 z1_), [some (.box [.int .i64 z5_.1, .int .i64 z5_.2.1, .int .i64 z5_.2.2.1, .int .i64 z5_.2.2.2, .row 6]), some (.box [.lst (.pair (.pair (.int .i64) (Sh.pair (Sh.int .i64) (Sh.pair (Sh.int .i64) (Sh.int .i64)))) (Sh.sl (Sh.int .i64))) v]), some (.box [.int .i64 a, .int .i64 b, .int .i64 c, .int .i64 d]), some (.box [.int .i64 n]), some (.box [.int .i64 k]), some (.arr 3 (.int .i64) u)], [.arr 3 (.int .i64) (mgL z1_ (resR a b c d n q).1 (resR a b c d n q).2.1 (resR a b c d n q).2.2.1 (resR a b c d n q).2.2.2 k u z2_.2 z3_.2 z4_.2)]⟩)
     none)
    none)
   none)
  none)) := by kernel_rfl
def t_pyr_Synth : FuncId → Option Summ := tabOf [(13, G_pyr_Count), (25, G_pyr_Resolution), (27, G_pyr_Band), (38, G_pyr_validLevels), (39, G_pl_Valid), (40, G_lift_Margin), (41, G_pyr_exceeds), (46, G_rect_Valid), (60, G_rect_Area), (61, G_sy_step)]
def l_pyr_Synth : Nat → Option LSumm := ltOf [(8, ⟨0, 116, [3, 5, 6, 7, 9, 10, 12], (kxOf [3, 5, 6, 7, 9, 10] [10, 11]), S_pyr_Synth_0⟩), (13, ⟨0, 116, [3, 5, 6, 7, 9, 10, 13], (kxOf [3, 5, 6, 7, 9, 10] [10, 11]), S_pyr_Synth_1⟩), (20, ⟨0, 116, [3, 10, 14, 15, 16], (kxOf [10, 14] [10, 11]), S_pyr_Synth_2⟩)]
theorem e_pyr_Synth (a b c d n r k : Int) (v : List (Rc × List Int)) : funR Try.prog t_pyr_Synth (annOf []) l_pyr_Synth 20 Try.f30 [.one (.lst (.pair (.pair (.int .i64) (.pair (.int .i64) (.pair (.int .i64) (.int .i64)))) (.sl (.int .i64))) v), .agg [.int .i64 a, .int .i64 b, .int .i64 c, .int .i64 d], .one (.int .i64 n), .one (.int .i64 r), .one (.int .i64 k)] [] =
  (ite2 (!valid a b c d)
  (some ⟨.tup [(true, [.int .i64 0, .int .i64 0, .int .i64 0, .int .i64 0, .row 0]), (false, [.int .i64 2])], [], [.arr 3 (.int .i64) ([] : List (Int))]⟩)
  (ite2 (!inr 0 5 n)
   (some ⟨.tup [(true, [.int .i64 0, .int .i64 0, .int .i64 0, .int .i64 0, .row 0]), (false, [.int .i64 2])], [], [.arr 3 (.int .i64) ([] : List (Int))]⟩)
   (ite2 (decide (r < 0))
    (some ⟨.tup [(true, [.int .i64 0, .int .i64 0, .int .i64 0, .int .i64 0, .row 0]), (false, [.int .i64 2])], [], [.arr 3 (.int .i64) ([] : List (Int))]⟩)
    (ite2 (decide (r > n))
     (some ⟨.tup [(true, [.int .i64 0, .int .i64 0, .int .i64 0, .int .i64 0, .row 0]), (false, [.int .i64 2])], [], [.arr 3 (.int .i64) ([] : List (Int))]⟩)
     (ite2 (decide (area (resR a b c d n r).1 (resR a b c d n r).2.1 (resR a b c d n r).2.2.1 (resR a b c d n r).2.2.2 > 1048576))
      (some ⟨.tup [(true, [.int .i64 0, .int .i64 0, .int .i64 0, .int .i64 0, .row 0]), (false, [.int .i64 2])], [], [.arr 3 (.int .i64) ([] : List (Int))]⟩)
      (ite2 (marg k == 0)
       (some ⟨.tup [(true, [.int .i64 0, .int .i64 0, .int .i64 0, .int .i64 0, .row 0]), (false, [.int .i64 3])], [], [.arr 3 (.int .i64) ([] : List (Int))]⟩)
       (ite2 ((↑(List.length v) : Int) != count n)
        (some ⟨.tup [(true, [.int .i64 0, .int .i64 0, .int .i64 0, .int .i64 0, .row 0]), (false, [.int .i64 4])], [], [.arr 3 (.int .i64) ([] : List (Int))]⟩)
        (ite2 (k_pyr_Synth_0 a b c d n k 0 0 0 0 r 0 v [])
         (ite2 (syBnd a b c d n r v)
          (ite2 (k_pyr_Synth_1 a b c d n k 0 0 0 0 r 0 v [])
           (ite2 (syFit r v)
            (ite2 (decide ((0 : Int) ≤ 0 ∧ 0 < (↑(List.length v) : Int)))
             (ite2 (decide ((0 : Int) ≤ 0 ∧ 0 < (↑(List.length v) : Int)))
              (ite2 (decide (List.length (gN v 0).2 * 9 ≤ 140737488355328))
               (ite2 (k_pyr_Synth_2 a b c d n k r (gN v 0).1.1 (gN v 0).1.2.1 (gN v 0).1.2.2.1 (gN v 0).1.2.2.2 0 0 0 0 1 v [] (gN v 0).2)
                (some ⟨.tup [(true, [.int .i64 (syS a b c d n k v (Int.toNat r)).1.1, .int .i64 (syS a b c d n k v (Int.toNat r)).1.2.1, .int .i64 (syS a b c d n k v (Int.toNat r)).1.2.2.1, .int .i64 (syS a b c d n k v (Int.toNat r)).1.2.2.2, .row 0]), (false, [.int .i64 0])], [], [.arr 3 (.int .i64) (syS a b c d n k v (Int.toNat r)).2]⟩)
                none)
               none)
              none)
             none)
            (some ⟨.tup [(true, [.int .i64 0, .int .i64 0, .int .i64 0, .int .i64 0, .row 0]), (false, [.int .i64 2])], [], [.arr 3 (.int .i64) ([] : List (Int))]⟩))
           none)
          (some ⟨.tup [(true, [.int .i64 0, .int .i64 0, .int .i64 0, .int .i64 0, .row 0]), (false, [.int .i64 1])], [], [.arr 3 (.int .i64) ([] : List (Int))]⟩))
         none)))))))) := by kernel_rfl
def U_pyr_Synth_0 (a b c d n kk z0 z1 z2 z3 m i : Int) (v : List (Rc × List Int)) (y0 : List Int) : LT :=
  (.br (decide (i ≤ IntKind.wrap .i64 (3 * m)))
    (.br (decide (0 ≤ i ∧ i < (↑(List.length v) : Int)))
     (.br (!plV (gN v (Int.toNat i)).1.1 (gN v (Int.toNat i)).1.2.1 (gN v (Int.toNat i)).1.2.2.1 (gN v (Int.toNat i)).1.2.2.2 (gN v (Int.toNat i)).2)
      (.leaf Ex.ret [.one (.ptr 0 0), .one (.int .i64 1)] [some (.box [.int .i64 0, .int .i64 0, .int .i64 0, .int .i64 0, .row 1]), some (.arr 3 (.int .i64) ([] : List (Int)))])
      (.br (decide (0 ≤ i ∧ i < (↑(List.length v) : Int)))
       (.br (!((gN v (Int.toNat i)).1.1 == (bandR a b c d n i).1 && ((gN v (Int.toNat i)).1.2.1 == (bandR a b c d n i).2.1 && ((gN v (Int.toNat i)).1.2.2.1 == (bandR a b c d n i).2.2.1 && ((gN v (Int.toNat i)).1.2.2.2 == (bandR a b c d n i).2.2.2 && true)))))
        (.leaf Ex.ret [.one (.ptr 0 0), .one (.int .i64 1)] [some (.box [.int .i64 0, .int .i64 0, .int .i64 0, .int .i64 0, .row 1]), some (.arr 3 (.int .i64) ([] : List (Int)))])
        (.leaf Ex.normal [.one (.int .i64 m), .one (.ptr 0 0), .one (.ptr 1 0), .one (.ptr 2 0), .one (.ptr 3 0), .one (.ptr 4 0), .one (.int .i64 (IntKind.wrap .i64 (i + 1)))] [some (.box [.lst (.pair (.pair (.int .i64) (Sh.pair (Sh.int .i64) (Sh.pair (Sh.int .i64) (Sh.int .i64)))) (Sh.sl (Sh.int .i64))) v]), some (.box [.int .i64 a, .int .i64 b, .int .i64 c, .int .i64 d]), some (.box [.int .i64 n]), some (.box [.int .i64 kk]), some (.box [.int .i64 z0, .int .i64 z1, .int .i64 z2, .int .i64 z3, .row 5]), some (.arr 3 (.int .i64) y0)]))
       .no))
     .no)
    (.leaf (Ex.exit 0) [.one (.int .i64 m), .one (.ptr 0 0), .one (.ptr 1 0), .one (.ptr 2 0), .one (.ptr 3 0), .one (.ptr 4 0)] [some (.box [.lst (.pair (.pair (.int .i64) (Sh.pair (Sh.int .i64) (Sh.pair (Sh.int .i64) (Sh.int .i64)))) (Sh.sl (Sh.int .i64))) v]), some (.box [.int .i64 a, .int .i64 b, .int .i64 c, .int .i64 d]), some (.box [.int .i64 n]), some (.box [.int .i64 kk]), some (.box [.int .i64 z0, .int .i64 z1, .int .i64 z2, .int .i64 z3, .row 5]), some (.arr 3 (.int .i64) y0)]))
def T_pyr_Synth_0 : TT := fun vs bl => (D_pyr_Synth_0 vs bl fun a b c d n kk z0 z1 z2 z3 m i v y0 => some (U_pyr_Synth_0 a b c d n kk z0 z1 z2 z3 m i v y0)).getD .no
theorem tu_pyr_Synth_0 (a b c d n kk z0 z1 z2 z3 m i : Int) (v : List (Rc × List Int)) (y0 : List Int) : T_pyr_Synth_0 [.one (.int .i64 m), .one (.ptr 0 0), .one (.ptr 1 0), .one (.ptr 2 0), .one (.ptr 3 0), .one (.ptr 4 0), .one (.int .i64 i)] [some (.box [.lst (.pair (.pair (.int .i64) (.pair (.int .i64) (.pair (.int .i64) (.int .i64)))) (.sl (.int .i64))) v]), some (.box [.int .i64 a, .int .i64 b, .int .i64 c, .int .i64 d]), some (.box [.int .i64 n]), some (.box [.int .i64 kk]), some (.box [.int .i64 z0, .int .i64 z1, .int .i64 z2, .int .i64 z3, .row 5]), some (.arr 3 (.int .i64) y0)] = U_pyr_Synth_0 a b c d n kk z0 z1 z2 z3 m i v y0 := by kernel_rfl
theorem b_pyr_Synth_0 (a b c d n kk z0 z1 z2 z3 m i : Int) (v : List (Rc × List Int)) (y0 : List Int) (Kc : KT) : exec Try.prog t_pyr_Synth (annOf []) l_pyr_Synth 20 0 (loopOf Try.f30 0) (unp 116 [3, 5, 6, 7, 9, 10, 12] [.one (.int .i64 m), .one (.ptr 0 0), .one (.ptr 1 0), .one (.ptr 2 0), .one (.ptr 3 0), .one (.ptr 4 0), .one (.int .i64 i)] [some (.box [.lst (.pair (.pair (.int .i64) (.pair (.int .i64) (.pair (.int .i64) (.int .i64)))) (.sl (.int .i64))) v]), some (.box [.int .i64 a, .int .i64 b, .int .i64 c, .int .i64 d]), some (.box [.int .i64 n]), some (.box [.int .i64 kk]), some (.box [.int .i64 z0, .int .i64 z1, .int .i64 z2, .int .i64 z3, .row 5]), some (.arr 3 (.int .i64) y0)]) (endc 0 116 [3, 5, 6, 7, 9, 10, 12] (kxOf [3, 5, 6, 7, 9, 10] [10, 11]) Kc) =
  (U_pyr_Synth_0 a b c d n kk z0 z1 z2 z3 m i v y0).runc Kc := by kernel_rfl
def U_pyr_Synth_1 (a b c d n kk z0 z1 z2 z3 m i : Int) (v : List (Rc × List Int)) (y0 : List Int) : LT :=
  (.br (decide (i ≤ IntKind.wrap .i64 (3 * m)))
    (.br (decide (0 ≤ i ∧ i < (↑(List.length v) : Int)))
     (.br (small (List.length (gN v (Int.toNat i)).2) && true)
      (.br (!fitB 4294967296 (gN v (Int.toNat i)).2)
       (.leaf Ex.ret [.one (.ptr 0 0), .one (.int .i64 2)] [some (.box [.int .i64 0, .int .i64 0, .int .i64 0, .int .i64 0, .row 1]), some (.arr 3 (.int .i64) ([] : List (Int)))])
       (.leaf Ex.normal [.one (.int .i64 m), .one (.ptr 0 0), .one (.ptr 1 0), .one (.ptr 2 0), .one (.ptr 3 0), .one (.ptr 4 0), .one (.int .i64 (IntKind.wrap .i64 (i + 1)))] [some (.box [.lst (.pair (.pair (.int .i64) (Sh.pair (Sh.int .i64) (Sh.pair (Sh.int .i64) (Sh.int .i64)))) (Sh.sl (Sh.int .i64))) v]), some (.box [.int .i64 a, .int .i64 b, .int .i64 c, .int .i64 d]), some (.box [.int .i64 n]), some (.box [.int .i64 kk]), some (.box [.int .i64 z0, .int .i64 z1, .int .i64 z2, .int .i64 z3, .row 5]), some (.arr 3 (.int .i64) y0)]))
      .no)
     .no)
    (.leaf (Ex.exit 2) [.one (.int .i64 m), .one (.ptr 0 0), .one (.ptr 1 0), .one (.ptr 2 0), .one (.ptr 3 0), .one (.ptr 4 0)] [some (.box [.lst (.pair (.pair (.int .i64) (Sh.pair (Sh.int .i64) (Sh.pair (Sh.int .i64) (Sh.int .i64)))) (Sh.sl (Sh.int .i64))) v]), some (.box [.int .i64 a, .int .i64 b, .int .i64 c, .int .i64 d]), some (.box [.int .i64 n]), some (.box [.int .i64 kk]), some (.box [.int .i64 z0, .int .i64 z1, .int .i64 z2, .int .i64 z3, .row 5]), some (.arr 3 (.int .i64) y0)]))
def T_pyr_Synth_1 : TT := fun vs bl => (D_pyr_Synth_1 vs bl fun a b c d n kk z0 z1 z2 z3 m i v y0 => some (U_pyr_Synth_1 a b c d n kk z0 z1 z2 z3 m i v y0)).getD .no
theorem tu_pyr_Synth_1 (a b c d n kk z0 z1 z2 z3 m i : Int) (v : List (Rc × List Int)) (y0 : List Int) : T_pyr_Synth_1 [.one (.int .i64 m), .one (.ptr 0 0), .one (.ptr 1 0), .one (.ptr 2 0), .one (.ptr 3 0), .one (.ptr 4 0), .one (.int .i64 i)] [some (.box [.lst (.pair (.pair (.int .i64) (.pair (.int .i64) (.pair (.int .i64) (.int .i64)))) (.sl (.int .i64))) v]), some (.box [.int .i64 a, .int .i64 b, .int .i64 c, .int .i64 d]), some (.box [.int .i64 n]), some (.box [.int .i64 kk]), some (.box [.int .i64 z0, .int .i64 z1, .int .i64 z2, .int .i64 z3, .row 5]), some (.arr 3 (.int .i64) y0)] = U_pyr_Synth_1 a b c d n kk z0 z1 z2 z3 m i v y0 := by kernel_rfl
theorem b_pyr_Synth_1 (a b c d n kk z0 z1 z2 z3 m i : Int) (v : List (Rc × List Int)) (y0 : List Int) (Kc : KT) : exec Try.prog t_pyr_Synth (annOf []) l_pyr_Synth 20 0 (loopOf Try.f30 1) (unp 116 [3, 5, 6, 7, 9, 10, 13] [.one (.int .i64 m), .one (.ptr 0 0), .one (.ptr 1 0), .one (.ptr 2 0), .one (.ptr 3 0), .one (.ptr 4 0), .one (.int .i64 i)] [some (.box [.lst (.pair (.pair (.int .i64) (.pair (.int .i64) (.pair (.int .i64) (.int .i64)))) (.sl (.int .i64))) v]), some (.box [.int .i64 a, .int .i64 b, .int .i64 c, .int .i64 d]), some (.box [.int .i64 n]), some (.box [.int .i64 kk]), some (.box [.int .i64 z0, .int .i64 z1, .int .i64 z2, .int .i64 z3, .row 5]), some (.arr 3 (.int .i64) y0)]) (endc 0 116 [3, 5, 6, 7, 9, 10, 13] (kxOf [3, 5, 6, 7, 9, 10] [10, 11]) Kc) =
  (U_pyr_Synth_1 a b c d n kk z0 z1 z2 z3 m i v y0).runc Kc := by kernel_rfl
def U_pyr_Synth_2 (a b c d n kk m o0 o1 o2 o3 z0 z1 z2 z3 q : Int) (v : List (Rc × List Int)) (y0 u : List Int) : LT :=
  (.br (decide (q ≤ m))
    (.br (inr 1 5 q && decide (3 * q < (↑(List.length v) : Int)) && smAll v && small (List.length u))
     (.br (syE a b c d n kk q (o0, o1, o2, o3) u v != 0)
      (.leaf Ex.ret [.one (.ptr 0 0), .one (.int .i64 (syE a b c d n kk q (o0, o1, o2, o3) u v))] [some (.box [.int .i64 0, .int .i64 0, .int .i64 0, .int .i64 0, .row 1]), some (.arr 3 (.int .i64) ([] : List (Int)))])
      (.leaf Ex.normal [.one (.int .i64 m), .one (.ptr 0 0), .one (.ptr 1 0), .one (.fn 61 [1, 2, 3, 4, 5]), .one (.int .i64 (IntKind.wrap .i64 (q + 1)))] [some (.box [.int .i64 z0, .int .i64 z1, .int .i64 z2, .int .i64 z3, .row 6]), some (.box [.int .i64 (syNR (syE a b c d n kk q (o0, o1, o2, o3) u v) a b c d n q).1, .int .i64 (syNR (syE a b c d n kk q (o0, o1, o2, o3) u v) a b c d n q).2.1, .int .i64 (syNR (syE a b c d n kk q (o0, o1, o2, o3) u v) a b c d n q).2.2.1, .int .i64 (syNR (syE a b c d n kk q (o0, o1, o2, o3) u v) a b c d n q).2.2.2, .row 7]), some (.box [.lst (.pair (.pair (.int .i64) (Sh.pair (Sh.int .i64) (Sh.pair (Sh.int .i64) (Sh.int .i64)))) (Sh.sl (Sh.int .i64))) v]), some (.box [.int .i64 a, .int .i64 b, .int .i64 c, .int .i64 d]), some (.box [.int .i64 n]), some (.box [.int .i64 kk]), some (.arr 3 (.int .i64) y0), some (.arr 3 (.int .i64) (syNL (syE a b c d n kk q (o0, o1, o2, o3) u v) a b c d n kk q u v))]))
     .no)
    (.leaf (Ex.exit 4) [.one (.ptr 0 0), .one (.ptr 1 0)] [some (.box [.int .i64 z0, .int .i64 z1, .int .i64 z2, .int .i64 z3, .row 2]), some (.box [.int .i64 o0, .int .i64 o1, .int .i64 o2, .int .i64 o3, .row 3]), some (.arr 3 (.int .i64) y0), some (.arr 3 (.int .i64) u)]))
def T_pyr_Synth_2 : TT := fun vs bl => (D_pyr_Synth_2 vs bl fun a b c d n kk m o0 o1 o2 o3 z0 z1 z2 z3 q v y0 u => some (U_pyr_Synth_2 a b c d n kk m o0 o1 o2 o3 z0 z1 z2 z3 q v y0 u)).getD .no
theorem tu_pyr_Synth_2 (a b c d n kk m o0 o1 o2 o3 z0 z1 z2 z3 q : Int) (v : List (Rc × List Int)) (y0 u : List Int) : T_pyr_Synth_2 [.one (.int .i64 m), .one (.ptr 0 0), .one (.ptr 1 0), .one (.fn 61 [1, 2, 3, 4, 5]), .one (.int .i64 q)] [some (.box [.int .i64 z0, .int .i64 z1, .int .i64 z2, .int .i64 z3, .row 6]), some (.box [.int .i64 o0, .int .i64 o1, .int .i64 o2, .int .i64 o3, .row 7]), some (.box [.lst (.pair (.pair (.int .i64) (.pair (.int .i64) (.pair (.int .i64) (.int .i64)))) (.sl (.int .i64))) v]), some (.box [.int .i64 a, .int .i64 b, .int .i64 c, .int .i64 d]), some (.box [.int .i64 n]), some (.box [.int .i64 kk]), some (.arr 3 (.int .i64) y0), some (.arr 3 (.int .i64) u)] = U_pyr_Synth_2 a b c d n kk m o0 o1 o2 o3 z0 z1 z2 z3 q v y0 u := by kernel_rfl
theorem b_pyr_Synth_2 (a b c d n kk m o0 o1 o2 o3 z0 z1 z2 z3 q : Int) (v : List (Rc × List Int)) (y0 u : List Int) (Kc : KT) : exec Try.prog t_pyr_Synth (annOf []) l_pyr_Synth 20 0 (loopOf Try.f30 2) (unp 116 [3, 10, 14, 15, 16] [.one (.int .i64 m), .one (.ptr 0 0), .one (.ptr 1 0), .one (.fn 61 [1, 2, 3, 4, 5]), .one (.int .i64 q)] [some (.box [.int .i64 z0, .int .i64 z1, .int .i64 z2, .int .i64 z3, .row 6]), some (.box [.int .i64 o0, .int .i64 o1, .int .i64 o2, .int .i64 o3, .row 7]), some (.box [.lst (.pair (.pair (.int .i64) (.pair (.int .i64) (.pair (.int .i64) (.int .i64)))) (.sl (.int .i64))) v]), some (.box [.int .i64 a, .int .i64 b, .int .i64 c, .int .i64 d]), some (.box [.int .i64 n]), some (.box [.int .i64 kk]), some (.arr 3 (.int .i64) y0), some (.arr 3 (.int .i64) u)]) (endc 0 116 [3, 10, 14, 15, 16] (kxOf [10, 14] [10, 11]) Kc) =
  (U_pyr_Synth_2 a b c d n kk m o0 o1 o2 o3 z0 z1 z2 z3 q v y0 u).runc Kc := by kernel_rfl
def t_law_few : FuncId → Option Summ := tabOf []
def l_law_few : Nat → Option LSumm := ltOf [(2, ⟨0, 24, [0, 3], (kxOf [0] [2]), S_law_few_0⟩)]
theorem e_law_few (l : List (Rc × List Int)) : funR Try.prog t_law_few (annOf []) l_law_few 20 Try.f29 [.one (.lst (.pair (.pair (.int .i64) (.pair (.int .i64) (.pair (.int .i64) (.int .i64)))) (.sl (.int .i64))) l)] [] =
  (ite2 (List.all (List.range (min (List.length l) 20)) fun i ↦ decide (List.length (gN l i).2 ≤ 4000))
  (some ⟨.one (.bool (decide ((↑(List.length l) : Int) ≤ 20))), [], []⟩)
  (some ⟨.one (.bool false), [], []⟩)) := by kernel_rfl
def U_law_few_0 (i : Int) (l : List (Rc × List Int)) : LT :=
  (.br (decide (i < (↑(List.length l) : Int)))
    (.br (decide (i < 20))
     (.br (decide (0 ≤ i ∧ i < (↑(List.length l) : Int)))
      (.br (decide ((↑(List.length (gN l (Int.toNat i)).2) : Int) > 4000))
       (.leaf Ex.ret [.one (.bool false)] [])
       (.leaf Ex.normal [.one (.lst (.pair (.pair (.int .i64) (Sh.pair (Sh.int .i64) (Sh.pair (Sh.int .i64) (Sh.int .i64)))) (Sh.sl (Sh.int .i64))) l), .one (.int .i64 (IntKind.wrap .i64 (i + 1)))] []))
      .no)
     (.leaf (Ex.exit 0) [.one (.lst (.pair (.pair (.int .i64) (Sh.pair (Sh.int .i64) (Sh.pair (Sh.int .i64) (Sh.int .i64)))) (Sh.sl (Sh.int .i64))) l)] []))
    (.leaf (Ex.exit 0) [.one (.lst (.pair (.pair (.int .i64) (Sh.pair (Sh.int .i64) (Sh.pair (Sh.int .i64) (Sh.int .i64)))) (Sh.sl (Sh.int .i64))) l)] []))
def T_law_few_0 : TT := fun vs bl => (D_law_few_0 vs bl fun i l => some (U_law_few_0 i l)).getD .no
theorem tu_law_few_0 (i : Int) (l : List (Rc × List Int)) : T_law_few_0 [.one (.lst (.pair (.pair (.int .i64) (.pair (.int .i64) (.pair (.int .i64) (.int .i64)))) (.sl (.int .i64))) l), .one (.int .i64 i)] [] = U_law_few_0 i l := by kernel_rfl
theorem b_law_few_0 (i : Int) (l : List (Rc × List Int)) (Kc : KT) : exec Try.prog t_law_few (annOf []) l_law_few 20 0 (loopOf Try.f29 0) (unp 24 [0, 3] [.one (.lst (.pair (.pair (.int .i64) (.pair (.int .i64) (.pair (.int .i64) (.int .i64)))) (.sl (.int .i64))) l), .one (.int .i64 i)] []) (endc 0 24 [0, 3] (kxOf [0] [2]) Kc) =
  (U_law_few_0 i l).runc Kc := by kernel_rfl

def t_rect_Has : FuncId → Option Summ := tabOf []
def l_rect_Has : Nat → Option LSumm := ltOf []
theorem e_rect_Has (a b c d x y : Int) : funR Try.prog t_rect_Has (annOf []) l_rect_Has 20 Try.f73 [.agg [.int .i64 a, .int .i64 b, .int .i64 c, .int .i64 d], .agg [.int .i64 x, .int .i64 y]] [] =
  (ite2 (decide (a ≤ x))
  (ite2 (decide (x < c))
   (ite2 (decide (b ≤ y))
    (some ⟨.one (.bool (decide (y < d))), [], []⟩)
    (some ⟨.one (.bool false), [], []⟩))
   (some ⟨.one (.bool false), [], []⟩))
  (some ⟨.one (.bool false), [], []⟩)) := by kernel_rfl
def t_pl_part : FuncId → Option Summ := tabOf [(86, G_pl_width)]
def l_pl_part : Nat → Option LSumm := ltOf [(2, ⟨1, 70, [3, 4, 5, 6], (kxOf [] []), S_pl_part_0⟩)]
theorem e_pl_part (a0 a1 a2 a3 e f g h x0 x1 x2 x3 : Int) (u l : List Int) : funR Try.prog t_pl_part (annOf []) l_pl_part 20 Try.f75 [.agg [.int .i64 a0, .int .i64 a1, .int .i64 a2, .int .i64 a3, .row 0], .agg [.int .i64 e, .int .i64 f, .int .i64 g, .int .i64 h, .lst (.int .i64) l], .agg [.int .i64 x0, .int .i64 x1, .int .i64 x2, .int .i64 x3]] [.arr 3 (.int .i64) u] =
  (ite2 (k_pl_part_0 a0 a1 a2 a3 e f g h x0 x1 x2 x3 x1 u l)
  (some ⟨.tup [], [some (.arr 3 (.int .i64) (cpL e f g l x0 x1 x2 x3))], []⟩)
  none) := by kernel_rfl
def U_pl_part_0 (a0 a1 a2 a3 e f g h x0 x1 x2 x3 y : Int) (u l : List Int) : LT :=
  let z1_ := IntKind.wrap .i64 (IntKind.wrap .i64 (IntKind.wrap .i64 (y - a1) * IntKind.wrap .i64 (a2 - a0)) + x0) - a0; let z2_ := IntKind.wrap .i64 (IntKind.wrap .i64 (IntKind.wrap .i64 (y - f) * IntKind.wrap .i64 (g - e)) + x0) - e; let z3_ := IntKind.wrap .i64 (IntKind.wrap .i64 z1_ + x2) - x0; let z4_ := IntKind.wrap .i64 (IntKind.wrap .i64 z2_ + x2) - x0; (.br (decide (y < x3))
    (.br (decide (0 ≤ IntKind.wrap .i64 z3_ ∧ IntKind.wrap .i64 z3_ ≤ (↑(List.length u) : Int)) && decide (0 ≤ IntKind.wrap .i64 z1_ ∧ IntKind.wrap .i64 z1_ ≤ (↑(Int.toNat (IntKind.wrap .i64 z3_)) : Int)))
     (.br (decide (0 ≤ IntKind.wrap .i64 z4_ ∧ IntKind.wrap .i64 z4_ ≤ (↑(List.length l) : Int)) && decide (0 ≤ IntKind.wrap .i64 z2_ ∧ IntKind.wrap .i64 z2_ ≤ (↑(Int.toNat (IntKind.wrap .i64 z4_)) : Int)))
      (.leaf Ex.normal [.one (.ptr 1 0), .one (.ptr 2 0), .one (.ptr 3 0), .one (.int .i64 (IntKind.wrap .i64 (y + 1)))] [some (.arr 3 (.int .i64) (List.take (Int.toNat (IntKind.wrap .i64 z1_)) u ++ List.take (Int.toNat (IntKind.wrap .i64 z3_) - Int.toNat (IntKind.wrap .i64 z1_)) (List.take (Int.toNat (IntKind.wrap .i64 z4_) - Int.toNat (IntKind.wrap .i64 z2_)) (List.drop (Int.toNat (IntKind.wrap .i64 z2_)) l)) ++ List.drop (Int.toNat (IntKind.wrap .i64 z1_) + min (List.length (List.take (Int.toNat (IntKind.wrap .i64 z4_) - Int.toNat (IntKind.wrap .i64 z2_)) (List.drop (Int.toNat (IntKind.wrap .i64 z2_)) l))) (Int.toNat (IntKind.wrap .i64 z3_) - Int.toNat (IntKind.wrap .i64 z1_))) u)), some (.box [.int .i64 a0, .int .i64 a1, .int .i64 a2, .int .i64 a3, .row 0]), some (.box [.int .i64 e, .int .i64 f, .int .i64 g, .int .i64 h, .lst (.int .i64) l]), some (.box [.int .i64 x0, .int .i64 x1, .int .i64 x2, .int .i64 x3])])
      .no)
     .no)
    (.leaf (Ex.exit 0) [] [some (.arr 3 (.int .i64) u)]))
def T_pl_part_0 : TT := fun vs bl => (D_pl_part_0 vs bl fun a0 a1 a2 a3 e f g h x0 x1 x2 x3 y u l => some (U_pl_part_0 a0 a1 a2 a3 e f g h x0 x1 x2 x3 y u l)).getD .no
theorem tu_pl_part_0 (a0 a1 a2 a3 e f g h x0 x1 x2 x3 y : Int) (u l : List Int) : T_pl_part_0 [.one (.ptr 1 0), .one (.ptr 2 0), .one (.ptr 3 0), .one (.int .i64 y)] [some (.arr 3 (.int .i64) u), some (.box [.int .i64 a0, .int .i64 a1, .int .i64 a2, .int .i64 a3, .row 0]), some (.box [.int .i64 e, .int .i64 f, .int .i64 g, .int .i64 h, .lst (.int .i64) l]), some (.box [.int .i64 x0, .int .i64 x1, .int .i64 x2, .int .i64 x3])] = U_pl_part_0 a0 a1 a2 a3 e f g h x0 x1 x2 x3 y u l := by kernel_rfl
theorem b_pl_part_0 (a0 a1 a2 a3 e f g h x0 x1 x2 x3 y : Int) (u l : List Int) (Kc : KT) : exec Try.prog t_pl_part (annOf []) l_pl_part 20 1 (loopOf Try.f75 0) (unp 70 [3, 4, 5, 6] [.one (.ptr 1 0), .one (.ptr 2 0), .one (.ptr 3 0), .one (.int .i64 y)] [some (.arr 3 (.int .i64) u), some (.box [.int .i64 a0, .int .i64 a1, .int .i64 a2, .int .i64 a3, .row 0]), some (.box [.int .i64 e, .int .i64 f, .int .i64 g, .int .i64 h, .lst (.int .i64) l]), some (.box [.int .i64 x0, .int .i64 x1, .int .i64 x2, .int .i64 x3])]) (endc 1 70 [3, 4, 5, 6] (kxOf [] []) Kc) =
  (U_pl_part_0 a0 a1 a2 a3 e f g h x0 x1 x2 x3 y u l).runc Kc := by kernel_rfl
def t_law_replaced : FuncId → Option Summ := tabOf [(73, G_rect_Has)]
def l_law_replaced : Nat → Option LSumm := ltOf [(4, ⟨0, 74, [2, 3, 4, 6, 7, 8, 26, 27], (kxOf [6, 7] [6]), S_law_replaced_0⟩)]
theorem e_law_replaced (a b c d e f g h s : Int) (l : List Int) : funR Try.prog t_law_replaced (annOf []) l_law_replaced 20 Try.f35 [.agg [.int .i64 a, .int .i64 b, .int .i64 c, .int .i64 d, .lst (.int .i64) l], .agg [.int .i64 e, .int .i64 f, .int .i64 g, .int .i64 h], .one (.int .i64 s)] [] =
  (ite2 (decide (0 ≤ (↑(List.length l) : Int) ∧ (↑(List.length l) : Int) ≤ (↑(List.length l) : Int) ∧ (↑(List.length l) : Int) * 9 ≤ 140737488355328))
  (ite2 (k_law_replaced_0 a b c d e f g h s (IntKind.wrap .i64 (c - a)) (↑(List.length l) : Int) 0 0 0 0 0 a b c d l [] (List.replicate (Int.toNat (↑(List.length l) : Int)) (0 : Int)))
   (some ⟨.agg [.int .i64 a, .int .i64 b, .int .i64 c, .int .i64 d, .row 0], [], [.arr 3 (.int .i64) (rpL a b c l e f g h s)]⟩)
   none)
  none) := by kernel_rfl
def U_law_replaced_0 (a b c d e f g h s t n i z0 z1 z2 z3 o0 o1 o2 o3 : Int) (l y0 v : List Int) : LT :=
  (.br (decide (i < n))
    (.br (decide (0 ≤ i ∧ i < (↑(List.length l) : Int)))
     (.br (decide (0 ≤ i ∧ i < (↑(List.length v) : Int)))
      (.br (decide (Int.toNat i < List.length v))
       (.br (decide (t > 0))
        (.br (!decide (t = 0))
         (.br (!decide (t = 0))
          (.br (!has e f g h (IntKind.wrap .i64 (a + Int.tmod i t)) (IntKind.wrap .i64 (b + IntKind.wrap .i64 (Int.tdiv i t))))
           (.br (decide (0 ≤ i ∧ i < (↑(List.length (List.set v (Int.toNat i) (gI l (Int.toNat i)))) : Int)))
            (.br (decide (Int.toNat i < List.length (List.set v (Int.toNat i) (gI l (Int.toNat i)))))
             (.leaf Ex.normal [.one (.int .i64 s), .one (.ptr 0 0), .one (.ptr 1 0), .one (.ptr 2 0), .one (.ptr 3 0), .one (.int .i64 t), .one (.int .i64 n), .one (.int .i64 (IntKind.wrap .i64 (i + 1)))] [some (.box [.int .i64 a, .int .i64 b, .int .i64 c, .int .i64 d, .lst (.int .i64) l]), some (.box [.int .i64 e, .int .i64 f, .int .i64 g, .int .i64 h]), some (.box [.int .i64 z0, .int .i64 z1, .int .i64 z2, .int .i64 z3, .row 4]), some (.box [.int .i64 o0, .int .i64 o1, .int .i64 o2, .int .i64 o3, .row 5]), some (.arr 3 (.int .i64) y0), some (.arr 3 (.int .i64) (List.set (List.set v (Int.toNat i) (gI l (Int.toNat i))) (Int.toNat i) (IntKind.wrap .i64 (Int.tmod (IntKind.wrap .i64 (IntKind.wrap .i64 (i * i) + s)) 1000 - 500))))])
             .no)
            .no)
           (.leaf Ex.normal [.one (.int .i64 s), .one (.ptr 0 0), .one (.ptr 1 0), .one (.ptr 2 0), .one (.ptr 3 0), .one (.int .i64 t), .one (.int .i64 n), .one (.int .i64 (IntKind.wrap .i64 (i + 1)))] [some (.box [.int .i64 a, .int .i64 b, .int .i64 c, .int .i64 d, .lst (.int .i64) l]), some (.box [.int .i64 e, .int .i64 f, .int .i64 g, .int .i64 h]), some (.box [.int .i64 z0, .int .i64 z1, .int .i64 z2, .int .i64 z3, .row 4]), some (.box [.int .i64 o0, .int .i64 o1, .int .i64 o2, .int .i64 o3, .row 5]), some (.arr 3 (.int .i64) y0), some (.arr 3 (.int .i64) (List.set v (Int.toNat i) (gI l (Int.toNat i))))]))
          .no)
         .no)
        (.leaf Ex.normal [.one (.int .i64 s), .one (.ptr 0 0), .one (.ptr 1 0), .one (.ptr 2 0), .one (.ptr 3 0), .one (.int .i64 t), .one (.int .i64 n), .one (.int .i64 (IntKind.wrap .i64 (i + 1)))] [some (.box [.int .i64 a, .int .i64 b, .int .i64 c, .int .i64 d, .lst (.int .i64) l]), some (.box [.int .i64 e, .int .i64 f, .int .i64 g, .int .i64 h]), some (.box [.int .i64 z0, .int .i64 z1, .int .i64 z2, .int .i64 z3, .row 4]), some (.box [.int .i64 o0, .int .i64 o1, .int .i64 o2, .int .i64 o3, .row 5]), some (.arr 3 (.int .i64) y0), some (.arr 3 (.int .i64) (List.set v (Int.toNat i) (gI l (Int.toNat i))))]))
       .no)
      .no)
     .no)
    (.leaf (Ex.exit 0) [.one (.ptr 0 0), .one (.ptr 1 0)] [some (.box [.int .i64 z0, .int .i64 z1, .int .i64 z2, .int .i64 z3, .row 2]), some (.box [.int .i64 o0, .int .i64 o1, .int .i64 o2, .int .i64 o3, .row 3]), some (.arr 3 (.int .i64) y0), some (.arr 3 (.int .i64) v)]))
def T_law_replaced_0 : TT := fun vs bl => (D_law_replaced_0 vs bl fun a b c d e f g h s t n i z0 z1 z2 z3 o0 o1 o2 o3 l y0 v => some (U_law_replaced_0 a b c d e f g h s t n i z0 z1 z2 z3 o0 o1 o2 o3 l y0 v)).getD .no
theorem tu_law_replaced_0 (a b c d e f g h s t n i z0 z1 z2 z3 o0 o1 o2 o3 : Int) (l y0 v : List Int) : T_law_replaced_0 [.one (.int .i64 s), .one (.ptr 0 0), .one (.ptr 1 0), .one (.ptr 2 0), .one (.ptr 3 0), .one (.int .i64 t), .one (.int .i64 n), .one (.int .i64 i)] [some (.box [.int .i64 a, .int .i64 b, .int .i64 c, .int .i64 d, .lst (.int .i64) l]), some (.box [.int .i64 e, .int .i64 f, .int .i64 g, .int .i64 h]), some (.box [.int .i64 z0, .int .i64 z1, .int .i64 z2, .int .i64 z3, .row 4]), some (.box [.int .i64 o0, .int .i64 o1, .int .i64 o2, .int .i64 o3, .row 5]), some (.arr 3 (.int .i64) y0), some (.arr 3 (.int .i64) v)] = U_law_replaced_0 a b c d e f g h s t n i z0 z1 z2 z3 o0 o1 o2 o3 l y0 v := by kernel_rfl
theorem b_law_replaced_0 (a b c d e f g h s t n i z0 z1 z2 z3 o0 o1 o2 o3 : Int) (l y0 v : List Int) (Kc : KT) : exec Try.prog t_law_replaced (annOf []) l_law_replaced 20 0 (loopOf Try.f35 0) (unp 74 [2, 3, 4, 6, 7, 8, 26, 27] [.one (.int .i64 s), .one (.ptr 0 0), .one (.ptr 1 0), .one (.ptr 2 0), .one (.ptr 3 0), .one (.int .i64 t), .one (.int .i64 n), .one (.int .i64 i)] [some (.box [.int .i64 a, .int .i64 b, .int .i64 c, .int .i64 d, .lst (.int .i64) l]), some (.box [.int .i64 e, .int .i64 f, .int .i64 g, .int .i64 h]), some (.box [.int .i64 z0, .int .i64 z1, .int .i64 z2, .int .i64 z3, .row 4]), some (.box [.int .i64 o0, .int .i64 o1, .int .i64 o2, .int .i64 o3, .row 5]), some (.arr 3 (.int .i64) y0), some (.arr 3 (.int .i64) v)]) (endc 0 74 [2, 3, 4, 6, 7, 8, 26, 27] (kxOf [6, 7] [6]) Kc) =
  (U_law_replaced_0 a b c d e f g h s t n i z0 z1 z2 z3 o0 o1 o2 o3 l y0 v).runc Kc := by kernel_rfl
def t_pl_Crop : FuncId → Option Summ := tabOf [(39, G_pl_Valid), (46, G_rect_Valid), (47, G_rect_Empty), (60, G_rect_Area), (74, G_rect_Contains), (75, G_pl_part)]
def l_pl_Crop : Nat → Option LSumm := ltOf []
theorem e_pl_Crop (e f g h x0 x1 x2 x3 : Int) (l : List Int) : funR Try.prog t_pl_Crop (annOf []) l_pl_Crop 20 Try.f37 [.agg [.int .i64 e, .int .i64 f, .int .i64 g, .int .i64 h, .lst (.int .i64) l], .agg [.int .i64 x0, .int .i64 x1, .int .i64 x2, .int .i64 x3]] [] =
  (ite2 (!plV e f g h l)
  (some ⟨.tup [(true, [.int .i64 0, .int .i64 0, .int .i64 0, .int .i64 0, .row 0]), (false, [.int .i64 1])], [], [.arr 3 (.int .i64) ([] : List (Int))]⟩)
  (ite2 (!valid x0 x1 x2 x3)
   (some ⟨.tup [(true, [.int .i64 0, .int .i64 0, .int .i64 0, .int .i64 0, .row 0]), (false, [.int .i64 2])], [], [.arr 3 (.int .i64) ([] : List (Int))]⟩)
   (ite2 (!contains e f g h x0 x1 x2 x3)
    (some ⟨.tup [(true, [.int .i64 0, .int .i64 0, .int .i64 0, .int .i64 0, .row 0]), (false, [.int .i64 2])], [], [.arr 3 (.int .i64) ([] : List (Int))]⟩)
    (ite2 (decide (0 ≤ area x0 x1 x2 x3 ∧ area x0 x1 x2 x3 ≤ area x0 x1 x2 x3 ∧ area x0 x1 x2 x3 * 9 ≤ 140737488355328))
     (ite2 (!empty x0 x1 x2 x3)
      (ite2 (decide ((x0, x1, x2, x3) = (x0, x1, x2, x3)) && plV e f g h l && valid x0 x1 x2 x3 && decide (e ≤ x0) && decide (x2 ≤ g) && decide (f ≤ x1) && decide (x3 ≤ h) && decide (List.length (List.replicate (Int.toNat (area x0 x1 x2 x3)) (0 : Int)) = Int.toNat (x3 - x1) * Int.toNat (x2 - x0)))
       (some ⟨.tup [(true, [.int .i64 x0, .int .i64 x1, .int .i64 x2, .int .i64 x3, .row 0]), (false, [.int .i64 0])], [], [.arr 3 (.int .i64) (cpL e f g l x0 x1 x2 x3)]⟩)
       none)
      (some ⟨.tup [(true, [.int .i64 x0, .int .i64 x1, .int .i64 x2, .int .i64 x3, .row 0]), (false, [.int .i64 0])], [], [.arr 3 (.int .i64) (List.replicate (Int.toNat (area x0 x1 x2 x3)) (0 : Int))]⟩))
     none)))) := by kernel_rfl
def t_PyramidWindows : FuncId → Option Summ := tabOf [(17, G_awake), (21, G_pyr_Need), (29, G_law_few), (30, G_pyr_Synth), (32, G_law_same), (35, G_law_replaced), (36, G_rect_Intersect), (37, G_pl_Crop)]
def l_PyramidWindows : Nat → Option LSumm := ltOf [(11, ⟨0, 127, [3, 4, 5, 7, 9, 10, 63, 64], (kxOf [3, 4, 5, 7, 10] [6]), S_PyramidWindows_0⟩)]
theorem e_PyramidWindows (v : List (Rc × List Int)) (a b c d e f g h n r k : Int) : funR Try.prog t_PyramidWindows (annOf []) l_PyramidWindows 20 Try.f10 [.agg [.lst (.pair (.pair (.int .i64) (.pair (.int .i64) (.pair (.int .i64) (.int .i64)))) (.sl (.int .i64))) v, .int .i64 a, .int .i64 b, .int .i64 c, .int .i64 d], .agg [.int .i64 e, .int .i64 f, .int .i64 g, .int .i64 h], .agg [.int .i64 n, .int .i64 r, .int .i64 k]] [] =
  (let z1_ := inter e f g h (syR a b c d n r k v).1 (syR a b c d n r k v).2.1 (syR a b c d n r k v).2.2.1 (syR a b c d n r k v).2.2.2; (ite2 (!fewB v)
  (some ⟨.one (.bool true), [], []⟩)
  (ite2 (smAll v)
   (ite2 (syErr a b c d n r k v != 0)
    (some ⟨.one (.bool true), [], []⟩)
    (ite2 ((↑(List.length (ndF a b c d n r e f g h k)) : Int) != (↑(List.length v) : Int))
     (some ⟨.one (.bool false), [], []⟩)
     (ite2 (decide (0 ≤ (↑(List.length v) : Int) ∧ (↑(List.length v) : Int) ≤ (↑(List.length v) : Int) ∧ (↑(List.length v) : Int) * 57 ≤ 140737488355328))
      (ite2 (k_PyramidWindows_0 v (List.replicate (Int.toNat (↑(List.length v) : Int)) (((0, 0, 0, 0), []) : (Int × Int × Int × Int) × List Int)) a b c d e f g h n r k (syR a b c d n r k v).1 (syR a b c d n r k v).2.1 (syR a b c d n r k v).2.2.1 (syR a b c d n r k v).2.2.2 (↑(List.length v) : Int) 0 (ndF a b c d n r e f g h k) (syL a b c d n r k v))
       (ite2 (smAll (otL v (ndF a b c d n r e f g h k)))
        (ite2 (syErr a b c d n r k (otL v (ndF a b c d n r e f g h k)) != 0)
         (some ⟨.one (.bool false), [], []⟩)
         (ite2 (plV (syR a b c d n r k v).1 (syR a b c d n r k v).2.1 (syR a b c d n r k v).2.2.1 (syR a b c d n r k v).2.2.2 (syL a b c d n r k v) && valid z1_.1 z1_.2.1 z1_.2.2.1 z1_.2.2.2 && contains (syR a b c d n r k v).1 (syR a b c d n r k v).2.1 (syR a b c d n r k v).2.2.1 (syR a b c d n r k v).2.2.2 z1_.1 z1_.2.1 z1_.2.2.1 z1_.2.2.2)
          (ite2 (plV (syR a b c d n r k (otL v (ndF a b c d n r e f g h k))).1 (syR a b c d n r k (otL v (ndF a b c d n r e f g h k))).2.1 (syR a b c d n r k (otL v (ndF a b c d n r e f g h k))).2.2.1 (syR a b c d n r k (otL v (ndF a b c d n r e f g h k))).2.2.2 (syL a b c d n r k (otL v (ndF a b c d n r e f g h k))) && valid z1_.1 z1_.2.1 z1_.2.2.1 z1_.2.2.2 && contains (syR a b c d n r k (otL v (ndF a b c d n r e f g h k))).1 (syR a b c d n r k (otL v (ndF a b c d n r e f g h k))).2.1 (syR a b c d n r k (otL v (ndF a b c d n r e f g h k))).2.2.1 (syR a b c d n r k (otL v (ndF a b c d n r e f g h k))).2.2.2 z1_.1 z1_.2.1 z1_.2.2.1 z1_.2.2.2)
           (ite2 (small (List.length (crL (syR a b c d n r k v).1 (syR a b c d n r k v).2.1 (syR a b c d n r k v).2.2.1 (syL a b c d n r k v) z1_.1 z1_.2.1 z1_.2.2.1 z1_.2.2.2)))
            (ite2 (samePl z1_.1 z1_.2.1 z1_.2.2.1 z1_.2.2.2 (crL (syR a b c d n r k v).1 (syR a b c d n r k v).2.1 (syR a b c d n r k v).2.2.1 (syL a b c d n r k v) z1_.1 z1_.2.1 z1_.2.2.1 z1_.2.2.2) z1_.1 z1_.2.1 z1_.2.2.1 z1_.2.2.2 (crL (syR a b c d n r k (otL v (ndF a b c d n r e f g h k))).1 (syR a b c d n r k (otL v (ndF a b c d n r e f g h k))).2.1 (syR a b c d n r k (otL v (ndF a b c d n r e f g h k))).2.2.1 (syL a b c d n r k (otL v (ndF a b c d n r e f g h k))) z1_.1 z1_.2.1 z1_.2.2.1 z1_.2.2.2))
             (some ⟨.one (.bool true), [], []⟩)
             (some ⟨.one (.bool false), [], []⟩))
            none)
           none)
          none))
        none)
       none)
      none)))
   none))) := by kernel_rfl
def U_PyramidWindows_0 (v w : List (Rc × List Int)) (a b c d e f g h n r k p0 p1 p2 p3 m i : Int) (u : List (Int × Int × Int × Int)) (y0 : List Int) : LT :=
  (.br (decide (i < m))
    (.br (decide (0 ≤ i ∧ i < (↑(List.length v) : Int)))
     (.br (decide (0 ≤ i ∧ i < (↑(List.length u) : Int)))
      (.br (decide (Int.toNat i < List.length u))
       (.br (decide (List.length (gN v (Int.toNat i)).2 ≤ 16777216) && inr 0 100 i)
        (.br (decide (0 ≤ i ∧ i < (↑(List.length w) : Int)))
         (.br (decide (Int.toNat i < List.length w))
          (.leaf Ex.normal [.one (.ptr 0 0), .one (.ptr 1 0), .one (.ptr 2 0), .one (.ptr 3 0), .one (.row 4), .one (.row 5), .one (.int .i64 m), .one (.int .i64 (IntKind.wrap .i64 (i + 1)))] [some (.box [.lst (.pair (.pair (.int .i64) (Sh.pair (Sh.int .i64) (Sh.pair (Sh.int .i64) (Sh.int .i64)))) (Sh.sl (Sh.int .i64))) v, .int .i64 a, .int .i64 b, .int .i64 c, .int .i64 d]), some (.box [.int .i64 e, .int .i64 f, .int .i64 g, .int .i64 h]), some (.box [.int .i64 n, .int .i64 r, .int .i64 k]), some (.box [.int .i64 p0, .int .i64 p1, .int .i64 p2, .int .i64 p3, .row 6]), some (.arr 31 (.pair (.int .i64) (Sh.pair (Sh.int .i64) (Sh.pair (Sh.int .i64) (Sh.int .i64)))) u), some (.arr 33 (.pair (.pair (.int .i64) (Sh.pair (Sh.int .i64) (Sh.pair (Sh.int .i64) (Sh.int .i64)))) (Sh.sl (Sh.int .i64))) (List.set w (Int.toNat i) (((gN v (Int.toNat i)).1.1, (gN v (Int.toNat i)).1.2.1, (gN v (Int.toNat i)).1.2.2.1, (gN v (Int.toNat i)).1.2.2.2), rpL (gN v (Int.toNat i)).1.1 (gN v (Int.toNat i)).1.2.1 (gN v (Int.toNat i)).1.2.2.1 (gN v (Int.toNat i)).2 (gR u (Int.toNat i)).1 (gR u (Int.toNat i)).2.1 (gR u (Int.toNat i)).2.2.1 (gR u (Int.toNat i)).2.2.2 i))), some (.arr 3 (.int .i64) y0)])
          .no)
         .no)
        .no)
       .no)
      .no)
     .no)
    (.leaf (Ex.exit 0) [.one (.ptr 0 0), .one (.ptr 1 0), .one (.ptr 2 0), .one (.ptr 3 0), .one (.row 4)] [some (.box [.lst (.pair (.pair (.int .i64) (Sh.pair (Sh.int .i64) (Sh.pair (Sh.int .i64) (Sh.int .i64)))) (Sh.sl (Sh.int .i64))) v, .int .i64 a, .int .i64 b, .int .i64 c, .int .i64 d]), some (.box [.int .i64 e, .int .i64 f, .int .i64 g, .int .i64 h]), some (.box [.int .i64 n, .int .i64 r, .int .i64 k]), some (.box [.int .i64 p0, .int .i64 p1, .int .i64 p2, .int .i64 p3, .row 5]), some (.arr 33 (.pair (.pair (.int .i64) (Sh.pair (Sh.int .i64) (Sh.pair (Sh.int .i64) (Sh.int .i64)))) (Sh.sl (Sh.int .i64))) w), some (.arr 3 (.int .i64) y0)]))
def T_PyramidWindows_0 : TT := fun vs bl => (D_PyramidWindows_0 vs bl fun v w a b c d e f g h n r k p0 p1 p2 p3 m i u y0 => some (U_PyramidWindows_0 v w a b c d e f g h n r k p0 p1 p2 p3 m i u y0)).getD .no
theorem tu_PyramidWindows_0 (v w : List (Rc × List Int)) (a b c d e f g h n r k p0 p1 p2 p3 m i : Int) (u : List (Int × Int × Int × Int)) (y0 : List Int) : T_PyramidWindows_0 [.one (.ptr 0 0), .one (.ptr 1 0), .one (.ptr 2 0), .one (.ptr 3 0), .one (.row 4), .one (.row 5), .one (.int .i64 m), .one (.int .i64 i)] [some (.box [.lst (.pair (.pair (.int .i64) (.pair (.int .i64) (.pair (.int .i64) (.int .i64)))) (.sl (.int .i64))) v, .int .i64 a, .int .i64 b, .int .i64 c, .int .i64 d]), some (.box [.int .i64 e, .int .i64 f, .int .i64 g, .int .i64 h]), some (.box [.int .i64 n, .int .i64 r, .int .i64 k]), some (.box [.int .i64 p0, .int .i64 p1, .int .i64 p2, .int .i64 p3, .row 6]), some (.arr 31 (.pair (.int .i64) (.pair (.int .i64) (.pair (.int .i64) (.int .i64)))) u), some (.arr 33 (.pair (.pair (.int .i64) (.pair (.int .i64) (.pair (.int .i64) (.int .i64)))) (.sl (.int .i64))) w), some (.arr 3 (.int .i64) y0)] = U_PyramidWindows_0 v w a b c d e f g h n r k p0 p1 p2 p3 m i u y0 := by kernel_rfl
theorem b_PyramidWindows_0 (v w : List (Rc × List Int)) (a b c d e f g h n r k p0 p1 p2 p3 m i : Int) (u : List (Int × Int × Int × Int)) (y0 : List Int) (Kc : KT) : exec Try.prog t_PyramidWindows (annOf []) l_PyramidWindows 20 0 (loopOf Try.f10 0) (unp 127 [3, 4, 5, 7, 9, 10, 63, 64] [.one (.ptr 0 0), .one (.ptr 1 0), .one (.ptr 2 0), .one (.ptr 3 0), .one (.row 4), .one (.row 5), .one (.int .i64 m), .one (.int .i64 i)] [some (.box [.lst (.pair (.pair (.int .i64) (.pair (.int .i64) (.pair (.int .i64) (.int .i64)))) (.sl (.int .i64))) v, .int .i64 a, .int .i64 b, .int .i64 c, .int .i64 d]), some (.box [.int .i64 e, .int .i64 f, .int .i64 g, .int .i64 h]), some (.box [.int .i64 n, .int .i64 r, .int .i64 k]), some (.box [.int .i64 p0, .int .i64 p1, .int .i64 p2, .int .i64 p3, .row 6]), some (.arr 31 (.pair (.int .i64) (.pair (.int .i64) (.pair (.int .i64) (.int .i64)))) u), some (.arr 33 (.pair (.pair (.int .i64) (.pair (.int .i64) (.pair (.int .i64) (.int .i64)))) (.sl (.int .i64))) w), some (.arr 3 (.int .i64) y0)]) (endc 0 127 [3, 4, 5, 7, 9, 10, 63, 64] (kxOf [3, 4, 5, 7, 10] [6]) Kc) =
  (U_PyramidWindows_0 v w a b c d e f g h n r k p0 p1 p2 p3 m i u y0).runc Kc := by kernel_rfl
end
end Go.Rx.Ch06
