/- Each function, run by the executor: an equation. -/
import Derived.Test.YtcdmkbpmgeeghaaRG
import Derived.Test.YtcdmkbpmgeeghaaProg
import Derived.KernelRfl
set_option linter.unnecessarySimpa false
set_option linter.unusedVariables false
set_option maxRecDepth 100000
set_option maxHeartbeats 40000000
open Go Go.Rx Go.Proofs
namespace Go.Rx.Ch06
noncomputable section
def t_dwt_Merge : FuncId → Option Summ := tabOf [(39, G_pl_Valid), (46, G_rect_Valid), (48, G_dwt_Bands), (60, G_rect_Area), (65, G_dwt_known), (66, G_dwt_exceeds), (67, G_pl_Row), (69, G_dwt_empty), (71, G_pl_Column), (72, G_dwt_setColumn), (83, G_lift_Inverse)]
def l_dwt_Merge : Nat → Option LSumm := ltOf [(20, ⟨0, 180, [2, 3, 4, 6, 8, 13, 73], (kxOf [2, 4, 6, 13] [6, 7]), S_dwt_Merge_2⟩), (24, ⟨0, 180, [2, 3, 4, 6, 8, 13, 14, 15, 16, 73], (kxOf [2, 3, 4, 6, 8, 13, 14, 15, 73] [6, 7]), S_dwt_Merge_3⟩), (36, ⟨0, 180, [2, 4, 6, 13, 23, 24], (kxOf [6, 23] [6, 7]), S_dwt_Merge_4⟩)]
theorem e_dwt_Merge (a0 b0 c0 d0 a1 b1 c1 d1 a2 b2 c2 d2 a3 b3 c3 d3 a b c d k : Int) (l0 l1 l2 l3 : List Int) : funR Try.prog t_dwt_Merge (annOf []) l_dwt_Merge 20 Try.f62 [.agg [.int .i64 a0, .int .i64 b0, .int .i64 c0, .int .i64 d0, .lst (.int .i64) l0, .int .i64 a1, .int .i64 b1, .int .i64 c1, .int .i64 d1, .lst (.int .i64) l1, .int .i64 a2, .int .i64 b2, .int .i64 c2, .int .i64 d2, .lst (.int .i64) l2, .int .i64 a3, .int .i64 b3, .int .i64 c3, .int .i64 d3, .lst (.int .i64) l3], .agg [.int .i64 a, .int .i64 b, .int .i64 c, .int .i64 d], .one (.int .i64 k)] [] =
  (ite2 (!valid a b c d)
  (some ⟨.tup [(true, [.int .i64 0, .int .i64 0, .int .i64 0, .int .i64 0, .row 0]), (false, [.int .i64 2])], [], [.arr 3 (.int .i64) ([] : List (Int))]⟩)
  (ite2 (decide (area a b c d > 1048576))
   (some ⟨.tup [(true, [.int .i64 0, .int .i64 0, .int .i64 0, .int .i64 0, .row 0]), (false, [.int .i64 2])], [], [.arr 3 (.int .i64) ([] : List (Int))]⟩)
   (ite2 (!inr 1 3 k)
    (some ⟨.tup [(true, [.int .i64 0, .int .i64 0, .int .i64 0, .int .i64 0, .row 0]), (false, [.int .i64 3])], [], [.arr 3 (.int .i64) ([] : List (Int))]⟩)
    (ite2 (!plV a0 b0 c0 d0 l0)
     (some ⟨.tup [(true, [.int .i64 0, .int .i64 0, .int .i64 0, .int .i64 0, .row 0]), (false, [.int .i64 1])], [], [.arr 3 (.int .i64) ([] : List (Int))]⟩)
     (ite2 (!(a0 == (bnd a b c d 0).1 && (b0 == (bnd a b c d 0).2.1 && (c0 == (bnd a b c d 0).2.2.1 && (d0 == (bnd a b c d 0).2.2.2 && true)))))
      (some ⟨.tup [(true, [.int .i64 0, .int .i64 0, .int .i64 0, .int .i64 0, .row 0]), (false, [.int .i64 1])], [], [.arr 3 (.int .i64) ([] : List (Int))]⟩)
      (ite2 (!plV a1 b1 c1 d1 l1)
       (some ⟨.tup [(true, [.int .i64 0, .int .i64 0, .int .i64 0, .int .i64 0, .row 0]), (false, [.int .i64 1])], [], [.arr 3 (.int .i64) ([] : List (Int))]⟩)
       (ite2 (!(a1 == (bnd a b c d 1).1 && (b1 == (bnd a b c d 1).2.1 && (c1 == (bnd a b c d 1).2.2.1 && (d1 == (bnd a b c d 1).2.2.2 && true)))))
        (some ⟨.tup [(true, [.int .i64 0, .int .i64 0, .int .i64 0, .int .i64 0, .row 0]), (false, [.int .i64 1])], [], [.arr 3 (.int .i64) ([] : List (Int))]⟩)
        (ite2 (!plV a2 b2 c2 d2 l2)
         (some ⟨.tup [(true, [.int .i64 0, .int .i64 0, .int .i64 0, .int .i64 0, .row 0]), (false, [.int .i64 1])], [], [.arr 3 (.int .i64) ([] : List (Int))]⟩)
         (ite2 (!(a2 == (bnd a b c d 2).1 && (b2 == (bnd a b c d 2).2.1 && (c2 == (bnd a b c d 2).2.2.1 && (d2 == (bnd a b c d 2).2.2.2 && true)))))
          (some ⟨.tup [(true, [.int .i64 0, .int .i64 0, .int .i64 0, .int .i64 0, .row 0]), (false, [.int .i64 1])], [], [.arr 3 (.int .i64) ([] : List (Int))]⟩)
          (ite2 (!plV a3 b3 c3 d3 l3)
           (some ⟨.tup [(true, [.int .i64 0, .int .i64 0, .int .i64 0, .int .i64 0, .row 0]), (false, [.int .i64 1])], [], [.arr 3 (.int .i64) ([] : List (Int))]⟩)
           (ite2 (!(a3 == (bnd a b c d 3).1 && (b3 == (bnd a b c d 3).2.1 && (c3 == (bnd a b c d 3).2.2.1 && (d3 == (bnd a b c d 3).2.2.2 && true)))))
            (some ⟨.tup [(true, [.int .i64 0, .int .i64 0, .int .i64 0, .int .i64 0, .row 0]), (false, [.int .i64 1])], [], [.arr 3 (.int .i64) ([] : List (Int))]⟩)
            (ite2 (small (List.length l0) && true)
             (ite2 (!fitB 281474976710656 l0)
              (some ⟨.tup [(true, [.int .i64 0, .int .i64 0, .int .i64 0, .int .i64 0, .row 0]), (false, [.int .i64 2])], [], [.arr 3 (.int .i64) ([] : List (Int))]⟩)
              (ite2 (small (List.length l1) && true)
               (ite2 (!fitB 281474976710656 l1)
                (some ⟨.tup [(true, [.int .i64 0, .int .i64 0, .int .i64 0, .int .i64 0, .row 0]), (false, [.int .i64 2])], [], [.arr 3 (.int .i64) ([] : List (Int))]⟩)
                (ite2 (small (List.length l2) && true)
                 (ite2 (!fitB 281474976710656 l2)
                  (some ⟨.tup [(true, [.int .i64 0, .int .i64 0, .int .i64 0, .int .i64 0, .row 0]), (false, [.int .i64 2])], [], [.arr 3 (.int .i64) ([] : List (Int))]⟩)
                  (ite2 (small (List.length l3) && true)
                   (ite2 (!fitB 281474976710656 l3)
                    (some ⟨.tup [(true, [.int .i64 0, .int .i64 0, .int .i64 0, .int .i64 0, .row 0]), (false, [.int .i64 2])], [], [.arr 3 (.int .i64) ([] : List (Int))]⟩)
                    (ite2 (k_dwt_Merge_2 k a0 b0 c0 d0 a1 b1 c1 d1 a2 b2 c2 d2 a3 b3 c3 d3 a b c d 0 0 0 0 (bnd a b c d 0).1 (bnd a b c d 0).2.1 (bnd a b c d 0).2.2.1 (bnd a b c d 0).2.2.2 (bnd a b c d 1).1 (bnd a b c d 1).2.1 (bnd a b c d 1).2.2.1 (bnd a b c d 1).2.2.2 (bnd a b c d 2).1 (bnd a b c d 2).2.1 (bnd a b c d 2).2.2.1 (bnd a b c d 2).2.2.2 (bnd a b c d 3).1 (bnd a b c d 3).2.1 (bnd a b c d 3).2.2.1 (bnd a b c d 3).2.2.2 0 0 0 0 0 0 0 0 0 l0 l1 l2 l3 [] [] [])
                     (ite2 (k_dwt_Merge_4 k a b c d 0 0 0 0 (bnd a b c d 0).1 b (bnd a b c d 0).2.2.1 d (bnd a b c d 1).1 b (bnd a b c d 1).2.2.1 d a b c d b [] (mgH b k a0 b0 c0 d0 b2 d2 l0 l2 (zer (area (bnd a b c d 0).1 b (bnd a b c d 0).2.2.1 d))) (mgH b k a1 b1 c1 d1 b3 d3 l1 l3 (zer (area (bnd a b c d 1).1 b (bnd a b c d 1).2.2.1 d))) [])
                      (some ⟨.tup [(true, [.int .i64 a, .int .i64 b, .int .i64 c, .int .i64 d, .row 0]), (false, [.int .i64 0])], [], [.arr 3 (.int .i64) (catR (mgRow (mgH b k a0 b0 c0 d0 b2 d2 l0 l2 (zer (area (bnd a b c d 0).1 b (bnd a b c d 0).2.2.1 d))) (mgH b k a1 b1 c1 d1 b3 d3 l1 l3 (zer (area (bnd a b c d 1).1 b (bnd a b c d 1).2.2.1 d))) (Int.toNat ((bnd a b c d 0).2.2.1 - (bnd a b c d 0).1)) (Int.toNat ((bnd a b c d 1).2.2.1 - (bnd a b c d 1).1)) a k) (Int.toNat (d - b)))]⟩)
                      none)
                     none))
                   none))
                 none))
               none))
             none)))))))))))) := by kernel_rfl
def U_dwt_Merge_2_0 (kk a0 b0 c0 d0 a1 b1 c1 d1 a2 b2 c2 d2 a3 b3 c3 d3 a b c d za zb zc zd va0 vb0 vc0 vd0 va1 vb1 vc1 vd1 va2 vb2 vc2 vd2 va3 vb3 vc3 vd3 p0 e0 q0 f0 p1 e1 q1 f1 : Int) (l0 l1 l2 l3 y0 h0 h1 : List Int) : LT :=
  (.br (valid va0 b vc0 d)
    (.br (k_dwt_Merge_3 kk a0 b0 c0 d0 a1 b1 c1 d1 a2 b2 c2 d2 a3 b3 c3 d3 a b c d za zb zc zd va0 vb0 vc0 vd0 va1 vb1 vc1 vd1 va2 vb2 vc2 vd2 va3 vb3 vc3 vd3 p0 e0 q0 f0 p1 e1 q1 f1 va0 b vc0 d 0 va0 0 l0 l1 l2 l3 y0 h0 h1 (zer (area va0 b vc0 d)))
     (.leaf Ex.normal [.one (.int .i64 kk), .one (.ptr 0 0), .one (.ptr 1 0), .one (.ptr 2 0), .one (.ptr 3 0), .one (.ptr 4 0), .one (.int .i64 1)] [some (.box [.int .i64 a0, .int .i64 b0, .int .i64 c0, .int .i64 d0, .lst (.int .i64) l0, .int .i64 a1, .int .i64 b1, .int .i64 c1, .int .i64 d1, .lst (.int .i64) l1, .int .i64 a2, .int .i64 b2, .int .i64 c2, .int .i64 d2, .lst (.int .i64) l2, .int .i64 a3, .int .i64 b3, .int .i64 c3, .int .i64 d3, .lst (.int .i64) l3]), some (.box [.int .i64 a, .int .i64 b, .int .i64 c, .int .i64 d]), some (.box [.int .i64 za, .int .i64 zb, .int .i64 zc, .int .i64 zd, .row 5]), some (.box [.int .i64 va0, .int .i64 vb0, .int .i64 vc0, .int .i64 vd0, .int .i64 va1, .int .i64 vb1, .int .i64 vc1, .int .i64 vd1, .int .i64 va2, .int .i64 vb2, .int .i64 vc2, .int .i64 vd2, .int .i64 va3, .int .i64 vb3, .int .i64 vc3, .int .i64 vd3]), some (.box [.int .i64 va0, .int .i64 b, .int .i64 vc0, .int .i64 d, .row 6, .int .i64 p1, .int .i64 e1, .int .i64 q1, .int .i64 f1, .row 7]), some (.arr 3 (.int .i64) y0), some (.arr 3 (.int .i64) (mgS 0 (mgH b kk a0 b0 c0 d0 b2 d2 l0 l2 (zer (area va0 b vc0 d))) (mgH b kk a1 b1 c1 d1 b3 d3 l1 l3 (zer (area va0 b vc0 d))))), some (.arr 3 (.int .i64) h1)])
     .no)
    .no)
def U_dwt_Merge_2_1 (kk a0 b0 c0 d0 a1 b1 c1 d1 a2 b2 c2 d2 a3 b3 c3 d3 a b c d za zb zc zd va0 vb0 vc0 vd0 va1 vb1 vc1 vd1 va2 vb2 vc2 vd2 va3 vb3 vc3 vd3 p0 e0 q0 f0 p1 e1 q1 f1 : Int) (l0 l1 l2 l3 y0 h0 h1 : List Int) : LT :=
  (.br (valid va1 b vc1 d)
    (.br (k_dwt_Merge_3 kk a0 b0 c0 d0 a1 b1 c1 d1 a2 b2 c2 d2 a3 b3 c3 d3 a b c d za zb zc zd va0 vb0 vc0 vd0 va1 vb1 vc1 vd1 va2 vb2 vc2 vd2 va3 vb3 vc3 vd3 p0 e0 q0 f0 p1 e1 q1 f1 va1 b vc1 d 1 va1 1 l0 l1 l2 l3 y0 h0 h1 (zer (area va1 b vc1 d)))
     (.leaf Ex.normal [.one (.int .i64 kk), .one (.ptr 0 0), .one (.ptr 1 0), .one (.ptr 2 0), .one (.ptr 3 0), .one (.ptr 4 0), .one (.int .i64 2)] [some (.box [.int .i64 a0, .int .i64 b0, .int .i64 c0, .int .i64 d0, .lst (.int .i64) l0, .int .i64 a1, .int .i64 b1, .int .i64 c1, .int .i64 d1, .lst (.int .i64) l1, .int .i64 a2, .int .i64 b2, .int .i64 c2, .int .i64 d2, .lst (.int .i64) l2, .int .i64 a3, .int .i64 b3, .int .i64 c3, .int .i64 d3, .lst (.int .i64) l3]), some (.box [.int .i64 a, .int .i64 b, .int .i64 c, .int .i64 d]), some (.box [.int .i64 za, .int .i64 zb, .int .i64 zc, .int .i64 zd, .row 5]), some (.box [.int .i64 va0, .int .i64 vb0, .int .i64 vc0, .int .i64 vd0, .int .i64 va1, .int .i64 vb1, .int .i64 vc1, .int .i64 vd1, .int .i64 va2, .int .i64 vb2, .int .i64 vc2, .int .i64 vd2, .int .i64 va3, .int .i64 vb3, .int .i64 vc3, .int .i64 vd3]), some (.box [.int .i64 p0, .int .i64 e0, .int .i64 q0, .int .i64 f0, .row 6, .int .i64 va1, .int .i64 b, .int .i64 vc1, .int .i64 d, .row 7]), some (.arr 3 (.int .i64) y0), some (.arr 3 (.int .i64) h0), some (.arr 3 (.int .i64) (mgS 1 (mgH b kk a0 b0 c0 d0 b2 d2 l0 l2 (zer (area va1 b vc1 d))) (mgH b kk a1 b1 c1 d1 b3 d3 l1 l3 (zer (area va1 b vc1 d)))))])
     .no)
    .no)
def U_dwt_Merge_2_2 (kk a0 b0 c0 d0 a1 b1 c1 d1 a2 b2 c2 d2 a3 b3 c3 d3 a b c d za zb zc zd va0 vb0 vc0 vd0 va1 vb1 vc1 vd1 va2 vb2 vc2 vd2 va3 vb3 vc3 vd3 p0 e0 q0 f0 p1 e1 q1 f1 : Int) (l0 l1 l2 l3 y0 h0 h1 : List Int) : LT :=
  (.leaf (Ex.exit 4) [.one (.int .i64 kk), .one (.ptr 0 0), .one (.ptr 1 0), .one (.ptr 2 0)] [some (.box [.int .i64 a, .int .i64 b, .int .i64 c, .int .i64 d]), some (.box [.int .i64 za, .int .i64 zb, .int .i64 zc, .int .i64 zd, .row 3]), some (.box [.int .i64 p0, .int .i64 e0, .int .i64 q0, .int .i64 f0, .row 4, .int .i64 p1, .int .i64 e1, .int .i64 q1, .int .i64 f1, .row 5]), some (.arr 3 (.int .i64) y0), some (.arr 3 (.int .i64) h0), some (.arr 3 (.int .i64) h1)])
def T_dwt_Merge_2 : TT := fun vs bl => (D_dwt_Merge_2 vs bl fun kk a0 b0 c0 d0 a1 b1 c1 d1 a2 b2 c2 d2 a3 b3 c3 d3 a b c d za zb zc zd va0 vb0 vc0 vd0 va1 vb1 vc1 vd1 va2 vb2 vc2 vd2 va3 vb3 vc3 vd3 p0 e0 q0 f0 p1 e1 q1 f1 ii l0 l1 l2 l3 y0 h0 h1 => some (hds ii 0 [U_dwt_Merge_2_0 kk a0 b0 c0 d0 a1 b1 c1 d1 a2 b2 c2 d2 a3 b3 c3 d3 a b c d za zb zc zd va0 vb0 vc0 vd0 va1 vb1 vc1 vd1 va2 vb2 vc2 vd2 va3 vb3 vc3 vd3 p0 e0 q0 f0 p1 e1 q1 f1 l0 l1 l2 l3 y0 h0 h1, U_dwt_Merge_2_1 kk a0 b0 c0 d0 a1 b1 c1 d1 a2 b2 c2 d2 a3 b3 c3 d3 a b c d za zb zc zd va0 vb0 vc0 vd0 va1 vb1 vc1 vd1 va2 vb2 vc2 vd2 va3 vb3 vc3 vd3 p0 e0 q0 f0 p1 e1 q1 f1 l0 l1 l2 l3 y0 h0 h1, U_dwt_Merge_2_2 kk a0 b0 c0 d0 a1 b1 c1 d1 a2 b2 c2 d2 a3 b3 c3 d3 a b c d za zb zc zd va0 vb0 vc0 vd0 va1 vb1 vc1 vd1 va2 vb2 vc2 vd2 va3 vb3 vc3 vd3 p0 e0 q0 f0 p1 e1 q1 f1 l0 l1 l2 l3 y0 h0 h1])).getD .no
theorem tu_dwt_Merge_2_0 (kk a0 b0 c0 d0 a1 b1 c1 d1 a2 b2 c2 d2 a3 b3 c3 d3 a b c d za zb zc zd va0 vb0 vc0 vd0 va1 vb1 vc1 vd1 va2 vb2 vc2 vd2 va3 vb3 vc3 vd3 p0 e0 q0 f0 p1 e1 q1 f1 : Int) (l0 l1 l2 l3 y0 h0 h1 : List Int) : T_dwt_Merge_2 [.one (.int .i64 kk), .one (.ptr 0 0), .one (.ptr 1 0), .one (.ptr 2 0), .one (.ptr 3 0), .one (.ptr 4 0), .one (.int .i64 0)] [some (.box [.int .i64 a0, .int .i64 b0, .int .i64 c0, .int .i64 d0, .lst (.int .i64) l0, .int .i64 a1, .int .i64 b1, .int .i64 c1, .int .i64 d1, .lst (.int .i64) l1, .int .i64 a2, .int .i64 b2, .int .i64 c2, .int .i64 d2, .lst (.int .i64) l2, .int .i64 a3, .int .i64 b3, .int .i64 c3, .int .i64 d3, .lst (.int .i64) l3]), some (.box [.int .i64 a, .int .i64 b, .int .i64 c, .int .i64 d]), some (.box [.int .i64 za, .int .i64 zb, .int .i64 zc, .int .i64 zd, .row 5]), some (.box [.int .i64 va0, .int .i64 vb0, .int .i64 vc0, .int .i64 vd0, .int .i64 va1, .int .i64 vb1, .int .i64 vc1, .int .i64 vd1, .int .i64 va2, .int .i64 vb2, .int .i64 vc2, .int .i64 vd2, .int .i64 va3, .int .i64 vb3, .int .i64 vc3, .int .i64 vd3]), some (.box [.int .i64 p0, .int .i64 e0, .int .i64 q0, .int .i64 f0, .row 6, .int .i64 p1, .int .i64 e1, .int .i64 q1, .int .i64 f1, .row 7]), some (.arr 3 (.int .i64) y0), some (.arr 3 (.int .i64) h0), some (.arr 3 (.int .i64) h1)] = U_dwt_Merge_2_0 kk a0 b0 c0 d0 a1 b1 c1 d1 a2 b2 c2 d2 a3 b3 c3 d3 a b c d za zb zc zd va0 vb0 vc0 vd0 va1 vb1 vc1 vd1 va2 vb2 vc2 vd2 va3 vb3 vc3 vd3 p0 e0 q0 f0 p1 e1 q1 f1 l0 l1 l2 l3 y0 h0 h1 := by kernel_rfl
theorem b_dwt_Merge_2_0 (kk a0 b0 c0 d0 a1 b1 c1 d1 a2 b2 c2 d2 a3 b3 c3 d3 a b c d za zb zc zd va0 vb0 vc0 vd0 va1 vb1 vc1 vd1 va2 vb2 vc2 vd2 va3 vb3 vc3 vd3 p0 e0 q0 f0 p1 e1 q1 f1 : Int) (l0 l1 l2 l3 y0 h0 h1 : List Int) (Kc : KT) : exec Try.prog t_dwt_Merge (annOf []) l_dwt_Merge 20 0 (loopOf Try.f62 2) (unp 180 [2, 3, 4, 6, 8, 13, 73] [.one (.int .i64 kk), .one (.ptr 0 0), .one (.ptr 1 0), .one (.ptr 2 0), .one (.ptr 3 0), .one (.ptr 4 0), .one (.int .i64 0)] [some (.box [.int .i64 a0, .int .i64 b0, .int .i64 c0, .int .i64 d0, .lst (.int .i64) l0, .int .i64 a1, .int .i64 b1, .int .i64 c1, .int .i64 d1, .lst (.int .i64) l1, .int .i64 a2, .int .i64 b2, .int .i64 c2, .int .i64 d2, .lst (.int .i64) l2, .int .i64 a3, .int .i64 b3, .int .i64 c3, .int .i64 d3, .lst (.int .i64) l3]), some (.box [.int .i64 a, .int .i64 b, .int .i64 c, .int .i64 d]), some (.box [.int .i64 za, .int .i64 zb, .int .i64 zc, .int .i64 zd, .row 5]), some (.box [.int .i64 va0, .int .i64 vb0, .int .i64 vc0, .int .i64 vd0, .int .i64 va1, .int .i64 vb1, .int .i64 vc1, .int .i64 vd1, .int .i64 va2, .int .i64 vb2, .int .i64 vc2, .int .i64 vd2, .int .i64 va3, .int .i64 vb3, .int .i64 vc3, .int .i64 vd3]), some (.box [.int .i64 p0, .int .i64 e0, .int .i64 q0, .int .i64 f0, .row 6, .int .i64 p1, .int .i64 e1, .int .i64 q1, .int .i64 f1, .row 7]), some (.arr 3 (.int .i64) y0), some (.arr 3 (.int .i64) h0), some (.arr 3 (.int .i64) h1)]) (endc 0 180 [2, 3, 4, 6, 8, 13, 73] (kxOf [2, 4, 6, 13] [6, 7]) Kc) =
  (U_dwt_Merge_2_0 kk a0 b0 c0 d0 a1 b1 c1 d1 a2 b2 c2 d2 a3 b3 c3 d3 a b c d za zb zc zd va0 vb0 vc0 vd0 va1 vb1 vc1 vd1 va2 vb2 vc2 vd2 va3 vb3 vc3 vd3 p0 e0 q0 f0 p1 e1 q1 f1 l0 l1 l2 l3 y0 h0 h1).runc Kc := by kernel_rfl
theorem tu_dwt_Merge_2_1 (kk a0 b0 c0 d0 a1 b1 c1 d1 a2 b2 c2 d2 a3 b3 c3 d3 a b c d za zb zc zd va0 vb0 vc0 vd0 va1 vb1 vc1 vd1 va2 vb2 vc2 vd2 va3 vb3 vc3 vd3 p0 e0 q0 f0 p1 e1 q1 f1 : Int) (l0 l1 l2 l3 y0 h0 h1 : List Int) : T_dwt_Merge_2 [.one (.int .i64 kk), .one (.ptr 0 0), .one (.ptr 1 0), .one (.ptr 2 0), .one (.ptr 3 0), .one (.ptr 4 0), .one (.int .i64 1)] [some (.box [.int .i64 a0, .int .i64 b0, .int .i64 c0, .int .i64 d0, .lst (.int .i64) l0, .int .i64 a1, .int .i64 b1, .int .i64 c1, .int .i64 d1, .lst (.int .i64) l1, .int .i64 a2, .int .i64 b2, .int .i64 c2, .int .i64 d2, .lst (.int .i64) l2, .int .i64 a3, .int .i64 b3, .int .i64 c3, .int .i64 d3, .lst (.int .i64) l3]), some (.box [.int .i64 a, .int .i64 b, .int .i64 c, .int .i64 d]), some (.box [.int .i64 za, .int .i64 zb, .int .i64 zc, .int .i64 zd, .row 5]), some (.box [.int .i64 va0, .int .i64 vb0, .int .i64 vc0, .int .i64 vd0, .int .i64 va1, .int .i64 vb1, .int .i64 vc1, .int .i64 vd1, .int .i64 va2, .int .i64 vb2, .int .i64 vc2, .int .i64 vd2, .int .i64 va3, .int .i64 vb3, .int .i64 vc3, .int .i64 vd3]), some (.box [.int .i64 p0, .int .i64 e0, .int .i64 q0, .int .i64 f0, .row 6, .int .i64 p1, .int .i64 e1, .int .i64 q1, .int .i64 f1, .row 7]), some (.arr 3 (.int .i64) y0), some (.arr 3 (.int .i64) h0), some (.arr 3 (.int .i64) h1)] = U_dwt_Merge_2_1 kk a0 b0 c0 d0 a1 b1 c1 d1 a2 b2 c2 d2 a3 b3 c3 d3 a b c d za zb zc zd va0 vb0 vc0 vd0 va1 vb1 vc1 vd1 va2 vb2 vc2 vd2 va3 vb3 vc3 vd3 p0 e0 q0 f0 p1 e1 q1 f1 l0 l1 l2 l3 y0 h0 h1 := by kernel_rfl
theorem b_dwt_Merge_2_1 (kk a0 b0 c0 d0 a1 b1 c1 d1 a2 b2 c2 d2 a3 b3 c3 d3 a b c d za zb zc zd va0 vb0 vc0 vd0 va1 vb1 vc1 vd1 va2 vb2 vc2 vd2 va3 vb3 vc3 vd3 p0 e0 q0 f0 p1 e1 q1 f1 : Int) (l0 l1 l2 l3 y0 h0 h1 : List Int) (Kc : KT) : exec Try.prog t_dwt_Merge (annOf []) l_dwt_Merge 20 0 (loopOf Try.f62 2) (unp 180 [2, 3, 4, 6, 8, 13, 73] [.one (.int .i64 kk), .one (.ptr 0 0), .one (.ptr 1 0), .one (.ptr 2 0), .one (.ptr 3 0), .one (.ptr 4 0), .one (.int .i64 1)] [some (.box [.int .i64 a0, .int .i64 b0, .int .i64 c0, .int .i64 d0, .lst (.int .i64) l0, .int .i64 a1, .int .i64 b1, .int .i64 c1, .int .i64 d1, .lst (.int .i64) l1, .int .i64 a2, .int .i64 b2, .int .i64 c2, .int .i64 d2, .lst (.int .i64) l2, .int .i64 a3, .int .i64 b3, .int .i64 c3, .int .i64 d3, .lst (.int .i64) l3]), some (.box [.int .i64 a, .int .i64 b, .int .i64 c, .int .i64 d]), some (.box [.int .i64 za, .int .i64 zb, .int .i64 zc, .int .i64 zd, .row 5]), some (.box [.int .i64 va0, .int .i64 vb0, .int .i64 vc0, .int .i64 vd0, .int .i64 va1, .int .i64 vb1, .int .i64 vc1, .int .i64 vd1, .int .i64 va2, .int .i64 vb2, .int .i64 vc2, .int .i64 vd2, .int .i64 va3, .int .i64 vb3, .int .i64 vc3, .int .i64 vd3]), some (.box [.int .i64 p0, .int .i64 e0, .int .i64 q0, .int .i64 f0, .row 6, .int .i64 p1, .int .i64 e1, .int .i64 q1, .int .i64 f1, .row 7]), some (.arr 3 (.int .i64) y0), some (.arr 3 (.int .i64) h0), some (.arr 3 (.int .i64) h1)]) (endc 0 180 [2, 3, 4, 6, 8, 13, 73] (kxOf [2, 4, 6, 13] [6, 7]) Kc) =
  (U_dwt_Merge_2_1 kk a0 b0 c0 d0 a1 b1 c1 d1 a2 b2 c2 d2 a3 b3 c3 d3 a b c d za zb zc zd va0 vb0 vc0 vd0 va1 vb1 vc1 vd1 va2 vb2 vc2 vd2 va3 vb3 vc3 vd3 p0 e0 q0 f0 p1 e1 q1 f1 l0 l1 l2 l3 y0 h0 h1).runc Kc := by kernel_rfl
theorem tu_dwt_Merge_2_2 (kk a0 b0 c0 d0 a1 b1 c1 d1 a2 b2 c2 d2 a3 b3 c3 d3 a b c d za zb zc zd va0 vb0 vc0 vd0 va1 vb1 vc1 vd1 va2 vb2 vc2 vd2 va3 vb3 vc3 vd3 p0 e0 q0 f0 p1 e1 q1 f1 : Int) (l0 l1 l2 l3 y0 h0 h1 : List Int) : T_dwt_Merge_2 [.one (.int .i64 kk), .one (.ptr 0 0), .one (.ptr 1 0), .one (.ptr 2 0), .one (.ptr 3 0), .one (.ptr 4 0), .one (.int .i64 2)] [some (.box [.int .i64 a0, .int .i64 b0, .int .i64 c0, .int .i64 d0, .lst (.int .i64) l0, .int .i64 a1, .int .i64 b1, .int .i64 c1, .int .i64 d1, .lst (.int .i64) l1, .int .i64 a2, .int .i64 b2, .int .i64 c2, .int .i64 d2, .lst (.int .i64) l2, .int .i64 a3, .int .i64 b3, .int .i64 c3, .int .i64 d3, .lst (.int .i64) l3]), some (.box [.int .i64 a, .int .i64 b, .int .i64 c, .int .i64 d]), some (.box [.int .i64 za, .int .i64 zb, .int .i64 zc, .int .i64 zd, .row 5]), some (.box [.int .i64 va0, .int .i64 vb0, .int .i64 vc0, .int .i64 vd0, .int .i64 va1, .int .i64 vb1, .int .i64 vc1, .int .i64 vd1, .int .i64 va2, .int .i64 vb2, .int .i64 vc2, .int .i64 vd2, .int .i64 va3, .int .i64 vb3, .int .i64 vc3, .int .i64 vd3]), some (.box [.int .i64 p0, .int .i64 e0, .int .i64 q0, .int .i64 f0, .row 6, .int .i64 p1, .int .i64 e1, .int .i64 q1, .int .i64 f1, .row 7]), some (.arr 3 (.int .i64) y0), some (.arr 3 (.int .i64) h0), some (.arr 3 (.int .i64) h1)] = U_dwt_Merge_2_2 kk a0 b0 c0 d0 a1 b1 c1 d1 a2 b2 c2 d2 a3 b3 c3 d3 a b c d za zb zc zd va0 vb0 vc0 vd0 va1 vb1 vc1 vd1 va2 vb2 vc2 vd2 va3 vb3 vc3 vd3 p0 e0 q0 f0 p1 e1 q1 f1 l0 l1 l2 l3 y0 h0 h1 := by kernel_rfl
theorem b_dwt_Merge_2_2 (kk a0 b0 c0 d0 a1 b1 c1 d1 a2 b2 c2 d2 a3 b3 c3 d3 a b c d za zb zc zd va0 vb0 vc0 vd0 va1 vb1 vc1 vd1 va2 vb2 vc2 vd2 va3 vb3 vc3 vd3 p0 e0 q0 f0 p1 e1 q1 f1 : Int) (l0 l1 l2 l3 y0 h0 h1 : List Int) (Kc : KT) : exec Try.prog t_dwt_Merge (annOf []) l_dwt_Merge 20 0 (loopOf Try.f62 2) (unp 180 [2, 3, 4, 6, 8, 13, 73] [.one (.int .i64 kk), .one (.ptr 0 0), .one (.ptr 1 0), .one (.ptr 2 0), .one (.ptr 3 0), .one (.ptr 4 0), .one (.int .i64 2)] [some (.box [.int .i64 a0, .int .i64 b0, .int .i64 c0, .int .i64 d0, .lst (.int .i64) l0, .int .i64 a1, .int .i64 b1, .int .i64 c1, .int .i64 d1, .lst (.int .i64) l1, .int .i64 a2, .int .i64 b2, .int .i64 c2, .int .i64 d2, .lst (.int .i64) l2, .int .i64 a3, .int .i64 b3, .int .i64 c3, .int .i64 d3, .lst (.int .i64) l3]), some (.box [.int .i64 a, .int .i64 b, .int .i64 c, .int .i64 d]), some (.box [.int .i64 za, .int .i64 zb, .int .i64 zc, .int .i64 zd, .row 5]), some (.box [.int .i64 va0, .int .i64 vb0, .int .i64 vc0, .int .i64 vd0, .int .i64 va1, .int .i64 vb1, .int .i64 vc1, .int .i64 vd1, .int .i64 va2, .int .i64 vb2, .int .i64 vc2, .int .i64 vd2, .int .i64 va3, .int .i64 vb3, .int .i64 vc3, .int .i64 vd3]), some (.box [.int .i64 p0, .int .i64 e0, .int .i64 q0, .int .i64 f0, .row 6, .int .i64 p1, .int .i64 e1, .int .i64 q1, .int .i64 f1, .row 7]), some (.arr 3 (.int .i64) y0), some (.arr 3 (.int .i64) h0), some (.arr 3 (.int .i64) h1)]) (endc 0 180 [2, 3, 4, 6, 8, 13, 73] (kxOf [2, 4, 6, 13] [6, 7]) Kc) =
  (U_dwt_Merge_2_2 kk a0 b0 c0 d0 a1 b1 c1 d1 a2 b2 c2 d2 a3 b3 c3 d3 a b c d za zb zc zd va0 vb0 vc0 vd0 va1 vb1 vc1 vd1 va2 vb2 vc2 vd2 va3 vb3 vc3 vd3 p0 e0 q0 f0 p1 e1 q1 f1 l0 l1 l2 l3 y0 h0 h1).runc Kc := by kernel_rfl
def U_dwt_Merge_3_0 (kk a0 b0 c0 d0 a1 b1 c1 d1 a2 b2 c2 d2 a3 b3 c3 d3 a b c d za zb zc zd va0 vb0 vc0 vd0 va1 vb1 vc1 vd1 va2 vb2 vc2 vd2 va3 vb3 vc3 vd3 p0 e0 q0 f0 p1 e1 q1 f1 g0 g1 g2 g3 x i2 : Int) (l0 l1 l2 l3 y0 h0 h1 t : List Int) : LT :=
  (.br (decide (x < g2))
    (.br (small (List.length (plCol a0 b0 c0 d0 l0 x)) && small (List.length (plCol a2 b2 c2 d2 l2 x)))
     (.br ((iv (plCol a0 b0 c0 d0 l0 x) (plCol a2 b2 c2 d2 l2 x) b kk).2 != 0)
      (.leaf Ex.ret [.one (.ptr 0 0), .one (.int .i64 (iv (plCol a0 b0 c0 d0 l0 x) (plCol a2 b2 c2 d2 l2 x) b kk).2)] [some (.box [.int .i64 0, .int .i64 0, .int .i64 0, .int .i64 0, .row 1]), some (.arr 3 (.int .i64) ([] : List (Int)))])
      (.br (decide (0 ≤ g0) && decide (g0 ≤ x) && decide (x < g2) && decide (g2 ≤ 4096) && decide (List.length (iv (plCol a0 b0 c0 d0 l0 x) (plCol a2 b2 c2 d2 l2 x) b kk).1 ≤ 4096) && decide ((↑(List.length t) : Int) = (g2 - g0) * (↑(List.length (iv (plCol a0 b0 c0 d0 l0 x) (plCol a2 b2 c2 d2 l2 x) b kk).1) : Int)))
       (.leaf Ex.normal [.one (.int .i64 kk), .one (.ptr 0 0), .one (.ptr 1 0), .one (.ptr 2 0), .one (.ptr 3 0), .one (.ptr 4 0), .one (.int .i64 0), .one (.ptr 5 0), .one (.int .i64 (IntKind.wrap .i64 (x + 1))), .one (.int .i64 i2)] [some (.box [.int .i64 a0, .int .i64 b0, .int .i64 c0, .int .i64 d0, .lst (.int .i64) l0, .int .i64 a1, .int .i64 b1, .int .i64 c1, .int .i64 d1, .lst (.int .i64) l1, .int .i64 a2, .int .i64 b2, .int .i64 c2, .int .i64 d2, .lst (.int .i64) l2, .int .i64 a3, .int .i64 b3, .int .i64 c3, .int .i64 d3, .lst (.int .i64) l3]), some (.box [.int .i64 a, .int .i64 b, .int .i64 c, .int .i64 d]), some (.box [.int .i64 za, .int .i64 zb, .int .i64 zc, .int .i64 zd, .row 6]), some (.box [.int .i64 va0, .int .i64 vb0, .int .i64 vc0, .int .i64 vd0, .int .i64 va1, .int .i64 vb1, .int .i64 vc1, .int .i64 vd1, .int .i64 va2, .int .i64 vb2, .int .i64 vc2, .int .i64 vd2, .int .i64 va3, .int .i64 vb3, .int .i64 vc3, .int .i64 vd3]), some (.box [.int .i64 p0, .int .i64 e0, .int .i64 q0, .int .i64 f0, .row 7, .int .i64 p1, .int .i64 e1, .int .i64 q1, .int .i64 f1, .row 8]), some (.box [.int .i64 g0, .int .i64 g1, .int .i64 g2, .int .i64 g3, .row 9]), some (.arr 3 (.int .i64) y0), some (.arr 3 (.int .i64) h0), some (.arr 3 (.int .i64) h1), some (.arr 3 (.int .i64) (setC t (Int.toNat (g2 - g0)) (Int.toNat (x - g0)) (iv (plCol a0 b0 c0 d0 l0 x) (plCol a2 b2 c2 d2 l2 x) b kk).1))])
       .no))
     .no)
    (.leaf (Ex.exit 6) [.one (.int .i64 kk), .one (.ptr 0 0), .one (.ptr 1 0), .one (.ptr 2 0), .one (.ptr 3 0), .one (.ptr 4 0), .one (.int .i64 0), .one (.ptr 5 0), .one (.int .i64 i2)] [some (.box [.int .i64 a0, .int .i64 b0, .int .i64 c0, .int .i64 d0, .lst (.int .i64) l0, .int .i64 a1, .int .i64 b1, .int .i64 c1, .int .i64 d1, .lst (.int .i64) l1, .int .i64 a2, .int .i64 b2, .int .i64 c2, .int .i64 d2, .lst (.int .i64) l2, .int .i64 a3, .int .i64 b3, .int .i64 c3, .int .i64 d3, .lst (.int .i64) l3]), some (.box [.int .i64 a, .int .i64 b, .int .i64 c, .int .i64 d]), some (.box [.int .i64 za, .int .i64 zb, .int .i64 zc, .int .i64 zd, .row 6]), some (.box [.int .i64 va0, .int .i64 vb0, .int .i64 vc0, .int .i64 vd0, .int .i64 va1, .int .i64 vb1, .int .i64 vc1, .int .i64 vd1, .int .i64 va2, .int .i64 vb2, .int .i64 vc2, .int .i64 vd2, .int .i64 va3, .int .i64 vb3, .int .i64 vc3, .int .i64 vd3]), some (.box [.int .i64 p0, .int .i64 e0, .int .i64 q0, .int .i64 f0, .row 7, .int .i64 p1, .int .i64 e1, .int .i64 q1, .int .i64 f1, .row 8]), some (.box [.int .i64 g0, .int .i64 g1, .int .i64 g2, .int .i64 g3, .row 9]), some (.arr 3 (.int .i64) y0), some (.arr 3 (.int .i64) h0), some (.arr 3 (.int .i64) h1), some (.arr 3 (.int .i64) t)]))
def U_dwt_Merge_3_1 (kk a0 b0 c0 d0 a1 b1 c1 d1 a2 b2 c2 d2 a3 b3 c3 d3 a b c d za zb zc zd va0 vb0 vc0 vd0 va1 vb1 vc1 vd1 va2 vb2 vc2 vd2 va3 vb3 vc3 vd3 p0 e0 q0 f0 p1 e1 q1 f1 g0 g1 g2 g3 x i2 : Int) (l0 l1 l2 l3 y0 h0 h1 t : List Int) : LT :=
  (.br (decide (x < g2))
    (.br (small (List.length (plCol a1 b1 c1 d1 l1 x)) && small (List.length (plCol a3 b3 c3 d3 l3 x)))
     (.br ((iv (plCol a1 b1 c1 d1 l1 x) (plCol a3 b3 c3 d3 l3 x) b kk).2 != 0)
      (.leaf Ex.ret [.one (.ptr 0 0), .one (.int .i64 (iv (plCol a1 b1 c1 d1 l1 x) (plCol a3 b3 c3 d3 l3 x) b kk).2)] [some (.box [.int .i64 0, .int .i64 0, .int .i64 0, .int .i64 0, .row 1]), some (.arr 3 (.int .i64) ([] : List (Int)))])
      (.br (decide (0 ≤ g0) && decide (g0 ≤ x) && decide (x < g2) && decide (g2 ≤ 4096) && decide (List.length (iv (plCol a1 b1 c1 d1 l1 x) (plCol a3 b3 c3 d3 l3 x) b kk).1 ≤ 4096) && decide ((↑(List.length t) : Int) = (g2 - g0) * (↑(List.length (iv (plCol a1 b1 c1 d1 l1 x) (plCol a3 b3 c3 d3 l3 x) b kk).1) : Int)))
       (.leaf Ex.normal [.one (.int .i64 kk), .one (.ptr 0 0), .one (.ptr 1 0), .one (.ptr 2 0), .one (.ptr 3 0), .one (.ptr 4 0), .one (.int .i64 1), .one (.ptr 5 0), .one (.int .i64 (IntKind.wrap .i64 (x + 1))), .one (.int .i64 i2)] [some (.box [.int .i64 a0, .int .i64 b0, .int .i64 c0, .int .i64 d0, .lst (.int .i64) l0, .int .i64 a1, .int .i64 b1, .int .i64 c1, .int .i64 d1, .lst (.int .i64) l1, .int .i64 a2, .int .i64 b2, .int .i64 c2, .int .i64 d2, .lst (.int .i64) l2, .int .i64 a3, .int .i64 b3, .int .i64 c3, .int .i64 d3, .lst (.int .i64) l3]), some (.box [.int .i64 a, .int .i64 b, .int .i64 c, .int .i64 d]), some (.box [.int .i64 za, .int .i64 zb, .int .i64 zc, .int .i64 zd, .row 6]), some (.box [.int .i64 va0, .int .i64 vb0, .int .i64 vc0, .int .i64 vd0, .int .i64 va1, .int .i64 vb1, .int .i64 vc1, .int .i64 vd1, .int .i64 va2, .int .i64 vb2, .int .i64 vc2, .int .i64 vd2, .int .i64 va3, .int .i64 vb3, .int .i64 vc3, .int .i64 vd3]), some (.box [.int .i64 p0, .int .i64 e0, .int .i64 q0, .int .i64 f0, .row 7, .int .i64 p1, .int .i64 e1, .int .i64 q1, .int .i64 f1, .row 8]), some (.box [.int .i64 g0, .int .i64 g1, .int .i64 g2, .int .i64 g3, .row 9]), some (.arr 3 (.int .i64) y0), some (.arr 3 (.int .i64) h0), some (.arr 3 (.int .i64) h1), some (.arr 3 (.int .i64) (setC t (Int.toNat (g2 - g0)) (Int.toNat (x - g0)) (iv (plCol a1 b1 c1 d1 l1 x) (plCol a3 b3 c3 d3 l3 x) b kk).1))])
       .no))
     .no)
    (.leaf (Ex.exit 6) [.one (.int .i64 kk), .one (.ptr 0 0), .one (.ptr 1 0), .one (.ptr 2 0), .one (.ptr 3 0), .one (.ptr 4 0), .one (.int .i64 1), .one (.ptr 5 0), .one (.int .i64 i2)] [some (.box [.int .i64 a0, .int .i64 b0, .int .i64 c0, .int .i64 d0, .lst (.int .i64) l0, .int .i64 a1, .int .i64 b1, .int .i64 c1, .int .i64 d1, .lst (.int .i64) l1, .int .i64 a2, .int .i64 b2, .int .i64 c2, .int .i64 d2, .lst (.int .i64) l2, .int .i64 a3, .int .i64 b3, .int .i64 c3, .int .i64 d3, .lst (.int .i64) l3]), some (.box [.int .i64 a, .int .i64 b, .int .i64 c, .int .i64 d]), some (.box [.int .i64 za, .int .i64 zb, .int .i64 zc, .int .i64 zd, .row 6]), some (.box [.int .i64 va0, .int .i64 vb0, .int .i64 vc0, .int .i64 vd0, .int .i64 va1, .int .i64 vb1, .int .i64 vc1, .int .i64 vd1, .int .i64 va2, .int .i64 vb2, .int .i64 vc2, .int .i64 vd2, .int .i64 va3, .int .i64 vb3, .int .i64 vc3, .int .i64 vd3]), some (.box [.int .i64 p0, .int .i64 e0, .int .i64 q0, .int .i64 f0, .row 7, .int .i64 p1, .int .i64 e1, .int .i64 q1, .int .i64 f1, .row 8]), some (.box [.int .i64 g0, .int .i64 g1, .int .i64 g2, .int .i64 g3, .row 9]), some (.arr 3 (.int .i64) y0), some (.arr 3 (.int .i64) h0), some (.arr 3 (.int .i64) h1), some (.arr 3 (.int .i64) t)]))
def T_dwt_Merge_3 : TT := fun vs bl => (D_dwt_Merge_3 vs bl fun kk a0 b0 c0 d0 a1 b1 c1 d1 a2 b2 c2 d2 a3 b3 c3 d3 a b c d za zb zc zd va0 vb0 vc0 vd0 va1 vb1 vc1 vd1 va2 vb2 vc2 vd2 va3 vb3 vc3 vd3 p0 e0 q0 f0 p1 e1 q1 f1 g0 g1 g2 g3 ii x i2 l0 l1 l2 l3 y0 h0 h1 t => some (hds ii 0 [U_dwt_Merge_3_0 kk a0 b0 c0 d0 a1 b1 c1 d1 a2 b2 c2 d2 a3 b3 c3 d3 a b c d za zb zc zd va0 vb0 vc0 vd0 va1 vb1 vc1 vd1 va2 vb2 vc2 vd2 va3 vb3 vc3 vd3 p0 e0 q0 f0 p1 e1 q1 f1 g0 g1 g2 g3 x i2 l0 l1 l2 l3 y0 h0 h1 t, U_dwt_Merge_3_1 kk a0 b0 c0 d0 a1 b1 c1 d1 a2 b2 c2 d2 a3 b3 c3 d3 a b c d za zb zc zd va0 vb0 vc0 vd0 va1 vb1 vc1 vd1 va2 vb2 vc2 vd2 va3 vb3 vc3 vd3 p0 e0 q0 f0 p1 e1 q1 f1 g0 g1 g2 g3 x i2 l0 l1 l2 l3 y0 h0 h1 t])).getD .no
theorem tu_dwt_Merge_3_0 (kk a0 b0 c0 d0 a1 b1 c1 d1 a2 b2 c2 d2 a3 b3 c3 d3 a b c d za zb zc zd va0 vb0 vc0 vd0 va1 vb1 vc1 vd1 va2 vb2 vc2 vd2 va3 vb3 vc3 vd3 p0 e0 q0 f0 p1 e1 q1 f1 g0 g1 g2 g3 x i2 : Int) (l0 l1 l2 l3 y0 h0 h1 t : List Int) : T_dwt_Merge_3 [.one (.int .i64 kk), .one (.ptr 0 0), .one (.ptr 1 0), .one (.ptr 2 0), .one (.ptr 3 0), .one (.ptr 4 0), .one (.int .i64 0), .one (.ptr 5 0), .one (.int .i64 x), .one (.int .i64 i2)] [some (.box [.int .i64 a0, .int .i64 b0, .int .i64 c0, .int .i64 d0, .lst (.int .i64) l0, .int .i64 a1, .int .i64 b1, .int .i64 c1, .int .i64 d1, .lst (.int .i64) l1, .int .i64 a2, .int .i64 b2, .int .i64 c2, .int .i64 d2, .lst (.int .i64) l2, .int .i64 a3, .int .i64 b3, .int .i64 c3, .int .i64 d3, .lst (.int .i64) l3]), some (.box [.int .i64 a, .int .i64 b, .int .i64 c, .int .i64 d]), some (.box [.int .i64 za, .int .i64 zb, .int .i64 zc, .int .i64 zd, .row 6]), some (.box [.int .i64 va0, .int .i64 vb0, .int .i64 vc0, .int .i64 vd0, .int .i64 va1, .int .i64 vb1, .int .i64 vc1, .int .i64 vd1, .int .i64 va2, .int .i64 vb2, .int .i64 vc2, .int .i64 vd2, .int .i64 va3, .int .i64 vb3, .int .i64 vc3, .int .i64 vd3]), some (.box [.int .i64 p0, .int .i64 e0, .int .i64 q0, .int .i64 f0, .row 7, .int .i64 p1, .int .i64 e1, .int .i64 q1, .int .i64 f1, .row 8]), some (.box [.int .i64 g0, .int .i64 g1, .int .i64 g2, .int .i64 g3, .row 9]), some (.arr 3 (.int .i64) y0), some (.arr 3 (.int .i64) h0), some (.arr 3 (.int .i64) h1), some (.arr 3 (.int .i64) t)] = U_dwt_Merge_3_0 kk a0 b0 c0 d0 a1 b1 c1 d1 a2 b2 c2 d2 a3 b3 c3 d3 a b c d za zb zc zd va0 vb0 vc0 vd0 va1 vb1 vc1 vd1 va2 vb2 vc2 vd2 va3 vb3 vc3 vd3 p0 e0 q0 f0 p1 e1 q1 f1 g0 g1 g2 g3 x i2 l0 l1 l2 l3 y0 h0 h1 t := by kernel_rfl
theorem b_dwt_Merge_3_0 (kk a0 b0 c0 d0 a1 b1 c1 d1 a2 b2 c2 d2 a3 b3 c3 d3 a b c d za zb zc zd va0 vb0 vc0 vd0 va1 vb1 vc1 vd1 va2 vb2 vc2 vd2 va3 vb3 vc3 vd3 p0 e0 q0 f0 p1 e1 q1 f1 g0 g1 g2 g3 x i2 : Int) (l0 l1 l2 l3 y0 h0 h1 t : List Int) (Kc : KT) : exec Try.prog t_dwt_Merge (annOf []) l_dwt_Merge 20 0 (loopOf Try.f62 3) (unp 180 [2, 3, 4, 6, 8, 13, 14, 15, 16, 73] [.one (.int .i64 kk), .one (.ptr 0 0), .one (.ptr 1 0), .one (.ptr 2 0), .one (.ptr 3 0), .one (.ptr 4 0), .one (.int .i64 0), .one (.ptr 5 0), .one (.int .i64 x), .one (.int .i64 i2)] [some (.box [.int .i64 a0, .int .i64 b0, .int .i64 c0, .int .i64 d0, .lst (.int .i64) l0, .int .i64 a1, .int .i64 b1, .int .i64 c1, .int .i64 d1, .lst (.int .i64) l1, .int .i64 a2, .int .i64 b2, .int .i64 c2, .int .i64 d2, .lst (.int .i64) l2, .int .i64 a3, .int .i64 b3, .int .i64 c3, .int .i64 d3, .lst (.int .i64) l3]), some (.box [.int .i64 a, .int .i64 b, .int .i64 c, .int .i64 d]), some (.box [.int .i64 za, .int .i64 zb, .int .i64 zc, .int .i64 zd, .row 6]), some (.box [.int .i64 va0, .int .i64 vb0, .int .i64 vc0, .int .i64 vd0, .int .i64 va1, .int .i64 vb1, .int .i64 vc1, .int .i64 vd1, .int .i64 va2, .int .i64 vb2, .int .i64 vc2, .int .i64 vd2, .int .i64 va3, .int .i64 vb3, .int .i64 vc3, .int .i64 vd3]), some (.box [.int .i64 p0, .int .i64 e0, .int .i64 q0, .int .i64 f0, .row 7, .int .i64 p1, .int .i64 e1, .int .i64 q1, .int .i64 f1, .row 8]), some (.box [.int .i64 g0, .int .i64 g1, .int .i64 g2, .int .i64 g3, .row 9]), some (.arr 3 (.int .i64) y0), some (.arr 3 (.int .i64) h0), some (.arr 3 (.int .i64) h1), some (.arr 3 (.int .i64) t)]) (endc 0 180 [2, 3, 4, 6, 8, 13, 14, 15, 16, 73] (kxOf [2, 3, 4, 6, 8, 13, 14, 15, 73] [6, 7]) Kc) =
  (U_dwt_Merge_3_0 kk a0 b0 c0 d0 a1 b1 c1 d1 a2 b2 c2 d2 a3 b3 c3 d3 a b c d za zb zc zd va0 vb0 vc0 vd0 va1 vb1 vc1 vd1 va2 vb2 vc2 vd2 va3 vb3 vc3 vd3 p0 e0 q0 f0 p1 e1 q1 f1 g0 g1 g2 g3 x i2 l0 l1 l2 l3 y0 h0 h1 t).runc Kc := by kernel_rfl
theorem tu_dwt_Merge_3_1 (kk a0 b0 c0 d0 a1 b1 c1 d1 a2 b2 c2 d2 a3 b3 c3 d3 a b c d za zb zc zd va0 vb0 vc0 vd0 va1 vb1 vc1 vd1 va2 vb2 vc2 vd2 va3 vb3 vc3 vd3 p0 e0 q0 f0 p1 e1 q1 f1 g0 g1 g2 g3 x i2 : Int) (l0 l1 l2 l3 y0 h0 h1 t : List Int) : T_dwt_Merge_3 [.one (.int .i64 kk), .one (.ptr 0 0), .one (.ptr 1 0), .one (.ptr 2 0), .one (.ptr 3 0), .one (.ptr 4 0), .one (.int .i64 1), .one (.ptr 5 0), .one (.int .i64 x), .one (.int .i64 i2)] [some (.box [.int .i64 a0, .int .i64 b0, .int .i64 c0, .int .i64 d0, .lst (.int .i64) l0, .int .i64 a1, .int .i64 b1, .int .i64 c1, .int .i64 d1, .lst (.int .i64) l1, .int .i64 a2, .int .i64 b2, .int .i64 c2, .int .i64 d2, .lst (.int .i64) l2, .int .i64 a3, .int .i64 b3, .int .i64 c3, .int .i64 d3, .lst (.int .i64) l3]), some (.box [.int .i64 a, .int .i64 b, .int .i64 c, .int .i64 d]), some (.box [.int .i64 za, .int .i64 zb, .int .i64 zc, .int .i64 zd, .row 6]), some (.box [.int .i64 va0, .int .i64 vb0, .int .i64 vc0, .int .i64 vd0, .int .i64 va1, .int .i64 vb1, .int .i64 vc1, .int .i64 vd1, .int .i64 va2, .int .i64 vb2, .int .i64 vc2, .int .i64 vd2, .int .i64 va3, .int .i64 vb3, .int .i64 vc3, .int .i64 vd3]), some (.box [.int .i64 p0, .int .i64 e0, .int .i64 q0, .int .i64 f0, .row 7, .int .i64 p1, .int .i64 e1, .int .i64 q1, .int .i64 f1, .row 8]), some (.box [.int .i64 g0, .int .i64 g1, .int .i64 g2, .int .i64 g3, .row 9]), some (.arr 3 (.int .i64) y0), some (.arr 3 (.int .i64) h0), some (.arr 3 (.int .i64) h1), some (.arr 3 (.int .i64) t)] = U_dwt_Merge_3_1 kk a0 b0 c0 d0 a1 b1 c1 d1 a2 b2 c2 d2 a3 b3 c3 d3 a b c d za zb zc zd va0 vb0 vc0 vd0 va1 vb1 vc1 vd1 va2 vb2 vc2 vd2 va3 vb3 vc3 vd3 p0 e0 q0 f0 p1 e1 q1 f1 g0 g1 g2 g3 x i2 l0 l1 l2 l3 y0 h0 h1 t := by kernel_rfl
theorem b_dwt_Merge_3_1 (kk a0 b0 c0 d0 a1 b1 c1 d1 a2 b2 c2 d2 a3 b3 c3 d3 a b c d za zb zc zd va0 vb0 vc0 vd0 va1 vb1 vc1 vd1 va2 vb2 vc2 vd2 va3 vb3 vc3 vd3 p0 e0 q0 f0 p1 e1 q1 f1 g0 g1 g2 g3 x i2 : Int) (l0 l1 l2 l3 y0 h0 h1 t : List Int) (Kc : KT) : exec Try.prog t_dwt_Merge (annOf []) l_dwt_Merge 20 0 (loopOf Try.f62 3) (unp 180 [2, 3, 4, 6, 8, 13, 14, 15, 16, 73] [.one (.int .i64 kk), .one (.ptr 0 0), .one (.ptr 1 0), .one (.ptr 2 0), .one (.ptr 3 0), .one (.ptr 4 0), .one (.int .i64 1), .one (.ptr 5 0), .one (.int .i64 x), .one (.int .i64 i2)] [some (.box [.int .i64 a0, .int .i64 b0, .int .i64 c0, .int .i64 d0, .lst (.int .i64) l0, .int .i64 a1, .int .i64 b1, .int .i64 c1, .int .i64 d1, .lst (.int .i64) l1, .int .i64 a2, .int .i64 b2, .int .i64 c2, .int .i64 d2, .lst (.int .i64) l2, .int .i64 a3, .int .i64 b3, .int .i64 c3, .int .i64 d3, .lst (.int .i64) l3]), some (.box [.int .i64 a, .int .i64 b, .int .i64 c, .int .i64 d]), some (.box [.int .i64 za, .int .i64 zb, .int .i64 zc, .int .i64 zd, .row 6]), some (.box [.int .i64 va0, .int .i64 vb0, .int .i64 vc0, .int .i64 vd0, .int .i64 va1, .int .i64 vb1, .int .i64 vc1, .int .i64 vd1, .int .i64 va2, .int .i64 vb2, .int .i64 vc2, .int .i64 vd2, .int .i64 va3, .int .i64 vb3, .int .i64 vc3, .int .i64 vd3]), some (.box [.int .i64 p0, .int .i64 e0, .int .i64 q0, .int .i64 f0, .row 7, .int .i64 p1, .int .i64 e1, .int .i64 q1, .int .i64 f1, .row 8]), some (.box [.int .i64 g0, .int .i64 g1, .int .i64 g2, .int .i64 g3, .row 9]), some (.arr 3 (.int .i64) y0), some (.arr 3 (.int .i64) h0), some (.arr 3 (.int .i64) h1), some (.arr 3 (.int .i64) t)]) (endc 0 180 [2, 3, 4, 6, 8, 13, 14, 15, 16, 73] (kxOf [2, 3, 4, 6, 8, 13, 14, 15, 73] [6, 7]) Kc) =
  (U_dwt_Merge_3_1 kk a0 b0 c0 d0 a1 b1 c1 d1 a2 b2 c2 d2 a3 b3 c3 d3 a b c d za zb zc zd va0 vb0 vc0 vd0 va1 vb1 vc1 vd1 va2 vb2 vc2 vd2 va3 vb3 vc3 vd3 p0 e0 q0 f0 p1 e1 q1 f1 g0 g1 g2 g3 x i2 l0 l1 l2 l3 y0 h0 h1 t).runc Kc := by kernel_rfl
def U_dwt_Merge_4 (kk a b c d za zb zc zd p0 e0 q0 f0 p1 e1 q1 f1 oa ob oc od y : Int) (y0 h0 h1 v : List Int) : LT :=
  (.br (decide (y < d))
    (.br (small (List.length (plRow p0 e0 q0 f0 h0 y)) && small (List.length (plRow p1 e1 q1 f1 h1 y)))
     (.br ((iv (plRow p0 e0 q0 f0 h0 y) (plRow p1 e1 q1 f1 h1 y) a kk).2 != 0)
      (.leaf Ex.ret [.one (.ptr 0 0), .one (.int .i64 (iv (plRow p0 e0 q0 f0 h0 y) (plRow p1 e1 q1 f1 h1 y) a kk).2)] [some (.box [.int .i64 0, .int .i64 0, .int .i64 0, .int .i64 0, .row 1]), some (.arr 3 (.int .i64) ([] : List (Int)))])
      (.br (decide ((List.length v + List.length (iv (plRow p0 e0 q0 f0 h0 y) (plRow p1 e1 q1 f1 h1 y) a kk).1) * 9 ≤ 140737488355328))
       (.leaf Ex.normal [.one (.int .i64 kk), .one (.ptr 0 0), .one (.ptr 1 0), .one (.ptr 2 0), .one (.ptr 3 0), .one (.int .i64 (IntKind.wrap .i64 (y + 1)))] [some (.box [.int .i64 a, .int .i64 b, .int .i64 c, .int .i64 d]), some (.box [.int .i64 za, .int .i64 zb, .int .i64 zc, .int .i64 zd, .row 4]), some (.box [.int .i64 p0, .int .i64 e0, .int .i64 q0, .int .i64 f0, .row 5, .int .i64 p1, .int .i64 e1, .int .i64 q1, .int .i64 f1, .row 6]), some (.box [.int .i64 oa, .int .i64 ob, .int .i64 oc, .int .i64 od, .row 7]), some (.arr 3 (.int .i64) y0), some (.arr 3 (.int .i64) h0), some (.arr 3 (.int .i64) h1), some (.arr 3 (.int .i64) (v ++ (iv (plRow p0 e0 q0 f0 h0 y) (plRow p1 e1 q1 f1 h1 y) a kk).1))])
       .no))
     .no)
    (.leaf (Ex.exit 8) [.one (.ptr 0 0), .one (.ptr 1 0)] [some (.box [.int .i64 za, .int .i64 zb, .int .i64 zc, .int .i64 zd, .row 2]), some (.box [.int .i64 oa, .int .i64 ob, .int .i64 oc, .int .i64 od, .row 3]), some (.arr 3 (.int .i64) y0), some (.arr 3 (.int .i64) v)]))
def T_dwt_Merge_4 : TT := fun vs bl => (D_dwt_Merge_4 vs bl fun kk a b c d za zb zc zd p0 e0 q0 f0 p1 e1 q1 f1 oa ob oc od y y0 h0 h1 v => some (U_dwt_Merge_4 kk a b c d za zb zc zd p0 e0 q0 f0 p1 e1 q1 f1 oa ob oc od y y0 h0 h1 v)).getD .no
theorem tu_dwt_Merge_4 (kk a b c d za zb zc zd p0 e0 q0 f0 p1 e1 q1 f1 oa ob oc od y : Int) (y0 h0 h1 v : List Int) : T_dwt_Merge_4 [.one (.int .i64 kk), .one (.ptr 0 0), .one (.ptr 1 0), .one (.ptr 2 0), .one (.ptr 3 0), .one (.int .i64 y)] [some (.box [.int .i64 a, .int .i64 b, .int .i64 c, .int .i64 d]), some (.box [.int .i64 za, .int .i64 zb, .int .i64 zc, .int .i64 zd, .row 4]), some (.box [.int .i64 p0, .int .i64 e0, .int .i64 q0, .int .i64 f0, .row 5, .int .i64 p1, .int .i64 e1, .int .i64 q1, .int .i64 f1, .row 6]), some (.box [.int .i64 oa, .int .i64 ob, .int .i64 oc, .int .i64 od, .row 7]), some (.arr 3 (.int .i64) y0), some (.arr 3 (.int .i64) h0), some (.arr 3 (.int .i64) h1), some (.arr 3 (.int .i64) v)] = U_dwt_Merge_4 kk a b c d za zb zc zd p0 e0 q0 f0 p1 e1 q1 f1 oa ob oc od y y0 h0 h1 v := by kernel_rfl
theorem b_dwt_Merge_4 (kk a b c d za zb zc zd p0 e0 q0 f0 p1 e1 q1 f1 oa ob oc od y : Int) (y0 h0 h1 v : List Int) (Kc : KT) : exec Try.prog t_dwt_Merge (annOf []) l_dwt_Merge 20 0 (loopOf Try.f62 4) (unp 180 [2, 4, 6, 13, 23, 24] [.one (.int .i64 kk), .one (.ptr 0 0), .one (.ptr 1 0), .one (.ptr 2 0), .one (.ptr 3 0), .one (.int .i64 y)] [some (.box [.int .i64 a, .int .i64 b, .int .i64 c, .int .i64 d]), some (.box [.int .i64 za, .int .i64 zb, .int .i64 zc, .int .i64 zd, .row 4]), some (.box [.int .i64 p0, .int .i64 e0, .int .i64 q0, .int .i64 f0, .row 5, .int .i64 p1, .int .i64 e1, .int .i64 q1, .int .i64 f1, .row 6]), some (.box [.int .i64 oa, .int .i64 ob, .int .i64 oc, .int .i64 od, .row 7]), some (.arr 3 (.int .i64) y0), some (.arr 3 (.int .i64) h0), some (.arr 3 (.int .i64) h1), some (.arr 3 (.int .i64) v)]) (endc 0 180 [2, 4, 6, 13, 23, 24] (kxOf [6, 23] [6, 7]) Kc) =
  (U_dwt_Merge_4 kk a b c d za zb zc zd p0 e0 q0 f0 p1 e1 q1 f1 oa ob oc od y y0 h0 h1 v).runc Kc := by kernel_rfl
def t_ref05_rows : FuncId → Option Summ := tabOf []
def l_ref05_rows : Nat → Option LSumm := ltOf [(5, ⟨0, 36, [0, 3, 4], (kxOf [3] [2]), S_ref05_rows_0⟩), (8, ⟨0, 36, [0, 3, 4, 5], (kxOf [0, 3, 4] [2]), S_ref05_rows_1⟩)]
theorem e_ref05_rows (l : List (List Int)) : funR Try.prog t_ref05_rows (annOf []) l_ref05_rows 20 Try.f96 [.one (.lst (.sl (.int .i64)) l)] [] =
  (ite2 ((↑(List.length l) : Int) == 0)
  (some ⟨.one (.row 0), [], [.arr 3 (.int .i64) ([] : List (Int))]⟩)
  (ite2 (k_ref05_rows_0 0 l [])
   (some ⟨.one (.row 0), [], [.arr 3 (.int .i64) (rowsM l (List.length (gL l 0)))]⟩)
   none)) := by kernel_rfl
def U_ref05_rows_0 (y : Int) (l : List (List Int)) (v : List Int) : LT :=
  (.br (decide ((0 : Int) ≤ 0 ∧ 0 < (↑(List.length l) : Int)))
    (.br (decide (y < (↑(List.length (gL l 0)) : Int)))
     (.br (k_ref05_rows_1 y 0 l v)
      (.leaf Ex.normal [.one (.lst (.sl (.int .i64)) l), .one (.row 0), .one (.int .i64 (IntKind.wrap .i64 (y + 1)))] [some (.arr 3 (.int .i64) (v ++ rowsP l (Int.toNat y) (List.length l)))])
      .no)
     (.leaf (Ex.exit 0) [.one (.row 0)] [some (.arr 3 (.int .i64) v)]))
    .no)
def T_ref05_rows_0 : TT := fun vs bl => (D_ref05_rows_0 vs bl fun y l v => some (U_ref05_rows_0 y l v)).getD .no
theorem tu_ref05_rows_0 (y : Int) (l : List (List Int)) (v : List Int) : T_ref05_rows_0 [.one (.lst (.sl (.int .i64)) l), .one (.row 0), .one (.int .i64 y)] [some (.arr 3 (.int .i64) v)] = U_ref05_rows_0 y l v := by kernel_rfl
theorem b_ref05_rows_0 (y : Int) (l : List (List Int)) (v : List Int) (Kc : KT) : exec Try.prog t_ref05_rows (annOf []) l_ref05_rows 20 0 (loopOf Try.f96 0) (unp 36 [0, 3, 4] [.one (.lst (.sl (.int .i64)) l), .one (.row 0), .one (.int .i64 y)] [some (.arr 3 (.int .i64) v)]) (endc 0 36 [0, 3, 4] (kxOf [3] [2]) Kc) =
  (U_ref05_rows_0 y l v).runc Kc := by kernel_rfl
def U_ref05_rows_1 (y x : Int) (l : List (List Int)) (v : List Int) : LT :=
  (.br (decide (x < (↑(List.length l) : Int)))
    (.br (decide (0 ≤ x ∧ x < (↑(List.length l) : Int)))
     (.br (decide (0 ≤ y ∧ y < (↑(List.length (gL l (Int.toNat x))) : Int)))
      (.br (decide ((List.length v + List.length [gI (gL l (Int.toNat x)) (Int.toNat y)]) * 9 ≤ 140737488355328))
       (.leaf Ex.normal [.one (.lst (.sl (.int .i64)) l), .one (.row 0), .one (.int .i64 y), .one (.int .i64 (IntKind.wrap .i64 (x + 1)))] [some (.arr 3 (.int .i64) (v ++ [gI (gL l (Int.toNat x)) (Int.toNat y)]))])
       .no)
      .no)
     .no)
    (.leaf (Ex.exit 2) [.one (.lst (.sl (.int .i64)) l), .one (.row 0), .one (.int .i64 y)] [some (.arr 3 (.int .i64) v)]))
def T_ref05_rows_1 : TT := fun vs bl => (D_ref05_rows_1 vs bl fun y x l v => some (U_ref05_rows_1 y x l v)).getD .no
theorem tu_ref05_rows_1 (y x : Int) (l : List (List Int)) (v : List Int) : T_ref05_rows_1 [.one (.lst (.sl (.int .i64)) l), .one (.row 0), .one (.int .i64 y), .one (.int .i64 x)] [some (.arr 3 (.int .i64) v)] = U_ref05_rows_1 y x l v := by kernel_rfl
theorem b_ref05_rows_1 (y x : Int) (l : List (List Int)) (v : List Int) (Kc : KT) : exec Try.prog t_ref05_rows (annOf []) l_ref05_rows 20 0 (loopOf Try.f96 1) (unp 36 [0, 3, 4, 5] [.one (.lst (.sl (.int .i64)) l), .one (.row 0), .one (.int .i64 y), .one (.int .i64 x)] [some (.arr 3 (.int .i64) v)]) (endc 0 36 [0, 3, 4, 5] (kxOf [0, 3, 4] [2]) Kc) =
  (U_ref05_rows_1 y x l v).runc Kc := by kernel_rfl
def t_ref05_restore : FuncId → Option Summ := tabOf [(85, G_ref04_Inverse), (96, G_ref05_rows)]
def l_ref05_restore : Nat → Option LSumm := ltOf [(4, ⟨0, 81, [2, 3, 4, 5, 9, 10, 11], (kxOf [10] [8]), S_ref05_restore_0⟩), (8, ⟨0, 81, [2, 3, 4, 5, 9, 10, 11, 12, 13, 14], (kxOf [2, 3, 4, 5, 9, 10, 11, 12, 13] [8]), S_ref05_restore_1⟩), (12, ⟨0, 81, [2, 3, 4, 5, 9, 10, 11, 12, 13, 15], (kxOf [2, 3, 4, 5, 9, 10, 11, 12, 13] [8]), S_ref05_restore_2⟩)]
theorem e_ref05_restore (a b c d a1 b1 c1 d1 s k : Int) (l m : List Int) : funR Try.prog t_ref05_restore (annOf []) l_ref05_restore 20 Try.f84 [.agg [.int .i64 a, .int .i64 b, .int .i64 c, .int .i64 d, .lst (.int .i64) l], .agg [.int .i64 a1, .int .i64 b1, .int .i64 c1, .int .i64 d1, .lst (.int .i64) m], .one (.int .i64 s), .one (.int .i64 k)] [] =
  (ite2 (k_ref05_restore_0 a b c d a1 b1 c1 d1 s k (IntKind.wrap .i64 (c - a)) 0 l m [])
  (ite2 (rowsOk (colsL (mgCol l m (Int.toNat (c - a)) (Int.toNat (d - b)) (Int.toNat (d1 - b1)) s k) (Int.toNat (c - a))))
   (some ⟨.one (.row 0), [], [.arr 3 (.int .i64) (rowsM (colsL (mgCol l m (Int.toNat (c - a)) (Int.toNat (d - b)) (Int.toNat (d1 - b1)) s k) (Int.toNat (c - a))) (List.length (gL (colsL (mgCol l m (Int.toNat (c - a)) (Int.toNat (d - b)) (Int.toNat (d1 - b1)) s k) (Int.toNat (c - a))) 0)))]⟩)
   none)
  none) := by kernel_rfl
def U_ref05_restore_0 (a b c d a1 b1 c1 d1 s kk g x : Int) (l m : List Int) (p : List (List Int)) : LT :=
  (.br (decide (x < g))
    (.br (k_ref05_restore_1 a b c d a1 b1 c1 d1 s kk g x x l m [] [] p)
     (.br (k_ref05_restore_2 a b c d a1 b1 c1 d1 s kk g x x l m (colOf l (Int.toNat (c - a)) (Int.toNat x) (Int.toNat (d - b))) [] p)
      (.br (small (List.length (colOf l (Int.toNat (c - a)) (Int.toNat x) (Int.toNat (d - b)))) && small (List.length (colOf m (Int.toNat (c1 - a1)) (Int.toNat x) (Int.toNat (d1 - b1)))))
       (.br (decide ((List.length p + List.length [(iv (colOf l (Int.toNat (c - a)) (Int.toNat x) (Int.toNat (d - b))) (colOf m (Int.toNat (c1 - a1)) (Int.toNat x) (Int.toNat (d1 - b1))) s kk).1]) * 25 ≤ 140737488355328))
        (.leaf Ex.normal [.one (.int .i64 s), .one (.int .i64 kk), .one (.ptr 0 0), .one (.ptr 1 0), .one (.int .i64 g), .one (.row 2), .one (.int .i64 (IntKind.wrap .i64 (x + 1)))] [some (.box [.int .i64 a, .int .i64 b, .int .i64 c, .int .i64 d, .lst (.int .i64) l]), some (.box [.int .i64 a1, .int .i64 b1, .int .i64 c1, .int .i64 d1, .lst (.int .i64) m]), some (.arr 26 (.sl (.int .i64)) (p ++ [(iv (colOf l (Int.toNat (c - a)) (Int.toNat x) (Int.toNat (d - b))) (colOf m (Int.toNat (c1 - a1)) (Int.toNat x) (Int.toNat (d1 - b1))) s kk).1]))])
        .no)
       .no)
      .no)
     .no)
    (.leaf (Ex.exit 0) [.one (.row 0)] [some (.arr 26 (.sl (.int .i64)) p)]))
def T_ref05_restore_0 : TT := fun vs bl => (D_ref05_restore_0 vs bl fun a b c d a1 b1 c1 d1 s kk g x l m p => some (U_ref05_restore_0 a b c d a1 b1 c1 d1 s kk g x l m p)).getD .no
theorem tu_ref05_restore_0 (a b c d a1 b1 c1 d1 s kk g x : Int) (l m : List Int) (p : List (List Int)) : T_ref05_restore_0 [.one (.int .i64 s), .one (.int .i64 kk), .one (.ptr 0 0), .one (.ptr 1 0), .one (.int .i64 g), .one (.row 2), .one (.int .i64 x)] [some (.box [.int .i64 a, .int .i64 b, .int .i64 c, .int .i64 d, .lst (.int .i64) l]), some (.box [.int .i64 a1, .int .i64 b1, .int .i64 c1, .int .i64 d1, .lst (.int .i64) m]), some (.arr 26 (.sl (.int .i64)) p)] = U_ref05_restore_0 a b c d a1 b1 c1 d1 s kk g x l m p := by kernel_rfl
theorem b_ref05_restore_0 (a b c d a1 b1 c1 d1 s kk g x : Int) (l m : List Int) (p : List (List Int)) (Kc : KT) : exec Try.prog t_ref05_restore (annOf []) l_ref05_restore 20 0 (loopOf Try.f84 0) (unp 81 [2, 3, 4, 5, 9, 10, 11] [.one (.int .i64 s), .one (.int .i64 kk), .one (.ptr 0 0), .one (.ptr 1 0), .one (.int .i64 g), .one (.row 2), .one (.int .i64 x)] [some (.box [.int .i64 a, .int .i64 b, .int .i64 c, .int .i64 d, .lst (.int .i64) l]), some (.box [.int .i64 a1, .int .i64 b1, .int .i64 c1, .int .i64 d1, .lst (.int .i64) m]), some (.arr 26 (.sl (.int .i64)) p)]) (endc 0 81 [2, 3, 4, 5, 9, 10, 11] (kxOf [10] [8]) Kc) =
  (U_ref05_restore_0 a b c d a1 b1 c1 d1 s kk g x l m p).runc Kc := by kernel_rfl
def U_ref05_restore_1 (a b c d a1 b1 c1 d1 s kk g x i : Int) (l m v u : List Int) (p : List (List Int)) : LT :=
  (.br (decide (i < (↑(List.length l) : Int)))
    (.br (decide (0 ≤ i ∧ i < (↑(List.length l) : Int)))
     (.br (decide ((List.length v + List.length [gI l (Int.toNat i)]) * 9 ≤ 140737488355328))
      (.leaf Ex.normal [.one (.int .i64 s), .one (.int .i64 kk), .one (.ptr 0 0), .one (.ptr 1 0), .one (.int .i64 g), .one (.row 2), .one (.int .i64 x), .one (.row 3), .one (.row 4), .one (.int .i64 (IntKind.wrap .i64 (i + g)))] [some (.box [.int .i64 a, .int .i64 b, .int .i64 c, .int .i64 d, .lst (.int .i64) l]), some (.box [.int .i64 a1, .int .i64 b1, .int .i64 c1, .int .i64 d1, .lst (.int .i64) m]), some (.arr 26 (.sl (.int .i64)) p), some (.arr 3 (.int .i64) (v ++ [gI l (Int.toNat i)])), some (.arr 3 (.int .i64) u)])
      .no)
     .no)
    (.leaf (Ex.exit 2) [.one (.int .i64 s), .one (.int .i64 kk), .one (.ptr 0 0), .one (.ptr 1 0), .one (.int .i64 g), .one (.row 2), .one (.int .i64 x), .one (.row 3), .one (.row 4)] [some (.box [.int .i64 a, .int .i64 b, .int .i64 c, .int .i64 d, .lst (.int .i64) l]), some (.box [.int .i64 a1, .int .i64 b1, .int .i64 c1, .int .i64 d1, .lst (.int .i64) m]), some (.arr 26 (.sl (.int .i64)) p), some (.arr 3 (.int .i64) v), some (.arr 3 (.int .i64) u)]))
def T_ref05_restore_1 : TT := fun vs bl => (D_ref05_restore_1 vs bl fun a b c d a1 b1 c1 d1 s kk g x i l m v u p => some (U_ref05_restore_1 a b c d a1 b1 c1 d1 s kk g x i l m v u p)).getD .no
theorem tu_ref05_restore_1 (a b c d a1 b1 c1 d1 s kk g x i : Int) (l m v u : List Int) (p : List (List Int)) : T_ref05_restore_1 [.one (.int .i64 s), .one (.int .i64 kk), .one (.ptr 0 0), .one (.ptr 1 0), .one (.int .i64 g), .one (.row 2), .one (.int .i64 x), .one (.row 3), .one (.row 4), .one (.int .i64 i)] [some (.box [.int .i64 a, .int .i64 b, .int .i64 c, .int .i64 d, .lst (.int .i64) l]), some (.box [.int .i64 a1, .int .i64 b1, .int .i64 c1, .int .i64 d1, .lst (.int .i64) m]), some (.arr 26 (.sl (.int .i64)) p), some (.arr 3 (.int .i64) v), some (.arr 3 (.int .i64) u)] = U_ref05_restore_1 a b c d a1 b1 c1 d1 s kk g x i l m v u p := by kernel_rfl
theorem b_ref05_restore_1 (a b c d a1 b1 c1 d1 s kk g x i : Int) (l m v u : List Int) (p : List (List Int)) (Kc : KT) : exec Try.prog t_ref05_restore (annOf []) l_ref05_restore 20 0 (loopOf Try.f84 1) (unp 81 [2, 3, 4, 5, 9, 10, 11, 12, 13, 14] [.one (.int .i64 s), .one (.int .i64 kk), .one (.ptr 0 0), .one (.ptr 1 0), .one (.int .i64 g), .one (.row 2), .one (.int .i64 x), .one (.row 3), .one (.row 4), .one (.int .i64 i)] [some (.box [.int .i64 a, .int .i64 b, .int .i64 c, .int .i64 d, .lst (.int .i64) l]), some (.box [.int .i64 a1, .int .i64 b1, .int .i64 c1, .int .i64 d1, .lst (.int .i64) m]), some (.arr 26 (.sl (.int .i64)) p), some (.arr 3 (.int .i64) v), some (.arr 3 (.int .i64) u)]) (endc 0 81 [2, 3, 4, 5, 9, 10, 11, 12, 13, 14] (kxOf [2, 3, 4, 5, 9, 10, 11, 12, 13] [8]) Kc) =
  (U_ref05_restore_1 a b c d a1 b1 c1 d1 s kk g x i l m v u p).runc Kc := by kernel_rfl
def U_ref05_restore_2 (a b c d a1 b1 c1 d1 s kk g x i : Int) (l m v u : List Int) (p : List (List Int)) : LT :=
  (.br (decide (i < (↑(List.length m) : Int)))
    (.br (decide (0 ≤ i ∧ i < (↑(List.length m) : Int)))
     (.br (decide ((List.length u + List.length [gI m (Int.toNat i)]) * 9 ≤ 140737488355328))
      (.leaf Ex.normal [.one (.int .i64 s), .one (.int .i64 kk), .one (.ptr 0 0), .one (.ptr 1 0), .one (.int .i64 g), .one (.row 2), .one (.int .i64 x), .one (.row 3), .one (.row 4), .one (.int .i64 (IntKind.wrap .i64 (i + g)))] [some (.box [.int .i64 a, .int .i64 b, .int .i64 c, .int .i64 d, .lst (.int .i64) l]), some (.box [.int .i64 a1, .int .i64 b1, .int .i64 c1, .int .i64 d1, .lst (.int .i64) m]), some (.arr 26 (.sl (.int .i64)) p), some (.arr 3 (.int .i64) v), some (.arr 3 (.int .i64) (u ++ [gI m (Int.toNat i)]))])
      .no)
     .no)
    (.leaf (Ex.exit 4) [.one (.int .i64 s), .one (.int .i64 kk), .one (.ptr 0 0), .one (.ptr 1 0), .one (.int .i64 g), .one (.row 2), .one (.int .i64 x), .one (.row 3), .one (.row 4)] [some (.box [.int .i64 a, .int .i64 b, .int .i64 c, .int .i64 d, .lst (.int .i64) l]), some (.box [.int .i64 a1, .int .i64 b1, .int .i64 c1, .int .i64 d1, .lst (.int .i64) m]), some (.arr 26 (.sl (.int .i64)) p), some (.arr 3 (.int .i64) v), some (.arr 3 (.int .i64) u)]))
def T_ref05_restore_2 : TT := fun vs bl => (D_ref05_restore_2 vs bl fun a b c d a1 b1 c1 d1 s kk g x i l m v u p => some (U_ref05_restore_2 a b c d a1 b1 c1 d1 s kk g x i l m v u p)).getD .no
theorem tu_ref05_restore_2 (a b c d a1 b1 c1 d1 s kk g x i : Int) (l m v u : List Int) (p : List (List Int)) : T_ref05_restore_2 [.one (.int .i64 s), .one (.int .i64 kk), .one (.ptr 0 0), .one (.ptr 1 0), .one (.int .i64 g), .one (.row 2), .one (.int .i64 x), .one (.row 3), .one (.row 4), .one (.int .i64 i)] [some (.box [.int .i64 a, .int .i64 b, .int .i64 c, .int .i64 d, .lst (.int .i64) l]), some (.box [.int .i64 a1, .int .i64 b1, .int .i64 c1, .int .i64 d1, .lst (.int .i64) m]), some (.arr 26 (.sl (.int .i64)) p), some (.arr 3 (.int .i64) v), some (.arr 3 (.int .i64) u)] = U_ref05_restore_2 a b c d a1 b1 c1 d1 s kk g x i l m v u p := by kernel_rfl
theorem b_ref05_restore_2 (a b c d a1 b1 c1 d1 s kk g x i : Int) (l m v u : List Int) (p : List (List Int)) (Kc : KT) : exec Try.prog t_ref05_restore (annOf []) l_ref05_restore 20 0 (loopOf Try.f84 2) (unp 81 [2, 3, 4, 5, 9, 10, 11, 12, 13, 15] [.one (.int .i64 s), .one (.int .i64 kk), .one (.ptr 0 0), .one (.ptr 1 0), .one (.int .i64 g), .one (.row 2), .one (.int .i64 x), .one (.row 3), .one (.row 4), .one (.int .i64 i)] [some (.box [.int .i64 a, .int .i64 b, .int .i64 c, .int .i64 d, .lst (.int .i64) l]), some (.box [.int .i64 a1, .int .i64 b1, .int .i64 c1, .int .i64 d1, .lst (.int .i64) m]), some (.arr 26 (.sl (.int .i64)) p), some (.arr 3 (.int .i64) v), some (.arr 3 (.int .i64) u)]) (endc 0 81 [2, 3, 4, 5, 9, 10, 11, 12, 13, 15] (kxOf [2, 3, 4, 5, 9, 10, 11, 12, 13] [8]) Kc) =
  (U_ref05_restore_2 a b c d a1 b1 c1 d1 s kk g x i l m v u p).runc Kc := by kernel_rfl
def t_ref05_Merge : FuncId → Option Summ := tabOf [(42, G_ref02_Valid), (43, G_ref05_Known), (44, G_ref05_Above), (49, G_ref01_Valid), (53, G_ref05_Bands), (63, G_ref01_Area), (84, G_ref05_restore), (85, G_ref04_Inverse)]
def l_ref05_Merge : Nat → Option LSumm := ltOf [(20, ⟨0, 137, [2, 4, 6, 11, 12, 13, 14, 15, 16], (kxOf [6, 15] [6, 7]), S_ref05_Merge_2⟩)]
theorem e_ref05_Merge (a0 b0 c0 d0 a1 b1 c1 d1 a2 b2 c2 d2 a3 b3 c3 d3 a b c d k : Int) (l0 l1 l2 l3 : List Int) : funR Try.prog t_ref05_Merge (annOf []) l_ref05_Merge 20 Try.f64 [.agg [.int .i64 a0, .int .i64 b0, .int .i64 c0, .int .i64 d0, .lst (.int .i64) l0, .int .i64 a1, .int .i64 b1, .int .i64 c1, .int .i64 d1, .lst (.int .i64) l1, .int .i64 a2, .int .i64 b2, .int .i64 c2, .int .i64 d2, .lst (.int .i64) l2, .int .i64 a3, .int .i64 b3, .int .i64 c3, .int .i64 d3, .lst (.int .i64) l3], .agg [.int .i64 a, .int .i64 b, .int .i64 c, .int .i64 d], .one (.int .i64 k)] [] =
  (ite2 (!valid a b c d)
  (some ⟨.tup [(true, [.int .i64 0, .int .i64 0, .int .i64 0, .int .i64 0, .row 0]), (false, [.int .i64 2])], [], [.arr 3 (.int .i64) ([] : List (Int))]⟩)
  (ite2 (decide (area a b c d > 1048576))
   (some ⟨.tup [(true, [.int .i64 0, .int .i64 0, .int .i64 0, .int .i64 0, .row 0]), (false, [.int .i64 2])], [], [.arr 3 (.int .i64) ([] : List (Int))]⟩)
   (ite2 (!inr 1 3 k)
    (some ⟨.tup [(true, [.int .i64 0, .int .i64 0, .int .i64 0, .int .i64 0, .row 0]), (false, [.int .i64 3])], [], [.arr 3 (.int .i64) ([] : List (Int))]⟩)
    (ite2 (!(a0 == (bnd a b c d 0).1 && (b0 == (bnd a b c d 0).2.1 && (c0 == (bnd a b c d 0).2.2.1 && (d0 == (bnd a b c d 0).2.2.2 && true)))))
     (some ⟨.tup [(true, [.int .i64 0, .int .i64 0, .int .i64 0, .int .i64 0, .row 0]), (false, [.int .i64 1])], [], [.arr 3 (.int .i64) ([] : List (Int))]⟩)
     (ite2 (!plV a0 b0 c0 d0 l0)
      (some ⟨.tup [(true, [.int .i64 0, .int .i64 0, .int .i64 0, .int .i64 0, .row 0]), (false, [.int .i64 1])], [], [.arr 3 (.int .i64) ([] : List (Int))]⟩)
      (ite2 (!(a1 == (bnd a b c d 1).1 && (b1 == (bnd a b c d 1).2.1 && (c1 == (bnd a b c d 1).2.2.1 && (d1 == (bnd a b c d 1).2.2.2 && true)))))
       (some ⟨.tup [(true, [.int .i64 0, .int .i64 0, .int .i64 0, .int .i64 0, .row 0]), (false, [.int .i64 1])], [], [.arr 3 (.int .i64) ([] : List (Int))]⟩)
       (ite2 (!plV a1 b1 c1 d1 l1)
        (some ⟨.tup [(true, [.int .i64 0, .int .i64 0, .int .i64 0, .int .i64 0, .row 0]), (false, [.int .i64 1])], [], [.arr 3 (.int .i64) ([] : List (Int))]⟩)
        (ite2 (!(a2 == (bnd a b c d 2).1 && (b2 == (bnd a b c d 2).2.1 && (c2 == (bnd a b c d 2).2.2.1 && (d2 == (bnd a b c d 2).2.2.2 && true)))))
         (some ⟨.tup [(true, [.int .i64 0, .int .i64 0, .int .i64 0, .int .i64 0, .row 0]), (false, [.int .i64 1])], [], [.arr 3 (.int .i64) ([] : List (Int))]⟩)
         (ite2 (!plV a2 b2 c2 d2 l2)
          (some ⟨.tup [(true, [.int .i64 0, .int .i64 0, .int .i64 0, .int .i64 0, .row 0]), (false, [.int .i64 1])], [], [.arr 3 (.int .i64) ([] : List (Int))]⟩)
          (ite2 (!(a3 == (bnd a b c d 3).1 && (b3 == (bnd a b c d 3).2.1 && (c3 == (bnd a b c d 3).2.2.1 && (d3 == (bnd a b c d 3).2.2.2 && true)))))
           (some ⟨.tup [(true, [.int .i64 0, .int .i64 0, .int .i64 0, .int .i64 0, .row 0]), (false, [.int .i64 1])], [], [.arr 3 (.int .i64) ([] : List (Int))]⟩)
           (ite2 (!plV a3 b3 c3 d3 l3)
            (some ⟨.tup [(true, [.int .i64 0, .int .i64 0, .int .i64 0, .int .i64 0, .row 0]), (false, [.int .i64 1])], [], [.arr 3 (.int .i64) ([] : List (Int))]⟩)
            (ite2 (small (List.length l0) && true)
             (ite2 (!fitB 281474976710656 l0)
              (some ⟨.tup [(true, [.int .i64 0, .int .i64 0, .int .i64 0, .int .i64 0, .row 0]), (false, [.int .i64 2])], [], [.arr 3 (.int .i64) ([] : List (Int))]⟩)
              (ite2 (small (List.length l1) && true)
               (ite2 (!fitB 281474976710656 l1)
                (some ⟨.tup [(true, [.int .i64 0, .int .i64 0, .int .i64 0, .int .i64 0, .row 0]), (false, [.int .i64 2])], [], [.arr 3 (.int .i64) ([] : List (Int))]⟩)
                (ite2 (small (List.length l2) && true)
                 (ite2 (!fitB 281474976710656 l2)
                  (some ⟨.tup [(true, [.int .i64 0, .int .i64 0, .int .i64 0, .int .i64 0, .row 0]), (false, [.int .i64 2])], [], [.arr 3 (.int .i64) ([] : List (Int))]⟩)
                  (ite2 (small (List.length l3) && true)
                   (ite2 (!fitB 281474976710656 l3)
                    (some ⟨.tup [(true, [.int .i64 0, .int .i64 0, .int .i64 0, .int .i64 0, .row 0]), (false, [.int .i64 2])], [], [.arr 3 (.int .i64) ([] : List (Int))]⟩)
                    (ite2 (plV a0 b0 c0 d0 l0 && plV a2 b2 c2 d2 l2 && inr 1 3 k && inr 0 4096 b && fitB 281474976710656 l0 && fitB 281474976710656 l2 && decide (c2 - a2 = c0 - a0) && inr 0 4096 (d0 - b0 + (d2 - b2)) && decide (d0 - b0 = cev b (d0 - b0 + (d2 - b2))))
                     (ite2 (plV a1 b1 c1 d1 l1 && plV a3 b3 c3 d3 l3 && inr 1 3 k && inr 0 4096 b && fitB 281474976710656 l1 && fitB 281474976710656 l3 && decide (c3 - a3 = c1 - a1) && inr 0 4096 (d1 - b1 + (d3 - b3)) && decide (d1 - b1 = cev b (d1 - b1 + (d3 - b3))))
                      (ite2 (k_ref05_Merge_2 k a b c d 0 0 0 0 (IntKind.wrap .i64 ((bnd a b c d 0).2.2.1 - (bnd a b c d 0).1)) (IntKind.wrap .i64 ((bnd a b c d 1).2.2.1 - (bnd a b c d 1).1)) a b c d 0 (matC (Int.toNat (d0 - b0 + (d2 - b2))) (Int.toNat (c0 - a0)) (mgCol l0 l2 (Int.toNat (c0 - a0)) (Int.toNat (d0 - b0)) (Int.toNat (d2 - b2)) b k)) (matC (Int.toNat (d1 - b1 + (d3 - b3))) (Int.toNat (c1 - a1)) (mgCol l1 l3 (Int.toNat (c1 - a1)) (Int.toNat (d1 - b1)) (Int.toNat (d3 - b3)) b k)) [] [])
                      (some ⟨.tup [(true, [.int .i64 a, .int .i64 b, .int .i64 c, .int .i64 d, .row 0]), (false, [.int .i64 0])], [], [.arr 3 (.int .i64) (catR (mgRow (matC (Int.toNat (d0 - b0 + (d2 - b2))) (Int.toNat (c0 - a0)) (mgCol l0 l2 (Int.toNat (c0 - a0)) (Int.toNat (d0 - b0)) (Int.toNat (d2 - b2)) b k)) (matC (Int.toNat (d1 - b1 + (d3 - b3))) (Int.toNat (c1 - a1)) (mgCol l1 l3 (Int.toNat (c1 - a1)) (Int.toNat (d1 - b1)) (Int.toNat (d3 - b3)) b k)) (Int.toNat (IntKind.wrap .i64 ((bnd a b c d 0).2.2.1 - (bnd a b c d 0).1))) (Int.toNat (IntKind.wrap .i64 ((bnd a b c d 1).2.2.1 - (bnd a b c d 1).1))) a k) (Int.toNat (d - b)))]⟩)
                      none)
                      none)
                     none))
                   none))
                 none))
               none))
             none)))))))))))) := by kernel_rfl
def U_ref05_Merge_2 (kk a b c d za zb zc zd g0 g1 oa ob oc od y : Int) (h0 h1 y0 v : List Int) : LT :=
  let z1_ := IntKind.wrap .i64 (y + 1) * g0; let z2_ := IntKind.wrap .i64 (y + 1) * g1; let z3_ := IntKind.wrap .i64 (y * g0); let z4_ := IntKind.wrap .i64 (y * g1); (.br (decide (y < IntKind.wrap .i64 (d - b)))
    (.br (decide (0 ≤ IntKind.wrap .i64 z1_ ∧ IntKind.wrap .i64 z1_ ≤ (↑(List.length h0) : Int)) && decide (0 ≤ IntKind.wrap .i64 (y * g0) ∧ IntKind.wrap .i64 (y * g0) ≤ (↑(Int.toNat (IntKind.wrap .i64 z1_)) : Int)))
     (.br (decide (0 ≤ IntKind.wrap .i64 z2_ ∧ IntKind.wrap .i64 z2_ ≤ (↑(List.length h1) : Int)) && decide (0 ≤ IntKind.wrap .i64 (y * g1) ∧ IntKind.wrap .i64 (y * g1) ≤ (↑(Int.toNat (IntKind.wrap .i64 z2_)) : Int)))
      (.br (small (List.length (List.take (Int.toNat (IntKind.wrap .i64 z1_) - Int.toNat z3_) (List.drop (Int.toNat z3_) h0))) && small (List.length (List.take (Int.toNat (IntKind.wrap .i64 z2_) - Int.toNat z4_) (List.drop (Int.toNat z4_) h1))))
       (.br (decide ((List.length v + List.length (iv (List.take (Int.toNat (IntKind.wrap .i64 z1_) - Int.toNat z3_) (List.drop (Int.toNat z3_) h0)) (List.take (Int.toNat (IntKind.wrap .i64 z2_) - Int.toNat z4_) (List.drop (Int.toNat z4_) h1)) a kk).1) * 9 ≤ 140737488355328))
        (.leaf Ex.normal [.one (.int .i64 kk), .one (.ptr 0 0), .one (.ptr 1 0), .one (.row 2), .one (.row 3), .one (.int .i64 g0), .one (.int .i64 g1), .one (.ptr 4 0), .one (.int .i64 (IntKind.wrap .i64 (y + 1)))] [some (.box [.int .i64 a, .int .i64 b, .int .i64 c, .int .i64 d]), some (.box [.int .i64 za, .int .i64 zb, .int .i64 zc, .int .i64 zd, .row 5]), some (.arr 3 (.int .i64) h0), some (.arr 3 (.int .i64) h1), some (.box [.int .i64 oa, .int .i64 ob, .int .i64 oc, .int .i64 od, .row 6]), some (.arr 3 (.int .i64) y0), some (.arr 3 (.int .i64) (v ++ (iv (List.take (Int.toNat (IntKind.wrap .i64 z1_) - Int.toNat z3_) (List.drop (Int.toNat z3_) h0)) (List.take (Int.toNat (IntKind.wrap .i64 z2_) - Int.toNat z4_) (List.drop (Int.toNat z4_) h1)) a kk).1))])
        .no)
       .no)
      .no)
     .no)
    (.leaf (Ex.exit 4) [.one (.ptr 0 0), .one (.ptr 1 0)] [some (.box [.int .i64 za, .int .i64 zb, .int .i64 zc, .int .i64 zd, .row 2]), some (.box [.int .i64 oa, .int .i64 ob, .int .i64 oc, .int .i64 od, .row 3]), some (.arr 3 (.int .i64) y0), some (.arr 3 (.int .i64) v)]))
def T_ref05_Merge_2 : TT := fun vs bl => (D_ref05_Merge_2 vs bl fun kk a b c d za zb zc zd g0 g1 oa ob oc od y h0 h1 y0 v => some (U_ref05_Merge_2 kk a b c d za zb zc zd g0 g1 oa ob oc od y h0 h1 y0 v)).getD .no
theorem tu_ref05_Merge_2 (kk a b c d za zb zc zd g0 g1 oa ob oc od y : Int) (h0 h1 y0 v : List Int) : T_ref05_Merge_2 [.one (.int .i64 kk), .one (.ptr 0 0), .one (.ptr 1 0), .one (.row 2), .one (.row 3), .one (.int .i64 g0), .one (.int .i64 g1), .one (.ptr 4 0), .one (.int .i64 y)] [some (.box [.int .i64 a, .int .i64 b, .int .i64 c, .int .i64 d]), some (.box [.int .i64 za, .int .i64 zb, .int .i64 zc, .int .i64 zd, .row 5]), some (.arr 3 (.int .i64) h0), some (.arr 3 (.int .i64) h1), some (.box [.int .i64 oa, .int .i64 ob, .int .i64 oc, .int .i64 od, .row 6]), some (.arr 3 (.int .i64) y0), some (.arr 3 (.int .i64) v)] = U_ref05_Merge_2 kk a b c d za zb zc zd g0 g1 oa ob oc od y h0 h1 y0 v := by kernel_rfl
theorem b_ref05_Merge_2 (kk a b c d za zb zc zd g0 g1 oa ob oc od y : Int) (h0 h1 y0 v : List Int) (Kc : KT) : exec Try.prog t_ref05_Merge (annOf []) l_ref05_Merge 20 0 (loopOf Try.f64 2) (unp 137 [2, 4, 6, 11, 12, 13, 14, 15, 16] [.one (.int .i64 kk), .one (.ptr 0 0), .one (.ptr 1 0), .one (.row 2), .one (.row 3), .one (.int .i64 g0), .one (.int .i64 g1), .one (.ptr 4 0), .one (.int .i64 y)] [some (.box [.int .i64 a, .int .i64 b, .int .i64 c, .int .i64 d]), some (.box [.int .i64 za, .int .i64 zb, .int .i64 zc, .int .i64 zd, .row 5]), some (.arr 3 (.int .i64) h0), some (.arr 3 (.int .i64) h1), some (.box [.int .i64 oa, .int .i64 ob, .int .i64 oc, .int .i64 od, .row 6]), some (.arr 3 (.int .i64) y0), some (.arr 3 (.int .i64) v)]) (endc 0 137 [2, 4, 6, 11, 12, 13, 14, 15, 16] (kxOf [6, 15] [6, 7]) Kc) =
  (U_ref05_Merge_2 kk a b c d za zb zc zd g0 g1 oa ob oc od y h0 h1 y0 v).runc Kc := by kernel_rfl
def t_pyr_Band : FuncId → Option Summ := tabOf [(11, G_pyr_Place), (25, G_pyr_Resolution), (46, G_rect_Valid), (48, G_dwt_Bands)]
def l_pyr_Band : Nat → Option LSumm := ltOf []
theorem e_pyr_Band (a b c d n i : Int) : funR Try.prog t_pyr_Band (annOf []) l_pyr_Band 20 Try.f27 [.agg [.int .i64 a, .int .i64 b, .int .i64 c, .int .i64 d], .one (.int .i64 n), .one (.int .i64 i)] [] =
  (let z1_ := resR a b c d n (IntKind.wrap .i64 (IntKind.wrap .i64 (n - plLv i n) + 1)); let z2_ := bnd z1_.1 z1_.2.1 z1_.2.2.1 z1_.2.2.2 0; let z3_ := bnd z1_.1 z1_.2.1 z1_.2.2.1 z1_.2.2.2 1; let z4_ := bnd z1_.1 z1_.2.1 z1_.2.2.1 z1_.2.2.2 2; let z5_ := bnd z1_.1 z1_.2.1 z1_.2.2.1 z1_.2.2.2 3; (ite2 (!plOk i n)
  (some ⟨.agg [.int .i64 0, .int .i64 0, .int .i64 0, .int .i64 0], [], []⟩)
  (ite2 (!valid a b c d)
   (some ⟨.agg [.int .i64 0, .int .i64 0, .int .i64 0, .int .i64 0], [], []⟩)
   (ite2 (i == 0)
    (some ⟨.agg [.int .i64 (resR a b c d n 0).1, .int .i64 (resR a b c d n 0).2.1, .int .i64 (resR a b c d n 0).2.2.1, .int .i64 (resR a b c d n 0).2.2.2], [], []⟩)
    (ite2 (decide (0 ≤ plOr i n ∧ plOr i n < 4))
     (some ⟨.agg [.int .i64 (gI [z2_.1, z3_.1, z4_.1, z5_.1] (Int.toNat (plOr i n))), .int .i64 (gI [z2_.2.1, z3_.2.1, z4_.2.1, z5_.2.1] (Int.toNat (plOr i n))), .int .i64 (gI [z2_.2.2.1, z3_.2.2.1, z4_.2.2.1, z5_.2.2.1] (Int.toNat (plOr i n))), .int .i64 (gI [z2_.2.2.2, z3_.2.2.2, z4_.2.2.2, z5_.2.2.2] (Int.toNat (plOr i n)))], [], []⟩)
     none))))) := by kernel_rfl
def t_ref06_Band : FuncId → Option Summ := tabOf [(12, G_ref06_Place), (26, G_ref06_Resolution), (49, G_ref01_Valid), (53, G_ref05_Bands)]
def l_ref06_Band : Nat → Option LSumm := ltOf []
theorem e_ref06_Band (a b c d n i : Int) : funR Try.prog t_ref06_Band (annOf []) l_ref06_Band 20 Try.f28 [.agg [.int .i64 a, .int .i64 b, .int .i64 c, .int .i64 d], .one (.int .i64 n), .one (.int .i64 i)] [] =
  (let z1_ := resR a b c d n (IntKind.wrap .i64 (IntKind.wrap .i64 (n - plLv i n) + 1)); let z2_ := bnd z1_.1 z1_.2.1 z1_.2.2.1 z1_.2.2.2 0; let z3_ := bnd z1_.1 z1_.2.1 z1_.2.2.1 z1_.2.2.2 1; let z4_ := bnd z1_.1 z1_.2.1 z1_.2.2.1 z1_.2.2.2 2; let z5_ := bnd z1_.1 z1_.2.1 z1_.2.2.1 z1_.2.2.2 3; (ite2 (!plOk i n)
  (some ⟨.agg [.int .i64 0, .int .i64 0, .int .i64 0, .int .i64 0], [], []⟩)
  (ite2 (!valid a b c d)
   (some ⟨.agg [.int .i64 0, .int .i64 0, .int .i64 0, .int .i64 0], [], []⟩)
   (ite2 (i == 0)
    (some ⟨.agg [.int .i64 (resR a b c d n 0).1, .int .i64 (resR a b c d n 0).2.1, .int .i64 (resR a b c d n 0).2.2.1, .int .i64 (resR a b c d n 0).2.2.2], [], []⟩)
    (ite2 (decide (0 ≤ plOr i n ∧ plOr i n < 4))
     (some ⟨.agg [.int .i64 (gI [z2_.1, z3_.1, z4_.1, z5_.1] (Int.toNat (plOr i n))), .int .i64 (gI [z2_.2.1, z3_.2.1, z4_.2.1, z5_.2.1] (Int.toNat (plOr i n))), .int .i64 (gI [z2_.2.2.1, z3_.2.2.1, z4_.2.2.1, z5_.2.2.1] (Int.toNat (plOr i n))), .int .i64 (gI [z2_.2.2.2, z3_.2.2.2, z4_.2.2.2, z5_.2.2.2] (Int.toNat (plOr i n)))], [], []⟩)
     none))))) := by kernel_rfl
def t_pyr_exceeds : FuncId → Option Summ := tabOf []
def l_pyr_exceeds : Nat → Option LSumm := ltOf [(2, ⟨0, 23, [1, 7, 8, 9], (kxOf [] [4]), S_pyr_exceeds_0⟩)]
theorem e_pyr_exceeds (l : List Int) (b : Int) : funR Try.prog t_pyr_exceeds (annOf []) l_pyr_exceeds 20 Try.f41 [.one (.lst (.int .i64) l), .one (.int .i64 b)] [] =
  (ite2 (k_pyr_exceeds_0 b l (↑(List.length l) : Int) 0)
  (ite2 (p_pyr_exceeds_0 b l)
   (some ⟨.one (.bool false), [], []⟩)
   (some ⟨.one (.bool true), [], []⟩))
  none) := by kernel_rfl
def U_pyr_exceeds_0 (b : Int) (l : List Int) (n i : Int) : LT :=
  (.br (decide (i < n))
    (.br (decide (0 ≤ i ∧ i < (↑(List.length l) : Int)))
     (.br (decide (gI l (Int.toNat i) > b))
      (.leaf Ex.ret [.one (.bool true)] [])
      (.br (decide (gI l (Int.toNat i) < IntKind.wrap .i64 (0 - b)))
       (.leaf Ex.ret [.one (.bool true)] [])
       (.leaf Ex.normal [.one (.int .i64 b), .one (.lst (.int .i64) l), .one (.int .i64 n), .one (.int .i64 (IntKind.wrap .i64 (i + 1)))] [])))
     .no)
    (.leaf (Ex.exit 0) [] []))
def T_pyr_exceeds_0 : TT := fun vs bl => (D_pyr_exceeds_0 vs bl fun b l n i => some (U_pyr_exceeds_0 b l n i)).getD .no
theorem tu_pyr_exceeds_0 (b : Int) (l : List Int) (n i : Int) : T_pyr_exceeds_0 [.one (.int .i64 b), .one (.lst (.int .i64) l), .one (.int .i64 n), .one (.int .i64 i)] [] = U_pyr_exceeds_0 b l n i := by kernel_rfl
theorem b_pyr_exceeds_0 (b : Int) (l : List Int) (n i : Int) (Kc : KT) : exec Try.prog t_pyr_exceeds (annOf []) l_pyr_exceeds 20 0 (loopOf Try.f41 0) (unp 23 [1, 7, 8, 9] [.one (.int .i64 b), .one (.lst (.int .i64) l), .one (.int .i64 n), .one (.int .i64 i)] []) (endc 0 23 [1, 7, 8, 9] (kxOf [] [4]) Kc) =
  (U_pyr_exceeds_0 b l n i).runc Kc := by kernel_rfl
def t_pyr_Need : FuncId → Option Summ := tabOf [(13, G_pyr_Count), (25, G_pyr_Resolution), (36, G_rect_Intersect), (38, G_pyr_validLevels), (40, G_lift_Margin), (46, G_rect_Valid), (47, G_rect_Empty), (48, G_dwt_Bands)]
def l_pyr_Need : Nat → Option LSumm := ltOf [(9, ⟨0, 107, [1, 5, 11, 12, 13, 14], (kxOf [12, 13] [10]), S_pyr_Need_0⟩)]
theorem e_pyr_Need (a b c d n r e f g h k : Int) : funR Try.prog t_pyr_Need (annOf []) l_pyr_Need 20 Try.f21 [.agg [.int .i64 a, .int .i64 b, .int .i64 c, .int .i64 d], .one (.int .i64 n), .one (.int .i64 r), .agg [.int .i64 e, .int .i64 f, .int .i64 g, .int .i64 h], .one (.int .i64 k)] [] =
  (let z1_ := inter e f g h (resR a b c d n r).1 (resR a b c d n r).2.1 (resR a b c d n r).2.2.1 (resR a b c d n r).2.2.2; (ite2 (!valid a b c d)
  (some ⟨.one (.row 0), [], [.arr 31 (.pair (.int .i64) (Sh.pair (Sh.int .i64) (Sh.pair (Sh.int .i64) (Sh.int .i64)))) ([] : List (Int × Int × Int × Int))]⟩)
  (ite2 (!inr 0 5 n)
   (some ⟨.one (.row 0), [], [.arr 31 (.pair (.int .i64) (Sh.pair (Sh.int .i64) (Sh.pair (Sh.int .i64) (Sh.int .i64)))) ([] : List (Int × Int × Int × Int))]⟩)
   (ite2 (decide (r < 0))
    (some ⟨.one (.row 0), [], [.arr 31 (.pair (.int .i64) (Sh.pair (Sh.int .i64) (Sh.pair (Sh.int .i64) (Sh.int .i64)))) ([] : List (Int × Int × Int × Int))]⟩)
    (ite2 (decide (r > n))
     (some ⟨.one (.row 0), [], [.arr 31 (.pair (.int .i64) (Sh.pair (Sh.int .i64) (Sh.pair (Sh.int .i64) (Sh.int .i64)))) ([] : List (Int × Int × Int × Int))]⟩)
     (ite2 (marg k == 0)
      (some ⟨.one (.row 0), [], [.arr 31 (.pair (.int .i64) (Sh.pair (Sh.int .i64) (Sh.pair (Sh.int .i64) (Sh.int .i64)))) ([] : List (Int × Int × Int × Int))]⟩)
      (ite2 (decide (0 ≤ count n ∧ count n ≤ count n ∧ count n * 33 ≤ 140737488355328))
       (ite2 (empty z1_.1 z1_.2.1 z1_.2.2.1 z1_.2.2.2)
        (some ⟨.one (.row 0), [], [.arr 31 (.pair (.int .i64) (Sh.pair (Sh.int .i64) (Sh.pair (Sh.int .i64) (Sh.int .i64)))) (List.replicate (Int.toNat (count n)) ((0, 0, 0, 0) : Int × Int × Int × Int))]⟩)
        (ite2 (k_pyr_Need_0 a b c d n (marg k) z1_.1 z1_.2.1 z1_.2.2.1 z1_.2.2.2 r (List.replicate (Int.toNat (count n)) ((0, 0, 0, 0) : Int × Int × Int × Int)))
         (ite2 (decide ((0 : Int) ≤ 0 ∧ 0 < (↑(List.length (ndL a b c d n (marg k) r (z1_.1, z1_.2.1, z1_.2.2.1, z1_.2.2.2) (Int.toNat r))) : Int)))
          (ite2 (decide (0 < List.length (ndL a b c d n (marg k) r (z1_.1, z1_.2.1, z1_.2.2.1, z1_.2.2.2) (Int.toNat r))))
           (some ⟨.one (.row 0), [], [.arr 31 (.pair (.int .i64) (Sh.pair (Sh.int .i64) (Sh.pair (Sh.int .i64) (Sh.int .i64)))) (List.set (ndL a b c d n (marg k) r (z1_.1, z1_.2.1, z1_.2.2.1, z1_.2.2.2) (Int.toNat r)) 0 ((ndW a b c d n (marg k) r (z1_.1, z1_.2.1, z1_.2.2.1, z1_.2.2.2) (Int.toNat r)).1, (ndW a b c d n (marg k) r (z1_.1, z1_.2.1, z1_.2.2.1, z1_.2.2.2) (Int.toNat r)).2.1, (ndW a b c d n (marg k) r (z1_.1, z1_.2.1, z1_.2.2.1, z1_.2.2.2) (Int.toNat r)).2.2.1, (ndW a b c d n (marg k) r (z1_.1, z1_.2.1, z1_.2.2.1, z1_.2.2.2) (Int.toNat r)).2.2.2))]⟩)
           none)
          none)
         none))
       none))))))) := by kernel_rfl
def U_pyr_Need_0 (a b c d n m w0 w1 w2 w3 t : Int) (v : List (Int × Int × Int × Int)) : LT :=
  let z1_ := inter (IntKind.wrap .i64 (w0 - m)) (IntKind.wrap .i64 (w1 - m)) (IntKind.wrap .i64 (w2 + m)) (IntKind.wrap .i64 (w3 + m)) (resR a b c d n t).1 (resR a b c d n t).2.1 (resR a b c d n t).2.2.1 (resR a b c d n t).2.2.2; let z2_ := bnd z1_.1 z1_.2.1 z1_.2.2.1 z1_.2.2.2 1; let z3_ := bnd z1_.1 z1_.2.1 z1_.2.2.1 z1_.2.2.2 2; let z4_ := IntKind.wrap .i64 (IntKind.wrap .i64 (3 * t) - 2); let z5_ := IntKind.wrap .i64 (3 * t) - 1; let z6_ := bnd z1_.1 z1_.2.1 z1_.2.2.1 z1_.2.2.2 3; let z7_ := bnd z1_.1 z1_.2.1 z1_.2.2.1 z1_.2.2.2 0; (.br (decide (t > 0))
    (.br (decide (0 ≤ IntKind.wrap .i64 (IntKind.wrap .i64 (3 * t) - 2) ∧ IntKind.wrap .i64 (IntKind.wrap .i64 (3 * t) - 2) < (↑(List.length v) : Int)))
     (.br (decide (Int.toNat z4_ < List.length v))
      (.br (decide (0 ≤ IntKind.wrap .i64 z5_ ∧ IntKind.wrap .i64 z5_ < (↑(List.length (List.set v (Int.toNat z4_) (z2_.1, z2_.2.1, z2_.2.2.1, z2_.2.2.2))) : Int)))
       (.br (decide (Int.toNat (IntKind.wrap .i64 z5_) < List.length (List.set v (Int.toNat z4_) (z2_.1, z2_.2.1, z2_.2.2.1, z2_.2.2.2))))
        (.br (decide (0 ≤ IntKind.wrap .i64 (3 * t) ∧ IntKind.wrap .i64 (3 * t) < (↑(List.length (List.set (List.set v (Int.toNat z4_) (z2_.1, z2_.2.1, z2_.2.2.1, z2_.2.2.2)) (Int.toNat (IntKind.wrap .i64 z5_)) (z3_.1, z3_.2.1, z3_.2.2.1, z3_.2.2.2))) : Int)))
         (.br (decide (Int.toNat (IntKind.wrap .i64 (3 * t)) < List.length (List.set (List.set v (Int.toNat z4_) (z2_.1, z2_.2.1, z2_.2.2.1, z2_.2.2.2)) (Int.toNat (IntKind.wrap .i64 z5_)) (z3_.1, z3_.2.1, z3_.2.2.1, z3_.2.2.2))))
          (.leaf Ex.normal [.one (.int .i64 n), .one (.ptr 0 0), .one (.int .i64 m), .one (.row 1), .one (.ptr 2 0), .one (.int .i64 (IntKind.wrap .i64 (t - 1)))] [some (.box [.int .i64 a, .int .i64 b, .int .i64 c, .int .i64 d]), some (.arr 31 (.pair (.int .i64) (Sh.pair (Sh.int .i64) (Sh.pair (Sh.int .i64) (Sh.int .i64)))) (List.set (List.set (List.set v (Int.toNat z4_) (z2_.1, z2_.2.1, z2_.2.2.1, z2_.2.2.2)) (Int.toNat (IntKind.wrap .i64 z5_)) (z3_.1, z3_.2.1, z3_.2.2.1, z3_.2.2.2)) (Int.toNat (IntKind.wrap .i64 (3 * t))) (z6_.1, z6_.2.1, z6_.2.2.1, z6_.2.2.2))), some (.box [.int .i64 z7_.1, .int .i64 z7_.2.1, .int .i64 z7_.2.2.1, .int .i64 z7_.2.2.2])])
          .no)
         .no)
        .no)
       .no)
      .no)
     .no)
    (.leaf (Ex.exit 0) [.one (.row 0), .one (.ptr 1 0)] [some (.arr 31 (.pair (.int .i64) (Sh.pair (Sh.int .i64) (Sh.pair (Sh.int .i64) (Sh.int .i64)))) v), some (.box [.int .i64 w0, .int .i64 w1, .int .i64 w2, .int .i64 w3])]))
def T_pyr_Need_0 : TT := fun vs bl => (D_pyr_Need_0 vs bl fun a b c d n m w0 w1 w2 w3 t v => some (U_pyr_Need_0 a b c d n m w0 w1 w2 w3 t v)).getD .no
theorem tu_pyr_Need_0 (a b c d n m w0 w1 w2 w3 t : Int) (v : List (Int × Int × Int × Int)) : T_pyr_Need_0 [.one (.int .i64 n), .one (.ptr 0 0), .one (.int .i64 m), .one (.row 1), .one (.ptr 2 0), .one (.int .i64 t)] [some (.box [.int .i64 a, .int .i64 b, .int .i64 c, .int .i64 d]), some (.arr 31 (.pair (.int .i64) (.pair (.int .i64) (.pair (.int .i64) (.int .i64)))) v), some (.box [.int .i64 w0, .int .i64 w1, .int .i64 w2, .int .i64 w3])] = U_pyr_Need_0 a b c d n m w0 w1 w2 w3 t v := by kernel_rfl
theorem b_pyr_Need_0 (a b c d n m w0 w1 w2 w3 t : Int) (v : List (Int × Int × Int × Int)) (Kc : KT) : exec Try.prog t_pyr_Need (annOf []) l_pyr_Need 20 0 (loopOf Try.f21 0) (unp 107 [1, 5, 11, 12, 13, 14] [.one (.int .i64 n), .one (.ptr 0 0), .one (.int .i64 m), .one (.row 1), .one (.ptr 2 0), .one (.int .i64 t)] [some (.box [.int .i64 a, .int .i64 b, .int .i64 c, .int .i64 d]), some (.arr 31 (.pair (.int .i64) (.pair (.int .i64) (.pair (.int .i64) (.int .i64)))) v), some (.box [.int .i64 w0, .int .i64 w1, .int .i64 w2, .int .i64 w3])]) (endc 0 107 [1, 5, 11, 12, 13, 14] (kxOf [12, 13] [10]) Kc) =
  (U_pyr_Need_0 a b c d n m w0 w1 w2 w3 t v).runc Kc := by kernel_rfl
def t_pyr_Bound : FuncId → Option Summ := tabOf [(11, G_pyr_Place), (40, G_lift_Margin), (54, G_lift_Low), (55, G_lift_High)]
def l_pyr_Bound : Nat → Option LSumm := ltOf [(7, ⟨0, 70, [0, 3, 10, 38, 39], (kxOf [0, 3, 10] [8]), S_pyr_Bound_0⟩)]
theorem e_pyr_Bound (b n i k : Int) : funR Try.prog t_pyr_Bound (annOf []) l_pyr_Bound 20 Try.f23 [.one (.int .i64 b), .one (.int .i64 n), .one (.int .i64 i), .one (.int .i64 k)] [] =
  (ite2 (decide (b < 0))
  (some ⟨.one (.int .i64 0), [], []⟩)
  (ite2 (decide (b > 1048576))
   (some ⟨.one (.int .i64 0), [], []⟩)
   (ite2 (!plOk i n)
    (some ⟨.one (.int .i64 0), [], []⟩)
    (ite2 (marg k == 0)
     (some ⟨.one (.int .i64 0), [], []⟩)
     (ite2 (i != 0)
      (ite2 (k_pyr_Bound_0 b k (plOr i n) (IntKind.wrap .i64 (plLv i n - 1)) 0)
       (ite2 (plOr i n == 1)
        (some ⟨.one (.int .i64 (lb (hb (bnB k b (Int.toNat (IntKind.wrap .i64 (plLv i n - 1)))) k) k)), [], []⟩)
        (ite2 (plOr i n == 2)
         (some ⟨.one (.int .i64 (hb (lb (bnB k b (Int.toNat (IntKind.wrap .i64 (plLv i n - 1)))) k) k)), [], []⟩)
         (ite2 (plOr i n == 3)
          (some ⟨.one (.int .i64 (hb (hb (bnB k b (Int.toNat (IntKind.wrap .i64 (plLv i n - 1)))) k) k)), [], []⟩)
          (some ⟨.one (.int .i64 (bnB k b (Int.toNat (IntKind.wrap .i64 (plLv i n - 1))))), [], []⟩))))
       none)
      (ite2 (k_pyr_Bound_0 b k (plOr i n) (plLv i n) 0)
       (ite2 (plOr i n == 1)
        (some ⟨.one (.int .i64 (lb (hb (bnB k b (Int.toNat (plLv i n))) k) k)), [], []⟩)
        (ite2 (plOr i n == 2)
         (some ⟨.one (.int .i64 (hb (lb (bnB k b (Int.toNat (plLv i n))) k) k)), [], []⟩)
         (ite2 (plOr i n == 3)
          (some ⟨.one (.int .i64 (hb (hb (bnB k b (Int.toNat (plLv i n))) k) k)), [], []⟩)
          (some ⟨.one (.int .i64 (bnB k b (Int.toNat (plLv i n)))), [], []⟩))))
       none)))))) := by kernel_rfl
def U_pyr_Bound_0 (b kk o m t : Int) : LT :=
  (.br (decide (t < m))
    (.leaf Ex.normal [.one (.int .i64 (lb (lb b kk) kk)), .one (.int .i64 kk), .one (.int .i64 o), .one (.int .i64 m), .one (.int .i64 (IntKind.wrap .i64 (t + 1)))] [])
    (.leaf (Ex.exit 0) [.one (.int .i64 b), .one (.int .i64 kk), .one (.int .i64 o)] []))
def T_pyr_Bound_0 : TT := fun vs bl => (D_pyr_Bound_0 vs bl fun b kk o m t => some (U_pyr_Bound_0 b kk o m t)).getD .no
theorem tu_pyr_Bound_0 (b kk o m t : Int) : T_pyr_Bound_0 [.one (.int .i64 b), .one (.int .i64 kk), .one (.int .i64 o), .one (.int .i64 m), .one (.int .i64 t)] [] = U_pyr_Bound_0 b kk o m t := by kernel_rfl
theorem b_pyr_Bound_0 (b kk o m t : Int) (Kc : KT) : exec Try.prog t_pyr_Bound (annOf []) l_pyr_Bound 20 0 (loopOf Try.f23 0) (unp 70 [0, 3, 10, 38, 39] [.one (.int .i64 b), .one (.int .i64 kk), .one (.int .i64 o), .one (.int .i64 m), .one (.int .i64 t)] []) (endc 0 70 [0, 3, 10, 38, 39] (kxOf [0, 3, 10] [8]) Kc) =
  (U_pyr_Bound_0 b kk o m t).runc Kc := by kernel_rfl
def t_pyr_Analyze : FuncId → Option Summ := tabOf [(13, G_pyr_Count), (34, G_dwt_Split), (38, G_pyr_validLevels), (39, G_pl_Valid), (40, G_lift_Margin), (41, G_pyr_exceeds)]
def l_pyr_Analyze : Nat → Option LSumm := ltOf [(10, ⟨0, 71, [2, 8, 9, 10], (kxOf [8, 9] [6, 7]), S_pyr_Analyze_0⟩)]
theorem e_pyr_Analyze (a b c d n k : Int) (l : List Int) : funR Try.prog t_pyr_Analyze (annOf []) l_pyr_Analyze 20 Try.f18 [.agg [.int .i64 a, .int .i64 b, .int .i64 c, .int .i64 d, .lst (.int .i64) l], .one (.int .i64 n), .one (.int .i64 k)] [] =
  (ite2 (!plV a b c d l)
  (some ⟨.tup [(false, [.row 0]), (false, [.int .i64 1])], [], [.arr 33 (.pair (.pair (.int .i64) (Sh.pair (Sh.int .i64) (Sh.pair (Sh.int .i64) (Sh.int .i64)))) (Sh.sl (Sh.int .i64))) []]⟩)
  (ite2 (marg k == 0)
   (some ⟨.tup [(false, [.row 0]), (false, [.int .i64 3])], [], [.arr 33 (.pair (.pair (.int .i64) (Sh.pair (Sh.int .i64) (Sh.pair (Sh.int .i64) (Sh.int .i64)))) (Sh.sl (Sh.int .i64))) []]⟩)
   (ite2 (!inr 0 5 n)
    (some ⟨.tup [(false, [.row 0]), (false, [.int .i64 2])], [], [.arr 33 (.pair (.pair (.int .i64) (Sh.pair (Sh.int .i64) (Sh.pair (Sh.int .i64) (Sh.int .i64)))) (Sh.sl (Sh.int .i64))) []]⟩)
    (ite2 (small (List.length l) && true)
     (ite2 (!fitB 1048576 l)
      (some ⟨.tup [(false, [.row 0]), (false, [.int .i64 2])], [], [.arr 33 (.pair (.pair (.int .i64) (Sh.pair (Sh.int .i64) (Sh.pair (Sh.int .i64) (Sh.int .i64)))) (Sh.sl (Sh.int .i64))) []]⟩)
      (ite2 (decide (0 ≤ count n ∧ count n ≤ count n ∧ count n * 57 ≤ 140737488355328))
       (ite2 (decide (List.length l * 9 ≤ 140737488355328))
        (ite2 (k_pyr_Analyze_0 a b c d n k l (List.replicate (Int.toNat (count n)) (((0, 0, 0, 0), []) : (Int × Int × Int × Int) × List Int)))
         (ite2 (decide ((0 : Int) ≤ 0 ∧ 0 < (↑(List.length (anL n k ((a, b, c, d), l) (Int.toNat n))) : Int)))
          (ite2 (decide (0 < List.length (anL n k ((a, b, c, d), l) (Int.toNat n))))
           (some ⟨.tup [(false, [.row 0]), (false, [.int .i64 0])], [], [.arr 33 (.pair (.pair (.int .i64) (Sh.pair (Sh.int .i64) (Sh.pair (Sh.int .i64) (Sh.int .i64)))) (Sh.sl (Sh.int .i64))) (List.set (anL n k ((a, b, c, d), l) (Int.toNat n)) 0 (((anS k (Int.toNat n) ((a, b, c, d), l)).1.1, (anS k (Int.toNat n) ((a, b, c, d), l)).1.2.1, (anS k (Int.toNat n) ((a, b, c, d), l)).1.2.2.1, (anS k (Int.toNat n) ((a, b, c, d), l)).1.2.2.2), (anS k (Int.toNat n) ((a, b, c, d), l)).2))]⟩)
           none)
          none)
         none)
        none)
       none))
     none)))) := by kernel_rfl
def U_pyr_Analyze_0 (a b c d n kk : Int) (l : List Int) (v : List (Rc × List Int)) : LT :=
  let z1_ := IntKind.wrap .i64 (3 * n) - 3; let z2_ := IntKind.wrap .i64 (IntKind.wrap .i64 z1_ + 1); let z3_ := IntKind.wrap .i64 z1_ + 2; (.br (decide (n > 0))
    (.br (small (List.length l))
     (.br (spErr a b c d kk l != 0)
      (.leaf Ex.ret [.one (.row 0), .one (.int .i64 (spErr a b c d kk l))] [some (.arr 33 (.pair (.pair (.int .i64) (Sh.pair (Sh.int .i64) (Sh.pair (Sh.int .i64) (Sh.int .i64)))) (Sh.sl (Sh.int .i64))) [])])
      (.br (decide (0 ≤ IntKind.wrap .i64 (IntKind.wrap .i64 z1_ + 1) ∧ IntKind.wrap .i64 (IntKind.wrap .i64 z1_ + 1) < (↑(List.length v) : Int)))
       (.br (decide (Int.toNat z2_ < List.length v))
        (.br (decide (0 ≤ IntKind.wrap .i64 z3_ ∧ IntKind.wrap .i64 z3_ < (↑(List.length (List.set v (Int.toNat z2_) (((spR a b c d kk l 1).1, (spR a b c d kk l 1).2.1, (spR a b c d kk l 1).2.2.1, (spR a b c d kk l 1).2.2.2), spD1 a b c d kk l))) : Int)))
         (.br (decide (Int.toNat (IntKind.wrap .i64 z3_) < List.length (List.set v (Int.toNat z2_) (((spR a b c d kk l 1).1, (spR a b c d kk l 1).2.1, (spR a b c d kk l 1).2.2.1, (spR a b c d kk l 1).2.2.2), spD1 a b c d kk l))))
          (.br (decide (0 ≤ IntKind.wrap .i64 (IntKind.wrap .i64 z1_ + 3) ∧ IntKind.wrap .i64 (IntKind.wrap .i64 z1_ + 3) < (↑(List.length (List.set (List.set v (Int.toNat z2_) (((spR a b c d kk l 1).1, (spR a b c d kk l 1).2.1, (spR a b c d kk l 1).2.2.1, (spR a b c d kk l 1).2.2.2), spD1 a b c d kk l)) (Int.toNat (IntKind.wrap .i64 z3_)) (((spR a b c d kk l 2).1, (spR a b c d kk l 2).2.1, (spR a b c d kk l 2).2.2.1, (spR a b c d kk l 2).2.2.2), spD2 a b c d kk l))) : Int)))
           (.br (decide (Int.toNat (IntKind.wrap .i64 (IntKind.wrap .i64 z1_ + 3)) < List.length (List.set (List.set v (Int.toNat z2_) (((spR a b c d kk l 1).1, (spR a b c d kk l 1).2.1, (spR a b c d kk l 1).2.2.1, (spR a b c d kk l 1).2.2.2), spD1 a b c d kk l)) (Int.toNat (IntKind.wrap .i64 z3_)) (((spR a b c d kk l 2).1, (spR a b c d kk l 2).2.1, (spR a b c d kk l 2).2.2.1, (spR a b c d kk l 2).2.2.2), spD2 a b c d kk l))))
            (.leaf Ex.normal [.one (.int .i64 kk), .one (.row 0), .one (.ptr 1 0), .one (.int .i64 (IntKind.wrap .i64 (n - 1)))] [some (.arr 33 (.pair (.pair (.int .i64) (Sh.pair (Sh.int .i64) (Sh.pair (Sh.int .i64) (Sh.int .i64)))) (Sh.sl (Sh.int .i64))) (List.set (List.set (List.set v (Int.toNat z2_) (((spR a b c d kk l 1).1, (spR a b c d kk l 1).2.1, (spR a b c d kk l 1).2.2.1, (spR a b c d kk l 1).2.2.2), spD1 a b c d kk l)) (Int.toNat (IntKind.wrap .i64 z3_)) (((spR a b c d kk l 2).1, (spR a b c d kk l 2).2.1, (spR a b c d kk l 2).2.2.1, (spR a b c d kk l 2).2.2.2), spD2 a b c d kk l)) (Int.toNat (IntKind.wrap .i64 (IntKind.wrap .i64 z1_ + 3))) (((spR a b c d kk l 3).1, (spR a b c d kk l 3).2.1, (spR a b c d kk l 3).2.2.1, (spR a b c d kk l 3).2.2.2), spD3 a b c d kk l))), some (.box [.int .i64 (spR a b c d kk l 0).1, .int .i64 (spR a b c d kk l 0).2.1, .int .i64 (spR a b c d kk l 0).2.2.1, .int .i64 (spR a b c d kk l 0).2.2.2, .row 2]), some (.arr 3 (.int .i64) (spD0 a b c d kk l))])
            .no)
           .no)
          .no)
         .no)
        .no)
       .no))
     .no)
    (.leaf (Ex.exit 0) [.one (.row 0), .one (.ptr 1 0)] [some (.arr 33 (.pair (.pair (.int .i64) (Sh.pair (Sh.int .i64) (Sh.pair (Sh.int .i64) (Sh.int .i64)))) (Sh.sl (Sh.int .i64))) v), some (.box [.int .i64 a, .int .i64 b, .int .i64 c, .int .i64 d, .row 2]), some (.arr 3 (.int .i64) l)]))
def T_pyr_Analyze_0 : TT := fun vs bl => (D_pyr_Analyze_0 vs bl fun a b c d n kk l v => some (U_pyr_Analyze_0 a b c d n kk l v)).getD .no
theorem tu_pyr_Analyze_0 (a b c d n kk : Int) (l : List Int) (v : List (Rc × List Int)) : T_pyr_Analyze_0 [.one (.int .i64 kk), .one (.row 0), .one (.ptr 1 0), .one (.int .i64 n)] [some (.arr 33 (.pair (.pair (.int .i64) (.pair (.int .i64) (.pair (.int .i64) (.int .i64)))) (.sl (.int .i64))) v), some (.box [.int .i64 a, .int .i64 b, .int .i64 c, .int .i64 d, .row 2]), some (.arr 3 (.int .i64) l)] = U_pyr_Analyze_0 a b c d n kk l v := by kernel_rfl
theorem b_pyr_Analyze_0 (a b c d n kk : Int) (l : List Int) (v : List (Rc × List Int)) (Kc : KT) : exec Try.prog t_pyr_Analyze (annOf []) l_pyr_Analyze 20 0 (loopOf Try.f18 0) (unp 71 [2, 8, 9, 10] [.one (.int .i64 kk), .one (.row 0), .one (.ptr 1 0), .one (.int .i64 n)] [some (.arr 33 (.pair (.pair (.int .i64) (.pair (.int .i64) (.pair (.int .i64) (.int .i64)))) (.sl (.int .i64))) v), some (.box [.int .i64 a, .int .i64 b, .int .i64 c, .int .i64 d, .row 2]), some (.arr 3 (.int .i64) l)]) (endc 0 71 [2, 8, 9, 10] (kxOf [8, 9] [6, 7]) Kc) =
  (U_pyr_Analyze_0 a b c d n kk l v).runc Kc := by kernel_rfl
def t_law_same : FuncId → Option Summ := tabOf []
def l_law_same : Nat → Option LSumm := ltOf [(4, ⟨0, 38, [2, 3, 22, 23], (kxOf [] [4]), S_law_same_0⟩)]
theorem e_law_same (a b c d a1 b1 c1 d1 : Int) (l m : List Int) : funR Try.prog t_law_same (annOf []) l_law_same 20 Try.f32 [.agg [.int .i64 a, .int .i64 b, .int .i64 c, .int .i64 d, .lst (.int .i64) l], .agg [.int .i64 a1, .int .i64 b1, .int .i64 c1, .int .i64 d1, .lst (.int .i64) m]] [] =
  (ite2 (!(a == a1 && (b == b1 && (c == c1 && (d == d1 && true)))))
  (some ⟨.one (.bool false), [], []⟩)
  (ite2 ((↑(List.length l) : Int) != (↑(List.length m) : Int))
   (some ⟨.one (.bool false), [], []⟩)
   (ite2 (k_law_same_0 a b c d a1 b1 c1 d1 l m (↑(List.length l) : Int) 0)
    (ite2 (p_law_same_0 a b c d a1 b1 c1 d1 l m)
     (some ⟨.one (.bool true), [], []⟩)
     (some ⟨.one (.bool false), [], []⟩))
    none))) := by kernel_rfl
def U_law_same_0 (a b c d a1 b1 c1 d1 : Int) (l m : List Int) (n i : Int) : LT :=
  (.br (decide (i < n))
    (.br (decide (0 ≤ i ∧ i < (↑(List.length l) : Int)))
     (.br (decide (0 ≤ i ∧ i < (↑(List.length m) : Int)))
      (.br (gI l (Int.toNat i) != gI m (Int.toNat i))
       (.leaf Ex.ret [.one (.bool false)] [])
       (.leaf Ex.normal [.one (.ptr 0 0), .one (.ptr 1 0), .one (.int .i64 n), .one (.int .i64 (IntKind.wrap .i64 (i + 1)))] [some (.box [.int .i64 a, .int .i64 b, .int .i64 c, .int .i64 d, .lst (.int .i64) l]), some (.box [.int .i64 a1, .int .i64 b1, .int .i64 c1, .int .i64 d1, .lst (.int .i64) m])]))
      .no)
     .no)
    (.leaf (Ex.exit 0) [] []))
def T_law_same_0 : TT := fun vs bl => (D_law_same_0 vs bl fun a b c d a1 b1 c1 d1 l m n i => some (U_law_same_0 a b c d a1 b1 c1 d1 l m n i)).getD .no
theorem tu_law_same_0 (a b c d a1 b1 c1 d1 : Int) (l m : List Int) (n i : Int) : T_law_same_0 [.one (.ptr 0 0), .one (.ptr 1 0), .one (.int .i64 n), .one (.int .i64 i)] [some (.box [.int .i64 a, .int .i64 b, .int .i64 c, .int .i64 d, .lst (.int .i64) l]), some (.box [.int .i64 a1, .int .i64 b1, .int .i64 c1, .int .i64 d1, .lst (.int .i64) m])] = U_law_same_0 a b c d a1 b1 c1 d1 l m n i := by kernel_rfl
theorem b_law_same_0 (a b c d a1 b1 c1 d1 : Int) (l m : List Int) (n i : Int) (Kc : KT) : exec Try.prog t_law_same (annOf []) l_law_same 20 0 (loopOf Try.f32 0) (unp 38 [2, 3, 22, 23] [.one (.ptr 0 0), .one (.ptr 1 0), .one (.int .i64 n), .one (.int .i64 i)] [some (.box [.int .i64 a, .int .i64 b, .int .i64 c, .int .i64 d, .lst (.int .i64) l]), some (.box [.int .i64 a1, .int .i64 b1, .int .i64 c1, .int .i64 d1, .lst (.int .i64) m])]) (endc 0 38 [2, 3, 22, 23] (kxOf [] [4]) Kc) =
  (U_law_same_0 a b c d a1 b1 c1 d1 l m n i).runc Kc := by kernel_rfl
def t_awake : FuncId → Option Summ := tabOf [(11, G_pyr_Place), (13, G_pyr_Count), (15, G_pyr_Indices), (18, G_pyr_Analyze), (21, G_pyr_Need), (23, G_pyr_Bound), (25, G_pyr_Resolution)]
def l_awake : Nat → Option LSumm := ltOf []
theorem e_awake  : funR Try.prog t_awake (annOf []) l_awake 20 Try.f17 [] [] =
  (some ⟨.one (.bool true), [], []⟩) := by kernel_rfl


end
end Go.Rx.Ch06
