/- Each function, run by the executor: an equation. -/
import Derived.Test.YtcdmkbpmgeeghaaRG
import Derived.Test.YtcdmkbpmgeeghaaProg
import Derived.KernelRfl
set_option linter.unnecessarySimpa false
set_option linter.unusedVariables false
set_option linter.unusedSimpArgs false
set_option linter.unusedVariables false
set_option maxRecDepth 100000
set_option maxHeartbeats 40000000
open Go Go.Rx Go.Proofs
namespace Go.Rx.Ch06
noncomputable section
def t_ref05_Split : FuncId → Option Summ := tabOf [(42, G_ref02_Valid), (43, G_ref05_Known), (44, G_ref05_Above), (53, G_ref05_Bands), (76, G_ref04_Forward), (77, G_ref05_columns)]
def l_ref05_Split : Nat → Option LSumm := ltOf [(10, ⟨0, 132, [1, 2, 4, 6, 7, 8, 9, 10], (kxOf [1, 2, 4, 7, 8, 9] [4, 5]), S_ref05_Split_0⟩)]
theorem e_ref05_Split (a b c d k : Int) (l : List Int) : funR Try.prog t_ref05_Split (annOf []) l_ref05_Split 20 Try.f45 [.agg [.int .i64 a, .int .i64 b, .int .i64 c, .int .i64 d, .lst (.int .i64) l], .one (.int .i64 k)] [] =
  (ite2 (!plV a b c d l)
  (some ⟨V.tup [(true, [.int .i64 0, .int .i64 0, .int .i64 0, .int .i64 0, C.row 0, .int .i64 0, .int .i64 0, .int .i64 0, .int .i64 0, C.row 1, .int .i64 0, .int .i64 0, .int .i64 0, .int .i64 0, C.row 2, .int .i64 0, .int .i64 0, .int .i64 0, .int .i64 0, C.row 3]), (false, [.int .i64 1])], [], [Blk.arr 3 (Sh.int .i64) ([] : List (Int)), Blk.arr 3 (Sh.int .i64) ([] : List (Int)), Blk.arr 3 (Sh.int .i64) ([] : List (Int)), Blk.arr 3 (Sh.int .i64) ([] : List (Int))]⟩)
  (ite2 (!inr 1 3 k)
    (some ⟨V.tup [(true, [.int .i64 0, .int .i64 0, .int .i64 0, .int .i64 0, C.row 0, .int .i64 0, .int .i64 0, .int .i64 0, .int .i64 0, C.row 1, .int .i64 0, .int .i64 0, .int .i64 0, .int .i64 0, C.row 2, .int .i64 0, .int .i64 0, .int .i64 0, .int .i64 0, C.row 3]), (false, [.int .i64 3])], [], [Blk.arr 3 (Sh.int .i64) ([] : List (Int)), Blk.arr 3 (Sh.int .i64) ([] : List (Int)), Blk.arr 3 (Sh.int .i64) ([] : List (Int)), Blk.arr 3 (Sh.int .i64) ([] : List (Int))]⟩)
    (ite2 (small (List.length l) && true)
      (ite2 (!fitB 35184372088832 l)
        (some ⟨V.tup [(true, [.int .i64 0, .int .i64 0, .int .i64 0, .int .i64 0, C.row 0, .int .i64 0, .int .i64 0, .int .i64 0, .int .i64 0, C.row 1, .int .i64 0, .int .i64 0, .int .i64 0, .int .i64 0, C.row 2, .int .i64 0, .int .i64 0, .int .i64 0, .int .i64 0, C.row 3]), (false, [.int .i64 2])], [], [Blk.arr 3 (Sh.int .i64) ([] : List (Int)), Blk.arr 3 (Sh.int .i64) ([] : List (Int)), Blk.arr 3 (Sh.int .i64) ([] : List (Int)), Blk.arr 3 (Sh.int .i64) ([] : List (Int))]⟩)
        (ite2 (k_ref05_Split_0 a b c d k 0 0 0 0 0 0 0 0 0 0 0 0 0 0 0 0 (IntKind.wrap .i64 (c - a)) (IntKind.wrap .i64 (d - b)) 0 l [] [] [] [] [] [])
          (ite2 (inr 0 4096 (IntKind.wrap .i64 ((bnd a b c d 0).snd.snd.fst - (bnd a b c d 0).fst)) && inr 0 4096 (IntKind.wrap .i64 (d - b)) && decide ((↑(List.length (sLo a b c d k l)) : Int) = IntKind.wrap .i64 (d - b) * IntKind.wrap .i64 ((bnd a b c d 0).snd.snd.fst - (bnd a b c d 0).fst)) && inr 0 4096 b && inr 1 3 k && fitB 281474976710656 (sLo a b c d k l))
            (ite2 (inr 0 4096 (IntKind.wrap .i64 ((bnd a b c d 1).snd.snd.fst - (bnd a b c d 1).fst)) && inr 0 4096 (IntKind.wrap .i64 (d - b)) && decide ((↑(List.length (sHi a b c d k l)) : Int) = IntKind.wrap .i64 (d - b) * IntKind.wrap .i64 ((bnd a b c d 1).snd.snd.fst - (bnd a b c d 1).fst)) && inr 0 4096 b && inr 1 3 k && fitB 281474976710656 (sHi a b c d k l))
              (some ⟨V.tup [(true, [.int .i64 (bnd a b c d 0).fst, .int .i64 (bnd a b c d 0).snd.fst, .int .i64 (bnd a b c d 0).snd.snd.fst, .int .i64 (bnd a b c d 0).snd.snd.snd, C.row 0, .int .i64 (bnd a b c d 1).fst, .int .i64 (bnd a b c d 1).snd.fst, .int .i64 (bnd a b c d 1).snd.snd.fst, .int .i64 (bnd a b c d 1).snd.snd.snd, C.row 1, .int .i64 (bnd a b c d 2).fst, .int .i64 (bnd a b c d 2).snd.fst, .int .i64 (bnd a b c d 2).snd.snd.fst, .int .i64 (bnd a b c d 2).snd.snd.snd, C.row 2, .int .i64 (bnd a b c d 3).fst, .int .i64 (bnd a b c d 3).snd.fst, .int .i64 (bnd a b c d 3).snd.snd.fst, .int .i64 (bnd a b c d 3).snd.snd.snd, C.row 3]), (false, [.int .i64 0])], [], [Blk.arr 3 (Sh.int .i64) (matC (Int.toNat (cev b (IntKind.wrap .i64 (d - b)))) (Int.toNat (IntKind.wrap .i64 ((bnd a b c d 0).snd.snd.fst - (bnd a b c d 0).fst))) (cLo (sLo a b c d k l) (Int.toNat (IntKind.wrap .i64 ((bnd a b c d 0).snd.snd.fst - (bnd a b c d 0).fst))) (Int.toNat (IntKind.wrap .i64 (d - b))) b k)), Blk.arr 3 (Sh.int .i64) (matC (Int.toNat (cev b (IntKind.wrap .i64 (d - b)))) (Int.toNat (IntKind.wrap .i64 ((bnd a b c d 1).snd.snd.fst - (bnd a b c d 1).fst))) (cLo (sHi a b c d k l) (Int.toNat (IntKind.wrap .i64 ((bnd a b c d 1).snd.snd.fst - (bnd a b c d 1).fst))) (Int.toNat (IntKind.wrap .i64 (d - b))) b k)), Blk.arr 3 (Sh.int .i64) (matC (Int.toNat (IntKind.wrap .i64 (d - b) - cev b (IntKind.wrap .i64 (d - b)))) (Int.toNat (IntKind.wrap .i64 ((bnd a b c d 0).snd.snd.fst - (bnd a b c d 0).fst))) (cHi (sLo a b c d k l) (Int.toNat (IntKind.wrap .i64 ((bnd a b c d 0).snd.snd.fst - (bnd a b c d 0).fst))) (Int.toNat (IntKind.wrap .i64 (d - b))) b k)), Blk.arr 3 (Sh.int .i64) (matC (Int.toNat (IntKind.wrap .i64 (d - b) - cev b (IntKind.wrap .i64 (d - b)))) (Int.toNat (IntKind.wrap .i64 ((bnd a b c d 1).snd.snd.fst - (bnd a b c d 1).fst))) (cHi (sHi a b c d k l) (Int.toNat (IntKind.wrap .i64 ((bnd a b c d 1).snd.snd.fst - (bnd a b c d 1).fst))) (Int.toNat (IntKind.wrap .i64 (d - b))) b k))]⟩)
              none)
            none)
          none))
      none))) := by kernel_rfl
def U_ref05_Split_0 (a b c d kk ua0 ub0 uc0 ud0 ua1 ub1 uc1 ud1 ua2 ub2 uc2 ud2 ua3 ub3 uc3 ud3 g n y : Int) (l y0 y1 y2 y3 h0 h1 : List Int) : LT :=
  (.br (decide (y < n))
    (.br (decide (0 ≤ IntKind.wrap .i64 (IntKind.wrap .i64 (y + 1) * g) ∧ IntKind.wrap .i64 (IntKind.wrap .i64 (y + 1) * g) ≤ (↑(List.length l) : Int)) && decide (0 ≤ IntKind.wrap .i64 (y * g) ∧ IntKind.wrap .i64 (y * g) ≤ (↑(Int.toNat (IntKind.wrap .i64 (IntKind.wrap .i64 (y + 1) * g))) : Int)))
      (.br (small (List.length (List.take (Int.toNat (IntKind.wrap .i64 (IntKind.wrap .i64 (y + 1) * g)) - Int.toNat (IntKind.wrap .i64 (y * g))) (List.drop (Int.toNat (IntKind.wrap .i64 (y * g))) l))))
        (.br (decide ((List.length h0 + List.length (fw (List.take (Int.toNat (IntKind.wrap .i64 (IntKind.wrap .i64 (y + 1) * g)) - Int.toNat (IntKind.wrap .i64 (y * g))) (List.drop (Int.toNat (IntKind.wrap .i64 (y * g))) l)) a kk).fst) * 9 ≤ 140737488355328))
          (.br (decide ((List.length h1 + List.length (fw (List.take (Int.toNat (IntKind.wrap .i64 (IntKind.wrap .i64 (y + 1) * g)) - Int.toNat (IntKind.wrap .i64 (y * g))) (List.drop (Int.toNat (IntKind.wrap .i64 (y * g))) l)) a kk).snd.fst) * 9 ≤ 140737488355328))
            (.leaf Ex.normal [.one (.int .i64 kk), V.one (C.ptr 0 0), V.one (C.ptr 1 0), .one (.int .i64 g), .one (.int .i64 n), V.one (C.row 2), V.one (C.row 3), .one (.int .i64 (IntKind.wrap .i64 (y + 1)))] [some (Blk.box [.int .i64 a, .int .i64 b, .int .i64 c, .int .i64 d, C.lst (Sh.int .i64) l]), some (Blk.box [.int .i64 ua0, .int .i64 ub0, .int .i64 uc0, .int .i64 ud0, C.row 4, .int .i64 ua1, .int .i64 ub1, .int .i64 uc1, .int .i64 ud1, C.row 5, .int .i64 ua2, .int .i64 ub2, .int .i64 uc2, .int .i64 ud2, C.row 6, .int .i64 ua3, .int .i64 ub3, .int .i64 uc3, .int .i64 ud3, C.row 7]), some (Blk.arr 3 (Sh.int .i64) (h0 ++ (fw (List.take (Int.toNat (IntKind.wrap .i64 (IntKind.wrap .i64 (y + 1) * g)) - Int.toNat (IntKind.wrap .i64 (y * g))) (List.drop (Int.toNat (IntKind.wrap .i64 (y * g))) l)) a kk).fst)), some (Blk.arr 3 (Sh.int .i64) (h1 ++ (fw (List.take (Int.toNat (IntKind.wrap .i64 (IntKind.wrap .i64 (y + 1) * g)) - Int.toNat (IntKind.wrap .i64 (y * g))) (List.drop (Int.toNat (IntKind.wrap .i64 (y * g))) l)) a kk).snd.fst)), some (Blk.arr 3 (Sh.int .i64) y0), some (Blk.arr 3 (Sh.int .i64) y1), some (Blk.arr 3 (Sh.int .i64) y2), some (Blk.arr 3 (Sh.int .i64) y3)])
            .no)
          .no)
        .no)
      .no)
    (.leaf (Ex.exit 0) [.one (.int .i64 kk), V.one (C.ptr 0 0), V.one (C.ptr 1 0), .one (.int .i64 n), V.one (C.row 2), V.one (C.row 3)] [some (Blk.box [.int .i64 a, .int .i64 b, .int .i64 c, .int .i64 d, C.lst (Sh.int .i64) l]), some (Blk.box [.int .i64 ua0, .int .i64 ub0, .int .i64 uc0, .int .i64 ud0, C.row 4, .int .i64 ua1, .int .i64 ub1, .int .i64 uc1, .int .i64 ud1, C.row 5, .int .i64 ua2, .int .i64 ub2, .int .i64 uc2, .int .i64 ud2, C.row 6, .int .i64 ua3, .int .i64 ub3, .int .i64 uc3, .int .i64 ud3, C.row 7]), some (Blk.arr 3 (Sh.int .i64) h0), some (Blk.arr 3 (Sh.int .i64) h1), some (Blk.arr 3 (Sh.int .i64) y0), some (Blk.arr 3 (Sh.int .i64) y1), some (Blk.arr 3 (Sh.int .i64) y2), some (Blk.arr 3 (Sh.int .i64) y3)]))
def T_ref05_Split_0 : List V → List (Option Blk) → LT := fun vs bl => (pO vs fun c' vs => kI c' fun kk => pO vs fun c' vs => kP 0 0 c' <| pO vs fun c' vs => kP 1 0 c' <| pO vs fun c' vs => kI c' fun g => pO vs fun c' vs => kI c' fun n => pO vs fun c' vs => kR 2 c' <| pO vs fun c' vs => kR 3 c' <| pO vs fun c' vs => kI c' fun y => pE vs <| bB bl fun q' bl => tC q' fun c' q' => kI c' fun a => tC q' fun c' q' => kI c' fun b => tC q' fun c' q' => kI c' fun c => tC q' fun c' q' => kI c' fun d => tC q' fun c' q' => kLI c' fun l => tE q' <| bB bl fun q' bl => rd4P 4 5 6 7 q' fun ua0 ub0 uc0 ud0 ua1 ub1 uc1 ud1 ua2 ub2 uc2 ud2 ua3 ub3 uc3 ud3 => bAI 3 bl fun h0 bl => bAI 3 bl fun h1 bl => bAI 3 bl fun y0 bl => bAI 3 bl fun y1 bl => bAI 3 bl fun y2 bl => bAI 3 bl fun y3 bl => bE bl <| some (U_ref05_Split_0 a b c d kk ua0 ub0 uc0 ud0 ua1 ub1 uc1 ud1 ua2 ub2 uc2 ud2 ua3 ub3 uc3 ud3 g n y l y0 y1 y2 y3 h0 h1)).getD .no
theorem tu_ref05_Split_0 (a b c d kk ua0 ub0 uc0 ud0 ua1 ub1 uc1 ud1 ua2 ub2 uc2 ud2 ua3 ub3 uc3 ud3 g n y : Int) (l y0 y1 y2 y3 h0 h1 : List Int) : T_ref05_Split_0 [.one (.int .i64 kk), .one (.ptr 0 0), .one (.ptr 1 0), .one (.int .i64 g), .one (.int .i64 n), .one (.row 2), .one (.row 3), .one (.int .i64 y)] [some (.box [.int .i64 a, .int .i64 b, .int .i64 c, .int .i64 d, .lst (.int .i64) l]), some (.box [.int .i64 ua0, .int .i64 ub0, .int .i64 uc0, .int .i64 ud0, .row 4, .int .i64 ua1, .int .i64 ub1, .int .i64 uc1, .int .i64 ud1, .row 5, .int .i64 ua2, .int .i64 ub2, .int .i64 uc2, .int .i64 ud2, .row 6, .int .i64 ua3, .int .i64 ub3, .int .i64 uc3, .int .i64 ud3, .row 7]), some (.arr 3 (.int .i64) h0), some (.arr 3 (.int .i64) h1), some (.arr 3 (.int .i64) y0), some (.arr 3 (.int .i64) y1), some (.arr 3 (.int .i64) y2), some (.arr 3 (.int .i64) y3)] = U_ref05_Split_0 a b c d kk ua0 ub0 uc0 ud0 ua1 ub1 uc1 ud1 ua2 ub2 uc2 ud2 ua3 ub3 uc3 ud3 g n y l y0 y1 y2 y3 h0 h1 := by kernel_rfl
theorem b_ref05_Split_0 (a b c d kk ua0 ub0 uc0 ud0 ua1 ub1 uc1 ud1 ua2 ub2 uc2 ud2 ua3 ub3 uc3 ud3 g n y : Int) (l y0 y1 y2 y3 h0 h1 : List Int) (Kc : Ex → Option (List V × List (Option Blk)) → Option Out) : exec Try.prog t_ref05_Split (annOf []) l_ref05_Split 20 0 (loopOf Try.f45 0) (unp 132 [1, 2, 4, 6, 7, 8, 9, 10] [.one (.int .i64 kk), .one (.ptr 0 0), .one (.ptr 1 0), .one (.int .i64 g), .one (.int .i64 n), .one (.row 2), .one (.row 3), .one (.int .i64 y)] [some (.box [.int .i64 a, .int .i64 b, .int .i64 c, .int .i64 d, .lst (.int .i64) l]), some (.box [.int .i64 ua0, .int .i64 ub0, .int .i64 uc0, .int .i64 ud0, .row 4, .int .i64 ua1, .int .i64 ub1, .int .i64 uc1, .int .i64 ud1, .row 5, .int .i64 ua2, .int .i64 ub2, .int .i64 uc2, .int .i64 ud2, .row 6, .int .i64 ua3, .int .i64 ub3, .int .i64 uc3, .int .i64 ud3, .row 7]), some (.arr 3 (.int .i64) h0), some (.arr 3 (.int .i64) h1), some (.arr 3 (.int .i64) y0), some (.arr 3 (.int .i64) y1), some (.arr 3 (.int .i64) y2), some (.arr 3 (.int .i64) y3)]) (endc 0 132 [1, 2, 4, 6, 7, 8, 9, 10] (kxOf [1, 2, 4, 7, 8, 9] [4, 5]) Kc) =
  (T_ref05_Split_0 [.one (.int .i64 kk), .one (.ptr 0 0), .one (.ptr 1 0), .one (.int .i64 g), .one (.int .i64 n), .one (.row 2), .one (.row 3), .one (.int .i64 y)] [some (.box [.int .i64 a, .int .i64 b, .int .i64 c, .int .i64 d, .lst (.int .i64) l]), some (.box [.int .i64 ua0, .int .i64 ub0, .int .i64 uc0, .int .i64 ud0, .row 4, .int .i64 ua1, .int .i64 ub1, .int .i64 uc1, .int .i64 ud1, .row 5, .int .i64 ua2, .int .i64 ub2, .int .i64 uc2, .int .i64 ud2, .row 6, .int .i64 ua3, .int .i64 ub3, .int .i64 uc3, .int .i64 ud3, .row 7]), some (.arr 3 (.int .i64) h0), some (.arr 3 (.int .i64) h1), some (.arr 3 (.int .i64) y0), some (.arr 3 (.int .i64) y1), some (.arr 3 (.int .i64) y2), some (.arr 3 (.int .i64) y3)]).runc Kc := by kernel_rfl
end
end Go.Rx.Ch06

set_option linter.unusedVariables false
set_option maxRecDepth 100000
set_option maxHeartbeats 40000000
open Go Go.Rx Go.Proofs
namespace Go.Rx.Ch06
noncomputable section
def t_ref04_Margin : FuncId → Option Summ := tabOf []
def l_ref04_Margin : Nat → Option LSumm := ltOf []
theorem e_ref04_Margin (k : Int) : funR Try.prog t_ref04_Margin (annOf []) l_ref04_Margin 20 Try.f52 [.one (.int .i64 k)] [] =
  (ite2 (k == 1)
  (ite2 (k == 1)
    (some ⟨.one (.int .i64 2), [], []⟩)
    (ite2 (k == 3)
      (some ⟨.one (.int .i64 4), [], []⟩)
      (some ⟨.one (.int .i64 0), [], []⟩)))
  (ite2 (k == 2)
    (some ⟨.one (.int .i64 2), [], []⟩)
    (ite2 (k == 3)
      (some ⟨.one (.int .i64 4), [], []⟩)
      (some ⟨.one (.int .i64 0), [], []⟩)))) := by kernel_rfl
def t_pyr_exceeds : FuncId → Option Summ := tabOf []
def l_pyr_exceeds : Nat → Option LSumm := ltOf [(2, ⟨0, 23, [1, 7, 8, 9], (kxOf [] [4]), S_pyr_exceeds_0⟩)]
theorem e_pyr_exceeds (l : List Int) (b : Int) : funR Try.prog t_pyr_exceeds (annOf []) l_pyr_exceeds 20 Try.f41 [.one (.lst (.int .i64) l), .one (.int .i64 b)] [] =
  (ite2 (k_pyr_exceeds_0 b l (↑(List.length l) : Int) 0)
  (ite2 (p_pyr_exceeds_0 b l)
    (some ⟨.one (.bool false), [], []⟩)
    (some ⟨.one (.bool true), [], []⟩))
  none) := by kernel_rfl
def U_pyr_exceeds_0 (b : Int) (l : List Int) (n i : Int) : LT :=
  (.br (decide (i < n))
    (.br (decide (0 ≤ i ∧ i < (↑(List.length l) : Int)))
      (.br (decide (gI l (Int.toNat i) > b))
        (.leaf Ex.ret [.one (.bool true)] [])
        (.br (decide (gI l (Int.toNat i) < IntKind.wrap .i64 (0 - b)))
          (.leaf Ex.ret [.one (.bool true)] [])
          (.leaf Ex.normal [.one (.int .i64 b), V.one (C.lst (Sh.int .i64) l), .one (.int .i64 n), .one (.int .i64 (IntKind.wrap .i64 (i + 1)))] [])))
      .no)
    (.leaf (Ex.exit 0) [] []))
def T_pyr_exceeds_0 : List V → List (Option Blk) → LT := fun vs bl => (pO vs fun c' vs => kI c' fun b => pO vs fun c' vs => kLI c' fun l => pO vs fun c' vs => kI c' fun n => pO vs fun c' vs => kI c' fun i => pE vs <| bE bl <| some (U_pyr_exceeds_0 b l n i)).getD .no
theorem tu_pyr_exceeds_0 (b : Int) (l : List Int) (n i : Int) : T_pyr_exceeds_0 [.one (.int .i64 b), .one (.lst (.int .i64) l), .one (.int .i64 n), .one (.int .i64 i)] [] = U_pyr_exceeds_0 b l n i := by kernel_rfl
theorem b_pyr_exceeds_0 (b : Int) (l : List Int) (n i : Int) (Kc : Ex → Option (List V × List (Option Blk)) → Option Out) : exec Try.prog t_pyr_exceeds (annOf []) l_pyr_exceeds 20 0 (loopOf Try.f41 0) (unp 23 [1, 7, 8, 9] [.one (.int .i64 b), .one (.lst (.int .i64) l), .one (.int .i64 n), .one (.int .i64 i)] []) (endc 0 23 [1, 7, 8, 9] (kxOf [] [4]) Kc) =
  (T_pyr_exceeds_0 [.one (.int .i64 b), .one (.lst (.int .i64) l), .one (.int .i64 n), .one (.int .i64 i)] []).runc Kc := by kernel_rfl
end
end Go.Rx.Ch06

