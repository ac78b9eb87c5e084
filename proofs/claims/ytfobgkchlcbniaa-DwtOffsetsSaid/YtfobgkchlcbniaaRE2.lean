/- Each function, run by the executor: an equation. -/
import Derived.Test.YtfobgkchlcbniaaRG
import Derived.Test.YtfobgkchlcbniaaProg
import Derived.KernelRfl
set_option linter.unnecessarySimpa false
set_option linter.unusedVariables false
set_option linter.unusedSimpArgs false
set_option linter.unusedVariables false
set_option maxRecDepth 100000
set_option maxHeartbeats 40000000
open Go Go.Rx Go.Proofs
namespace Go.Rx.Ch05
noncomputable section
def t_law_same : FuncId → Option Summ := tabOf []
def l_law_same : Nat → Option LSumm := ltOf [(4, ⟨0, 38, [2, 3, 22, 23], (kxOf [] [4]), S_law_same_0⟩)]
theorem e_law_same (a b c d a1 b1 c1 d1 : Int) (l m : List Int) : funR Try.prog t_law_same (annOf []) l_law_same 20 Try.f16 [.agg [.int .i64 a, .int .i64 b, .int .i64 c, .int .i64 d, .lst (.int .i64) l], .agg [.int .i64 a1, .int .i64 b1, .int .i64 c1, .int .i64 d1, .lst (.int .i64) m]] [] =
  (ite2 (!(a == a1 && (b == b1 && (c == c1 && (d == d1 && true)))))
  (some ⟨.one (.bool false), [], []⟩)
  (ite2 ((↑(List.length l) : Int) != (↑(List.length m) : Int))
    (some ⟨.one (.bool false), [], []⟩)
    (ite2 (k_law_same_0 a b c d a1 b1 c1 d1 l m (↑(List.length l) : Int) 0)
      (ite2 (p_law_same_0 a b c d a1 b1 c1 d1 l m)
        (some ⟨.one (.bool true), [], []⟩)
        (some ⟨.one (.bool false), [], []⟩))
      none))) := by kernel_rfl
def U_law_same_0 (a b c d a1 b1 c1 d1 : Int) (l m : List Int) (n i : Int) : LT :=
  (.br (decide (i < n))
    (.br (decide (0 ≤ i ∧ i < (↑(List.length l) : Int)))
      (.br (decide (0 ≤ i ∧ i < (↑(List.length m) : Int)))
        (.br (gI l (Int.toNat i) != gI m (Int.toNat i))
          (.leaf Ex.ret [.one (.bool false)] [])
          (.leaf Ex.normal [V.one (C.ptr 0 0), V.one (C.ptr 1 0), .one (.int .i64 n), .one (.int .i64 (IntKind.wrap .i64 (i + 1)))] [some (Blk.box [.int .i64 a, .int .i64 b, .int .i64 c, .int .i64 d, C.lst (Sh.int .i64) l]), some (Blk.box [.int .i64 a1, .int .i64 b1, .int .i64 c1, .int .i64 d1, C.lst (Sh.int .i64) m])]))
        .no)
      .no)
    (.leaf (Ex.exit 0) [] []))
def T_law_same_0 : List V → List (Option Blk) → LT := fun vs bl => (pO vs fun c' vs => kP 0 0 c' <| pO vs fun c' vs => kP 1 0 c' <| pO vs fun c' vs => kI c' fun n => pO vs fun c' vs => kI c' fun i => pE vs <| bB bl fun q' bl => tC q' fun c' q' => kI c' fun a => tC q' fun c' q' => kI c' fun b => tC q' fun c' q' => kI c' fun c => tC q' fun c' q' => kI c' fun d => tC q' fun c' q' => kLI c' fun l => tE q' <| bB bl fun q' bl => tC q' fun c' q' => kI c' fun a1 => tC q' fun c' q' => kI c' fun b1 => tC q' fun c' q' => kI c' fun c1 => tC q' fun c' q' => kI c' fun d1 => tC q' fun c' q' => kLI c' fun m => tE q' <| bE bl <| some (U_law_same_0 a b c d a1 b1 c1 d1 l m n i)).getD .no
theorem tu_law_same_0 (a b c d a1 b1 c1 d1 : Int) (l m : List Int) (n i : Int) : T_law_same_0 [.one (.ptr 0 0), .one (.ptr 1 0), .one (.int .i64 n), .one (.int .i64 i)] [some (.box [.int .i64 a, .int .i64 b, .int .i64 c, .int .i64 d, .lst (.int .i64) l]), some (.box [.int .i64 a1, .int .i64 b1, .int .i64 c1, .int .i64 d1, .lst (.int .i64) m])] = U_law_same_0 a b c d a1 b1 c1 d1 l m n i := by kernel_rfl
theorem b_law_same_0 (a b c d a1 b1 c1 d1 : Int) (l m : List Int) (n i : Int) (Kc : Ex → Option (List V × List (Option Blk)) → Option Out) : exec Try.prog t_law_same (annOf []) l_law_same 20 0 (loopOf Try.f16 0) (unp 38 [2, 3, 22, 23] [.one (.ptr 0 0), .one (.ptr 1 0), .one (.int .i64 n), .one (.int .i64 i)] [some (.box [.int .i64 a, .int .i64 b, .int .i64 c, .int .i64 d, .lst (.int .i64) l]), some (.box [.int .i64 a1, .int .i64 b1, .int .i64 c1, .int .i64 d1, .lst (.int .i64) m])]) (endc 0 38 [2, 3, 22, 23] (kxOf [] [4]) Kc) =
  (T_law_same_0 [.one (.ptr 0 0), .one (.ptr 1 0), .one (.int .i64 n), .one (.int .i64 i)] [some (.box [.int .i64 a, .int .i64 b, .int .i64 c, .int .i64 d, .lst (.int .i64) l]), some (.box [.int .i64 a1, .int .i64 b1, .int .i64 c1, .int .i64 d1, .lst (.int .i64) m])]).runc Kc := by kernel_rfl
def t_pl_Same : FuncId → Option Summ := tabOf []
def l_pl_Same : Nat → Option LSumm := ltOf [(4, ⟨0, 37, [3, 22, 23, 24], (kxOf [] [4]), S_pl_Same_0⟩)]
theorem e_pl_Same (a b c d a1 b1 c1 d1 : Int) (l m : List Int) : funR Try.prog t_pl_Same (annOf []) l_pl_Same 20 Try.f20 [.agg [.int .i64 a, .int .i64 b, .int .i64 c, .int .i64 d, .lst (.int .i64) l], .agg [.int .i64 a1, .int .i64 b1, .int .i64 c1, .int .i64 d1, .lst (.int .i64) m]] [] =
  (ite2 (!(a == a1 && (b == b1 && (c == c1 && (d == d1 && true)))))
  (some ⟨.one (.bool false), [], []⟩)
  (ite2 ((↑(List.length l) : Int) != (↑(List.length m) : Int))
    (some ⟨.one (.bool false), [], []⟩)
    (ite2 (k_pl_Same_0 a1 b1 c1 d1 l m (↑(List.length l) : Int) 0)
      (ite2 (p_pl_Same_0 a1 b1 c1 d1 l m)
        (some ⟨.one (.bool true), [], []⟩)
        (some ⟨.one (.bool false), [], []⟩))
      none))) := by kernel_rfl
def U_pl_Same_0 (a1 b1 c1 d1 : Int) (l m : List Int) (n i : Int) : LT :=
  (.br (decide (i < n))
    (.br (decide (0 ≤ i ∧ i < (↑(List.length l) : Int)))
      (.br (decide (0 ≤ i ∧ i < (↑(List.length m) : Int)))
        (.br (gI m (Int.toNat i) != gI l (Int.toNat i))
          (.leaf Ex.ret [.one (.bool false)] [])
          (.leaf Ex.normal [V.one (C.ptr 0 0), V.one (C.lst (Sh.int .i64) l), .one (.int .i64 n), .one (.int .i64 (IntKind.wrap .i64 (i + 1)))] [some (Blk.box [.int .i64 a1, .int .i64 b1, .int .i64 c1, .int .i64 d1, C.lst (Sh.int .i64) m])]))
        .no)
      .no)
    (.leaf (Ex.exit 0) [] []))
def T_pl_Same_0 : List V → List (Option Blk) → LT := fun vs bl => (pO vs fun c' vs => kP 0 0 c' <| pO vs fun c' vs => kLI c' fun l => pO vs fun c' vs => kI c' fun n => pO vs fun c' vs => kI c' fun i => pE vs <| bB bl fun q' bl => tC q' fun c' q' => kI c' fun a1 => tC q' fun c' q' => kI c' fun b1 => tC q' fun c' q' => kI c' fun c1 => tC q' fun c' q' => kI c' fun d1 => tC q' fun c' q' => kLI c' fun m => tE q' <| bE bl <| some (U_pl_Same_0 a1 b1 c1 d1 l m n i)).getD .no
theorem tu_pl_Same_0 (a1 b1 c1 d1 : Int) (l m : List Int) (n i : Int) : T_pl_Same_0 [.one (.ptr 0 0), .one (.lst (.int .i64) l), .one (.int .i64 n), .one (.int .i64 i)] [some (.box [.int .i64 a1, .int .i64 b1, .int .i64 c1, .int .i64 d1, .lst (.int .i64) m])] = U_pl_Same_0 a1 b1 c1 d1 l m n i := by kernel_rfl
theorem b_pl_Same_0 (a1 b1 c1 d1 : Int) (l m : List Int) (n i : Int) (Kc : Ex → Option (List V × List (Option Blk)) → Option Out) : exec Try.prog t_pl_Same (annOf []) l_pl_Same 20 0 (loopOf Try.f20 0) (unp 37 [3, 22, 23, 24] [.one (.ptr 0 0), .one (.lst (.int .i64) l), .one (.int .i64 n), .one (.int .i64 i)] [some (.box [.int .i64 a1, .int .i64 b1, .int .i64 c1, .int .i64 d1, .lst (.int .i64) m])]) (endc 0 37 [3, 22, 23, 24] (kxOf [] [4]) Kc) =
  (T_pl_Same_0 [.one (.ptr 0 0), .one (.lst (.int .i64) l), .one (.int .i64 n), .one (.int .i64 i)] [some (.box [.int .i64 a1, .int .i64 b1, .int .i64 c1, .int .i64 d1, .lst (.int .i64) m])]).runc Kc := by kernel_rfl
def t_law_few : FuncId → Option Summ := tabOf []
def l_law_few : Nat → Option LSumm := ltOf []
theorem e_law_few (a b c d : Int) (l : List Int) : funR Try.prog t_law_few (annOf []) l_law_few 20 Try.f13 [.agg [.int .i64 a, .int .i64 b, .int .i64 c, .int .i64 d, .lst (.int .i64) l]] [] =
  (some ⟨.one (.bool (decide ((↑(List.length l) : Int) ≤ 4000))), [], []⟩) := by kernel_rfl
def t_law_moved : FuncId → Option Summ := tabOf []
def l_law_moved : Nat → Option LSumm := ltOf [(3, ⟨0, 33, [1, 2, 4, 5, 16, 17], (kxOf [4, 5] [4]), S_law_moved_0⟩)]
theorem e_law_moved (a b c d k : Int) (l : List Int) : funR Try.prog t_law_moved (annOf []) l_law_moved 20 Try.f19 [.agg [.int .i64 a, .int .i64 b, .int .i64 c, .int .i64 d, .lst (.int .i64) l], .one (.int .i64 k)] [] =
  (ite2 (decide (0 ≤ (↑(List.length l) : Int) ∧ (↑(List.length l) : Int) ≤ (↑(List.length l) : Int) ∧ (↑(List.length l) : Int) * 9 ≤ 140737488355328))
  (ite2 (k_law_moved_0 k a b c d 0 0 0 0 a b c d (↑(List.length l) : Int) 0 l [] (List.replicate (Int.toNat (↑(List.length l) : Int)) (0 : Int)))
    (some ⟨.agg [.int .i64 a, .int .i64 b, .int .i64 c, .int .i64 d, C.row 0], [], [Blk.arr 3 (Sh.int .i64) (mvd k l)]⟩)
    none)
  none) := by kernel_rfl
def U_law_moved_0 (kk a b c d za zb zc zd oa ob oc od n i : Int) (l y0 v : List Int) : LT :=
  (.br (decide (i < n))
    (.br (decide (0 ≤ i ∧ i < (↑(List.length l) : Int)))
      (.br (decide (0 ≤ i ∧ i < (↑(List.length v) : Int)))
        (.br (decide (Int.toNat i < List.length v))
          (.leaf Ex.normal [.one (.int .i64 kk), V.one (C.ptr 0 0), V.one (C.ptr 1 0), V.one (C.ptr 2 0), .one (.int .i64 n), .one (.int .i64 (IntKind.wrap .i64 (i + 1)))] [some (Blk.box [.int .i64 a, .int .i64 b, .int .i64 c, .int .i64 d, C.lst (Sh.int .i64) l]), some (Blk.box [.int .i64 za, .int .i64 zb, .int .i64 zc, .int .i64 zd, C.row 3]), some (Blk.box [.int .i64 oa, .int .i64 ob, .int .i64 oc, .int .i64 od, C.row 4]), some (Blk.arr 3 (Sh.int .i64) y0), some (Blk.arr 3 (Sh.int .i64) (List.set v (Int.toNat i) (IntKind.wrap .i64 (gI l (Int.toNat i) + kk))))])
          .no)
        .no)
      .no)
    (.leaf (Ex.exit 0) [V.one (C.ptr 0 0), V.one (C.ptr 1 0)] [some (Blk.box [.int .i64 za, .int .i64 zb, .int .i64 zc, .int .i64 zd, C.row 2]), some (Blk.box [.int .i64 oa, .int .i64 ob, .int .i64 oc, .int .i64 od, C.row 3]), some (Blk.arr 3 (Sh.int .i64) y0), some (Blk.arr 3 (Sh.int .i64) v)]))
def T_law_moved_0 : List V → List (Option Blk) → LT := fun vs bl => (pO vs fun c' vs => kI c' fun kk => pO vs fun c' vs => kP 0 0 c' <| pO vs fun c' vs => kP 1 0 c' <| pO vs fun c' vs => kP 2 0 c' <| pO vs fun c' vs => kI c' fun n => pO vs fun c' vs => kI c' fun i => pE vs <| bB bl fun q' bl => tC q' fun c' q' => kI c' fun a => tC q' fun c' q' => kI c' fun b => tC q' fun c' q' => kI c' fun c => tC q' fun c' q' => kI c' fun d => tC q' fun c' q' => kLI c' fun l => tE q' <| bB bl fun q' bl => rd1P 3 q' fun za zb zc zd => bB bl fun q' bl => rd1P 4 q' fun oa ob oc od => bAI 3 bl fun y0 bl => bAI 3 bl fun v bl => bE bl <| some (U_law_moved_0 kk a b c d za zb zc zd oa ob oc od n i l y0 v)).getD .no
theorem tu_law_moved_0 (kk a b c d za zb zc zd oa ob oc od n i : Int) (l y0 v : List Int) : T_law_moved_0 [.one (.int .i64 kk), .one (.ptr 0 0), .one (.ptr 1 0), .one (.ptr 2 0), .one (.int .i64 n), .one (.int .i64 i)] [some (.box [.int .i64 a, .int .i64 b, .int .i64 c, .int .i64 d, .lst (.int .i64) l]), some (.box [.int .i64 za, .int .i64 zb, .int .i64 zc, .int .i64 zd, .row 3]), some (.box [.int .i64 oa, .int .i64 ob, .int .i64 oc, .int .i64 od, .row 4]), some (.arr 3 (.int .i64) y0), some (.arr 3 (.int .i64) v)] = U_law_moved_0 kk a b c d za zb zc zd oa ob oc od n i l y0 v := by kernel_rfl
theorem b_law_moved_0 (kk a b c d za zb zc zd oa ob oc od n i : Int) (l y0 v : List Int) (Kc : Ex → Option (List V × List (Option Blk)) → Option Out) : exec Try.prog t_law_moved (annOf []) l_law_moved 20 0 (loopOf Try.f19 0) (unp 33 [1, 2, 4, 5, 16, 17] [.one (.int .i64 kk), .one (.ptr 0 0), .one (.ptr 1 0), .one (.ptr 2 0), .one (.int .i64 n), .one (.int .i64 i)] [some (.box [.int .i64 a, .int .i64 b, .int .i64 c, .int .i64 d, .lst (.int .i64) l]), some (.box [.int .i64 za, .int .i64 zb, .int .i64 zc, .int .i64 zd, .row 3]), some (.box [.int .i64 oa, .int .i64 ob, .int .i64 oc, .int .i64 od, .row 4]), some (.arr 3 (.int .i64) y0), some (.arr 3 (.int .i64) v)]) (endc 0 33 [1, 2, 4, 5, 16, 17] (kxOf [4, 5] [4]) Kc) =
  (T_law_moved_0 [.one (.int .i64 kk), .one (.ptr 0 0), .one (.ptr 1 0), .one (.ptr 2 0), .one (.int .i64 n), .one (.int .i64 i)] [some (.box [.int .i64 a, .int .i64 b, .int .i64 c, .int .i64 d, .lst (.int .i64) l]), some (.box [.int .i64 za, .int .i64 zb, .int .i64 zc, .int .i64 zd, .row 3]), some (.box [.int .i64 oa, .int .i64 ob, .int .i64 oc, .int .i64 od, .row 4]), some (.arr 3 (.int .i64) y0), some (.arr 3 (.int .i64) v)]).runc Kc := by kernel_rfl
def t_law_within : FuncId → Option Summ := tabOf []
def l_law_within : Nat → Option LSumm := ltOf [(2, ⟨0, 24, [1, 8, 9, 10], (kxOf [] [4]), S_law_within_0⟩)]
theorem e_law_within (a b c d k : Int) (l : List Int) : funR Try.prog t_law_within (annOf []) l_law_within 20 Try.f27 [.agg [.int .i64 a, .int .i64 b, .int .i64 c, .int .i64 d, .lst (.int .i64) l], .one (.int .i64 k)] [] =
  (ite2 (k_law_within_0 k l (↑(List.length l) : Int) 0)
  (ite2 (p_law_within_0 k l)
    (some ⟨.one (.bool true), [], []⟩)
    (some ⟨.one (.bool false), [], []⟩))
  none) := by kernel_rfl
def U_law_within_0 (kk : Int) (l : List Int) (n i : Int) : LT :=
  (.br (decide (i < n))
    (.br (decide (0 ≤ i ∧ i < (↑(List.length l) : Int)))
      (.br (decide (gI l (Int.toNat i) > kk))
        (.leaf Ex.ret [.one (.bool false)] [])
        (.br (decide (gI l (Int.toNat i) < IntKind.wrap .i64 (0 - kk)))
          (.leaf Ex.ret [.one (.bool false)] [])
          (.leaf Ex.normal [.one (.int .i64 kk), V.one (C.lst (Sh.int .i64) l), .one (.int .i64 n), .one (.int .i64 (IntKind.wrap .i64 (i + 1)))] [])))
      .no)
    (.leaf (Ex.exit 0) [] []))
def T_law_within_0 : List V → List (Option Blk) → LT := fun vs bl => (pO vs fun c' vs => kI c' fun kk => pO vs fun c' vs => kLI c' fun l => pO vs fun c' vs => kI c' fun n => pO vs fun c' vs => kI c' fun i => pE vs <| bE bl <| some (U_law_within_0 kk l n i)).getD .no
theorem tu_law_within_0 (kk : Int) (l : List Int) (n i : Int) : T_law_within_0 [.one (.int .i64 kk), .one (.lst (.int .i64) l), .one (.int .i64 n), .one (.int .i64 i)] [] = U_law_within_0 kk l n i := by kernel_rfl
theorem b_law_within_0 (kk : Int) (l : List Int) (n i : Int) (Kc : Ex → Option (List V × List (Option Blk)) → Option Out) : exec Try.prog t_law_within (annOf []) l_law_within 20 0 (loopOf Try.f27 0) (unp 24 [1, 8, 9, 10] [.one (.int .i64 kk), .one (.lst (.int .i64) l), .one (.int .i64 n), .one (.int .i64 i)] []) (endc 0 24 [1, 8, 9, 10] (kxOf [] [4]) Kc) =
  (T_law_within_0 [.one (.int .i64 kk), .one (.lst (.int .i64) l), .one (.int .i64 n), .one (.int .i64 i)] []).runc Kc := by kernel_rfl
end
end Go.Rx.Ch05

set_option linter.unusedVariables false
set_option maxRecDepth 100000
set_option maxHeartbeats 40000000
open Go Go.Rx Go.Proofs
namespace Go.Rx.Ch05
noncomputable section
def t_rect_Has : FuncId → Option Summ := tabOf []
def l_rect_Has : Nat → Option LSumm := ltOf []
theorem e_rect_Has (a b c d x y : Int) : funR Try.prog t_rect_Has (annOf []) l_rect_Has 20 Try.f23 [.agg [.int .i64 a, .int .i64 b, .int .i64 c, .int .i64 d], .agg [.int .i64 x, .int .i64 y]] [] =
  (ite2 (decide (a ≤ x))
  (ite2 (decide (x < c))
    (ite2 (decide (b ≤ y))
      (some ⟨.one (.bool (decide (y < d))), [], []⟩)
      (some ⟨.one (.bool false), [], []⟩))
    (some ⟨.one (.bool false), [], []⟩))
  (some ⟨.one (.bool false), [], []⟩)) := by kernel_rfl
def t_awake : FuncId → Option Summ := tabOf [(10, G_dwt_Bands), (14, G_dwt_Split), (17, G_dwt_Merge)]
def l_awake : Nat → Option LSumm := ltOf []
theorem e_awake  : funR Try.prog t_awake (annOf []) l_awake 20 Try.f12 [] [] =
  (some ⟨.one (.bool true), [], []⟩) := by kernel_rfl
def t_DwtPartitions : FuncId → Option Summ := tabOf [(10, G_dwt_Bands), (12, G_awake), (21, G_rect_Valid), (22, G_rect_Area), (23, G_rect_Has), (24, G_rect_FloorDiv)]
def l_DwtPartitions : Nat → Option LSumm := ltOf []
theorem e_DwtPartitions (a b c d x y : Int) : funR Try.prog t_DwtPartitions (annOf []) l_DwtPartitions 20 Try.f8 [.agg [.int .i64 a, .int .i64 b, .int .i64 c, .int .i64 d], .agg [.int .i64 x, .int .i64 y]] [] =
  (ite2 (!valid a b c d)
  (ite2 ((bnd a b c d 0).fst == 0 && ((bnd a b c d 0).snd.fst == 0 && ((bnd a b c d 0).snd.snd.fst == 0 && ((bnd a b c d 0).snd.snd.snd == 0 && ((bnd a b c d 1).fst == 0 && ((bnd a b c d 1).snd.fst == 0 && ((bnd a b c d 1).snd.snd.fst == 0 && ((bnd a b c d 1).snd.snd.snd == 0 && ((bnd a b c d 2).fst == 0 && ((bnd a b c d 2).snd.fst == 0 && ((bnd a b c d 2).snd.snd.fst == 0 && ((bnd a b c d 2).snd.snd.snd == 0 && ((bnd a b c d 3).fst == 0 && ((bnd a b c d 3).snd.fst == 0 && ((bnd a b c d 3).snd.snd.fst == 0 && ((bnd a b c d 3).snd.snd.snd == 0 && true))))))))))))))))
    (some ⟨.one (.bool true), [], []⟩)
    (some ⟨.one (.bool false), [], []⟩))
  (ite2 (!valid (bnd a b c d 0).fst (bnd a b c d 0).snd.fst (bnd a b c d 0).snd.snd.fst (bnd a b c d 0).snd.snd.snd)
    (some ⟨.one (.bool false), [], []⟩)
    (ite2 (!valid (bnd a b c d 1).fst (bnd a b c d 1).snd.fst (bnd a b c d 1).snd.snd.fst (bnd a b c d 1).snd.snd.snd)
      (some ⟨.one (.bool false), [], []⟩)
      (ite2 (!valid (bnd a b c d 2).fst (bnd a b c d 2).snd.fst (bnd a b c d 2).snd.snd.fst (bnd a b c d 2).snd.snd.snd)
        (some ⟨.one (.bool false), [], []⟩)
        (ite2 (!valid (bnd a b c d 3).fst (bnd a b c d 3).snd.fst (bnd a b c d 3).snd.snd.fst (bnd a b c d 3).snd.snd.snd)
          (some ⟨.one (.bool false), [], []⟩)
          (ite2 (IntKind.wrap .i64 (IntKind.wrap .i64 (IntKind.wrap .i64 (IntKind.wrap .i64 (0 + area (bnd a b c d 0).fst (bnd a b c d 0).snd.fst (bnd a b c d 0).snd.snd.fst (bnd a b c d 0).snd.snd.snd) + area (bnd a b c d 1).fst (bnd a b c d 1).snd.fst (bnd a b c d 1).snd.snd.fst (bnd a b c d 1).snd.snd.snd) + area (bnd a b c d 2).fst (bnd a b c d 2).snd.fst (bnd a b c d 2).snd.snd.fst (bnd a b c d 2).snd.snd.snd) + area (bnd a b c d 3).fst (bnd a b c d 3).snd.fst (bnd a b c d 3).snd.snd.fst (bnd a b c d 3).snd.snd.snd) != area a b c d)
            (some ⟨.one (.bool false), [], []⟩)
            (ite2 (IntKind.wrap .i64 (↑(Nat.bitwise and (BitVec.toNat (BitVec.ofInt (IntKind.bits .i64) x)) (BitVec.toNat (BitVec.ofInt (IntKind.bits .i64) 1))) : Int) == 1)
              (ite2 (IntKind.wrap .i64 (↑(Nat.bitwise and (BitVec.toNat (BitVec.ofInt (IntKind.bits .i64) y)) (BitVec.toNat (BitVec.ofInt (IntKind.bits .i64) 1))) : Int) == 1)
                (ite2 (has (bnd a b c d 3).fst (bnd a b c d 3).snd.fst (bnd a b c d 3).snd.snd.fst (bnd a b c d 3).snd.snd.snd (fdiv x 2) (fdiv y 2) == has a b c d x y)
                  (some ⟨.one (.bool true), [], []⟩)
                  (some ⟨.one (.bool false), [], []⟩))
                (ite2 (has (bnd a b c d 1).fst (bnd a b c d 1).snd.fst (bnd a b c d 1).snd.snd.fst (bnd a b c d 1).snd.snd.snd (fdiv x 2) (fdiv y 2) == has a b c d x y)
                  (some ⟨.one (.bool true), [], []⟩)
                  (some ⟨.one (.bool false), [], []⟩)))
              (ite2 (IntKind.wrap .i64 (↑(Nat.bitwise and (BitVec.toNat (BitVec.ofInt (IntKind.bits .i64) y)) (BitVec.toNat (BitVec.ofInt (IntKind.bits .i64) 1))) : Int) == 1)
                (ite2 (has (bnd a b c d 2).fst (bnd a b c d 2).snd.fst (bnd a b c d 2).snd.snd.fst (bnd a b c d 2).snd.snd.snd (fdiv x 2) (fdiv y 2) == has a b c d x y)
                  (some ⟨.one (.bool true), [], []⟩)
                  (some ⟨.one (.bool false), [], []⟩))
                (ite2 (has (bnd a b c d 0).fst (bnd a b c d 0).snd.fst (bnd a b c d 0).snd.snd.fst (bnd a b c d 0).snd.snd.snd (fdiv x 2) (fdiv y 2) == has a b c d x y)
                  (some ⟨.one (.bool true), [], []⟩)
                  (some ⟨.one (.bool false), [], []⟩)))))))))) := by kernel_rfl
end
end Go.Rx.Ch05

set_option linter.unusedVariables false
set_option maxRecDepth 100000
set_option maxHeartbeats 40000000
open Go Go.Rx Go.Proofs
namespace Go.Rx.Ch05
noncomputable section
def t_DwtInverts : FuncId → Option Summ := tabOf [(12, G_awake), (13, G_law_few), (14, G_dwt_Split), (16, G_law_same), (17, G_dwt_Merge), (20, G_pl_Same)]
def l_DwtInverts : Nat → Option LSumm := ltOf []
theorem e_DwtInverts (a b c d : Int) (l : List Int) (k : Int) : funR Try.prog t_DwtInverts (annOf []) l_DwtInverts 20 Try.f7 [.agg [.int .i64 a, .int .i64 b, .int .i64 c, .int .i64 d, .lst (.int .i64) l], .one (.int .i64 k)] [] =
  (ite2 (!decide (List.length l ≤ 4000))
  (some ⟨.one (.bool true), [], []⟩)
  (ite2 (small (List.length l))
    (ite2 (spErr a b c d k l != 0)
      (ite2 (small (List.length (spD0 a b c d k l)))
        (ite2 (samePl (spR a b c d k l 0).fst (spR a b c d k l 0).snd.fst (spR a b c d k l 0).snd.snd.fst (spR a b c d k l 0).snd.snd.snd (spD0 a b c d k l) 0 0 0 0 [])
          (some ⟨.one (.bool true), [], []⟩)
          (some ⟨.one (.bool false), [], []⟩))
        none)
      (ite2 (small (List.length (spD0 a b c d k l)) && small (List.length (spD1 a b c d k l)) && small (List.length (spD2 a b c d k l)) && small (List.length (spD3 a b c d k l)))
        (ite2 (mgErr (spR a b c d k l 0).fst (spR a b c d k l 0).snd.fst (spR a b c d k l 0).snd.snd.fst (spR a b c d k l 0).snd.snd.snd (spR a b c d k l 1).fst (spR a b c d k l 1).snd.fst (spR a b c d k l 1).snd.snd.fst (spR a b c d k l 1).snd.snd.snd (spR a b c d k l 2).fst (spR a b c d k l 2).snd.fst (spR a b c d k l 2).snd.snd.fst (spR a b c d k l 2).snd.snd.snd (spR a b c d k l 3).fst (spR a b c d k l 3).snd.fst (spR a b c d k l 3).snd.snd.fst (spR a b c d k l 3).snd.snd.snd a b c d k (spD0 a b c d k l) (spD1 a b c d k l) (spD2 a b c d k l) (spD3 a b c d k l) == 0)
          (ite2 (small (List.length l))
            (ite2 (samePl a b c d l (mgR (mgErr (spR a b c d k l 0).fst (spR a b c d k l 0).snd.fst (spR a b c d k l 0).snd.snd.fst (spR a b c d k l 0).snd.snd.snd (spR a b c d k l 1).fst (spR a b c d k l 1).snd.fst (spR a b c d k l 1).snd.snd.fst (spR a b c d k l 1).snd.snd.snd (spR a b c d k l 2).fst (spR a b c d k l 2).snd.fst (spR a b c d k l 2).snd.snd.fst (spR a b c d k l 2).snd.snd.snd (spR a b c d k l 3).fst (spR a b c d k l 3).snd.fst (spR a b c d k l 3).snd.snd.fst (spR a b c d k l 3).snd.snd.snd a b c d k (spD0 a b c d k l) (spD1 a b c d k l) (spD2 a b c d k l) (spD3 a b c d k l)) a b c d).fst (mgR (mgErr (spR a b c d k l 0).fst (spR a b c d k l 0).snd.fst (spR a b c d k l 0).snd.snd.fst (spR a b c d k l 0).snd.snd.snd (spR a b c d k l 1).fst (spR a b c d k l 1).snd.fst (spR a b c d k l 1).snd.snd.fst (spR a b c d k l 1).snd.snd.snd (spR a b c d k l 2).fst (spR a b c d k l 2).snd.fst (spR a b c d k l 2).snd.snd.fst (spR a b c d k l 2).snd.snd.snd (spR a b c d k l 3).fst (spR a b c d k l 3).snd.fst (spR a b c d k l 3).snd.snd.fst (spR a b c d k l 3).snd.snd.snd a b c d k (spD0 a b c d k l) (spD1 a b c d k l) (spD2 a b c d k l) (spD3 a b c d k l)) a b c d).snd.fst (mgR (mgErr (spR a b c d k l 0).fst (spR a b c d k l 0).snd.fst (spR a b c d k l 0).snd.snd.fst (spR a b c d k l 0).snd.snd.snd (spR a b c d k l 1).fst (spR a b c d k l 1).snd.fst (spR a b c d k l 1).snd.snd.fst (spR a b c d k l 1).snd.snd.snd (spR a b c d k l 2).fst (spR a b c d k l 2).snd.fst (spR a b c d k l 2).snd.snd.fst (spR a b c d k l 2).snd.snd.snd (spR a b c d k l 3).fst (spR a b c d k l 3).snd.fst (spR a b c d k l 3).snd.snd.fst (spR a b c d k l 3).snd.snd.snd a b c d k (spD0 a b c d k l) (spD1 a b c d k l) (spD2 a b c d k l) (spD3 a b c d k l)) a b c d).snd.snd.fst (mgR (mgErr (spR a b c d k l 0).fst (spR a b c d k l 0).snd.fst (spR a b c d k l 0).snd.snd.fst (spR a b c d k l 0).snd.snd.snd (spR a b c d k l 1).fst (spR a b c d k l 1).snd.fst (spR a b c d k l 1).snd.snd.fst (spR a b c d k l 1).snd.snd.snd (spR a b c d k l 2).fst (spR a b c d k l 2).snd.fst (spR a b c d k l 2).snd.snd.fst (spR a b c d k l 2).snd.snd.snd (spR a b c d k l 3).fst (spR a b c d k l 3).snd.fst (spR a b c d k l 3).snd.snd.fst (spR a b c d k l 3).snd.snd.snd a b c d k (spD0 a b c d k l) (spD1 a b c d k l) (spD2 a b c d k l) (spD3 a b c d k l)) a b c d).snd.snd.snd (mgL (mgErr (spR a b c d k l 0).fst (spR a b c d k l 0).snd.fst (spR a b c d k l 0).snd.snd.fst (spR a b c d k l 0).snd.snd.snd (spR a b c d k l 1).fst (spR a b c d k l 1).snd.fst (spR a b c d k l 1).snd.snd.fst (spR a b c d k l 1).snd.snd.snd (spR a b c d k l 2).fst (spR a b c d k l 2).snd.fst (spR a b c d k l 2).snd.snd.fst (spR a b c d k l 2).snd.snd.snd (spR a b c d k l 3).fst (spR a b c d k l 3).snd.fst (spR a b c d k l 3).snd.snd.fst (spR a b c d k l 3).snd.snd.snd a b c d k (spD0 a b c d k l) (spD1 a b c d k l) (spD2 a b c d k l) (spD3 a b c d k l)) a b c d k (spD0 a b c d k l) (spD1 a b c d k l) (spD2 a b c d k l) (spD3 a b c d k l)))
              (ite2 (small (List.length l))
                (ite2 (samePl a b c d l (mgR (mgErr (spR a b c d k l 0).fst (spR a b c d k l 0).snd.fst (spR a b c d k l 0).snd.snd.fst (spR a b c d k l 0).snd.snd.snd (spR a b c d k l 1).fst (spR a b c d k l 1).snd.fst (spR a b c d k l 1).snd.snd.fst (spR a b c d k l 1).snd.snd.snd (spR a b c d k l 2).fst (spR a b c d k l 2).snd.fst (spR a b c d k l 2).snd.snd.fst (spR a b c d k l 2).snd.snd.snd (spR a b c d k l 3).fst (spR a b c d k l 3).snd.fst (spR a b c d k l 3).snd.snd.fst (spR a b c d k l 3).snd.snd.snd a b c d k (spD0 a b c d k l) (spD1 a b c d k l) (spD2 a b c d k l) (spD3 a b c d k l)) a b c d).fst (mgR (mgErr (spR a b c d k l 0).fst (spR a b c d k l 0).snd.fst (spR a b c d k l 0).snd.snd.fst (spR a b c d k l 0).snd.snd.snd (spR a b c d k l 1).fst (spR a b c d k l 1).snd.fst (spR a b c d k l 1).snd.snd.fst (spR a b c d k l 1).snd.snd.snd (spR a b c d k l 2).fst (spR a b c d k l 2).snd.fst (spR a b c d k l 2).snd.snd.fst (spR a b c d k l 2).snd.snd.snd (spR a b c d k l 3).fst (spR a b c d k l 3).snd.fst (spR a b c d k l 3).snd.snd.fst (spR a b c d k l 3).snd.snd.snd a b c d k (spD0 a b c d k l) (spD1 a b c d k l) (spD2 a b c d k l) (spD3 a b c d k l)) a b c d).snd.fst (mgR (mgErr (spR a b c d k l 0).fst (spR a b c d k l 0).snd.fst (spR a b c d k l 0).snd.snd.fst (spR a b c d k l 0).snd.snd.snd (spR a b c d k l 1).fst (spR a b c d k l 1).snd.fst (spR a b c d k l 1).snd.snd.fst (spR a b c d k l 1).snd.snd.snd (spR a b c d k l 2).fst (spR a b c d k l 2).snd.fst (spR a b c d k l 2).snd.snd.fst (spR a b c d k l 2).snd.snd.snd (spR a b c d k l 3).fst (spR a b c d k l 3).snd.fst (spR a b c d k l 3).snd.snd.fst (spR a b c d k l 3).snd.snd.snd a b c d k (spD0 a b c d k l) (spD1 a b c d k l) (spD2 a b c d k l) (spD3 a b c d k l)) a b c d).snd.snd.fst (mgR (mgErr (spR a b c d k l 0).fst (spR a b c d k l 0).snd.fst (spR a b c d k l 0).snd.snd.fst (spR a b c d k l 0).snd.snd.snd (spR a b c d k l 1).fst (spR a b c d k l 1).snd.fst (spR a b c d k l 1).snd.snd.fst (spR a b c d k l 1).snd.snd.snd (spR a b c d k l 2).fst (spR a b c d k l 2).snd.fst (spR a b c d k l 2).snd.snd.fst (spR a b c d k l 2).snd.snd.snd (spR a b c d k l 3).fst (spR a b c d k l 3).snd.fst (spR a b c d k l 3).snd.snd.fst (spR a b c d k l 3).snd.snd.snd a b c d k (spD0 a b c d k l) (spD1 a b c d k l) (spD2 a b c d k l) (spD3 a b c d k l)) a b c d).snd.snd.snd (mgL (mgErr (spR a b c d k l 0).fst (spR a b c d k l 0).snd.fst (spR a b c d k l 0).snd.snd.fst (spR a b c d k l 0).snd.snd.snd (spR a b c d k l 1).fst (spR a b c d k l 1).snd.fst (spR a b c d k l 1).snd.snd.fst (spR a b c d k l 1).snd.snd.snd (spR a b c d k l 2).fst (spR a b c d k l 2).snd.fst (spR a b c d k l 2).snd.snd.fst (spR a b c d k l 2).snd.snd.snd (spR a b c d k l 3).fst (spR a b c d k l 3).snd.fst (spR a b c d k l 3).snd.snd.fst (spR a b c d k l 3).snd.snd.snd a b c d k (spD0 a b c d k l) (spD1 a b c d k l) (spD2 a b c d k l) (spD3 a b c d k l)) a b c d k (spD0 a b c d k l) (spD1 a b c d k l) (spD2 a b c d k l) (spD3 a b c d k l)))
                  (some ⟨.one (.bool true), [], []⟩)
                  (some ⟨.one (.bool false), [], []⟩))
                none)
              (some ⟨.one (.bool false), [], []⟩))
            none)
          (some ⟨.one (.bool false), [], []⟩))
        none))
    none)) := by kernel_rfl
end
end Go.Rx.Ch05

set_option linter.unusedVariables false
set_option maxRecDepth 100000
set_option maxHeartbeats 40000000
open Go Go.Rx Go.Proofs
namespace Go.Rx.Ch05
noncomputable section
def t_DwtBounds : FuncId → Option Summ := tabOf [(12, G_awake), (13, G_law_few), (14, G_dwt_Split), (25, G_lift_Low), (26, G_lift_High), (27, G_law_within)]
def l_DwtBounds : Nat → Option LSumm := ltOf [(8, ⟨0, 77, [1, 5, 7, 26, 27, 28], (kxOf [1, 5, 7] [4]), S_DwtBounds_0⟩)]
theorem e_DwtBounds (a b c d : Int) (l : List Int) (k : Int) : funR Try.prog t_DwtBounds (annOf []) l_DwtBounds 20 Try.f9 [.agg [.int .i64 a, .int .i64 b, .int .i64 c, .int .i64 d, .lst (.int .i64) l], .one (.int .i64 k)] [] =
  (ite2 (!decide (List.length l ≤ 4000))
  (some ⟨.one (.bool true), [], []⟩)
  (ite2 (small (List.length l))
    (ite2 (spErr a b c d k l != 0)
      (some ⟨.one (.bool true), [], []⟩)
      (ite2 (k_DwtBounds_0 k (spR a b c d k l 0).fst (spR a b c d k l 0).snd.fst (spR a b c d k l 0).snd.snd.fst (spR a b c d k l 0).snd.snd.snd (spR a b c d k l 1).fst (spR a b c d k l 1).snd.fst (spR a b c d k l 1).snd.snd.fst (spR a b c d k l 1).snd.snd.snd (spR a b c d k l 2).fst (spR a b c d k l 2).snd.fst (spR a b c d k l 2).snd.snd.fst (spR a b c d k l 2).snd.snd.snd (spR a b c d k l 3).fst (spR a b c d k l 3).snd.fst (spR a b c d k l 3).snd.snd.fst (spR a b c d k l 3).snd.snd.snd 0 (↑(List.length l) : Int) 0 l (spD0 a b c d k l) (spD1 a b c d k l) (spD2 a b c d k l) (spD3 a b c d k l))
        (ite2 (small (List.length (spD0 a b c d k l)) && (decide (0 ≤ lb (lb (mxN l (List.length l)) k) k) && decide (lb (lb (mxN l (List.length l)) k) k ≤ 4503599627370496)))
          (ite2 (!fitB (lb (lb (mxN l (List.length l)) k) k) (spD0 a b c d k l))
            (some ⟨.one (.bool false), [], []⟩)
            (ite2 (small (List.length (spD1 a b c d k l)) && (decide (0 ≤ lb (hb (mxN l (List.length l)) k) k) && decide (lb (hb (mxN l (List.length l)) k) k ≤ 4503599627370496)))
              (ite2 (!fitB (lb (hb (mxN l (List.length l)) k) k) (spD1 a b c d k l))
                (some ⟨.one (.bool false), [], []⟩)
                (ite2 (small (List.length (spD2 a b c d k l)) && (decide (0 ≤ hb (lb (mxN l (List.length l)) k) k) && decide (hb (lb (mxN l (List.length l)) k) k ≤ 4503599627370496)))
                  (ite2 (fitB (hb (lb (mxN l (List.length l)) k) k) (spD2 a b c d k l))
                    (ite2 (small (List.length (spD3 a b c d k l)) && (decide (0 ≤ hb (hb (mxN l (List.length l)) k) k) && decide (hb (hb (mxN l (List.length l)) k) k ≤ 4503599627370496)))
                      (ite2 (fitB (hb (hb (mxN l (List.length l)) k) k) (spD3 a b c d k l))
                        (some ⟨.one (.bool true), [], []⟩)
                        (some ⟨.one (.bool false), [], []⟩))
                      none)
                    (some ⟨.one (.bool false), [], []⟩))
                  none))
              none))
          none)
        none))
    none)) := by kernel_rfl
def U_DwtBounds_0 (kk ua0 ub0 uc0 ud0 ua1 ub1 uc1 ud1 ua2 ub2 uc2 ud2 ua3 ub3 uc3 ud3 m n i : Int) (l y0 y1 y2 y3 : List Int) : LT :=
  (.br (decide (i < n))
    (.br (decide (0 ≤ i ∧ i < (↑(List.length l) : Int)))
      (.leaf Ex.normal [.one (.int .i64 kk), V.one (C.ptr 0 0), .one (.int .i64 (if IntKind.wrap .i64 (0 - gI l (Int.toNat i)) > if gI l (Int.toNat i) > m then gI l (Int.toNat i) else m then IntKind.wrap .i64 (0 - gI l (Int.toNat i)) else if gI l (Int.toNat i) > m then gI l (Int.toNat i) else m)), V.one (C.lst (Sh.int .i64) l), .one (.int .i64 n), .one (.int .i64 (IntKind.wrap .i64 (i + 1)))] [some (Blk.box [.int .i64 ua0, .int .i64 ub0, .int .i64 uc0, .int .i64 ud0, C.row 1, .int .i64 ua1, .int .i64 ub1, .int .i64 uc1, .int .i64 ud1, C.row 2, .int .i64 ua2, .int .i64 ub2, .int .i64 uc2, .int .i64 ud2, C.row 3, .int .i64 ua3, .int .i64 ub3, .int .i64 uc3, .int .i64 ud3, C.row 4]), some (Blk.arr 3 (Sh.int .i64) y0), some (Blk.arr 3 (Sh.int .i64) y1), some (Blk.arr 3 (Sh.int .i64) y2), some (Blk.arr 3 (Sh.int .i64) y3)])
      .no)
    (.leaf (Ex.exit 0) [.one (.int .i64 kk), V.one (C.ptr 0 0), .one (.int .i64 m)] [some (Blk.box [.int .i64 ua0, .int .i64 ub0, .int .i64 uc0, .int .i64 ud0, C.row 1, .int .i64 ua1, .int .i64 ub1, .int .i64 uc1, .int .i64 ud1, C.row 2, .int .i64 ua2, .int .i64 ub2, .int .i64 uc2, .int .i64 ud2, C.row 3, .int .i64 ua3, .int .i64 ub3, .int .i64 uc3, .int .i64 ud3, C.row 4]), some (Blk.arr 3 (Sh.int .i64) y0), some (Blk.arr 3 (Sh.int .i64) y1), some (Blk.arr 3 (Sh.int .i64) y2), some (Blk.arr 3 (Sh.int .i64) y3)]))
def T_DwtBounds_0 : List V → List (Option Blk) → LT := fun vs bl => (pO vs fun c' vs => kI c' fun kk => pO vs fun c' vs => kP 0 0 c' <| pO vs fun c' vs => kI c' fun m => pO vs fun c' vs => kLI c' fun l => pO vs fun c' vs => kI c' fun n => pO vs fun c' vs => kI c' fun i => pE vs <| bB bl fun q' bl => rd4P 1 2 3 4 q' fun ua0 ub0 uc0 ud0 ua1 ub1 uc1 ud1 ua2 ub2 uc2 ud2 ua3 ub3 uc3 ud3 => bAI 3 bl fun y0 bl => bAI 3 bl fun y1 bl => bAI 3 bl fun y2 bl => bAI 3 bl fun y3 bl => bE bl <| some (U_DwtBounds_0 kk ua0 ub0 uc0 ud0 ua1 ub1 uc1 ud1 ua2 ub2 uc2 ud2 ua3 ub3 uc3 ud3 m n i l y0 y1 y2 y3)).getD .no
theorem tu_DwtBounds_0 (kk ua0 ub0 uc0 ud0 ua1 ub1 uc1 ud1 ua2 ub2 uc2 ud2 ua3 ub3 uc3 ud3 m n i : Int) (l y0 y1 y2 y3 : List Int) : T_DwtBounds_0 [.one (.int .i64 kk), .one (.ptr 0 0), .one (.int .i64 m), .one (.lst (.int .i64) l), .one (.int .i64 n), .one (.int .i64 i)] [some (.box [.int .i64 ua0, .int .i64 ub0, .int .i64 uc0, .int .i64 ud0, .row 1, .int .i64 ua1, .int .i64 ub1, .int .i64 uc1, .int .i64 ud1, .row 2, .int .i64 ua2, .int .i64 ub2, .int .i64 uc2, .int .i64 ud2, .row 3, .int .i64 ua3, .int .i64 ub3, .int .i64 uc3, .int .i64 ud3, .row 4]), some (.arr 3 (.int .i64) y0), some (.arr 3 (.int .i64) y1), some (.arr 3 (.int .i64) y2), some (.arr 3 (.int .i64) y3)] = U_DwtBounds_0 kk ua0 ub0 uc0 ud0 ua1 ub1 uc1 ud1 ua2 ub2 uc2 ud2 ua3 ub3 uc3 ud3 m n i l y0 y1 y2 y3 := by kernel_rfl
theorem b_DwtBounds_0 (kk ua0 ub0 uc0 ud0 ua1 ub1 uc1 ud1 ua2 ub2 uc2 ud2 ua3 ub3 uc3 ud3 m n i : Int) (l y0 y1 y2 y3 : List Int) (Kc : Ex → Option (List V × List (Option Blk)) → Option Out) : exec Try.prog t_DwtBounds (annOf []) l_DwtBounds 20 0 (loopOf Try.f9 0) (unp 77 [1, 5, 7, 26, 27, 28] [.one (.int .i64 kk), .one (.ptr 0 0), .one (.int .i64 m), .one (.lst (.int .i64) l), .one (.int .i64 n), .one (.int .i64 i)] [some (.box [.int .i64 ua0, .int .i64 ub0, .int .i64 uc0, .int .i64 ud0, .row 1, .int .i64 ua1, .int .i64 ub1, .int .i64 uc1, .int .i64 ud1, .row 2, .int .i64 ua2, .int .i64 ub2, .int .i64 uc2, .int .i64 ud2, .row 3, .int .i64 ua3, .int .i64 ub3, .int .i64 uc3, .int .i64 ud3, .row 4]), some (.arr 3 (.int .i64) y0), some (.arr 3 (.int .i64) y1), some (.arr 3 (.int .i64) y2), some (.arr 3 (.int .i64) y3)]) (endc 0 77 [1, 5, 7, 26, 27, 28] (kxOf [1, 5, 7] [4]) Kc) =
  (T_DwtBounds_0 [.one (.int .i64 kk), .one (.ptr 0 0), .one (.int .i64 m), .one (.lst (.int .i64) l), .one (.int .i64 n), .one (.int .i64 i)] [some (.box [.int .i64 ua0, .int .i64 ub0, .int .i64 uc0, .int .i64 ud0, .row 1, .int .i64 ua1, .int .i64 ub1, .int .i64 uc1, .int .i64 ud1, .row 2, .int .i64 ua2, .int .i64 ub2, .int .i64 uc2, .int .i64 ud2, .row 3, .int .i64 ua3, .int .i64 ub3, .int .i64 uc3, .int .i64 ud3, .row 4]), some (.arr 3 (.int .i64) y0), some (.arr 3 (.int .i64) y1), some (.arr 3 (.int .i64) y2), some (.arr 3 (.int .i64) y3)]).runc Kc := by kernel_rfl
end
end Go.Rx.Ch05

set_option linter.unusedVariables false
set_option maxRecDepth 100000
set_option maxHeartbeats 40000000
open Go Go.Rx Go.Proofs
namespace Go.Rx.Ch05
noncomputable section
def t_DwtOffsets : FuncId → Option Summ := tabOf [(12, G_awake), (13, G_law_few), (14, G_dwt_Split), (16, G_law_same), (19, G_law_moved)]
def l_DwtOffsets : Nat → Option LSumm := ltOf []
theorem e_DwtOffsets (a b c d : Int) (l : List Int) (k2 k : Int) : funR Try.prog t_DwtOffsets (annOf []) l_DwtOffsets 20 Try.f6 [.agg [.int .i64 a, .int .i64 b, .int .i64 c, .int .i64 d, .lst (.int .i64) l], .one (.int .i64 k2), .one (.int .i64 k)] [] =
  (ite2 (!decide (List.length l ≤ 4000))
  (some ⟨.one (.bool true), [], []⟩)
  (ite2 (decide (k2 > 281474976710656))
    (some ⟨.one (.bool true), [], []⟩)
    (ite2 (decide (k2 < -281474976710656))
      (some ⟨.one (.bool true), [], []⟩)
      (ite2 (small (List.length l))
        (ite2 (spErr a b c d k l != 0)
          (some ⟨.one (.bool true), [], []⟩)
          (ite2 (small (List.length l) && decide ((↑(List.length l) : Int) * 9 ≤ 140737488355328))
            (ite2 (small (List.length (mvd k2 l)))
              (ite2 (spErr a b c d k (mvd k2 l) != 0)
                (ite2 (spErr a b c d k (mvd k2 l) == 2)
                  (some ⟨.one (.bool true), [], []⟩)
                  (some ⟨.one (.bool false), [], []⟩))
                (ite2 (IntKind.wrap .i64 (c - a) == 1)
                  (ite2 (Int.tmod a 2 == 1)
                    (ite2 (IntKind.wrap .i64 (d - b) == 1)
                      (ite2 (Int.tmod b 2 == 1)
                        (ite2 (small (List.length (spD3 a b c d k l)) && decide ((↑(List.length (spD3 a b c d k l)) : Int) * 9 ≤ 140737488355328))
                          (ite2 (small (List.length (spD0 a b c d k l)))
                            (ite2 (!samePl (spR a b c d k l 0).fst (spR a b c d k l 0).snd.fst (spR a b c d k l 0).snd.snd.fst (spR a b c d k l 0).snd.snd.snd (spD0 a b c d k l) (spR a b c d k (mvd k2 l) 0).fst (spR a b c d k (mvd k2 l) 0).snd.fst (spR a b c d k (mvd k2 l) 0).snd.snd.fst (spR a b c d k (mvd k2 l) 0).snd.snd.snd (spD0 a b c d k (mvd k2 l)))
                              (some ⟨.one (.bool false), [], []⟩)
                              (ite2 (small (List.length (spD1 a b c d k l)))
                                (ite2 (!samePl (spR a b c d k l 1).fst (spR a b c d k l 1).snd.fst (spR a b c d k l 1).snd.snd.fst (spR a b c d k l 1).snd.snd.snd (spD1 a b c d k l) (spR a b c d k (mvd k2 l) 1).fst (spR a b c d k (mvd k2 l) 1).snd.fst (spR a b c d k (mvd k2 l) 1).snd.snd.fst (spR a b c d k (mvd k2 l) 1).snd.snd.snd (spD1 a b c d k (mvd k2 l)))
                                  (some ⟨.one (.bool false), [], []⟩)
                                  (ite2 (small (List.length (spD2 a b c d k l)))
                                    (ite2 (!samePl (spR a b c d k l 2).fst (spR a b c d k l 2).snd.fst (spR a b c d k l 2).snd.snd.fst (spR a b c d k l 2).snd.snd.snd (spD2 a b c d k l) (spR a b c d k (mvd k2 l) 2).fst (spR a b c d k (mvd k2 l) 2).snd.fst (spR a b c d k (mvd k2 l) 2).snd.snd.fst (spR a b c d k (mvd k2 l) 2).snd.snd.snd (spD2 a b c d k (mvd k2 l)))
                                      (some ⟨.one (.bool false), [], []⟩)
                                      (ite2 (small (List.length (mvd k2 (spD3 a b c d k l))))
                                        (ite2 (!samePl (spR a b c d k l 3).fst (spR a b c d k l 3).snd.fst (spR a b c d k l 3).snd.snd.fst (spR a b c d k l 3).snd.snd.snd (mvd k2 (spD3 a b c d k l)) (spR a b c d k (mvd k2 l) 3).fst (spR a b c d k (mvd k2 l) 3).snd.fst (spR a b c d k (mvd k2 l) 3).snd.snd.fst (spR a b c d k (mvd k2 l) 3).snd.snd.snd (spD3 a b c d k (mvd k2 l)))
                                          (some ⟨.one (.bool false), [], []⟩)
                                          (some ⟨.one (.bool true), [], []⟩))
                                        none))
                                    none))
                                none))
                            none)
                          none)
                        (ite2 (small (List.length (spD1 a b c d k l)) && decide ((↑(List.length (spD1 a b c d k l)) : Int) * 9 ≤ 140737488355328))
                          (ite2 (small (List.length (spD0 a b c d k l)))
                            (ite2 (!samePl (spR a b c d k l 0).fst (spR a b c d k l 0).snd.fst (spR a b c d k l 0).snd.snd.fst (spR a b c d k l 0).snd.snd.snd (spD0 a b c d k l) (spR a b c d k (mvd k2 l) 0).fst (spR a b c d k (mvd k2 l) 0).snd.fst (spR a b c d k (mvd k2 l) 0).snd.snd.fst (spR a b c d k (mvd k2 l) 0).snd.snd.snd (spD0 a b c d k (mvd k2 l)))
                              (some ⟨.one (.bool false), [], []⟩)
                              (ite2 (small (List.length (mvd k2 (spD1 a b c d k l))))
                                (ite2 (!samePl (spR a b c d k l 1).fst (spR a b c d k l 1).snd.fst (spR a b c d k l 1).snd.snd.fst (spR a b c d k l 1).snd.snd.snd (mvd k2 (spD1 a b c d k l)) (spR a b c d k (mvd k2 l) 1).fst (spR a b c d k (mvd k2 l) 1).snd.fst (spR a b c d k (mvd k2 l) 1).snd.snd.fst (spR a b c d k (mvd k2 l) 1).snd.snd.snd (spD1 a b c d k (mvd k2 l)))
                                  (some ⟨.one (.bool false), [], []⟩)
                                  (ite2 (small (List.length (spD2 a b c d k l)))
                                    (ite2 (!samePl (spR a b c d k l 2).fst (spR a b c d k l 2).snd.fst (spR a b c d k l 2).snd.snd.fst (spR a b c d k l 2).snd.snd.snd (spD2 a b c d k l) (spR a b c d k (mvd k2 l) 2).fst (spR a b c d k (mvd k2 l) 2).snd.fst (spR a b c d k (mvd k2 l) 2).snd.snd.fst (spR a b c d k (mvd k2 l) 2).snd.snd.snd (spD2 a b c d k (mvd k2 l)))
                                      (some ⟨.one (.bool false), [], []⟩)
                                      (ite2 (small (List.length (spD3 a b c d k l)))
                                        (ite2 (!samePl (spR a b c d k l 3).fst (spR a b c d k l 3).snd.fst (spR a b c d k l 3).snd.snd.fst (spR a b c d k l 3).snd.snd.snd (spD3 a b c d k l) (spR a b c d k (mvd k2 l) 3).fst (spR a b c d k (mvd k2 l) 3).snd.fst (spR a b c d k (mvd k2 l) 3).snd.snd.fst (spR a b c d k (mvd k2 l) 3).snd.snd.snd (spD3 a b c d k (mvd k2 l)))
                                          (some ⟨.one (.bool false), [], []⟩)
                                          (some ⟨.one (.bool true), [], []⟩))
                                        none))
                                    none))
                                none))
                            none)
                          none))
                      (ite2 (small (List.length (spD1 a b c d k l)) && decide ((↑(List.length (spD1 a b c d k l)) : Int) * 9 ≤ 140737488355328))
                        (ite2 (small (List.length (spD0 a b c d k l)))
                          (ite2 (!samePl (spR a b c d k l 0).fst (spR a b c d k l 0).snd.fst (spR a b c d k l 0).snd.snd.fst (spR a b c d k l 0).snd.snd.snd (spD0 a b c d k l) (spR a b c d k (mvd k2 l) 0).fst (spR a b c d k (mvd k2 l) 0).snd.fst (spR a b c d k (mvd k2 l) 0).snd.snd.fst (spR a b c d k (mvd k2 l) 0).snd.snd.snd (spD0 a b c d k (mvd k2 l)))
                            (some ⟨.one (.bool false), [], []⟩)
                            (ite2 (small (List.length (mvd k2 (spD1 a b c d k l))))
                              (ite2 (!samePl (spR a b c d k l 1).fst (spR a b c d k l 1).snd.fst (spR a b c d k l 1).snd.snd.fst (spR a b c d k l 1).snd.snd.snd (mvd k2 (spD1 a b c d k l)) (spR a b c d k (mvd k2 l) 1).fst (spR a b c d k (mvd k2 l) 1).snd.fst (spR a b c d k (mvd k2 l) 1).snd.snd.fst (spR a b c d k (mvd k2 l) 1).snd.snd.snd (spD1 a b c d k (mvd k2 l)))
                                (some ⟨.one (.bool false), [], []⟩)
                                (ite2 (small (List.length (spD2 a b c d k l)))
                                  (ite2 (!samePl (spR a b c d k l 2).fst (spR a b c d k l 2).snd.fst (spR a b c d k l 2).snd.snd.fst (spR a b c d k l 2).snd.snd.snd (spD2 a b c d k l) (spR a b c d k (mvd k2 l) 2).fst (spR a b c d k (mvd k2 l) 2).snd.fst (spR a b c d k (mvd k2 l) 2).snd.snd.fst (spR a b c d k (mvd k2 l) 2).snd.snd.snd (spD2 a b c d k (mvd k2 l)))
                                    (some ⟨.one (.bool false), [], []⟩)
                                    (ite2 (small (List.length (spD3 a b c d k l)))
                                      (ite2 (!samePl (spR a b c d k l 3).fst (spR a b c d k l 3).snd.fst (spR a b c d k l 3).snd.snd.fst (spR a b c d k l 3).snd.snd.snd (spD3 a b c d k l) (spR a b c d k (mvd k2 l) 3).fst (spR a b c d k (mvd k2 l) 3).snd.fst (spR a b c d k (mvd k2 l) 3).snd.snd.fst (spR a b c d k (mvd k2 l) 3).snd.snd.snd (spD3 a b c d k (mvd k2 l)))
                                        (some ⟨.one (.bool false), [], []⟩)
                                        (some ⟨.one (.bool true), [], []⟩))
                                      none))
                                  none))
                              none))
                          none)
                        none))
                    (ite2 (IntKind.wrap .i64 (d - b) == 1)
                      (ite2 (Int.tmod b 2 == 1)
                        (ite2 (small (List.length (spD2 a b c d k l)) && decide ((↑(List.length (spD2 a b c d k l)) : Int) * 9 ≤ 140737488355328))
                          (ite2 (small (List.length (spD0 a b c d k l)))
                            (ite2 (!samePl (spR a b c d k l 0).fst (spR a b c d k l 0).snd.fst (spR a b c d k l 0).snd.snd.fst (spR a b c d k l 0).snd.snd.snd (spD0 a b c d k l) (spR a b c d k (mvd k2 l) 0).fst (spR a b c d k (mvd k2 l) 0).snd.fst (spR a b c d k (mvd k2 l) 0).snd.snd.fst (spR a b c d k (mvd k2 l) 0).snd.snd.snd (spD0 a b c d k (mvd k2 l)))
                              (some ⟨.one (.bool false), [], []⟩)
                              (ite2 (small (List.length (spD1 a b c d k l)))
                                (ite2 (!samePl (spR a b c d k l 1).fst (spR a b c d k l 1).snd.fst (spR a b c d k l 1).snd.snd.fst (spR a b c d k l 1).snd.snd.snd (spD1 a b c d k l) (spR a b c d k (mvd k2 l) 1).fst (spR a b c d k (mvd k2 l) 1).snd.fst (spR a b c d k (mvd k2 l) 1).snd.snd.fst (spR a b c d k (mvd k2 l) 1).snd.snd.snd (spD1 a b c d k (mvd k2 l)))
                                  (some ⟨.one (.bool false), [], []⟩)
                                  (ite2 (small (List.length (mvd k2 (spD2 a b c d k l))))
                                    (ite2 (!samePl (spR a b c d k l 2).fst (spR a b c d k l 2).snd.fst (spR a b c d k l 2).snd.snd.fst (spR a b c d k l 2).snd.snd.snd (mvd k2 (spD2 a b c d k l)) (spR a b c d k (mvd k2 l) 2).fst (spR a b c d k (mvd k2 l) 2).snd.fst (spR a b c d k (mvd k2 l) 2).snd.snd.fst (spR a b c d k (mvd k2 l) 2).snd.snd.snd (spD2 a b c d k (mvd k2 l)))
                                      (some ⟨.one (.bool false), [], []⟩)
                                      (ite2 (small (List.length (spD3 a b c d k l)))
                                        (ite2 (!samePl (spR a b c d k l 3).fst (spR a b c d k l 3).snd.fst (spR a b c d k l 3).snd.snd.fst (spR a b c d k l 3).snd.snd.snd (spD3 a b c d k l) (spR a b c d k (mvd k2 l) 3).fst (spR a b c d k (mvd k2 l) 3).snd.fst (spR a b c d k (mvd k2 l) 3).snd.snd.fst (spR a b c d k (mvd k2 l) 3).snd.snd.snd (spD3 a b c d k (mvd k2 l)))
                                          (some ⟨.one (.bool false), [], []⟩)
                                          (some ⟨.one (.bool true), [], []⟩))
                                        none))
                                    none))
                                none))
                            none)
                          none)
                        (ite2 (small (List.length (spD0 a b c d k l)) && decide ((↑(List.length (spD0 a b c d k l)) : Int) * 9 ≤ 140737488355328))
                          (ite2 (small (List.length (mvd k2 (spD0 a b c d k l))))
                            (ite2 (!samePl (spR a b c d k l 0).fst (spR a b c d k l 0).snd.fst (spR a b c d k l 0).snd.snd.fst (spR a b c d k l 0).snd.snd.snd (mvd k2 (spD0 a b c d k l)) (spR a b c d k (mvd k2 l) 0).fst (spR a b c d k (mvd k2 l) 0).snd.fst (spR a b c d k (mvd k2 l) 0).snd.snd.fst (spR a b c d k (mvd k2 l) 0).snd.snd.snd (spD0 a b c d k (mvd k2 l)))
                              (some ⟨.one (.bool false), [], []⟩)
                              (ite2 (small (List.length (spD1 a b c d k l)))
                                (ite2 (!samePl (spR a b c d k l 1).fst (spR a b c d k l 1).snd.fst (spR a b c d k l 1).snd.snd.fst (spR a b c d k l 1).snd.snd.snd (spD1 a b c d k l) (spR a b c d k (mvd k2 l) 1).fst (spR a b c d k (mvd k2 l) 1).snd.fst (spR a b c d k (mvd k2 l) 1).snd.snd.fst (spR a b c d k (mvd k2 l) 1).snd.snd.snd (spD1 a b c d k (mvd k2 l)))
                                  (some ⟨.one (.bool false), [], []⟩)
                                  (ite2 (small (List.length (spD2 a b c d k l)))
                                    (ite2 (!samePl (spR a b c d k l 2).fst (spR a b c d k l 2).snd.fst (spR a b c d k l 2).snd.snd.fst (spR a b c d k l 2).snd.snd.snd (spD2 a b c d k l) (spR a b c d k (mvd k2 l) 2).fst (spR a b c d k (mvd k2 l) 2).snd.fst (spR a b c d k (mvd k2 l) 2).snd.snd.fst (spR a b c d k (mvd k2 l) 2).snd.snd.snd (spD2 a b c d k (mvd k2 l)))
                                      (some ⟨.one (.bool false), [], []⟩)
                                      (ite2 (small (List.length (spD3 a b c d k l)))
                                        (ite2 (!samePl (spR a b c d k l 3).fst (spR a b c d k l 3).snd.fst (spR a b c d k l 3).snd.snd.fst (spR a b c d k l 3).snd.snd.snd (spD3 a b c d k l) (spR a b c d k (mvd k2 l) 3).fst (spR a b c d k (mvd k2 l) 3).snd.fst (spR a b c d k (mvd k2 l) 3).snd.snd.fst (spR a b c d k (mvd k2 l) 3).snd.snd.snd (spD3 a b c d k (mvd k2 l)))
                                          (some ⟨.one (.bool false), [], []⟩)
                                          (some ⟨.one (.bool true), [], []⟩))
                                        none))
                                    none))
                                none))
                            none)
                          none))
                      (ite2 (small (List.length (spD0 a b c d k l)) && decide ((↑(List.length (spD0 a b c d k l)) : Int) * 9 ≤ 140737488355328))
                        (ite2 (small (List.length (mvd k2 (spD0 a b c d k l))))
                          (ite2 (!samePl (spR a b c d k l 0).fst (spR a b c d k l 0).snd.fst (spR a b c d k l 0).snd.snd.fst (spR a b c d k l 0).snd.snd.snd (mvd k2 (spD0 a b c d k l)) (spR a b c d k (mvd k2 l) 0).fst (spR a b c d k (mvd k2 l) 0).snd.fst (spR a b c d k (mvd k2 l) 0).snd.snd.fst (spR a b c d k (mvd k2 l) 0).snd.snd.snd (spD0 a b c d k (mvd k2 l)))
                            (some ⟨.one (.bool false), [], []⟩)
                            (ite2 (small (List.length (spD1 a b c d k l)))
                              (ite2 (!samePl (spR a b c d k l 1).fst (spR a b c d k l 1).snd.fst (spR a b c d k l 1).snd.snd.fst (spR a b c d k l 1).snd.snd.snd (spD1 a b c d k l) (spR a b c d k (mvd k2 l) 1).fst (spR a b c d k (mvd k2 l) 1).snd.fst (spR a b c d k (mvd k2 l) 1).snd.snd.fst (spR a b c d k (mvd k2 l) 1).snd.snd.snd (spD1 a b c d k (mvd k2 l)))
                                (some ⟨.one (.bool false), [], []⟩)
                                (ite2 (small (List.length (spD2 a b c d k l)))
                                  (ite2 (!samePl (spR a b c d k l 2).fst (spR a b c d k l 2).snd.fst (spR a b c d k l 2).snd.snd.fst (spR a b c d k l 2).snd.snd.snd (spD2 a b c d k l) (spR a b c d k (mvd k2 l) 2).fst (spR a b c d k (mvd k2 l) 2).snd.fst (spR a b c d k (mvd k2 l) 2).snd.snd.fst (spR a b c d k (mvd k2 l) 2).snd.snd.snd (spD2 a b c d k (mvd k2 l)))
                                    (some ⟨.one (.bool false), [], []⟩)
                                    (ite2 (small (List.length (spD3 a b c d k l)))
                                      (ite2 (!samePl (spR a b c d k l 3).fst (spR a b c d k l 3).snd.fst (spR a b c d k l 3).snd.snd.fst (spR a b c d k l 3).snd.snd.snd (spD3 a b c d k l) (spR a b c d k (mvd k2 l) 3).fst (spR a b c d k (mvd k2 l) 3).snd.fst (spR a b c d k (mvd k2 l) 3).snd.snd.fst (spR a b c d k (mvd k2 l) 3).snd.snd.snd (spD3 a b c d k (mvd k2 l)))
                                        (some ⟨.one (.bool false), [], []⟩)
                                        (some ⟨.one (.bool true), [], []⟩))
                                      none))
                                  none))
                              none))
                          none)
                        none)))
                  (ite2 (IntKind.wrap .i64 (d - b) == 1)
                    (ite2 (Int.tmod b 2 == 1)
                      (ite2 (small (List.length (spD2 a b c d k l)) && decide ((↑(List.length (spD2 a b c d k l)) : Int) * 9 ≤ 140737488355328))
                        (ite2 (small (List.length (spD0 a b c d k l)))
                          (ite2 (!samePl (spR a b c d k l 0).fst (spR a b c d k l 0).snd.fst (spR a b c d k l 0).snd.snd.fst (spR a b c d k l 0).snd.snd.snd (spD0 a b c d k l) (spR a b c d k (mvd k2 l) 0).fst (spR a b c d k (mvd k2 l) 0).snd.fst (spR a b c d k (mvd k2 l) 0).snd.snd.fst (spR a b c d k (mvd k2 l) 0).snd.snd.snd (spD0 a b c d k (mvd k2 l)))
                            (some ⟨.one (.bool false), [], []⟩)
                            (ite2 (small (List.length (spD1 a b c d k l)))
                              (ite2 (!samePl (spR a b c d k l 1).fst (spR a b c d k l 1).snd.fst (spR a b c d k l 1).snd.snd.fst (spR a b c d k l 1).snd.snd.snd (spD1 a b c d k l) (spR a b c d k (mvd k2 l) 1).fst (spR a b c d k (mvd k2 l) 1).snd.fst (spR a b c d k (mvd k2 l) 1).snd.snd.fst (spR a b c d k (mvd k2 l) 1).snd.snd.snd (spD1 a b c d k (mvd k2 l)))
                                (some ⟨.one (.bool false), [], []⟩)
                                (ite2 (small (List.length (mvd k2 (spD2 a b c d k l))))
                                  (ite2 (!samePl (spR a b c d k l 2).fst (spR a b c d k l 2).snd.fst (spR a b c d k l 2).snd.snd.fst (spR a b c d k l 2).snd.snd.snd (mvd k2 (spD2 a b c d k l)) (spR a b c d k (mvd k2 l) 2).fst (spR a b c d k (mvd k2 l) 2).snd.fst (spR a b c d k (mvd k2 l) 2).snd.snd.fst (spR a b c d k (mvd k2 l) 2).snd.snd.snd (spD2 a b c d k (mvd k2 l)))
                                    (some ⟨.one (.bool false), [], []⟩)
                                    (ite2 (small (List.length (spD3 a b c d k l)))
                                      (ite2 (!samePl (spR a b c d k l 3).fst (spR a b c d k l 3).snd.fst (spR a b c d k l 3).snd.snd.fst (spR a b c d k l 3).snd.snd.snd (spD3 a b c d k l) (spR a b c d k (mvd k2 l) 3).fst (spR a b c d k (mvd k2 l) 3).snd.fst (spR a b c d k (mvd k2 l) 3).snd.snd.fst (spR a b c d k (mvd k2 l) 3).snd.snd.snd (spD3 a b c d k (mvd k2 l)))
                                        (some ⟨.one (.bool false), [], []⟩)
                                        (some ⟨.one (.bool true), [], []⟩))
                                      none))
                                  none))
                              none))
                          none)
                        none)
                      (ite2 (small (List.length (spD0 a b c d k l)) && decide ((↑(List.length (spD0 a b c d k l)) : Int) * 9 ≤ 140737488355328))
                        (ite2 (small (List.length (mvd k2 (spD0 a b c d k l))))
                          (ite2 (!samePl (spR a b c d k l 0).fst (spR a b c d k l 0).snd.fst (spR a b c d k l 0).snd.snd.fst (spR a b c d k l 0).snd.snd.snd (mvd k2 (spD0 a b c d k l)) (spR a b c d k (mvd k2 l) 0).fst (spR a b c d k (mvd k2 l) 0).snd.fst (spR a b c d k (mvd k2 l) 0).snd.snd.fst (spR a b c d k (mvd k2 l) 0).snd.snd.snd (spD0 a b c d k (mvd k2 l)))
                            (some ⟨.one (.bool false), [], []⟩)
                            (ite2 (small (List.length (spD1 a b c d k l)))
                              (ite2 (!samePl (spR a b c d k l 1).fst (spR a b c d k l 1).snd.fst (spR a b c d k l 1).snd.snd.fst (spR a b c d k l 1).snd.snd.snd (spD1 a b c d k l) (spR a b c d k (mvd k2 l) 1).fst (spR a b c d k (mvd k2 l) 1).snd.fst (spR a b c d k (mvd k2 l) 1).snd.snd.fst (spR a b c d k (mvd k2 l) 1).snd.snd.snd (spD1 a b c d k (mvd k2 l)))
                                (some ⟨.one (.bool false), [], []⟩)
                                (ite2 (small (List.length (spD2 a b c d k l)))
                                  (ite2 (!samePl (spR a b c d k l 2).fst (spR a b c d k l 2).snd.fst (spR a b c d k l 2).snd.snd.fst (spR a b c d k l 2).snd.snd.snd (spD2 a b c d k l) (spR a b c d k (mvd k2 l) 2).fst (spR a b c d k (mvd k2 l) 2).snd.fst (spR a b c d k (mvd k2 l) 2).snd.snd.fst (spR a b c d k (mvd k2 l) 2).snd.snd.snd (spD2 a b c d k (mvd k2 l)))
                                    (some ⟨.one (.bool false), [], []⟩)
                                    (ite2 (small (List.length (spD3 a b c d k l)))
                                      (ite2 (!samePl (spR a b c d k l 3).fst (spR a b c d k l 3).snd.fst (spR a b c d k l 3).snd.snd.fst (spR a b c d k l 3).snd.snd.snd (spD3 a b c d k l) (spR a b c d k (mvd k2 l) 3).fst (spR a b c d k (mvd k2 l) 3).snd.fst (spR a b c d k (mvd k2 l) 3).snd.snd.fst (spR a b c d k (mvd k2 l) 3).snd.snd.snd (spD3 a b c d k (mvd k2 l)))
                                        (some ⟨.one (.bool false), [], []⟩)
                                        (some ⟨.one (.bool true), [], []⟩))
                                      none))
                                  none))
                              none))
                          none)
                        none))
                    (ite2 (small (List.length (spD0 a b c d k l)) && decide ((↑(List.length (spD0 a b c d k l)) : Int) * 9 ≤ 140737488355328))
                      (ite2 (small (List.length (mvd k2 (spD0 a b c d k l))))
                        (ite2 (!samePl (spR a b c d k l 0).fst (spR a b c d k l 0).snd.fst (spR a b c d k l 0).snd.snd.fst (spR a b c d k l 0).snd.snd.snd (mvd k2 (spD0 a b c d k l)) (spR a b c d k (mvd k2 l) 0).fst (spR a b c d k (mvd k2 l) 0).snd.fst (spR a b c d k (mvd k2 l) 0).snd.snd.fst (spR a b c d k (mvd k2 l) 0).snd.snd.snd (spD0 a b c d k (mvd k2 l)))
                          (some ⟨.one (.bool false), [], []⟩)
                          (ite2 (small (List.length (spD1 a b c d k l)))
                            (ite2 (!samePl (spR a b c d k l 1).fst (spR a b c d k l 1).snd.fst (spR a b c d k l 1).snd.snd.fst (spR a b c d k l 1).snd.snd.snd (spD1 a b c d k l) (spR a b c d k (mvd k2 l) 1).fst (spR a b c d k (mvd k2 l) 1).snd.fst (spR a b c d k (mvd k2 l) 1).snd.snd.fst (spR a b c d k (mvd k2 l) 1).snd.snd.snd (spD1 a b c d k (mvd k2 l)))
                              (some ⟨.one (.bool false), [], []⟩)
                              (ite2 (small (List.length (spD2 a b c d k l)))
                                (ite2 (!samePl (spR a b c d k l 2).fst (spR a b c d k l 2).snd.fst (spR a b c d k l 2).snd.snd.fst (spR a b c d k l 2).snd.snd.snd (spD2 a b c d k l) (spR a b c d k (mvd k2 l) 2).fst (spR a b c d k (mvd k2 l) 2).snd.fst (spR a b c d k (mvd k2 l) 2).snd.snd.fst (spR a b c d k (mvd k2 l) 2).snd.snd.snd (spD2 a b c d k (mvd k2 l)))
                                  (some ⟨.one (.bool false), [], []⟩)
                                  (ite2 (small (List.length (spD3 a b c d k l)))
                                    (ite2 (!samePl (spR a b c d k l 3).fst (spR a b c d k l 3).snd.fst (spR a b c d k l 3).snd.snd.fst (spR a b c d k l 3).snd.snd.snd (spD3 a b c d k l) (spR a b c d k (mvd k2 l) 3).fst (spR a b c d k (mvd k2 l) 3).snd.fst (spR a b c d k (mvd k2 l) 3).snd.snd.fst (spR a b c d k (mvd k2 l) 3).snd.snd.snd (spD3 a b c d k (mvd k2 l)))
                                      (some ⟨.one (.bool false), [], []⟩)
                                      (some ⟨.one (.bool true), [], []⟩))
                                    none))
                                none))
                            none))
                        none)
                      none))))
              none)
            none))
        none)))) := by kernel_rfl
end
end Go.Rx.Ch05

