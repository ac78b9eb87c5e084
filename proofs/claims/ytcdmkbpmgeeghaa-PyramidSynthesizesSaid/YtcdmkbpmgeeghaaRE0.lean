/- Each function, run by the executor: an equation. -/
import Derived.Test.YtcdmkbpmgeeghaaRG
import Derived.Test.YtcdmkbpmgeeghaaProg
import Derived.KernelRfl
set_option linter.unnecessarySimpa false
set_option linter.unusedVariables false
set_option maxRecDepth 100000
set_option maxHeartbeats 40000000
open Go Go.Rx Go.Proofs
namespace Go.Rx.Ch06
noncomputable section
def t_rect_Empty : FuncId → Option Summ := tabOf []
def l_rect_Empty : Nat → Option LSumm := ltOf []
theorem e_rect_Empty (a b c d : Int) : funR Try.prog t_rect_Empty (annOf []) l_rect_Empty 20 Try.f47 [.agg [.int .i64 a, .int .i64 b, .int .i64 c, .int .i64 d]] [] =
  (ite2 (decide (a ≥ c))
  (some ⟨.one (.bool true), [], []⟩)
  (some ⟨.one (.bool (decide (b ≥ d))), [], []⟩)) := by kernel_rfl
def t_rect_Valid : FuncId → Option Summ := tabOf []
def l_rect_Valid : Nat → Option LSumm := ltOf []
theorem e_rect_Valid (a b c d : Int) : funR Try.prog t_rect_Valid (annOf []) l_rect_Valid 20 Try.f46 [.agg [.int .i64 a, .int .i64 b, .int .i64 c, .int .i64 d]] [] =
  (ite2 (decide (0 ≤ a))
  (ite2 (decide (a ≤ c))
   (ite2 (decide (c ≤ 4096))
    (ite2 (decide (0 ≤ b))
     (ite2 (decide (b ≤ d))
      (some ⟨.one (.bool (decide (d ≤ 4096))), [], []⟩)
      (some ⟨.one (.bool false), [], []⟩))
     (some ⟨.one (.bool false), [], []⟩))
    (some ⟨.one (.bool false), [], []⟩))
   (some ⟨.one (.bool false), [], []⟩))
  (some ⟨.one (.bool false), [], []⟩)) := by kernel_rfl
def t_rect_CeilDiv : FuncId → Option Summ := tabOf []
def l_rect_CeilDiv : Nat → Option LSumm := ltOf []
theorem e_rect_CeilDiv (a b : Int) : funR Try.prog t_rect_CeilDiv (annOf []) l_rect_CeilDiv 20 Try.f81 [.one (.int .i64 a), .one (.int .i64 b)] [] =
  (ite2 (decide (b < 1))
  (some ⟨.one (.int .i64 0), [], []⟩)
  (ite2 (!decide (b = 0))
   (ite2 (!decide (b = 0))
    (ite2 (decide (Int.tmod a b > 0))
     (some ⟨.one (.int .i64 (IntKind.wrap .i64 (IntKind.wrap .i64 (Int.tdiv a b) + 1))), [], []⟩)
     (some ⟨.one (.int .i64 (IntKind.wrap .i64 (Int.tdiv a b))), [], []⟩))
    none)
   none)) := by kernel_rfl
def t_rect_Area : FuncId → Option Summ := tabOf [(46, G_rect_Valid)]
def l_rect_Area : Nat → Option LSumm := ltOf []
theorem e_rect_Area (a b c d : Int) : funR Try.prog t_rect_Area (annOf []) l_rect_Area 20 Try.f60 [.agg [.int .i64 a, .int .i64 b, .int .i64 c, .int .i64 d]] [] =
  (ite2 (!valid a b c d)
  (some ⟨.one (.int .i64 0), [], []⟩)
  (some ⟨.one (.int .i64 (IntKind.wrap .i64 (IntKind.wrap .i64 (c - a) * IntKind.wrap .i64 (d - b)))), [], []⟩)) := by kernel_rfl
def t_rect_Reduce : FuncId → Option Summ := tabOf [(46, G_rect_Valid), (81, G_rect_CeilDiv)]
def l_rect_Reduce : Nat → Option LSumm := ltOf []
theorem e_rect_Reduce (a b c d x y : Int) : funR Try.prog t_rect_Reduce (annOf []) l_rect_Reduce 20 Try.f58 [.agg [.int .i64 a, .int .i64 b, .int .i64 c, .int .i64 d], .one (.int .i64 x), .one (.int .i64 y)] [] =
  (ite2 (!valid a b c d)
  (some ⟨.agg [.int .i64 0, .int .i64 0, .int .i64 0, .int .i64 0], [], []⟩)
  (ite2 (decide (x < 1))
   (some ⟨.agg [.int .i64 0, .int .i64 0, .int .i64 0, .int .i64 0], [], []⟩)
   (ite2 (decide (x > 4096))
    (some ⟨.agg [.int .i64 0, .int .i64 0, .int .i64 0, .int .i64 0], [], []⟩)
    (ite2 (decide (y < 1))
     (some ⟨.agg [.int .i64 0, .int .i64 0, .int .i64 0, .int .i64 0], [], []⟩)
     (ite2 (decide (y > 4096))
      (some ⟨.agg [.int .i64 0, .int .i64 0, .int .i64 0, .int .i64 0], [], []⟩)
      (some ⟨.agg [.int .i64 (cdiv a x), .int .i64 (cdiv b y), .int .i64 (cdiv c x), .int .i64 (cdiv d y)], [], []⟩)))))) := by kernel_rfl
def t_rect_Intersect : FuncId → Option Summ := tabOf [(47, G_rect_Empty)]
def l_rect_Intersect : Nat → Option LSumm := ltOf []
theorem e_rect_Intersect (a b c d e f g h : Int) : funR Try.prog t_rect_Intersect (annOf []) l_rect_Intersect 20 Try.f36 [.agg [.int .i64 a, .int .i64 b, .int .i64 c, .int .i64 d], .agg [.int .i64 e, .int .i64 f, .int .i64 g, .int .i64 h]] [] =
  (ite2 (empty (if e > a then e else a) (if f > b then f else b) (if g < c then g else c) (if h < d then h else d))
  (some ⟨.agg [.int .i64 0, .int .i64 0, .int .i64 0, .int .i64 0], [], []⟩)
  (some ⟨.agg [.int .i64 (if e > a then e else a), .int .i64 (if f > b then f else b), .int .i64 (if g < c then g else c), .int .i64 (if h < d then h else d)], [], []⟩)) := by kernel_rfl
def t_ref01_Valid : FuncId → Option Summ := tabOf []
def l_ref01_Valid : Nat → Option LSumm := ltOf []
theorem e_ref01_Valid (a b c d : Int) : funR Try.prog t_ref01_Valid (annOf []) l_ref01_Valid 20 Try.f49 [.agg [.int .i64 a, .int .i64 b, .int .i64 c, .int .i64 d]] [] =
  (ite2 (decide (0 ≤ a))
  (ite2 (decide (a ≤ c))
   (ite2 (decide (c ≤ 4096))
    (ite2 (decide (0 ≤ b))
     (ite2 (decide (b ≤ d))
      (some ⟨.one (.bool (decide (d ≤ 4096))), [], []⟩)
      (some ⟨.one (.bool false), [], []⟩))
     (some ⟨.one (.bool false), [], []⟩))
    (some ⟨.one (.bool false), [], []⟩))
   (some ⟨.one (.bool false), [], []⟩))
  (some ⟨.one (.bool false), [], []⟩)) := by kernel_rfl
def t_ref01_CeilDiv : FuncId → Option Summ := tabOf []
def l_ref01_CeilDiv : Nat → Option LSumm := ltOf []
theorem e_ref01_CeilDiv (a b : Int) : funR Try.prog t_ref01_CeilDiv (annOf []) l_ref01_CeilDiv 20 Try.f82 [.one (.int .i64 a), .one (.int .i64 b)] [] =
  (ite2 (decide (b < 1))
  (some ⟨.one (.int .i64 0), [], []⟩)
  (ite2 (!decide (b = 0))
   (ite2 (!decide (b = 0))
    (ite2 (decide (Int.tmod a b > 0))
     (some ⟨.one (.int .i64 (IntKind.wrap .i64 (IntKind.wrap .i64 (Int.tdiv a b) + 1))), [], []⟩)
     (some ⟨.one (.int .i64 (IntKind.wrap .i64 (Int.tdiv a b))), [], []⟩))
    none)
   none)) := by kernel_rfl
def t_ref01_Area : FuncId → Option Summ := tabOf [(49, G_ref01_Valid)]
def l_ref01_Area : Nat → Option LSumm := ltOf []
theorem e_ref01_Area (a b c d : Int) : funR Try.prog t_ref01_Area (annOf []) l_ref01_Area 20 Try.f63 [.agg [.int .i64 a, .int .i64 b, .int .i64 c, .int .i64 d]] [] =
  (ite2 (!valid a b c d)
  (some ⟨.one (.int .i64 0), [], []⟩)
  (some ⟨.one (.int .i64 (IntKind.wrap .i64 (IntKind.wrap .i64 (c - a) * IntKind.wrap .i64 (d - b)))), [], []⟩)) := by kernel_rfl
def t_ref01_Reduce : FuncId → Option Summ := tabOf [(49, G_ref01_Valid), (82, G_ref01_CeilDiv)]
def l_ref01_Reduce : Nat → Option LSumm := ltOf []
theorem e_ref01_Reduce (a b c d x y : Int) : funR Try.prog t_ref01_Reduce (annOf []) l_ref01_Reduce 20 Try.f59 [.agg [.int .i64 a, .int .i64 b, .int .i64 c, .int .i64 d], .one (.int .i64 x), .one (.int .i64 y)] [] =
  (ite2 (!valid a b c d)
  (some ⟨.agg [.int .i64 0, .int .i64 0, .int .i64 0, .int .i64 0], [], []⟩)
  (ite2 (decide (x < 1))
   (some ⟨.agg [.int .i64 0, .int .i64 0, .int .i64 0, .int .i64 0], [], []⟩)
   (ite2 (decide (x > 4096))
    (some ⟨.agg [.int .i64 0, .int .i64 0, .int .i64 0, .int .i64 0], [], []⟩)
    (ite2 (decide (y < 1))
     (some ⟨.agg [.int .i64 0, .int .i64 0, .int .i64 0, .int .i64 0], [], []⟩)
     (ite2 (decide (y > 4096))
      (some ⟨.agg [.int .i64 0, .int .i64 0, .int .i64 0, .int .i64 0], [], []⟩)
      (some ⟨.agg [.int .i64 (cdiv a x), .int .i64 (cdiv b y), .int .i64 (cdiv c x), .int .i64 (cdiv d y)], [], []⟩)))))) := by kernel_rfl






def t_pyr_validLevels : FuncId → Option Summ := tabOf []
def l_pyr_validLevels : Nat → Option LSumm := ltOf []
theorem e_pyr_validLevels (n : Int) : funR Try.prog t_pyr_validLevels (annOf []) l_pyr_validLevels 20 Try.f38 [.one (.int .i64 n)] [] =
  (ite2 (decide (n ≥ 0))
  (some ⟨.one (.bool (decide (n ≤ 5))), [], []⟩)
  (some ⟨.one (.bool false), [], []⟩)) := by kernel_rfl
def t_pyr_Count : FuncId → Option Summ := tabOf [(38, G_pyr_validLevels)]
def l_pyr_Count : Nat → Option LSumm := ltOf []
theorem e_pyr_Count (n : Int) : funR Try.prog t_pyr_Count (annOf []) l_pyr_Count 20 Try.f13 [.one (.int .i64 n)] [] =
  (ite2 (!inr 0 5 n)
  (some ⟨.one (.int .i64 0), [], []⟩)
  (some ⟨.one (.int .i64 (IntKind.wrap .i64 (IntKind.wrap .i64 (3 * n) + 1))), [], []⟩)) := by kernel_rfl
def t_pyr_Place : FuncId → Option Summ := tabOf [(13, G_pyr_Count)]
def l_pyr_Place : Nat → Option LSumm := ltOf []
theorem e_pyr_Place (i n : Int) : funR Try.prog t_pyr_Place (annOf []) l_pyr_Place 20 Try.f11 [.one (.int .i64 i), .one (.int .i64 n)] [] =
  (ite2 (decide (i < 0))
  (some ⟨.tup [(false, [.int .i64 0]), (false, [.int .i64 0]), (false, [.bool false])], [], []⟩)
  (ite2 (decide (i ≥ count n))
   (some ⟨.tup [(false, [.int .i64 0]), (false, [.int .i64 0]), (false, [.bool false])], [], []⟩)
   (ite2 (i == 0)
    (some ⟨.tup [(false, [.int .i64 n]), (false, [.int .i64 0]), (false, [.bool true])], [], []⟩)
    (some ⟨.tup [(false, [.int .i64 (IntKind.wrap .i64 (IntKind.wrap .i64 (n - IntKind.wrap .i64 (Int.tdiv (IntKind.wrap .i64 (i + 2)) 3)) + 1))]), (false, [.int .i64 (IntKind.wrap .i64 (IntKind.wrap .i64 (i - IntKind.wrap .i64 (3 * IntKind.wrap .i64 (Int.tdiv (IntKind.wrap .i64 (i + 2)) 3))) + 3))]), (false, [.bool true])], [], []⟩)))) := by kernel_rfl
def t_pyr_Indices : FuncId → Option Summ := tabOf [(38, G_pyr_validLevels)]
def l_pyr_Indices : Nat → Option LSumm := ltOf []
theorem e_pyr_Indices (n r : Int) : funR Try.prog t_pyr_Indices (annOf []) l_pyr_Indices 20 Try.f15 [.one (.int .i64 n), .one (.int .i64 r)] [] =
  (ite2 (!inr 0 5 n)
  (some ⟨.one (.row 0), [], [.arr 3 (.int .i64) ([] : List (Int))]⟩)
  (ite2 (decide (r < 0))
   (some ⟨.one (.row 0), [], [.arr 3 (.int .i64) ([] : List (Int))]⟩)
   (ite2 (decide (r > n))
    (some ⟨.one (.row 0), [], [.arr 3 (.int .i64) ([] : List (Int))]⟩)
    (ite2 (r == 0)
     (some ⟨.one (.row 0), [], [.arr 3 (.int .i64) ([0] : List (Int))]⟩)
     (some ⟨.one (.row 0), [], [.arr 3 (.int .i64) ([IntKind.wrap .i64 (IntKind.wrap .i64 (3 * r) - 2), IntKind.wrap .i64 (IntKind.wrap .i64 (3 * r) - 1), IntKind.wrap .i64 (3 * r)] : List (Int))]⟩))))) := by kernel_rfl
def t_pyr_Resolution : FuncId → Option Summ := tabOf [(38, G_pyr_validLevels), (58, G_rect_Reduce)]
def l_pyr_Resolution : Nat → Option LSumm := ltOf []
theorem e_pyr_Resolution (a b c d n r : Int) : funR Try.prog t_pyr_Resolution (annOf []) l_pyr_Resolution 20 Try.f25 [.agg [.int .i64 a, .int .i64 b, .int .i64 c, .int .i64 d], .one (.int .i64 n), .one (.int .i64 r)] [] =
  (ite2 (!inr 0 5 n)
  (some ⟨.agg [.int .i64 0, .int .i64 0, .int .i64 0, .int .i64 0], [], []⟩)
  (ite2 (decide (r < 0))
   (some ⟨.agg [.int .i64 0, .int .i64 0, .int .i64 0, .int .i64 0], [], []⟩)
   (ite2 (decide (r > n))
    (some ⟨.agg [.int .i64 0, .int .i64 0, .int .i64 0, .int .i64 0], [], []⟩)
    (ite2 (decide (0 ≤ IntKind.wrap IntKind.u64 (IntKind.wrap .i64 (n - r))))
     (some ⟨.agg [.int .i64 (reduce a b c d (IntKind.wrap .i64 (1 * 2 ^ min (Int.toNat (IntKind.wrap IntKind.u64 (IntKind.wrap .i64 (n - r)))) 64)) (IntKind.wrap .i64 (1 * 2 ^ min (Int.toNat (IntKind.wrap IntKind.u64 (IntKind.wrap .i64 (n - r)))) 64))).1, .int .i64 (reduce a b c d (IntKind.wrap .i64 (1 * 2 ^ min (Int.toNat (IntKind.wrap IntKind.u64 (IntKind.wrap .i64 (n - r)))) 64)) (IntKind.wrap .i64 (1 * 2 ^ min (Int.toNat (IntKind.wrap IntKind.u64 (IntKind.wrap .i64 (n - r)))) 64))).2.1, .int .i64 (reduce a b c d (IntKind.wrap .i64 (1 * 2 ^ min (Int.toNat (IntKind.wrap IntKind.u64 (IntKind.wrap .i64 (n - r)))) 64)) (IntKind.wrap .i64 (1 * 2 ^ min (Int.toNat (IntKind.wrap IntKind.u64 (IntKind.wrap .i64 (n - r)))) 64))).2.2.1, .int .i64 (reduce a b c d (IntKind.wrap .i64 (1 * 2 ^ min (Int.toNat (IntKind.wrap IntKind.u64 (IntKind.wrap .i64 (n - r)))) 64)) (IntKind.wrap .i64 (1 * 2 ^ min (Int.toNat (IntKind.wrap IntKind.u64 (IntKind.wrap .i64 (n - r)))) 64))).2.2.2], [], []⟩)
     none)))) := by kernel_rfl
def t_ref06_Count : FuncId → Option Summ := tabOf []
def l_ref06_Count : Nat → Option LSumm := ltOf []
theorem e_ref06_Count (n : Int) : funR Try.prog t_ref06_Count (annOf []) l_ref06_Count 20 Try.f14 [.one (.int .i64 n)] [] =
  (ite2 (decide (n < 0))
  (some ⟨.one (.int .i64 0), [], []⟩)
  (ite2 (decide (n > 5))
   (some ⟨.one (.int .i64 0), [], []⟩)
   (some ⟨.one (.int .i64 (IntKind.wrap .i64 (IntKind.wrap .i64 (3 * n) + 1))), [], []⟩))) := by kernel_rfl
def t_ref06_Place : FuncId → Option Summ := tabOf [(14, G_ref06_Count)]
def l_ref06_Place : Nat → Option LSumm := ltOf []
theorem e_ref06_Place (i n : Int) : funR Try.prog t_ref06_Place (annOf []) l_ref06_Place 20 Try.f12 [.one (.int .i64 i), .one (.int .i64 n)] [] =
  (ite2 (decide (i < 0))
  (some ⟨.tup [(false, [.int .i64 0]), (false, [.int .i64 0]), (false, [.bool false])], [], []⟩)
  (ite2 (decide (i ≥ count n))
   (some ⟨.tup [(false, [.int .i64 0]), (false, [.int .i64 0]), (false, [.bool false])], [], []⟩)
   (ite2 (i == 0)
    (some ⟨.tup [(false, [.int .i64 n]), (false, [.int .i64 0]), (false, [.bool true])], [], []⟩)
    (some ⟨.tup [(false, [.int .i64 (IntKind.wrap .i64 (IntKind.wrap .i64 (n - IntKind.wrap .i64 (Int.tdiv (IntKind.wrap .i64 (i + 2)) 3)) + 1))]), (false, [.int .i64 (IntKind.wrap .i64 (IntKind.wrap .i64 (i - IntKind.wrap .i64 (3 * IntKind.wrap .i64 (Int.tdiv (IntKind.wrap .i64 (i + 2)) 3))) + 3))]), (false, [.bool true])], [], []⟩)))) := by kernel_rfl
def t_ref06_Resolution : FuncId → Option Summ := tabOf [(14, G_ref06_Count), (59, G_ref01_Reduce)]
def l_ref06_Resolution : Nat → Option LSumm := ltOf [(5, ⟨0, 34, [1, 3, 6, 7, 8], (kxOf [3, 6, 7] [6]), S_ref06_Resolution_0⟩)]
theorem e_ref06_Resolution (a b c d n r : Int) : funR Try.prog t_ref06_Resolution (annOf []) l_ref06_Resolution 20 Try.f26 [.agg [.int .i64 a, .int .i64 b, .int .i64 c, .int .i64 d], .one (.int .i64 n), .one (.int .i64 r)] [] =
  (ite2 (count n == 0)
  (some ⟨.agg [.int .i64 0, .int .i64 0, .int .i64 0, .int .i64 0], [], []⟩)
  (ite2 (decide (r < 0))
   (some ⟨.agg [.int .i64 0, .int .i64 0, .int .i64 0, .int .i64 0], [], []⟩)
   (ite2 (decide (r > n))
    (some ⟨.agg [.int .i64 0, .int .i64 0, .int .i64 0, .int .i64 0], [], []⟩)
    (ite2 (k_ref06_Resolution_0 n 1 r a b c d 0 0 0 0)
     (some ⟨.agg [.int .i64 (reduce a b c d (pw (n - r)) (pw (n - r))).1, .int .i64 (reduce a b c d (pw (n - r)) (pw (n - r))).2.1, .int .i64 (reduce a b c d (pw (n - r)) (pw (n - r))).2.2.1, .int .i64 (reduce a b c d (pw (n - r)) (pw (n - r))).2.2.2], [], []⟩)
     none)))) := by kernel_rfl
def U_ref06_Resolution_0 (n m i a b c d e f g o : Int) : LT :=
  (.br (decide (i < n))
    (.leaf Ex.normal [.one (.int .i64 n), .one (.ptr 0 0), .one (.ptr 1 0), .one (.int .i64 (IntKind.wrap .i64 (2 * m))), .one (.int .i64 (IntKind.wrap .i64 (i + 1)))] [some (.box [.int .i64 a, .int .i64 b, .int .i64 c, .int .i64 d]), some (.box [.int .i64 e, .int .i64 f, .int .i64 g, .int .i64 o])])
    (.leaf (Ex.exit 0) [.one (.ptr 0 0), .one (.ptr 1 0), .one (.int .i64 m)] [some (.box [.int .i64 a, .int .i64 b, .int .i64 c, .int .i64 d]), some (.box [.int .i64 e, .int .i64 f, .int .i64 g, .int .i64 o])]))
def T_ref06_Resolution_0 : TT := fun vs bl => (D_ref06_Resolution_0 vs bl fun n m i a b c d e f g o => some (U_ref06_Resolution_0 n m i a b c d e f g o)).getD .no
theorem tu_ref06_Resolution_0 (n m i a b c d e f g o : Int) : T_ref06_Resolution_0 [.one (.int .i64 n), .one (.ptr 0 0), .one (.ptr 1 0), .one (.int .i64 m), .one (.int .i64 i)] [some (.box [.int .i64 a, .int .i64 b, .int .i64 c, .int .i64 d]), some (.box [.int .i64 e, .int .i64 f, .int .i64 g, .int .i64 o])] = U_ref06_Resolution_0 n m i a b c d e f g o := by kernel_rfl
theorem b_ref06_Resolution_0 (n m i a b c d e f g o : Int) (Kc : KT) : exec Try.prog t_ref06_Resolution (annOf []) l_ref06_Resolution 20 0 (loopOf Try.f26 0) (unp 34 [1, 3, 6, 7, 8] [.one (.int .i64 n), .one (.ptr 0 0), .one (.ptr 1 0), .one (.int .i64 m), .one (.int .i64 i)] [some (.box [.int .i64 a, .int .i64 b, .int .i64 c, .int .i64 d]), some (.box [.int .i64 e, .int .i64 f, .int .i64 g, .int .i64 o])]) (endc 0 34 [1, 3, 6, 7, 8] (kxOf [3, 6, 7] [6]) Kc) =
  (U_ref06_Resolution_0 n m i a b c d e f g o).runc Kc := by kernel_rfl
def t_dwt_Bands : FuncId → Option Summ := tabOf [(46, G_rect_Valid)]
def l_dwt_Bands : Nat → Option LSumm := ltOf []
theorem e_dwt_Bands (a b c d : Int) : funR Try.prog t_dwt_Bands (annOf []) l_dwt_Bands 20 Try.f48 [.agg [.int .i64 a, .int .i64 b, .int .i64 c, .int .i64 d]] [] =
  (ite2 (!valid a b c d)
  (some ⟨.agg [.int .i64 0, .int .i64 0, .int .i64 0, .int .i64 0, .int .i64 0, .int .i64 0, .int .i64 0, .int .i64 0, .int .i64 0, .int .i64 0, .int .i64 0, .int .i64 0, .int .i64 0, .int .i64 0, .int .i64 0, .int .i64 0], [], []⟩)
  (some ⟨.agg [.int .i64 (IntKind.wrap .i64 (Int.tdiv (IntKind.wrap .i64 (a + 1)) 2)), .int .i64 (IntKind.wrap .i64 (Int.tdiv (IntKind.wrap .i64 (b + 1)) 2)), .int .i64 (IntKind.wrap .i64 (Int.tdiv (IntKind.wrap .i64 (c + 1)) 2)), .int .i64 (IntKind.wrap .i64 (Int.tdiv (IntKind.wrap .i64 (d + 1)) 2)), .int .i64 (IntKind.wrap .i64 (Int.tdiv (IntKind.wrap .i64 (a + 0)) 2)), .int .i64 (IntKind.wrap .i64 (Int.tdiv (IntKind.wrap .i64 (b + 1)) 2)), .int .i64 (IntKind.wrap .i64 (Int.tdiv (IntKind.wrap .i64 (c + 0)) 2)), .int .i64 (IntKind.wrap .i64 (Int.tdiv (IntKind.wrap .i64 (d + 1)) 2)), .int .i64 (IntKind.wrap .i64 (Int.tdiv (IntKind.wrap .i64 (a + 1)) 2)), .int .i64 (IntKind.wrap .i64 (Int.tdiv (IntKind.wrap .i64 (b + 0)) 2)), .int .i64 (IntKind.wrap .i64 (Int.tdiv (IntKind.wrap .i64 (c + 1)) 2)), .int .i64 (IntKind.wrap .i64 (Int.tdiv (IntKind.wrap .i64 (d + 0)) 2)), .int .i64 (IntKind.wrap .i64 (Int.tdiv (IntKind.wrap .i64 (a + 0)) 2)), .int .i64 (IntKind.wrap .i64 (Int.tdiv (IntKind.wrap .i64 (b + 0)) 2)), .int .i64 (IntKind.wrap .i64 (Int.tdiv (IntKind.wrap .i64 (c + 0)) 2)), .int .i64 (IntKind.wrap .i64 (Int.tdiv (IntKind.wrap .i64 (d + 0)) 2))], [], []⟩)) := by kernel_rfl
def t_ref05_half : FuncId → Option Summ := tabOf []
def l_ref05_half : Nat → Option LSumm := ltOf []
theorem e_ref05_half (n : Int) (b : Bool) : funR Try.prog t_ref05_half (annOf []) l_ref05_half 20 Try.f78 [.one (.int .i64 n), .one (.bool b)] [] =
  (ite2 (b)
  (some ⟨.one (.int .i64 (IntKind.wrap .i64 (Int.tdiv n 2))), [], []⟩)
  (some ⟨.one (.int .i64 (IntKind.wrap .i64 (Int.tdiv (IntKind.wrap .i64 (n + 1)) 2))), [], []⟩)) := by kernel_rfl
def t_ref05_Bands : FuncId → Option Summ := tabOf [(49, G_ref01_Valid), (78, G_ref05_half)]
def l_ref05_Bands : Nat → Option LSumm := ltOf []
theorem e_ref05_Bands (a b c d : Int) : funR Try.prog t_ref05_Bands (annOf []) l_ref05_Bands 20 Try.f53 [.agg [.int .i64 a, .int .i64 b, .int .i64 c, .int .i64 d]] [] =
  (ite2 (!valid a b c d)
  (some ⟨.agg [.int .i64 0, .int .i64 0, .int .i64 0, .int .i64 0, .int .i64 0, .int .i64 0, .int .i64 0, .int .i64 0, .int .i64 0, .int .i64 0, .int .i64 0, .int .i64 0, .int .i64 0, .int .i64 0, .int .i64 0, .int .i64 0], [], []⟩)
  (ite2 (inr 0 4096 a)
   (ite2 (inr 0 4096 b)
    (ite2 (inr 0 4096 c)
     (ite2 (inr 0 4096 d)
      (ite2 (inr 0 4096 a)
       (ite2 (inr 0 4096 b)
        (ite2 (inr 0 4096 c)
         (ite2 (inr 0 4096 d)
          (ite2 (inr 0 4096 a)
           (ite2 (inr 0 4096 b)
            (ite2 (inr 0 4096 c)
             (ite2 (inr 0 4096 d)
              (ite2 (inr 0 4096 a)
               (ite2 (inr 0 4096 b)
                (ite2 (inr 0 4096 c)
                 (ite2 (inr 0 4096 d)
                  (some ⟨.agg [.int .i64 (half a false), .int .i64 (half b false), .int .i64 (half c false), .int .i64 (half d false), .int .i64 (half a true), .int .i64 (half b false), .int .i64 (half c true), .int .i64 (half d false), .int .i64 (half a false), .int .i64 (half b true), .int .i64 (half c false), .int .i64 (half d true), .int .i64 (half a true), .int .i64 (half b true), .int .i64 (half c true), .int .i64 (half d true)], [], []⟩)
                  none)
                 none)
                none)
               none)
              none)
             none)
            none)
           none)
          none)
         none)
        none)
       none)
      none)
     none)
    none)
   none)) := by kernel_rfl

def t_ext_below : FuncId → Option Summ := tabOf []
def l_ext_below : Nat → Option LSumm := ltOf []
theorem e_ext_below (i : Int) : funR Try.prog t_ext_below (annOf []) l_ext_below 20 Try.f109 [.one (.int .i64 i)] [] =
  (some ⟨.one (.int .i64 (IntKind.wrap .i64 (Int.tdiv (IntKind.wrap .i64 (i + 1)) 2))), [], []⟩) := by kernel_rfl
def t_ext_Counts : FuncId → Option Summ := tabOf [(109, G_ext_below)]
def l_ext_Counts : Nat → Option LSumm := ltOf []
theorem e_ext_Counts (s n : Int) : funR Try.prog t_ext_Counts (annOf []) l_ext_Counts 20 Try.f105 [.one (.int .i64 s), .one (.int .i64 n)] [] =
  (ite2 (decide (s < 0))
  (some ⟨.tup [(false, [.int .i64 0]), (false, [.int .i64 0])], [], []⟩)
  (ite2 (decide (s > 4096))
   (some ⟨.tup [(false, [.int .i64 0]), (false, [.int .i64 0])], [], []⟩)
   (ite2 (decide (n < 0))
    (some ⟨.tup [(false, [.int .i64 0]), (false, [.int .i64 0])], [], []⟩)
    (ite2 (decide (n > 4096))
     (some ⟨.tup [(false, [.int .i64 0]), (false, [.int .i64 0])], [], []⟩)
     (ite2 (inr 0 10000 (IntKind.wrap .i64 (s + n)))
      (ite2 (inr 0 10000 s)
       (some ⟨.tup [(false, [.int .i64 (IntKind.wrap .i64 ((IntKind.wrap .i64 (s + n) + 1) / 2 - (s + 1) / 2))]), (false, [.int .i64 (IntKind.wrap .i64 (n - IntKind.wrap .i64 ((IntKind.wrap .i64 (s + n) + 1) / 2 - (s + 1) / 2)))])], [], []⟩)
       none)
      none))))) := by kernel_rfl
def t_ref03_Counts : FuncId → Option Summ := tabOf []
def l_ref03_Counts : Nat → Option LSumm := ltOf []
theorem e_ref03_Counts (s n : Int) : funR Try.prog t_ref03_Counts (annOf []) l_ref03_Counts 20 Try.f108 [.one (.int .i64 s), .one (.int .i64 n)] [] =
  (ite2 (decide (s < 0))
  (some ⟨.tup [(false, [.int .i64 0]), (false, [.int .i64 0])], [], []⟩)
  (ite2 (decide (s > 4096))
   (some ⟨.tup [(false, [.int .i64 0]), (false, [.int .i64 0])], [], []⟩)
   (ite2 (decide (n < 0))
    (some ⟨.tup [(false, [.int .i64 0]), (false, [.int .i64 0])], [], []⟩)
    (ite2 (decide (n > 4096))
     (some ⟨.tup [(false, [.int .i64 0]), (false, [.int .i64 0])], [], []⟩)
     (some ⟨.tup [(false, [.int .i64 (IntKind.wrap .i64 (IntKind.wrap .i64 (Int.tdiv (IntKind.wrap .i64 (IntKind.wrap .i64 (s + n) + 1)) 2) - IntKind.wrap .i64 (Int.tdiv (IntKind.wrap .i64 (s + 1)) 2)))]), (false, [.int .i64 (IntKind.wrap .i64 (n - IntKind.wrap .i64 (IntKind.wrap .i64 (Int.tdiv (IntKind.wrap .i64 (IntKind.wrap .i64 (s + n) + 1)) 2) - IntKind.wrap .i64 (Int.tdiv (IntKind.wrap .i64 (s + 1)) 2))))])], [], []⟩))))) := by kernel_rfl
def t_ref03_ValidIndex : FuncId → Option Summ := tabOf []
def l_ref03_ValidIndex : Nat → Option LSumm := ltOf []
theorem e_ref03_ValidIndex (i : Int) : funR Try.prog t_ref03_ValidIndex (annOf []) l_ref03_ValidIndex 20 Try.f111 [.one (.int .i64 i)] [] =
  (ite2 (decide (i ≥ -281474976710656))
  (some ⟨.one (.bool (decide (i ≤ 281474976710656))), [], []⟩)
  (some ⟨.one (.bool false), [], []⟩)) := by kernel_rfl
def t_ref03_Mirror : FuncId → Option Summ := tabOf [(111, G_ref03_ValidIndex)]
def l_ref03_Mirror : Nat → Option LSumm := ltOf []
theorem e_ref03_Mirror (i a b : Int) : funR Try.prog t_ref03_Mirror (annOf []) l_ref03_Mirror 20 Try.f110 [.one (.int .i64 i), .one (.int .i64 a), .one (.int .i64 b)] [] =
  (ite2 (decide (a ≥ b))
  (some ⟨.one (.int .i64 0), [], []⟩)
  (ite2 (!inr (-281474976710656) 281474976710656 i)
   (some ⟨.one (.int .i64 0), [], []⟩)
   (ite2 (!inr (-281474976710656) 281474976710656 a)
    (some ⟨.one (.int .i64 0), [], []⟩)
    (ite2 (!inr (-281474976710656) 281474976710656 b)
     (some ⟨.one (.int .i64 0), [], []⟩)
     (ite2 (IntKind.wrap .i64 (b - a) == 1)
      (some ⟨.one (.int .i64 a), [], []⟩)
      (ite2 (!decide (IntKind.wrap .i64 (2 * IntKind.wrap .i64 (IntKind.wrap .i64 (b - a) - 1)) = 0))
       (ite2 (decide (Int.tmod (IntKind.wrap .i64 (i - a)) (IntKind.wrap .i64 (2 * IntKind.wrap .i64 (IntKind.wrap .i64 (b - a) - 1))) < 0))
        (ite2 (decide (IntKind.wrap .i64 (Int.tmod (IntKind.wrap .i64 (i - a)) (IntKind.wrap .i64 (2 * IntKind.wrap .i64 (IntKind.wrap .i64 (b - a) - 1))) + IntKind.wrap .i64 (2 * IntKind.wrap .i64 (IntKind.wrap .i64 (b - a) - 1))) < IntKind.wrap .i64 (b - a)))
         (some ⟨.one (.int .i64 (IntKind.wrap .i64 (a + IntKind.wrap .i64 (Int.tmod (IntKind.wrap .i64 (i - a)) (IntKind.wrap .i64 (2 * IntKind.wrap .i64 (IntKind.wrap .i64 (b - a) - 1))) + IntKind.wrap .i64 (2 * IntKind.wrap .i64 (IntKind.wrap .i64 (b - a) - 1)))))), [], []⟩)
         (some ⟨.one (.int .i64 (IntKind.wrap .i64 (IntKind.wrap .i64 (a + IntKind.wrap .i64 (2 * IntKind.wrap .i64 (IntKind.wrap .i64 (b - a) - 1))) - IntKind.wrap .i64 (Int.tmod (IntKind.wrap .i64 (i - a)) (IntKind.wrap .i64 (2 * IntKind.wrap .i64 (IntKind.wrap .i64 (b - a) - 1))) + IntKind.wrap .i64 (2 * IntKind.wrap .i64 (IntKind.wrap .i64 (b - a) - 1)))))), [], []⟩))
        (ite2 (decide (Int.tmod (IntKind.wrap .i64 (i - a)) (IntKind.wrap .i64 (2 * IntKind.wrap .i64 (IntKind.wrap .i64 (b - a) - 1))) < IntKind.wrap .i64 (b - a)))
         (some ⟨.one (.int .i64 (IntKind.wrap .i64 (a + Int.tmod (IntKind.wrap .i64 (i - a)) (IntKind.wrap .i64 (2 * IntKind.wrap .i64 (IntKind.wrap .i64 (b - a) - 1)))))), [], []⟩)
         (some ⟨.one (.int .i64 (IntKind.wrap .i64 (IntKind.wrap .i64 (a + IntKind.wrap .i64 (2 * IntKind.wrap .i64 (IntKind.wrap .i64 (b - a) - 1))) - Int.tmod (IntKind.wrap .i64 (i - a)) (IntKind.wrap .i64 (2 * IntKind.wrap .i64 (IntKind.wrap .i64 (b - a) - 1)))))), [], []⟩)))
       none)))))) := by kernel_rfl
def t_ext_Split : FuncId → Option Summ := tabOf [(105, G_ext_Counts)]
def l_ext_Split : Nat → Option LSumm := ltOf [(6, ⟨0, 56, [1, 4, 5, 33, 34, 35], (kxOf [4, 5] [4, 5, 6]), S_ext_Split_0⟩)]
theorem e_ext_Split (l : List Int) (s : Int) : funR Try.prog t_ext_Split (annOf []) l_ext_Split 20 Try.f91 [.one (.lst (.int .i64) l), .one (.int .i64 s)] [] =
  (ite2 (decide (s < 0))
  (some ⟨.tup [(false, [.row 0]), (false, [.row 1]), (false, [.int .i64 2])], [], [.arr 3 (.int .i64) ([] : List (Int)), .arr 3 (.int .i64) ([] : List (Int))]⟩)
  (ite2 (decide (s > 4096))
   (some ⟨.tup [(false, [.row 0]), (false, [.row 1]), (false, [.int .i64 2])], [], [.arr 3 (.int .i64) ([] : List (Int)), .arr 3 (.int .i64) ([] : List (Int))]⟩)
   (ite2 (decide ((↑(List.length l) : Int) > 4096))
    (some ⟨.tup [(false, [.row 0]), (false, [.row 1]), (false, [.int .i64 2])], [], [.arr 3 (.int .i64) ([] : List (Int)), .arr 3 (.int .i64) ([] : List (Int))]⟩)
    (ite2 (decide ((0 : Int) ≤ 0 ∧ 0 ≤ (cnt s (↑(List.length l) : Int)).1 ∧ (cnt s (↑(List.length l) : Int)).1 * 9 ≤ 140737488355328))
     (ite2 (decide ((0 : Int) ≤ 0 ∧ 0 ≤ (cnt s (↑(List.length l) : Int)).2 ∧ (cnt s (↑(List.length l) : Int)).2 * 9 ≤ 140737488355328))
      (ite2 (k_ext_Split_0 s (List.replicate 0 (0 : Int)) (List.replicate 0 (0 : Int)) l (↑(List.length l) : Int) 0)
       (some ⟨.tup [(false, [.row 0]), (false, [.row 1]), (false, [.int .i64 0])], [], [.arr 3 (.int .i64) (evs s l), .arr 3 (.int .i64) (ods s l)]⟩)
       none)
      none)
     none)))) := by kernel_rfl
def U_ext_Split_0 (s : Int) (e o l : List Int) (n i : Int) : LT :=
  (.br (decide (i < n))
    (.br (decide (0 ≤ i ∧ i < (↑(List.length l) : Int)))
     (.br (Int.tmod (IntKind.wrap .i64 (s + i)) 2 == 0)
      (.br (decide ((List.length e + List.length [gI l (Int.toNat i)]) * 9 ≤ 140737488355328))
       (.leaf Ex.normal [.one (.int .i64 s), .one (.row 0), .one (.row 1), .one (.lst (.int .i64) l), .one (.int .i64 n), .one (.int .i64 (IntKind.wrap .i64 (i + 1)))] [some (.arr 3 (.int .i64) (e ++ [gI l (Int.toNat i)])), some (.arr 3 (.int .i64) o)])
       .no)
      (.br (decide ((List.length o + List.length [gI l (Int.toNat i)]) * 9 ≤ 140737488355328))
       (.leaf Ex.normal [.one (.int .i64 s), .one (.row 0), .one (.row 1), .one (.lst (.int .i64) l), .one (.int .i64 n), .one (.int .i64 (IntKind.wrap .i64 (i + 1)))] [some (.arr 3 (.int .i64) e), some (.arr 3 (.int .i64) (o ++ [gI l (Int.toNat i)]))])
       .no))
     .no)
    (.leaf (Ex.exit 0) [.one (.row 0), .one (.row 1)] [some (.arr 3 (.int .i64) e), some (.arr 3 (.int .i64) o)]))
def T_ext_Split_0 : TT := fun vs bl => (D_ext_Split_0 vs bl fun s e o l n i => some (U_ext_Split_0 s e o l n i)).getD .no
theorem tu_ext_Split_0 (s : Int) (e o l : List Int) (n i : Int) : T_ext_Split_0 [.one (.int .i64 s), .one (.row 0), .one (.row 1), .one (.lst (.int .i64) l), .one (.int .i64 n), .one (.int .i64 i)] [some (.arr 3 (.int .i64) e), some (.arr 3 (.int .i64) o)] = U_ext_Split_0 s e o l n i := by kernel_rfl
theorem b_ext_Split_0 (s : Int) (e o l : List Int) (n i : Int) (Kc : KT) : exec Try.prog t_ext_Split (annOf []) l_ext_Split 20 0 (loopOf Try.f91 0) (unp 56 [1, 4, 5, 33, 34, 35] [.one (.int .i64 s), .one (.row 0), .one (.row 1), .one (.lst (.int .i64) l), .one (.int .i64 n), .one (.int .i64 i)] [some (.arr 3 (.int .i64) e), some (.arr 3 (.int .i64) o)]) (endc 0 56 [1, 4, 5, 33, 34, 35] (kxOf [4, 5] [4, 5, 6]) Kc) =
  (U_ext_Split_0 s e o l n i).runc Kc := by kernel_rfl
def t_ext_Join : FuncId → Option Summ := tabOf [(105, G_ext_Counts)]
def l_ext_Join : Nat → Option LSumm := ltOf [(10, ⟨0, 86, [0, 1, 2, 11, 12, 13, 57, 58], (kxOf [11] [6, 7]), S_ext_Join_0⟩)]
theorem e_ext_Join (l m : List Int) (s : Int) : funR Try.prog t_ext_Join (annOf []) l_ext_Join 20 Try.f97 [.one (.lst (.int .i64) l), .one (.lst (.int .i64) m), .one (.int .i64 s)] [] =
  (ite2 (decide (s < 0))
  (some ⟨.tup [(false, [.row 0]), (false, [.int .i64 2])], [], [.arr 3 (.int .i64) ([] : List (Int))]⟩)
  (ite2 (decide (s > 4096))
   (some ⟨.tup [(false, [.row 0]), (false, [.int .i64 2])], [], [.arr 3 (.int .i64) ([] : List (Int))]⟩)
   (ite2 (decide ((↑(List.length l) : Int) > 4096))
    (some ⟨.tup [(false, [.row 0]), (false, [.int .i64 2])], [], [.arr 3 (.int .i64) ([] : List (Int))]⟩)
    (ite2 (decide ((↑(List.length m) : Int) > IntKind.wrap .i64 (4096 - (↑(List.length l) : Int))))
     (some ⟨.tup [(false, [.row 0]), (false, [.int .i64 2])], [], [.arr 3 (.int .i64) ([] : List (Int))]⟩)
     (ite2 ((cnt s (IntKind.wrap .i64 ((↑(List.length l) : Int) + (↑(List.length m) : Int)))).1 != (↑(List.length l) : Int))
      (some ⟨.tup [(false, [.row 0]), (false, [.int .i64 4])], [], [.arr 3 (.int .i64) ([] : List (Int))]⟩)
      (ite2 ((cnt s (IntKind.wrap .i64 ((↑(List.length l) : Int) + (↑(List.length m) : Int)))).2 != (↑(List.length m) : Int))
       (some ⟨.tup [(false, [.row 0]), (false, [.int .i64 4])], [], [.arr 3 (.int .i64) ([] : List (Int))]⟩)
       (ite2 (decide (0 ≤ IntKind.wrap .i64 ((↑(List.length l) : Int) + (↑(List.length m) : Int)) ∧ IntKind.wrap .i64 ((↑(List.length l) : Int) + (↑(List.length m) : Int)) ≤ IntKind.wrap .i64 ((↑(List.length l) : Int) + (↑(List.length m) : Int)) ∧ IntKind.wrap .i64 ((↑(List.length l) : Int) + (↑(List.length m) : Int)) * 9 ≤ 140737488355328))
        (ite2 (k_ext_Join_0 l m (List.replicate (Int.toNat (IntKind.wrap .i64 ((↑(List.length l) : Int) + (↑(List.length m) : Int)))) (0 : Int)) s (IntKind.wrap .i64 ((↑(List.length l) : Int) + (↑(List.length m) : Int))) 0 0 0)
         (some ⟨.tup [(false, [.row 0]), (false, [.int .i64 0])], [], [.arr 3 (.int .i64) (ilv s (Int.toNat (IntKind.wrap .i64 ((↑(List.length l) : Int) + (↑(List.length m) : Int)))) l m)]⟩)
         none)
        none))))))) := by kernel_rfl
def U_ext_Join_0 (l m c : List Int) (s n a b i : Int) : LT :=
  (.br (decide (i < n))
    (.br (Int.tmod (IntKind.wrap .i64 (s + i)) 2 == 0)
     (.br (decide (0 ≤ a ∧ a < (↑(List.length l) : Int)))
      (.br (decide (0 ≤ i ∧ i < (↑(List.length c) : Int)))
       (.br (decide (Int.toNat i < List.length c))
        (.leaf Ex.normal [.one (.lst (.int .i64) l), .one (.lst (.int .i64) m), .one (.int .i64 s), .one (.row 0), .one (.int .i64 (IntKind.wrap .i64 (a + 1))), .one (.int .i64 b), .one (.int .i64 n), .one (.int .i64 (IntKind.wrap .i64 (i + 1)))] [some (.arr 3 (.int .i64) (List.set c (Int.toNat i) (gI l (Int.toNat a))))])
        .no)
       .no)
      .no)
     (.br (decide (0 ≤ b ∧ b < (↑(List.length m) : Int)))
      (.br (decide (0 ≤ i ∧ i < (↑(List.length c) : Int)))
       (.br (decide (Int.toNat i < List.length c))
        (.leaf Ex.normal [.one (.lst (.int .i64) l), .one (.lst (.int .i64) m), .one (.int .i64 s), .one (.row 0), .one (.int .i64 a), .one (.int .i64 (IntKind.wrap .i64 (b + 1))), .one (.int .i64 n), .one (.int .i64 (IntKind.wrap .i64 (i + 1)))] [some (.arr 3 (.int .i64) (List.set c (Int.toNat i) (gI m (Int.toNat b))))])
        .no)
       .no)
      .no))
    (.leaf (Ex.exit 0) [.one (.row 0)] [some (.arr 3 (.int .i64) c)]))
def T_ext_Join_0 : TT := fun vs bl => (D_ext_Join_0 vs bl fun l m c s n a b i => some (U_ext_Join_0 l m c s n a b i)).getD .no
theorem tu_ext_Join_0 (l m c : List Int) (s n a b i : Int) : T_ext_Join_0 [.one (.lst (.int .i64) l), .one (.lst (.int .i64) m), .one (.int .i64 s), .one (.row 0), .one (.int .i64 a), .one (.int .i64 b), .one (.int .i64 n), .one (.int .i64 i)] [some (.arr 3 (.int .i64) c)] = U_ext_Join_0 l m c s n a b i := by kernel_rfl
theorem b_ext_Join_0 (l m c : List Int) (s n a b i : Int) (Kc : KT) : exec Try.prog t_ext_Join (annOf []) l_ext_Join 20 0 (loopOf Try.f97 0) (unp 86 [0, 1, 2, 11, 12, 13, 57, 58] [.one (.lst (.int .i64) l), .one (.lst (.int .i64) m), .one (.int .i64 s), .one (.row 0), .one (.int .i64 a), .one (.int .i64 b), .one (.int .i64 n), .one (.int .i64 i)] [some (.arr 3 (.int .i64) c)]) (endc 0 86 [0, 1, 2, 11, 12, 13, 57, 58] (kxOf [11] [6, 7]) Kc) =
  (U_ext_Join_0 l m c s n a b i).runc Kc := by kernel_rfl
def t_ref03_Join : FuncId → Option Summ := tabOf [(108, G_ref03_Counts)]
def l_ref03_Join : Nat → Option LSumm := ltOf [(10, ⟨0, 89, [0, 1, 2, 8, 11, 12, 13, 14], (kxOf [11] [6, 7]), S_ref03_Join_0⟩)]
theorem e_ref03_Join (l m : List Int) (s : Int) : funR Try.prog t_ref03_Join (annOf []) l_ref03_Join 20 Try.f98 [.one (.lst (.int .i64) l), .one (.lst (.int .i64) m), .one (.int .i64 s)] [] =
  (ite2 (decide (s < 0))
  (some ⟨.tup [(false, [.row 0]), (false, [.int .i64 2])], [], [.arr 3 (.int .i64) ([] : List (Int))]⟩)
  (ite2 (decide (s > 4096))
   (some ⟨.tup [(false, [.row 0]), (false, [.int .i64 2])], [], [.arr 3 (.int .i64) ([] : List (Int))]⟩)
   (ite2 (decide ((↑(List.length l) : Int) > 4096))
    (some ⟨.tup [(false, [.row 0]), (false, [.int .i64 2])], [], [.arr 3 (.int .i64) ([] : List (Int))]⟩)
    (ite2 (decide ((↑(List.length m) : Int) > 4096))
     (some ⟨.tup [(false, [.row 0]), (false, [.int .i64 2])], [], [.arr 3 (.int .i64) ([] : List (Int))]⟩)
     (ite2 (decide (IntKind.wrap .i64 ((↑(List.length l) : Int) + (↑(List.length m) : Int)) > 4096))
      (some ⟨.tup [(false, [.row 0]), (false, [.int .i64 2])], [], [.arr 3 (.int .i64) ([] : List (Int))]⟩)
      (ite2 ((cnt s (IntKind.wrap .i64 ((↑(List.length l) : Int) + (↑(List.length m) : Int)))).1 != (↑(List.length l) : Int))
       (some ⟨.tup [(false, [.row 0]), (false, [.int .i64 4])], [], [.arr 3 (.int .i64) ([] : List (Int))]⟩)
       (ite2 ((cnt s (IntKind.wrap .i64 ((↑(List.length l) : Int) + (↑(List.length m) : Int)))).2 != (↑(List.length m) : Int))
        (some ⟨.tup [(false, [.row 0]), (false, [.int .i64 4])], [], [.arr 3 (.int .i64) ([] : List (Int))]⟩)
        (ite2 (k_ref03_Join_0 l m [] s (IntKind.wrap .i64 ((↑(List.length l) : Int) + (↑(List.length m) : Int))) 0 0 0)
         (some ⟨.tup [(false, [.row 0]), (false, [.int .i64 0])], [], [.arr 3 (.int .i64) (ilv s (Int.toNat (IntKind.wrap .i64 ((↑(List.length l) : Int) + (↑(List.length m) : Int)))) l m)]⟩)
         none)))))))) := by kernel_rfl
def U_ref03_Join_0 (l m c : List Int) (s n a b i : Int) : LT :=
  (.br (decide (i < n))
    (.br (Int.tmod (IntKind.wrap .i64 (s + i)) 2 == 0)
     (.br (decide (0 ≤ a ∧ a < (↑(List.length l) : Int)))
      (.br (decide ((List.length c + List.length [gI l (Int.toNat a)]) * 9 ≤ 140737488355328))
       (.leaf Ex.normal [.one (.lst (.int .i64) l), .one (.lst (.int .i64) m), .one (.int .i64 s), .one (.int .i64 n), .one (.row 0), .one (.int .i64 (IntKind.wrap .i64 (a + 1))), .one (.int .i64 b), .one (.int .i64 (IntKind.wrap .i64 (i + 1)))] [some (.arr 3 (.int .i64) (c ++ [gI l (Int.toNat a)]))])
       .no)
      .no)
     (.br (decide (0 ≤ b ∧ b < (↑(List.length m) : Int)))
      (.br (decide ((List.length c + List.length [gI m (Int.toNat b)]) * 9 ≤ 140737488355328))
       (.leaf Ex.normal [.one (.lst (.int .i64) l), .one (.lst (.int .i64) m), .one (.int .i64 s), .one (.int .i64 n), .one (.row 0), .one (.int .i64 a), .one (.int .i64 (IntKind.wrap .i64 (b + 1))), .one (.int .i64 (IntKind.wrap .i64 (i + 1)))] [some (.arr 3 (.int .i64) (c ++ [gI m (Int.toNat b)]))])
       .no)
      .no))
    (.leaf (Ex.exit 0) [.one (.row 0)] [some (.arr 3 (.int .i64) c)]))
def T_ref03_Join_0 : TT := fun vs bl => (D_ref03_Join_0 vs bl fun l m c s n a b i => some (U_ref03_Join_0 l m c s n a b i)).getD .no
theorem tu_ref03_Join_0 (l m c : List Int) (s n a b i : Int) : T_ref03_Join_0 [.one (.lst (.int .i64) l), .one (.lst (.int .i64) m), .one (.int .i64 s), .one (.int .i64 n), .one (.row 0), .one (.int .i64 a), .one (.int .i64 b), .one (.int .i64 i)] [some (.arr 3 (.int .i64) c)] = U_ref03_Join_0 l m c s n a b i := by kernel_rfl
theorem b_ref03_Join_0 (l m c : List Int) (s n a b i : Int) (Kc : KT) : exec Try.prog t_ref03_Join (annOf []) l_ref03_Join 20 0 (loopOf Try.f98 0) (unp 89 [0, 1, 2, 8, 11, 12, 13, 14] [.one (.lst (.int .i64) l), .one (.lst (.int .i64) m), .one (.int .i64 s), .one (.int .i64 n), .one (.row 0), .one (.int .i64 a), .one (.int .i64 b), .one (.int .i64 i)] [some (.arr 3 (.int .i64) c)]) (endc 0 89 [0, 1, 2, 8, 11, 12, 13, 14] (kxOf [11] [6, 7]) Kc) =
  (U_ref03_Join_0 l m c s n a b i).runc Kc := by kernel_rfl
def t_lift_known : FuncId → Option Summ := tabOf []
def l_lift_known : Nat → Option LSumm := ltOf []
theorem e_lift_known (k : Int) : funR Try.prog t_lift_known (annOf []) l_lift_known 20 Try.f79 [.one (.int .i64 k)] [] =
  (ite2 (decide (k ≥ 1))
  (some ⟨.one (.bool (decide (k ≤ 3))), [], []⟩)
  (some ⟨.one (.bool false), [], []⟩)) := by kernel_rfl
def t_lift_Margin : FuncId → Option Summ := tabOf []
def l_lift_Margin : Nat → Option LSumm := ltOf []
theorem e_lift_Margin (k : Int) : funR Try.prog t_lift_Margin (annOf []) l_lift_Margin 20 Try.f40 [.one (.int .i64 k)] [] =
  (ite2 (k == 1)
  (ite2 (k == 1)
   (some ⟨.one (.int .i64 2), [], []⟩)
   (ite2 (k == 3)
    (some ⟨.one (.int .i64 4), [], []⟩)
    (some ⟨.one (.int .i64 0), [], []⟩)))
  (ite2 (k == 2)
   (some ⟨.one (.int .i64 2), [], []⟩)
   (ite2 (k == 3)
    (some ⟨.one (.int .i64 4), [], []⟩)
    (some ⟨.one (.int .i64 0), [], []⟩)))) := by kernel_rfl
def t_lift_High : FuncId → Option Summ := tabOf [(79, G_lift_known)]
def l_lift_High : Nat → Option LSumm := ltOf []
theorem e_lift_High (b k : Int) : funR Try.prog t_lift_High (annOf []) l_lift_High 20 Try.f55 [.one (.int .i64 b), .one (.int .i64 k)] [] =
  (ite2 (decide (b < 0))
  (some ⟨.one (.int .i64 0), [], []⟩)
  (ite2 (decide (b > 281474976710656))
   (some ⟨.one (.int .i64 0), [], []⟩)
   (ite2 (!inr 1 3 k)
    (some ⟨.one (.int .i64 0), [], []⟩)
    (ite2 (k == 3)
     (some ⟨.one (.int .i64 (IntKind.wrap .i64 (b + IntKind.wrap .i64 (Int.tdiv (IntKind.wrap .i64 (IntKind.wrap .i64 (20 * b) + 8)) 16)))), [], []⟩)
     (some ⟨.one (.int .i64 (IntKind.wrap .i64 (2 * b))), [], []⟩))))) := by kernel_rfl
def t_lift_Low : FuncId → Option Summ := tabOf [(55, G_lift_High), (79, G_lift_known)]
def l_lift_Low : Nat → Option LSumm := ltOf []
theorem e_lift_Low (b k : Int) : funR Try.prog t_lift_Low (annOf []) l_lift_Low 20 Try.f54 [.one (.int .i64 b), .one (.int .i64 k)] [] =
  (ite2 (decide (b < 0))
  (some ⟨.one (.int .i64 0), [], []⟩)
  (ite2 (decide (b > 281474976710656))
   (some ⟨.one (.int .i64 0), [], []⟩)
   (ite2 (!inr 1 3 k)
    (some ⟨.one (.int .i64 0), [], []⟩)
    (some ⟨.one (.int .i64 (IntKind.wrap .i64 (b + IntKind.wrap .i64 (Int.tdiv (IntKind.wrap .i64 (IntKind.wrap .i64 (2 * hb b k) + 2)) 4)))), [], []⟩)))) := by kernel_rfl
def t_lift_bounded : FuncId → Option Summ := tabOf []
def l_lift_bounded : Nat → Option LSumm := ltOf [(2, ⟨0, 23, [1, 7, 8, 9], (kxOf [] [4]), S_lift_bounded_0⟩)]
theorem e_lift_bounded (l : List Int) (b : Int) : funR Try.prog t_lift_bounded (annOf []) l_lift_bounded 20 Try.f87 [.one (.lst (.int .i64) l), .one (.int .i64 b)] [] =
  (ite2 (k_lift_bounded_0 b l (↑(List.length l) : Int) 0)
  (ite2 (p_lift_bounded_0 b l)
   (some ⟨.one (.bool true), [], []⟩)
   (some ⟨.one (.bool false), [], []⟩))
  none) := by kernel_rfl
def U_lift_bounded_0 (b : Int) (l : List Int) (n i : Int) : LT :=
  (.br (decide (i < n))
    (.br (decide (0 ≤ i ∧ i < (↑(List.length l) : Int)))
     (.br (decide (gI l (Int.toNat i) < IntKind.wrap .i64 (0 - b)))
      (.leaf Ex.ret [.one (.bool false)] [])
      (.br (decide (gI l (Int.toNat i) > b))
       (.leaf Ex.ret [.one (.bool false)] [])
       (.leaf Ex.normal [.one (.int .i64 b), .one (.lst (.int .i64) l), .one (.int .i64 n), .one (.int .i64 (IntKind.wrap .i64 (i + 1)))] [])))
     .no)
    (.leaf (Ex.exit 0) [] []))
def T_lift_bounded_0 : TT := fun vs bl => (D_lift_bounded_0 vs bl fun b l n i => some (U_lift_bounded_0 b l n i)).getD .no
theorem tu_lift_bounded_0 (b : Int) (l : List Int) (n i : Int) : T_lift_bounded_0 [.one (.int .i64 b), .one (.lst (.int .i64) l), .one (.int .i64 n), .one (.int .i64 i)] [] = U_lift_bounded_0 b l n i := by kernel_rfl
theorem b_lift_bounded_0 (b : Int) (l : List Int) (n i : Int) (Kc : KT) : exec Try.prog t_lift_bounded (annOf []) l_lift_bounded 20 0 (loopOf Try.f87 0) (unp 23 [1, 7, 8, 9] [.one (.int .i64 b), .one (.lst (.int .i64) l), .one (.int .i64 n), .one (.int .i64 i)] []) (endc 0 23 [1, 7, 8, 9] (kxOf [] [4]) Kc) =
  (U_lift_bounded_0 b l n i).runc Kc := by kernel_rfl
def t_line_at : FuncId → Option Summ := tabOf []
def l_line_at : Nat → Option LSumm := ltOf [(2, ⟨0, 30, [1, 2, 5], (kxOf [1, 2] [4]), S_line_at_0⟩)]
theorem e_line_at (l : List Int) (s i : Int) : funR Try.prog t_line_at (annOf []) l_line_at 20 Try.f100 [.agg [.lst (.int .i64) l, .int .i64 s], .one (.int .i64 i)] [] =
  (ite2 (k_line_at_0 l s i (IntKind.wrap .i64 ((↑(List.length l) : Int) - 1)))
  (ite2 (decide (0 ≤ mr (↑(List.length l) : Int) i ∧ mr (↑(List.length l) : Int) i < (↑(List.length l) : Int)))
   (some ⟨.one (.int .i64 (gI l (Int.toNat (mr (↑(List.length l) : Int) i)))), [], []⟩)
   none)
  none) := by kernel_rfl
def U_line_at_0 (l : List Int) (s i m : Int) : LT :=
  (.br (decide (i < 0))
    (.br (decide (i < 0))
     (.leaf Ex.normal [.one (.int .i64 (IntKind.wrap .i64 (0 - i))), .one (.ptr 0 0), .one (.int .i64 m)] [some (.box [.lst (.int .i64) l, .int .i64 s])])
     (.leaf Ex.normal [.one (.int .i64 (IntKind.wrap .i64 (IntKind.wrap .i64 (2 * m) - i))), .one (.ptr 0 0), .one (.int .i64 m)] [some (.box [.lst (.int .i64) l, .int .i64 s])]))
    (.br (decide (i > m))
     (.br (decide (i < 0))
      (.leaf Ex.normal [.one (.int .i64 (IntKind.wrap .i64 (0 - i))), .one (.ptr 0 0), .one (.int .i64 m)] [some (.box [.lst (.int .i64) l, .int .i64 s])])
      (.leaf Ex.normal [.one (.int .i64 (IntKind.wrap .i64 (IntKind.wrap .i64 (2 * m) - i))), .one (.ptr 0 0), .one (.int .i64 m)] [some (.box [.lst (.int .i64) l, .int .i64 s])]))
     (.leaf (Ex.exit 0) [.one (.int .i64 i), .one (.ptr 0 0)] [some (.box [.lst (.int .i64) l, .int .i64 s])])))
def T_line_at_0 : TT := fun vs bl => (D_line_at_0 vs bl fun l s i m => some (U_line_at_0 l s i m)).getD .no
theorem tu_line_at_0 (l : List Int) (s i m : Int) : T_line_at_0 [.one (.int .i64 i), .one (.ptr 0 0), .one (.int .i64 m)] [some (.box [.lst (.int .i64) l, .int .i64 s])] = U_line_at_0 l s i m := by kernel_rfl
theorem b_line_at_0 (l : List Int) (s i m : Int) (Kc : KT) : exec Try.prog t_line_at (annOf []) l_line_at 20 0 (loopOf Try.f100 0) (unp 30 [1, 2, 5] [.one (.int .i64 i), .one (.ptr 0 0), .one (.int .i64 m)] [some (.box [.lst (.int .i64) l, .int .i64 s])]) (endc 0 30 [1, 2, 5] (kxOf [1, 2] [4]) Kc) =
  (U_line_at_0 l s i m).runc Kc := by kernel_rfl
def t_line_prd1 : FuncId → Option Summ := tabOf [(100, G_line_at)]
def l_line_prd1 : Nat → Option LSumm := ltOf []
theorem e_line_prd1 (l : List Int) (s i : Int) : funR Try.prog t_line_prd1 (annOf []) l_line_prd1 20 Try.f99 [.one (.int .i64 i), .one (.ptr 0 0)] [.box [.row 1, .int .i64 s], .arr 3 (.int .i64) l] =
  (ite2 (lnOk l && inr (-4200) 4200 (IntKind.wrap .i64 (i - 1)))
  (some ⟨.one (.int .i64 (at_ l (IntKind.wrap .i64 (i - 1)))), [some (.box [.row 1, .int .i64 s]), some (.arr 3 (.int .i64) l)], []⟩)
  none) := by kernel_rfl
def t_line_prd2 : FuncId → Option Summ := tabOf [(100, G_line_at)]
def l_line_prd2 : Nat → Option LSumm := ltOf []
theorem e_line_prd2 (l : List Int) (s i : Int) : funR Try.prog t_line_prd2 (annOf []) l_line_prd2 20 Try.f101 [.one (.int .i64 i), .one (.ptr 0 0)] [.box [.row 1, .int .i64 s], .arr 3 (.int .i64) l] =
  (ite2 (lnOk l && inr (-4200) 4200 (IntKind.wrap .i64 (i - 1)))
  (ite2 (lnOk l && inr (-4200) 4200 (IntKind.wrap .i64 (i + 1)))
   (some ⟨.one (.int .i64 (Int.fdiv (IntKind.wrap .i64 (at_ l (IntKind.wrap .i64 (i - 1)) + at_ l (IntKind.wrap .i64 (i + 1)))) 2)), [some (.box [.row 1, .int .i64 s]), some (.arr 3 (.int .i64) l)], []⟩)
   none)
  none) := by kernel_rfl
def t_line_prd3 : FuncId → Option Summ := tabOf [(100, G_line_at)]
def l_line_prd3 : Nat → Option LSumm := ltOf []
theorem e_line_prd3 (l : List Int) (s i : Int) : funR Try.prog t_line_prd3 (annOf []) l_line_prd3 20 Try.f102 [.one (.int .i64 i), .one (.ptr 0 0)] [.box [.row 1, .int .i64 s], .arr 3 (.int .i64) l] =
  (ite2 (lnOk l && inr (-4200) 4200 (IntKind.wrap .i64 (i - 1)))
  (ite2 (lnOk l && inr (-4200) 4200 (IntKind.wrap .i64 (i + 1)))
   (ite2 (lnOk l && inr (-4200) 4200 (IntKind.wrap .i64 (i - 3)))
    (ite2 (lnOk l && inr (-4200) 4200 (IntKind.wrap .i64 (i + 3)))
     (some ⟨.one (.int .i64 (Int.fdiv (IntKind.wrap .i64 (IntKind.wrap .i64 (IntKind.wrap .i64 (9 * IntKind.wrap .i64 (at_ l (IntKind.wrap .i64 (i - 1)) + at_ l (IntKind.wrap .i64 (i + 1)))) - IntKind.wrap .i64 (at_ l (IntKind.wrap .i64 (i - 3)) + at_ l (IntKind.wrap .i64 (i + 3)))) + 8)) 16)), [some (.box [.row 1, .int .i64 s]), some (.arr 3 (.int .i64) l)], []⟩)
     none)
    none)
   none)
  none) := by kernel_rfl
def t_line_upd1 : FuncId → Option Summ := tabOf [(100, G_line_at)]
def l_line_upd1 : Nat → Option LSumm := ltOf []
theorem e_line_upd1 (l : List Int) (s i : Int) : funR Try.prog t_line_upd1 (annOf []) l_line_upd1 20 Try.f103 [.one (.int .i64 i), .one (.ptr 0 0)] [.box [.row 1, .int .i64 s], .arr 3 (.int .i64) l] =
  (ite2 (lnOk l && inr (-4200) 4200 (IntKind.wrap .i64 (i + 1)))
  (some ⟨.one (.int .i64 (Int.fdiv (at_ l (IntKind.wrap .i64 (i + 1))) 2)), [some (.box [.row 1, .int .i64 s]), some (.arr 3 (.int .i64) l)], []⟩)
  none) := by kernel_rfl
def t_line_upd2 : FuncId → Option Summ := tabOf [(100, G_line_at)]
def l_line_upd2 : Nat → Option LSumm := ltOf []
theorem e_line_upd2 (l : List Int) (s i : Int) : funR Try.prog t_line_upd2 (annOf []) l_line_upd2 20 Try.f104 [.one (.int .i64 i), .one (.ptr 0 0)] [.box [.row 1, .int .i64 s], .arr 3 (.int .i64) l] =
  (ite2 (lnOk l && inr (-4200) 4200 (IntKind.wrap .i64 (i - 1)))
  (ite2 (lnOk l && inr (-4200) 4200 (IntKind.wrap .i64 (i + 1)))
   (some ⟨.one (.int .i64 (Int.fdiv (IntKind.wrap .i64 (IntKind.wrap .i64 (at_ l (IntKind.wrap .i64 (i - 1)) + at_ l (IntKind.wrap .i64 (i + 1))) + 2)) 4)), [some (.box [.row 1, .int .i64 s]), some (.arr 3 (.int .i64) l)], []⟩)
   none)
  none) := by kernel_rfl
def t_line_predict : FuncId → Option Summ := tabOf [(99, G_line_prd1), (101, G_line_prd2), (102, G_line_prd3)]
def l_line_predict : Nat → Option LSumm := ltOf []
theorem e_line_predict (l : List Int) (s k : Int) : funR Try.prog t_line_predict (annOf []) l_line_predict 20 Try.f89 [.agg [.row 0, .int .i64 s], .one (.int .i64 k)] [.arr 3 (.int .i64) l] =
  (ite2 (k == 1)
  (some ⟨.one (.fn 99 [1]), [some (.arr 3 (.int .i64) l)], [.box [.row 0, .int .i64 s]]⟩)
  (ite2 (k == 2)
   (some ⟨.one (.fn 101 [1]), [some (.arr 3 (.int .i64) l)], [.box [.row 0, .int .i64 s]]⟩)
   (some ⟨.one (.fn 102 [1]), [some (.arr 3 (.int .i64) l)], [.box [.row 0, .int .i64 s]]⟩))) := by kernel_rfl
def t_line_update : FuncId → Option Summ := tabOf [(103, G_line_upd1), (104, G_line_upd2)]
def l_line_update : Nat → Option LSumm := ltOf []
theorem e_line_update (l : List Int) (s k : Int) : funR Try.prog t_line_update (annOf []) l_line_update 20 Try.f90 [.agg [.row 0, .int .i64 s], .one (.int .i64 k)] [.arr 3 (.int .i64) l] =
  (ite2 (k == 1)
  (some ⟨.one (.fn 103 [1]), [some (.arr 3 (.int .i64) l)], [.box [.row 0, .int .i64 s]]⟩)
  (some ⟨.one (.fn 104 [1]), [some (.arr 3 (.int .i64) l)], [.box [.row 0, .int .i64 s]]⟩)) := by kernel_rfl
def t_step_prd1 : FuncId → Option Summ := tabOf [(99, G_line_prd1)]
def l_step_prd1 : Nat → Option LSumm := ltOf [(2, ⟨2, 35, [1, 2, 3, 4, 11, 12], (kxOf [] []), S_step_prd1_0⟩)]
theorem e_step_prd1 (l : List Int) (s u a b : Int) : funR Try.prog t_step_prd1 (annOf []) l_step_prd1 20 Try.f88 [.agg [.row 1, .int .i64 u], .one (.int .i64 a), .one (.int .i64 b), .one (.fn 99 [0])] [.box [.row 1, .int .i64 s], .arr 3 (.int .i64) l] =
  (ite2 (k_step_prd1_0 l s u a b (↑(List.length l) : Int) 0)
  (some ⟨.tup [], [some (.box [.row 1, .int .i64 s]), some (.arr 3 (.int .i64) (stp a b (prd 1) s l))], []⟩)
  none) := by kernel_rfl
def U_step_prd1_0 (l : List Int) (s u a b n i : Int) : LT :=
  (.br (decide (i < n))
    (.br (Int.tmod (IntKind.wrap .i64 (u + i)) 2 == a)
     (.br (decide (0 ≤ i ∧ i < (↑(List.length l) : Int)))
      (.br (decide (Int.toNat i < List.length l))
       (.br (lnOk l && inr 0 4096 i && fitB 36028797018963968 l)
        (.br (decide (0 ≤ i ∧ i < (↑(List.length l) : Int)))
         (.br (decide (Int.toNat i < List.length l))
          (.leaf Ex.normal [.one (.int .i64 a), .one (.int .i64 b), .one (.fn 99 [0]), .one (.ptr 2 0), .one (.int .i64 n), .one (.int .i64 (IntKind.wrap .i64 (i + 1)))] [some (.box [.row 1, .int .i64 s]), some (.arr 3 (.int .i64) (List.set l (Int.toNat i) (IntKind.wrap .i64 (gI l (Int.toNat i) + IntKind.wrap .i64 (b * prd 1 l i))))), some (.box [.row 1, .int .i64 u])])
          .no)
         .no)
        .no)
       .no)
      .no)
     (.leaf Ex.normal [.one (.int .i64 a), .one (.int .i64 b), .one (.fn 99 [0]), .one (.ptr 2 0), .one (.int .i64 n), .one (.int .i64 (IntKind.wrap .i64 (i + 1)))] [some (.box [.row 1, .int .i64 s]), some (.arr 3 (.int .i64) l), some (.box [.row 1, .int .i64 u])]))
    (.leaf (Ex.exit 0) [] [some (.box [.row 1, .int .i64 s]), some (.arr 3 (.int .i64) l)]))
def T_step_prd1_0 : TT := fun vs bl => (D_step_prd1_0 vs bl fun l s u a b n i => some (U_step_prd1_0 l s u a b n i)).getD .no
theorem tu_step_prd1_0 (l : List Int) (s u a b n i : Int) : T_step_prd1_0 [.one (.int .i64 a), .one (.int .i64 b), .one (.fn 99 [0]), .one (.ptr 2 0), .one (.int .i64 n), .one (.int .i64 i)] [some (.box [.row 1, .int .i64 s]), some (.arr 3 (.int .i64) l), some (.box [.row 1, .int .i64 u])] = U_step_prd1_0 l s u a b n i := by kernel_rfl
theorem b_step_prd1_0 (l : List Int) (s u a b n i : Int) (Kc : KT) : exec Try.prog t_step_prd1 (annOf []) l_step_prd1 20 2 (loopOf Try.f88 0) (unp 35 [1, 2, 3, 4, 11, 12] [.one (.int .i64 a), .one (.int .i64 b), .one (.fn 99 [0]), .one (.ptr 2 0), .one (.int .i64 n), .one (.int .i64 i)] [some (.box [.row 1, .int .i64 s]), some (.arr 3 (.int .i64) l), some (.box [.row 1, .int .i64 u])]) (endc 2 35 [1, 2, 3, 4, 11, 12] (kxOf [] []) Kc) =
  (U_step_prd1_0 l s u a b n i).runc Kc := by kernel_rfl
def t_step_prd2 : FuncId → Option Summ := tabOf [(101, G_line_prd2)]
def l_step_prd2 : Nat → Option LSumm := ltOf [(2, ⟨2, 35, [1, 2, 3, 4, 11, 12], (kxOf [] []), S_step_prd2_0⟩)]
theorem e_step_prd2 (l : List Int) (s u a b : Int) : funR Try.prog t_step_prd2 (annOf []) l_step_prd2 20 Try.f88 [.agg [.row 1, .int .i64 u], .one (.int .i64 a), .one (.int .i64 b), .one (.fn 101 [0])] [.box [.row 1, .int .i64 s], .arr 3 (.int .i64) l] =
  (ite2 (k_step_prd2_0 l s u a b (↑(List.length l) : Int) 0)
  (some ⟨.tup [], [some (.box [.row 1, .int .i64 s]), some (.arr 3 (.int .i64) (stp a b (prd 2) s l))], []⟩)
  none) := by kernel_rfl
def U_step_prd2_0 (l : List Int) (s u a b n i : Int) : LT :=
  (.br (decide (i < n))
    (.br (Int.tmod (IntKind.wrap .i64 (u + i)) 2 == a)
     (.br (decide (0 ≤ i ∧ i < (↑(List.length l) : Int)))
      (.br (decide (Int.toNat i < List.length l))
       (.br (lnOk l && inr 0 4096 i && fitB 36028797018963968 l)
        (.br (decide (0 ≤ i ∧ i < (↑(List.length l) : Int)))
         (.br (decide (Int.toNat i < List.length l))
          (.leaf Ex.normal [.one (.int .i64 a), .one (.int .i64 b), .one (.fn 101 [0]), .one (.ptr 2 0), .one (.int .i64 n), .one (.int .i64 (IntKind.wrap .i64 (i + 1)))] [some (.box [.row 1, .int .i64 s]), some (.arr 3 (.int .i64) (List.set l (Int.toNat i) (IntKind.wrap .i64 (gI l (Int.toNat i) + IntKind.wrap .i64 (b * prd 2 l i))))), some (.box [.row 1, .int .i64 u])])
          .no)
         .no)
        .no)
       .no)
      .no)
     (.leaf Ex.normal [.one (.int .i64 a), .one (.int .i64 b), .one (.fn 101 [0]), .one (.ptr 2 0), .one (.int .i64 n), .one (.int .i64 (IntKind.wrap .i64 (i + 1)))] [some (.box [.row 1, .int .i64 s]), some (.arr 3 (.int .i64) l), some (.box [.row 1, .int .i64 u])]))
    (.leaf (Ex.exit 0) [] [some (.box [.row 1, .int .i64 s]), some (.arr 3 (.int .i64) l)]))
def T_step_prd2_0 : TT := fun vs bl => (D_step_prd2_0 vs bl fun l s u a b n i => some (U_step_prd2_0 l s u a b n i)).getD .no
theorem tu_step_prd2_0 (l : List Int) (s u a b n i : Int) : T_step_prd2_0 [.one (.int .i64 a), .one (.int .i64 b), .one (.fn 101 [0]), .one (.ptr 2 0), .one (.int .i64 n), .one (.int .i64 i)] [some (.box [.row 1, .int .i64 s]), some (.arr 3 (.int .i64) l), some (.box [.row 1, .int .i64 u])] = U_step_prd2_0 l s u a b n i := by kernel_rfl
theorem b_step_prd2_0 (l : List Int) (s u a b n i : Int) (Kc : KT) : exec Try.prog t_step_prd2 (annOf []) l_step_prd2 20 2 (loopOf Try.f88 0) (unp 35 [1, 2, 3, 4, 11, 12] [.one (.int .i64 a), .one (.int .i64 b), .one (.fn 101 [0]), .one (.ptr 2 0), .one (.int .i64 n), .one (.int .i64 i)] [some (.box [.row 1, .int .i64 s]), some (.arr 3 (.int .i64) l), some (.box [.row 1, .int .i64 u])]) (endc 2 35 [1, 2, 3, 4, 11, 12] (kxOf [] []) Kc) =
  (U_step_prd2_0 l s u a b n i).runc Kc := by kernel_rfl
def t_step_prd3 : FuncId → Option Summ := tabOf [(102, G_line_prd3)]
def l_step_prd3 : Nat → Option LSumm := ltOf [(2, ⟨2, 35, [1, 2, 3, 4, 11, 12], (kxOf [] []), S_step_prd3_0⟩)]
theorem e_step_prd3 (l : List Int) (s u a b : Int) : funR Try.prog t_step_prd3 (annOf []) l_step_prd3 20 Try.f88 [.agg [.row 1, .int .i64 u], .one (.int .i64 a), .one (.int .i64 b), .one (.fn 102 [0])] [.box [.row 1, .int .i64 s], .arr 3 (.int .i64) l] =
  (ite2 (k_step_prd3_0 l s u a b (↑(List.length l) : Int) 0)
  (some ⟨.tup [], [some (.box [.row 1, .int .i64 s]), some (.arr 3 (.int .i64) (stp a b (prd 3) s l))], []⟩)
  none) := by kernel_rfl
def U_step_prd3_0 (l : List Int) (s u a b n i : Int) : LT :=
  (.br (decide (i < n))
    (.br (Int.tmod (IntKind.wrap .i64 (u + i)) 2 == a)
     (.br (decide (0 ≤ i ∧ i < (↑(List.length l) : Int)))
      (.br (decide (Int.toNat i < List.length l))
       (.br (lnOk l && inr 0 4096 i && fitB 36028797018963968 l)
        (.br (decide (0 ≤ i ∧ i < (↑(List.length l) : Int)))
         (.br (decide (Int.toNat i < List.length l))
          (.leaf Ex.normal [.one (.int .i64 a), .one (.int .i64 b), .one (.fn 102 [0]), .one (.ptr 2 0), .one (.int .i64 n), .one (.int .i64 (IntKind.wrap .i64 (i + 1)))] [some (.box [.row 1, .int .i64 s]), some (.arr 3 (.int .i64) (List.set l (Int.toNat i) (IntKind.wrap .i64 (gI l (Int.toNat i) + IntKind.wrap .i64 (b * prd 3 l i))))), some (.box [.row 1, .int .i64 u])])
          .no)
         .no)
        .no)
       .no)
      .no)
     (.leaf Ex.normal [.one (.int .i64 a), .one (.int .i64 b), .one (.fn 102 [0]), .one (.ptr 2 0), .one (.int .i64 n), .one (.int .i64 (IntKind.wrap .i64 (i + 1)))] [some (.box [.row 1, .int .i64 s]), some (.arr 3 (.int .i64) l), some (.box [.row 1, .int .i64 u])]))
    (.leaf (Ex.exit 0) [] [some (.box [.row 1, .int .i64 s]), some (.arr 3 (.int .i64) l)]))
def T_step_prd3_0 : TT := fun vs bl => (D_step_prd3_0 vs bl fun l s u a b n i => some (U_step_prd3_0 l s u a b n i)).getD .no
theorem tu_step_prd3_0 (l : List Int) (s u a b n i : Int) : T_step_prd3_0 [.one (.int .i64 a), .one (.int .i64 b), .one (.fn 102 [0]), .one (.ptr 2 0), .one (.int .i64 n), .one (.int .i64 i)] [some (.box [.row 1, .int .i64 s]), some (.arr 3 (.int .i64) l), some (.box [.row 1, .int .i64 u])] = U_step_prd3_0 l s u a b n i := by kernel_rfl
theorem b_step_prd3_0 (l : List Int) (s u a b n i : Int) (Kc : KT) : exec Try.prog t_step_prd3 (annOf []) l_step_prd3 20 2 (loopOf Try.f88 0) (unp 35 [1, 2, 3, 4, 11, 12] [.one (.int .i64 a), .one (.int .i64 b), .one (.fn 102 [0]), .one (.ptr 2 0), .one (.int .i64 n), .one (.int .i64 i)] [some (.box [.row 1, .int .i64 s]), some (.arr 3 (.int .i64) l), some (.box [.row 1, .int .i64 u])]) (endc 2 35 [1, 2, 3, 4, 11, 12] (kxOf [] []) Kc) =
  (U_step_prd3_0 l s u a b n i).runc Kc := by kernel_rfl
def t_step_upd1 : FuncId → Option Summ := tabOf [(103, G_line_upd1)]
def l_step_upd1 : Nat → Option LSumm := ltOf [(2, ⟨2, 35, [1, 2, 3, 4, 11, 12], (kxOf [] []), S_step_upd1_0⟩)]
theorem e_step_upd1 (l : List Int) (s u a b : Int) : funR Try.prog t_step_upd1 (annOf []) l_step_upd1 20 Try.f88 [.agg [.row 1, .int .i64 u], .one (.int .i64 a), .one (.int .i64 b), .one (.fn 103 [0])] [.box [.row 1, .int .i64 s], .arr 3 (.int .i64) l] =
  (ite2 (k_step_upd1_0 l s u a b (↑(List.length l) : Int) 0)
  (some ⟨.tup [], [some (.box [.row 1, .int .i64 s]), some (.arr 3 (.int .i64) (stp a b (upd 1) s l))], []⟩)
  none) := by kernel_rfl
def U_step_upd1_0 (l : List Int) (s u a b n i : Int) : LT :=
  (.br (decide (i < n))
    (.br (Int.tmod (IntKind.wrap .i64 (u + i)) 2 == a)
     (.br (decide (0 ≤ i ∧ i < (↑(List.length l) : Int)))
      (.br (decide (Int.toNat i < List.length l))
       (.br (lnOk l && inr 0 4096 i && fitB 36028797018963968 l)
        (.br (decide (0 ≤ i ∧ i < (↑(List.length l) : Int)))
         (.br (decide (Int.toNat i < List.length l))
          (.leaf Ex.normal [.one (.int .i64 a), .one (.int .i64 b), .one (.fn 103 [0]), .one (.ptr 2 0), .one (.int .i64 n), .one (.int .i64 (IntKind.wrap .i64 (i + 1)))] [some (.box [.row 1, .int .i64 s]), some (.arr 3 (.int .i64) (List.set l (Int.toNat i) (IntKind.wrap .i64 (gI l (Int.toNat i) + IntKind.wrap .i64 (b * upd 1 l i))))), some (.box [.row 1, .int .i64 u])])
          .no)
         .no)
        .no)
       .no)
      .no)
     (.leaf Ex.normal [.one (.int .i64 a), .one (.int .i64 b), .one (.fn 103 [0]), .one (.ptr 2 0), .one (.int .i64 n), .one (.int .i64 (IntKind.wrap .i64 (i + 1)))] [some (.box [.row 1, .int .i64 s]), some (.arr 3 (.int .i64) l), some (.box [.row 1, .int .i64 u])]))
    (.leaf (Ex.exit 0) [] [some (.box [.row 1, .int .i64 s]), some (.arr 3 (.int .i64) l)]))
def T_step_upd1_0 : TT := fun vs bl => (D_step_upd1_0 vs bl fun l s u a b n i => some (U_step_upd1_0 l s u a b n i)).getD .no
theorem tu_step_upd1_0 (l : List Int) (s u a b n i : Int) : T_step_upd1_0 [.one (.int .i64 a), .one (.int .i64 b), .one (.fn 103 [0]), .one (.ptr 2 0), .one (.int .i64 n), .one (.int .i64 i)] [some (.box [.row 1, .int .i64 s]), some (.arr 3 (.int .i64) l), some (.box [.row 1, .int .i64 u])] = U_step_upd1_0 l s u a b n i := by kernel_rfl
theorem b_step_upd1_0 (l : List Int) (s u a b n i : Int) (Kc : KT) : exec Try.prog t_step_upd1 (annOf []) l_step_upd1 20 2 (loopOf Try.f88 0) (unp 35 [1, 2, 3, 4, 11, 12] [.one (.int .i64 a), .one (.int .i64 b), .one (.fn 103 [0]), .one (.ptr 2 0), .one (.int .i64 n), .one (.int .i64 i)] [some (.box [.row 1, .int .i64 s]), some (.arr 3 (.int .i64) l), some (.box [.row 1, .int .i64 u])]) (endc 2 35 [1, 2, 3, 4, 11, 12] (kxOf [] []) Kc) =
  (U_step_upd1_0 l s u a b n i).runc Kc := by kernel_rfl
def t_step_upd2 : FuncId → Option Summ := tabOf [(104, G_line_upd2)]
def l_step_upd2 : Nat → Option LSumm := ltOf [(2, ⟨2, 35, [1, 2, 3, 4, 11, 12], (kxOf [] []), S_step_upd2_0⟩)]
theorem e_step_upd2 (l : List Int) (s u a b : Int) : funR Try.prog t_step_upd2 (annOf []) l_step_upd2 20 Try.f88 [.agg [.row 1, .int .i64 u], .one (.int .i64 a), .one (.int .i64 b), .one (.fn 104 [0])] [.box [.row 1, .int .i64 s], .arr 3 (.int .i64) l] =
  (ite2 (k_step_upd2_0 l s u a b (↑(List.length l) : Int) 0)
  (some ⟨.tup [], [some (.box [.row 1, .int .i64 s]), some (.arr 3 (.int .i64) (stp a b (upd 2) s l))], []⟩)
  none) := by kernel_rfl
def U_step_upd2_0 (l : List Int) (s u a b n i : Int) : LT :=
  (.br (decide (i < n))
    (.br (Int.tmod (IntKind.wrap .i64 (u + i)) 2 == a)
     (.br (decide (0 ≤ i ∧ i < (↑(List.length l) : Int)))
      (.br (decide (Int.toNat i < List.length l))
       (.br (lnOk l && inr 0 4096 i && fitB 36028797018963968 l)
        (.br (decide (0 ≤ i ∧ i < (↑(List.length l) : Int)))
         (.br (decide (Int.toNat i < List.length l))
          (.leaf Ex.normal [.one (.int .i64 a), .one (.int .i64 b), .one (.fn 104 [0]), .one (.ptr 2 0), .one (.int .i64 n), .one (.int .i64 (IntKind.wrap .i64 (i + 1)))] [some (.box [.row 1, .int .i64 s]), some (.arr 3 (.int .i64) (List.set l (Int.toNat i) (IntKind.wrap .i64 (gI l (Int.toNat i) + IntKind.wrap .i64 (b * upd 2 l i))))), some (.box [.row 1, .int .i64 u])])
          .no)
         .no)
        .no)
       .no)
      .no)
     (.leaf Ex.normal [.one (.int .i64 a), .one (.int .i64 b), .one (.fn 104 [0]), .one (.ptr 2 0), .one (.int .i64 n), .one (.int .i64 (IntKind.wrap .i64 (i + 1)))] [some (.box [.row 1, .int .i64 s]), some (.arr 3 (.int .i64) l), some (.box [.row 1, .int .i64 u])]))
    (.leaf (Ex.exit 0) [] [some (.box [.row 1, .int .i64 s]), some (.arr 3 (.int .i64) l)]))
def T_step_upd2_0 : TT := fun vs bl => (D_step_upd2_0 vs bl fun l s u a b n i => some (U_step_upd2_0 l s u a b n i)).getD .no
theorem tu_step_upd2_0 (l : List Int) (s u a b n i : Int) : T_step_upd2_0 [.one (.int .i64 a), .one (.int .i64 b), .one (.fn 104 [0]), .one (.ptr 2 0), .one (.int .i64 n), .one (.int .i64 i)] [some (.box [.row 1, .int .i64 s]), some (.arr 3 (.int .i64) l), some (.box [.row 1, .int .i64 u])] = U_step_upd2_0 l s u a b n i := by kernel_rfl
theorem b_step_upd2_0 (l : List Int) (s u a b n i : Int) (Kc : KT) : exec Try.prog t_step_upd2 (annOf []) l_step_upd2 20 2 (loopOf Try.f88 0) (unp 35 [1, 2, 3, 4, 11, 12] [.one (.int .i64 a), .one (.int .i64 b), .one (.fn 104 [0]), .one (.ptr 2 0), .one (.int .i64 n), .one (.int .i64 i)] [some (.box [.row 1, .int .i64 s]), some (.arr 3 (.int .i64) l), some (.box [.row 1, .int .i64 u])]) (endc 2 35 [1, 2, 3, 4, 11, 12] (kxOf [] []) Kc) =
  (U_step_upd2_0 l s u a b n i).runc Kc := by kernel_rfl
def t_lift_Forward : FuncId → Option Summ := tabOf [(79, G_lift_known), (87, G_lift_bounded), (88, G_line_step), (89, G_line_predict), (90, G_line_update), (91, G_ext_Split)]
def l_lift_Forward : Nat → Option LSumm := ltOf []
theorem e_lift_Forward (l : List Int) (s k : Int) : funR Try.prog t_lift_Forward (annOf []) l_lift_Forward 20 Try.f68 [.one (.lst (.int .i64) l), .one (.int .i64 s), .one (.int .i64 k)] [] =
  (ite2 (!inr 1 3 k)
  (some ⟨.tup [(false, [.row 0]), (false, [.row 1]), (false, [.int .i64 3])], [], [.arr 3 (.int .i64) ([] : List (Int)), .arr 3 (.int .i64) ([] : List (Int))]⟩)
  (ite2 (decide (s < 0))
   (some ⟨.tup [(false, [.row 0]), (false, [.row 1]), (false, [.int .i64 2])], [], [.arr 3 (.int .i64) ([] : List (Int)), .arr 3 (.int .i64) ([] : List (Int))]⟩)
   (ite2 (decide (s > 4096))
    (some ⟨.tup [(false, [.row 0]), (false, [.row 1]), (false, [.int .i64 2])], [], [.arr 3 (.int .i64) ([] : List (Int)), .arr 3 (.int .i64) ([] : List (Int))]⟩)
    (ite2 (decide ((↑(List.length l) : Int) > 4096))
     (some ⟨.tup [(false, [.row 0]), (false, [.row 1]), (false, [.int .i64 2])], [], [.arr 3 (.int .i64) ([] : List (Int)), .arr 3 (.int .i64) ([] : List (Int))]⟩)
     (ite2 (small (List.length l) && true)
      (ite2 (!fitB 281474976710656 l)
       (some ⟨.tup [(false, [.row 0]), (false, [.row 1]), (false, [.int .i64 2])], [], [.arr 3 (.int .i64) ([] : List (Int)), .arr 3 (.int .i64) ([] : List (Int))]⟩)
       (ite2 (decide (List.length l * 9 ≤ 140737488355328))
        (ite2 (decide ((↑(List.length l) : Int) > 1))
         (ite2 (decide (s = s) && (lnOk l && inr 0 4096 s && fitB 11000000000000000 l && true) && okf (pfn k))
          (ite2 (decide (s = s) && (lnOk (stp 1 (-1) (ffn (pfn k)) s l) && inr 0 4096 s && fitB 11000000000000000 (stp 1 (-1) (ffn (pfn k)) s l) && true) && okf (ufn k))
           (ite2 (small (List.length (stp 0 1 (ffn (ufn k)) s (stp 1 (-1) (ffn (pfn k)) s l))))
            (some ⟨.tup [(false, [.row 0]), (false, [.row 1]), (false, [.int .i64 (spl (stp 0 1 (ffn (ufn k)) s (stp 1 (-1) (ffn (pfn k)) s l)) s).2.2])], [], [.arr 3 (.int .i64) (spl (stp 0 1 (ffn (ufn k)) s (stp 1 (-1) (ffn (pfn k)) s l)) s).1, .arr 3 (.int .i64) (spl (stp 0 1 (ffn (ufn k)) s (stp 1 (-1) (ffn (pfn k)) s l)) s).2.1]⟩)
            none)
           none)
          none)
         (ite2 (small (List.length l))
          (some ⟨.tup [(false, [.row 0]), (false, [.row 1]), (false, [.int .i64 (spl l s).2.2])], [], [.arr 3 (.int .i64) (spl l s).1, .arr 3 (.int .i64) (spl l s).2.1]⟩)
          none))
        none))
      none))))) := by kernel_rfl
def t_lift_Inverse : FuncId → Option Summ := tabOf [(79, G_lift_known), (87, G_lift_bounded), (88, G_line_step), (89, G_line_predict), (90, G_line_update), (97, G_ext_Join)]
def l_lift_Inverse : Nat → Option LSumm := ltOf []
theorem e_lift_Inverse (l m : List Int) (s k : Int) : funR Try.prog t_lift_Inverse (annOf []) l_lift_Inverse 20 Try.f83 [.one (.lst (.int .i64) l), .one (.lst (.int .i64) m), .one (.int .i64 s), .one (.int .i64 k)] [] =
  (ite2 (!inr 1 3 k)
  (some ⟨.tup [(false, [.row 0]), (false, [.int .i64 3])], [], [.arr 3 (.int .i64) ([] : List (Int))]⟩)
  (ite2 (decide (s < 0))
   (some ⟨.tup [(false, [.row 0]), (false, [.int .i64 2])], [], [.arr 3 (.int .i64) ([] : List (Int))]⟩)
   (ite2 (decide (s > 4096))
    (some ⟨.tup [(false, [.row 0]), (false, [.int .i64 2])], [], [.arr 3 (.int .i64) ([] : List (Int))]⟩)
    (ite2 (decide ((↑(List.length l) : Int) > 4096))
     (some ⟨.tup [(false, [.row 0]), (false, [.int .i64 2])], [], [.arr 3 (.int .i64) ([] : List (Int))]⟩)
     (ite2 (decide ((↑(List.length m) : Int) > IntKind.wrap .i64 (4096 - (↑(List.length l) : Int))))
      (some ⟨.tup [(false, [.row 0]), (false, [.int .i64 2])], [], [.arr 3 (.int .i64) ([] : List (Int))]⟩)
      (ite2 (small (List.length l) && true)
       (ite2 (!fitB 1125899906842624 l)
        (some ⟨.tup [(false, [.row 0]), (false, [.int .i64 2])], [], [.arr 3 (.int .i64) ([] : List (Int))]⟩)
        (ite2 (small (List.length m) && true)
         (ite2 (!fitB 1125899906842624 m)
          (some ⟨.tup [(false, [.row 0]), (false, [.int .i64 2])], [], [.arr 3 (.int .i64) ([] : List (Int))]⟩)
          (ite2 (small (List.length l) && small (List.length m))
           (ite2 ((jn l m s).2 != 0)
            (some ⟨.tup [(false, [.row 0]), (false, [.int .i64 (jn l m s).2])], [], [.arr 3 (.int .i64) ([] : List (Int))]⟩)
            (ite2 (decide ((↑(List.length (jn l m s).1) : Int) > 1))
             (ite2 (decide (s = s) && (lnOk (jn l m s).1 && inr 0 4096 s && fitB 11000000000000000 (jn l m s).1 && true) && okf (ufn k))
              (ite2 (decide (s = s) && (lnOk (stp 0 (-1) (ffn (ufn k)) s (jn l m s).1) && inr 0 4096 s && fitB 11000000000000000 (stp 0 (-1) (ffn (ufn k)) s (jn l m s).1) && true) && okf (pfn k))
               (some ⟨.tup [(false, [.row 0]), (false, [.int .i64 0])], [], [.arr 3 (.int .i64) (stp 1 1 (ffn (pfn k)) s (stp 0 (-1) (ffn (ufn k)) s (jn l m s).1))]⟩)
               none)
              none)
             (some ⟨.tup [(false, [.row 0]), (false, [.int .i64 0])], [], [.arr 3 (.int .i64) (jn l m s).1]⟩)))
           none))
         none))
       none)))))) := by kernel_rfl
def t_ref04_Valid : FuncId → Option Summ := tabOf []
def l_ref04_Valid : Nat → Option LSumm := ltOf []
theorem e_ref04_Valid (k : Int) : funR Try.prog t_ref04_Valid (annOf []) l_ref04_Valid 20 Try.f80 [.one (.int .i64 k)] [] =
  (ite2 (k == 1)
  (some ⟨.one (.bool true), [], []⟩)
  (ite2 (k == 2)
   (some ⟨.one (.bool true), [], []⟩)
   (some ⟨.one (.bool (k == 3)), [], []⟩))) := by kernel_rfl
def t_ref04_Few : FuncId → Option Summ := tabOf []
def l_ref04_Few : Nat → Option LSumm := ltOf [(2, ⟨0, 23, [1, 7, 8, 9], (kxOf [] [4]), S_ref04_Few_0⟩)]
theorem e_ref04_Few (l : List Int) (b : Int) : funR Try.prog t_ref04_Few (annOf []) l_ref04_Few 20 Try.f92 [.one (.lst (.int .i64) l), .one (.int .i64 b)] [] =
  (ite2 (k_ref04_Few_0 b l (↑(List.length l) : Int) 0)
  (ite2 (p_ref04_Few_0 b l)
   (some ⟨.one (.bool true), [], []⟩)
   (some ⟨.one (.bool false), [], []⟩))
  none) := by kernel_rfl
def U_ref04_Few_0 (b : Int) (l : List Int) (n i : Int) : LT :=
  (.br (decide (i < n))
    (.br (decide (0 ≤ i ∧ i < (↑(List.length l) : Int)))
     (.br (decide (gI l (Int.toNat i) > b))
      (.leaf Ex.ret [.one (.bool false)] [])
      (.br (decide (gI l (Int.toNat i) < IntKind.wrap .i64 (0 - b)))
       (.leaf Ex.ret [.one (.bool false)] [])
       (.leaf Ex.normal [.one (.int .i64 b), .one (.lst (.int .i64) l), .one (.int .i64 n), .one (.int .i64 (IntKind.wrap .i64 (i + 1)))] [])))
     .no)
    (.leaf (Ex.exit 0) [] []))
def T_ref04_Few_0 : TT := fun vs bl => (D_ref04_Few_0 vs bl fun b l n i => some (U_ref04_Few_0 b l n i)).getD .no
theorem tu_ref04_Few_0 (b : Int) (l : List Int) (n i : Int) : T_ref04_Few_0 [.one (.int .i64 b), .one (.lst (.int .i64) l), .one (.int .i64 n), .one (.int .i64 i)] [] = U_ref04_Few_0 b l n i := by kernel_rfl
theorem b_ref04_Few_0 (b : Int) (l : List Int) (n i : Int) (Kc : KT) : exec Try.prog t_ref04_Few (annOf []) l_ref04_Few 20 0 (loopOf Try.f92 0) (unp 23 [1, 7, 8, 9] [.one (.int .i64 b), .one (.lst (.int .i64) l), .one (.int .i64 n), .one (.int .i64 i)] []) (endc 0 23 [1, 7, 8, 9] (kxOf [] [4]) Kc) =
  (U_ref04_Few_0 b l n i).runc Kc := by kernel_rfl
def t_ref04_FloorDiv : FuncId → Option Summ := tabOf []
def l_ref04_FloorDiv : Nat → Option LSumm := ltOf []
theorem e_ref04_FloorDiv (a b : Int) : funR Try.prog t_ref04_FloorDiv (annOf []) l_ref04_FloorDiv 20 Try.f107 [.one (.int .i64 a), .one (.int .i64 b)] [] =
  (ite2 (!decide (b = 0))
  (ite2 (!decide (b = 0))
   (ite2 (decide (Int.tmod a b < 0))
    (some ⟨.one (.int .i64 (IntKind.wrap .i64 (IntKind.wrap .i64 (Int.tdiv a b) - 1))), [], []⟩)
    (some ⟨.one (.int .i64 (IntKind.wrap .i64 (Int.tdiv a b))), [], []⟩))
   none)
  none) := by kernel_rfl
def t_ref04_at : FuncId → Option Summ := tabOf [(110, G_ref03_Mirror)]
def l_ref04_at : Nat → Option LSumm := ltOf []
theorem e_ref04_at (l : List Int) (s i : Int) : funR Try.prog t_ref04_at (annOf []) l_ref04_at 20 Try.f106 [.one (.lst (.int .i64) l), .one (.int .i64 s), .one (.int .i64 i)] [] =
  (ite2 (decide (0 ≤ IntKind.wrap .i64 (mir i s (IntKind.wrap .i64 (s + (↑(List.length l) : Int))) - s) ∧ IntKind.wrap .i64 (mir i s (IntKind.wrap .i64 (s + (↑(List.length l) : Int))) - s) < (↑(List.length l) : Int)))
  (some ⟨.one (.int .i64 (gI l (Int.toNat (IntKind.wrap .i64 (mir i s (IntKind.wrap .i64 (s + (↑(List.length l) : Int))) - s))))), [], []⟩)
  none) := by kernel_rfl
def t_ref04_predict : FuncId → Option Summ := tabOf [(106, G_ref04_at), (107, G_ref04_FloorDiv)]
def l_ref04_predict : Nat → Option LSumm := ltOf []
theorem e_ref04_predict (l : List Int) (s i k : Int) : funR Try.prog t_ref04_predict (annOf []) l_ref04_predict 20 Try.f93 [.one (.lst (.int .i64) l), .one (.int .i64 s), .one (.int .i64 i), .one (.int .i64 k)] [] =
  (ite2 (k == 1)
  (ite2 (lnOk l && inr 0 4096 s && inr (-100000) 100000 (IntKind.wrap .i64 (i - 1)))
   (some ⟨.one (.int .i64 (at_ l (IntKind.wrap .i64 (i - 1) - s))), [], []⟩)
   none)
  (ite2 (k == 2)
   (ite2 (lnOk l && inr 0 4096 s && inr (-100000) 100000 (IntKind.wrap .i64 (i - 1)))
    (ite2 (lnOk l && inr 0 4096 s && inr (-100000) 100000 (IntKind.wrap .i64 (i + 1)))
     (ite2 (true && inr (-4611686018427387904) 4611686018427387904 (IntKind.wrap .i64 (at_ l (IntKind.wrap .i64 (i - 1) - s) + at_ l (IntKind.wrap .i64 (i + 1) - s))))
      (some ⟨.one (.int .i64 (IntKind.wrap .i64 (at_ l (IntKind.wrap .i64 (i - 1) - s) + at_ l (IntKind.wrap .i64 (i + 1) - s)) / 2)), [], []⟩)
      none)
     none)
    none)
   (ite2 (lnOk l && inr 0 4096 s && inr (-100000) 100000 (IntKind.wrap .i64 (i - 1)))
    (ite2 (lnOk l && inr 0 4096 s && inr (-100000) 100000 (IntKind.wrap .i64 (i + 1)))
     (ite2 (lnOk l && inr 0 4096 s && inr (-100000) 100000 (IntKind.wrap .i64 (i - 3)))
      (ite2 (lnOk l && inr 0 4096 s && inr (-100000) 100000 (IntKind.wrap .i64 (i + 3)))
       (ite2 (true && inr (-4611686018427387904) 4611686018427387904 (IntKind.wrap .i64 (IntKind.wrap .i64 (IntKind.wrap .i64 (9 * IntKind.wrap .i64 (at_ l (IntKind.wrap .i64 (i - 1) - s) + at_ l (IntKind.wrap .i64 (i + 1) - s))) - IntKind.wrap .i64 (at_ l (IntKind.wrap .i64 (i - 3) - s) + at_ l (IntKind.wrap .i64 (i + 3) - s))) + 8)))
        (some ⟨.one (.int .i64 (IntKind.wrap .i64 (IntKind.wrap .i64 (IntKind.wrap .i64 (9 * IntKind.wrap .i64 (at_ l (IntKind.wrap .i64 (i - 1) - s) + at_ l (IntKind.wrap .i64 (i + 1) - s))) - IntKind.wrap .i64 (at_ l (IntKind.wrap .i64 (i - 3) - s) + at_ l (IntKind.wrap .i64 (i + 3) - s))) + 8) / 16)), [], []⟩)
        none)
       none)
      none)
     none)
    none))) := by kernel_rfl
def t_ref04_update : FuncId → Option Summ := tabOf [(106, G_ref04_at), (107, G_ref04_FloorDiv)]
def l_ref04_update : Nat → Option LSumm := ltOf []
theorem e_ref04_update (l : List Int) (s i k : Int) : funR Try.prog t_ref04_update (annOf []) l_ref04_update 20 Try.f94 [.one (.lst (.int .i64) l), .one (.int .i64 s), .one (.int .i64 i), .one (.int .i64 k)] [] =
  (ite2 (k == 1)
  (ite2 (lnOk l && inr 0 4096 s && inr (-100000) 100000 (IntKind.wrap .i64 (i + 1)))
   (ite2 (true && inr (-4611686018427387904) 4611686018427387904 (at_ l (IntKind.wrap .i64 (i + 1) - s)))
    (some ⟨.one (.int .i64 (at_ l (IntKind.wrap .i64 (i + 1) - s) / 2)), [], []⟩)
    none)
   none)
  (ite2 (lnOk l && inr 0 4096 s && inr (-100000) 100000 (IntKind.wrap .i64 (i - 1)))
   (ite2 (lnOk l && inr 0 4096 s && inr (-100000) 100000 (IntKind.wrap .i64 (i + 1)))
    (ite2 (true && inr (-4611686018427387904) 4611686018427387904 (IntKind.wrap .i64 (IntKind.wrap .i64 (at_ l (IntKind.wrap .i64 (i - 1) - s) + at_ l (IntKind.wrap .i64 (i + 1) - s)) + 2)))
     (some ⟨.one (.int .i64 (IntKind.wrap .i64 (IntKind.wrap .i64 (at_ l (IntKind.wrap .i64 (i - 1) - s) + at_ l (IntKind.wrap .i64 (i + 1) - s)) + 2) / 4)), [], []⟩)
     none)
    none)
   none)) := by kernel_rfl
def t_ref04_Inverse : FuncId → Option Summ := tabOf [(80, G_ref04_Valid), (92, G_ref04_Few), (93, G_ref04_predict), (94, G_ref04_update), (98, G_ref03_Join)]
def l_ref04_Inverse : Nat → Option LSumm := ltOf [(12, ⟨0, 121, [2, 3, 10, 12, 70, 71], (kxOf [2, 3, 10] [8, 9]), S_ref04_Inverse_0⟩), (19, ⟨0, 121, [2, 3, 10, 12, 97, 98], (kxOf [10] [8, 9]), S_ref04_Inverse_1⟩)]
theorem e_ref04_Inverse (l m : List Int) (s k : Int) : funR Try.prog t_ref04_Inverse (annOf []) l_ref04_Inverse 20 Try.f85 [.one (.lst (.int .i64) l), .one (.lst (.int .i64) m), .one (.int .i64 s), .one (.int .i64 k)] [] =
  (ite2 (!inr 1 3 k)
  (some ⟨.tup [(false, [.row 0]), (false, [.int .i64 3])], [], [.arr 3 (.int .i64) ([] : List (Int))]⟩)
  (ite2 (decide (s < 0))
   (some ⟨.tup [(false, [.row 0]), (false, [.int .i64 2])], [], [.arr 3 (.int .i64) ([] : List (Int))]⟩)
   (ite2 (decide (s > 4096))
    (some ⟨.tup [(false, [.row 0]), (false, [.int .i64 2])], [], [.arr 3 (.int .i64) ([] : List (Int))]⟩)
    (ite2 (decide ((↑(List.length l) : Int) > 4096))
     (some ⟨.tup [(false, [.row 0]), (false, [.int .i64 2])], [], [.arr 3 (.int .i64) ([] : List (Int))]⟩)
     (ite2 (decide ((↑(List.length m) : Int) > 4096))
      (some ⟨.tup [(false, [.row 0]), (false, [.int .i64 2])], [], [.arr 3 (.int .i64) ([] : List (Int))]⟩)
      (ite2 (decide (IntKind.wrap .i64 ((↑(List.length l) : Int) + (↑(List.length m) : Int)) > 4096))
       (some ⟨.tup [(false, [.row 0]), (false, [.int .i64 2])], [], [.arr 3 (.int .i64) ([] : List (Int))]⟩)
       (ite2 (small (List.length l) && true)
        (ite2 (!fitB 1125899906842624 l)
         (some ⟨.tup [(false, [.row 0]), (false, [.int .i64 2])], [], [.arr 3 (.int .i64) ([] : List (Int))]⟩)
         (ite2 (small (List.length m) && true)
          (ite2 (!fitB 1125899906842624 m)
           (some ⟨.tup [(false, [.row 0]), (false, [.int .i64 2])], [], [.arr 3 (.int .i64) ([] : List (Int))]⟩)
           (ite2 (small (List.length l) && small (List.length m))
            (ite2 ((jn l m s).2 != 0)
             (some ⟨.tup [(false, [.row 0]), (false, [.int .i64 (jn l m s).2])], [], [.arr 3 (.int .i64) (jn l m s).1]⟩)
             (ite2 (decide ((↑(List.length (jn l m s).1) : Int) < 2))
              (some ⟨.tup [(false, [.row 0]), (false, [.int .i64 (jn l m s).2])], [], [.arr 3 (.int .i64) (jn l m s).1]⟩)
              (ite2 (decide ((0 + List.length (jn l m s).1) * 9 ≤ 140737488355328))
               (ite2 (k_ref04_Inverse_0 s k (↑(List.length (jn l m s).1) : Int) 0 (jn l m s).1 ([] ++ (jn l m s).1))
                (ite2 (decide ((0 + List.length (stp 0 (-1) (upd k) s ([] ++ (jn l m s).1))) * 9 ≤ 140737488355328))
                 (ite2 (k_ref04_Inverse_1 s k (↑(List.length (stp 0 (-1) (upd k) s ([] ++ (jn l m s).1))) : Int) 0 (stp 0 (-1) (upd k) s ([] ++ (jn l m s).1)) ([] ++ stp 0 (-1) (upd k) s ([] ++ (jn l m s).1)))
                  (some ⟨.tup [(false, [.row 0]), (false, [.int .i64 0])], [], [.arr 3 (.int .i64) (stp 1 1 (prd k) s ([] ++ stp 0 (-1) (upd k) s ([] ++ (jn l m s).1)))]⟩)
                  none)
                 none)
                none)
               none)))
            none))
          none))
        none))))))) := by kernel_rfl
def U_ref04_Inverse_0 (s q n j : Int) (c y : List Int) : LT :=
  (.br (decide (j < n))
    (.br (Int.tmod (IntKind.wrap .i64 (s + j)) 2 == 0)
     (.br (decide (0 ≤ j ∧ j < (↑(List.length c) : Int)))
      (.br (decide (Int.toNat j < List.length c))
       (.br (lnOk y && inr 0 4096 s && (decide (s ≤ IntKind.wrap .i64 (s + j)) && decide (IntKind.wrap .i64 (s + j) < s + (↑(List.length y) : Int))) && fitB 36028797018963968 y)
        (.br (decide (0 ≤ j ∧ j < (↑(List.length c) : Int)))
         (.br (decide (Int.toNat j < List.length c))
          (.leaf Ex.normal [.one (.int .i64 s), .one (.int .i64 q), .one (.row 0), .one (.row 1), .one (.int .i64 n), .one (.int .i64 (IntKind.wrap .i64 (j + 1)))] [some (.arr 3 (.int .i64) (List.set c (Int.toNat j) (IntKind.wrap .i64 (gI c (Int.toNat j) - upd q y (IntKind.wrap .i64 (s + j) - s))))), some (.arr 3 (.int .i64) y)])
          .no)
         .no)
        .no)
       .no)
      .no)
     (.leaf Ex.normal [.one (.int .i64 s), .one (.int .i64 q), .one (.row 0), .one (.row 1), .one (.int .i64 n), .one (.int .i64 (IntKind.wrap .i64 (j + 1)))] [some (.arr 3 (.int .i64) c), some (.arr 3 (.int .i64) y)]))
    (.leaf (Ex.exit 0) [.one (.int .i64 s), .one (.int .i64 q), .one (.row 0)] [some (.arr 3 (.int .i64) c)]))
def T_ref04_Inverse_0 : TT := fun vs bl => (D_ref04_Inverse_0 vs bl fun s q n j c y => some (U_ref04_Inverse_0 s q n j c y)).getD .no
theorem tu_ref04_Inverse_0 (s q n j : Int) (c y : List Int) : T_ref04_Inverse_0 [.one (.int .i64 s), .one (.int .i64 q), .one (.row 0), .one (.row 1), .one (.int .i64 n), .one (.int .i64 j)] [some (.arr 3 (.int .i64) c), some (.arr 3 (.int .i64) y)] = U_ref04_Inverse_0 s q n j c y := by kernel_rfl
theorem b_ref04_Inverse_0 (s q n j : Int) (c y : List Int) (Kc : KT) : exec Try.prog t_ref04_Inverse (annOf []) l_ref04_Inverse 20 0 (loopOf Try.f85 0) (unp 121 [2, 3, 10, 12, 70, 71] [.one (.int .i64 s), .one (.int .i64 q), .one (.row 0), .one (.row 1), .one (.int .i64 n), .one (.int .i64 j)] [some (.arr 3 (.int .i64) c), some (.arr 3 (.int .i64) y)]) (endc 0 121 [2, 3, 10, 12, 70, 71] (kxOf [2, 3, 10] [8, 9]) Kc) =
  (U_ref04_Inverse_0 s q n j c y).runc Kc := by kernel_rfl
def U_ref04_Inverse_1 (s q n j : Int) (c y : List Int) : LT :=
  (.br (decide (j < n))
    (.br (Int.tmod (IntKind.wrap .i64 (s + j)) 2 == 1)
     (.br (decide (0 ≤ j ∧ j < (↑(List.length c) : Int)))
      (.br (decide (Int.toNat j < List.length c))
       (.br (lnOk y && inr 0 4096 s && (decide (s ≤ IntKind.wrap .i64 (s + j)) && decide (IntKind.wrap .i64 (s + j) < s + (↑(List.length y) : Int))) && fitB 36028797018963968 y)
        (.br (decide (0 ≤ j ∧ j < (↑(List.length c) : Int)))
         (.br (decide (Int.toNat j < List.length c))
          (.leaf Ex.normal [.one (.int .i64 s), .one (.int .i64 q), .one (.row 0), .one (.row 1), .one (.int .i64 n), .one (.int .i64 (IntKind.wrap .i64 (j + 1)))] [some (.arr 3 (.int .i64) (List.set c (Int.toNat j) (IntKind.wrap .i64 (gI c (Int.toNat j) + prd q y (IntKind.wrap .i64 (s + j) - s))))), some (.arr 3 (.int .i64) y)])
          .no)
         .no)
        .no)
       .no)
      .no)
     (.leaf Ex.normal [.one (.int .i64 s), .one (.int .i64 q), .one (.row 0), .one (.row 1), .one (.int .i64 n), .one (.int .i64 (IntKind.wrap .i64 (j + 1)))] [some (.arr 3 (.int .i64) c), some (.arr 3 (.int .i64) y)]))
    (.leaf (Ex.exit 2) [.one (.row 0)] [some (.arr 3 (.int .i64) c)]))
def T_ref04_Inverse_1 : TT := fun vs bl => (D_ref04_Inverse_1 vs bl fun s q n j c y => some (U_ref04_Inverse_1 s q n j c y)).getD .no
theorem tu_ref04_Inverse_1 (s q n j : Int) (c y : List Int) : T_ref04_Inverse_1 [.one (.int .i64 s), .one (.int .i64 q), .one (.row 0), .one (.row 1), .one (.int .i64 n), .one (.int .i64 j)] [some (.arr 3 (.int .i64) c), some (.arr 3 (.int .i64) y)] = U_ref04_Inverse_1 s q n j c y := by kernel_rfl
theorem b_ref04_Inverse_1 (s q n j : Int) (c y : List Int) (Kc : KT) : exec Try.prog t_ref04_Inverse (annOf []) l_ref04_Inverse 20 0 (loopOf Try.f85 1) (unp 121 [2, 3, 10, 12, 97, 98] [.one (.int .i64 s), .one (.int .i64 q), .one (.row 0), .one (.row 1), .one (.int .i64 n), .one (.int .i64 j)] [some (.arr 3 (.int .i64) c), some (.arr 3 (.int .i64) y)]) (endc 0 121 [2, 3, 10, 12, 97, 98] (kxOf [10] [8, 9]) Kc) =
  (U_ref04_Inverse_1 s q n j c y).runc Kc := by kernel_rfl
def t_pl_width : FuncId → Option Summ := tabOf []
def l_pl_width : Nat → Option LSumm := ltOf []
theorem e_pl_width (a b c d : Int) (l : List Int) : funR Try.prog t_pl_width (annOf []) l_pl_width 20 Try.f86 [.agg [.int .i64 a, .int .i64 b, .int .i64 c, .int .i64 d, .lst (.int .i64) l]] [] =
  (some ⟨.one (.int .i64 (IntKind.wrap .i64 (c - a))), [], []⟩) := by kernel_rfl
def t_pl_Valid : FuncId → Option Summ := tabOf [(46, G_rect_Valid), (60, G_rect_Area)]
def l_pl_Valid : Nat → Option LSumm := ltOf []
theorem e_pl_Valid (a b c d : Int) (l : List Int) : funR Try.prog t_pl_Valid (annOf []) l_pl_Valid 20 Try.f39 [.agg [.int .i64 a, .int .i64 b, .int .i64 c, .int .i64 d, .lst (.int .i64) l]] [] =
  (ite2 (valid a b c d)
  (ite2 (decide (area a b c d ≤ 1048576))
   (some ⟨.one (.bool ((↑(List.length l) : Int) == area a b c d)), [], []⟩)
   (some ⟨.one (.bool false), [], []⟩))
  (some ⟨.one (.bool false), [], []⟩)) := by kernel_rfl
def t_ref02_Valid : FuncId → Option Summ := tabOf [(49, G_ref01_Valid), (63, G_ref01_Area)]
def l_ref02_Valid : Nat → Option LSumm := ltOf []
theorem e_ref02_Valid (a b c d : Int) (l : List Int) : funR Try.prog t_ref02_Valid (annOf []) l_ref02_Valid 20 Try.f42 [.agg [.int .i64 a, .int .i64 b, .int .i64 c, .int .i64 d, .lst (.int .i64) l]] [] =
  (ite2 (valid a b c d)
  (ite2 (decide (area a b c d ≤ 1048576))
   (some ⟨.one (.bool ((↑(List.length l) : Int) == area a b c d)), [], []⟩)
   (some ⟨.one (.bool false), [], []⟩))
  (some ⟨.one (.bool false), [], []⟩)) := by kernel_rfl
def t_dwt_known : FuncId → Option Summ := tabOf [(40, G_lift_Margin)]
def l_dwt_known : Nat → Option LSumm := ltOf []
theorem e_dwt_known (k : Int) : funR Try.prog t_dwt_known (annOf []) l_dwt_known 20 Try.f65 [.one (.int .i64 k)] [] =
  (some ⟨.one (.bool (decide (marg k > 0))), [], []⟩) := by kernel_rfl
def t_ref05_Known : FuncId → Option Summ := tabOf []
def l_ref05_Known : Nat → Option LSumm := ltOf []
theorem e_ref05_Known (k : Int) : funR Try.prog t_ref05_Known (annOf []) l_ref05_Known 20 Try.f43 [.one (.int .i64 k)] [] =
  (ite2 (k == 1)
  (some ⟨.one (.bool true), [], []⟩)
  (ite2 (k == 2)
   (some ⟨.one (.bool true), [], []⟩)
   (some ⟨.one (.bool (k == 3)), [], []⟩))) := by kernel_rfl
def t_dwt_exceeds : FuncId → Option Summ := tabOf []
def l_dwt_exceeds : Nat → Option LSumm := ltOf [(2, ⟨0, 23, [1, 7, 8, 9], (kxOf [] [4]), S_dwt_exceeds_0⟩)]
theorem e_dwt_exceeds (l : List Int) (b : Int) : funR Try.prog t_dwt_exceeds (annOf []) l_dwt_exceeds 20 Try.f66 [.one (.lst (.int .i64) l), .one (.int .i64 b)] [] =
  (ite2 (k_dwt_exceeds_0 b l (↑(List.length l) : Int) 0)
  (ite2 (p_dwt_exceeds_0 b l)
   (some ⟨.one (.bool false), [], []⟩)
   (some ⟨.one (.bool true), [], []⟩))
  none) := by kernel_rfl
def U_dwt_exceeds_0 (b : Int) (l : List Int) (n i : Int) : LT :=
  (.br (decide (i < n))
    (.br (decide (0 ≤ i ∧ i < (↑(List.length l) : Int)))
     (.br (decide (gI l (Int.toNat i) > b))
      (.leaf Ex.ret [.one (.bool true)] [])
      (.br (decide (gI l (Int.toNat i) < IntKind.wrap .i64 (0 - b)))
       (.leaf Ex.ret [.one (.bool true)] [])
       (.leaf Ex.normal [.one (.int .i64 b), .one (.lst (.int .i64) l), .one (.int .i64 n), .one (.int .i64 (IntKind.wrap .i64 (i + 1)))] [])))
     .no)
    (.leaf (Ex.exit 0) [] []))
def T_dwt_exceeds_0 : TT := fun vs bl => (D_dwt_exceeds_0 vs bl fun b l n i => some (U_dwt_exceeds_0 b l n i)).getD .no
theorem tu_dwt_exceeds_0 (b : Int) (l : List Int) (n i : Int) : T_dwt_exceeds_0 [.one (.int .i64 b), .one (.lst (.int .i64) l), .one (.int .i64 n), .one (.int .i64 i)] [] = U_dwt_exceeds_0 b l n i := by kernel_rfl
theorem b_dwt_exceeds_0 (b : Int) (l : List Int) (n i : Int) (Kc : KT) : exec Try.prog t_dwt_exceeds (annOf []) l_dwt_exceeds 20 0 (loopOf Try.f66 0) (unp 23 [1, 7, 8, 9] [.one (.int .i64 b), .one (.lst (.int .i64) l), .one (.int .i64 n), .one (.int .i64 i)] []) (endc 0 23 [1, 7, 8, 9] (kxOf [] [4]) Kc) =
  (U_dwt_exceeds_0 b l n i).runc Kc := by kernel_rfl
def t_ref05_Above : FuncId → Option Summ := tabOf []
def l_ref05_Above : Nat → Option LSumm := ltOf [(2, ⟨0, 27, [0, 1, 5], (kxOf [] [4]), S_ref05_Above_0⟩)]
theorem e_ref05_Above (l : List Int) (b : Int) : funR Try.prog t_ref05_Above (annOf []) l_ref05_Above 20 Try.f44 [.one (.lst (.int .i64) l), .one (.int .i64 b)] [] =
  (ite2 (k_ref05_Above_0 b l 0)
  (ite2 (p_ref05_Above_0 b l)
   (some ⟨.one (.bool false), [], []⟩)
   (some ⟨.one (.bool true), [], []⟩))
  none) := by kernel_rfl
def U_ref05_Above_0 (b : Int) (l : List Int) (i : Int) : LT :=
  (.br (decide (i < (↑(List.length l) : Int)))
    (.br (decide (0 ≤ i ∧ i < (↑(List.length l) : Int)))
     (.br (decide (gI l (Int.toNat i) > b))
      (.leaf Ex.ret [.one (.bool true)] [])
      (.br (decide (0 ≤ i ∧ i < (↑(List.length l) : Int)))
       (.br (decide (gI l (Int.toNat i) < IntKind.wrap .i64 (0 - b)))
        (.leaf Ex.ret [.one (.bool true)] [])
        (.leaf Ex.normal [.one (.lst (.int .i64) l), .one (.int .i64 b), .one (.int .i64 (IntKind.wrap .i64 (i + 1)))] []))
       .no))
     .no)
    (.leaf (Ex.exit 0) [] []))
def T_ref05_Above_0 : TT := fun vs bl => (D_ref05_Above_0 vs bl fun b l i => some (U_ref05_Above_0 b l i)).getD .no
theorem tu_ref05_Above_0 (b : Int) (l : List Int) (i : Int) : T_ref05_Above_0 [.one (.lst (.int .i64) l), .one (.int .i64 b), .one (.int .i64 i)] [] = U_ref05_Above_0 b l i := by kernel_rfl
theorem b_ref05_Above_0 (b : Int) (l : List Int) (i : Int) (Kc : KT) : exec Try.prog t_ref05_Above (annOf []) l_ref05_Above 20 0 (loopOf Try.f44 0) (unp 27 [0, 1, 5] [.one (.lst (.int .i64) l), .one (.int .i64 b), .one (.int .i64 i)] []) (endc 0 27 [0, 1, 5] (kxOf [] [4]) Kc) =
  (U_ref05_Above_0 b l i).runc Kc := by kernel_rfl
def t_dwt_empty : FuncId → Option Summ := tabOf [(60, G_rect_Area)]
def l_dwt_empty : Nat → Option LSumm := ltOf []
theorem e_dwt_empty (a b c d : Int) : funR Try.prog t_dwt_empty (annOf []) l_dwt_empty 20 Try.f69 [.agg [.int .i64 a, .int .i64 b, .int .i64 c, .int .i64 d]] [] =
  (ite2 (decide (0 ≤ area a b c d ∧ area a b c d ≤ area a b c d ∧ area a b c d * 9 ≤ 140737488355328))
  (some ⟨.agg [.int .i64 a, .int .i64 b, .int .i64 c, .int .i64 d, .row 0], [], [.arr 3 (.int .i64) (List.replicate (Int.toNat (area a b c d)) (0 : Int))]⟩)
  none) := by kernel_rfl
def t_pl_Row : FuncId → Option Summ := tabOf [(39, G_pl_Valid), (86, G_pl_width)]
def l_pl_Row : Nat → Option LSumm := ltOf []
theorem e_pl_Row (a b c d : Int) (l : List Int) (y : Int) : funR Try.prog t_pl_Row (annOf []) l_pl_Row 20 Try.f67 [.agg [.int .i64 a, .int .i64 b, .int .i64 c, .int .i64 d, .lst (.int .i64) l], .one (.int .i64 y)] [] =
  (ite2 (!plV a b c d l)
  (some ⟨.tup [(false, [.row 0]), (false, [.bool false])], [], [.arr 3 (.int .i64) ([] : List (Int))]⟩)
  (ite2 (decide (y < b))
   (some ⟨.tup [(false, [.row 0]), (false, [.bool false])], [], [.arr 3 (.int .i64) ([] : List (Int))]⟩)
   (ite2 (decide (y ≥ d))
    (some ⟨.tup [(false, [.row 0]), (false, [.bool false])], [], [.arr 3 (.int .i64) ([] : List (Int))]⟩)
    (ite2 (decide (0 ≤ IntKind.wrap .i64 (c - a) ∧ IntKind.wrap .i64 (c - a) ≤ IntKind.wrap .i64 (c - a) ∧ IntKind.wrap .i64 (c - a) * 9 ≤ 140737488355328))
     (ite2 (true && decide (0 ≤ IntKind.wrap .i64 (IntKind.wrap .i64 (y - b) * IntKind.wrap .i64 (c - a)) ∧ IntKind.wrap .i64 (IntKind.wrap .i64 (y - b) * IntKind.wrap .i64 (c - a)) ≤ (↑(List.length l) : Int)))
      (some ⟨.tup [(false, [.row 0]), (false, [.bool true])], [], [.arr 3 (.int .i64) (List.take (List.length (List.replicate (Int.toNat (IntKind.wrap .i64 (c - a))) (0 : Int))) (List.take (List.length l - Int.toNat (IntKind.wrap .i64 (IntKind.wrap .i64 (y - b) * IntKind.wrap .i64 (c - a)))) (List.drop (Int.toNat (IntKind.wrap .i64 (IntKind.wrap .i64 (y - b) * IntKind.wrap .i64 (c - a)))) l)) ++ List.drop (min (List.length (List.take (List.length l - Int.toNat (IntKind.wrap .i64 (IntKind.wrap .i64 (y - b) * IntKind.wrap .i64 (c - a)))) (List.drop (Int.toNat (IntKind.wrap .i64 (IntKind.wrap .i64 (y - b) * IntKind.wrap .i64 (c - a)))) l))) (List.length (List.replicate (Int.toNat (IntKind.wrap .i64 (c - a))) (0 : Int)))) (List.replicate (Int.toNat (IntKind.wrap .i64 (c - a))) (0 : Int)))]⟩)
      none)
     none)))) := by kernel_rfl
def t_pl_Column : FuncId → Option Summ := tabOf [(39, G_pl_Valid), (86, G_pl_width)]
def l_pl_Column : Nat → Option LSumm := ltOf [(5, ⟨0, 56, [2, 6, 7], (kxOf [6] [4, 5]), S_pl_Column_0⟩)]
theorem e_pl_Column (a b c d : Int) (l : List Int) (x : Int) : funR Try.prog t_pl_Column (annOf []) l_pl_Column 20 Try.f71 [.agg [.int .i64 a, .int .i64 b, .int .i64 c, .int .i64 d, .lst (.int .i64) l], .one (.int .i64 x)] [] =
  (ite2 (!plV a b c d l)
  (some ⟨.tup [(false, [.row 0]), (false, [.bool false])], [], [.arr 3 (.int .i64) ([] : List (Int))]⟩)
  (ite2 (decide (x < a))
   (some ⟨.tup [(false, [.row 0]), (false, [.bool false])], [], [.arr 3 (.int .i64) ([] : List (Int))]⟩)
   (ite2 (decide (x ≥ c))
    (some ⟨.tup [(false, [.row 0]), (false, [.bool false])], [], [.arr 3 (.int .i64) ([] : List (Int))]⟩)
    (ite2 (decide ((0 : Int) ≤ 0 ∧ 0 ≤ IntKind.wrap .i64 (d - b) ∧ IntKind.wrap .i64 (d - b) * 9 ≤ 140737488355328))
     (ite2 (k_pl_Column_0 a b c d (IntKind.wrap .i64 (x - a)) l (List.replicate 0 (0 : Int)))
      (some ⟨.tup [(false, [.row 0]), (false, [.bool true])], [], [.arr 3 (.int .i64) (colOf l (Int.toNat (c - a)) (Int.toNat (IntKind.wrap .i64 (x - a))) (Int.toNat (d - b)))]⟩)
      none)
     none)))) := by kernel_rfl
def U_pl_Column_0 (a b c d i : Int) (l v : List Int) : LT :=
  (.br (decide (i < (↑(List.length l) : Int)))
    (.br (decide (0 ≤ i ∧ i < (↑(List.length l) : Int)))
     (.br (decide ((List.length v + List.length [gI l (Int.toNat i)]) * 9 ≤ 140737488355328))
      (.leaf Ex.normal [.one (.ptr 0 0), .one (.row 1), .one (.int .i64 (IntKind.wrap .i64 (i + IntKind.wrap .i64 (c - a))))] [some (.box [.int .i64 a, .int .i64 b, .int .i64 c, .int .i64 d, .lst (.int .i64) l]), some (.arr 3 (.int .i64) (v ++ [gI l (Int.toNat i)]))])
      .no)
     .no)
    (.leaf (Ex.exit 0) [.one (.row 0)] [some (.arr 3 (.int .i64) v)]))
def T_pl_Column_0 : TT := fun vs bl => (D_pl_Column_0 vs bl fun a b c d i l v => some (U_pl_Column_0 a b c d i l v)).getD .no
theorem tu_pl_Column_0 (a b c d i : Int) (l v : List Int) : T_pl_Column_0 [.one (.ptr 0 0), .one (.row 1), .one (.int .i64 i)] [some (.box [.int .i64 a, .int .i64 b, .int .i64 c, .int .i64 d, .lst (.int .i64) l]), some (.arr 3 (.int .i64) v)] = U_pl_Column_0 a b c d i l v := by kernel_rfl
theorem b_pl_Column_0 (a b c d i : Int) (l v : List Int) (Kc : KT) : exec Try.prog t_pl_Column (annOf []) l_pl_Column 20 0 (loopOf Try.f71 0) (unp 56 [2, 6, 7] [.one (.ptr 0 0), .one (.row 1), .one (.int .i64 i)] [some (.box [.int .i64 a, .int .i64 b, .int .i64 c, .int .i64 d, .lst (.int .i64) l]), some (.arr 3 (.int .i64) v)]) (endc 0 56 [2, 6, 7] (kxOf [6] [4, 5]) Kc) =
  (U_pl_Column_0 a b c d i l v).runc Kc := by kernel_rfl
end
end Go.Rx.Ch06
