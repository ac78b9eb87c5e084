/- Each function, run by the executor: an equation. -/
import Derived.Test.YtcdmkbpmgeeghaaRG
import Derived.Test.YtcdmkbpmgeeghaaProg
import Derived.KernelRfl
set_option linter.unnecessarySimpa false
set_option linter.unusedVariables false
set_option maxRecDepth 100000
set_option maxHeartbeats 40000000
open Go Go.Rx Go.Proofs
namespace Go.Rx.Ch06
noncomputable section
def t_rect_Empty : FuncId → Option Summ := tabOf []
def l_rect_Empty : Nat → Option LSumm := ltOf []
theorem e_rect_Empty (a b c d : Int) : funR Try.prog t_rect_Empty (annOf []) l_rect_Empty 20 Try.f47 [.agg [.int .i64 a, .int .i64 b, .int .i64 c, .int .i64 d]] [] =
  (ite2 (decide (a ≥ c))
  (some ⟨.one (.bool true), [], []⟩)
  (some ⟨.one (.bool (decide (b ≥ d))), [], []⟩)) := by kernel_rfl
def t_rect_Valid : FuncId → Option Summ := tabOf []
def l_rect_Valid : Nat → Option LSumm := ltOf []
theorem e_rect_Valid (a b c d : Int) : funR Try.prog t_rect_Valid (annOf []) l_rect_Valid 20 Try.f46 [.agg [.int .i64 a, .int .i64 b, .int .i64 c, .int .i64 d]] [] =
  (ite2 (decide (0 ≤ a))
  (ite2 (decide (a ≤ c))
   (ite2 (decide (c ≤ 4096))
    (ite2 (decide (0 ≤ b))
     (ite2 (decide (b ≤ d))
      (some ⟨.one (.bool (decide (d ≤ 4096))), [], []⟩)
      (some ⟨.one (.bool false), [], []⟩))
     (some ⟨.one (.bool false), [], []⟩))
    (some ⟨.one (.bool false), [], []⟩))
   (some ⟨.one (.bool false), [], []⟩))
  (some ⟨.one (.bool false), [], []⟩)) := by kernel_rfl
def t_rect_CeilDiv : FuncId → Option Summ := tabOf []
def l_rect_CeilDiv : Nat → Option LSumm := ltOf []
theorem e_rect_CeilDiv (a b : Int) : funR Try.prog t_rect_CeilDiv (annOf []) l_rect_CeilDiv 20 Try.f81 [.one (.int .i64 a), .one (.int .i64 b)] [] =
  (ite2 (decide (b < 1))
  (some ⟨.one (.int .i64 0), [], []⟩)
  (ite2 (!decide (b = 0))
   (ite2 (!decide (b = 0))
    (ite2 (decide (Int.tmod a b > 0))
     (some ⟨.one (.int .i64 (IntKind.wrap .i64 (IntKind.wrap .i64 (Int.tdiv a b) + 1))), [], []⟩)
     (some ⟨.one (.int .i64 (IntKind.wrap .i64 (Int.tdiv a b))), [], []⟩))
    none)
   none)) := by kernel_rfl
def t_rect_Area : FuncId → Option Summ := tabOf [(46, G_rect_Valid)]
def l_rect_Area : Nat → Option LSumm := ltOf []
theorem e_rect_Area (a b c d : Int) : funR Try.prog t_rect_Area (annOf []) l_rect_Area 20 Try.f60 [.agg [.int .i64 a, .int .i64 b, .int .i64 c, .int .i64 d]] [] =
  (ite2 (!valid a b c d)
  (some ⟨.one (.int .i64 0), [], []⟩)
  (some ⟨.one (.int .i64 (IntKind.wrap .i64 (IntKind.wrap .i64 (c - a) * IntKind.wrap .i64 (d - b)))), [], []⟩)) := by kernel_rfl
def t_rect_Reduce : FuncId → Option Summ := tabOf [(46, G_rect_Valid), (81, G_rect_CeilDiv)]
def l_rect_Reduce : Nat → Option LSumm := ltOf []
theorem e_rect_Reduce (a b c d x y : Int) : funR Try.prog t_rect_Reduce (annOf []) l_rect_Reduce 20 Try.f58 [.agg [.int .i64 a, .int .i64 b, .int .i64 c, .int .i64 d], .one (.int .i64 x), .one (.int .i64 y)] [] =
  (ite2 (!valid a b c d)
  (some ⟨.agg [.int .i64 0, .int .i64 0, .int .i64 0, .int .i64 0], [], []⟩)
  (ite2 (decide (x < 1))
   (some ⟨.agg [.int .i64 0, .int .i64 0, .int .i64 0, .int .i64 0], [], []⟩)
   (ite2 (decide (x > 4096))
    (some ⟨.agg [.int .i64 0, .int .i64 0, .int .i64 0, .int .i64 0], [], []⟩)
    (ite2 (decide (y < 1))
     (some ⟨.agg [.int .i64 0, .int .i64 0, .int .i64 0, .int .i64 0], [], []⟩)
     (ite2 (decide (y > 4096))
      (some ⟨.agg [.int .i64 0, .int .i64 0, .int .i64 0, .int .i64 0], [], []⟩)
      (some ⟨.agg [.int .i64 (cdiv a x), .int .i64 (cdiv b y), .int .i64 (cdiv c x), .int .i64 (cdiv d y)], [], []⟩)))))) := by kernel_rfl
def t_rect_Intersect : FuncId → Option Summ := tabOf [(47, G_rect_Empty)]
def l_rect_Intersect : Nat → Option LSumm := ltOf []
theorem e_rect_Intersect (a b c d e f g h : Int) : funR Try.prog t_rect_Intersect (annOf []) l_rect_Intersect 20 Try.f36 [.agg [.int .i64 a, .int .i64 b, .int .i64 c, .int .i64 d], .agg [.int .i64 e, .int .i64 f, .int .i64 g, .int .i64 h]] [] =
  (ite2 (empty (if e > a then e else a) (if f > b then f else b) (if g < c then g else c) (if h < d then h else d))
  (some ⟨.agg [.int .i64 0, .int .i64 0, .int .i64 0, .int .i64 0], [], []⟩)
  (some ⟨.agg [.int .i64 (if e > a then e else a), .int .i64 (if f > b then f else b), .int .i64 (if g < c then g else c), .int .i64 (if h < d then h else d)], [], []⟩)) := by kernel_rfl
def t_rect_Contains : FuncId → Option Summ := tabOf [(36, G_rect_Intersect), (47, G_rect_Empty)]
def l_rect_Contains : Nat → Option LSumm := ltOf []
theorem e_rect_Contains (a b c d e f g h : Int) : funR Try.prog t_rect_Contains (annOf []) l_rect_Contains 20 Try.f74 [.agg [.int .i64 a, .int .i64 b, .int .i64 c, .int .i64 d], .agg [.int .i64 e, .int .i64 f, .int .i64 g, .int .i64 h]] [] =
  (ite2 (empty e f g h)
  (some ⟨.one (.bool true), [], []⟩)
  (some ⟨.one (.bool ((inter a b c d e f g h).1 == e && ((inter a b c d e f g h).2.1 == f && ((inter a b c d e f g h).2.2.1 == g && ((inter a b c d e f g h).2.2.2 == h && true))))), [], []⟩)) := by kernel_rfl






def t_pyr_validLevels : FuncId → Option Summ := tabOf []
def l_pyr_validLevels : Nat → Option LSumm := ltOf []
theorem e_pyr_validLevels (n : Int) : funR Try.prog t_pyr_validLevels (annOf []) l_pyr_validLevels 20 Try.f38 [.one (.int .i64 n)] [] =
  (ite2 (decide (n ≥ 0))
  (some ⟨.one (.bool (decide (n ≤ 5))), [], []⟩)
  (some ⟨.one (.bool false), [], []⟩)) := by kernel_rfl
def t_pyr_Count : FuncId → Option Summ := tabOf [(38, G_pyr_validLevels)]
def l_pyr_Count : Nat → Option LSumm := ltOf []
theorem e_pyr_Count (n : Int) : funR Try.prog t_pyr_Count (annOf []) l_pyr_Count 20 Try.f13 [.one (.int .i64 n)] [] =
  (ite2 (!inr 0 5 n)
  (some ⟨.one (.int .i64 0), [], []⟩)
  (some ⟨.one (.int .i64 (IntKind.wrap .i64 (IntKind.wrap .i64 (3 * n) + 1))), [], []⟩)) := by kernel_rfl
def t_pyr_Place : FuncId → Option Summ := tabOf [(13, G_pyr_Count)]
def l_pyr_Place : Nat → Option LSumm := ltOf []
theorem e_pyr_Place (i n : Int) : funR Try.prog t_pyr_Place (annOf []) l_pyr_Place 20 Try.f11 [.one (.int .i64 i), .one (.int .i64 n)] [] =
  (ite2 (decide (i < 0))
  (some ⟨.tup [(false, [.int .i64 0]), (false, [.int .i64 0]), (false, [.bool false])], [], []⟩)
  (ite2 (decide (i ≥ count n))
   (some ⟨.tup [(false, [.int .i64 0]), (false, [.int .i64 0]), (false, [.bool false])], [], []⟩)
   (ite2 (i == 0)
    (some ⟨.tup [(false, [.int .i64 n]), (false, [.int .i64 0]), (false, [.bool true])], [], []⟩)
    (some ⟨.tup [(false, [.int .i64 (IntKind.wrap .i64 (IntKind.wrap .i64 (n - IntKind.wrap .i64 (Int.tdiv (IntKind.wrap .i64 (i + 2)) 3)) + 1))]), (false, [.int .i64 (IntKind.wrap .i64 (IntKind.wrap .i64 (i - IntKind.wrap .i64 (3 * IntKind.wrap .i64 (Int.tdiv (IntKind.wrap .i64 (i + 2)) 3))) + 3))]), (false, [.bool true])], [], []⟩)))) := by kernel_rfl
def t_pyr_Indices : FuncId → Option Summ := tabOf [(38, G_pyr_validLevels)]
def l_pyr_Indices : Nat → Option LSumm := ltOf []
theorem e_pyr_Indices (n r : Int) : funR Try.prog t_pyr_Indices (annOf []) l_pyr_Indices 20 Try.f15 [.one (.int .i64 n), .one (.int .i64 r)] [] =
  (ite2 (!inr 0 5 n)
  (some ⟨.one (.row 0), [], [.arr 3 (.int .i64) ([] : List (Int))]⟩)
  (ite2 (decide (r < 0))
   (some ⟨.one (.row 0), [], [.arr 3 (.int .i64) ([] : List (Int))]⟩)
   (ite2 (decide (r > n))
    (some ⟨.one (.row 0), [], [.arr 3 (.int .i64) ([] : List (Int))]⟩)
    (ite2 (r == 0)
     (some ⟨.one (.row 0), [], [.arr 3 (.int .i64) ([0] : List (Int))]⟩)
     (some ⟨.one (.row 0), [], [.arr 3 (.int .i64) ([IntKind.wrap .i64 (IntKind.wrap .i64 (3 * r) - 2), IntKind.wrap .i64 (IntKind.wrap .i64 (3 * r) - 1), IntKind.wrap .i64 (3 * r)] : List (Int))]⟩))))) := by kernel_rfl
def t_pyr_Resolution : FuncId → Option Summ := tabOf [(38, G_pyr_validLevels), (58, G_rect_Reduce)]
def l_pyr_Resolution : Nat → Option LSumm := ltOf []
theorem e_pyr_Resolution (a b c d n r : Int) : funR Try.prog t_pyr_Resolution (annOf []) l_pyr_Resolution 20 Try.f25 [.agg [.int .i64 a, .int .i64 b, .int .i64 c, .int .i64 d], .one (.int .i64 n), .one (.int .i64 r)] [] =
  (ite2 (!inr 0 5 n)
  (some ⟨.agg [.int .i64 0, .int .i64 0, .int .i64 0, .int .i64 0], [], []⟩)
  (ite2 (decide (r < 0))
   (some ⟨.agg [.int .i64 0, .int .i64 0, .int .i64 0, .int .i64 0], [], []⟩)
   (ite2 (decide (r > n))
    (some ⟨.agg [.int .i64 0, .int .i64 0, .int .i64 0, .int .i64 0], [], []⟩)
    (ite2 (decide (0 ≤ IntKind.wrap IntKind.u64 (IntKind.wrap .i64 (n - r))))
     (some ⟨.agg [.int .i64 (reduce a b c d (IntKind.wrap .i64 (1 * 2 ^ min (Int.toNat (IntKind.wrap IntKind.u64 (IntKind.wrap .i64 (n - r)))) 64)) (IntKind.wrap .i64 (1 * 2 ^ min (Int.toNat (IntKind.wrap IntKind.u64 (IntKind.wrap .i64 (n - r)))) 64))).1, .int .i64 (reduce a b c d (IntKind.wrap .i64 (1 * 2 ^ min (Int.toNat (IntKind.wrap IntKind.u64 (IntKind.wrap .i64 (n - r)))) 64)) (IntKind.wrap .i64 (1 * 2 ^ min (Int.toNat (IntKind.wrap IntKind.u64 (IntKind.wrap .i64 (n - r)))) 64))).2.1, .int .i64 (reduce a b c d (IntKind.wrap .i64 (1 * 2 ^ min (Int.toNat (IntKind.wrap IntKind.u64 (IntKind.wrap .i64 (n - r)))) 64)) (IntKind.wrap .i64 (1 * 2 ^ min (Int.toNat (IntKind.wrap IntKind.u64 (IntKind.wrap .i64 (n - r)))) 64))).2.2.1, .int .i64 (reduce a b c d (IntKind.wrap .i64 (1 * 2 ^ min (Int.toNat (IntKind.wrap IntKind.u64 (IntKind.wrap .i64 (n - r)))) 64)) (IntKind.wrap .i64 (1 * 2 ^ min (Int.toNat (IntKind.wrap IntKind.u64 (IntKind.wrap .i64 (n - r)))) 64))).2.2.2], [], []⟩)
     none)))) := by kernel_rfl
def t_dwt_Bands : FuncId → Option Summ := tabOf [(46, G_rect_Valid)]
def l_dwt_Bands : Nat → Option LSumm := ltOf []
theorem e_dwt_Bands (a b c d : Int) : funR Try.prog t_dwt_Bands (annOf []) l_dwt_Bands 20 Try.f48 [.agg [.int .i64 a, .int .i64 b, .int .i64 c, .int .i64 d]] [] =
  (ite2 (!valid a b c d)
  (some ⟨.agg [.int .i64 0, .int .i64 0, .int .i64 0, .int .i64 0, .int .i64 0, .int .i64 0, .int .i64 0, .int .i64 0, .int .i64 0, .int .i64 0, .int .i64 0, .int .i64 0, .int .i64 0, .int .i64 0, .int .i64 0, .int .i64 0], [], []⟩)
  (some ⟨.agg [.int .i64 (IntKind.wrap .i64 (Int.tdiv (IntKind.wrap .i64 (a + 1)) 2)), .int .i64 (IntKind.wrap .i64 (Int.tdiv (IntKind.wrap .i64 (b + 1)) 2)), .int .i64 (IntKind.wrap .i64 (Int.tdiv (IntKind.wrap .i64 (c + 1)) 2)), .int .i64 (IntKind.wrap .i64 (Int.tdiv (IntKind.wrap .i64 (d + 1)) 2)), .int .i64 (IntKind.wrap .i64 (Int.tdiv (IntKind.wrap .i64 (a + 0)) 2)), .int .i64 (IntKind.wrap .i64 (Int.tdiv (IntKind.wrap .i64 (b + 1)) 2)), .int .i64 (IntKind.wrap .i64 (Int.tdiv (IntKind.wrap .i64 (c + 0)) 2)), .int .i64 (IntKind.wrap .i64 (Int.tdiv (IntKind.wrap .i64 (d + 1)) 2)), .int .i64 (IntKind.wrap .i64 (Int.tdiv (IntKind.wrap .i64 (a + 1)) 2)), .int .i64 (IntKind.wrap .i64 (Int.tdiv (IntKind.wrap .i64 (b + 0)) 2)), .int .i64 (IntKind.wrap .i64 (Int.tdiv (IntKind.wrap .i64 (c + 1)) 2)), .int .i64 (IntKind.wrap .i64 (Int.tdiv (IntKind.wrap .i64 (d + 0)) 2)), .int .i64 (IntKind.wrap .i64 (Int.tdiv (IntKind.wrap .i64 (a + 0)) 2)), .int .i64 (IntKind.wrap .i64 (Int.tdiv (IntKind.wrap .i64 (b + 0)) 2)), .int .i64 (IntKind.wrap .i64 (Int.tdiv (IntKind.wrap .i64 (c + 0)) 2)), .int .i64 (IntKind.wrap .i64 (Int.tdiv (IntKind.wrap .i64 (d + 0)) 2))], [], []⟩)) := by kernel_rfl

def t_ext_below : FuncId → Option Summ := tabOf []
def l_ext_below : Nat → Option LSumm := ltOf []
theorem e_ext_below (i : Int) : funR Try.prog t_ext_below (annOf []) l_ext_below 20 Try.f109 [.one (.int .i64 i)] [] =
  (some ⟨.one (.int .i64 (IntKind.wrap .i64 (Int.tdiv (IntKind.wrap .i64 (i + 1)) 2))), [], []⟩) := by kernel_rfl
def t_ext_Counts : FuncId → Option Summ := tabOf [(109, G_ext_below)]
def l_ext_Counts : Nat → Option LSumm := ltOf []
theorem e_ext_Counts (s n : Int) : funR Try.prog t_ext_Counts (annOf []) l_ext_Counts 20 Try.f105 [.one (.int .i64 s), .one (.int .i64 n)] [] =
  (ite2 (decide (s < 0))
  (some ⟨.tup [(false, [.int .i64 0]), (false, [.int .i64 0])], [], []⟩)
  (ite2 (decide (s > 4096))
   (some ⟨.tup [(false, [.int .i64 0]), (false, [.int .i64 0])], [], []⟩)
   (ite2 (decide (n < 0))
    (some ⟨.tup [(false, [.int .i64 0]), (false, [.int .i64 0])], [], []⟩)
    (ite2 (decide (n > 4096))
     (some ⟨.tup [(false, [.int .i64 0]), (false, [.int .i64 0])], [], []⟩)
     (ite2 (inr 0 10000 (IntKind.wrap .i64 (s + n)))
      (ite2 (inr 0 10000 s)
       (some ⟨.tup [(false, [.int .i64 (IntKind.wrap .i64 ((IntKind.wrap .i64 (s + n) + 1) / 2 - (s + 1) / 2))]), (false, [.int .i64 (IntKind.wrap .i64 (n - IntKind.wrap .i64 ((IntKind.wrap .i64 (s + n) + 1) / 2 - (s + 1) / 2)))])], [], []⟩)
       none)
      none))))) := by kernel_rfl
def t_ext_Split : FuncId → Option Summ := tabOf [(105, G_ext_Counts)]
def l_ext_Split : Nat → Option LSumm := ltOf [(6, ⟨0, 56, [1, 4, 5, 33, 34, 35], (kxOf [4, 5] [4, 5, 6]), S_ext_Split_0⟩)]
theorem e_ext_Split (l : List Int) (s : Int) : funR Try.prog t_ext_Split (annOf []) l_ext_Split 20 Try.f91 [.one (.lst (.int .i64) l), .one (.int .i64 s)] [] =
  (ite2 (decide (s < 0))
  (some ⟨.tup [(false, [.row 0]), (false, [.row 1]), (false, [.int .i64 2])], [], [.arr 3 (.int .i64) ([] : List (Int)), .arr 3 (.int .i64) ([] : List (Int))]⟩)
  (ite2 (decide (s > 4096))
   (some ⟨.tup [(false, [.row 0]), (false, [.row 1]), (false, [.int .i64 2])], [], [.arr 3 (.int .i64) ([] : List (Int)), .arr 3 (.int .i64) ([] : List (Int))]⟩)
   (ite2 (decide ((↑(List.length l) : Int) > 4096))
    (some ⟨.tup [(false, [.row 0]), (false, [.row 1]), (false, [.int .i64 2])], [], [.arr 3 (.int .i64) ([] : List (Int)), .arr 3 (.int .i64) ([] : List (Int))]⟩)
    (ite2 (decide ((0 : Int) ≤ 0 ∧ 0 ≤ (cnt s (↑(List.length l) : Int)).1 ∧ (cnt s (↑(List.length l) : Int)).1 * 9 ≤ 140737488355328))
     (ite2 (decide ((0 : Int) ≤ 0 ∧ 0 ≤ (cnt s (↑(List.length l) : Int)).2 ∧ (cnt s (↑(List.length l) : Int)).2 * 9 ≤ 140737488355328))
      (ite2 (k_ext_Split_0 s (List.replicate 0 (0 : Int)) (List.replicate 0 (0 : Int)) l (↑(List.length l) : Int) 0)
       (some ⟨.tup [(false, [.row 0]), (false, [.row 1]), (false, [.int .i64 0])], [], [.arr 3 (.int .i64) (evs s l), .arr 3 (.int .i64) (ods s l)]⟩)
       none)
      none)
     none)))) := by kernel_rfl
def U_ext_Split_0 (s : Int) (e o l : List Int) (n i : Int) : LT :=
  (.br (decide (i < n))
    (.br (decide (0 ≤ i ∧ i < (↑(List.length l) : Int)))
     (.br (Int.tmod (IntKind.wrap .i64 (s + i)) 2 == 0)
      (.br (decide ((List.length e + List.length [gI l (Int.toNat i)]) * 9 ≤ 140737488355328))
       (.leaf Ex.normal [.one (.int .i64 s), .one (.row 0), .one (.row 1), .one (.lst (.int .i64) l), .one (.int .i64 n), .one (.int .i64 (IntKind.wrap .i64 (i + 1)))] [some (.arr 3 (.int .i64) (e ++ [gI l (Int.toNat i)])), some (.arr 3 (.int .i64) o)])
       .no)
      (.br (decide ((List.length o + List.length [gI l (Int.toNat i)]) * 9 ≤ 140737488355328))
       (.leaf Ex.normal [.one (.int .i64 s), .one (.row 0), .one (.row 1), .one (.lst (.int .i64) l), .one (.int .i64 n), .one (.int .i64 (IntKind.wrap .i64 (i + 1)))] [some (.arr 3 (.int .i64) e), some (.arr 3 (.int .i64) (o ++ [gI l (Int.toNat i)]))])
       .no))
     .no)
    (.leaf (Ex.exit 0) [.one (.row 0), .one (.row 1)] [some (.arr 3 (.int .i64) e), some (.arr 3 (.int .i64) o)]))
def T_ext_Split_0 : TT := fun vs bl => (D_ext_Split_0 vs bl fun s e o l n i => some (U_ext_Split_0 s e o l n i)).getD .no
theorem tu_ext_Split_0 (s : Int) (e o l : List Int) (n i : Int) : T_ext_Split_0 [.one (.int .i64 s), .one (.row 0), .one (.row 1), .one (.lst (.int .i64) l), .one (.int .i64 n), .one (.int .i64 i)] [some (.arr 3 (.int .i64) e), some (.arr 3 (.int .i64) o)] = U_ext_Split_0 s e o l n i := by kernel_rfl
theorem b_ext_Split_0 (s : Int) (e o l : List Int) (n i : Int) (Kc : KT) : exec Try.prog t_ext_Split (annOf []) l_ext_Split 20 0 (loopOf Try.f91 0) (unp 56 [1, 4, 5, 33, 34, 35] [.one (.int .i64 s), .one (.row 0), .one (.row 1), .one (.lst (.int .i64) l), .one (.int .i64 n), .one (.int .i64 i)] [some (.arr 3 (.int .i64) e), some (.arr 3 (.int .i64) o)]) (endc 0 56 [1, 4, 5, 33, 34, 35] (kxOf [4, 5] [4, 5, 6]) Kc) =
  (U_ext_Split_0 s e o l n i).runc Kc := by kernel_rfl
def t_ext_Join : FuncId → Option Summ := tabOf [(105, G_ext_Counts)]
def l_ext_Join : Nat → Option LSumm := ltOf [(10, ⟨0, 86, [0, 1, 2, 11, 12, 13, 57, 58], (kxOf [11] [6, 7]), S_ext_Join_0⟩)]
theorem e_ext_Join (l m : List Int) (s : Int) : funR Try.prog t_ext_Join (annOf []) l_ext_Join 20 Try.f97 [.one (.lst (.int .i64) l), .one (.lst (.int .i64) m), .one (.int .i64 s)] [] =
  (ite2 (decide (s < 0))
  (some ⟨.tup [(false, [.row 0]), (false, [.int .i64 2])], [], [.arr 3 (.int .i64) ([] : List (Int))]⟩)
  (ite2 (decide (s > 4096))
   (some ⟨.tup [(false, [.row 0]), (false, [.int .i64 2])], [], [.arr 3 (.int .i64) ([] : List (Int))]⟩)
   (ite2 (decide ((↑(List.length l) : Int) > 4096))
    (some ⟨.tup [(false, [.row 0]), (false, [.int .i64 2])], [], [.arr 3 (.int .i64) ([] : List (Int))]⟩)
    (ite2 (decide ((↑(List.length m) : Int) > IntKind.wrap .i64 (4096 - (↑(List.length l) : Int))))
     (some ⟨.tup [(false, [.row 0]), (false, [.int .i64 2])], [], [.arr 3 (.int .i64) ([] : List (Int))]⟩)
     (ite2 ((cnt s (IntKind.wrap .i64 ((↑(List.length l) : Int) + (↑(List.length m) : Int)))).1 != (↑(List.length l) : Int))
      (some ⟨.tup [(false, [.row 0]), (false, [.int .i64 4])], [], [.arr 3 (.int .i64) ([] : List (Int))]⟩)
      (ite2 ((cnt s (IntKind.wrap .i64 ((↑(List.length l) : Int) + (↑(List.length m) : Int)))).2 != (↑(List.length m) : Int))
       (some ⟨.tup [(false, [.row 0]), (false, [.int .i64 4])], [], [.arr 3 (.int .i64) ([] : List (Int))]⟩)
       (ite2 (decide (0 ≤ IntKind.wrap .i64 ((↑(List.length l) : Int) + (↑(List.length m) : Int)) ∧ IntKind.wrap .i64 ((↑(List.length l) : Int) + (↑(List.length m) : Int)) ≤ IntKind.wrap .i64 ((↑(List.length l) : Int) + (↑(List.length m) : Int)) ∧ IntKind.wrap .i64 ((↑(List.length l) : Int) + (↑(List.length m) : Int)) * 9 ≤ 140737488355328))
        (ite2 (k_ext_Join_0 l m (List.replicate (Int.toNat (IntKind.wrap .i64 ((↑(List.length l) : Int) + (↑(List.length m) : Int)))) (0 : Int)) s (IntKind.wrap .i64 ((↑(List.length l) : Int) + (↑(List.length m) : Int))) 0 0 0)
         (some ⟨.tup [(false, [.row 0]), (false, [.int .i64 0])], [], [.arr 3 (.int .i64) (ilv s (Int.toNat (IntKind.wrap .i64 ((↑(List.length l) : Int) + (↑(List.length m) : Int)))) l m)]⟩)
         none)
        none))))))) := by kernel_rfl
def U_ext_Join_0 (l m c : List Int) (s n a b i : Int) : LT :=
  (.br (decide (i < n))
    (.br (Int.tmod (IntKind.wrap .i64 (s + i)) 2 == 0)
     (.br (decide (0 ≤ a ∧ a < (↑(List.length l) : Int)))
      (.br (decide (0 ≤ i ∧ i < (↑(List.length c) : Int)))
       (.br (decide (Int.toNat i < List.length c))
        (.leaf Ex.normal [.one (.lst (.int .i64) l), .one (.lst (.int .i64) m), .one (.int .i64 s), .one (.row 0), .one (.int .i64 (IntKind.wrap .i64 (a + 1))), .one (.int .i64 b), .one (.int .i64 n), .one (.int .i64 (IntKind.wrap .i64 (i + 1)))] [some (.arr 3 (.int .i64) (List.set c (Int.toNat i) (gI l (Int.toNat a))))])
        .no)
       .no)
      .no)
     (.br (decide (0 ≤ b ∧ b < (↑(List.length m) : Int)))
      (.br (decide (0 ≤ i ∧ i < (↑(List.length c) : Int)))
       (.br (decide (Int.toNat i < List.length c))
        (.leaf Ex.normal [.one (.lst (.int .i64) l), .one (.lst (.int .i64) m), .one (.int .i64 s), .one (.row 0), .one (.int .i64 a), .one (.int .i64 (IntKind.wrap .i64 (b + 1))), .one (.int .i64 n), .one (.int .i64 (IntKind.wrap .i64 (i + 1)))] [some (.arr 3 (.int .i64) (List.set c (Int.toNat i) (gI m (Int.toNat b))))])
        .no)
       .no)
      .no))
    (.leaf (Ex.exit 0) [.one (.row 0)] [some (.arr 3 (.int .i64) c)]))
def T_ext_Join_0 : TT := fun vs bl => (D_ext_Join_0 vs bl fun l m c s n a b i => some (U_ext_Join_0 l m c s n a b i)).getD .no
theorem tu_ext_Join_0 (l m c : List Int) (s n a b i : Int) : T_ext_Join_0 [.one (.lst (.int .i64) l), .one (.lst (.int .i64) m), .one (.int .i64 s), .one (.row 0), .one (.int .i64 a), .one (.int .i64 b), .one (.int .i64 n), .one (.int .i64 i)] [some (.arr 3 (.int .i64) c)] = U_ext_Join_0 l m c s n a b i := by kernel_rfl
theorem b_ext_Join_0 (l m c : List Int) (s n a b i : Int) (Kc : KT) : exec Try.prog t_ext_Join (annOf []) l_ext_Join 20 0 (loopOf Try.f97 0) (unp 86 [0, 1, 2, 11, 12, 13, 57, 58] [.one (.lst (.int .i64) l), .one (.lst (.int .i64) m), .one (.int .i64 s), .one (.row 0), .one (.int .i64 a), .one (.int .i64 b), .one (.int .i64 n), .one (.int .i64 i)] [some (.arr 3 (.int .i64) c)]) (endc 0 86 [0, 1, 2, 11, 12, 13, 57, 58] (kxOf [11] [6, 7]) Kc) =
  (U_ext_Join_0 l m c s n a b i).runc Kc := by kernel_rfl
def t_lift_known : FuncId → Option Summ := tabOf []
def l_lift_known : Nat → Option LSumm := ltOf []
theorem e_lift_known (k : Int) : funR Try.prog t_lift_known (annOf []) l_lift_known 20 Try.f79 [.one (.int .i64 k)] [] =
  (ite2 (decide (k ≥ 1))
  (some ⟨.one (.bool (decide (k ≤ 3))), [], []⟩)
  (some ⟨.one (.bool false), [], []⟩)) := by kernel_rfl
def t_lift_Margin : FuncId → Option Summ := tabOf []
def l_lift_Margin : Nat → Option LSumm := ltOf []
theorem e_lift_Margin (k : Int) : funR Try.prog t_lift_Margin (annOf []) l_lift_Margin 20 Try.f40 [.one (.int .i64 k)] [] =
  (ite2 (k == 1)
  (ite2 (k == 1)
   (some ⟨.one (.int .i64 2), [], []⟩)
   (ite2 (k == 3)
    (some ⟨.one (.int .i64 4), [], []⟩)
    (some ⟨.one (.int .i64 0), [], []⟩)))
  (ite2 (k == 2)
   (some ⟨.one (.int .i64 2), [], []⟩)
   (ite2 (k == 3)
    (some ⟨.one (.int .i64 4), [], []⟩)
    (some ⟨.one (.int .i64 0), [], []⟩)))) := by kernel_rfl
def t_lift_High : FuncId → Option Summ := tabOf [(79, G_lift_known)]
def l_lift_High : Nat → Option LSumm := ltOf []
theorem e_lift_High (b k : Int) : funR Try.prog t_lift_High (annOf []) l_lift_High 20 Try.f55 [.one (.int .i64 b), .one (.int .i64 k)] [] =
  (ite2 (decide (b < 0))
  (some ⟨.one (.int .i64 0), [], []⟩)
  (ite2 (decide (b > 281474976710656))
   (some ⟨.one (.int .i64 0), [], []⟩)
   (ite2 (!inr 1 3 k)
    (some ⟨.one (.int .i64 0), [], []⟩)
    (ite2 (k == 3)
     (some ⟨.one (.int .i64 (IntKind.wrap .i64 (b + IntKind.wrap .i64 (Int.tdiv (IntKind.wrap .i64 (IntKind.wrap .i64 (20 * b) + 8)) 16)))), [], []⟩)
     (some ⟨.one (.int .i64 (IntKind.wrap .i64 (2 * b))), [], []⟩))))) := by kernel_rfl
def t_lift_Low : FuncId → Option Summ := tabOf [(55, G_lift_High), (79, G_lift_known)]
def l_lift_Low : Nat → Option LSumm := ltOf []
theorem e_lift_Low (b k : Int) : funR Try.prog t_lift_Low (annOf []) l_lift_Low 20 Try.f54 [.one (.int .i64 b), .one (.int .i64 k)] [] =
  (ite2 (decide (b < 0))
  (some ⟨.one (.int .i64 0), [], []⟩)
  (ite2 (decide (b > 281474976710656))
   (some ⟨.one (.int .i64 0), [], []⟩)
   (ite2 (!inr 1 3 k)
    (some ⟨.one (.int .i64 0), [], []⟩)
    (some ⟨.one (.int .i64 (IntKind.wrap .i64 (b + IntKind.wrap .i64 (Int.tdiv (IntKind.wrap .i64 (IntKind.wrap .i64 (2 * hb b k) + 2)) 4)))), [], []⟩)))) := by kernel_rfl
def t_lift_bounded : FuncId → Option Summ := tabOf []
def l_lift_bounded : Nat → Option LSumm := ltOf [(2, ⟨0, 23, [1, 7, 8, 9], (kxOf [] [4]), S_lift_bounded_0⟩)]
theorem e_lift_bounded (l : List Int) (b : Int) : funR Try.prog t_lift_bounded (annOf []) l_lift_bounded 20 Try.f87 [.one (.lst (.int .i64) l), .one (.int .i64 b)] [] =
  (ite2 (k_lift_bounded_0 b l (↑(List.length l) : Int) 0)
  (ite2 (p_lift_bounded_0 b l)
   (some ⟨.one (.bool true), [], []⟩)
   (some ⟨.one (.bool false), [], []⟩))
  none) := by kernel_rfl
def U_lift_bounded_0 (b : Int) (l : List Int) (n i : Int) : LT :=
  (.br (decide (i < n))
    (.br (decide (0 ≤ i ∧ i < (↑(List.length l) : Int)))
     (.br (decide (gI l (Int.toNat i) < IntKind.wrap .i64 (0 - b)))
      (.leaf Ex.ret [.one (.bool false)] [])
      (.br (decide (gI l (Int.toNat i) > b))
       (.leaf Ex.ret [.one (.bool false)] [])
       (.leaf Ex.normal [.one (.int .i64 b), .one (.lst (.int .i64) l), .one (.int .i64 n), .one (.int .i64 (IntKind.wrap .i64 (i + 1)))] [])))
     .no)
    (.leaf (Ex.exit 0) [] []))
def T_lift_bounded_0 : TT := fun vs bl => (D_lift_bounded_0 vs bl fun b l n i => some (U_lift_bounded_0 b l n i)).getD .no
theorem tu_lift_bounded_0 (b : Int) (l : List Int) (n i : Int) : T_lift_bounded_0 [.one (.int .i64 b), .one (.lst (.int .i64) l), .one (.int .i64 n), .one (.int .i64 i)] [] = U_lift_bounded_0 b l n i := by kernel_rfl
theorem b_lift_bounded_0 (b : Int) (l : List Int) (n i : Int) (Kc : KT) : exec Try.prog t_lift_bounded (annOf []) l_lift_bounded 20 0 (loopOf Try.f87 0) (unp 23 [1, 7, 8, 9] [.one (.int .i64 b), .one (.lst (.int .i64) l), .one (.int .i64 n), .one (.int .i64 i)] []) (endc 0 23 [1, 7, 8, 9] (kxOf [] [4]) Kc) =
  (U_lift_bounded_0 b l n i).runc Kc := by kernel_rfl
def t_line_at : FuncId → Option Summ := tabOf []
def l_line_at : Nat → Option LSumm := ltOf [(2, ⟨0, 30, [1, 2, 5], (kxOf [1, 2] [4]), S_line_at_0⟩)]
theorem e_line_at (l : List Int) (s i : Int) : funR Try.prog t_line_at (annOf []) l_line_at 20 Try.f100 [.agg [.lst (.int .i64) l, .int .i64 s], .one (.int .i64 i)] [] =
  (ite2 (k_line_at_0 l s i (IntKind.wrap .i64 ((↑(List.length l) : Int) - 1)))
  (ite2 (decide (0 ≤ mr (↑(List.length l) : Int) i ∧ mr (↑(List.length l) : Int) i < (↑(List.length l) : Int)))
   (some ⟨.one (.int .i64 (gI l (Int.toNat (mr (↑(List.length l) : Int) i)))), [], []⟩)
   none)
  none) := by kernel_rfl
def U_line_at_0 (l : List Int) (s i m : Int) : LT :=
  (.br (decide (i < 0))
    (.br (decide (i < 0))
     (.leaf Ex.normal [.one (.int .i64 (IntKind.wrap .i64 (0 - i))), .one (.ptr 0 0), .one (.int .i64 m)] [some (.box [.lst (.int .i64) l, .int .i64 s])])
     (.leaf Ex.normal [.one (.int .i64 (IntKind.wrap .i64 (IntKind.wrap .i64 (2 * m) - i))), .one (.ptr 0 0), .one (.int .i64 m)] [some (.box [.lst (.int .i64) l, .int .i64 s])]))
    (.br (decide (i > m))
     (.br (decide (i < 0))
      (.leaf Ex.normal [.one (.int .i64 (IntKind.wrap .i64 (0 - i))), .one (.ptr 0 0), .one (.int .i64 m)] [some (.box [.lst (.int .i64) l, .int .i64 s])])
      (.leaf Ex.normal [.one (.int .i64 (IntKind.wrap .i64 (IntKind.wrap .i64 (2 * m) - i))), .one (.ptr 0 0), .one (.int .i64 m)] [some (.box [.lst (.int .i64) l, .int .i64 s])]))
     (.leaf (Ex.exit 0) [.one (.int .i64 i), .one (.ptr 0 0)] [some (.box [.lst (.int .i64) l, .int .i64 s])])))
def T_line_at_0 : TT := fun vs bl => (D_line_at_0 vs bl fun l s i m => some (U_line_at_0 l s i m)).getD .no
theorem tu_line_at_0 (l : List Int) (s i m : Int) : T_line_at_0 [.one (.int .i64 i), .one (.ptr 0 0), .one (.int .i64 m)] [some (.box [.lst (.int .i64) l, .int .i64 s])] = U_line_at_0 l s i m := by kernel_rfl
theorem b_line_at_0 (l : List Int) (s i m : Int) (Kc : KT) : exec Try.prog t_line_at (annOf []) l_line_at 20 0 (loopOf Try.f100 0) (unp 30 [1, 2, 5] [.one (.int .i64 i), .one (.ptr 0 0), .one (.int .i64 m)] [some (.box [.lst (.int .i64) l, .int .i64 s])]) (endc 0 30 [1, 2, 5] (kxOf [1, 2] [4]) Kc) =
  (U_line_at_0 l s i m).runc Kc := by kernel_rfl
def t_line_prd1 : FuncId → Option Summ := tabOf [(100, G_line_at)]
def l_line_prd1 : Nat → Option LSumm := ltOf []
theorem e_line_prd1 (l : List Int) (s i : Int) : funR Try.prog t_line_prd1 (annOf []) l_line_prd1 20 Try.f99 [.one (.int .i64 i), .one (.ptr 0 0)] [.box [.row 1, .int .i64 s], .arr 3 (.int .i64) l] =
  (ite2 (lnOk l && inr (-4200) 4200 (IntKind.wrap .i64 (i - 1)))
  (some ⟨.one (.int .i64 (at_ l (IntKind.wrap .i64 (i - 1)))), [some (.box [.row 1, .int .i64 s]), some (.arr 3 (.int .i64) l)], []⟩)
  none) := by kernel_rfl
def t_line_prd2 : FuncId → Option Summ := tabOf [(100, G_line_at)]
def l_line_prd2 : Nat → Option LSumm := ltOf []
theorem e_line_prd2 (l : List Int) (s i : Int) : funR Try.prog t_line_prd2 (annOf []) l_line_prd2 20 Try.f101 [.one (.int .i64 i), .one (.ptr 0 0)] [.box [.row 1, .int .i64 s], .arr 3 (.int .i64) l] =
  (ite2 (lnOk l && inr (-4200) 4200 (IntKind.wrap .i64 (i - 1)))
  (ite2 (lnOk l && inr (-4200) 4200 (IntKind.wrap .i64 (i + 1)))
   (some ⟨.one (.int .i64 (Int.fdiv (IntKind.wrap .i64 (at_ l (IntKind.wrap .i64 (i - 1)) + at_ l (IntKind.wrap .i64 (i + 1)))) 2)), [some (.box [.row 1, .int .i64 s]), some (.arr 3 (.int .i64) l)], []⟩)
   none)
  none) := by kernel_rfl
def t_line_prd3 : FuncId → Option Summ := tabOf [(100, G_line_at)]
def l_line_prd3 : Nat → Option LSumm := ltOf []
theorem e_line_prd3 (l : List Int) (s i : Int) : funR Try.prog t_line_prd3 (annOf []) l_line_prd3 20 Try.f102 [.one (.int .i64 i), .one (.ptr 0 0)] [.box [.row 1, .int .i64 s], .arr 3 (.int .i64) l] =
  (ite2 (lnOk l && inr (-4200) 4200 (IntKind.wrap .i64 (i - 1)))
  (ite2 (lnOk l && inr (-4200) 4200 (IntKind.wrap .i64 (i + 1)))
   (ite2 (lnOk l && inr (-4200) 4200 (IntKind.wrap .i64 (i - 3)))
    (ite2 (lnOk l && inr (-4200) 4200 (IntKind.wrap .i64 (i + 3)))
     (some ⟨.one (.int .i64 (Int.fdiv (IntKind.wrap .i64 (IntKind.wrap .i64 (IntKind.wrap .i64 (9 * IntKind.wrap .i64 (at_ l (IntKind.wrap .i64 (i - 1)) + at_ l (IntKind.wrap .i64 (i + 1)))) - IntKind.wrap .i64 (at_ l (IntKind.wrap .i64 (i - 3)) + at_ l (IntKind.wrap .i64 (i + 3)))) + 8)) 16)), [some (.box [.row 1, .int .i64 s]), some (.arr 3 (.int .i64) l)], []⟩)
     none)
    none)
   none)
  none) := by kernel_rfl
def t_line_upd1 : FuncId → Option Summ := tabOf [(100, G_line_at)]
def l_line_upd1 : Nat → Option LSumm := ltOf []
theorem e_line_upd1 (l : List Int) (s i : Int) : funR Try.prog t_line_upd1 (annOf []) l_line_upd1 20 Try.f103 [.one (.int .i64 i), .one (.ptr 0 0)] [.box [.row 1, .int .i64 s], .arr 3 (.int .i64) l] =
  (ite2 (lnOk l && inr (-4200) 4200 (IntKind.wrap .i64 (i + 1)))
  (some ⟨.one (.int .i64 (Int.fdiv (at_ l (IntKind.wrap .i64 (i + 1))) 2)), [some (.box [.row 1, .int .i64 s]), some (.arr 3 (.int .i64) l)], []⟩)
  none) := by kernel_rfl
def t_line_upd2 : FuncId → Option Summ := tabOf [(100, G_line_at)]
def l_line_upd2 : Nat → Option LSumm := ltOf []
theorem e_line_upd2 (l : List Int) (s i : Int) : funR Try.prog t_line_upd2 (annOf []) l_line_upd2 20 Try.f104 [.one (.int .i64 i), .one (.ptr 0 0)] [.box [.row 1, .int .i64 s], .arr 3 (.int .i64) l] =
  (ite2 (lnOk l && inr (-4200) 4200 (IntKind.wrap .i64 (i - 1)))
  (ite2 (lnOk l && inr (-4200) 4200 (IntKind.wrap .i64 (i + 1)))
   (some ⟨.one (.int .i64 (Int.fdiv (IntKind.wrap .i64 (IntKind.wrap .i64 (at_ l (IntKind.wrap .i64 (i - 1)) + at_ l (IntKind.wrap .i64 (i + 1))) + 2)) 4)), [some (.box [.row 1, .int .i64 s]), some (.arr 3 (.int .i64) l)], []⟩)
   none)
  none) := by kernel_rfl
def t_line_predict : FuncId → Option Summ := tabOf [(99, G_line_prd1), (101, G_line_prd2), (102, G_line_prd3)]
def l_line_predict : Nat → Option LSumm := ltOf []
theorem e_line_predict (l : List Int) (s k : Int) : funR Try.prog t_line_predict (annOf []) l_line_predict 20 Try.f89 [.agg [.row 0, .int .i64 s], .one (.int .i64 k)] [.arr 3 (.int .i64) l] =
  (ite2 (k == 1)
  (some ⟨.one (.fn 99 [1]), [some (.arr 3 (.int .i64) l)], [.box [.row 0, .int .i64 s]]⟩)
  (ite2 (k == 2)
   (some ⟨.one (.fn 101 [1]), [some (.arr 3 (.int .i64) l)], [.box [.row 0, .int .i64 s]]⟩)
   (some ⟨.one (.fn 102 [1]), [some (.arr 3 (.int .i64) l)], [.box [.row 0, .int .i64 s]]⟩))) := by kernel_rfl
def t_line_update : FuncId → Option Summ := tabOf [(103, G_line_upd1), (104, G_line_upd2)]
def l_line_update : Nat → Option LSumm := ltOf []
theorem e_line_update (l : List Int) (s k : Int) : funR Try.prog t_line_update (annOf []) l_line_update 20 Try.f90 [.agg [.row 0, .int .i64 s], .one (.int .i64 k)] [.arr 3 (.int .i64) l] =
  (ite2 (k == 1)
  (some ⟨.one (.fn 103 [1]), [some (.arr 3 (.int .i64) l)], [.box [.row 0, .int .i64 s]]⟩)
  (some ⟨.one (.fn 104 [1]), [some (.arr 3 (.int .i64) l)], [.box [.row 0, .int .i64 s]]⟩)) := by kernel_rfl
def t_step_prd1 : FuncId → Option Summ := tabOf [(99, G_line_prd1)]
def l_step_prd1 : Nat → Option LSumm := ltOf [(2, ⟨2, 35, [1, 2, 3, 4, 11, 12], (kxOf [] []), S_step_prd1_0⟩)]
theorem e_step_prd1 (l : List Int) (s u a b : Int) : funR Try.prog t_step_prd1 (annOf []) l_step_prd1 20 Try.f88 [.agg [.row 1, .int .i64 u], .one (.int .i64 a), .one (.int .i64 b), .one (.fn 99 [0])] [.box [.row 1, .int .i64 s], .arr 3 (.int .i64) l] =
  (ite2 (k_step_prd1_0 l s u a b (↑(List.length l) : Int) 0)
  (some ⟨.tup [], [some (.box [.row 1, .int .i64 s]), some (.arr 3 (.int .i64) (stp a b (prd 1) s l))], []⟩)
  none) := by kernel_rfl
def U_step_prd1_0 (l : List Int) (s u a b n i : Int) : LT :=
  (.br (decide (i < n))
    (.br (Int.tmod (IntKind.wrap .i64 (u + i)) 2 == a)
     (.br (decide (0 ≤ i ∧ i < (↑(List.length l) : Int)))
      (.br (decide (Int.toNat i < List.length l))
       (.br (lnOk l && inr 0 4096 i && fitB 36028797018963968 l)
        (.br (decide (0 ≤ i ∧ i < (↑(List.length l) : Int)))
         (.br (decide (Int.toNat i < List.length l))
          (.leaf Ex.normal [.one (.int .i64 a), .one (.int .i64 b), .one (.fn 99 [0]), .one (.ptr 2 0), .one (.int .i64 n), .one (.int .i64 (IntKind.wrap .i64 (i + 1)))] [some (.box [.row 1, .int .i64 s]), some (.arr 3 (.int .i64) (List.set l (Int.toNat i) (IntKind.wrap .i64 (gI l (Int.toNat i) + IntKind.wrap .i64 (b * prd 1 l i))))), some (.box [.row 1, .int .i64 u])])
          .no)
         .no)
        .no)
       .no)
      .no)
     (.leaf Ex.normal [.one (.int .i64 a), .one (.int .i64 b), .one (.fn 99 [0]), .one (.ptr 2 0), .one (.int .i64 n), .one (.int .i64 (IntKind.wrap .i64 (i + 1)))] [some (.box [.row 1, .int .i64 s]), some (.arr 3 (.int .i64) l), some (.box [.row 1, .int .i64 u])]))
    (.leaf (Ex.exit 0) [] [some (.box [.row 1, .int .i64 s]), some (.arr 3 (.int .i64) l)]))
def T_step_prd1_0 : TT := fun vs bl => (D_step_prd1_0 vs bl fun l s u a b n i => some (U_step_prd1_0 l s u a b n i)).getD .no
theorem tu_step_prd1_0 (l : List Int) (s u a b n i : Int) : T_step_prd1_0 [.one (.int .i64 a), .one (.int .i64 b), .one (.fn 99 [0]), .one (.ptr 2 0), .one (.int .i64 n), .one (.int .i64 i)] [some (.box [.row 1, .int .i64 s]), some (.arr 3 (.int .i64) l), some (.box [.row 1, .int .i64 u])] = U_step_prd1_0 l s u a b n i := by kernel_rfl
theorem b_step_prd1_0 (l : List Int) (s u a b n i : Int) (Kc : KT) : exec Try.prog t_step_prd1 (annOf []) l_step_prd1 20 2 (loopOf Try.f88 0) (unp 35 [1, 2, 3, 4, 11, 12] [.one (.int .i64 a), .one (.int .i64 b), .one (.fn 99 [0]), .one (.ptr 2 0), .one (.int .i64 n), .one (.int .i64 i)] [some (.box [.row 1, .int .i64 s]), some (.arr 3 (.int .i64) l), some (.box [.row 1, .int .i64 u])]) (endc 2 35 [1, 2, 3, 4, 11, 12] (kxOf [] []) Kc) =
  (U_step_prd1_0 l s u a b n i).runc Kc := by kernel_rfl
def t_step_prd2 : FuncId → Option Summ := tabOf [(101, G_line_prd2)]
def l_step_prd2 : Nat → Option LSumm := ltOf [(2, ⟨2, 35, [1, 2, 3, 4, 11, 12], (kxOf [] []), S_step_prd2_0⟩)]
theorem e_step_prd2 (l : List Int) (s u a b : Int) : funR Try.prog t_step_prd2 (annOf []) l_step_prd2 20 Try.f88 [.agg [.row 1, .int .i64 u], .one (.int .i64 a), .one (.int .i64 b), .one (.fn 101 [0])] [.box [.row 1, .int .i64 s], .arr 3 (.int .i64) l] =
  (ite2 (k_step_prd2_0 l s u a b (↑(List.length l) : Int) 0)
  (some ⟨.tup [], [some (.box [.row 1, .int .i64 s]), some (.arr 3 (.int .i64) (stp a b (prd 2) s l))], []⟩)
  none) := by kernel_rfl
def U_step_prd2_0 (l : List Int) (s u a b n i : Int) : LT :=
  (.br (decide (i < n))
    (.br (Int.tmod (IntKind.wrap .i64 (u + i)) 2 == a)
     (.br (decide (0 ≤ i ∧ i < (↑(List.length l) : Int)))
      (.br (decide (Int.toNat i < List.length l))
       (.br (lnOk l && inr 0 4096 i && fitB 36028797018963968 l)
        (.br (decide (0 ≤ i ∧ i < (↑(List.length l) : Int)))
         (.br (decide (Int.toNat i < List.length l))
          (.leaf Ex.normal [.one (.int .i64 a), .one (.int .i64 b), .one (.fn 101 [0]), .one (.ptr 2 0), .one (.int .i64 n), .one (.int .i64 (IntKind.wrap .i64 (i + 1)))] [some (.box [.row 1, .int .i64 s]), some (.arr 3 (.int .i64) (List.set l (Int.toNat i) (IntKind.wrap .i64 (gI l (Int.toNat i) + IntKind.wrap .i64 (b * prd 2 l i))))), some (.box [.row 1, .int .i64 u])])
          .no)
         .no)
        .no)
       .no)
      .no)
     (.leaf Ex.normal [.one (.int .i64 a), .one (.int .i64 b), .one (.fn 101 [0]), .one (.ptr 2 0), .one (.int .i64 n), .one (.int .i64 (IntKind.wrap .i64 (i + 1)))] [some (.box [.row 1, .int .i64 s]), some (.arr 3 (.int .i64) l), some (.box [.row 1, .int .i64 u])]))
    (.leaf (Ex.exit 0) [] [some (.box [.row 1, .int .i64 s]), some (.arr 3 (.int .i64) l)]))
def T_step_prd2_0 : TT := fun vs bl => (D_step_prd2_0 vs bl fun l s u a b n i => some (U_step_prd2_0 l s u a b n i)).getD .no
theorem tu_step_prd2_0 (l : List Int) (s u a b n i : Int) : T_step_prd2_0 [.one (.int .i64 a), .one (.int .i64 b), .one (.fn 101 [0]), .one (.ptr 2 0), .one (.int .i64 n), .one (.int .i64 i)] [some (.box [.row 1, .int .i64 s]), some (.arr 3 (.int .i64) l), some (.box [.row 1, .int .i64 u])] = U_step_prd2_0 l s u a b n i := by kernel_rfl
theorem b_step_prd2_0 (l : List Int) (s u a b n i : Int) (Kc : KT) : exec Try.prog t_step_prd2 (annOf []) l_step_prd2 20 2 (loopOf Try.f88 0) (unp 35 [1, 2, 3, 4, 11, 12] [.one (.int .i64 a), .one (.int .i64 b), .one (.fn 101 [0]), .one (.ptr 2 0), .one (.int .i64 n), .one (.int .i64 i)] [some (.box [.row 1, .int .i64 s]), some (.arr 3 (.int .i64) l), some (.box [.row 1, .int .i64 u])]) (endc 2 35 [1, 2, 3, 4, 11, 12] (kxOf [] []) Kc) =
  (U_step_prd2_0 l s u a b n i).runc Kc := by kernel_rfl
def t_step_prd3 : FuncId → Option Summ := tabOf [(102, G_line_prd3)]
def l_step_prd3 : Nat → Option LSumm := ltOf [(2, ⟨2, 35, [1, 2, 3, 4, 11, 12], (kxOf [] []), S_step_prd3_0⟩)]
theorem e_step_prd3 (l : List Int) (s u a b : Int) : funR Try.prog t_step_prd3 (annOf []) l_step_prd3 20 Try.f88 [.agg [.row 1, .int .i64 u], .one (.int .i64 a), .one (.int .i64 b), .one (.fn 102 [0])] [.box [.row 1, .int .i64 s], .arr 3 (.int .i64) l] =
  (ite2 (k_step_prd3_0 l s u a b (↑(List.length l) : Int) 0)
  (some ⟨.tup [], [some (.box [.row 1, .int .i64 s]), some (.arr 3 (.int .i64) (stp a b (prd 3) s l))], []⟩)
  none) := by kernel_rfl
def U_step_prd3_0 (l : List Int) (s u a b n i : Int) : LT :=
  (.br (decide (i < n))
    (.br (Int.tmod (IntKind.wrap .i64 (u + i)) 2 == a)
     (.br (decide (0 ≤ i ∧ i < (↑(List.length l) : Int)))
      (.br (decide (Int.toNat i < List.length l))
       (.br (lnOk l && inr 0 4096 i && fitB 36028797018963968 l)
        (.br (decide (0 ≤ i ∧ i < (↑(List.length l) : Int)))
         (.br (decide (Int.toNat i < List.length l))
          (.leaf Ex.normal [.one (.int .i64 a), .one (.int .i64 b), .one (.fn 102 [0]), .one (.ptr 2 0), .one (.int .i64 n), .one (.int .i64 (IntKind.wrap .i64 (i + 1)))] [some (.box [.row 1, .int .i64 s]), some (.arr 3 (.int .i64) (List.set l (Int.toNat i) (IntKind.wrap .i64 (gI l (Int.toNat i) + IntKind.wrap .i64 (b * prd 3 l i))))), some (.box [.row 1, .int .i64 u])])
          .no)
         .no)
        .no)
       .no)
      .no)
     (.leaf Ex.normal [.one (.int .i64 a), .one (.int .i64 b), .one (.fn 102 [0]), .one (.ptr 2 0), .one (.int .i64 n), .one (.int .i64 (IntKind.wrap .i64 (i + 1)))] [some (.box [.row 1, .int .i64 s]), some (.arr 3 (.int .i64) l), some (.box [.row 1, .int .i64 u])]))
    (.leaf (Ex.exit 0) [] [some (.box [.row 1, .int .i64 s]), some (.arr 3 (.int .i64) l)]))
def T_step_prd3_0 : TT := fun vs bl => (D_step_prd3_0 vs bl fun l s u a b n i => some (U_step_prd3_0 l s u a b n i)).getD .no
theorem tu_step_prd3_0 (l : List Int) (s u a b n i : Int) : T_step_prd3_0 [.one (.int .i64 a), .one (.int .i64 b), .one (.fn 102 [0]), .one (.ptr 2 0), .one (.int .i64 n), .one (.int .i64 i)] [some (.box [.row 1, .int .i64 s]), some (.arr 3 (.int .i64) l), some (.box [.row 1, .int .i64 u])] = U_step_prd3_0 l s u a b n i := by kernel_rfl
theorem b_step_prd3_0 (l : List Int) (s u a b n i : Int) (Kc : KT) : exec Try.prog t_step_prd3 (annOf []) l_step_prd3 20 2 (loopOf Try.f88 0) (unp 35 [1, 2, 3, 4, 11, 12] [.one (.int .i64 a), .one (.int .i64 b), .one (.fn 102 [0]), .one (.ptr 2 0), .one (.int .i64 n), .one (.int .i64 i)] [some (.box [.row 1, .int .i64 s]), some (.arr 3 (.int .i64) l), some (.box [.row 1, .int .i64 u])]) (endc 2 35 [1, 2, 3, 4, 11, 12] (kxOf [] []) Kc) =
  (U_step_prd3_0 l s u a b n i).runc Kc := by kernel_rfl
def t_step_upd1 : FuncId → Option Summ := tabOf [(103, G_line_upd1)]
def l_step_upd1 : Nat → Option LSumm := ltOf [(2, ⟨2, 35, [1, 2, 3, 4, 11, 12], (kxOf [] []), S_step_upd1_0⟩)]
theorem e_step_upd1 (l : List Int) (s u a b : Int) : funR Try.prog t_step_upd1 (annOf []) l_step_upd1 20 Try.f88 [.agg [.row 1, .int .i64 u], .one (.int .i64 a), .one (.int .i64 b), .one (.fn 103 [0])] [.box [.row 1, .int .i64 s], .arr 3 (.int .i64) l] =
  (ite2 (k_step_upd1_0 l s u a b (↑(List.length l) : Int) 0)
  (some ⟨.tup [], [some (.box [.row 1, .int .i64 s]), some (.arr 3 (.int .i64) (stp a b (upd 1) s l))], []⟩)
  none) := by kernel_rfl
def U_step_upd1_0 (l : List Int) (s u a b n i : Int) : LT :=
  (.br (decide (i < n))
    (.br (Int.tmod (IntKind.wrap .i64 (u + i)) 2 == a)
     (.br (decide (0 ≤ i ∧ i < (↑(List.length l) : Int)))
      (.br (decide (Int.toNat i < List.length l))
       (.br (lnOk l && inr 0 4096 i && fitB 36028797018963968 l)
        (.br (decide (0 ≤ i ∧ i < (↑(List.length l) : Int)))
         (.br (decide (Int.toNat i < List.length l))
          (.leaf Ex.normal [.one (.int .i64 a), .one (.int .i64 b), .one (.fn 103 [0]), .one (.ptr 2 0), .one (.int .i64 n), .one (.int .i64 (IntKind.wrap .i64 (i + 1)))] [some (.box [.row 1, .int .i64 s]), some (.arr 3 (.int .i64) (List.set l (Int.toNat i) (IntKind.wrap .i64 (gI l (Int.toNat i) + IntKind.wrap .i64 (b * upd 1 l i))))), some (.box [.row 1, .int .i64 u])])
          .no)
         .no)
        .no)
       .no)
      .no)
     (.leaf Ex.normal [.one (.int .i64 a), .one (.int .i64 b), .one (.fn 103 [0]), .one (.ptr 2 0), .one (.int .i64 n), .one (.int .i64 (IntKind.wrap .i64 (i + 1)))] [some (.box [.row 1, .int .i64 s]), some (.arr 3 (.int .i64) l), some (.box [.row 1, .int .i64 u])]))
    (.leaf (Ex.exit 0) [] [some (.box [.row 1, .int .i64 s]), some (.arr 3 (.int .i64) l)]))
def T_step_upd1_0 : TT := fun vs bl => (D_step_upd1_0 vs bl fun l s u a b n i => some (U_step_upd1_0 l s u a b n i)).getD .no
theorem tu_step_upd1_0 (l : List Int) (s u a b n i : Int) : T_step_upd1_0 [.one (.int .i64 a), .one (.int .i64 b), .one (.fn 103 [0]), .one (.ptr 2 0), .one (.int .i64 n), .one (.int .i64 i)] [some (.box [.row 1, .int .i64 s]), some (.arr 3 (.int .i64) l), some (.box [.row 1, .int .i64 u])] = U_step_upd1_0 l s u a b n i := by kernel_rfl
theorem b_step_upd1_0 (l : List Int) (s u a b n i : Int) (Kc : KT) : exec Try.prog t_step_upd1 (annOf []) l_step_upd1 20 2 (loopOf Try.f88 0) (unp 35 [1, 2, 3, 4, 11, 12] [.one (.int .i64 a), .one (.int .i64 b), .one (.fn 103 [0]), .one (.ptr 2 0), .one (.int .i64 n), .one (.int .i64 i)] [some (.box [.row 1, .int .i64 s]), some (.arr 3 (.int .i64) l), some (.box [.row 1, .int .i64 u])]) (endc 2 35 [1, 2, 3, 4, 11, 12] (kxOf [] []) Kc) =
  (U_step_upd1_0 l s u a b n i).runc Kc := by kernel_rfl
def t_step_upd2 : FuncId → Option Summ := tabOf [(104, G_line_upd2)]
def l_step_upd2 : Nat → Option LSumm := ltOf [(2, ⟨2, 35, [1, 2, 3, 4, 11, 12], (kxOf [] []), S_step_upd2_0⟩)]
theorem e_step_upd2 (l : List Int) (s u a b : Int) : funR Try.prog t_step_upd2 (annOf []) l_step_upd2 20 Try.f88 [.agg [.row 1, .int .i64 u], .one (.int .i64 a), .one (.int .i64 b), .one (.fn 104 [0])] [.box [.row 1, .int .i64 s], .arr 3 (.int .i64) l] =
  (ite2 (k_step_upd2_0 l s u a b (↑(List.length l) : Int) 0)
  (some ⟨.tup [], [some (.box [.row 1, .int .i64 s]), some (.arr 3 (.int .i64) (stp a b (upd 2) s l))], []⟩)
  none) := by kernel_rfl
def U_step_upd2_0 (l : List Int) (s u a b n i : Int) : LT :=
  (.br (decide (i < n))
    (.br (Int.tmod (IntKind.wrap .i64 (u + i)) 2 == a)
     (.br (decide (0 ≤ i ∧ i < (↑(List.length l) : Int)))
      (.br (decide (Int.toNat i < List.length l))
       (.br (lnOk l && inr 0 4096 i && fitB 36028797018963968 l)
        (.br (decide (0 ≤ i ∧ i < (↑(List.length l) : Int)))
         (.br (decide (Int.toNat i < List.length l))
          (.leaf Ex.normal [.one (.int .i64 a), .one (.int .i64 b), .one (.fn 104 [0]), .one (.ptr 2 0), .one (.int .i64 n), .one (.int .i64 (IntKind.wrap .i64 (i + 1)))] [some (.box [.row 1, .int .i64 s]), some (.arr 3 (.int .i64) (List.set l (Int.toNat i) (IntKind.wrap .i64 (gI l (Int.toNat i) + IntKind.wrap .i64 (b * upd 2 l i))))), some (.box [.row 1, .int .i64 u])])
          .no)
         .no)
        .no)
       .no)
      .no)
     (.leaf Ex.normal [.one (.int .i64 a), .one (.int .i64 b), .one (.fn 104 [0]), .one (.ptr 2 0), .one (.int .i64 n), .one (.int .i64 (IntKind.wrap .i64 (i + 1)))] [some (.box [.row 1, .int .i64 s]), some (.arr 3 (.int .i64) l), some (.box [.row 1, .int .i64 u])]))
    (.leaf (Ex.exit 0) [] [some (.box [.row 1, .int .i64 s]), some (.arr 3 (.int .i64) l)]))
def T_step_upd2_0 : TT := fun vs bl => (D_step_upd2_0 vs bl fun l s u a b n i => some (U_step_upd2_0 l s u a b n i)).getD .no
theorem tu_step_upd2_0 (l : List Int) (s u a b n i : Int) : T_step_upd2_0 [.one (.int .i64 a), .one (.int .i64 b), .one (.fn 104 [0]), .one (.ptr 2 0), .one (.int .i64 n), .one (.int .i64 i)] [some (.box [.row 1, .int .i64 s]), some (.arr 3 (.int .i64) l), some (.box [.row 1, .int .i64 u])] = U_step_upd2_0 l s u a b n i := by kernel_rfl
theorem b_step_upd2_0 (l : List Int) (s u a b n i : Int) (Kc : KT) : exec Try.prog t_step_upd2 (annOf []) l_step_upd2 20 2 (loopOf Try.f88 0) (unp 35 [1, 2, 3, 4, 11, 12] [.one (.int .i64 a), .one (.int .i64 b), .one (.fn 104 [0]), .one (.ptr 2 0), .one (.int .i64 n), .one (.int .i64 i)] [some (.box [.row 1, .int .i64 s]), some (.arr 3 (.int .i64) l), some (.box [.row 1, .int .i64 u])]) (endc 2 35 [1, 2, 3, 4, 11, 12] (kxOf [] []) Kc) =
  (U_step_upd2_0 l s u a b n i).runc Kc := by kernel_rfl
def t_lift_Forward : FuncId → Option Summ := tabOf [(79, G_lift_known), (87, G_lift_bounded), (88, G_line_step), (89, G_line_predict), (90, G_line_update), (91, G_ext_Split)]
def l_lift_Forward : Nat → Option LSumm := ltOf []
theorem e_lift_Forward (l : List Int) (s k : Int) : funR Try.prog t_lift_Forward (annOf []) l_lift_Forward 20 Try.f68 [.one (.lst (.int .i64) l), .one (.int .i64 s), .one (.int .i64 k)] [] =
  (ite2 (!inr 1 3 k)
  (some ⟨.tup [(false, [.row 0]), (false, [.row 1]), (false, [.int .i64 3])], [], [.arr 3 (.int .i64) ([] : List (Int)), .arr 3 (.int .i64) ([] : List (Int))]⟩)
  (ite2 (decide (s < 0))
   (some ⟨.tup [(false, [.row 0]), (false, [.row 1]), (false, [.int .i64 2])], [], [.arr 3 (.int .i64) ([] : List (Int)), .arr 3 (.int .i64) ([] : List (Int))]⟩)
   (ite2 (decide (s > 4096))
    (some ⟨.tup [(false, [.row 0]), (false, [.row 1]), (false, [.int .i64 2])], [], [.arr 3 (.int .i64) ([] : List (Int)), .arr 3 (.int .i64) ([] : List (Int))]⟩)
    (ite2 (decide ((↑(List.length l) : Int) > 4096))
     (some ⟨.tup [(false, [.row 0]), (false, [.row 1]), (false, [.int .i64 2])], [], [.arr 3 (.int .i64) ([] : List (Int)), .arr 3 (.int .i64) ([] : List (Int))]⟩)
     (ite2 (small (List.length l) && true)
      (ite2 (!fitB 281474976710656 l)
       (some ⟨.tup [(false, [.row 0]), (false, [.row 1]), (false, [.int .i64 2])], [], [.arr 3 (.int .i64) ([] : List (Int)), .arr 3 (.int .i64) ([] : List (Int))]⟩)
       (ite2 (decide (List.length l * 9 ≤ 140737488355328))
        (ite2 (decide ((↑(List.length l) : Int) > 1))
         (ite2 (decide (s = s) && (lnOk l && inr 0 4096 s && fitB 11000000000000000 l && true) && okf (pfn k))
          (ite2 (decide (s = s) && (lnOk (stp 1 (-1) (ffn (pfn k)) s l) && inr 0 4096 s && fitB 11000000000000000 (stp 1 (-1) (ffn (pfn k)) s l) && true) && okf (ufn k))
           (ite2 (small (List.length (stp 0 1 (ffn (ufn k)) s (stp 1 (-1) (ffn (pfn k)) s l))))
            (some ⟨.tup [(false, [.row 0]), (false, [.row 1]), (false, [.int .i64 (spl (stp 0 1 (ffn (ufn k)) s (stp 1 (-1) (ffn (pfn k)) s l)) s).2.2])], [], [.arr 3 (.int .i64) (spl (stp 0 1 (ffn (ufn k)) s (stp 1 (-1) (ffn (pfn k)) s l)) s).1, .arr 3 (.int .i64) (spl (stp 0 1 (ffn (ufn k)) s (stp 1 (-1) (ffn (pfn k)) s l)) s).2.1]⟩)
            none)
           none)
          none)
         (ite2 (small (List.length l))
          (some ⟨.tup [(false, [.row 0]), (false, [.row 1]), (false, [.int .i64 (spl l s).2.2])], [], [.arr 3 (.int .i64) (spl l s).1, .arr 3 (.int .i64) (spl l s).2.1]⟩)
          none))
        none))
      none))))) := by kernel_rfl
def t_lift_Inverse : FuncId → Option Summ := tabOf [(79, G_lift_known), (87, G_lift_bounded), (88, G_line_step), (89, G_line_predict), (90, G_line_update), (97, G_ext_Join)]
def l_lift_Inverse : Nat → Option LSumm := ltOf []
theorem e_lift_Inverse (l m : List Int) (s k : Int) : funR Try.prog t_lift_Inverse (annOf []) l_lift_Inverse 20 Try.f83 [.one (.lst (.int .i64) l), .one (.lst (.int .i64) m), .one (.int .i64 s), .one (.int .i64 k)] [] =
  (ite2 (!inr 1 3 k)
  (some ⟨.tup [(false, [.row 0]), (false, [.int .i64 3])], [], [.arr 3 (.int .i64) ([] : List (Int))]⟩)
  (ite2 (decide (s < 0))
   (some ⟨.tup [(false, [.row 0]), (false, [.int .i64 2])], [], [.arr 3 (.int .i64) ([] : List (Int))]⟩)
   (ite2 (decide (s > 4096))
    (some ⟨.tup [(false, [.row 0]), (false, [.int .i64 2])], [], [.arr 3 (.int .i64) ([] : List (Int))]⟩)
    (ite2 (decide ((↑(List.length l) : Int) > 4096))
     (some ⟨.tup [(false, [.row 0]), (false, [.int .i64 2])], [], [.arr 3 (.int .i64) ([] : List (Int))]⟩)
     (ite2 (decide ((↑(List.length m) : Int) > IntKind.wrap .i64 (4096 - (↑(List.length l) : Int))))
      (some ⟨.tup [(false, [.row 0]), (false, [.int .i64 2])], [], [.arr 3 (.int .i64) ([] : List (Int))]⟩)
      (ite2 (small (List.length l) && true)
       (ite2 (!fitB 1125899906842624 l)
        (some ⟨.tup [(false, [.row 0]), (false, [.int .i64 2])], [], [.arr 3 (.int .i64) ([] : List (Int))]⟩)
        (ite2 (small (List.length m) && true)
         (ite2 (!fitB 1125899906842624 m)
          (some ⟨.tup [(false, [.row 0]), (false, [.int .i64 2])], [], [.arr 3 (.int .i64) ([] : List (Int))]⟩)
          (ite2 (small (List.length l) && small (List.length m))
           (ite2 ((jn l m s).2 != 0)
            (some ⟨.tup [(false, [.row 0]), (false, [.int .i64 (jn l m s).2])], [], [.arr 3 (.int .i64) ([] : List (Int))]⟩)
            (ite2 (decide ((↑(List.length (jn l m s).1) : Int) > 1))
             (ite2 (decide (s = s) && (lnOk (jn l m s).1 && inr 0 4096 s && fitB 11000000000000000 (jn l m s).1 && true) && okf (ufn k))
              (ite2 (decide (s = s) && (lnOk (stp 0 (-1) (ffn (ufn k)) s (jn l m s).1) && inr 0 4096 s && fitB 11000000000000000 (stp 0 (-1) (ffn (ufn k)) s (jn l m s).1) && true) && okf (pfn k))
               (some ⟨.tup [(false, [.row 0]), (false, [.int .i64 0])], [], [.arr 3 (.int .i64) (stp 1 1 (ffn (pfn k)) s (stp 0 (-1) (ffn (ufn k)) s (jn l m s).1))]⟩)
               none)
              none)
             (some ⟨.tup [(false, [.row 0]), (false, [.int .i64 0])], [], [.arr 3 (.int .i64) (jn l m s).1]⟩)))
           none))
         none))
       none)))))) := by kernel_rfl


def t_pl_width : FuncId → Option Summ := tabOf []
def l_pl_width : Nat → Option LSumm := ltOf []
theorem e_pl_width (a b c d : Int) (l : List Int) : funR Try.prog t_pl_width (annOf []) l_pl_width 20 Try.f86 [.agg [.int .i64 a, .int .i64 b, .int .i64 c, .int .i64 d, .lst (.int .i64) l]] [] =
  (some ⟨.one (.int .i64 (IntKind.wrap .i64 (c - a))), [], []⟩) := by kernel_rfl
def t_pl_Valid : FuncId → Option Summ := tabOf [(46, G_rect_Valid), (60, G_rect_Area)]
def l_pl_Valid : Nat → Option LSumm := ltOf []
theorem e_pl_Valid (a b c d : Int) (l : List Int) : funR Try.prog t_pl_Valid (annOf []) l_pl_Valid 20 Try.f39 [.agg [.int .i64 a, .int .i64 b, .int .i64 c, .int .i64 d, .lst (.int .i64) l]] [] =
  (ite2 (valid a b c d)
  (ite2 (decide (area a b c d ≤ 1048576))
   (some ⟨.one (.bool ((↑(List.length l) : Int) == area a b c d)), [], []⟩)
   (some ⟨.one (.bool false), [], []⟩))
  (some ⟨.one (.bool false), [], []⟩)) := by kernel_rfl
def t_dwt_known : FuncId → Option Summ := tabOf [(40, G_lift_Margin)]
def l_dwt_known : Nat → Option LSumm := ltOf []
theorem e_dwt_known (k : Int) : funR Try.prog t_dwt_known (annOf []) l_dwt_known 20 Try.f65 [.one (.int .i64 k)] [] =
  (some ⟨.one (.bool (decide (marg k > 0))), [], []⟩) := by kernel_rfl
def t_dwt_exceeds : FuncId → Option Summ := tabOf []
def l_dwt_exceeds : Nat → Option LSumm := ltOf [(2, ⟨0, 23, [1, 7, 8, 9], (kxOf [] [4]), S_dwt_exceeds_0⟩)]
theorem e_dwt_exceeds (l : List Int) (b : Int) : funR Try.prog t_dwt_exceeds (annOf []) l_dwt_exceeds 20 Try.f66 [.one (.lst (.int .i64) l), .one (.int .i64 b)] [] =
  (ite2 (k_dwt_exceeds_0 b l (↑(List.length l) : Int) 0)
  (ite2 (p_dwt_exceeds_0 b l)
   (some ⟨.one (.bool false), [], []⟩)
   (some ⟨.one (.bool true), [], []⟩))
  none) := by kernel_rfl
def U_dwt_exceeds_0 (b : Int) (l : List Int) (n i : Int) : LT :=
  (.br (decide (i < n))
    (.br (decide (0 ≤ i ∧ i < (↑(List.length l) : Int)))
     (.br (decide (gI l (Int.toNat i) > b))
      (.leaf Ex.ret [.one (.bool true)] [])
      (.br (decide (gI l (Int.toNat i) < IntKind.wrap .i64 (0 - b)))
       (.leaf Ex.ret [.one (.bool true)] [])
       (.leaf Ex.normal [.one (.int .i64 b), .one (.lst (.int .i64) l), .one (.int .i64 n), .one (.int .i64 (IntKind.wrap .i64 (i + 1)))] [])))
     .no)
    (.leaf (Ex.exit 0) [] []))
def T_dwt_exceeds_0 : TT := fun vs bl => (D_dwt_exceeds_0 vs bl fun b l n i => some (U_dwt_exceeds_0 b l n i)).getD .no
theorem tu_dwt_exceeds_0 (b : Int) (l : List Int) (n i : Int) : T_dwt_exceeds_0 [.one (.int .i64 b), .one (.lst (.int .i64) l), .one (.int .i64 n), .one (.int .i64 i)] [] = U_dwt_exceeds_0 b l n i := by kernel_rfl
theorem b_dwt_exceeds_0 (b : Int) (l : List Int) (n i : Int) (Kc : KT) : exec Try.prog t_dwt_exceeds (annOf []) l_dwt_exceeds 20 0 (loopOf Try.f66 0) (unp 23 [1, 7, 8, 9] [.one (.int .i64 b), .one (.lst (.int .i64) l), .one (.int .i64 n), .one (.int .i64 i)] []) (endc 0 23 [1, 7, 8, 9] (kxOf [] [4]) Kc) =
  (U_dwt_exceeds_0 b l n i).runc Kc := by kernel_rfl
def t_dwt_empty : FuncId → Option Summ := tabOf [(60, G_rect_Area)]
def l_dwt_empty : Nat → Option LSumm := ltOf []
theorem e_dwt_empty (a b c d : Int) : funR Try.prog t_dwt_empty (annOf []) l_dwt_empty 20 Try.f69 [.agg [.int .i64 a, .int .i64 b, .int .i64 c, .int .i64 d]] [] =
  (ite2 (decide (0 ≤ area a b c d ∧ area a b c d ≤ area a b c d ∧ area a b c d * 9 ≤ 140737488355328))
  (some ⟨.agg [.int .i64 a, .int .i64 b, .int .i64 c, .int .i64 d, .row 0], [], [.arr 3 (.int .i64) (List.replicate (Int.toNat (area a b c d)) (0 : Int))]⟩)
  none) := by kernel_rfl
def t_pl_Row : FuncId → Option Summ := tabOf [(39, G_pl_Valid), (86, G_pl_width)]
def l_pl_Row : Nat → Option LSumm := ltOf []
theorem e_pl_Row (a b c d : Int) (l : List Int) (y : Int) : funR Try.prog t_pl_Row (annOf []) l_pl_Row 20 Try.f67 [.agg [.int .i64 a, .int .i64 b, .int .i64 c, .int .i64 d, .lst (.int .i64) l], .one (.int .i64 y)] [] =
  (ite2 (!plV a b c d l)
  (some ⟨.tup [(false, [.row 0]), (false, [.bool false])], [], [.arr 3 (.int .i64) ([] : List (Int))]⟩)
  (ite2 (decide (y < b))
   (some ⟨.tup [(false, [.row 0]), (false, [.bool false])], [], [.arr 3 (.int .i64) ([] : List (Int))]⟩)
   (ite2 (decide (y ≥ d))
    (some ⟨.tup [(false, [.row 0]), (false, [.bool false])], [], [.arr 3 (.int .i64) ([] : List (Int))]⟩)
    (ite2 (decide (0 ≤ IntKind.wrap .i64 (c - a) ∧ IntKind.wrap .i64 (c - a) ≤ IntKind.wrap .i64 (c - a) ∧ IntKind.wrap .i64 (c - a) * 9 ≤ 140737488355328))
     (ite2 (true && decide (0 ≤ IntKind.wrap .i64 (IntKind.wrap .i64 (y - b) * IntKind.wrap .i64 (c - a)) ∧ IntKind.wrap .i64 (IntKind.wrap .i64 (y - b) * IntKind.wrap .i64 (c - a)) ≤ (↑(List.length l) : Int)))
      (some ⟨.tup [(false, [.row 0]), (false, [.bool true])], [], [.arr 3 (.int .i64) (List.take (List.length (List.replicate (Int.toNat (IntKind.wrap .i64 (c - a))) (0 : Int))) (List.take (List.length l - Int.toNat (IntKind.wrap .i64 (IntKind.wrap .i64 (y - b) * IntKind.wrap .i64 (c - a)))) (List.drop (Int.toNat (IntKind.wrap .i64 (IntKind.wrap .i64 (y - b) * IntKind.wrap .i64 (c - a)))) l)) ++ List.drop (min (List.length (List.take (List.length l - Int.toNat (IntKind.wrap .i64 (IntKind.wrap .i64 (y - b) * IntKind.wrap .i64 (c - a)))) (List.drop (Int.toNat (IntKind.wrap .i64 (IntKind.wrap .i64 (y - b) * IntKind.wrap .i64 (c - a)))) l))) (List.length (List.replicate (Int.toNat (IntKind.wrap .i64 (c - a))) (0 : Int)))) (List.replicate (Int.toNat (IntKind.wrap .i64 (c - a))) (0 : Int)))]⟩)
      none)
     none)))) := by kernel_rfl
def t_pl_Column : FuncId → Option Summ := tabOf [(39, G_pl_Valid), (86, G_pl_width)]
def l_pl_Column : Nat → Option LSumm := ltOf [(5, ⟨0, 56, [2, 6, 7], (kxOf [6] [4, 5]), S_pl_Column_0⟩)]
theorem e_pl_Column (a b c d : Int) (l : List Int) (x : Int) : funR Try.prog t_pl_Column (annOf []) l_pl_Column 20 Try.f71 [.agg [.int .i64 a, .int .i64 b, .int .i64 c, .int .i64 d, .lst (.int .i64) l], .one (.int .i64 x)] [] =
  (ite2 (!plV a b c d l)
  (some ⟨.tup [(false, [.row 0]), (false, [.bool false])], [], [.arr 3 (.int .i64) ([] : List (Int))]⟩)
  (ite2 (decide (x < a))
   (some ⟨.tup [(false, [.row 0]), (false, [.bool false])], [], [.arr 3 (.int .i64) ([] : List (Int))]⟩)
   (ite2 (decide (x ≥ c))
    (some ⟨.tup [(false, [.row 0]), (false, [.bool false])], [], [.arr 3 (.int .i64) ([] : List (Int))]⟩)
    (ite2 (decide ((0 : Int) ≤ 0 ∧ 0 ≤ IntKind.wrap .i64 (d - b) ∧ IntKind.wrap .i64 (d - b) * 9 ≤ 140737488355328))
     (ite2 (k_pl_Column_0 a b c d (IntKind.wrap .i64 (x - a)) l (List.replicate 0 (0 : Int)))
      (some ⟨.tup [(false, [.row 0]), (false, [.bool true])], [], [.arr 3 (.int .i64) (colOf l (Int.toNat (c - a)) (Int.toNat (IntKind.wrap .i64 (x - a))) (Int.toNat (d - b)))]⟩)
      none)
     none)))) := by kernel_rfl
def U_pl_Column_0 (a b c d i : Int) (l v : List Int) : LT :=
  (.br (decide (i < (↑(List.length l) : Int)))
    (.br (decide (0 ≤ i ∧ i < (↑(List.length l) : Int)))
     (.br (decide ((List.length v + List.length [gI l (Int.toNat i)]) * 9 ≤ 140737488355328))
      (.leaf Ex.normal [.one (.ptr 0 0), .one (.row 1), .one (.int .i64 (IntKind.wrap .i64 (i + IntKind.wrap .i64 (c - a))))] [some (.box [.int .i64 a, .int .i64 b, .int .i64 c, .int .i64 d, .lst (.int .i64) l]), some (.arr 3 (.int .i64) (v ++ [gI l (Int.toNat i)]))])
      .no)
     .no)
    (.leaf (Ex.exit 0) [.one (.row 0)] [some (.arr 3 (.int .i64) v)]))
def T_pl_Column_0 : TT := fun vs bl => (D_pl_Column_0 vs bl fun a b c d i l v => some (U_pl_Column_0 a b c d i l v)).getD .no
theorem tu_pl_Column_0 (a b c d i : Int) (l v : List Int) : T_pl_Column_0 [.one (.ptr 0 0), .one (.row 1), .one (.int .i64 i)] [some (.box [.int .i64 a, .int .i64 b, .int .i64 c, .int .i64 d, .lst (.int .i64) l]), some (.arr 3 (.int .i64) v)] = U_pl_Column_0 a b c d i l v := by kernel_rfl
theorem b_pl_Column_0 (a b c d i : Int) (l v : List Int) (Kc : KT) : exec Try.prog t_pl_Column (annOf []) l_pl_Column 20 0 (loopOf Try.f71 0) (unp 56 [2, 6, 7] [.one (.ptr 0 0), .one (.row 1), .one (.int .i64 i)] [some (.box [.int .i64 a, .int .i64 b, .int .i64 c, .int .i64 d, .lst (.int .i64) l]), some (.arr 3 (.int .i64) v)]) (endc 0 56 [2, 6, 7] (kxOf [6] [4, 5]) Kc) =
  (U_pl_Column_0 a b c d i l v).runc Kc := by kernel_rfl
def t_setCol0 : FuncId → Option Summ := tabOf []
def l_setCol0 : Nat → Option LSumm := ltOf [(2, ⟨5, 45, [0, 1, 6, 20, 21, 22], (kxOf [] []), S_setCol0_0⟩)]
theorem e_setCol0 (x a0 b0 c0 d0 a1 b1 c1 d1 a2 b2 c2 d2 a3 b3 c3 d3 : Int) (l0 l1 l2 l3 m : List Int) : funR Try.prog t_setCol0 (annOf []) l_setCol0 20 Try.f72 [.one (.ptr 0 0), .one (.int .i64 x), .one (.lst (.int .i64) m)] [.box [.int .i64 a0, .int .i64 b0, .int .i64 c0, .int .i64 d0, .row 1, .int .i64 a1, .int .i64 b1, .int .i64 c1, .int .i64 d1, .row 2, .int .i64 a2, .int .i64 b2, .int .i64 c2, .int .i64 d2, .row 3, .int .i64 a3, .int .i64 b3, .int .i64 c3, .int .i64 d3, .row 4], .arr 3 (.int .i64) l0, .arr 3 (.int .i64) l1, .arr 3 (.int .i64) l2, .arr 3 (.int .i64) l3] =
  (ite2 (k_setCol0_0 x (IntKind.wrap .i64 (c0 - a0)) (↑(List.length m) : Int) 0 a0 b0 c0 d0 a1 b1 c1 d1 a2 b2 c2 d2 a3 b3 c3 d3 l0 l1 l2 l3 m)
  (some ⟨.tup [], [some (.box [.int .i64 a0, .int .i64 b0, .int .i64 c0, .int .i64 d0, .row 1, .int .i64 a1, .int .i64 b1, .int .i64 c1, .int .i64 d1, .row 2, .int .i64 a2, .int .i64 b2, .int .i64 c2, .int .i64 d2, .row 3, .int .i64 a3, .int .i64 b3, .int .i64 c3, .int .i64 d3, .row 4]), some (.arr 3 (.int .i64) (setC l0 (Int.toNat (c0 - a0)) (Int.toNat (x - a0)) m)), some (.arr 3 (.int .i64) l1), some (.arr 3 (.int .i64) l2), some (.arr 3 (.int .i64) l3)], []⟩)
  none) := by kernel_rfl
def U_setCol0_0 (x g n i a0 b0 c0 d0 a1 b1 c1 d1 a2 b2 c2 d2 a3 b3 c3 d3 : Int) (l0 l1 l2 l3 m : List Int) : LT :=
  (.br (decide (i < n))
    (.br (decide (0 ≤ i ∧ i < (↑(List.length m) : Int)))
     (.br (decide (0 ≤ IntKind.wrap .i64 (IntKind.wrap .i64 (IntKind.wrap .i64 (i * g) + x) - a0) ∧ IntKind.wrap .i64 (IntKind.wrap .i64 (IntKind.wrap .i64 (i * g) + x) - a0) < (↑(List.length l0) : Int)))
      (.br (decide (Int.toNat (IntKind.wrap .i64 (IntKind.wrap .i64 (IntKind.wrap .i64 (i * g) + x) - a0)) < List.length l0))
       (.leaf Ex.normal [.one (.ptr 0 0), .one (.int .i64 x), .one (.int .i64 g), .one (.lst (.int .i64) m), .one (.int .i64 n), .one (.int .i64 (IntKind.wrap .i64 (i + 1)))] [some (.box [.int .i64 a0, .int .i64 b0, .int .i64 c0, .int .i64 d0, .row 1, .int .i64 a1, .int .i64 b1, .int .i64 c1, .int .i64 d1, .row 2, .int .i64 a2, .int .i64 b2, .int .i64 c2, .int .i64 d2, .row 3, .int .i64 a3, .int .i64 b3, .int .i64 c3, .int .i64 d3, .row 4]), some (.arr 3 (.int .i64) (List.set l0 (Int.toNat (IntKind.wrap .i64 (IntKind.wrap .i64 (IntKind.wrap .i64 (i * g) + x) - a0))) (gI m (Int.toNat i)))), some (.arr 3 (.int .i64) l1), some (.arr 3 (.int .i64) l2), some (.arr 3 (.int .i64) l3)])
       .no)
      .no)
     .no)
    (.leaf (Ex.exit 0) [] [some (.box [.int .i64 a0, .int .i64 b0, .int .i64 c0, .int .i64 d0, .row 1, .int .i64 a1, .int .i64 b1, .int .i64 c1, .int .i64 d1, .row 2, .int .i64 a2, .int .i64 b2, .int .i64 c2, .int .i64 d2, .row 3, .int .i64 a3, .int .i64 b3, .int .i64 c3, .int .i64 d3, .row 4]), some (.arr 3 (.int .i64) l0), some (.arr 3 (.int .i64) l1), some (.arr 3 (.int .i64) l2), some (.arr 3 (.int .i64) l3)]))
def T_setCol0_0 : TT := fun vs bl => (D_setCol0_0 vs bl fun x g n i a0 b0 c0 d0 a1 b1 c1 d1 a2 b2 c2 d2 a3 b3 c3 d3 l0 l1 l2 l3 m => some (U_setCol0_0 x g n i a0 b0 c0 d0 a1 b1 c1 d1 a2 b2 c2 d2 a3 b3 c3 d3 l0 l1 l2 l3 m)).getD .no
theorem tu_setCol0_0 (x g n i a0 b0 c0 d0 a1 b1 c1 d1 a2 b2 c2 d2 a3 b3 c3 d3 : Int) (l0 l1 l2 l3 m : List Int) : T_setCol0_0 [.one (.ptr 0 0), .one (.int .i64 x), .one (.int .i64 g), .one (.lst (.int .i64) m), .one (.int .i64 n), .one (.int .i64 i)] [some (.box [.int .i64 a0, .int .i64 b0, .int .i64 c0, .int .i64 d0, .row 1, .int .i64 a1, .int .i64 b1, .int .i64 c1, .int .i64 d1, .row 2, .int .i64 a2, .int .i64 b2, .int .i64 c2, .int .i64 d2, .row 3, .int .i64 a3, .int .i64 b3, .int .i64 c3, .int .i64 d3, .row 4]), some (.arr 3 (.int .i64) l0), some (.arr 3 (.int .i64) l1), some (.arr 3 (.int .i64) l2), some (.arr 3 (.int .i64) l3)] = U_setCol0_0 x g n i a0 b0 c0 d0 a1 b1 c1 d1 a2 b2 c2 d2 a3 b3 c3 d3 l0 l1 l2 l3 m := by kernel_rfl
theorem b_setCol0_0 (x g n i a0 b0 c0 d0 a1 b1 c1 d1 a2 b2 c2 d2 a3 b3 c3 d3 : Int) (l0 l1 l2 l3 m : List Int) (Kc : KT) : exec Try.prog t_setCol0 (annOf []) l_setCol0 20 5 (loopOf Try.f72 0) (unp 45 [0, 1, 6, 20, 21, 22] [.one (.ptr 0 0), .one (.int .i64 x), .one (.int .i64 g), .one (.lst (.int .i64) m), .one (.int .i64 n), .one (.int .i64 i)] [some (.box [.int .i64 a0, .int .i64 b0, .int .i64 c0, .int .i64 d0, .row 1, .int .i64 a1, .int .i64 b1, .int .i64 c1, .int .i64 d1, .row 2, .int .i64 a2, .int .i64 b2, .int .i64 c2, .int .i64 d2, .row 3, .int .i64 a3, .int .i64 b3, .int .i64 c3, .int .i64 d3, .row 4]), some (.arr 3 (.int .i64) l0), some (.arr 3 (.int .i64) l1), some (.arr 3 (.int .i64) l2), some (.arr 3 (.int .i64) l3)]) (endc 5 45 [0, 1, 6, 20, 21, 22] (kxOf [] []) Kc) =
  (U_setCol0_0 x g n i a0 b0 c0 d0 a1 b1 c1 d1 a2 b2 c2 d2 a3 b3 c3 d3 l0 l1 l2 l3 m).runc Kc := by kernel_rfl
def t_setCol1 : FuncId → Option Summ := tabOf []
def l_setCol1 : Nat → Option LSumm := ltOf [(2, ⟨5, 45, [0, 1, 6, 20, 21, 22], (kxOf [] []), S_setCol1_0⟩)]
theorem e_setCol1 (x a0 b0 c0 d0 a1 b1 c1 d1 a2 b2 c2 d2 a3 b3 c3 d3 : Int) (l0 l1 l2 l3 m : List Int) : funR Try.prog t_setCol1 (annOf []) l_setCol1 20 Try.f72 [.one (.ptr 0 5), .one (.int .i64 x), .one (.lst (.int .i64) m)] [.box [.int .i64 a0, .int .i64 b0, .int .i64 c0, .int .i64 d0, .row 1, .int .i64 a1, .int .i64 b1, .int .i64 c1, .int .i64 d1, .row 2, .int .i64 a2, .int .i64 b2, .int .i64 c2, .int .i64 d2, .row 3, .int .i64 a3, .int .i64 b3, .int .i64 c3, .int .i64 d3, .row 4], .arr 3 (.int .i64) l0, .arr 3 (.int .i64) l1, .arr 3 (.int .i64) l2, .arr 3 (.int .i64) l3] =
  (ite2 (k_setCol1_0 x (IntKind.wrap .i64 (c1 - a1)) (↑(List.length m) : Int) 0 a0 b0 c0 d0 a1 b1 c1 d1 a2 b2 c2 d2 a3 b3 c3 d3 l0 l1 l2 l3 m)
  (some ⟨.tup [], [some (.box [.int .i64 a0, .int .i64 b0, .int .i64 c0, .int .i64 d0, .row 1, .int .i64 a1, .int .i64 b1, .int .i64 c1, .int .i64 d1, .row 2, .int .i64 a2, .int .i64 b2, .int .i64 c2, .int .i64 d2, .row 3, .int .i64 a3, .int .i64 b3, .int .i64 c3, .int .i64 d3, .row 4]), some (.arr 3 (.int .i64) l0), some (.arr 3 (.int .i64) (setC l1 (Int.toNat (c1 - a1)) (Int.toNat (x - a1)) m)), some (.arr 3 (.int .i64) l2), some (.arr 3 (.int .i64) l3)], []⟩)
  none) := by kernel_rfl
def U_setCol1_0 (x g n i a0 b0 c0 d0 a1 b1 c1 d1 a2 b2 c2 d2 a3 b3 c3 d3 : Int) (l0 l1 l2 l3 m : List Int) : LT :=
  (.br (decide (i < n))
    (.br (decide (0 ≤ i ∧ i < (↑(List.length m) : Int)))
     (.br (decide (0 ≤ IntKind.wrap .i64 (IntKind.wrap .i64 (IntKind.wrap .i64 (i * g) + x) - a1) ∧ IntKind.wrap .i64 (IntKind.wrap .i64 (IntKind.wrap .i64 (i * g) + x) - a1) < (↑(List.length l1) : Int)))
      (.br (decide (Int.toNat (IntKind.wrap .i64 (IntKind.wrap .i64 (IntKind.wrap .i64 (i * g) + x) - a1)) < List.length l1))
       (.leaf Ex.normal [.one (.ptr 0 5), .one (.int .i64 x), .one (.int .i64 g), .one (.lst (.int .i64) m), .one (.int .i64 n), .one (.int .i64 (IntKind.wrap .i64 (i + 1)))] [some (.box [.int .i64 a0, .int .i64 b0, .int .i64 c0, .int .i64 d0, .row 1, .int .i64 a1, .int .i64 b1, .int .i64 c1, .int .i64 d1, .row 2, .int .i64 a2, .int .i64 b2, .int .i64 c2, .int .i64 d2, .row 3, .int .i64 a3, .int .i64 b3, .int .i64 c3, .int .i64 d3, .row 4]), some (.arr 3 (.int .i64) l0), some (.arr 3 (.int .i64) (List.set l1 (Int.toNat (IntKind.wrap .i64 (IntKind.wrap .i64 (IntKind.wrap .i64 (i * g) + x) - a1))) (gI m (Int.toNat i)))), some (.arr 3 (.int .i64) l2), some (.arr 3 (.int .i64) l3)])
       .no)
      .no)
     .no)
    (.leaf (Ex.exit 0) [] [some (.box [.int .i64 a0, .int .i64 b0, .int .i64 c0, .int .i64 d0, .row 1, .int .i64 a1, .int .i64 b1, .int .i64 c1, .int .i64 d1, .row 2, .int .i64 a2, .int .i64 b2, .int .i64 c2, .int .i64 d2, .row 3, .int .i64 a3, .int .i64 b3, .int .i64 c3, .int .i64 d3, .row 4]), some (.arr 3 (.int .i64) l0), some (.arr 3 (.int .i64) l1), some (.arr 3 (.int .i64) l2), some (.arr 3 (.int .i64) l3)]))
def T_setCol1_0 : TT := fun vs bl => (D_setCol1_0 vs bl fun x g n i a0 b0 c0 d0 a1 b1 c1 d1 a2 b2 c2 d2 a3 b3 c3 d3 l0 l1 l2 l3 m => some (U_setCol1_0 x g n i a0 b0 c0 d0 a1 b1 c1 d1 a2 b2 c2 d2 a3 b3 c3 d3 l0 l1 l2 l3 m)).getD .no
theorem tu_setCol1_0 (x g n i a0 b0 c0 d0 a1 b1 c1 d1 a2 b2 c2 d2 a3 b3 c3 d3 : Int) (l0 l1 l2 l3 m : List Int) : T_setCol1_0 [.one (.ptr 0 5), .one (.int .i64 x), .one (.int .i64 g), .one (.lst (.int .i64) m), .one (.int .i64 n), .one (.int .i64 i)] [some (.box [.int .i64 a0, .int .i64 b0, .int .i64 c0, .int .i64 d0, .row 1, .int .i64 a1, .int .i64 b1, .int .i64 c1, .int .i64 d1, .row 2, .int .i64 a2, .int .i64 b2, .int .i64 c2, .int .i64 d2, .row 3, .int .i64 a3, .int .i64 b3, .int .i64 c3, .int .i64 d3, .row 4]), some (.arr 3 (.int .i64) l0), some (.arr 3 (.int .i64) l1), some (.arr 3 (.int .i64) l2), some (.arr 3 (.int .i64) l3)] = U_setCol1_0 x g n i a0 b0 c0 d0 a1 b1 c1 d1 a2 b2 c2 d2 a3 b3 c3 d3 l0 l1 l2 l3 m := by kernel_rfl
theorem b_setCol1_0 (x g n i a0 b0 c0 d0 a1 b1 c1 d1 a2 b2 c2 d2 a3 b3 c3 d3 : Int) (l0 l1 l2 l3 m : List Int) (Kc : KT) : exec Try.prog t_setCol1 (annOf []) l_setCol1 20 5 (loopOf Try.f72 0) (unp 45 [0, 1, 6, 20, 21, 22] [.one (.ptr 0 5), .one (.int .i64 x), .one (.int .i64 g), .one (.lst (.int .i64) m), .one (.int .i64 n), .one (.int .i64 i)] [some (.box [.int .i64 a0, .int .i64 b0, .int .i64 c0, .int .i64 d0, .row 1, .int .i64 a1, .int .i64 b1, .int .i64 c1, .int .i64 d1, .row 2, .int .i64 a2, .int .i64 b2, .int .i64 c2, .int .i64 d2, .row 3, .int .i64 a3, .int .i64 b3, .int .i64 c3, .int .i64 d3, .row 4]), some (.arr 3 (.int .i64) l0), some (.arr 3 (.int .i64) l1), some (.arr 3 (.int .i64) l2), some (.arr 3 (.int .i64) l3)]) (endc 5 45 [0, 1, 6, 20, 21, 22] (kxOf [] []) Kc) =
  (U_setCol1_0 x g n i a0 b0 c0 d0 a1 b1 c1 d1 a2 b2 c2 d2 a3 b3 c3 d3 l0 l1 l2 l3 m).runc Kc := by kernel_rfl
def t_setCol2 : FuncId → Option Summ := tabOf []
def l_setCol2 : Nat → Option LSumm := ltOf [(2, ⟨5, 45, [0, 1, 6, 20, 21, 22], (kxOf [] []), S_setCol2_0⟩)]
theorem e_setCol2 (x a0 b0 c0 d0 a1 b1 c1 d1 a2 b2 c2 d2 a3 b3 c3 d3 : Int) (l0 l1 l2 l3 m : List Int) : funR Try.prog t_setCol2 (annOf []) l_setCol2 20 Try.f72 [.one (.ptr 0 10), .one (.int .i64 x), .one (.lst (.int .i64) m)] [.box [.int .i64 a0, .int .i64 b0, .int .i64 c0, .int .i64 d0, .row 1, .int .i64 a1, .int .i64 b1, .int .i64 c1, .int .i64 d1, .row 2, .int .i64 a2, .int .i64 b2, .int .i64 c2, .int .i64 d2, .row 3, .int .i64 a3, .int .i64 b3, .int .i64 c3, .int .i64 d3, .row 4], .arr 3 (.int .i64) l0, .arr 3 (.int .i64) l1, .arr 3 (.int .i64) l2, .arr 3 (.int .i64) l3] =
  (ite2 (k_setCol2_0 x (IntKind.wrap .i64 (c2 - a2)) (↑(List.length m) : Int) 0 a0 b0 c0 d0 a1 b1 c1 d1 a2 b2 c2 d2 a3 b3 c3 d3 l0 l1 l2 l3 m)
  (some ⟨.tup [], [some (.box [.int .i64 a0, .int .i64 b0, .int .i64 c0, .int .i64 d0, .row 1, .int .i64 a1, .int .i64 b1, .int .i64 c1, .int .i64 d1, .row 2, .int .i64 a2, .int .i64 b2, .int .i64 c2, .int .i64 d2, .row 3, .int .i64 a3, .int .i64 b3, .int .i64 c3, .int .i64 d3, .row 4]), some (.arr 3 (.int .i64) l0), some (.arr 3 (.int .i64) l1), some (.arr 3 (.int .i64) (setC l2 (Int.toNat (c2 - a2)) (Int.toNat (x - a2)) m)), some (.arr 3 (.int .i64) l3)], []⟩)
  none) := by kernel_rfl
def U_setCol2_0 (x g n i a0 b0 c0 d0 a1 b1 c1 d1 a2 b2 c2 d2 a3 b3 c3 d3 : Int) (l0 l1 l2 l3 m : List Int) : LT :=
  (.br (decide (i < n))
    (.br (decide (0 ≤ i ∧ i < (↑(List.length m) : Int)))
     (.br (decide (0 ≤ IntKind.wrap .i64 (IntKind.wrap .i64 (IntKind.wrap .i64 (i * g) + x) - a2) ∧ IntKind.wrap .i64 (IntKind.wrap .i64 (IntKind.wrap .i64 (i * g) + x) - a2) < (↑(List.length l2) : Int)))
      (.br (decide (Int.toNat (IntKind.wrap .i64 (IntKind.wrap .i64 (IntKind.wrap .i64 (i * g) + x) - a2)) < List.length l2))
       (.leaf Ex.normal [.one (.ptr 0 10), .one (.int .i64 x), .one (.int .i64 g), .one (.lst (.int .i64) m), .one (.int .i64 n), .one (.int .i64 (IntKind.wrap .i64 (i + 1)))] [some (.box [.int .i64 a0, .int .i64 b0, .int .i64 c0, .int .i64 d0, .row 1, .int .i64 a1, .int .i64 b1, .int .i64 c1, .int .i64 d1, .row 2, .int .i64 a2, .int .i64 b2, .int .i64 c2, .int .i64 d2, .row 3, .int .i64 a3, .int .i64 b3, .int .i64 c3, .int .i64 d3, .row 4]), some (.arr 3 (.int .i64) l0), some (.arr 3 (.int .i64) l1), some (.arr 3 (.int .i64) (List.set l2 (Int.toNat (IntKind.wrap .i64 (IntKind.wrap .i64 (IntKind.wrap .i64 (i * g) + x) - a2))) (gI m (Int.toNat i)))), some (.arr 3 (.int .i64) l3)])
       .no)
      .no)
     .no)
    (.leaf (Ex.exit 0) [] [some (.box [.int .i64 a0, .int .i64 b0, .int .i64 c0, .int .i64 d0, .row 1, .int .i64 a1, .int .i64 b1, .int .i64 c1, .int .i64 d1, .row 2, .int .i64 a2, .int .i64 b2, .int .i64 c2, .int .i64 d2, .row 3, .int .i64 a3, .int .i64 b3, .int .i64 c3, .int .i64 d3, .row 4]), some (.arr 3 (.int .i64) l0), some (.arr 3 (.int .i64) l1), some (.arr 3 (.int .i64) l2), some (.arr 3 (.int .i64) l3)]))
def T_setCol2_0 : TT := fun vs bl => (D_setCol2_0 vs bl fun x g n i a0 b0 c0 d0 a1 b1 c1 d1 a2 b2 c2 d2 a3 b3 c3 d3 l0 l1 l2 l3 m => some (U_setCol2_0 x g n i a0 b0 c0 d0 a1 b1 c1 d1 a2 b2 c2 d2 a3 b3 c3 d3 l0 l1 l2 l3 m)).getD .no
theorem tu_setCol2_0 (x g n i a0 b0 c0 d0 a1 b1 c1 d1 a2 b2 c2 d2 a3 b3 c3 d3 : Int) (l0 l1 l2 l3 m : List Int) : T_setCol2_0 [.one (.ptr 0 10), .one (.int .i64 x), .one (.int .i64 g), .one (.lst (.int .i64) m), .one (.int .i64 n), .one (.int .i64 i)] [some (.box [.int .i64 a0, .int .i64 b0, .int .i64 c0, .int .i64 d0, .row 1, .int .i64 a1, .int .i64 b1, .int .i64 c1, .int .i64 d1, .row 2, .int .i64 a2, .int .i64 b2, .int .i64 c2, .int .i64 d2, .row 3, .int .i64 a3, .int .i64 b3, .int .i64 c3, .int .i64 d3, .row 4]), some (.arr 3 (.int .i64) l0), some (.arr 3 (.int .i64) l1), some (.arr 3 (.int .i64) l2), some (.arr 3 (.int .i64) l3)] = U_setCol2_0 x g n i a0 b0 c0 d0 a1 b1 c1 d1 a2 b2 c2 d2 a3 b3 c3 d3 l0 l1 l2 l3 m := by kernel_rfl
theorem b_setCol2_0 (x g n i a0 b0 c0 d0 a1 b1 c1 d1 a2 b2 c2 d2 a3 b3 c3 d3 : Int) (l0 l1 l2 l3 m : List Int) (Kc : KT) : exec Try.prog t_setCol2 (annOf []) l_setCol2 20 5 (loopOf Try.f72 0) (unp 45 [0, 1, 6, 20, 21, 22] [.one (.ptr 0 10), .one (.int .i64 x), .one (.int .i64 g), .one (.lst (.int .i64) m), .one (.int .i64 n), .one (.int .i64 i)] [some (.box [.int .i64 a0, .int .i64 b0, .int .i64 c0, .int .i64 d0, .row 1, .int .i64 a1, .int .i64 b1, .int .i64 c1, .int .i64 d1, .row 2, .int .i64 a2, .int .i64 b2, .int .i64 c2, .int .i64 d2, .row 3, .int .i64 a3, .int .i64 b3, .int .i64 c3, .int .i64 d3, .row 4]), some (.arr 3 (.int .i64) l0), some (.arr 3 (.int .i64) l1), some (.arr 3 (.int .i64) l2), some (.arr 3 (.int .i64) l3)]) (endc 5 45 [0, 1, 6, 20, 21, 22] (kxOf [] []) Kc) =
  (U_setCol2_0 x g n i a0 b0 c0 d0 a1 b1 c1 d1 a2 b2 c2 d2 a3 b3 c3 d3 l0 l1 l2 l3 m).runc Kc := by kernel_rfl
def t_setCol3 : FuncId → Option Summ := tabOf []
def l_setCol3 : Nat → Option LSumm := ltOf [(2, ⟨5, 45, [0, 1, 6, 20, 21, 22], (kxOf [] []), S_setCol3_0⟩)]
theorem e_setCol3 (x a0 b0 c0 d0 a1 b1 c1 d1 a2 b2 c2 d2 a3 b3 c3 d3 : Int) (l0 l1 l2 l3 m : List Int) : funR Try.prog t_setCol3 (annOf []) l_setCol3 20 Try.f72 [.one (.ptr 0 15), .one (.int .i64 x), .one (.lst (.int .i64) m)] [.box [.int .i64 a0, .int .i64 b0, .int .i64 c0, .int .i64 d0, .row 1, .int .i64 a1, .int .i64 b1, .int .i64 c1, .int .i64 d1, .row 2, .int .i64 a2, .int .i64 b2, .int .i64 c2, .int .i64 d2, .row 3, .int .i64 a3, .int .i64 b3, .int .i64 c3, .int .i64 d3, .row 4], .arr 3 (.int .i64) l0, .arr 3 (.int .i64) l1, .arr 3 (.int .i64) l2, .arr 3 (.int .i64) l3] =
  (ite2 (k_setCol3_0 x (IntKind.wrap .i64 (c3 - a3)) (↑(List.length m) : Int) 0 a0 b0 c0 d0 a1 b1 c1 d1 a2 b2 c2 d2 a3 b3 c3 d3 l0 l1 l2 l3 m)
  (some ⟨.tup [], [some (.box [.int .i64 a0, .int .i64 b0, .int .i64 c0, .int .i64 d0, .row 1, .int .i64 a1, .int .i64 b1, .int .i64 c1, .int .i64 d1, .row 2, .int .i64 a2, .int .i64 b2, .int .i64 c2, .int .i64 d2, .row 3, .int .i64 a3, .int .i64 b3, .int .i64 c3, .int .i64 d3, .row 4]), some (.arr 3 (.int .i64) l0), some (.arr 3 (.int .i64) l1), some (.arr 3 (.int .i64) l2), some (.arr 3 (.int .i64) (setC l3 (Int.toNat (c3 - a3)) (Int.toNat (x - a3)) m))], []⟩)
  none) := by kernel_rfl
def U_setCol3_0 (x g n i a0 b0 c0 d0 a1 b1 c1 d1 a2 b2 c2 d2 a3 b3 c3 d3 : Int) (l0 l1 l2 l3 m : List Int) : LT :=
  (.br (decide (i < n))
    (.br (decide (0 ≤ i ∧ i < (↑(List.length m) : Int)))
     (.br (decide (0 ≤ IntKind.wrap .i64 (IntKind.wrap .i64 (IntKind.wrap .i64 (i * g) + x) - a3) ∧ IntKind.wrap .i64 (IntKind.wrap .i64 (IntKind.wrap .i64 (i * g) + x) - a3) < (↑(List.length l3) : Int)))
      (.br (decide (Int.toNat (IntKind.wrap .i64 (IntKind.wrap .i64 (IntKind.wrap .i64 (i * g) + x) - a3)) < List.length l3))
       (.leaf Ex.normal [.one (.ptr 0 15), .one (.int .i64 x), .one (.int .i64 g), .one (.lst (.int .i64) m), .one (.int .i64 n), .one (.int .i64 (IntKind.wrap .i64 (i + 1)))] [some (.box [.int .i64 a0, .int .i64 b0, .int .i64 c0, .int .i64 d0, .row 1, .int .i64 a1, .int .i64 b1, .int .i64 c1, .int .i64 d1, .row 2, .int .i64 a2, .int .i64 b2, .int .i64 c2, .int .i64 d2, .row 3, .int .i64 a3, .int .i64 b3, .int .i64 c3, .int .i64 d3, .row 4]), some (.arr 3 (.int .i64) l0), some (.arr 3 (.int .i64) l1), some (.arr 3 (.int .i64) l2), some (.arr 3 (.int .i64) (List.set l3 (Int.toNat (IntKind.wrap .i64 (IntKind.wrap .i64 (IntKind.wrap .i64 (i * g) + x) - a3))) (gI m (Int.toNat i))))])
       .no)
      .no)
     .no)
    (.leaf (Ex.exit 0) [] [some (.box [.int .i64 a0, .int .i64 b0, .int .i64 c0, .int .i64 d0, .row 1, .int .i64 a1, .int .i64 b1, .int .i64 c1, .int .i64 d1, .row 2, .int .i64 a2, .int .i64 b2, .int .i64 c2, .int .i64 d2, .row 3, .int .i64 a3, .int .i64 b3, .int .i64 c3, .int .i64 d3, .row 4]), some (.arr 3 (.int .i64) l0), some (.arr 3 (.int .i64) l1), some (.arr 3 (.int .i64) l2), some (.arr 3 (.int .i64) l3)]))
def T_setCol3_0 : TT := fun vs bl => (D_setCol3_0 vs bl fun x g n i a0 b0 c0 d0 a1 b1 c1 d1 a2 b2 c2 d2 a3 b3 c3 d3 l0 l1 l2 l3 m => some (U_setCol3_0 x g n i a0 b0 c0 d0 a1 b1 c1 d1 a2 b2 c2 d2 a3 b3 c3 d3 l0 l1 l2 l3 m)).getD .no
theorem tu_setCol3_0 (x g n i a0 b0 c0 d0 a1 b1 c1 d1 a2 b2 c2 d2 a3 b3 c3 d3 : Int) (l0 l1 l2 l3 m : List Int) : T_setCol3_0 [.one (.ptr 0 15), .one (.int .i64 x), .one (.int .i64 g), .one (.lst (.int .i64) m), .one (.int .i64 n), .one (.int .i64 i)] [some (.box [.int .i64 a0, .int .i64 b0, .int .i64 c0, .int .i64 d0, .row 1, .int .i64 a1, .int .i64 b1, .int .i64 c1, .int .i64 d1, .row 2, .int .i64 a2, .int .i64 b2, .int .i64 c2, .int .i64 d2, .row 3, .int .i64 a3, .int .i64 b3, .int .i64 c3, .int .i64 d3, .row 4]), some (.arr 3 (.int .i64) l0), some (.arr 3 (.int .i64) l1), some (.arr 3 (.int .i64) l2), some (.arr 3 (.int .i64) l3)] = U_setCol3_0 x g n i a0 b0 c0 d0 a1 b1 c1 d1 a2 b2 c2 d2 a3 b3 c3 d3 l0 l1 l2 l3 m := by kernel_rfl
theorem b_setCol3_0 (x g n i a0 b0 c0 d0 a1 b1 c1 d1 a2 b2 c2 d2 a3 b3 c3 d3 : Int) (l0 l1 l2 l3 m : List Int) (Kc : KT) : exec Try.prog t_setCol3 (annOf []) l_setCol3 20 5 (loopOf Try.f72 0) (unp 45 [0, 1, 6, 20, 21, 22] [.one (.ptr 0 15), .one (.int .i64 x), .one (.int .i64 g), .one (.lst (.int .i64) m), .one (.int .i64 n), .one (.int .i64 i)] [some (.box [.int .i64 a0, .int .i64 b0, .int .i64 c0, .int .i64 d0, .row 1, .int .i64 a1, .int .i64 b1, .int .i64 c1, .int .i64 d1, .row 2, .int .i64 a2, .int .i64 b2, .int .i64 c2, .int .i64 d2, .row 3, .int .i64 a3, .int .i64 b3, .int .i64 c3, .int .i64 d3, .row 4]), some (.arr 3 (.int .i64) l0), some (.arr 3 (.int .i64) l1), some (.arr 3 (.int .i64) l2), some (.arr 3 (.int .i64) l3)]) (endc 5 45 [0, 1, 6, 20, 21, 22] (kxOf [] []) Kc) =
  (U_setCol3_0 x g n i a0 b0 c0 d0 a1 b1 c1 d1 a2 b2 c2 d2 a3 b3 c3 d3 l0 l1 l2 l3 m).runc Kc := by kernel_rfl
def t_setCol4 : FuncId → Option Summ := tabOf []
def l_setCol4 : Nat → Option LSumm := ltOf [(2, ⟨2, 45, [0, 1, 6, 20, 21, 22], (kxOf [] []), S_setCol4_0⟩)]
theorem e_setCol4 (x a0 b0 c0 d0 : Int) (l0 m : List Int) : funR Try.prog t_setCol4 (annOf []) l_setCol4 20 Try.f72 [.one (.ptr 0 0), .one (.int .i64 x), .one (.lst (.int .i64) m)] [.box [.int .i64 a0, .int .i64 b0, .int .i64 c0, .int .i64 d0, .row 1], .arr 3 (.int .i64) l0] =
  (ite2 (k_setCol4_0 x (IntKind.wrap .i64 (c0 - a0)) (↑(List.length m) : Int) 0 a0 b0 c0 d0 l0 m)
  (some ⟨.tup [], [some (.box [.int .i64 a0, .int .i64 b0, .int .i64 c0, .int .i64 d0, .row 1]), some (.arr 3 (.int .i64) (setC l0 (Int.toNat (c0 - a0)) (Int.toNat (x - a0)) m))], []⟩)
  none) := by kernel_rfl
def U_setCol4_0 (x g n i a0 b0 c0 d0 : Int) (l0 m : List Int) : LT :=
  (.br (decide (i < n))
    (.br (decide (0 ≤ i ∧ i < (↑(List.length m) : Int)))
     (.br (decide (0 ≤ IntKind.wrap .i64 (IntKind.wrap .i64 (IntKind.wrap .i64 (i * g) + x) - a0) ∧ IntKind.wrap .i64 (IntKind.wrap .i64 (IntKind.wrap .i64 (i * g) + x) - a0) < (↑(List.length l0) : Int)))
      (.br (decide (Int.toNat (IntKind.wrap .i64 (IntKind.wrap .i64 (IntKind.wrap .i64 (i * g) + x) - a0)) < List.length l0))
       (.leaf Ex.normal [.one (.ptr 0 0), .one (.int .i64 x), .one (.int .i64 g), .one (.lst (.int .i64) m), .one (.int .i64 n), .one (.int .i64 (IntKind.wrap .i64 (i + 1)))] [some (.box [.int .i64 a0, .int .i64 b0, .int .i64 c0, .int .i64 d0, .row 1]), some (.arr 3 (.int .i64) (List.set l0 (Int.toNat (IntKind.wrap .i64 (IntKind.wrap .i64 (IntKind.wrap .i64 (i * g) + x) - a0))) (gI m (Int.toNat i))))])
       .no)
      .no)
     .no)
    (.leaf (Ex.exit 0) [] [some (.box [.int .i64 a0, .int .i64 b0, .int .i64 c0, .int .i64 d0, .row 1]), some (.arr 3 (.int .i64) l0)]))
def T_setCol4_0 : TT := fun vs bl => (D_setCol4_0 vs bl fun x g n i a0 b0 c0 d0 l0 m => some (U_setCol4_0 x g n i a0 b0 c0 d0 l0 m)).getD .no
theorem tu_setCol4_0 (x g n i a0 b0 c0 d0 : Int) (l0 m : List Int) : T_setCol4_0 [.one (.ptr 0 0), .one (.int .i64 x), .one (.int .i64 g), .one (.lst (.int .i64) m), .one (.int .i64 n), .one (.int .i64 i)] [some (.box [.int .i64 a0, .int .i64 b0, .int .i64 c0, .int .i64 d0, .row 1]), some (.arr 3 (.int .i64) l0)] = U_setCol4_0 x g n i a0 b0 c0 d0 l0 m := by kernel_rfl
theorem b_setCol4_0 (x g n i a0 b0 c0 d0 : Int) (l0 m : List Int) (Kc : KT) : exec Try.prog t_setCol4 (annOf []) l_setCol4 20 2 (loopOf Try.f72 0) (unp 45 [0, 1, 6, 20, 21, 22] [.one (.ptr 0 0), .one (.int .i64 x), .one (.int .i64 g), .one (.lst (.int .i64) m), .one (.int .i64 n), .one (.int .i64 i)] [some (.box [.int .i64 a0, .int .i64 b0, .int .i64 c0, .int .i64 d0, .row 1]), some (.arr 3 (.int .i64) l0)]) (endc 2 45 [0, 1, 6, 20, 21, 22] (kxOf [] []) Kc) =
  (U_setCol4_0 x g n i a0 b0 c0 d0 l0 m).runc Kc := by kernel_rfl
def t_spCol0 : FuncId → Option Summ := tabOf [(68, G_lift_Forward), (71, G_pl_Column), (72, G_dwt_setColumn)]
def l_spCol0 : Nat → Option LSumm := ltOf [(3, ⟨10, 56, [0, 2, 3, 4, 7, 8], (kxOf [] [6]), S_spCol0_0⟩)]
theorem e_spCol0 (p0 e0 q0 f0 p1 e1 q1 f1 a b c d k a0 b0 c0 d0 a1 b1 c1 d1 a2 b2 c2 d2 a3 b3 c3 d3 : Int) (h0 h1 l0 l1 l2 l3 : List Int) : funR Try.prog t_spCol0 (annOf []) l_spCol0 20 Try.f70 [.one (.int .i64 0), .one (.ptr 0 0), .one (.ptr 1 0), .one (.ptr 2 0), .one (.ptr 3 0)] [.box [.int .i64 p0, .int .i64 e0, .int .i64 q0, .int .i64 f0, .row 4, .int .i64 p1, .int .i64 e1, .int .i64 q1, .int .i64 f1, .row 5], .box [.int .i64 a, .int .i64 b, .int .i64 c, .int .i64 d], .box [.int .i64 k], .box [.int .i64 a0, .int .i64 b0, .int .i64 c0, .int .i64 d0, .row 6, .int .i64 a1, .int .i64 b1, .int .i64 c1, .int .i64 d1, .row 7, .int .i64 a2, .int .i64 b2, .int .i64 c2, .int .i64 d2, .row 8, .int .i64 a3, .int .i64 b3, .int .i64 c3, .int .i64 d3, .row 9], .arr 3 (.int .i64) h0, .arr 3 (.int .i64) h1, .arr 3 (.int .i64) l0, .arr 3 (.int .i64) l1, .arr 3 (.int .i64) l2, .arr 3 (.int .i64) l3] =
  (ite2 (k_spCol0_0 p0 e0 q0 f0 p1 e1 q1 f1 a b c d k a0 b0 c0 d0 a1 b1 c1 d1 a2 b2 c2 d2 a3 b3 c3 d3 p0 e0 q0 f0 p0 h0 h1 l0 l1 l2 l3)
  (some ⟨.one (.int .i64 0), [some (.box [.int .i64 p0, .int .i64 e0, .int .i64 q0, .int .i64 f0, .row 4, .int .i64 p1, .int .i64 e1, .int .i64 q1, .int .i64 f1, .row 5]), some (.box [.int .i64 a, .int .i64 b, .int .i64 c, .int .i64 d]), some (.box [.int .i64 k]), some (.box [.int .i64 a0, .int .i64 b0, .int .i64 c0, .int .i64 d0, .row 6, .int .i64 a1, .int .i64 b1, .int .i64 c1, .int .i64 d1, .row 7, .int .i64 a2, .int .i64 b2, .int .i64 c2, .int .i64 d2, .row 8, .int .i64 a3, .int .i64 b3, .int .i64 c3, .int .i64 d3, .row 9]), some (.arr 3 (.int .i64) h0), some (.arr 3 (.int .i64) h1), some (.arr 3 (.int .i64) (colsLo l0 h0 (Int.toNat (q0 - p0)) (Int.toNat (f0 - e0)) b k)), some (.arr 3 (.int .i64) l1), some (.arr 3 (.int .i64) (colsHi l2 h0 (Int.toNat (q0 - p0)) (Int.toNat (f0 - e0)) b k)), some (.arr 3 (.int .i64) l3)], []⟩)
  none) := by kernel_rfl
def U_spCol0_0 (p0 e0 q0 f0 p1 e1 q1 f1 a b c d kk a0 b0 c0 d0 a1 b1 c1 d1 a2 b2 c2 d2 a3 b3 c3 d3 g0 g1 g2 g3 x : Int) (h0 h1 l0 l1 l2 l3 : List Int) : LT :=
  (.br (decide (x < g2))
    (.br (small (List.length (plCol g0 g1 g2 g3 h0 x)))
     (.br ((fw (plCol g0 g1 g2 g3 h0 x) b kk).2.2 != 0)
      (.leaf Ex.ret [.one (.int .i64 (fw (plCol g0 g1 g2 g3 h0 x) b kk).2.2)] [some (.box [.int .i64 p0, .int .i64 e0, .int .i64 q0, .int .i64 f0, .row 4, .int .i64 p1, .int .i64 e1, .int .i64 q1, .int .i64 f1, .row 5]), some (.box [.int .i64 a, .int .i64 b, .int .i64 c, .int .i64 d]), some (.box [.int .i64 kk]), some (.box [.int .i64 a0, .int .i64 b0, .int .i64 c0, .int .i64 d0, .row 6, .int .i64 a1, .int .i64 b1, .int .i64 c1, .int .i64 d1, .row 7, .int .i64 a2, .int .i64 b2, .int .i64 c2, .int .i64 d2, .row 8, .int .i64 a3, .int .i64 b3, .int .i64 c3, .int .i64 d3, .row 9]), some (.arr 3 (.int .i64) h0), some (.arr 3 (.int .i64) h1), some (.arr 3 (.int .i64) l0), some (.arr 3 (.int .i64) l1), some (.arr 3 (.int .i64) l2), some (.arr 3 (.int .i64) l3)])
      (.br (decide (0 ≤ a0) && decide (a0 ≤ x) && decide (x < c0) && decide (c0 ≤ 4096) && decide (List.length (fw (plCol g0 g1 g2 g3 h0 x) b kk).1 ≤ 4096) && decide ((↑(List.length l0) : Int) = (c0 - a0) * (↑(List.length (fw (plCol g0 g1 g2 g3 h0 x) b kk).1) : Int)))
       (.br (decide (0 ≤ a2) && decide (a2 ≤ x) && decide (x < c2) && decide (c2 ≤ 4096) && decide (List.length (fw (plCol g0 g1 g2 g3 h0 x) b kk).2.1 ≤ 4096) && decide ((↑(List.length l2) : Int) = (c2 - a2) * (↑(List.length (fw (plCol g0 g1 g2 g3 h0 x) b kk).2.1) : Int)))
        (.leaf Ex.normal [.one (.int .i64 0), .one (.ptr 1 0), .one (.ptr 2 0), .one (.ptr 3 0), .one (.ptr 10 0), .one (.int .i64 (IntKind.wrap .i64 (x + 1)))] [some (.box [.int .i64 p0, .int .i64 e0, .int .i64 q0, .int .i64 f0, .row 4, .int .i64 p1, .int .i64 e1, .int .i64 q1, .int .i64 f1, .row 5]), some (.box [.int .i64 a, .int .i64 b, .int .i64 c, .int .i64 d]), some (.box [.int .i64 kk]), some (.box [.int .i64 a0, .int .i64 b0, .int .i64 c0, .int .i64 d0, .row 6, .int .i64 a1, .int .i64 b1, .int .i64 c1, .int .i64 d1, .row 7, .int .i64 a2, .int .i64 b2, .int .i64 c2, .int .i64 d2, .row 8, .int .i64 a3, .int .i64 b3, .int .i64 c3, .int .i64 d3, .row 9]), some (.arr 3 (.int .i64) h0), some (.arr 3 (.int .i64) h1), some (.arr 3 (.int .i64) (setC l0 (Int.toNat (c0 - a0)) (Int.toNat (x - a0)) (fw (plCol g0 g1 g2 g3 h0 x) b kk).1)), some (.arr 3 (.int .i64) l1), some (.arr 3 (.int .i64) (setC l2 (Int.toNat (c2 - a2)) (Int.toNat (x - a2)) (fw (plCol g0 g1 g2 g3 h0 x) b kk).2.1)), some (.arr 3 (.int .i64) l3), some (.box [.int .i64 g0, .int .i64 g1, .int .i64 g2, .int .i64 g3, .row 4])])
        .no)
       .no))
     .no)
    (.leaf (Ex.exit 0) [] [some (.box [.int .i64 p0, .int .i64 e0, .int .i64 q0, .int .i64 f0, .row 4, .int .i64 p1, .int .i64 e1, .int .i64 q1, .int .i64 f1, .row 5]), some (.box [.int .i64 a, .int .i64 b, .int .i64 c, .int .i64 d]), some (.box [.int .i64 kk]), some (.box [.int .i64 a0, .int .i64 b0, .int .i64 c0, .int .i64 d0, .row 6, .int .i64 a1, .int .i64 b1, .int .i64 c1, .int .i64 d1, .row 7, .int .i64 a2, .int .i64 b2, .int .i64 c2, .int .i64 d2, .row 8, .int .i64 a3, .int .i64 b3, .int .i64 c3, .int .i64 d3, .row 9]), some (.arr 3 (.int .i64) h0), some (.arr 3 (.int .i64) h1), some (.arr 3 (.int .i64) l0), some (.arr 3 (.int .i64) l1), some (.arr 3 (.int .i64) l2), some (.arr 3 (.int .i64) l3)]))
def T_spCol0_0 : TT := fun vs bl => (D_spCol0_0 vs bl fun p0 e0 q0 f0 p1 e1 q1 f1 a b c d kk a0 b0 c0 d0 a1 b1 c1 d1 a2 b2 c2 d2 a3 b3 c3 d3 g0 g1 g2 g3 x h0 h1 l0 l1 l2 l3 => some (U_spCol0_0 p0 e0 q0 f0 p1 e1 q1 f1 a b c d kk a0 b0 c0 d0 a1 b1 c1 d1 a2 b2 c2 d2 a3 b3 c3 d3 g0 g1 g2 g3 x h0 h1 l0 l1 l2 l3)).getD .no
theorem tu_spCol0_0 (p0 e0 q0 f0 p1 e1 q1 f1 a b c d kk a0 b0 c0 d0 a1 b1 c1 d1 a2 b2 c2 d2 a3 b3 c3 d3 g0 g1 g2 g3 x : Int) (h0 h1 l0 l1 l2 l3 : List Int) : T_spCol0_0 [.one (.int .i64 0), .one (.ptr 1 0), .one (.ptr 2 0), .one (.ptr 3 0), .one (.ptr 10 0), .one (.int .i64 x)] [some (.box [.int .i64 p0, .int .i64 e0, .int .i64 q0, .int .i64 f0, .row 4, .int .i64 p1, .int .i64 e1, .int .i64 q1, .int .i64 f1, .row 5]), some (.box [.int .i64 a, .int .i64 b, .int .i64 c, .int .i64 d]), some (.box [.int .i64 kk]), some (.box [.int .i64 a0, .int .i64 b0, .int .i64 c0, .int .i64 d0, .row 6, .int .i64 a1, .int .i64 b1, .int .i64 c1, .int .i64 d1, .row 7, .int .i64 a2, .int .i64 b2, .int .i64 c2, .int .i64 d2, .row 8, .int .i64 a3, .int .i64 b3, .int .i64 c3, .int .i64 d3, .row 9]), some (.arr 3 (.int .i64) h0), some (.arr 3 (.int .i64) h1), some (.arr 3 (.int .i64) l0), some (.arr 3 (.int .i64) l1), some (.arr 3 (.int .i64) l2), some (.arr 3 (.int .i64) l3), some (.box [.int .i64 g0, .int .i64 g1, .int .i64 g2, .int .i64 g3, .row 4])] = U_spCol0_0 p0 e0 q0 f0 p1 e1 q1 f1 a b c d kk a0 b0 c0 d0 a1 b1 c1 d1 a2 b2 c2 d2 a3 b3 c3 d3 g0 g1 g2 g3 x h0 h1 l0 l1 l2 l3 := by kernel_rfl
theorem b_spCol0_0 (p0 e0 q0 f0 p1 e1 q1 f1 a b c d kk a0 b0 c0 d0 a1 b1 c1 d1 a2 b2 c2 d2 a3 b3 c3 d3 g0 g1 g2 g3 x : Int) (h0 h1 l0 l1 l2 l3 : List Int) (Kc : KT) : exec Try.prog t_spCol0 (annOf []) l_spCol0 20 10 (loopOf Try.f70 0) (unp 56 [0, 2, 3, 4, 7, 8] [.one (.int .i64 0), .one (.ptr 1 0), .one (.ptr 2 0), .one (.ptr 3 0), .one (.ptr 10 0), .one (.int .i64 x)] [some (.box [.int .i64 p0, .int .i64 e0, .int .i64 q0, .int .i64 f0, .row 4, .int .i64 p1, .int .i64 e1, .int .i64 q1, .int .i64 f1, .row 5]), some (.box [.int .i64 a, .int .i64 b, .int .i64 c, .int .i64 d]), some (.box [.int .i64 kk]), some (.box [.int .i64 a0, .int .i64 b0, .int .i64 c0, .int .i64 d0, .row 6, .int .i64 a1, .int .i64 b1, .int .i64 c1, .int .i64 d1, .row 7, .int .i64 a2, .int .i64 b2, .int .i64 c2, .int .i64 d2, .row 8, .int .i64 a3, .int .i64 b3, .int .i64 c3, .int .i64 d3, .row 9]), some (.arr 3 (.int .i64) h0), some (.arr 3 (.int .i64) h1), some (.arr 3 (.int .i64) l0), some (.arr 3 (.int .i64) l1), some (.arr 3 (.int .i64) l2), some (.arr 3 (.int .i64) l3), some (.box [.int .i64 g0, .int .i64 g1, .int .i64 g2, .int .i64 g3, .row 4])]) (endc 10 56 [0, 2, 3, 4, 7, 8] (kxOf [] [6]) Kc) =
  (U_spCol0_0 p0 e0 q0 f0 p1 e1 q1 f1 a b c d kk a0 b0 c0 d0 a1 b1 c1 d1 a2 b2 c2 d2 a3 b3 c3 d3 g0 g1 g2 g3 x h0 h1 l0 l1 l2 l3).runc Kc := by kernel_rfl
def t_spCol1 : FuncId → Option Summ := tabOf [(68, G_lift_Forward), (71, G_pl_Column), (72, G_dwt_setColumn)]
def l_spCol1 : Nat → Option LSumm := ltOf [(3, ⟨10, 56, [0, 2, 3, 4, 7, 8], (kxOf [] [6]), S_spCol1_0⟩)]
theorem e_spCol1 (p0 e0 q0 f0 p1 e1 q1 f1 a b c d k a0 b0 c0 d0 a1 b1 c1 d1 a2 b2 c2 d2 a3 b3 c3 d3 : Int) (h0 h1 l0 l1 l2 l3 : List Int) : funR Try.prog t_spCol1 (annOf []) l_spCol1 20 Try.f70 [.one (.int .i64 1), .one (.ptr 0 0), .one (.ptr 1 0), .one (.ptr 2 0), .one (.ptr 3 0)] [.box [.int .i64 p0, .int .i64 e0, .int .i64 q0, .int .i64 f0, .row 4, .int .i64 p1, .int .i64 e1, .int .i64 q1, .int .i64 f1, .row 5], .box [.int .i64 a, .int .i64 b, .int .i64 c, .int .i64 d], .box [.int .i64 k], .box [.int .i64 a0, .int .i64 b0, .int .i64 c0, .int .i64 d0, .row 6, .int .i64 a1, .int .i64 b1, .int .i64 c1, .int .i64 d1, .row 7, .int .i64 a2, .int .i64 b2, .int .i64 c2, .int .i64 d2, .row 8, .int .i64 a3, .int .i64 b3, .int .i64 c3, .int .i64 d3, .row 9], .arr 3 (.int .i64) h0, .arr 3 (.int .i64) h1, .arr 3 (.int .i64) l0, .arr 3 (.int .i64) l1, .arr 3 (.int .i64) l2, .arr 3 (.int .i64) l3] =
  (ite2 (k_spCol1_0 p0 e0 q0 f0 p1 e1 q1 f1 a b c d k a0 b0 c0 d0 a1 b1 c1 d1 a2 b2 c2 d2 a3 b3 c3 d3 p1 e1 q1 f1 p1 h0 h1 l0 l1 l2 l3)
  (some ⟨.one (.int .i64 0), [some (.box [.int .i64 p0, .int .i64 e0, .int .i64 q0, .int .i64 f0, .row 4, .int .i64 p1, .int .i64 e1, .int .i64 q1, .int .i64 f1, .row 5]), some (.box [.int .i64 a, .int .i64 b, .int .i64 c, .int .i64 d]), some (.box [.int .i64 k]), some (.box [.int .i64 a0, .int .i64 b0, .int .i64 c0, .int .i64 d0, .row 6, .int .i64 a1, .int .i64 b1, .int .i64 c1, .int .i64 d1, .row 7, .int .i64 a2, .int .i64 b2, .int .i64 c2, .int .i64 d2, .row 8, .int .i64 a3, .int .i64 b3, .int .i64 c3, .int .i64 d3, .row 9]), some (.arr 3 (.int .i64) h0), some (.arr 3 (.int .i64) h1), some (.arr 3 (.int .i64) l0), some (.arr 3 (.int .i64) (colsLo l1 h1 (Int.toNat (q1 - p1)) (Int.toNat (f1 - e1)) b k)), some (.arr 3 (.int .i64) l2), some (.arr 3 (.int .i64) (colsHi l3 h1 (Int.toNat (q1 - p1)) (Int.toNat (f1 - e1)) b k))], []⟩)
  none) := by kernel_rfl
def U_spCol1_0 (p0 e0 q0 f0 p1 e1 q1 f1 a b c d kk a0 b0 c0 d0 a1 b1 c1 d1 a2 b2 c2 d2 a3 b3 c3 d3 g0 g1 g2 g3 x : Int) (h0 h1 l0 l1 l2 l3 : List Int) : LT :=
  (.br (decide (x < g2))
    (.br (small (List.length (plCol g0 g1 g2 g3 h1 x)))
     (.br ((fw (plCol g0 g1 g2 g3 h1 x) b kk).2.2 != 0)
      (.leaf Ex.ret [.one (.int .i64 (fw (plCol g0 g1 g2 g3 h1 x) b kk).2.2)] [some (.box [.int .i64 p0, .int .i64 e0, .int .i64 q0, .int .i64 f0, .row 4, .int .i64 p1, .int .i64 e1, .int .i64 q1, .int .i64 f1, .row 5]), some (.box [.int .i64 a, .int .i64 b, .int .i64 c, .int .i64 d]), some (.box [.int .i64 kk]), some (.box [.int .i64 a0, .int .i64 b0, .int .i64 c0, .int .i64 d0, .row 6, .int .i64 a1, .int .i64 b1, .int .i64 c1, .int .i64 d1, .row 7, .int .i64 a2, .int .i64 b2, .int .i64 c2, .int .i64 d2, .row 8, .int .i64 a3, .int .i64 b3, .int .i64 c3, .int .i64 d3, .row 9]), some (.arr 3 (.int .i64) h0), some (.arr 3 (.int .i64) h1), some (.arr 3 (.int .i64) l0), some (.arr 3 (.int .i64) l1), some (.arr 3 (.int .i64) l2), some (.arr 3 (.int .i64) l3)])
      (.br (decide (0 ≤ a1) && decide (a1 ≤ x) && decide (x < c1) && decide (c1 ≤ 4096) && decide (List.length (fw (plCol g0 g1 g2 g3 h1 x) b kk).1 ≤ 4096) && decide ((↑(List.length l1) : Int) = (c1 - a1) * (↑(List.length (fw (plCol g0 g1 g2 g3 h1 x) b kk).1) : Int)))
       (.br (decide (0 ≤ a3) && decide (a3 ≤ x) && decide (x < c3) && decide (c3 ≤ 4096) && decide (List.length (fw (plCol g0 g1 g2 g3 h1 x) b kk).2.1 ≤ 4096) && decide ((↑(List.length l3) : Int) = (c3 - a3) * (↑(List.length (fw (plCol g0 g1 g2 g3 h1 x) b kk).2.1) : Int)))
        (.leaf Ex.normal [.one (.int .i64 1), .one (.ptr 1 0), .one (.ptr 2 0), .one (.ptr 3 0), .one (.ptr 10 0), .one (.int .i64 (IntKind.wrap .i64 (x + 1)))] [some (.box [.int .i64 p0, .int .i64 e0, .int .i64 q0, .int .i64 f0, .row 4, .int .i64 p1, .int .i64 e1, .int .i64 q1, .int .i64 f1, .row 5]), some (.box [.int .i64 a, .int .i64 b, .int .i64 c, .int .i64 d]), some (.box [.int .i64 kk]), some (.box [.int .i64 a0, .int .i64 b0, .int .i64 c0, .int .i64 d0, .row 6, .int .i64 a1, .int .i64 b1, .int .i64 c1, .int .i64 d1, .row 7, .int .i64 a2, .int .i64 b2, .int .i64 c2, .int .i64 d2, .row 8, .int .i64 a3, .int .i64 b3, .int .i64 c3, .int .i64 d3, .row 9]), some (.arr 3 (.int .i64) h0), some (.arr 3 (.int .i64) h1), some (.arr 3 (.int .i64) l0), some (.arr 3 (.int .i64) (setC l1 (Int.toNat (c1 - a1)) (Int.toNat (x - a1)) (fw (plCol g0 g1 g2 g3 h1 x) b kk).1)), some (.arr 3 (.int .i64) l2), some (.arr 3 (.int .i64) (setC l3 (Int.toNat (c3 - a3)) (Int.toNat (x - a3)) (fw (plCol g0 g1 g2 g3 h1 x) b kk).2.1)), some (.box [.int .i64 g0, .int .i64 g1, .int .i64 g2, .int .i64 g3, .row 5])])
        .no)
       .no))
     .no)
    (.leaf (Ex.exit 0) [] [some (.box [.int .i64 p0, .int .i64 e0, .int .i64 q0, .int .i64 f0, .row 4, .int .i64 p1, .int .i64 e1, .int .i64 q1, .int .i64 f1, .row 5]), some (.box [.int .i64 a, .int .i64 b, .int .i64 c, .int .i64 d]), some (.box [.int .i64 kk]), some (.box [.int .i64 a0, .int .i64 b0, .int .i64 c0, .int .i64 d0, .row 6, .int .i64 a1, .int .i64 b1, .int .i64 c1, .int .i64 d1, .row 7, .int .i64 a2, .int .i64 b2, .int .i64 c2, .int .i64 d2, .row 8, .int .i64 a3, .int .i64 b3, .int .i64 c3, .int .i64 d3, .row 9]), some (.arr 3 (.int .i64) h0), some (.arr 3 (.int .i64) h1), some (.arr 3 (.int .i64) l0), some (.arr 3 (.int .i64) l1), some (.arr 3 (.int .i64) l2), some (.arr 3 (.int .i64) l3)]))
def T_spCol1_0 : TT := fun vs bl => (D_spCol1_0 vs bl fun p0 e0 q0 f0 p1 e1 q1 f1 a b c d kk a0 b0 c0 d0 a1 b1 c1 d1 a2 b2 c2 d2 a3 b3 c3 d3 g0 g1 g2 g3 x h0 h1 l0 l1 l2 l3 => some (U_spCol1_0 p0 e0 q0 f0 p1 e1 q1 f1 a b c d kk a0 b0 c0 d0 a1 b1 c1 d1 a2 b2 c2 d2 a3 b3 c3 d3 g0 g1 g2 g3 x h0 h1 l0 l1 l2 l3)).getD .no
theorem tu_spCol1_0 (p0 e0 q0 f0 p1 e1 q1 f1 a b c d kk a0 b0 c0 d0 a1 b1 c1 d1 a2 b2 c2 d2 a3 b3 c3 d3 g0 g1 g2 g3 x : Int) (h0 h1 l0 l1 l2 l3 : List Int) : T_spCol1_0 [.one (.int .i64 1), .one (.ptr 1 0), .one (.ptr 2 0), .one (.ptr 3 0), .one (.ptr 10 0), .one (.int .i64 x)] [some (.box [.int .i64 p0, .int .i64 e0, .int .i64 q0, .int .i64 f0, .row 4, .int .i64 p1, .int .i64 e1, .int .i64 q1, .int .i64 f1, .row 5]), some (.box [.int .i64 a, .int .i64 b, .int .i64 c, .int .i64 d]), some (.box [.int .i64 kk]), some (.box [.int .i64 a0, .int .i64 b0, .int .i64 c0, .int .i64 d0, .row 6, .int .i64 a1, .int .i64 b1, .int .i64 c1, .int .i64 d1, .row 7, .int .i64 a2, .int .i64 b2, .int .i64 c2, .int .i64 d2, .row 8, .int .i64 a3, .int .i64 b3, .int .i64 c3, .int .i64 d3, .row 9]), some (.arr 3 (.int .i64) h0), some (.arr 3 (.int .i64) h1), some (.arr 3 (.int .i64) l0), some (.arr 3 (.int .i64) l1), some (.arr 3 (.int .i64) l2), some (.arr 3 (.int .i64) l3), some (.box [.int .i64 g0, .int .i64 g1, .int .i64 g2, .int .i64 g3, .row 5])] = U_spCol1_0 p0 e0 q0 f0 p1 e1 q1 f1 a b c d kk a0 b0 c0 d0 a1 b1 c1 d1 a2 b2 c2 d2 a3 b3 c3 d3 g0 g1 g2 g3 x h0 h1 l0 l1 l2 l3 := by kernel_rfl
theorem b_spCol1_0 (p0 e0 q0 f0 p1 e1 q1 f1 a b c d kk a0 b0 c0 d0 a1 b1 c1 d1 a2 b2 c2 d2 a3 b3 c3 d3 g0 g1 g2 g3 x : Int) (h0 h1 l0 l1 l2 l3 : List Int) (Kc : KT) : exec Try.prog t_spCol1 (annOf []) l_spCol1 20 10 (loopOf Try.f70 0) (unp 56 [0, 2, 3, 4, 7, 8] [.one (.int .i64 1), .one (.ptr 1 0), .one (.ptr 2 0), .one (.ptr 3 0), .one (.ptr 10 0), .one (.int .i64 x)] [some (.box [.int .i64 p0, .int .i64 e0, .int .i64 q0, .int .i64 f0, .row 4, .int .i64 p1, .int .i64 e1, .int .i64 q1, .int .i64 f1, .row 5]), some (.box [.int .i64 a, .int .i64 b, .int .i64 c, .int .i64 d]), some (.box [.int .i64 kk]), some (.box [.int .i64 a0, .int .i64 b0, .int .i64 c0, .int .i64 d0, .row 6, .int .i64 a1, .int .i64 b1, .int .i64 c1, .int .i64 d1, .row 7, .int .i64 a2, .int .i64 b2, .int .i64 c2, .int .i64 d2, .row 8, .int .i64 a3, .int .i64 b3, .int .i64 c3, .int .i64 d3, .row 9]), some (.arr 3 (.int .i64) h0), some (.arr 3 (.int .i64) h1), some (.arr 3 (.int .i64) l0), some (.arr 3 (.int .i64) l1), some (.arr 3 (.int .i64) l2), some (.arr 3 (.int .i64) l3), some (.box [.int .i64 g0, .int .i64 g1, .int .i64 g2, .int .i64 g3, .row 5])]) (endc 10 56 [0, 2, 3, 4, 7, 8] (kxOf [] [6]) Kc) =
  (U_spCol1_0 p0 e0 q0 f0 p1 e1 q1 f1 a b c d kk a0 b0 c0 d0 a1 b1 c1 d1 a2 b2 c2 d2 a3 b3 c3 d3 g0 g1 g2 g3 x h0 h1 l0 l1 l2 l3).runc Kc := by kernel_rfl
end
end Go.Rx.Ch06
