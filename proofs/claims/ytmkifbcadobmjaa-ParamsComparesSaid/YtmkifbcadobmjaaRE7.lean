/- Each function, run by the executor: an equation. -/
import Derived.Test.YtmkifbcadobmjaaRG
import Derived.Test.YtmkifbcadobmjaaProg
import Derived.KernelRfl
set_option linter.unnecessarySimpa false
set_option linter.unusedVariables false
set_option linter.unusedSimpArgs false
set_option linter.unusedVariables false
set_option maxRecDepth 100000
set_option maxHeartbeats 4000000
open Go Go.Rx Go.Proofs
namespace Go.Rx.Ch23
noncomputable section
def t_pyr_validLevels : FuncId → Option Summ := tabOf []
def l_pyr_validLevels : Nat → Option LSumm := ltOf []
theorem e_pyr_validLevels (n : Int) : funR Try.prog t_pyr_validLevels (annOf []) l_pyr_validLevels 20 Try.f76 [.one (.int .i64 n)] [] =
  (ite2 (decide (n ≥ 0))
  (some ⟨.one (.bool (decide (n ≤ 5))), [], []⟩)
  (some ⟨.one (.bool false), [], []⟩)) := by kernel_rfl
def t_pyr_Count : FuncId → Option Summ := tabOf [(76, G_pyr_validLevels)]
def l_pyr_Count : Nat → Option LSumm := ltOf []
theorem e_pyr_Count (n : Int) : funR Try.prog t_pyr_Count (annOf []) l_pyr_Count 20 Try.f84 [.one (.int .i64 n)] [] =
  (ite2 (!inr 0 5 n)
  (some ⟨.one (.int .i64 0), [], []⟩)
  (some ⟨.one (.int .i64 (IntKind.wrap .i64 (IntKind.wrap .i64 (3 * n) + 1))), [], []⟩)) := by kernel_rfl
def t_pyr_Place : FuncId → Option Summ := tabOf [(84, G_pyr_Count)]
def l_pyr_Place : Nat → Option LSumm := ltOf []
theorem e_pyr_Place (i n : Int) : funR Try.prog t_pyr_Place (annOf []) l_pyr_Place 20 Try.f77 [.one (.int .i64 i), .one (.int .i64 n)] [] =
  (ite2 (decide (i < 0))
  (some ⟨V.tup [(false, [.int .i64 0]), (false, [.int .i64 0]), (false, [.bool false])], [], []⟩)
  (ite2 (decide (i ≥ count n))
    (some ⟨V.tup [(false, [.int .i64 0]), (false, [.int .i64 0]), (false, [.bool false])], [], []⟩)
    (ite2 (i == 0)
      (some ⟨V.tup [(false, [.int .i64 n]), (false, [.int .i64 0]), (false, [.bool true])], [], []⟩)
      (some ⟨V.tup [(false, [.int .i64 (IntKind.wrap .i64 (IntKind.wrap .i64 (n - IntKind.wrap .i64 (Int.tdiv (IntKind.wrap .i64 (i + 2)) 3)) + 1))]), (false, [.int .i64 (IntKind.wrap .i64 (IntKind.wrap .i64 (i - IntKind.wrap .i64 (3 * IntKind.wrap .i64 (Int.tdiv (IntKind.wrap .i64 (i + 2)) 3))) + 3))]), (false, [.bool true])], [], []⟩)))) := by kernel_rfl
def t_pyr_Indices : FuncId → Option Summ := tabOf [(76, G_pyr_validLevels)]
def l_pyr_Indices : Nat → Option LSumm := ltOf []
theorem e_pyr_Indices (n r : Int) : funR Try.prog t_pyr_Indices (annOf []) l_pyr_Indices 20 Try.f66 [.one (.int .i64 n), .one (.int .i64 r)] [] =
  (ite2 (!inr 0 5 n)
  (some ⟨V.one (C.row 0), [], [Blk.arr 3 (Sh.int .i64) ([] : List Int)]⟩)
  (ite2 (decide (r < 0))
    (some ⟨V.one (C.row 0), [], [Blk.arr 3 (Sh.int .i64) ([] : List Int)]⟩)
    (ite2 (decide (r > n))
      (some ⟨V.one (C.row 0), [], [Blk.arr 3 (Sh.int .i64) ([] : List Int)]⟩)
      (ite2 (r == 0)
        (some ⟨V.one (C.row 0), [], [Blk.arr 3 (Sh.int .i64) ([0] : List Int)]⟩)
        (some ⟨V.one (C.row 0), [], [Blk.arr 3 (Sh.int .i64) ([IntKind.wrap .i64 (IntKind.wrap .i64 (3 * r) - 2), IntKind.wrap .i64 (IntKind.wrap .i64 (3 * r) - 1), IntKind.wrap .i64 (3 * r)] : List Int)]⟩))))) := by kernel_rfl
def t_pyr_Resolution : FuncId → Option Summ := tabOf [(26, G_rect_Reduce), (76, G_pyr_validLevels)]
def l_pyr_Resolution : Nat → Option LSumm := ltOf []
theorem e_pyr_Resolution (a b c d n r : Int) : funR Try.prog t_pyr_Resolution (annOf []) l_pyr_Resolution 20 Try.f65 [.agg [.int .i64 a, .int .i64 b, .int .i64 c, .int .i64 d], .one (.int .i64 n), .one (.int .i64 r)] [] =
  (ite2 (!inr 0 5 n)
  (some ⟨.agg [.int .i64 0, .int .i64 0, .int .i64 0, .int .i64 0], [], []⟩)
  (ite2 (decide (r < 0))
    (some ⟨.agg [.int .i64 0, .int .i64 0, .int .i64 0, .int .i64 0], [], []⟩)
    (ite2 (decide (r > n))
      (some ⟨.agg [.int .i64 0, .int .i64 0, .int .i64 0, .int .i64 0], [], []⟩)
      (ite2 (decide (0 ≤ IntKind.wrap IntKind.u64 (IntKind.wrap .i64 (n - r))))
        (some ⟨.agg [.int .i64 (reduce a b c d (IntKind.wrap .i64 (1 * 2 ^ min (Int.toNat (IntKind.wrap IntKind.u64 (IntKind.wrap .i64 (n - r)))) 64)) (IntKind.wrap .i64 (1 * 2 ^ min (Int.toNat (IntKind.wrap IntKind.u64 (IntKind.wrap .i64 (n - r)))) 64))).fst, .int .i64 (reduce a b c d (IntKind.wrap .i64 (1 * 2 ^ min (Int.toNat (IntKind.wrap IntKind.u64 (IntKind.wrap .i64 (n - r)))) 64)) (IntKind.wrap .i64 (1 * 2 ^ min (Int.toNat (IntKind.wrap IntKind.u64 (IntKind.wrap .i64 (n - r)))) 64))).snd.fst, .int .i64 (reduce a b c d (IntKind.wrap .i64 (1 * 2 ^ min (Int.toNat (IntKind.wrap IntKind.u64 (IntKind.wrap .i64 (n - r)))) 64)) (IntKind.wrap .i64 (1 * 2 ^ min (Int.toNat (IntKind.wrap IntKind.u64 (IntKind.wrap .i64 (n - r)))) 64))).snd.snd.fst, .int .i64 (reduce a b c d (IntKind.wrap .i64 (1 * 2 ^ min (Int.toNat (IntKind.wrap IntKind.u64 (IntKind.wrap .i64 (n - r)))) 64)) (IntKind.wrap .i64 (1 * 2 ^ min (Int.toNat (IntKind.wrap IntKind.u64 (IntKind.wrap .i64 (n - r)))) 64))).snd.snd.snd], [], []⟩)
        none)))) := by kernel_rfl
def t_ref06_Count : FuncId → Option Summ := tabOf []
def l_ref06_Count : Nat → Option LSumm := ltOf []
theorem e_ref06_Count (n : Int) : funR Try.prog t_ref06_Count (annOf []) l_ref06_Count 20 Try.f79 [.one (.int .i64 n)] [] =
  (ite2 (decide (n < 0))
  (some ⟨.one (.int .i64 0), [], []⟩)
  (ite2 (decide (n > 5))
    (some ⟨.one (.int .i64 0), [], []⟩)
    (some ⟨.one (.int .i64 (IntKind.wrap .i64 (IntKind.wrap .i64 (3 * n) + 1))), [], []⟩))) := by kernel_rfl
def t_ref06_Place : FuncId → Option Summ := tabOf [(79, G_ref06_Count)]
def l_ref06_Place : Nat → Option LSumm := ltOf []
theorem e_ref06_Place (i n : Int) : funR Try.prog t_ref06_Place (annOf []) l_ref06_Place 20 Try.f80 [.one (.int .i64 i), .one (.int .i64 n)] [] =
  (ite2 (decide (i < 0))
  (some ⟨V.tup [(false, [.int .i64 0]), (false, [.int .i64 0]), (false, [.bool false])], [], []⟩)
  (ite2 (decide (i ≥ count n))
    (some ⟨V.tup [(false, [.int .i64 0]), (false, [.int .i64 0]), (false, [.bool false])], [], []⟩)
    (ite2 (i == 0)
      (some ⟨V.tup [(false, [.int .i64 n]), (false, [.int .i64 0]), (false, [.bool true])], [], []⟩)
      (some ⟨V.tup [(false, [.int .i64 (IntKind.wrap .i64 (IntKind.wrap .i64 (n - IntKind.wrap .i64 (Int.tdiv (IntKind.wrap .i64 (i + 2)) 3)) + 1))]), (false, [.int .i64 (IntKind.wrap .i64 (IntKind.wrap .i64 (i - IntKind.wrap .i64 (3 * IntKind.wrap .i64 (Int.tdiv (IntKind.wrap .i64 (i + 2)) 3))) + 3))]), (false, [.bool true])], [], []⟩)))) := by kernel_rfl
def t_ref06_Resolution : FuncId → Option Summ := tabOf [(39, G_ref01_Reduce), (79, G_ref06_Count)]
def l_ref06_Resolution : Nat → Option LSumm := ltOf [(5, ⟨0, 34, [1, 3, 6, 7, 8], (kxOf [3, 6, 7] [6]), S_ref06_Resolution_0⟩)]
theorem e_ref06_Resolution (a b c d n r : Int) : funR Try.prog t_ref06_Resolution (annOf []) l_ref06_Resolution 20 Try.f70 [.agg [.int .i64 a, .int .i64 b, .int .i64 c, .int .i64 d], .one (.int .i64 n), .one (.int .i64 r)] [] =
  (ite2 (count n == 0)
  (some ⟨.agg [.int .i64 0, .int .i64 0, .int .i64 0, .int .i64 0], [], []⟩)
  (ite2 (decide (r < 0))
    (some ⟨.agg [.int .i64 0, .int .i64 0, .int .i64 0, .int .i64 0], [], []⟩)
    (ite2 (decide (r > n))
      (some ⟨.agg [.int .i64 0, .int .i64 0, .int .i64 0, .int .i64 0], [], []⟩)
      (ite2 (k_ref06_Resolution_0 n 1 r a b c d 0 0 0 0)
        (some ⟨.agg [.int .i64 (reduce a b c d (pw (n - r)) (pw (n - r))).fst, .int .i64 (reduce a b c d (pw (n - r)) (pw (n - r))).snd.fst, .int .i64 (reduce a b c d (pw (n - r)) (pw (n - r))).snd.snd.fst, .int .i64 (reduce a b c d (pw (n - r)) (pw (n - r))).snd.snd.snd], [], []⟩)
        none)))) := by kernel_rfl
def U_ref06_Resolution_0 (n m i a b c d e f g o : Int) : LT :=
  (.br (decide (i < n))
    (.leaf Ex.normal [.one (.int .i64 n), V.one (C.ptr 0 0), V.one (C.ptr 1 0), .one (.int .i64 (IntKind.wrap .i64 (2 * m))), .one (.int .i64 (IntKind.wrap .i64 (i + 1)))] [some (Blk.box [.int .i64 a, .int .i64 b, .int .i64 c, .int .i64 d]), some (Blk.box [.int .i64 e, .int .i64 f, .int .i64 g, .int .i64 o])])
    (.leaf (Ex.exit 0) [V.one (C.ptr 0 0), V.one (C.ptr 1 0), .one (.int .i64 m)] [some (Blk.box [.int .i64 a, .int .i64 b, .int .i64 c, .int .i64 d]), some (Blk.box [.int .i64 e, .int .i64 f, .int .i64 g, .int .i64 o])]))
def T_ref06_Resolution_0 : List V → List (Option Blk) → LT := fun vs bl => (pO vs fun c' vs => kI c' fun n => pO vs fun c' vs => kP 0 0 c' <| pO vs fun c' vs => kP 1 0 c' <| pO vs fun c' vs => kI c' fun m => pO vs fun c' vs => kI c' fun i => pE vs <| bB bl fun q' bl => tC q' fun c' q' => kI c' fun a => tC q' fun c' q' => kI c' fun b => tC q' fun c' q' => kI c' fun c => tC q' fun c' q' => kI c' fun d => tE q' <| bB bl fun q' bl => tC q' fun c' q' => kI c' fun e => tC q' fun c' q' => kI c' fun f => tC q' fun c' q' => kI c' fun g => tC q' fun c' q' => kI c' fun o => tE q' <| bE bl <| some (U_ref06_Resolution_0 n m i a b c d e f g o)).getD .no
theorem tu_ref06_Resolution_0 (n m i a b c d e f g o : Int) : T_ref06_Resolution_0 [.one (.int .i64 n), .one (.ptr 0 0), .one (.ptr 1 0), .one (.int .i64 m), .one (.int .i64 i)] [some (.box [.int .i64 a, .int .i64 b, .int .i64 c, .int .i64 d]), some (.box [.int .i64 e, .int .i64 f, .int .i64 g, .int .i64 o])] = U_ref06_Resolution_0 n m i a b c d e f g o := by kernel_rfl
theorem b_ref06_Resolution_0 (n m i a b c d e f g o : Int) (Kc : Ex → Option (List V × List (Option Blk)) → Option Out) : exec Try.prog t_ref06_Resolution (annOf []) l_ref06_Resolution 20 0 (loopOf Try.f70 0) (unp 34 [1, 3, 6, 7, 8] [.one (.int .i64 n), .one (.ptr 0 0), .one (.ptr 1 0), .one (.int .i64 m), .one (.int .i64 i)] [some (.box [.int .i64 a, .int .i64 b, .int .i64 c, .int .i64 d]), some (.box [.int .i64 e, .int .i64 f, .int .i64 g, .int .i64 o])]) (endc 0 34 [1, 3, 6, 7, 8] (kxOf [3, 6, 7] [6]) Kc) =
  (T_ref06_Resolution_0 [.one (.int .i64 n), .one (.ptr 0 0), .one (.ptr 1 0), .one (.int .i64 m), .one (.int .i64 i)] [some (.box [.int .i64 a, .int .i64 b, .int .i64 c, .int .i64 d]), some (.box [.int .i64 e, .int .i64 f, .int .i64 g, .int .i64 o])]).runc Kc := by kernel_rfl
def t_dwt_Bands : FuncId → Option Summ := tabOf [(32, G_rect_Valid)]
def l_dwt_Bands : Nat → Option LSumm := ltOf []
theorem e_dwt_Bands (a b c d : Int) : funR Try.prog t_dwt_Bands (annOf []) l_dwt_Bands 20 Try.f78 [.agg [.int .i64 a, .int .i64 b, .int .i64 c, .int .i64 d]] [] =
  (ite2 (!valid a b c d)
  (some ⟨.agg [.int .i64 0, .int .i64 0, .int .i64 0, .int .i64 0, .int .i64 0, .int .i64 0, .int .i64 0, .int .i64 0, .int .i64 0, .int .i64 0, .int .i64 0, .int .i64 0, .int .i64 0, .int .i64 0, .int .i64 0, .int .i64 0], [], []⟩)
  (some ⟨.agg [.int .i64 (IntKind.wrap .i64 (Int.tdiv (IntKind.wrap .i64 (a + 1)) 2)), .int .i64 (IntKind.wrap .i64 (Int.tdiv (IntKind.wrap .i64 (b + 1)) 2)), .int .i64 (IntKind.wrap .i64 (Int.tdiv (IntKind.wrap .i64 (c + 1)) 2)), .int .i64 (IntKind.wrap .i64 (Int.tdiv (IntKind.wrap .i64 (d + 1)) 2)), .int .i64 (IntKind.wrap .i64 (Int.tdiv (IntKind.wrap .i64 (a + 0)) 2)), .int .i64 (IntKind.wrap .i64 (Int.tdiv (IntKind.wrap .i64 (b + 1)) 2)), .int .i64 (IntKind.wrap .i64 (Int.tdiv (IntKind.wrap .i64 (c + 0)) 2)), .int .i64 (IntKind.wrap .i64 (Int.tdiv (IntKind.wrap .i64 (d + 1)) 2)), .int .i64 (IntKind.wrap .i64 (Int.tdiv (IntKind.wrap .i64 (a + 1)) 2)), .int .i64 (IntKind.wrap .i64 (Int.tdiv (IntKind.wrap .i64 (b + 0)) 2)), .int .i64 (IntKind.wrap .i64 (Int.tdiv (IntKind.wrap .i64 (c + 1)) 2)), .int .i64 (IntKind.wrap .i64 (Int.tdiv (IntKind.wrap .i64 (d + 0)) 2)), .int .i64 (IntKind.wrap .i64 (Int.tdiv (IntKind.wrap .i64 (a + 0)) 2)), .int .i64 (IntKind.wrap .i64 (Int.tdiv (IntKind.wrap .i64 (b + 0)) 2)), .int .i64 (IntKind.wrap .i64 (Int.tdiv (IntKind.wrap .i64 (c + 0)) 2)), .int .i64 (IntKind.wrap .i64 (Int.tdiv (IntKind.wrap .i64 (d + 0)) 2))], [], []⟩)) := by kernel_rfl
def t_ref05_half : FuncId → Option Summ := tabOf []
def l_ref05_half : Nat → Option LSumm := ltOf []
theorem e_ref05_half (n : Int) (b : Bool) : funR Try.prog t_ref05_half (annOf []) l_ref05_half 20 Try.f85 [.one (.int .i64 n), .one (.bool b)] [] =
  (ite2 (b)
  (some ⟨.one (.int .i64 (IntKind.wrap .i64 (Int.tdiv n 2))), [], []⟩)
  (some ⟨.one (.int .i64 (IntKind.wrap .i64 (Int.tdiv (IntKind.wrap .i64 (n + 1)) 2))), [], []⟩)) := by kernel_rfl
def t_ref05_Bands : FuncId → Option Summ := tabOf [(36, G_ref01_Valid), (85, G_ref05_half)]
def l_ref05_Bands : Nat → Option LSumm := ltOf []
theorem e_ref05_Bands (a b c d : Int) : funR Try.prog t_ref05_Bands (annOf []) l_ref05_Bands 20 Try.f81 [.agg [.int .i64 a, .int .i64 b, .int .i64 c, .int .i64 d]] [] =
  (ite2 (!valid a b c d)
  (some ⟨.agg [.int .i64 0, .int .i64 0, .int .i64 0, .int .i64 0, .int .i64 0, .int .i64 0, .int .i64 0, .int .i64 0, .int .i64 0, .int .i64 0, .int .i64 0, .int .i64 0, .int .i64 0, .int .i64 0, .int .i64 0, .int .i64 0], [], []⟩)
  (ite2 (inr 0 4096 a)
    (ite2 (inr 0 4096 b)
      (ite2 (inr 0 4096 c)
        (ite2 (inr 0 4096 d)
          (ite2 (inr 0 4096 a)
            (ite2 (inr 0 4096 b)
              (ite2 (inr 0 4096 c)
                (ite2 (inr 0 4096 d)
                  (ite2 (inr 0 4096 a)
                    (ite2 (inr 0 4096 b)
                      (ite2 (inr 0 4096 c)
                        (ite2 (inr 0 4096 d)
                          (ite2 (inr 0 4096 a)
                            (ite2 (inr 0 4096 b)
                              (ite2 (inr 0 4096 c)
                                (ite2 (inr 0 4096 d)
                                  (some ⟨.agg [.int .i64 (half a false), .int .i64 (half b false), .int .i64 (half c false), .int .i64 (half d false), .int .i64 (half a true), .int .i64 (half b false), .int .i64 (half c true), .int .i64 (half d false), .int .i64 (half a false), .int .i64 (half b true), .int .i64 (half c false), .int .i64 (half d true), .int .i64 (half a true), .int .i64 (half b true), .int .i64 (half c true), .int .i64 (half d true)], [], []⟩)
                                  none)
                                none)
                              none)
                            none)
                          none)
                        none)
                      none)
                    none)
                  none)
                none)
              none)
            none)
          none)
        none)
      none)
    none)) := by kernel_rfl
def t_pyr_Band : FuncId → Option Summ := tabOf [(32, G_rect_Valid), (65, G_pyr_Resolution), (77, G_pyr_Place), (78, G_dwt_Bands)]
def l_pyr_Band : Nat → Option LSumm := ltOf []
theorem e_pyr_Band (a b c d n i : Int) : funR Try.prog t_pyr_Band (annOf []) l_pyr_Band 20 Try.f67 [.agg [.int .i64 a, .int .i64 b, .int .i64 c, .int .i64 d], .one (.int .i64 n), .one (.int .i64 i)] [] =
  (ite2 (!plOk i n)
  (some ⟨.agg [.int .i64 0, .int .i64 0, .int .i64 0, .int .i64 0], [], []⟩)
  (ite2 (!valid a b c d)
    (some ⟨.agg [.int .i64 0, .int .i64 0, .int .i64 0, .int .i64 0], [], []⟩)
    (ite2 (i == 0)
      (some ⟨.agg [.int .i64 (resR a b c d n 0).fst, .int .i64 (resR a b c d n 0).snd.fst, .int .i64 (resR a b c d n 0).snd.snd.fst, .int .i64 (resR a b c d n 0).snd.snd.snd], [], []⟩)
      (ite2 (decide (0 ≤ plOr i n ∧ plOr i n < 4))
        (some ⟨.agg [.int .i64 (gI [(bnd (resR a b c d n (IntKind.wrap .i64 (IntKind.wrap .i64 (n - plLv i n) + 1))).fst (resR a b c d n (IntKind.wrap .i64 (IntKind.wrap .i64 (n - plLv i n) + 1))).snd.fst (resR a b c d n (IntKind.wrap .i64 (IntKind.wrap .i64 (n - plLv i n) + 1))).snd.snd.fst (resR a b c d n (IntKind.wrap .i64 (IntKind.wrap .i64 (n - plLv i n) + 1))).snd.snd.snd 0).fst, (bnd (resR a b c d n (IntKind.wrap .i64 (IntKind.wrap .i64 (n - plLv i n) + 1))).fst (resR a b c d n (IntKind.wrap .i64 (IntKind.wrap .i64 (n - plLv i n) + 1))).snd.fst (resR a b c d n (IntKind.wrap .i64 (IntKind.wrap .i64 (n - plLv i n) + 1))).snd.snd.fst (resR a b c d n (IntKind.wrap .i64 (IntKind.wrap .i64 (n - plLv i n) + 1))).snd.snd.snd 1).fst, (bnd (resR a b c d n (IntKind.wrap .i64 (IntKind.wrap .i64 (n - plLv i n) + 1))).fst (resR a b c d n (IntKind.wrap .i64 (IntKind.wrap .i64 (n - plLv i n) + 1))).snd.fst (resR a b c d n (IntKind.wrap .i64 (IntKind.wrap .i64 (n - plLv i n) + 1))).snd.snd.fst (resR a b c d n (IntKind.wrap .i64 (IntKind.wrap .i64 (n - plLv i n) + 1))).snd.snd.snd 2).fst, (bnd (resR a b c d n (IntKind.wrap .i64 (IntKind.wrap .i64 (n - plLv i n) + 1))).fst (resR a b c d n (IntKind.wrap .i64 (IntKind.wrap .i64 (n - plLv i n) + 1))).snd.fst (resR a b c d n (IntKind.wrap .i64 (IntKind.wrap .i64 (n - plLv i n) + 1))).snd.snd.fst (resR a b c d n (IntKind.wrap .i64 (IntKind.wrap .i64 (n - plLv i n) + 1))).snd.snd.snd 3).fst] (Int.toNat (plOr i n))), .int .i64 (gI [(bnd (resR a b c d n (IntKind.wrap .i64 (IntKind.wrap .i64 (n - plLv i n) + 1))).fst (resR a b c d n (IntKind.wrap .i64 (IntKind.wrap .i64 (n - plLv i n) + 1))).snd.fst (resR a b c d n (IntKind.wrap .i64 (IntKind.wrap .i64 (n - plLv i n) + 1))).snd.snd.fst (resR a b c d n (IntKind.wrap .i64 (IntKind.wrap .i64 (n - plLv i n) + 1))).snd.snd.snd 0).snd.fst, (bnd (resR a b c d n (IntKind.wrap .i64 (IntKind.wrap .i64 (n - plLv i n) + 1))).fst (resR a b c d n (IntKind.wrap .i64 (IntKind.wrap .i64 (n - plLv i n) + 1))).snd.fst (resR a b c d n (IntKind.wrap .i64 (IntKind.wrap .i64 (n - plLv i n) + 1))).snd.snd.fst (resR a b c d n (IntKind.wrap .i64 (IntKind.wrap .i64 (n - plLv i n) + 1))).snd.snd.snd 1).snd.fst, (bnd (resR a b c d n (IntKind.wrap .i64 (IntKind.wrap .i64 (n - plLv i n) + 1))).fst (resR a b c d n (IntKind.wrap .i64 (IntKind.wrap .i64 (n - plLv i n) + 1))).snd.fst (resR a b c d n (IntKind.wrap .i64 (IntKind.wrap .i64 (n - plLv i n) + 1))).snd.snd.fst (resR a b c d n (IntKind.wrap .i64 (IntKind.wrap .i64 (n - plLv i n) + 1))).snd.snd.snd 2).snd.fst, (bnd (resR a b c d n (IntKind.wrap .i64 (IntKind.wrap .i64 (n - plLv i n) + 1))).fst (resR a b c d n (IntKind.wrap .i64 (IntKind.wrap .i64 (n - plLv i n) + 1))).snd.fst (resR a b c d n (IntKind.wrap .i64 (IntKind.wrap .i64 (n - plLv i n) + 1))).snd.snd.fst (resR a b c d n (IntKind.wrap .i64 (IntKind.wrap .i64 (n - plLv i n) + 1))).snd.snd.snd 3).snd.fst] (Int.toNat (plOr i n))), .int .i64 (gI [(bnd (resR a b c d n (IntKind.wrap .i64 (IntKind.wrap .i64 (n - plLv i n) + 1))).fst (resR a b c d n (IntKind.wrap .i64 (IntKind.wrap .i64 (n - plLv i n) + 1))).snd.fst (resR a b c d n (IntKind.wrap .i64 (IntKind.wrap .i64 (n - plLv i n) + 1))).snd.snd.fst (resR a b c d n (IntKind.wrap .i64 (IntKind.wrap .i64 (n - plLv i n) + 1))).snd.snd.snd 0).snd.snd.fst, (bnd (resR a b c d n (IntKind.wrap .i64 (IntKind.wrap .i64 (n - plLv i n) + 1))).fst (resR a b c d n (IntKind.wrap .i64 (IntKind.wrap .i64 (n - plLv i n) + 1))).snd.fst (resR a b c d n (IntKind.wrap .i64 (IntKind.wrap .i64 (n - plLv i n) + 1))).snd.snd.fst (resR a b c d n (IntKind.wrap .i64 (IntKind.wrap .i64 (n - plLv i n) + 1))).snd.snd.snd 1).snd.snd.fst, (bnd (resR a b c d n (IntKind.wrap .i64 (IntKind.wrap .i64 (n - plLv i n) + 1))).fst (resR a b c d n (IntKind.wrap .i64 (IntKind.wrap .i64 (n - plLv i n) + 1))).snd.fst (resR a b c d n (IntKind.wrap .i64 (IntKind.wrap .i64 (n - plLv i n) + 1))).snd.snd.fst (resR a b c d n (IntKind.wrap .i64 (IntKind.wrap .i64 (n - plLv i n) + 1))).snd.snd.snd 2).snd.snd.fst, (bnd (resR a b c d n (IntKind.wrap .i64 (IntKind.wrap .i64 (n - plLv i n) + 1))).fst (resR a b c d n (IntKind.wrap .i64 (IntKind.wrap .i64 (n - plLv i n) + 1))).snd.fst (resR a b c d n (IntKind.wrap .i64 (IntKind.wrap .i64 (n - plLv i n) + 1))).snd.snd.fst (resR a b c d n (IntKind.wrap .i64 (IntKind.wrap .i64 (n - plLv i n) + 1))).snd.snd.snd 3).snd.snd.fst] (Int.toNat (plOr i n))), .int .i64 (gI [(bnd (resR a b c d n (IntKind.wrap .i64 (IntKind.wrap .i64 (n - plLv i n) + 1))).fst (resR a b c d n (IntKind.wrap .i64 (IntKind.wrap .i64 (n - plLv i n) + 1))).snd.fst (resR a b c d n (IntKind.wrap .i64 (IntKind.wrap .i64 (n - plLv i n) + 1))).snd.snd.fst (resR a b c d n (IntKind.wrap .i64 (IntKind.wrap .i64 (n - plLv i n) + 1))).snd.snd.snd 0).snd.snd.snd, (bnd (resR a b c d n (IntKind.wrap .i64 (IntKind.wrap .i64 (n - plLv i n) + 1))).fst (resR a b c d n (IntKind.wrap .i64 (IntKind.wrap .i64 (n - plLv i n) + 1))).snd.fst (resR a b c d n (IntKind.wrap .i64 (IntKind.wrap .i64 (n - plLv i n) + 1))).snd.snd.fst (resR a b c d n (IntKind.wrap .i64 (IntKind.wrap .i64 (n - plLv i n) + 1))).snd.snd.snd 1).snd.snd.snd, (bnd (resR a b c d n (IntKind.wrap .i64 (IntKind.wrap .i64 (n - plLv i n) + 1))).fst (resR a b c d n (IntKind.wrap .i64 (IntKind.wrap .i64 (n - plLv i n) + 1))).snd.fst (resR a b c d n (IntKind.wrap .i64 (IntKind.wrap .i64 (n - plLv i n) + 1))).snd.snd.fst (resR a b c d n (IntKind.wrap .i64 (IntKind.wrap .i64 (n - plLv i n) + 1))).snd.snd.snd 2).snd.snd.snd, (bnd (resR a b c d n (IntKind.wrap .i64 (IntKind.wrap .i64 (n - plLv i n) + 1))).fst (resR a b c d n (IntKind.wrap .i64 (IntKind.wrap .i64 (n - plLv i n) + 1))).snd.fst (resR a b c d n (IntKind.wrap .i64 (IntKind.wrap .i64 (n - plLv i n) + 1))).snd.snd.fst (resR a b c d n (IntKind.wrap .i64 (IntKind.wrap .i64 (n - plLv i n) + 1))).snd.snd.snd 3).snd.snd.snd] (Int.toNat (plOr i n)))], [], []⟩)
        none)))) := by kernel_rfl
def t_ref06_Band : FuncId → Option Summ := tabOf [(36, G_ref01_Valid), (70, G_ref06_Resolution), (80, G_ref06_Place), (81, G_ref05_Bands)]
def l_ref06_Band : Nat → Option LSumm := ltOf []
theorem e_ref06_Band (a b c d n i : Int) : funR Try.prog t_ref06_Band (annOf []) l_ref06_Band 20 Try.f71 [.agg [.int .i64 a, .int .i64 b, .int .i64 c, .int .i64 d], .one (.int .i64 n), .one (.int .i64 i)] [] =
  (ite2 (!plOk i n)
  (some ⟨.agg [.int .i64 0, .int .i64 0, .int .i64 0, .int .i64 0], [], []⟩)
  (ite2 (!valid a b c d)
    (some ⟨.agg [.int .i64 0, .int .i64 0, .int .i64 0, .int .i64 0], [], []⟩)
    (ite2 (i == 0)
      (some ⟨.agg [.int .i64 (resR a b c d n 0).fst, .int .i64 (resR a b c d n 0).snd.fst, .int .i64 (resR a b c d n 0).snd.snd.fst, .int .i64 (resR a b c d n 0).snd.snd.snd], [], []⟩)
      (ite2 (decide (0 ≤ plOr i n ∧ plOr i n < 4))
        (some ⟨.agg [.int .i64 (gI [(bnd (resR a b c d n (IntKind.wrap .i64 (IntKind.wrap .i64 (n - plLv i n) + 1))).fst (resR a b c d n (IntKind.wrap .i64 (IntKind.wrap .i64 (n - plLv i n) + 1))).snd.fst (resR a b c d n (IntKind.wrap .i64 (IntKind.wrap .i64 (n - plLv i n) + 1))).snd.snd.fst (resR a b c d n (IntKind.wrap .i64 (IntKind.wrap .i64 (n - plLv i n) + 1))).snd.snd.snd 0).fst, (bnd (resR a b c d n (IntKind.wrap .i64 (IntKind.wrap .i64 (n - plLv i n) + 1))).fst (resR a b c d n (IntKind.wrap .i64 (IntKind.wrap .i64 (n - plLv i n) + 1))).snd.fst (resR a b c d n (IntKind.wrap .i64 (IntKind.wrap .i64 (n - plLv i n) + 1))).snd.snd.fst (resR a b c d n (IntKind.wrap .i64 (IntKind.wrap .i64 (n - plLv i n) + 1))).snd.snd.snd 1).fst, (bnd (resR a b c d n (IntKind.wrap .i64 (IntKind.wrap .i64 (n - plLv i n) + 1))).fst (resR a b c d n (IntKind.wrap .i64 (IntKind.wrap .i64 (n - plLv i n) + 1))).snd.fst (resR a b c d n (IntKind.wrap .i64 (IntKind.wrap .i64 (n - plLv i n) + 1))).snd.snd.fst (resR a b c d n (IntKind.wrap .i64 (IntKind.wrap .i64 (n - plLv i n) + 1))).snd.snd.snd 2).fst, (bnd (resR a b c d n (IntKind.wrap .i64 (IntKind.wrap .i64 (n - plLv i n) + 1))).fst (resR a b c d n (IntKind.wrap .i64 (IntKind.wrap .i64 (n - plLv i n) + 1))).snd.fst (resR a b c d n (IntKind.wrap .i64 (IntKind.wrap .i64 (n - plLv i n) + 1))).snd.snd.fst (resR a b c d n (IntKind.wrap .i64 (IntKind.wrap .i64 (n - plLv i n) + 1))).snd.snd.snd 3).fst] (Int.toNat (plOr i n))), .int .i64 (gI [(bnd (resR a b c d n (IntKind.wrap .i64 (IntKind.wrap .i64 (n - plLv i n) + 1))).fst (resR a b c d n (IntKind.wrap .i64 (IntKind.wrap .i64 (n - plLv i n) + 1))).snd.fst (resR a b c d n (IntKind.wrap .i64 (IntKind.wrap .i64 (n - plLv i n) + 1))).snd.snd.fst (resR a b c d n (IntKind.wrap .i64 (IntKind.wrap .i64 (n - plLv i n) + 1))).snd.snd.snd 0).snd.fst, (bnd (resR a b c d n (IntKind.wrap .i64 (IntKind.wrap .i64 (n - plLv i n) + 1))).fst (resR a b c d n (IntKind.wrap .i64 (IntKind.wrap .i64 (n - plLv i n) + 1))).snd.fst (resR a b c d n (IntKind.wrap .i64 (IntKind.wrap .i64 (n - plLv i n) + 1))).snd.snd.fst (resR a b c d n (IntKind.wrap .i64 (IntKind.wrap .i64 (n - plLv i n) + 1))).snd.snd.snd 1).snd.fst, (bnd (resR a b c d n (IntKind.wrap .i64 (IntKind.wrap .i64 (n - plLv i n) + 1))).fst (resR a b c d n (IntKind.wrap .i64 (IntKind.wrap .i64 (n - plLv i n) + 1))).snd.fst (resR a b c d n (IntKind.wrap .i64 (IntKind.wrap .i64 (n - plLv i n) + 1))).snd.snd.fst (resR a b c d n (IntKind.wrap .i64 (IntKind.wrap .i64 (n - plLv i n) + 1))).snd.snd.snd 2).snd.fst, (bnd (resR a b c d n (IntKind.wrap .i64 (IntKind.wrap .i64 (n - plLv i n) + 1))).fst (resR a b c d n (IntKind.wrap .i64 (IntKind.wrap .i64 (n - plLv i n) + 1))).snd.fst (resR a b c d n (IntKind.wrap .i64 (IntKind.wrap .i64 (n - plLv i n) + 1))).snd.snd.fst (resR a b c d n (IntKind.wrap .i64 (IntKind.wrap .i64 (n - plLv i n) + 1))).snd.snd.snd 3).snd.fst] (Int.toNat (plOr i n))), .int .i64 (gI [(bnd (resR a b c d n (IntKind.wrap .i64 (IntKind.wrap .i64 (n - plLv i n) + 1))).fst (resR a b c d n (IntKind.wrap .i64 (IntKind.wrap .i64 (n - plLv i n) + 1))).snd.fst (resR a b c d n (IntKind.wrap .i64 (IntKind.wrap .i64 (n - plLv i n) + 1))).snd.snd.fst (resR a b c d n (IntKind.wrap .i64 (IntKind.wrap .i64 (n - plLv i n) + 1))).snd.snd.snd 0).snd.snd.fst, (bnd (resR a b c d n (IntKind.wrap .i64 (IntKind.wrap .i64 (n - plLv i n) + 1))).fst (resR a b c d n (IntKind.wrap .i64 (IntKind.wrap .i64 (n - plLv i n) + 1))).snd.fst (resR a b c d n (IntKind.wrap .i64 (IntKind.wrap .i64 (n - plLv i n) + 1))).snd.snd.fst (resR a b c d n (IntKind.wrap .i64 (IntKind.wrap .i64 (n - plLv i n) + 1))).snd.snd.snd 1).snd.snd.fst, (bnd (resR a b c d n (IntKind.wrap .i64 (IntKind.wrap .i64 (n - plLv i n) + 1))).fst (resR a b c d n (IntKind.wrap .i64 (IntKind.wrap .i64 (n - plLv i n) + 1))).snd.fst (resR a b c d n (IntKind.wrap .i64 (IntKind.wrap .i64 (n - plLv i n) + 1))).snd.snd.fst (resR a b c d n (IntKind.wrap .i64 (IntKind.wrap .i64 (n - plLv i n) + 1))).snd.snd.snd 2).snd.snd.fst, (bnd (resR a b c d n (IntKind.wrap .i64 (IntKind.wrap .i64 (n - plLv i n) + 1))).fst (resR a b c d n (IntKind.wrap .i64 (IntKind.wrap .i64 (n - plLv i n) + 1))).snd.fst (resR a b c d n (IntKind.wrap .i64 (IntKind.wrap .i64 (n - plLv i n) + 1))).snd.snd.fst (resR a b c d n (IntKind.wrap .i64 (IntKind.wrap .i64 (n - plLv i n) + 1))).snd.snd.snd 3).snd.snd.fst] (Int.toNat (plOr i n))), .int .i64 (gI [(bnd (resR a b c d n (IntKind.wrap .i64 (IntKind.wrap .i64 (n - plLv i n) + 1))).fst (resR a b c d n (IntKind.wrap .i64 (IntKind.wrap .i64 (n - plLv i n) + 1))).snd.fst (resR a b c d n (IntKind.wrap .i64 (IntKind.wrap .i64 (n - plLv i n) + 1))).snd.snd.fst (resR a b c d n (IntKind.wrap .i64 (IntKind.wrap .i64 (n - plLv i n) + 1))).snd.snd.snd 0).snd.snd.snd, (bnd (resR a b c d n (IntKind.wrap .i64 (IntKind.wrap .i64 (n - plLv i n) + 1))).fst (resR a b c d n (IntKind.wrap .i64 (IntKind.wrap .i64 (n - plLv i n) + 1))).snd.fst (resR a b c d n (IntKind.wrap .i64 (IntKind.wrap .i64 (n - plLv i n) + 1))).snd.snd.fst (resR a b c d n (IntKind.wrap .i64 (IntKind.wrap .i64 (n - plLv i n) + 1))).snd.snd.snd 1).snd.snd.snd, (bnd (resR a b c d n (IntKind.wrap .i64 (IntKind.wrap .i64 (n - plLv i n) + 1))).fst (resR a b c d n (IntKind.wrap .i64 (IntKind.wrap .i64 (n - plLv i n) + 1))).snd.fst (resR a b c d n (IntKind.wrap .i64 (IntKind.wrap .i64 (n - plLv i n) + 1))).snd.snd.fst (resR a b c d n (IntKind.wrap .i64 (IntKind.wrap .i64 (n - plLv i n) + 1))).snd.snd.snd 2).snd.snd.snd, (bnd (resR a b c d n (IntKind.wrap .i64 (IntKind.wrap .i64 (n - plLv i n) + 1))).fst (resR a b c d n (IntKind.wrap .i64 (IntKind.wrap .i64 (n - plLv i n) + 1))).snd.fst (resR a b c d n (IntKind.wrap .i64 (IntKind.wrap .i64 (n - plLv i n) + 1))).snd.snd.fst (resR a b c d n (IntKind.wrap .i64 (IntKind.wrap .i64 (n - plLv i n) + 1))).snd.snd.snd 3).snd.snd.snd] (Int.toNat (plOr i n)))], [], []⟩)
        none)))) := by kernel_rfl
def t_params_cells : FuncId → Option Summ := tabOf [(23, G_rect_Empty), (34, G_rect_CeilDiv), (35, G_rect_FloorDiv)]
def l_params_cells : Nat → Option LSumm := ltOf []
theorem e_params_cells (a b c d x y : Int) : funR Try.prog t_params_cells (annOf []) l_params_cells 20 Try.f64 [.agg [.int .i64 a, .int .i64 b, .int .i64 c, .int .i64 d], .one (.int .i64 x), .one (.int .i64 y)] [] =
  (ite2 (empty a b c d)
  (some ⟨.one (.int .i64 0), [], []⟩)
  (ite2 (decide (0 ≤ IntKind.wrap IntKind.u64 x))
    (ite2 (decide (0 ≤ IntKind.wrap IntKind.u64 y))
      (some ⟨.one (.int .i64 (IntKind.wrap .i64 (IntKind.wrap .i64 (cdiv c (IntKind.wrap .i64 (1 * 2 ^ min (Int.toNat (IntKind.wrap IntKind.u64 x)) 64)) - fdiv a (IntKind.wrap .i64 (1 * 2 ^ min (Int.toNat (IntKind.wrap IntKind.u64 x)) 64))) * IntKind.wrap .i64 (cdiv d (IntKind.wrap .i64 (1 * 2 ^ min (Int.toNat (IntKind.wrap IntKind.u64 y)) 64)) - fdiv b (IntKind.wrap .i64 (1 * 2 ^ min (Int.toNat (IntKind.wrap IntKind.u64 y)) 64)))))), [], []⟩)
      none)
    none)) := by kernel_rfl
def t_ref23_Grid : FuncId → Option Summ := tabOf [(37, G_ref01_Empty), (62, G_ref01_CeilDiv), (63, G_ref01_FloorDiv)]
def l_ref23_Grid : Nat → Option LSumm := ltOf []
theorem e_ref23_Grid (a b c d x y : Int) : funR Try.prog t_ref23_Grid (annOf []) l_ref23_Grid 20 Try.f69 [.agg [.int .i64 a, .int .i64 b, .int .i64 c, .int .i64 d], .one (.int .i64 x), .one (.int .i64 y)] [] =
  (ite2 (empty a b c d)
  (some ⟨.one (.int .i64 0), [], []⟩)
  (ite2 (decide (0 ≤ x))
    (ite2 (decide (0 ≤ x))
      (ite2 (decide (0 ≤ y))
        (ite2 (decide (0 ≤ y))
          (some ⟨.one (.int .i64 (IntKind.wrap .i64 (IntKind.wrap .i64 (cdiv c (IntKind.wrap .i64 (1 * 2 ^ min (Int.toNat x) 64)) - fdiv a (IntKind.wrap .i64 (1 * 2 ^ min (Int.toNat x) 64))) * IntKind.wrap .i64 (cdiv d (IntKind.wrap .i64 (1 * 2 ^ min (Int.toNat y) 64)) - fdiv b (IntKind.wrap .i64 (1 * 2 ^ min (Int.toNat y) 64)))))), [], []⟩)
          none)
        none)
      none)
    none)) := by kernel_rfl
end
end Go.Rx.Ch23
