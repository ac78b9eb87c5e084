/- Each function, run by the executor: an equation. -/
import Derived.Test.YtnhjhjkhfdlapaaRG
import Derived.Test.YtnhjhjkhfdlapaaProg
import Derived.KernelRfl
set_option linter.unnecessarySimpa false
set_option linter.unusedVariables false
set_option linter.unusedSimpArgs false
set_option linter.unusedVariables false
set_option maxRecDepth 100000
set_option maxHeartbeats 4000000
open Go Go.Rx Go.Proofs
namespace Go.Rx.Ch24
noncomputable section
def t_rect_Empty : FuncId → Option Summ := tabOf []
def l_rect_Empty : Nat → Option LSumm := ltOf []
theorem e_rect_Empty (a b c d : Int) : funR Try.prog t_rect_Empty (annOf []) l_rect_Empty 20 Try.f58 [.agg [.int .i64 a, .int .i64 b, .int .i64 c, .int .i64 d]] [] =
  (ite2 (decide (a ≥ c))
  (some ⟨.one (.bool true), [], []⟩)
  (some ⟨.one (.bool (decide (b ≥ d))), [], []⟩)) := by kernel_rfl
def t_rect_Valid : FuncId → Option Summ := tabOf []
def l_rect_Valid : Nat → Option LSumm := ltOf []
theorem e_rect_Valid (a b c d : Int) : funR Try.prog t_rect_Valid (annOf []) l_rect_Valid 20 Try.f56 [.agg [.int .i64 a, .int .i64 b, .int .i64 c, .int .i64 d]] [] =
  (ite2 (decide (0 ≤ a))
  (ite2 (decide (a ≤ c))
    (ite2 (decide (c ≤ 4096))
      (ite2 (decide (0 ≤ b))
        (ite2 (decide (b ≤ d))
          (some ⟨.one (.bool (decide (d ≤ 4096))), [], []⟩)
          (some ⟨.one (.bool false), [], []⟩))
        (some ⟨.one (.bool false), [], []⟩))
      (some ⟨.one (.bool false), [], []⟩))
    (some ⟨.one (.bool false), [], []⟩))
  (some ⟨.one (.bool false), [], []⟩)) := by kernel_rfl
def t_rect_CeilDiv : FuncId → Option Summ := tabOf []
def l_rect_CeilDiv : Nat → Option LSumm := ltOf []
theorem e_rect_CeilDiv (a b : Int) : funR Try.prog t_rect_CeilDiv (annOf []) l_rect_CeilDiv 20 Try.f60 [.one (.int .i64 a), .one (.int .i64 b)] [] =
  (ite2 (decide (b < 1))
  (some ⟨.one (.int .i64 0), [], []⟩)
  (ite2 (!decide (b = 0))
    (ite2 (!decide (b = 0))
      (ite2 (decide (Int.tmod a b > 0))
        (some ⟨.one (.int .i64 (IntKind.wrap .i64 (IntKind.wrap .i64 (Int.tdiv a b) + 1))), [], []⟩)
        (some ⟨.one (.int .i64 (IntKind.wrap .i64 (Int.tdiv a b))), [], []⟩))
      none)
    none)) := by kernel_rfl
def t_rect_FloorDiv : FuncId → Option Summ := tabOf []
def l_rect_FloorDiv : Nat → Option LSumm := ltOf []
theorem e_rect_FloorDiv (a b : Int) : funR Try.prog t_rect_FloorDiv (annOf []) l_rect_FloorDiv 20 Try.f61 [.one (.int .i64 a), .one (.int .i64 b)] [] =
  (ite2 (decide (b < 1))
  (some ⟨.one (.int .i64 0), [], []⟩)
  (ite2 (!decide (b = 0))
    (ite2 (!decide (b = 0))
      (ite2 (decide (Int.tmod a b < 0))
        (some ⟨.one (.int .i64 (IntKind.wrap .i64 (IntKind.wrap .i64 (Int.tdiv a b) - 1))), [], []⟩)
        (some ⟨.one (.int .i64 (IntKind.wrap .i64 (Int.tdiv a b))), [], []⟩))
      none)
    none)) := by kernel_rfl
def t_rect_Area : FuncId → Option Summ := tabOf [(56, G_rect_Valid)]
def l_rect_Area : Nat → Option LSumm := ltOf []
theorem e_rect_Area (a b c d : Int) : funR Try.prog t_rect_Area (annOf []) l_rect_Area 20 Try.f30 [.agg [.int .i64 a, .int .i64 b, .int .i64 c, .int .i64 d]] [] =
  (ite2 (!valid a b c d)
  (some ⟨.one (.int .i64 0), [], []⟩)
  (some ⟨.one (.int .i64 (IntKind.wrap .i64 (IntKind.wrap .i64 (c - a) * IntKind.wrap .i64 (d - b)))), [], []⟩)) := by kernel_rfl
def t_rect_Reduce : FuncId → Option Summ := tabOf [(56, G_rect_Valid), (60, G_rect_CeilDiv)]
def l_rect_Reduce : Nat → Option LSumm := ltOf []
theorem e_rect_Reduce (a b c d x y : Int) : funR Try.prog t_rect_Reduce (annOf []) l_rect_Reduce 20 Try.f37 [.agg [.int .i64 a, .int .i64 b, .int .i64 c, .int .i64 d], .one (.int .i64 x), .one (.int .i64 y)] [] =
  (ite2 (!valid a b c d)
  (some ⟨.agg [.int .i64 0, .int .i64 0, .int .i64 0, .int .i64 0], [], []⟩)
  (ite2 (decide (x < 1))
    (some ⟨.agg [.int .i64 0, .int .i64 0, .int .i64 0, .int .i64 0], [], []⟩)
    (ite2 (decide (x > 4096))
      (some ⟨.agg [.int .i64 0, .int .i64 0, .int .i64 0, .int .i64 0], [], []⟩)
      (ite2 (decide (y < 1))
        (some ⟨.agg [.int .i64 0, .int .i64 0, .int .i64 0, .int .i64 0], [], []⟩)
        (ite2 (decide (y > 4096))
          (some ⟨.agg [.int .i64 0, .int .i64 0, .int .i64 0, .int .i64 0], [], []⟩)
          (some ⟨.agg [.int .i64 (cdiv a x), .int .i64 (cdiv b y), .int .i64 (cdiv c x), .int .i64 (cdiv d y)], [], []⟩)))))) := by kernel_rfl
def t_rect_Intersect : FuncId → Option Summ := tabOf [(58, G_rect_Empty)]
def l_rect_Intersect : Nat → Option LSumm := ltOf []
theorem e_rect_Intersect (a b c d e f g h : Int) : funR Try.prog t_rect_Intersect (annOf []) l_rect_Intersect 20 Try.f59 [.agg [.int .i64 a, .int .i64 b, .int .i64 c, .int .i64 d], .agg [.int .i64 e, .int .i64 f, .int .i64 g, .int .i64 h]] [] =
  (ite2 (empty (if e > a then e else a) (if f > b then f else b) (if g < c then g else c) (if h < d then h else d))
  (some ⟨.agg [.int .i64 0, .int .i64 0, .int .i64 0, .int .i64 0], [], []⟩)
  (some ⟨.agg [.int .i64 (if e > a then e else a), .int .i64 (if f > b then f else b), .int .i64 (if g < c then g else c), .int .i64 (if h < d then h else d)], [], []⟩)) := by kernel_rfl
def t_ref01_Empty : FuncId → Option Summ := tabOf []
def l_ref01_Empty : Nat → Option LSumm := ltOf []
theorem e_ref01_Empty (a b c d : Int) : funR Try.prog t_ref01_Empty (annOf []) l_ref01_Empty 20 Try.f63 [.agg [.int .i64 a, .int .i64 b, .int .i64 c, .int .i64 d]] [] =
  (ite2 (decide (a ≥ c))
  (some ⟨.one (.bool true), [], []⟩)
  (some ⟨.one (.bool (decide (b ≥ d))), [], []⟩)) := by kernel_rfl
def t_ref01_Valid : FuncId → Option Summ := tabOf []
def l_ref01_Valid : Nat → Option LSumm := ltOf []
theorem e_ref01_Valid (a b c d : Int) : funR Try.prog t_ref01_Valid (annOf []) l_ref01_Valid 20 Try.f62 [.agg [.int .i64 a, .int .i64 b, .int .i64 c, .int .i64 d]] [] =
  (ite2 (decide (0 ≤ a))
  (ite2 (decide (a ≤ c))
    (ite2 (decide (c ≤ 4096))
      (ite2 (decide (0 ≤ b))
        (ite2 (decide (b ≤ d))
          (some ⟨.one (.bool (decide (d ≤ 4096))), [], []⟩)
          (some ⟨.one (.bool false), [], []⟩))
        (some ⟨.one (.bool false), [], []⟩))
      (some ⟨.one (.bool false), [], []⟩))
    (some ⟨.one (.bool false), [], []⟩))
  (some ⟨.one (.bool false), [], []⟩)) := by kernel_rfl
def t_ref01_CeilDiv : FuncId → Option Summ := tabOf []
def l_ref01_CeilDiv : Nat → Option LSumm := ltOf []
theorem e_ref01_CeilDiv (a b : Int) : funR Try.prog t_ref01_CeilDiv (annOf []) l_ref01_CeilDiv 20 Try.f68 [.one (.int .i64 a), .one (.int .i64 b)] [] =
  (ite2 (decide (b < 1))
  (some ⟨.one (.int .i64 0), [], []⟩)
  (ite2 (!decide (b = 0))
    (ite2 (!decide (b = 0))
      (ite2 (decide (Int.tmod a b > 0))
        (some ⟨.one (.int .i64 (IntKind.wrap .i64 (IntKind.wrap .i64 (Int.tdiv a b) + 1))), [], []⟩)
        (some ⟨.one (.int .i64 (IntKind.wrap .i64 (Int.tdiv a b))), [], []⟩))
      none)
    none)) := by kernel_rfl
def t_ref01_FloorDiv : FuncId → Option Summ := tabOf []
def l_ref01_FloorDiv : Nat → Option LSumm := ltOf []
theorem e_ref01_FloorDiv (a b : Int) : funR Try.prog t_ref01_FloorDiv (annOf []) l_ref01_FloorDiv 20 Try.f67 [.one (.int .i64 a), .one (.int .i64 b)] [] =
  (ite2 (decide (b < 1))
  (some ⟨.one (.int .i64 0), [], []⟩)
  (ite2 (!decide (b = 0))
    (ite2 (!decide (b = 0))
      (ite2 (decide (Int.tmod a b < 0))
        (some ⟨.one (.int .i64 (IntKind.wrap .i64 (IntKind.wrap .i64 (Int.tdiv a b) - 1))), [], []⟩)
        (some ⟨.one (.int .i64 (IntKind.wrap .i64 (Int.tdiv a b))), [], []⟩))
      none)
    none)) := by kernel_rfl
def t_ref01_Area : FuncId → Option Summ := tabOf [(62, G_ref01_Valid)]
def l_ref01_Area : Nat → Option LSumm := ltOf []
theorem e_ref01_Area (a b c d : Int) : funR Try.prog t_ref01_Area (annOf []) l_ref01_Area 20 Try.f66 [.agg [.int .i64 a, .int .i64 b, .int .i64 c, .int .i64 d]] [] =
  (ite2 (!valid a b c d)
  (some ⟨.one (.int .i64 0), [], []⟩)
  (some ⟨.one (.int .i64 (IntKind.wrap .i64 (IntKind.wrap .i64 (c - a) * IntKind.wrap .i64 (d - b)))), [], []⟩)) := by kernel_rfl
def t_ref01_Reduce : FuncId → Option Summ := tabOf [(62, G_ref01_Valid), (68, G_ref01_CeilDiv)]
def l_ref01_Reduce : Nat → Option LSumm := ltOf []
theorem e_ref01_Reduce (a b c d x y : Int) : funR Try.prog t_ref01_Reduce (annOf []) l_ref01_Reduce 20 Try.f38 [.agg [.int .i64 a, .int .i64 b, .int .i64 c, .int .i64 d], .one (.int .i64 x), .one (.int .i64 y)] [] =
  (ite2 (!valid a b c d)
  (some ⟨.agg [.int .i64 0, .int .i64 0, .int .i64 0, .int .i64 0], [], []⟩)
  (ite2 (decide (x < 1))
    (some ⟨.agg [.int .i64 0, .int .i64 0, .int .i64 0, .int .i64 0], [], []⟩)
    (ite2 (decide (x > 4096))
      (some ⟨.agg [.int .i64 0, .int .i64 0, .int .i64 0, .int .i64 0], [], []⟩)
      (ite2 (decide (y < 1))
        (some ⟨.agg [.int .i64 0, .int .i64 0, .int .i64 0, .int .i64 0], [], []⟩)
        (ite2 (decide (y > 4096))
          (some ⟨.agg [.int .i64 0, .int .i64 0, .int .i64 0, .int .i64 0], [], []⟩)
          (some ⟨.agg [.int .i64 (cdiv a x), .int .i64 (cdiv b y), .int .i64 (cdiv c x), .int .i64 (cdiv d y)], [], []⟩)))))) := by kernel_rfl
def t_ref01_Intersect : FuncId → Option Summ := tabOf [(63, G_ref01_Empty)]
def l_ref01_Intersect : Nat → Option LSumm := ltOf []
theorem e_ref01_Intersect (a b c d e f g h : Int) : funR Try.prog t_ref01_Intersect (annOf []) l_ref01_Intersect 20 Try.f69 [.agg [.int .i64 a, .int .i64 b, .int .i64 c, .int .i64 d], .agg [.int .i64 e, .int .i64 f, .int .i64 g, .int .i64 h]] [] =
  (ite2 (empty (if e > a then e else a) (if f > b then f else b) (if g < c then g else c) (if h < d then h else d))
  (some ⟨.agg [.int .i64 0, .int .i64 0, .int .i64 0, .int .i64 0], [], []⟩)
  (some ⟨.agg [.int .i64 (if e > a then e else a), .int .i64 (if f > b then f else b), .int .i64 (if g < c then g else c), .int .i64 (if h < d then h else d)], [], []⟩)) := by kernel_rfl
def t_params_within : FuncId → Option Summ := tabOf []
def l_params_within : Nat → Option LSumm := ltOf [(2, ⟨0, 24, [0, 1, 9, 10, 11], (kxOf [] [6]), S_params_within_0⟩)]
theorem e_params_within (a b : Int) (l : List Int) : funR Try.prog t_params_within (annOf []) l_params_within 20 Try.f51 [.one (.int .i64 a), .one (.int .i64 b), .one (.lst (.int .i64) l)] [] =
  (ite2 (k_params_within_0 a b l (↑(List.length l) : Int) 0)
  (ite2 (p_params_within_0 a b l)
    (some ⟨.one (.bool true), [], []⟩)
    (some ⟨.one (.bool false), [], []⟩))
  none) := by kernel_rfl
def U_params_within_0 (a b : Int) (l : List Int) (n i : Int) : LT :=
  (.br (decide (i < n))
    (.br (decide (0 ≤ i ∧ i < (↑(List.length l) : Int)))
      (.br (decide (gI l (Int.toNat i) < a))
        (.leaf Ex.ret [.one (.bool false)] [])
        (.br (decide (gI l (Int.toNat i) > b))
          (.leaf Ex.ret [.one (.bool false)] [])
          (.leaf Ex.normal [.one (.int .i64 a), .one (.int .i64 b), V.one (C.lst (Sh.int .i64) l), .one (.int .i64 n), .one (.int .i64 (IntKind.wrap .i64 (i + 1)))] [])))
      .no)
    (.leaf (Ex.exit 0) [] []))
def T_params_within_0 : List V → List (Option Blk) → LT := fun vs bl => (pO vs fun c' vs => kI c' fun a => pO vs fun c' vs => kI c' fun b => pO vs fun c' vs => kLI c' fun l => pO vs fun c' vs => kI c' fun n => pO vs fun c' vs => kI c' fun i => pE vs <| bE bl <| some (U_params_within_0 a b l n i)).getD .no
theorem tu_params_within_0 (a b : Int) (l : List Int) (n i : Int) : T_params_within_0 [.one (.int .i64 a), .one (.int .i64 b), .one (.lst (.int .i64) l), .one (.int .i64 n), .one (.int .i64 i)] [] = U_params_within_0 a b l n i := by kernel_rfl
theorem b_params_within_0 (a b : Int) (l : List Int) (n i : Int) (Kc : Ex → Option (List V × List (Option Blk)) → Option Out) : exec Try.prog t_params_within (annOf []) l_params_within 20 0 (loopOf Try.f51 0) (unp 24 [0, 1, 9, 10, 11] [.one (.int .i64 a), .one (.int .i64 b), .one (.lst (.int .i64) l), .one (.int .i64 n), .one (.int .i64 i)] []) (endc 0 24 [0, 1, 9, 10, 11] (kxOf [] [6]) Kc) =
  (T_params_within_0 [.one (.int .i64 a), .one (.int .i64 b), .one (.lst (.int .i64) l), .one (.int .i64 n), .one (.int .i64 i)] []).runc Kc := by kernel_rfl
end
end Go.Rx.Ch24

set_option linter.unusedVariables false
set_option maxRecDepth 100000
set_option maxHeartbeats 4000000
open Go Go.Rx Go.Proofs
namespace Go.Rx.Ch24
noncomputable section
def t_params_Precinct : FuncId → Option Summ := tabOf []
def l_params_Precinct : Nat → Option LSumm := ltOf []
theorem e_params_Precinct (p : Pm) (r : Int) : funR Try.prog t_params_Precinct (annOf []) l_params_Precinct 20 Try.f41 [.agg (pmC p), .one (.int .i64 r)] [] =
  (ite2 (decide (r < 0))
  (some ⟨.agg [.int .i64 0, .int .i64 0], [], []⟩)
  (ite2 (decide (r > p.le))
    (some ⟨.agg [.int .i64 0, .int .i64 0], [], []⟩)
    (ite2 ((↑(List.length p.pr) : Int) == 0)
      (some ⟨.agg [.int .i64 12, .int .i64 12], [], []⟩)
      (ite2 (decide (r ≥ (↑(List.length p.pr) : Int)))
        (some ⟨.agg [.int .i64 0, .int .i64 0], [], []⟩)
        (ite2 (decide (0 ≤ r ∧ r < (↑(List.length p.pr) : Int)))
          (some ⟨.agg [.int .i64 (gP p.pr (Int.toNat r)).fst, .int .i64 (gP p.pr (Int.toNat r)).snd], [], []⟩)
          none))))) := by kernel_rfl
def t_ref23_Precinct : FuncId → Option Summ := tabOf []
def l_ref23_Precinct : Nat → Option LSumm := ltOf []
theorem e_ref23_Precinct (p : Pm) (r : Int) : funR Try.prog t_ref23_Precinct (annOf []) l_ref23_Precinct 20 Try.f73 [.agg (pmC p), .one (.int .i64 r)] [] =
  (ite2 (decide (r < 0))
  (some ⟨.agg [.int .i64 0, .int .i64 0], [], []⟩)
  (ite2 (decide (r > p.le))
    (some ⟨.agg [.int .i64 0, .int .i64 0], [], []⟩)
    (ite2 ((↑(List.length p.pr) : Int) == 0)
      (some ⟨.agg [.int .i64 12, .int .i64 12], [], []⟩)
      (ite2 (decide (r ≥ (↑(List.length p.pr) : Int)))
        (some ⟨.agg [.int .i64 0, .int .i64 0], [], []⟩)
        (ite2 (decide (0 ≤ r ∧ r < (↑(List.length p.pr) : Int)))
          (some ⟨.agg [.int .i64 (gP p.pr (Int.toNat r)).fst, .int .i64 (gP p.pr (Int.toNat r)).snd], [], []⟩)
          none))))) := by kernel_rfl
end
end Go.Rx.Ch24

set_option linter.unusedVariables false
set_option maxRecDepth 100000
set_option maxHeartbeats 4000000
open Go Go.Rx Go.Proofs
namespace Go.Rx.Ch24
noncomputable section
end
end Go.Rx.Ch24

set_option linter.unusedVariables false
set_option maxRecDepth 100000
set_option maxHeartbeats 4000000
open Go Go.Rx Go.Proofs
namespace Go.Rx.Ch24
noncomputable section
end
end Go.Rx.Ch24

set_option linter.unusedVariables false
set_option maxRecDepth 100000
set_option maxHeartbeats 4000000
open Go Go.Rx Go.Proofs
namespace Go.Rx.Ch24
noncomputable section
def t_ref23_kinds : FuncId → Option Summ := tabOf []
def l_ref23_kinds : Nat → Option LSumm := ltOf []
theorem e_ref23_kinds (p : Pm) : funR Try.prog t_ref23_kinds (annOf []) l_ref23_kinds 20 Try.f88 [.agg (pmC p)] [] =
  (ite2 (decide (p.ke ≥ 1))
  (ite2 (decide (p.ke ≤ 3))
    (ite2 (decide (p.co ≥ 0))
      (ite2 (decide (p.co ≤ 2))
        (ite2 (decide (p.od ≥ 1))
          (some ⟨.one (.bool (decide (p.od ≤ 5))), [], []⟩)
          (some ⟨.one (.bool false), [], []⟩))
        (some ⟨.one (.bool false), [], []⟩))
      (some ⟨.one (.bool false), [], []⟩))
    (some ⟨.one (.bool false), [], []⟩))
  (some ⟨.one (.bool false), [], []⟩)) := by kernel_rfl
def t_ref23_in : FuncId → Option Summ := tabOf []
def l_ref23_in : Nat → Option LSumm := ltOf []
theorem e_ref23_in (a b c : Int) : funR Try.prog t_ref23_in (annOf []) l_ref23_in 20 Try.f64 [.one (.int .i64 a), .one (.int .i64 b), .one (.int .i64 c)] [] =
  (ite2 (decide (b ≤ a))
  (some ⟨.one (.bool (decide (a ≤ c))), [], []⟩)
  (some ⟨.one (.bool false), [], []⟩)) := by kernel_rfl
def t_ref23_tiles : FuncId → Option Summ := tabOf [(67, G_ref01_FloorDiv), (68, G_ref01_CeilDiv)]
def l_ref23_tiles : Nat → Option LSumm := ltOf []
theorem e_ref23_tiles (h : Hd) : funR Try.prog t_ref23_tiles (annOf []) l_ref23_tiles 20 Try.f65 [.agg (hdC h)] [] =
  (some ⟨.one (.int .i64 (IntKind.wrap .i64 (IntKind.wrap .i64 (cdiv h.c h.tw - fdiv h.a h.tw) * IntKind.wrap .i64 (cdiv h.d h.th - fdiv h.b h.th)))), [], []⟩) := by kernel_rfl
def t_params_Header : FuncId → Option Summ := tabOf [(30, G_rect_Area), (37, G_rect_Reduce), (51, G_params_within), (56, G_rect_Valid), (58, G_rect_Empty), (60, G_rect_CeilDiv), (61, G_rect_FloorDiv)]
def l_params_Header : Nat → Option LSumm := ltOf [(4, ⟨0, 114, [1, 36, 37, 38], (kxOf [1] [2]), S_params_Header_0⟩), (14, ⟨0, 114, [1, 98, 99, 100], (kxOf [] [2]), S_params_Header_1⟩)]
theorem e_params_Header (h : Hd) : funR Try.prog t_params_Header (annOf []) l_params_Header 20 Try.f33 [.agg (hdC h)] [] =
  (ite2 (!valid h.a h.b h.c h.d)
  (some ⟨.one (.int .i64 12), [], []⟩)
  (ite2 (empty h.a h.b h.c h.d)
    (some ⟨.one (.int .i64 12), [], []⟩)
    (ite2 (!within 1 4096 [h.tw, h.th])
      (some ⟨.one (.int .i64 12), [], []⟩)
      (ite2 (!within 1 4 [(↑(List.length h.cs) : Int)])
        (some ⟨.one (.int .i64 12), [], []⟩)
        (ite2 (k_params_Header_0 h h.cs (↑(List.length h.cs) : Int) 0)
          (ite2 (p_params_Header_0 h h.cs)
            (ite2 (decide (IntKind.wrap .i64 (IntKind.wrap .i64 (cdiv h.c h.tw - fdiv h.a h.tw) * IntKind.wrap .i64 (cdiv h.d h.th - fdiv h.b h.th)) > 1024))
              (some ⟨.one (.int .i64 5), [], []⟩)
              (ite2 (k_params_Header_1 h h.cs (↑(List.length h.cs) : Int) 0)
                (ite2 (p_params_Header_1 h h.cs)
                  (some ⟨.one (.int .i64 0), [], []⟩)
                  (some ⟨.one (.int .i64 5), [], []⟩))
                none))
            (some ⟨.one (.int .i64 12), [], []⟩))
          none))))) := by kernel_rfl
def U_params_Header_0 (h : Hd) (l : List (Int × Bool × Int × Int)) (n i : Int) : LT :=
  (.br (decide (i < n))
    (.br (decide (0 ≤ i ∧ i < (↑(List.length l) : Int)))
      (.br (!within 1 16 [(gC l (Int.toNat i)).fst])
        (.leaf Ex.ret [.one (.int .i64 12)] [])
        (.br (!within 1 4 [(gC l (Int.toNat i)).snd.snd.fst, (gC l (Int.toNat i)).snd.snd.snd])
          (.leaf Ex.ret [.one (.int .i64 12)] [])
          (.br (empty (reduce h.a h.b h.c h.d (gC l (Int.toNat i)).snd.snd.fst (gC l (Int.toNat i)).snd.snd.snd).fst (reduce h.a h.b h.c h.d (gC l (Int.toNat i)).snd.snd.fst (gC l (Int.toNat i)).snd.snd.snd).snd.fst (reduce h.a h.b h.c h.d (gC l (Int.toNat i)).snd.snd.fst (gC l (Int.toNat i)).snd.snd.snd).snd.snd.fst (reduce h.a h.b h.c h.d (gC l (Int.toNat i)).snd.snd.fst (gC l (Int.toNat i)).snd.snd.snd).snd.snd.snd)
            (.leaf Ex.ret [.one (.int .i64 12)] [])
            (.leaf Ex.normal [V.one (C.ptr 0 0), V.one (C.lst (Sh.pair (Sh.int .i64) (Sh.pair Sh.bool (Sh.pair (Sh.int .i64) (Sh.int .i64)))) l), .one (.int .i64 n), .one (.int .i64 (IntKind.wrap .i64 (i + 1)))] [some (Blk.box [.int .i64 h.a, .int .i64 h.b, .int .i64 h.c, .int .i64 h.d, .int .i64 h.tw, .int .i64 h.th, C.lst (Sh.pair (Sh.int .i64) (Sh.pair Sh.bool (Sh.pair (Sh.int .i64) (Sh.int .i64)))) h.cs])]))))
      .no)
    (.leaf (Ex.exit 0) [V.one (C.ptr 0 0)] [some (Blk.box [.int .i64 h.a, .int .i64 h.b, .int .i64 h.c, .int .i64 h.d, .int .i64 h.tw, .int .i64 h.th, C.lst (Sh.pair (Sh.int .i64) (Sh.pair Sh.bool (Sh.pair (Sh.int .i64) (Sh.int .i64)))) h.cs])]))
def T_params_Header_0 : List V → List (Option Blk) → LT := fun vs bl => (pO vs fun c' vs => kP 0 0 c' <| pO vs fun c' vs => kLC c' fun l => pO vs fun c' vs => kI c' fun n => pO vs fun c' vs => kI c' fun i => pE vs <| bB bl fun q' bl => rdHd q' fun h => bE bl <| some (U_params_Header_0 h l n i)).getD .no
theorem tu_params_Header_0 (h : Hd) (l : List (Int × Bool × Int × Int)) (n i : Int) : T_params_Header_0 [.one (.ptr 0 0), .one (.lst (.pair (.int .i64) (.pair .bool (.pair (.int .i64) (.int .i64)))) l), .one (.int .i64 n), .one (.int .i64 i)] [some (.box (hdC h))] = U_params_Header_0 h l n i := by kernel_rfl
theorem b_params_Header_0 (h : Hd) (l : List (Int × Bool × Int × Int)) (n i : Int) (Kc : Ex → Option (List V × List (Option Blk)) → Option Out) : exec Try.prog t_params_Header (annOf []) l_params_Header 20 0 (loopOf Try.f33 0) (unp 114 [1, 36, 37, 38] [.one (.ptr 0 0), .one (.lst (.pair (.int .i64) (.pair .bool (.pair (.int .i64) (.int .i64)))) l), .one (.int .i64 n), .one (.int .i64 i)] [some (.box (hdC h))]) (endc 0 114 [1, 36, 37, 38] (kxOf [1] [2]) Kc) =
  (T_params_Header_0 [.one (.ptr 0 0), .one (.lst (.pair (.int .i64) (.pair .bool (.pair (.int .i64) (.int .i64)))) l), .one (.int .i64 n), .one (.int .i64 i)] [some (.box (hdC h))]).runc Kc := by kernel_rfl
def U_params_Header_1 (h : Hd) (l : List (Int × Bool × Int × Int)) (n i : Int) : LT :=
  (.br (decide (i < n))
    (.br (decide (0 ≤ i ∧ i < (↑(List.length l) : Int)))
      (.br (decide (area (reduce h.a h.b h.c h.d (gC l (Int.toNat i)).snd.snd.fst (gC l (Int.toNat i)).snd.snd.snd).fst (reduce h.a h.b h.c h.d (gC l (Int.toNat i)).snd.snd.fst (gC l (Int.toNat i)).snd.snd.snd).snd.fst (reduce h.a h.b h.c h.d (gC l (Int.toNat i)).snd.snd.fst (gC l (Int.toNat i)).snd.snd.snd).snd.snd.fst (reduce h.a h.b h.c h.d (gC l (Int.toNat i)).snd.snd.fst (gC l (Int.toNat i)).snd.snd.snd).snd.snd.snd > 1048576))
        (.leaf Ex.ret [.one (.int .i64 5)] [])
        (.leaf Ex.normal [V.one (C.ptr 0 0), V.one (C.lst (Sh.pair (Sh.int .i64) (Sh.pair Sh.bool (Sh.pair (Sh.int .i64) (Sh.int .i64)))) l), .one (.int .i64 n), .one (.int .i64 (IntKind.wrap .i64 (i + 1)))] [some (Blk.box [.int .i64 h.a, .int .i64 h.b, .int .i64 h.c, .int .i64 h.d, .int .i64 h.tw, .int .i64 h.th, C.lst (Sh.pair (Sh.int .i64) (Sh.pair Sh.bool (Sh.pair (Sh.int .i64) (Sh.int .i64)))) h.cs])]))
      .no)
    (.leaf (Ex.exit 2) [] []))
def T_params_Header_1 : List V → List (Option Blk) → LT := fun vs bl => (pO vs fun c' vs => kP 0 0 c' <| pO vs fun c' vs => kLC c' fun l => pO vs fun c' vs => kI c' fun n => pO vs fun c' vs => kI c' fun i => pE vs <| bB bl fun q' bl => rdHd q' fun h => bE bl <| some (U_params_Header_1 h l n i)).getD .no
theorem tu_params_Header_1 (h : Hd) (l : List (Int × Bool × Int × Int)) (n i : Int) : T_params_Header_1 [.one (.ptr 0 0), .one (.lst (.pair (.int .i64) (.pair .bool (.pair (.int .i64) (.int .i64)))) l), .one (.int .i64 n), .one (.int .i64 i)] [some (.box (hdC h))] = U_params_Header_1 h l n i := by kernel_rfl
theorem b_params_Header_1 (h : Hd) (l : List (Int × Bool × Int × Int)) (n i : Int) (Kc : Ex → Option (List V × List (Option Blk)) → Option Out) : exec Try.prog t_params_Header (annOf []) l_params_Header 20 0 (loopOf Try.f33 1) (unp 114 [1, 98, 99, 100] [.one (.ptr 0 0), .one (.lst (.pair (.int .i64) (.pair .bool (.pair (.int .i64) (.int .i64)))) l), .one (.int .i64 n), .one (.int .i64 i)] [some (.box (hdC h))]) (endc 0 114 [1, 98, 99, 100] (kxOf [] [2]) Kc) =
  (T_params_Header_1 [.one (.ptr 0 0), .one (.lst (.pair (.int .i64) (.pair .bool (.pair (.int .i64) (.int .i64)))) l), .one (.int .i64 n), .one (.int .i64 i)] [some (.box (hdC h))]).runc Kc := by kernel_rfl
def t_ref23_Header : FuncId → Option Summ := tabOf [(38, G_ref01_Reduce), (62, G_ref01_Valid), (63, G_ref01_Empty), (64, G_ref23_in), (65, G_ref23_tiles), (66, G_ref01_Area)]
def l_ref23_Header : Nat → Option LSumm := ltOf [(4, ⟨0, 97, [1, 3], (kxOf [1] [2]), S_ref23_Header_0⟩), (12, ⟨0, 97, [1, 5], (kxOf [] [2]), S_ref23_Header_1⟩)]
theorem e_ref23_Header (h : Hd) : funR Try.prog t_ref23_Header (annOf []) l_ref23_Header 20 Try.f35 [.agg (hdC h)] [] =
  (ite2 (!valid h.a h.b h.c h.d)
  (some ⟨.one (.int .i64 12), [], []⟩)
  (ite2 (empty h.a h.b h.c h.d)
    (some ⟨.one (.int .i64 12), [], []⟩)
    (ite2 (!inr 1 4096 h.tw)
      (some ⟨.one (.int .i64 12), [], []⟩)
      (ite2 (!inr 1 4096 h.th)
        (some ⟨.one (.int .i64 12), [], []⟩)
        (ite2 (!inr 1 4 (↑(List.length h.cs) : Int))
          (some ⟨.one (.int .i64 12), [], []⟩)
          (ite2 (k_ref23_Header_0 h 0)
            (ite2 (p_ref23_Header_0 h)
              (ite2 (decide (tiles h > 1024))
                (some ⟨.one (.int .i64 5), [], []⟩)
                (ite2 (k_ref23_Header_1 h 0)
                  (ite2 (p_ref23_Header_1 h)
                    (some ⟨.one (.int .i64 0), [], []⟩)
                    (some ⟨.one (.int .i64 5), [], []⟩))
                  none))
              (some ⟨.one (.int .i64 12), [], []⟩))
            none)))))) := by kernel_rfl
def U_ref23_Header_0 (h : Hd) (i : Int) : LT :=
  (.br (decide (i < (↑(List.length h.cs) : Int)))
    (.br (decide (0 ≤ i ∧ i < (↑(List.length h.cs) : Int)))
      (.br (!inr 1 16 (gC h.cs (Int.toNat i)).fst)
        (.leaf Ex.ret [.one (.int .i64 12)] [])
        (.br (!inr 1 4 (gC h.cs (Int.toNat i)).snd.snd.fst)
          (.leaf Ex.ret [.one (.int .i64 12)] [])
          (.br (!inr 1 4 (gC h.cs (Int.toNat i)).snd.snd.snd)
            (.leaf Ex.ret [.one (.int .i64 12)] [])
            (.br (empty (reduce h.a h.b h.c h.d (gC h.cs (Int.toNat i)).snd.snd.fst (gC h.cs (Int.toNat i)).snd.snd.snd).fst (reduce h.a h.b h.c h.d (gC h.cs (Int.toNat i)).snd.snd.fst (gC h.cs (Int.toNat i)).snd.snd.snd).snd.fst (reduce h.a h.b h.c h.d (gC h.cs (Int.toNat i)).snd.snd.fst (gC h.cs (Int.toNat i)).snd.snd.snd).snd.snd.fst (reduce h.a h.b h.c h.d (gC h.cs (Int.toNat i)).snd.snd.fst (gC h.cs (Int.toNat i)).snd.snd.snd).snd.snd.snd)
              (.leaf Ex.ret [.one (.int .i64 12)] [])
              (.leaf Ex.normal [V.one (C.ptr 0 0), .one (.int .i64 (IntKind.wrap .i64 (i + 1)))] [some (Blk.box [.int .i64 h.a, .int .i64 h.b, .int .i64 h.c, .int .i64 h.d, .int .i64 h.tw, .int .i64 h.th, C.lst (Sh.pair (Sh.int .i64) (Sh.pair Sh.bool (Sh.pair (Sh.int .i64) (Sh.int .i64)))) h.cs])])))))
      .no)
    (.leaf (Ex.exit 0) [V.one (C.ptr 0 0)] [some (Blk.box [.int .i64 h.a, .int .i64 h.b, .int .i64 h.c, .int .i64 h.d, .int .i64 h.tw, .int .i64 h.th, C.lst (Sh.pair (Sh.int .i64) (Sh.pair Sh.bool (Sh.pair (Sh.int .i64) (Sh.int .i64)))) h.cs])]))
def T_ref23_Header_0 : List V → List (Option Blk) → LT := fun vs bl => (pO vs fun c' vs => kP 0 0 c' <| pO vs fun c' vs => kI c' fun i => pE vs <| bB bl fun q' bl => rdHd q' fun h => bE bl <| some (U_ref23_Header_0 h i)).getD .no
theorem tu_ref23_Header_0 (h : Hd) (i : Int) : T_ref23_Header_0 [.one (.ptr 0 0), .one (.int .i64 i)] [some (.box (hdC h))] = U_ref23_Header_0 h i := by kernel_rfl
theorem b_ref23_Header_0 (h : Hd) (i : Int) (Kc : Ex → Option (List V × List (Option Blk)) → Option Out) : exec Try.prog t_ref23_Header (annOf []) l_ref23_Header 20 0 (loopOf Try.f35 0) (unp 97 [1, 3] [.one (.ptr 0 0), .one (.int .i64 i)] [some (.box (hdC h))]) (endc 0 97 [1, 3] (kxOf [1] [2]) Kc) =
  (T_ref23_Header_0 [.one (.ptr 0 0), .one (.int .i64 i)] [some (.box (hdC h))]).runc Kc := by kernel_rfl
def U_ref23_Header_1 (h : Hd) (i : Int) : LT :=
  (.br (decide (i < (↑(List.length h.cs) : Int)))
    (.br (decide (0 ≤ i ∧ i < (↑(List.length h.cs) : Int)))
      (.br (decide (area (reduce h.a h.b h.c h.d (gC h.cs (Int.toNat i)).snd.snd.fst (gC h.cs (Int.toNat i)).snd.snd.snd).fst (reduce h.a h.b h.c h.d (gC h.cs (Int.toNat i)).snd.snd.fst (gC h.cs (Int.toNat i)).snd.snd.snd).snd.fst (reduce h.a h.b h.c h.d (gC h.cs (Int.toNat i)).snd.snd.fst (gC h.cs (Int.toNat i)).snd.snd.snd).snd.snd.fst (reduce h.a h.b h.c h.d (gC h.cs (Int.toNat i)).snd.snd.fst (gC h.cs (Int.toNat i)).snd.snd.snd).snd.snd.snd > 1048576))
        (.leaf Ex.ret [.one (.int .i64 5)] [])
        (.leaf Ex.normal [V.one (C.ptr 0 0), .one (.int .i64 (IntKind.wrap .i64 (i + 1)))] [some (Blk.box [.int .i64 h.a, .int .i64 h.b, .int .i64 h.c, .int .i64 h.d, .int .i64 h.tw, .int .i64 h.th, C.lst (Sh.pair (Sh.int .i64) (Sh.pair Sh.bool (Sh.pair (Sh.int .i64) (Sh.int .i64)))) h.cs])]))
      .no)
    (.leaf (Ex.exit 2) [] []))
def T_ref23_Header_1 : List V → List (Option Blk) → LT := fun vs bl => (pO vs fun c' vs => kP 0 0 c' <| pO vs fun c' vs => kI c' fun i => pE vs <| bB bl fun q' bl => rdHd q' fun h => bE bl <| some (U_ref23_Header_1 h i)).getD .no
theorem tu_ref23_Header_1 (h : Hd) (i : Int) : T_ref23_Header_1 [.one (.ptr 0 0), .one (.int .i64 i)] [some (.box (hdC h))] = U_ref23_Header_1 h i := by kernel_rfl
theorem b_ref23_Header_1 (h : Hd) (i : Int) (Kc : Ex → Option (List V × List (Option Blk)) → Option Out) : exec Try.prog t_ref23_Header (annOf []) l_ref23_Header 20 0 (loopOf Try.f35 1) (unp 97 [1, 5] [.one (.ptr 0 0), .one (.int .i64 i)] [some (.box (hdC h))]) (endc 0 97 [1, 5] (kxOf [] [2]) Kc) =
  (T_ref23_Header_1 [.one (.ptr 0 0), .one (.int .i64 i)] [some (.box (hdC h))]).runc Kc := by kernel_rfl
end
end Go.Rx.Ch24

set_option linter.unusedVariables false
set_option maxRecDepth 100000
set_option maxHeartbeats 4000000
open Go Go.Rx Go.Proofs
namespace Go.Rx.Ch24
noncomputable section
def t_params_numbers : FuncId → Option Summ := tabOf [(51, G_params_within)]
def l_params_numbers : Nat → Option LSumm := ltOf [(6, ⟨0, 114, [2, 3, 36, 37, 38], (kxOf [2, 3] [4]), S_params_numbers_0⟩)]
theorem e_params_numbers (h : Hd) (p : Pm) : funR Try.prog t_params_numbers (annOf []) l_params_numbers 20 Try.f52 [.agg (hdC h), .agg (pmC p)] [] =
  (ite2 (!within 0 5 [p.le])
  (some ⟨.one (.bool false), [], []⟩)
  (ite2 (!within 2 6 [p.bx, p.bw])
    (some ⟨.one (.bool false), [], []⟩)
    (ite2 ((↑(List.length p.pr) : Int) != 0)
      (ite2 ((↑(List.length p.pr) : Int) != IntKind.wrap .i64 (p.le + 1))
        (some ⟨.one (.bool false), [], []⟩)
        (ite2 (k_params_numbers_0 h p p.pr (↑(List.length p.pr) : Int) 0)
          (ite2 (p_params_numbers_0 h p p.pr)
            (ite2 (!within 1 16 [p.la])
              (some ⟨.one (.bool false), [], []⟩)
              (ite2 ((↑(List.length p.st) : Int) != IntKind.wrap .i64 (IntKind.wrap .i64 (3 * p.le) + 1))
                (some ⟨.one (.bool false), [], []⟩)
                (ite2 (small (List.length p.st))
                  (ite2 (!within 1 65536 p.st)
                    (some ⟨.one (.bool false), [], []⟩)
                    (ite2 (!within 8 32 [p.de])
                      (some ⟨.one (.bool false), [], []⟩)
                      (ite2 (!within 0 30 [p.sf])
                        (some ⟨.one (.bool false), [], []⟩)
                        (ite2 (p.co == 0)
                          (some ⟨.one (.bool true), [], []⟩)
                          (ite2 (decide ((↑(List.length h.cs) : Int) ≥ 3))
                            (ite2 (decide ((0 : Int) ≤ 0 ∧ 0 < (↑(List.length h.cs) : Int)))
                              (ite2 (decide ((0 : Int) ≤ 1 ∧ 1 < (↑(List.length h.cs) : Int)))
                                (ite2 ((gC h.cs 0).fst == (gC h.cs 1).fst && ((gC h.cs 0).snd.fst == (gC h.cs 1).snd.fst && ((gC h.cs 0).snd.snd.fst == (gC h.cs 1).snd.snd.fst && ((gC h.cs 0).snd.snd.snd == (gC h.cs 1).snd.snd.snd && true))))
                                  (ite2 (decide ((0 : Int) ≤ 0 ∧ 0 < (↑(List.length h.cs) : Int)))
                                    (ite2 (decide ((0 : Int) ≤ 2 ∧ 2 < (↑(List.length h.cs) : Int)))
                                      (some ⟨.one (.bool ((gC h.cs 0).fst == (gC h.cs 2).fst && ((gC h.cs 0).snd.fst == (gC h.cs 2).snd.fst && ((gC h.cs 0).snd.snd.fst == (gC h.cs 2).snd.snd.fst && ((gC h.cs 0).snd.snd.snd == (gC h.cs 2).snd.snd.snd && true))))), [], []⟩)
                                      none)
                                    none)
                                  (some ⟨.one (.bool false), [], []⟩))
                                none)
                              none)
                            (some ⟨.one (.bool false), [], []⟩))))))
                  none)))
            (some ⟨.one (.bool false), [], []⟩))
          none))
      (ite2 (k_params_numbers_0 h p p.pr (↑(List.length p.pr) : Int) 0)
        (ite2 (p_params_numbers_0 h p p.pr)
          (ite2 (!within 1 16 [p.la])
            (some ⟨.one (.bool false), [], []⟩)
            (ite2 ((↑(List.length p.st) : Int) != IntKind.wrap .i64 (IntKind.wrap .i64 (3 * p.le) + 1))
              (some ⟨.one (.bool false), [], []⟩)
              (ite2 (small (List.length p.st))
                (ite2 (!within 1 65536 p.st)
                  (some ⟨.one (.bool false), [], []⟩)
                  (ite2 (!within 8 32 [p.de])
                    (some ⟨.one (.bool false), [], []⟩)
                    (ite2 (!within 0 30 [p.sf])
                      (some ⟨.one (.bool false), [], []⟩)
                      (ite2 (p.co == 0)
                        (some ⟨.one (.bool true), [], []⟩)
                        (ite2 (decide ((↑(List.length h.cs) : Int) ≥ 3))
                          (ite2 (decide ((0 : Int) ≤ 0 ∧ 0 < (↑(List.length h.cs) : Int)))
                            (ite2 (decide ((0 : Int) ≤ 1 ∧ 1 < (↑(List.length h.cs) : Int)))
                              (ite2 ((gC h.cs 0).fst == (gC h.cs 1).fst && ((gC h.cs 0).snd.fst == (gC h.cs 1).snd.fst && ((gC h.cs 0).snd.snd.fst == (gC h.cs 1).snd.snd.fst && ((gC h.cs 0).snd.snd.snd == (gC h.cs 1).snd.snd.snd && true))))
                                (ite2 (decide ((0 : Int) ≤ 0 ∧ 0 < (↑(List.length h.cs) : Int)))
                                  (ite2 (decide ((0 : Int) ≤ 2 ∧ 2 < (↑(List.length h.cs) : Int)))
                                    (some ⟨.one (.bool ((gC h.cs 0).fst == (gC h.cs 2).fst && ((gC h.cs 0).snd.fst == (gC h.cs 2).snd.fst && ((gC h.cs 0).snd.snd.fst == (gC h.cs 2).snd.snd.fst && ((gC h.cs 0).snd.snd.snd == (gC h.cs 2).snd.snd.snd && true))))), [], []⟩)
                                    none)
                                  none)
                                (some ⟨.one (.bool false), [], []⟩))
                              none)
                            none)
                          (some ⟨.one (.bool false), [], []⟩))))))
                none)))
          (some ⟨.one (.bool false), [], []⟩))
        none)))) := by kernel_rfl
def U_params_numbers_0 (h : Hd) (p : Pm) (l : List (Int × Int)) (n i : Int) : LT :=
  (.br (decide (i < n))
    (.br (decide (0 ≤ i ∧ i < (↑(List.length l) : Int)))
      (.br (!within (if 1 < i then 1 else i) 12 [(gP l (Int.toNat i)).fst, (gP l (Int.toNat i)).snd])
        (.leaf Ex.ret [.one (.bool false)] [])
        (.leaf Ex.normal [V.one (C.ptr 0 0), V.one (C.ptr 1 0), V.one (C.lst (Sh.pair (Sh.int .i64) (Sh.int .i64)) l), .one (.int .i64 n), .one (.int .i64 (IntKind.wrap .i64 (i + 1)))] [some (Blk.box [.int .i64 h.a, .int .i64 h.b, .int .i64 h.c, .int .i64 h.d, .int .i64 h.tw, .int .i64 h.th, C.lst (Sh.pair (Sh.int .i64) (Sh.pair Sh.bool (Sh.pair (Sh.int .i64) (Sh.int .i64)))) h.cs]), some (Blk.box [.int .i64 p.ke, .int .i64 p.le, .int .i64 p.co, .int .i64 p.bx, .int .i64 p.bw, C.lst (Sh.pair (Sh.int .i64) (Sh.int .i64)) p.pr, .int .i64 p.od, .int .i64 p.la, .bool p.m1, .bool p.m2, .bool p.m3, .bool p.m4, .bool p.m5, .bool p.dv, .bool p.sy, .bool p.fe, C.lst (Sh.int .i64) p.st, .int .i64 p.de, .int .i64 p.sf])]))
      .no)
    (.leaf (Ex.exit 0) [V.one (C.ptr 0 0), V.one (C.ptr 1 0)] [some (Blk.box [.int .i64 h.a, .int .i64 h.b, .int .i64 h.c, .int .i64 h.d, .int .i64 h.tw, .int .i64 h.th, C.lst (Sh.pair (Sh.int .i64) (Sh.pair Sh.bool (Sh.pair (Sh.int .i64) (Sh.int .i64)))) h.cs]), some (Blk.box [.int .i64 p.ke, .int .i64 p.le, .int .i64 p.co, .int .i64 p.bx, .int .i64 p.bw, C.lst (Sh.pair (Sh.int .i64) (Sh.int .i64)) p.pr, .int .i64 p.od, .int .i64 p.la, .bool p.m1, .bool p.m2, .bool p.m3, .bool p.m4, .bool p.m5, .bool p.dv, .bool p.sy, .bool p.fe, C.lst (Sh.int .i64) p.st, .int .i64 p.de, .int .i64 p.sf])]))
def T_params_numbers_0 : List V → List (Option Blk) → LT := fun vs bl => (pO vs fun c' vs => kP 0 0 c' <| pO vs fun c' vs => kP 1 0 c' <| pO vs fun c' vs => kLP c' fun l => pO vs fun c' vs => kI c' fun n => pO vs fun c' vs => kI c' fun i => pE vs <| bB bl fun q' bl => rdHd q' fun h => bB bl fun q' bl => rdPm q' fun p => bE bl <| some (U_params_numbers_0 h p l n i)).getD .no
theorem tu_params_numbers_0 (h : Hd) (p : Pm) (l : List (Int × Int)) (n i : Int) : T_params_numbers_0 [.one (.ptr 0 0), .one (.ptr 1 0), .one (.lst (.pair (.int .i64) (.int .i64)) l), .one (.int .i64 n), .one (.int .i64 i)] [some (.box (hdC h)), some (.box (pmC p))] = U_params_numbers_0 h p l n i := by kernel_rfl
theorem b_params_numbers_0 (h : Hd) (p : Pm) (l : List (Int × Int)) (n i : Int) (Kc : Ex → Option (List V × List (Option Blk)) → Option Out) : exec Try.prog t_params_numbers (annOf []) l_params_numbers 20 0 (loopOf Try.f52 0) (unp 114 [2, 3, 36, 37, 38] [.one (.ptr 0 0), .one (.ptr 1 0), .one (.lst (.pair (.int .i64) (.int .i64)) l), .one (.int .i64 n), .one (.int .i64 i)] [some (.box (hdC h)), some (.box (pmC p))]) (endc 0 114 [2, 3, 36, 37, 38] (kxOf [2, 3] [4]) Kc) =
  (T_params_numbers_0 [.one (.ptr 0 0), .one (.ptr 1 0), .one (.lst (.pair (.int .i64) (.int .i64)) l), .one (.int .i64 n), .one (.int .i64 i)] [some (.box (hdC h)), some (.box (pmC p))]).runc Kc := by kernel_rfl
def t_ref23_numbers : FuncId → Option Summ := tabOf [(64, G_ref23_in)]
def l_ref23_numbers : Nat → Option LSumm := ltOf [(4, ⟨0, 103, [1, 3], (kxOf [1] [2]), S_ref23_numbers_0⟩), (13, ⟨0, 103, [1, 4], (kxOf [] [2]), S_ref23_numbers_1⟩)]
theorem e_ref23_numbers (p : Pm) : funR Try.prog t_ref23_numbers (annOf []) l_ref23_numbers 20 Try.f89 [.agg (pmC p)] [] =
  (ite2 (!inr 0 5 p.le)
  (some ⟨.one (.bool false), [], []⟩)
  (ite2 (!inr 2 6 p.bx)
    (some ⟨.one (.bool false), [], []⟩)
    (ite2 (!inr 2 6 p.bw)
      (some ⟨.one (.bool false), [], []⟩)
      (ite2 (!inr 1 16 p.la)
        (some ⟨.one (.bool false), [], []⟩)
        (ite2 (!inr 8 32 p.de)
          (some ⟨.one (.bool false), [], []⟩)
          (ite2 (!inr 0 30 p.sf)
            (some ⟨.one (.bool false), [], []⟩)
            (ite2 ((↑(List.length p.st) : Int) != IntKind.wrap .i64 (IntKind.wrap .i64 (3 * p.le) + 1))
              (some ⟨.one (.bool false), [], []⟩)
              (ite2 (k_ref23_numbers_0 p 0)
                (ite2 (p_ref23_numbers_0 p)
                  (ite2 ((↑(List.length p.pr) : Int) == 0)
                    (some ⟨.one (.bool true), [], []⟩)
                    (ite2 ((↑(List.length p.pr) : Int) != IntKind.wrap .i64 (p.le + 1))
                      (some ⟨.one (.bool false), [], []⟩)
                      (ite2 (k_ref23_numbers_1 p 0)
                        (ite2 (p_ref23_numbers_1 p)
                          (some ⟨.one (.bool true), [], []⟩)
                          (some ⟨.one (.bool false), [], []⟩))
                        none)))
                  (some ⟨.one (.bool false), [], []⟩))
                none)))))))) := by kernel_rfl
def U_ref23_numbers_0 (p : Pm) (i : Int) : LT :=
  (.br (decide (i < (↑(List.length p.st) : Int)))
    (.br (decide (0 ≤ i ∧ i < (↑(List.length p.st) : Int)))
      (.br (!inr 1 65536 (gI p.st (Int.toNat i)))
        (.leaf Ex.ret [.one (.bool false)] [])
        (.leaf Ex.normal [V.one (C.ptr 0 0), .one (.int .i64 (IntKind.wrap .i64 (i + 1)))] [some (Blk.box [.int .i64 p.ke, .int .i64 p.le, .int .i64 p.co, .int .i64 p.bx, .int .i64 p.bw, C.lst (Sh.pair (Sh.int .i64) (Sh.int .i64)) p.pr, .int .i64 p.od, .int .i64 p.la, .bool p.m1, .bool p.m2, .bool p.m3, .bool p.m4, .bool p.m5, .bool p.dv, .bool p.sy, .bool p.fe, C.lst (Sh.int .i64) p.st, .int .i64 p.de, .int .i64 p.sf])]))
      .no)
    (.leaf (Ex.exit 0) [V.one (C.ptr 0 0)] [some (Blk.box [.int .i64 p.ke, .int .i64 p.le, .int .i64 p.co, .int .i64 p.bx, .int .i64 p.bw, C.lst (Sh.pair (Sh.int .i64) (Sh.int .i64)) p.pr, .int .i64 p.od, .int .i64 p.la, .bool p.m1, .bool p.m2, .bool p.m3, .bool p.m4, .bool p.m5, .bool p.dv, .bool p.sy, .bool p.fe, C.lst (Sh.int .i64) p.st, .int .i64 p.de, .int .i64 p.sf])]))
def T_ref23_numbers_0 : List V → List (Option Blk) → LT := fun vs bl => (pO vs fun c' vs => kP 0 0 c' <| pO vs fun c' vs => kI c' fun i => pE vs <| bB bl fun q' bl => rdPm q' fun p => bE bl <| some (U_ref23_numbers_0 p i)).getD .no
theorem tu_ref23_numbers_0 (p : Pm) (i : Int) : T_ref23_numbers_0 [.one (.ptr 0 0), .one (.int .i64 i)] [some (.box (pmC p))] = U_ref23_numbers_0 p i := by kernel_rfl
theorem b_ref23_numbers_0 (p : Pm) (i : Int) (Kc : Ex → Option (List V × List (Option Blk)) → Option Out) : exec Try.prog t_ref23_numbers (annOf []) l_ref23_numbers 20 0 (loopOf Try.f89 0) (unp 103 [1, 3] [.one (.ptr 0 0), .one (.int .i64 i)] [some (.box (pmC p))]) (endc 0 103 [1, 3] (kxOf [1] [2]) Kc) =
  (T_ref23_numbers_0 [.one (.ptr 0 0), .one (.int .i64 i)] [some (.box (pmC p))]).runc Kc := by kernel_rfl
def U_ref23_numbers_1 (p : Pm) (i : Int) : LT :=
  (.br (decide (i < (↑(List.length p.pr) : Int)))
    (.br (decide (0 ≤ i ∧ i < (↑(List.length p.pr) : Int)))
      (.br (!inr (if 1 < i then 1 else i) 12 (gP p.pr (Int.toNat i)).fst)
        (.leaf Ex.ret [.one (.bool false)] [])
        (.br (decide (0 ≤ i ∧ i < (↑(List.length p.pr) : Int)))
          (.br (!inr (if 1 < i then 1 else i) 12 (gP p.pr (Int.toNat i)).snd)
            (.leaf Ex.ret [.one (.bool false)] [])
            (.leaf Ex.normal [V.one (C.ptr 0 0), .one (.int .i64 (IntKind.wrap .i64 (i + 1)))] [some (Blk.box [.int .i64 p.ke, .int .i64 p.le, .int .i64 p.co, .int .i64 p.bx, .int .i64 p.bw, C.lst (Sh.pair (Sh.int .i64) (Sh.int .i64)) p.pr, .int .i64 p.od, .int .i64 p.la, .bool p.m1, .bool p.m2, .bool p.m3, .bool p.m4, .bool p.m5, .bool p.dv, .bool p.sy, .bool p.fe, C.lst (Sh.int .i64) p.st, .int .i64 p.de, .int .i64 p.sf])]))
          .no))
      .no)
    (.leaf (Ex.exit 2) [] []))
def T_ref23_numbers_1 : List V → List (Option Blk) → LT := fun vs bl => (pO vs fun c' vs => kP 0 0 c' <| pO vs fun c' vs => kI c' fun i => pE vs <| bB bl fun q' bl => rdPm q' fun p => bE bl <| some (U_ref23_numbers_1 p i)).getD .no
theorem tu_ref23_numbers_1 (p : Pm) (i : Int) : T_ref23_numbers_1 [.one (.ptr 0 0), .one (.int .i64 i)] [some (.box (pmC p))] = U_ref23_numbers_1 p i := by kernel_rfl
theorem b_ref23_numbers_1 (p : Pm) (i : Int) (Kc : Ex → Option (List V × List (Option Blk)) → Option Out) : exec Try.prog t_ref23_numbers (annOf []) l_ref23_numbers 20 0 (loopOf Try.f89 1) (unp 103 [1, 4] [.one (.ptr 0 0), .one (.int .i64 i)] [some (.box (pmC p))]) (endc 0 103 [1, 4] (kxOf [] [2]) Kc) =
  (T_ref23_numbers_1 [.one (.ptr 0 0), .one (.int .i64 i)] [some (.box (pmC p))]).runc Kc := by kernel_rfl
end
end Go.Rx.Ch24

set_option linter.unusedVariables false
set_option maxRecDepth 100000
set_option maxHeartbeats 4000000
open Go Go.Rx Go.Proofs
namespace Go.Rx.Ch24
noncomputable section
end
end Go.Rx.Ch24

set_option linter.unusedVariables false
set_option maxRecDepth 100000
set_option maxHeartbeats 4000000
open Go Go.Rx Go.Proofs
namespace Go.Rx.Ch24
noncomputable section
def t_pyr_validLevels : FuncId → Option Summ := tabOf []
def l_pyr_validLevels : Nat → Option LSumm := ltOf []
theorem e_pyr_validLevels (n : Int) : funR Try.prog t_pyr_validLevels (annOf []) l_pyr_validLevels 20 Try.f54 [.one (.int .i64 n)] [] =
  (ite2 (decide (n ≥ 0))
  (some ⟨.one (.bool (decide (n ≤ 5))), [], []⟩)
  (some ⟨.one (.bool false), [], []⟩)) := by kernel_rfl
def t_pyr_Count : FuncId → Option Summ := tabOf [(54, G_pyr_validLevels)]
def l_pyr_Count : Nat → Option LSumm := ltOf []
theorem e_pyr_Count (n : Int) : funR Try.prog t_pyr_Count (annOf []) l_pyr_Count 20 Try.f85 [.one (.int .i64 n)] [] =
  (ite2 (!inr 0 5 n)
  (some ⟨.one (.int .i64 0), [], []⟩)
  (some ⟨.one (.int .i64 (IntKind.wrap .i64 (IntKind.wrap .i64 (3 * n) + 1))), [], []⟩)) := by kernel_rfl
def t_pyr_Place : FuncId → Option Summ := tabOf [(85, G_pyr_Count)]
def l_pyr_Place : Nat → Option LSumm := ltOf []
theorem e_pyr_Place (i n : Int) : funR Try.prog t_pyr_Place (annOf []) l_pyr_Place 20 Try.f55 [.one (.int .i64 i), .one (.int .i64 n)] [] =
  (ite2 (decide (i < 0))
  (some ⟨V.tup [(false, [.int .i64 0]), (false, [.int .i64 0]), (false, [.bool false])], [], []⟩)
  (ite2 (decide (i ≥ count n))
    (some ⟨V.tup [(false, [.int .i64 0]), (false, [.int .i64 0]), (false, [.bool false])], [], []⟩)
    (ite2 (i == 0)
      (some ⟨V.tup [(false, [.int .i64 n]), (false, [.int .i64 0]), (false, [.bool true])], [], []⟩)
      (some ⟨V.tup [(false, [.int .i64 (IntKind.wrap .i64 (IntKind.wrap .i64 (n - IntKind.wrap .i64 (Int.tdiv (IntKind.wrap .i64 (i + 2)) 3)) + 1))]), (false, [.int .i64 (IntKind.wrap .i64 (IntKind.wrap .i64 (i - IntKind.wrap .i64 (3 * IntKind.wrap .i64 (Int.tdiv (IntKind.wrap .i64 (i + 2)) 3))) + 3))]), (false, [.bool true])], [], []⟩)))) := by kernel_rfl
def t_pyr_Indices : FuncId → Option Summ := tabOf [(54, G_pyr_validLevels)]
def l_pyr_Indices : Nat → Option LSumm := ltOf []
theorem e_pyr_Indices (n r : Int) : funR Try.prog t_pyr_Indices (annOf []) l_pyr_Indices 20 Try.f26 [.one (.int .i64 n), .one (.int .i64 r)] [] =
  (ite2 (!inr 0 5 n)
  (some ⟨V.one (C.row 0), [], [Blk.arr 3 (Sh.int .i64) ([] : List (Int))]⟩)
  (ite2 (decide (r < 0))
    (some ⟨V.one (C.row 0), [], [Blk.arr 3 (Sh.int .i64) ([] : List (Int))]⟩)
    (ite2 (decide (r > n))
      (some ⟨V.one (C.row 0), [], [Blk.arr 3 (Sh.int .i64) ([] : List (Int))]⟩)
      (ite2 (r == 0)
        (some ⟨V.one (C.row 0), [], [Blk.arr 3 (Sh.int .i64) ([0] : List (Int))]⟩)
        (some ⟨V.one (C.row 0), [], [Blk.arr 3 (Sh.int .i64) ([IntKind.wrap .i64 (IntKind.wrap .i64 (3 * r) - 2), IntKind.wrap .i64 (IntKind.wrap .i64 (3 * r) - 1), IntKind.wrap .i64 (3 * r)] : List (Int))]⟩))))) := by kernel_rfl
def t_pyr_Resolution : FuncId → Option Summ := tabOf [(37, G_rect_Reduce), (54, G_pyr_validLevels)]
def l_pyr_Resolution : Nat → Option LSumm := ltOf []
theorem e_pyr_Resolution (a b c d n r : Int) : funR Try.prog t_pyr_Resolution (annOf []) l_pyr_Resolution 20 Try.f40 [.agg [.int .i64 a, .int .i64 b, .int .i64 c, .int .i64 d], .one (.int .i64 n), .one (.int .i64 r)] [] =
  (ite2 (!inr 0 5 n)
  (some ⟨.agg [.int .i64 0, .int .i64 0, .int .i64 0, .int .i64 0], [], []⟩)
  (ite2 (decide (r < 0))
    (some ⟨.agg [.int .i64 0, .int .i64 0, .int .i64 0, .int .i64 0], [], []⟩)
    (ite2 (decide (r > n))
      (some ⟨.agg [.int .i64 0, .int .i64 0, .int .i64 0, .int .i64 0], [], []⟩)
      (ite2 (decide (0 ≤ IntKind.wrap IntKind.u64 (IntKind.wrap .i64 (n - r))))
        (some ⟨.agg [.int .i64 (reduce a b c d (IntKind.wrap .i64 (1 * 2 ^ min (Int.toNat (IntKind.wrap IntKind.u64 (IntKind.wrap .i64 (n - r)))) 64)) (IntKind.wrap .i64 (1 * 2 ^ min (Int.toNat (IntKind.wrap IntKind.u64 (IntKind.wrap .i64 (n - r)))) 64))).fst, .int .i64 (reduce a b c d (IntKind.wrap .i64 (1 * 2 ^ min (Int.toNat (IntKind.wrap IntKind.u64 (IntKind.wrap .i64 (n - r)))) 64)) (IntKind.wrap .i64 (1 * 2 ^ min (Int.toNat (IntKind.wrap IntKind.u64 (IntKind.wrap .i64 (n - r)))) 64))).snd.fst, .int .i64 (reduce a b c d (IntKind.wrap .i64 (1 * 2 ^ min (Int.toNat (IntKind.wrap IntKind.u64 (IntKind.wrap .i64 (n - r)))) 64)) (IntKind.wrap .i64 (1 * 2 ^ min (Int.toNat (IntKind.wrap IntKind.u64 (IntKind.wrap .i64 (n - r)))) 64))).snd.snd.fst, .int .i64 (reduce a b c d (IntKind.wrap .i64 (1 * 2 ^ min (Int.toNat (IntKind.wrap IntKind.u64 (IntKind.wrap .i64 (n - r)))) 64)) (IntKind.wrap .i64 (1 * 2 ^ min (Int.toNat (IntKind.wrap IntKind.u64 (IntKind.wrap .i64 (n - r)))) 64))).snd.snd.snd], [], []⟩)
        none)))) := by kernel_rfl
def t_ref06_Count : FuncId → Option Summ := tabOf []
def l_ref06_Count : Nat → Option LSumm := ltOf []
theorem e_ref06_Count (n : Int) : funR Try.prog t_ref06_Count (annOf []) l_ref06_Count 20 Try.f91 [.one (.int .i64 n)] [] =
  (ite2 (decide (n < 0))
  (some ⟨.one (.int .i64 0), [], []⟩)
  (ite2 (decide (n > 5))
    (some ⟨.one (.int .i64 0), [], []⟩)
    (some ⟨.one (.int .i64 (IntKind.wrap .i64 (IntKind.wrap .i64 (3 * n) + 1))), [], []⟩))) := by kernel_rfl
def t_ref06_Place : FuncId → Option Summ := tabOf [(91, G_ref06_Count)]
def l_ref06_Place : Nat → Option LSumm := ltOf []
theorem e_ref06_Place (i n : Int) : funR Try.prog t_ref06_Place (annOf []) l_ref06_Place 20 Try.f78 [.one (.int .i64 i), .one (.int .i64 n)] [] =
  (ite2 (decide (i < 0))
  (some ⟨V.tup [(false, [.int .i64 0]), (false, [.int .i64 0]), (false, [.bool false])], [], []⟩)
  (ite2 (decide (i ≥ count n))
    (some ⟨V.tup [(false, [.int .i64 0]), (false, [.int .i64 0]), (false, [.bool false])], [], []⟩)
    (ite2 (i == 0)
      (some ⟨V.tup [(false, [.int .i64 n]), (false, [.int .i64 0]), (false, [.bool true])], [], []⟩)
      (some ⟨V.tup [(false, [.int .i64 (IntKind.wrap .i64 (IntKind.wrap .i64 (n - IntKind.wrap .i64 (Int.tdiv (IntKind.wrap .i64 (i + 2)) 3)) + 1))]), (false, [.int .i64 (IntKind.wrap .i64 (IntKind.wrap .i64 (i - IntKind.wrap .i64 (3 * IntKind.wrap .i64 (Int.tdiv (IntKind.wrap .i64 (i + 2)) 3))) + 3))]), (false, [.bool true])], [], []⟩)))) := by kernel_rfl
def t_ref06_Resolution : FuncId → Option Summ := tabOf [(38, G_ref01_Reduce), (91, G_ref06_Count)]
def l_ref06_Resolution : Nat → Option LSumm := ltOf [(5, ⟨0, 34, [1, 3, 6, 7, 8], (kxOf [3, 6, 7] [6]), S_ref06_Resolution_0⟩)]
theorem e_ref06_Resolution (a b c d n r : Int) : funR Try.prog t_ref06_Resolution (annOf []) l_ref06_Resolution 20 Try.f72 [.agg [.int .i64 a, .int .i64 b, .int .i64 c, .int .i64 d], .one (.int .i64 n), .one (.int .i64 r)] [] =
  (ite2 (count n == 0)
  (some ⟨.agg [.int .i64 0, .int .i64 0, .int .i64 0, .int .i64 0], [], []⟩)
  (ite2 (decide (r < 0))
    (some ⟨.agg [.int .i64 0, .int .i64 0, .int .i64 0, .int .i64 0], [], []⟩)
    (ite2 (decide (r > n))
      (some ⟨.agg [.int .i64 0, .int .i64 0, .int .i64 0, .int .i64 0], [], []⟩)
      (ite2 (k_ref06_Resolution_0 n 1 r a b c d 0 0 0 0)
        (some ⟨.agg [.int .i64 (reduce a b c d (pw (n - r)) (pw (n - r))).fst, .int .i64 (reduce a b c d (pw (n - r)) (pw (n - r))).snd.fst, .int .i64 (reduce a b c d (pw (n - r)) (pw (n - r))).snd.snd.fst, .int .i64 (reduce a b c d (pw (n - r)) (pw (n - r))).snd.snd.snd], [], []⟩)
        none)))) := by kernel_rfl
def U_ref06_Resolution_0 (n m i a b c d e f g o : Int) : LT :=
  (.br (decide (i < n))
    (.leaf Ex.normal [.one (.int .i64 n), V.one (C.ptr 0 0), V.one (C.ptr 1 0), .one (.int .i64 (IntKind.wrap .i64 (2 * m))), .one (.int .i64 (IntKind.wrap .i64 (i + 1)))] [some (Blk.box [.int .i64 a, .int .i64 b, .int .i64 c, .int .i64 d]), some (Blk.box [.int .i64 e, .int .i64 f, .int .i64 g, .int .i64 o])])
    (.leaf (Ex.exit 0) [V.one (C.ptr 0 0), V.one (C.ptr 1 0), .one (.int .i64 m)] [some (Blk.box [.int .i64 a, .int .i64 b, .int .i64 c, .int .i64 d]), some (Blk.box [.int .i64 e, .int .i64 f, .int .i64 g, .int .i64 o])]))
def T_ref06_Resolution_0 : List V → List (Option Blk) → LT := fun vs bl => (pO vs fun c' vs => kI c' fun n => pO vs fun c' vs => kP 0 0 c' <| pO vs fun c' vs => kP 1 0 c' <| pO vs fun c' vs => kI c' fun m => pO vs fun c' vs => kI c' fun i => pE vs <| bB bl fun q' bl => tC q' fun c' q' => kI c' fun a => tC q' fun c' q' => kI c' fun b => tC q' fun c' q' => kI c' fun c => tC q' fun c' q' => kI c' fun d => tE q' <| bB bl fun q' bl => tC q' fun c' q' => kI c' fun e => tC q' fun c' q' => kI c' fun f => tC q' fun c' q' => kI c' fun g => tC q' fun c' q' => kI c' fun o => tE q' <| bE bl <| some (U_ref06_Resolution_0 n m i a b c d e f g o)).getD .no
theorem tu_ref06_Resolution_0 (n m i a b c d e f g o : Int) : T_ref06_Resolution_0 [.one (.int .i64 n), .one (.ptr 0 0), .one (.ptr 1 0), .one (.int .i64 m), .one (.int .i64 i)] [some (.box [.int .i64 a, .int .i64 b, .int .i64 c, .int .i64 d]), some (.box [.int .i64 e, .int .i64 f, .int .i64 g, .int .i64 o])] = U_ref06_Resolution_0 n m i a b c d e f g o := by kernel_rfl
theorem b_ref06_Resolution_0 (n m i a b c d e f g o : Int) (Kc : Ex → Option (List V × List (Option Blk)) → Option Out) : exec Try.prog t_ref06_Resolution (annOf []) l_ref06_Resolution 20 0 (loopOf Try.f72 0) (unp 34 [1, 3, 6, 7, 8] [.one (.int .i64 n), .one (.ptr 0 0), .one (.ptr 1 0), .one (.int .i64 m), .one (.int .i64 i)] [some (.box [.int .i64 a, .int .i64 b, .int .i64 c, .int .i64 d]), some (.box [.int .i64 e, .int .i64 f, .int .i64 g, .int .i64 o])]) (endc 0 34 [1, 3, 6, 7, 8] (kxOf [3, 6, 7] [6]) Kc) =
  (T_ref06_Resolution_0 [.one (.int .i64 n), .one (.ptr 0 0), .one (.ptr 1 0), .one (.int .i64 m), .one (.int .i64 i)] [some (.box [.int .i64 a, .int .i64 b, .int .i64 c, .int .i64 d]), some (.box [.int .i64 e, .int .i64 f, .int .i64 g, .int .i64 o])]).runc Kc := by kernel_rfl
def t_dwt_Bands : FuncId → Option Summ := tabOf [(56, G_rect_Valid)]
def l_dwt_Bands : Nat → Option LSumm := ltOf []
theorem e_dwt_Bands (a b c d : Int) : funR Try.prog t_dwt_Bands (annOf []) l_dwt_Bands 20 Try.f57 [.agg [.int .i64 a, .int .i64 b, .int .i64 c, .int .i64 d]] [] =
  (ite2 (!valid a b c d)
  (some ⟨.agg [.int .i64 0, .int .i64 0, .int .i64 0, .int .i64 0, .int .i64 0, .int .i64 0, .int .i64 0, .int .i64 0, .int .i64 0, .int .i64 0, .int .i64 0, .int .i64 0, .int .i64 0, .int .i64 0, .int .i64 0, .int .i64 0], [], []⟩)
  (some ⟨.agg [.int .i64 (IntKind.wrap .i64 (Int.tdiv (IntKind.wrap .i64 (a + 1)) 2)), .int .i64 (IntKind.wrap .i64 (Int.tdiv (IntKind.wrap .i64 (b + 1)) 2)), .int .i64 (IntKind.wrap .i64 (Int.tdiv (IntKind.wrap .i64 (c + 1)) 2)), .int .i64 (IntKind.wrap .i64 (Int.tdiv (IntKind.wrap .i64 (d + 1)) 2)), .int .i64 (IntKind.wrap .i64 (Int.tdiv (IntKind.wrap .i64 (a + 0)) 2)), .int .i64 (IntKind.wrap .i64 (Int.tdiv (IntKind.wrap .i64 (b + 1)) 2)), .int .i64 (IntKind.wrap .i64 (Int.tdiv (IntKind.wrap .i64 (c + 0)) 2)), .int .i64 (IntKind.wrap .i64 (Int.tdiv (IntKind.wrap .i64 (d + 1)) 2)), .int .i64 (IntKind.wrap .i64 (Int.tdiv (IntKind.wrap .i64 (a + 1)) 2)), .int .i64 (IntKind.wrap .i64 (Int.tdiv (IntKind.wrap .i64 (b + 0)) 2)), .int .i64 (IntKind.wrap .i64 (Int.tdiv (IntKind.wrap .i64 (c + 1)) 2)), .int .i64 (IntKind.wrap .i64 (Int.tdiv (IntKind.wrap .i64 (d + 0)) 2)), .int .i64 (IntKind.wrap .i64 (Int.tdiv (IntKind.wrap .i64 (a + 0)) 2)), .int .i64 (IntKind.wrap .i64 (Int.tdiv (IntKind.wrap .i64 (b + 0)) 2)), .int .i64 (IntKind.wrap .i64 (Int.tdiv (IntKind.wrap .i64 (c + 0)) 2)), .int .i64 (IntKind.wrap .i64 (Int.tdiv (IntKind.wrap .i64 (d + 0)) 2))], [], []⟩)) := by kernel_rfl
def t_ref05_half : FuncId → Option Summ := tabOf []
def l_ref05_half : Nat → Option LSumm := ltOf []
theorem e_ref05_half (n : Int) (b : Bool) : funR Try.prog t_ref05_half (annOf []) l_ref05_half 20 Try.f98 [.one (.int .i64 n), .one (.bool b)] [] =
  (ite2 (b)
  (some ⟨.one (.int .i64 (IntKind.wrap .i64 (Int.tdiv n 2))), [], []⟩)
  (some ⟨.one (.int .i64 (IntKind.wrap .i64 (Int.tdiv (IntKind.wrap .i64 (n + 1)) 2))), [], []⟩)) := by kernel_rfl
def t_ref05_Bands : FuncId → Option Summ := tabOf [(62, G_ref01_Valid), (98, G_ref05_half)]
def l_ref05_Bands : Nat → Option LSumm := ltOf []
theorem e_ref05_Bands (a b c d : Int) : funR Try.prog t_ref05_Bands (annOf []) l_ref05_Bands 20 Try.f96 [.agg [.int .i64 a, .int .i64 b, .int .i64 c, .int .i64 d]] [] =
  (ite2 (!valid a b c d)
  (some ⟨.agg [.int .i64 0, .int .i64 0, .int .i64 0, .int .i64 0, .int .i64 0, .int .i64 0, .int .i64 0, .int .i64 0, .int .i64 0, .int .i64 0, .int .i64 0, .int .i64 0, .int .i64 0, .int .i64 0, .int .i64 0, .int .i64 0], [], []⟩)
  (ite2 (inr 0 4096 a)
    (ite2 (inr 0 4096 b)
      (ite2 (inr 0 4096 c)
        (ite2 (inr 0 4096 d)
          (ite2 (inr 0 4096 a)
            (ite2 (inr 0 4096 b)
              (ite2 (inr 0 4096 c)
                (ite2 (inr 0 4096 d)
                  (ite2 (inr 0 4096 a)
                    (ite2 (inr 0 4096 b)
                      (ite2 (inr 0 4096 c)
                        (ite2 (inr 0 4096 d)
                          (ite2 (inr 0 4096 a)
                            (ite2 (inr 0 4096 b)
                              (ite2 (inr 0 4096 c)
                                (ite2 (inr 0 4096 d)
                                  (some ⟨.agg [.int .i64 (half a false), .int .i64 (half b false), .int .i64 (half c false), .int .i64 (half d false), .int .i64 (half a true), .int .i64 (half b false), .int .i64 (half c true), .int .i64 (half d false), .int .i64 (half a false), .int .i64 (half b true), .int .i64 (half c false), .int .i64 (half d true), .int .i64 (half a true), .int .i64 (half b true), .int .i64 (half c true), .int .i64 (half d true)], [], []⟩)
                                  none)
                                none)
                              none)
                            none)
                          none)
                        none)
                      none)
                    none)
                  none)
                none)
              none)
            none)
          none)
        none)
      none)
    none)) := by kernel_rfl
def t_pyr_Band : FuncId → Option Summ := tabOf [(40, G_pyr_Resolution), (55, G_pyr_Place), (56, G_rect_Valid), (57, G_dwt_Bands)]
def l_pyr_Band : Nat → Option LSumm := ltOf []
theorem e_pyr_Band (a b c d n i : Int) : funR Try.prog t_pyr_Band (annOf []) l_pyr_Band 20 Try.f28 [.agg [.int .i64 a, .int .i64 b, .int .i64 c, .int .i64 d], .one (.int .i64 n), .one (.int .i64 i)] [] =
  (ite2 (!plOk i n)
  (some ⟨.agg [.int .i64 0, .int .i64 0, .int .i64 0, .int .i64 0], [], []⟩)
  (ite2 (!valid a b c d)
    (some ⟨.agg [.int .i64 0, .int .i64 0, .int .i64 0, .int .i64 0], [], []⟩)
    (ite2 (i == 0)
      (some ⟨.agg [.int .i64 (resR a b c d n 0).fst, .int .i64 (resR a b c d n 0).snd.fst, .int .i64 (resR a b c d n 0).snd.snd.fst, .int .i64 (resR a b c d n 0).snd.snd.snd], [], []⟩)
      (ite2 (decide (0 ≤ plOr i n ∧ plOr i n < 4))
        (some ⟨.agg [.int .i64 (gI [(bnd (resR a b c d n (IntKind.wrap .i64 (IntKind.wrap .i64 (n - plLv i n) + 1))).fst (resR a b c d n (IntKind.wrap .i64 (IntKind.wrap .i64 (n - plLv i n) + 1))).snd.fst (resR a b c d n (IntKind.wrap .i64 (IntKind.wrap .i64 (n - plLv i n) + 1))).snd.snd.fst (resR a b c d n (IntKind.wrap .i64 (IntKind.wrap .i64 (n - plLv i n) + 1))).snd.snd.snd 0).fst, (bnd (resR a b c d n (IntKind.wrap .i64 (IntKind.wrap .i64 (n - plLv i n) + 1))).fst (resR a b c d n (IntKind.wrap .i64 (IntKind.wrap .i64 (n - plLv i n) + 1))).snd.fst (resR a b c d n (IntKind.wrap .i64 (IntKind.wrap .i64 (n - plLv i n) + 1))).snd.snd.fst (resR a b c d n (IntKind.wrap .i64 (IntKind.wrap .i64 (n - plLv i n) + 1))).snd.snd.snd 1).fst, (bnd (resR a b c d n (IntKind.wrap .i64 (IntKind.wrap .i64 (n - plLv i n) + 1))).fst (resR a b c d n (IntKind.wrap .i64 (IntKind.wrap .i64 (n - plLv i n) + 1))).snd.fst (resR a b c d n (IntKind.wrap .i64 (IntKind.wrap .i64 (n - plLv i n) + 1))).snd.snd.fst (resR a b c d n (IntKind.wrap .i64 (IntKind.wrap .i64 (n - plLv i n) + 1))).snd.snd.snd 2).fst, (bnd (resR a b c d n (IntKind.wrap .i64 (IntKind.wrap .i64 (n - plLv i n) + 1))).fst (resR a b c d n (IntKind.wrap .i64 (IntKind.wrap .i64 (n - plLv i n) + 1))).snd.fst (resR a b c d n (IntKind.wrap .i64 (IntKind.wrap .i64 (n - plLv i n) + 1))).snd.snd.fst (resR a b c d n (IntKind.wrap .i64 (IntKind.wrap .i64 (n - plLv i n) + 1))).snd.snd.snd 3).fst] (Int.toNat (plOr i n))), .int .i64 (gI [(bnd (resR a b c d n (IntKind.wrap .i64 (IntKind.wrap .i64 (n - plLv i n) + 1))).fst (resR a b c d n (IntKind.wrap .i64 (IntKind.wrap .i64 (n - plLv i n) + 1))).snd.fst (resR a b c d n (IntKind.wrap .i64 (IntKind.wrap .i64 (n - plLv i n) + 1))).snd.snd.fst (resR a b c d n (IntKind.wrap .i64 (IntKind.wrap .i64 (n - plLv i n) + 1))).snd.snd.snd 0).snd.fst, (bnd (resR a b c d n (IntKind.wrap .i64 (IntKind.wrap .i64 (n - plLv i n) + 1))).fst (resR a b c d n (IntKind.wrap .i64 (IntKind.wrap .i64 (n - plLv i n) + 1))).snd.fst (resR a b c d n (IntKind.wrap .i64 (IntKind.wrap .i64 (n - plLv i n) + 1))).snd.snd.fst (resR a b c d n (IntKind.wrap .i64 (IntKind.wrap .i64 (n - plLv i n) + 1))).snd.snd.snd 1).snd.fst, (bnd (resR a b c d n (IntKind.wrap .i64 (IntKind.wrap .i64 (n - plLv i n) + 1))).fst (resR a b c d n (IntKind.wrap .i64 (IntKind.wrap .i64 (n - plLv i n) + 1))).snd.fst (resR a b c d n (IntKind.wrap .i64 (IntKind.wrap .i64 (n - plLv i n) + 1))).snd.snd.fst (resR a b c d n (IntKind.wrap .i64 (IntKind.wrap .i64 (n - plLv i n) + 1))).snd.snd.snd 2).snd.fst, (bnd (resR a b c d n (IntKind.wrap .i64 (IntKind.wrap .i64 (n - plLv i n) + 1))).fst (resR a b c d n (IntKind.wrap .i64 (IntKind.wrap .i64 (n - plLv i n) + 1))).snd.fst (resR a b c d n (IntKind.wrap .i64 (IntKind.wrap .i64 (n - plLv i n) + 1))).snd.snd.fst (resR a b c d n (IntKind.wrap .i64 (IntKind.wrap .i64 (n - plLv i n) + 1))).snd.snd.snd 3).snd.fst] (Int.toNat (plOr i n))), .int .i64 (gI [(bnd (resR a b c d n (IntKind.wrap .i64 (IntKind.wrap .i64 (n - plLv i n) + 1))).fst (resR a b c d n (IntKind.wrap .i64 (IntKind.wrap .i64 (n - plLv i n) + 1))).snd.fst (resR a b c d n (IntKind.wrap .i64 (IntKind.wrap .i64 (n - plLv i n) + 1))).snd.snd.fst (resR a b c d n (IntKind.wrap .i64 (IntKind.wrap .i64 (n - plLv i n) + 1))).snd.snd.snd 0).snd.snd.fst, (bnd (resR a b c d n (IntKind.wrap .i64 (IntKind.wrap .i64 (n - plLv i n) + 1))).fst (resR a b c d n (IntKind.wrap .i64 (IntKind.wrap .i64 (n - plLv i n) + 1))).snd.fst (resR a b c d n (IntKind.wrap .i64 (IntKind.wrap .i64 (n - plLv i n) + 1))).snd.snd.fst (resR a b c d n (IntKind.wrap .i64 (IntKind.wrap .i64 (n - plLv i n) + 1))).snd.snd.snd 1).snd.snd.fst, (bnd (resR a b c d n (IntKind.wrap .i64 (IntKind.wrap .i64 (n - plLv i n) + 1))).fst (resR a b c d n (IntKind.wrap .i64 (IntKind.wrap .i64 (n - plLv i n) + 1))).snd.fst (resR a b c d n (IntKind.wrap .i64 (IntKind.wrap .i64 (n - plLv i n) + 1))).snd.snd.fst (resR a b c d n (IntKind.wrap .i64 (IntKind.wrap .i64 (n - plLv i n) + 1))).snd.snd.snd 2).snd.snd.fst, (bnd (resR a b c d n (IntKind.wrap .i64 (IntKind.wrap .i64 (n - plLv i n) + 1))).fst (resR a b c d n (IntKind.wrap .i64 (IntKind.wrap .i64 (n - plLv i n) + 1))).snd.fst (resR a b c d n (IntKind.wrap .i64 (IntKind.wrap .i64 (n - plLv i n) + 1))).snd.snd.fst (resR a b c d n (IntKind.wrap .i64 (IntKind.wrap .i64 (n - plLv i n) + 1))).snd.snd.snd 3).snd.snd.fst] (Int.toNat (plOr i n))), .int .i64 (gI [(bnd (resR a b c d n (IntKind.wrap .i64 (IntKind.wrap .i64 (n - plLv i n) + 1))).fst (resR a b c d n (IntKind.wrap .i64 (IntKind.wrap .i64 (n - plLv i n) + 1))).snd.fst (resR a b c d n (IntKind.wrap .i64 (IntKind.wrap .i64 (n - plLv i n) + 1))).snd.snd.fst (resR a b c d n (IntKind.wrap .i64 (IntKind.wrap .i64 (n - plLv i n) + 1))).snd.snd.snd 0).snd.snd.snd, (bnd (resR a b c d n (IntKind.wrap .i64 (IntKind.wrap .i64 (n - plLv i n) + 1))).fst (resR a b c d n (IntKind.wrap .i64 (IntKind.wrap .i64 (n - plLv i n) + 1))).snd.fst (resR a b c d n (IntKind.wrap .i64 (IntKind.wrap .i64 (n - plLv i n) + 1))).snd.snd.fst (resR a b c d n (IntKind.wrap .i64 (IntKind.wrap .i64 (n - plLv i n) + 1))).snd.snd.snd 1).snd.snd.snd, (bnd (resR a b c d n (IntKind.wrap .i64 (IntKind.wrap .i64 (n - plLv i n) + 1))).fst (resR a b c d n (IntKind.wrap .i64 (IntKind.wrap .i64 (n - plLv i n) + 1))).snd.fst (resR a b c d n (IntKind.wrap .i64 (IntKind.wrap .i64 (n - plLv i n) + 1))).snd.snd.fst (resR a b c d n (IntKind.wrap .i64 (IntKind.wrap .i64 (n - plLv i n) + 1))).snd.snd.snd 2).snd.snd.snd, (bnd (resR a b c d n (IntKind.wrap .i64 (IntKind.wrap .i64 (n - plLv i n) + 1))).fst (resR a b c d n (IntKind.wrap .i64 (IntKind.wrap .i64 (n - plLv i n) + 1))).snd.fst (resR a b c d n (IntKind.wrap .i64 (IntKind.wrap .i64 (n - plLv i n) + 1))).snd.snd.fst (resR a b c d n (IntKind.wrap .i64 (IntKind.wrap .i64 (n - plLv i n) + 1))).snd.snd.snd 3).snd.snd.snd] (Int.toNat (plOr i n)))], [], []⟩)
        none)))) := by kernel_rfl
def t_ref06_Band : FuncId → Option Summ := tabOf [(62, G_ref01_Valid), (72, G_ref06_Resolution), (78, G_ref06_Place), (96, G_ref05_Bands)]
def l_ref06_Band : Nat → Option LSumm := ltOf []
theorem e_ref06_Band (a b c d n i : Int) : funR Try.prog t_ref06_Band (annOf []) l_ref06_Band 20 Try.f80 [.agg [.int .i64 a, .int .i64 b, .int .i64 c, .int .i64 d], .one (.int .i64 n), .one (.int .i64 i)] [] =
  (ite2 (!plOk i n)
  (some ⟨.agg [.int .i64 0, .int .i64 0, .int .i64 0, .int .i64 0], [], []⟩)
  (ite2 (!valid a b c d)
    (some ⟨.agg [.int .i64 0, .int .i64 0, .int .i64 0, .int .i64 0], [], []⟩)
    (ite2 (i == 0)
      (some ⟨.agg [.int .i64 (resR a b c d n 0).fst, .int .i64 (resR a b c d n 0).snd.fst, .int .i64 (resR a b c d n 0).snd.snd.fst, .int .i64 (resR a b c d n 0).snd.snd.snd], [], []⟩)
      (ite2 (decide (0 ≤ plOr i n ∧ plOr i n < 4))
        (some ⟨.agg [.int .i64 (gI [(bnd (resR a b c d n (IntKind.wrap .i64 (IntKind.wrap .i64 (n - plLv i n) + 1))).fst (resR a b c d n (IntKind.wrap .i64 (IntKind.wrap .i64 (n - plLv i n) + 1))).snd.fst (resR a b c d n (IntKind.wrap .i64 (IntKind.wrap .i64 (n - plLv i n) + 1))).snd.snd.fst (resR a b c d n (IntKind.wrap .i64 (IntKind.wrap .i64 (n - plLv i n) + 1))).snd.snd.snd 0).fst, (bnd (resR a b c d n (IntKind.wrap .i64 (IntKind.wrap .i64 (n - plLv i n) + 1))).fst (resR a b c d n (IntKind.wrap .i64 (IntKind.wrap .i64 (n - plLv i n) + 1))).snd.fst (resR a b c d n (IntKind.wrap .i64 (IntKind.wrap .i64 (n - plLv i n) + 1))).snd.snd.fst (resR a b c d n (IntKind.wrap .i64 (IntKind.wrap .i64 (n - plLv i n) + 1))).snd.snd.snd 1).fst, (bnd (resR a b c d n (IntKind.wrap .i64 (IntKind.wrap .i64 (n - plLv i n) + 1))).fst (resR a b c d n (IntKind.wrap .i64 (IntKind.wrap .i64 (n - plLv i n) + 1))).snd.fst (resR a b c d n (IntKind.wrap .i64 (IntKind.wrap .i64 (n - plLv i n) + 1))).snd.snd.fst (resR a b c d n (IntKind.wrap .i64 (IntKind.wrap .i64 (n - plLv i n) + 1))).snd.snd.snd 2).fst, (bnd (resR a b c d n (IntKind.wrap .i64 (IntKind.wrap .i64 (n - plLv i n) + 1))).fst (resR a b c d n (IntKind.wrap .i64 (IntKind.wrap .i64 (n - plLv i n) + 1))).snd.fst (resR a b c d n (IntKind.wrap .i64 (IntKind.wrap .i64 (n - plLv i n) + 1))).snd.snd.fst (resR a b c d n (IntKind.wrap .i64 (IntKind.wrap .i64 (n - plLv i n) + 1))).snd.snd.snd 3).fst] (Int.toNat (plOr i n))), .int .i64 (gI [(bnd (resR a b c d n (IntKind.wrap .i64 (IntKind.wrap .i64 (n - plLv i n) + 1))).fst (resR a b c d n (IntKind.wrap .i64 (IntKind.wrap .i64 (n - plLv i n) + 1))).snd.fst (resR a b c d n (IntKind.wrap .i64 (IntKind.wrap .i64 (n - plLv i n) + 1))).snd.snd.fst (resR a b c d n (IntKind.wrap .i64 (IntKind.wrap .i64 (n - plLv i n) + 1))).snd.snd.snd 0).snd.fst, (bnd (resR a b c d n (IntKind.wrap .i64 (IntKind.wrap .i64 (n - plLv i n) + 1))).fst (resR a b c d n (IntKind.wrap .i64 (IntKind.wrap .i64 (n - plLv i n) + 1))).snd.fst (resR a b c d n (IntKind.wrap .i64 (IntKind.wrap .i64 (n - plLv i n) + 1))).snd.snd.fst (resR a b c d n (IntKind.wrap .i64 (IntKind.wrap .i64 (n - plLv i n) + 1))).snd.snd.snd 1).snd.fst, (bnd (resR a b c d n (IntKind.wrap .i64 (IntKind.wrap .i64 (n - plLv i n) + 1))).fst (resR a b c d n (IntKind.wrap .i64 (IntKind.wrap .i64 (n - plLv i n) + 1))).snd.fst (resR a b c d n (IntKind.wrap .i64 (IntKind.wrap .i64 (n - plLv i n) + 1))).snd.snd.fst (resR a b c d n (IntKind.wrap .i64 (IntKind.wrap .i64 (n - plLv i n) + 1))).snd.snd.snd 2).snd.fst, (bnd (resR a b c d n (IntKind.wrap .i64 (IntKind.wrap .i64 (n - plLv i n) + 1))).fst (resR a b c d n (IntKind.wrap .i64 (IntKind.wrap .i64 (n - plLv i n) + 1))).snd.fst (resR a b c d n (IntKind.wrap .i64 (IntKind.wrap .i64 (n - plLv i n) + 1))).snd.snd.fst (resR a b c d n (IntKind.wrap .i64 (IntKind.wrap .i64 (n - plLv i n) + 1))).snd.snd.snd 3).snd.fst] (Int.toNat (plOr i n))), .int .i64 (gI [(bnd (resR a b c d n (IntKind.wrap .i64 (IntKind.wrap .i64 (n - plLv i n) + 1))).fst (resR a b c d n (IntKind.wrap .i64 (IntKind.wrap .i64 (n - plLv i n) + 1))).snd.fst (resR a b c d n (IntKind.wrap .i64 (IntKind.wrap .i64 (n - plLv i n) + 1))).snd.snd.fst (resR a b c d n (IntKind.wrap .i64 (IntKind.wrap .i64 (n - plLv i n) + 1))).snd.snd.snd 0).snd.snd.fst, (bnd (resR a b c d n (IntKind.wrap .i64 (IntKind.wrap .i64 (n - plLv i n) + 1))).fst (resR a b c d n (IntKind.wrap .i64 (IntKind.wrap .i64 (n - plLv i n) + 1))).snd.fst (resR a b c d n (IntKind.wrap .i64 (IntKind.wrap .i64 (n - plLv i n) + 1))).snd.snd.fst (resR a b c d n (IntKind.wrap .i64 (IntKind.wrap .i64 (n - plLv i n) + 1))).snd.snd.snd 1).snd.snd.fst, (bnd (resR a b c d n (IntKind.wrap .i64 (IntKind.wrap .i64 (n - plLv i n) + 1))).fst (resR a b c d n (IntKind.wrap .i64 (IntKind.wrap .i64 (n - plLv i n) + 1))).snd.fst (resR a b c d n (IntKind.wrap .i64 (IntKind.wrap .i64 (n - plLv i n) + 1))).snd.snd.fst (resR a b c d n (IntKind.wrap .i64 (IntKind.wrap .i64 (n - plLv i n) + 1))).snd.snd.snd 2).snd.snd.fst, (bnd (resR a b c d n (IntKind.wrap .i64 (IntKind.wrap .i64 (n - plLv i n) + 1))).fst (resR a b c d n (IntKind.wrap .i64 (IntKind.wrap .i64 (n - plLv i n) + 1))).snd.fst (resR a b c d n (IntKind.wrap .i64 (IntKind.wrap .i64 (n - plLv i n) + 1))).snd.snd.fst (resR a b c d n (IntKind.wrap .i64 (IntKind.wrap .i64 (n - plLv i n) + 1))).snd.snd.snd 3).snd.snd.fst] (Int.toNat (plOr i n))), .int .i64 (gI [(bnd (resR a b c d n (IntKind.wrap .i64 (IntKind.wrap .i64 (n - plLv i n) + 1))).fst (resR a b c d n (IntKind.wrap .i64 (IntKind.wrap .i64 (n - plLv i n) + 1))).snd.fst (resR a b c d n (IntKind.wrap .i64 (IntKind.wrap .i64 (n - plLv i n) + 1))).snd.snd.fst (resR a b c d n (IntKind.wrap .i64 (IntKind.wrap .i64 (n - plLv i n) + 1))).snd.snd.snd 0).snd.snd.snd, (bnd (resR a b c d n (IntKind.wrap .i64 (IntKind.wrap .i64 (n - plLv i n) + 1))).fst (resR a b c d n (IntKind.wrap .i64 (IntKind.wrap .i64 (n - plLv i n) + 1))).snd.fst (resR a b c d n (IntKind.wrap .i64 (IntKind.wrap .i64 (n - plLv i n) + 1))).snd.snd.fst (resR a b c d n (IntKind.wrap .i64 (IntKind.wrap .i64 (n - plLv i n) + 1))).snd.snd.snd 1).snd.snd.snd, (bnd (resR a b c d n (IntKind.wrap .i64 (IntKind.wrap .i64 (n - plLv i n) + 1))).fst (resR a b c d n (IntKind.wrap .i64 (IntKind.wrap .i64 (n - plLv i n) + 1))).snd.fst (resR a b c d n (IntKind.wrap .i64 (IntKind.wrap .i64 (n - plLv i n) + 1))).snd.snd.fst (resR a b c d n (IntKind.wrap .i64 (IntKind.wrap .i64 (n - plLv i n) + 1))).snd.snd.snd 2).snd.snd.snd, (bnd (resR a b c d n (IntKind.wrap .i64 (IntKind.wrap .i64 (n - plLv i n) + 1))).fst (resR a b c d n (IntKind.wrap .i64 (IntKind.wrap .i64 (n - plLv i n) + 1))).snd.fst (resR a b c d n (IntKind.wrap .i64 (IntKind.wrap .i64 (n - plLv i n) + 1))).snd.snd.fst (resR a b c d n (IntKind.wrap .i64 (IntKind.wrap .i64 (n - plLv i n) + 1))).snd.snd.snd 3).snd.snd.snd] (Int.toNat (plOr i n)))], [], []⟩)
        none)))) := by kernel_rfl
def t_params_cells : FuncId → Option Summ := tabOf [(58, G_rect_Empty), (60, G_rect_CeilDiv), (61, G_rect_FloorDiv)]
def l_params_cells : Nat → Option LSumm := ltOf []
theorem e_params_cells (a b c d x y : Int) : funR Try.prog t_params_cells (annOf []) l_params_cells 20 Try.f84 [.agg [.int .i64 a, .int .i64 b, .int .i64 c, .int .i64 d], .one (.int .i64 x), .one (.int .i64 y)] [] =
  (ite2 (empty a b c d)
  (some ⟨.one (.int .i64 0), [], []⟩)
  (ite2 (decide (0 ≤ IntKind.wrap IntKind.u64 x))
    (ite2 (decide (0 ≤ IntKind.wrap IntKind.u64 y))
      (some ⟨.one (.int .i64 (IntKind.wrap .i64 (IntKind.wrap .i64 (cdiv c (IntKind.wrap .i64 (1 * 2 ^ min (Int.toNat (IntKind.wrap IntKind.u64 x)) 64)) - fdiv a (IntKind.wrap .i64 (1 * 2 ^ min (Int.toNat (IntKind.wrap IntKind.u64 x)) 64))) * IntKind.wrap .i64 (cdiv d (IntKind.wrap .i64 (1 * 2 ^ min (Int.toNat (IntKind.wrap IntKind.u64 y)) 64)) - fdiv b (IntKind.wrap .i64 (1 * 2 ^ min (Int.toNat (IntKind.wrap IntKind.u64 y)) 64)))))), [], []⟩)
      none)
    none)) := by kernel_rfl
def t_ref23_Grid : FuncId → Option Summ := tabOf [(63, G_ref01_Empty), (67, G_ref01_FloorDiv), (68, G_ref01_CeilDiv)]
def l_ref23_Grid : Nat → Option LSumm := ltOf []
theorem e_ref23_Grid (a b c d x y : Int) : funR Try.prog t_ref23_Grid (annOf []) l_ref23_Grid 20 Try.f75 [.agg [.int .i64 a, .int .i64 b, .int .i64 c, .int .i64 d], .one (.int .i64 x), .one (.int .i64 y)] [] =
  (ite2 (empty a b c d)
  (some ⟨.one (.int .i64 0), [], []⟩)
  (ite2 (decide (0 ≤ x))
    (ite2 (decide (0 ≤ x))
      (ite2 (decide (0 ≤ y))
        (ite2 (decide (0 ≤ y))
          (some ⟨.one (.int .i64 (IntKind.wrap .i64 (IntKind.wrap .i64 (cdiv c (IntKind.wrap .i64 (1 * 2 ^ min (Int.toNat x) 64)) - fdiv a (IntKind.wrap .i64 (1 * 2 ^ min (Int.toNat x) 64))) * IntKind.wrap .i64 (cdiv d (IntKind.wrap .i64 (1 * 2 ^ min (Int.toNat y) 64)) - fdiv b (IntKind.wrap .i64 (1 * 2 ^ min (Int.toNat y) 64)))))), [], []⟩)
          none)
        none)
      none)
    none)) := by kernel_rfl
end
end Go.Rx.Ch24

set_option linter.unusedVariables false
set_option maxRecDepth 100000
set_option maxHeartbeats 4000000
open Go Go.Rx Go.Proofs
namespace Go.Rx.Ch24
noncomputable section
def t_rect_Cells : FuncId → Option Summ := tabOf [(56, G_rect_Valid), (58, G_rect_Empty), (59, G_rect_Intersect), (60, G_rect_CeilDiv), (61, G_rect_FloorDiv)]
def l_rect_Cells : Nat → Option LSumm := ltOf [(9, ⟨0, 86, [1, 2, 3, 7, 8, 10, 11, 12], (kxOf [11] [6]), S_rect_Cells_0⟩), (12, ⟨0, 86, [1, 2, 3, 7, 8, 10, 11, 12, 13], (kxOf [1, 2, 3, 7, 8, 10, 11, 12] [6]), S_rect_Cells_1⟩)]
theorem e_rect_Cells (a b c d w h : Int) : funR Try.prog t_rect_Cells (annOf []) l_rect_Cells 20 Try.f34 [.agg [.int .i64 a, .int .i64 b, .int .i64 c, .int .i64 d], .one (.int .i64 w), .one (.int .i64 h)] [] =
  (ite2 (!valid a b c d)
  (some ⟨V.one (C.row 0), [], [Blk.arr 23 (Sh.pair (Sh.int .i64) (Sh.pair (Sh.int .i64) (Sh.pair (Sh.int .i64) (Sh.int .i64)))) ([] : List (Int × Int × Int × Int))]⟩)
  (ite2 (empty a b c d)
    (some ⟨V.one (C.row 0), [], [Blk.arr 23 (Sh.pair (Sh.int .i64) (Sh.pair (Sh.int .i64) (Sh.pair (Sh.int .i64) (Sh.int .i64)))) ([] : List (Int × Int × Int × Int))]⟩)
    (ite2 (decide (w < 1))
      (some ⟨V.one (C.row 0), [], [Blk.arr 23 (Sh.pair (Sh.int .i64) (Sh.pair (Sh.int .i64) (Sh.pair (Sh.int .i64) (Sh.int .i64)))) ([] : List (Int × Int × Int × Int))]⟩)
      (ite2 (decide (h < 1))
        (some ⟨V.one (C.row 0), [], [Blk.arr 23 (Sh.pair (Sh.int .i64) (Sh.pair (Sh.int .i64) (Sh.pair (Sh.int .i64) (Sh.int .i64)))) ([] : List (Int × Int × Int × Int))]⟩)
        (ite2 (decide (IntKind.wrap .i64 (IntKind.wrap .i64 (cdiv c w - fdiv a w) * IntKind.wrap .i64 (cdiv d h - fdiv b h)) > 65536))
          (some ⟨V.one (C.row 0), [], [Blk.arr 23 (Sh.pair (Sh.int .i64) (Sh.pair (Sh.int .i64) (Sh.pair (Sh.int .i64) (Sh.int .i64)))) ([] : List (Int × Int × Int × Int))]⟩)
          (ite2 (k_rect_Cells_0 a b c d w h (fdiv a w) (cdiv c w) (cdiv d h) (fdiv b h) [])
            (some ⟨V.one (C.row 0), [], [Blk.arr 23 (Sh.pair (Sh.int .i64) (Sh.pair (Sh.int .i64) (Sh.pair (Sh.int .i64) (Sh.int .i64)))) ([] ++ gridL a b c d w h (fdiv a w) (Int.toNat (cdiv c w - fdiv a w)) (Int.toNat (cdiv d h - fdiv b h)) (fdiv b h))]⟩)
            none)))))) := by kernel_rfl
def U_rect_Cells_0 (a b c d w h l g u j : Int) (t : List Rc) : LT :=
  (.br (decide (j < u))
    (.br (k_rect_Cells_1 a b c d w h l g u j l t)
      (.leaf Ex.normal [.one (.int .i64 w), .one (.int .i64 h), V.one (C.ptr 0 0), .one (.int .i64 l), .one (.int .i64 g), .one (.int .i64 u), V.one (C.row 1), .one (.int .i64 (IntKind.wrap .i64 (j + 1)))] [some (Blk.box [.int .i64 a, .int .i64 b, .int .i64 c, .int .i64 d]), some (Blk.arr 23 (Sh.pair (Sh.int .i64) (Sh.pair (Sh.int .i64) (Sh.pair (Sh.int .i64) (Sh.int .i64)))) (t ++ rowL a b c d w h j (Int.toNat (g - l)) l))])
      .no)
    (.leaf (Ex.exit 0) [V.one (C.row 0)] [some (Blk.arr 23 (Sh.pair (Sh.int .i64) (Sh.pair (Sh.int .i64) (Sh.pair (Sh.int .i64) (Sh.int .i64)))) t)]))
def T_rect_Cells_0 : List V → List (Option Blk) → LT := fun vs bl => (pO vs fun c' vs => kI c' fun w => pO vs fun c' vs => kI c' fun h => pO vs fun c' vs => kP 0 0 c' <| pO vs fun c' vs => kI c' fun l => pO vs fun c' vs => kI c' fun g => pO vs fun c' vs => kI c' fun u => pO vs fun c' vs => kR 1 c' <| pO vs fun c' vs => kI c' fun j => pE vs <| bB bl fun q' bl => tC q' fun c' q' => kI c' fun a => tC q' fun c' q' => kI c' fun b => tC q' fun c' q' => kI c' fun c => tC q' fun c' q' => kI c' fun d => tE q' <| bAR 23 bl fun t bl => bE bl <| some (U_rect_Cells_0 a b c d w h l g u j t)).getD .no
theorem tu_rect_Cells_0 (a b c d w h l g u j : Int) (t : List Rc) : T_rect_Cells_0 [.one (.int .i64 w), .one (.int .i64 h), .one (.ptr 0 0), .one (.int .i64 l), .one (.int .i64 g), .one (.int .i64 u), .one (.row 1), .one (.int .i64 j)] [some (.box [.int .i64 a, .int .i64 b, .int .i64 c, .int .i64 d]), some (.arr 23 (.pair (.int .i64) (.pair (.int .i64) (.pair (.int .i64) (.int .i64)))) t)] = U_rect_Cells_0 a b c d w h l g u j t := by kernel_rfl
theorem b_rect_Cells_0 (a b c d w h l g u j : Int) (t : List Rc) (Kc : Ex → Option (List V × List (Option Blk)) → Option Out) : exec Try.prog t_rect_Cells (annOf []) l_rect_Cells 20 0 (loopOf Try.f34 0) (unp 86 [1, 2, 3, 7, 8, 10, 11, 12] [.one (.int .i64 w), .one (.int .i64 h), .one (.ptr 0 0), .one (.int .i64 l), .one (.int .i64 g), .one (.int .i64 u), .one (.row 1), .one (.int .i64 j)] [some (.box [.int .i64 a, .int .i64 b, .int .i64 c, .int .i64 d]), some (.arr 23 (.pair (.int .i64) (.pair (.int .i64) (.pair (.int .i64) (.int .i64)))) t)]) (endc 0 86 [1, 2, 3, 7, 8, 10, 11, 12] (kxOf [11] [6]) Kc) =
  (T_rect_Cells_0 [.one (.int .i64 w), .one (.int .i64 h), .one (.ptr 0 0), .one (.int .i64 l), .one (.int .i64 g), .one (.int .i64 u), .one (.row 1), .one (.int .i64 j)] [some (.box [.int .i64 a, .int .i64 b, .int .i64 c, .int .i64 d]), some (.arr 23 (.pair (.int .i64) (.pair (.int .i64) (.pair (.int .i64) (.int .i64)))) t)]).runc Kc := by kernel_rfl
def U_rect_Cells_1 (a b c d w h l g u j i : Int) (t : List Rc) : LT :=
  (.br (decide (i < g))
    (.br (decide ((List.length t + List.length [((inter a b c d (IntKind.wrap .i64 (i * w)) (IntKind.wrap .i64 (j * h)) (IntKind.wrap .i64 (IntKind.wrap .i64 (i + 1) * w)) (IntKind.wrap .i64 (IntKind.wrap .i64 (j + 1) * h))).fst, (inter a b c d (IntKind.wrap .i64 (i * w)) (IntKind.wrap .i64 (j * h)) (IntKind.wrap .i64 (IntKind.wrap .i64 (i + 1) * w)) (IntKind.wrap .i64 (IntKind.wrap .i64 (j + 1) * h))).snd.fst, (inter a b c d (IntKind.wrap .i64 (i * w)) (IntKind.wrap .i64 (j * h)) (IntKind.wrap .i64 (IntKind.wrap .i64 (i + 1) * w)) (IntKind.wrap .i64 (IntKind.wrap .i64 (j + 1) * h))).snd.snd.fst, (inter a b c d (IntKind.wrap .i64 (i * w)) (IntKind.wrap .i64 (j * h)) (IntKind.wrap .i64 (IntKind.wrap .i64 (i + 1) * w)) (IntKind.wrap .i64 (IntKind.wrap .i64 (j + 1) * h))).snd.snd.snd)]) * 33 ≤ 140737488355328))
      (.leaf Ex.normal [.one (.int .i64 w), .one (.int .i64 h), V.one (C.ptr 0 0), .one (.int .i64 l), .one (.int .i64 g), .one (.int .i64 u), V.one (C.row 1), .one (.int .i64 j), .one (.int .i64 (IntKind.wrap .i64 (i + 1)))] [some (Blk.box [.int .i64 a, .int .i64 b, .int .i64 c, .int .i64 d]), some (Blk.arr 23 (Sh.pair (Sh.int .i64) (Sh.pair (Sh.int .i64) (Sh.pair (Sh.int .i64) (Sh.int .i64)))) (t ++ [((inter a b c d (IntKind.wrap .i64 (i * w)) (IntKind.wrap .i64 (j * h)) (IntKind.wrap .i64 (IntKind.wrap .i64 (i + 1) * w)) (IntKind.wrap .i64 (IntKind.wrap .i64 (j + 1) * h))).fst, (inter a b c d (IntKind.wrap .i64 (i * w)) (IntKind.wrap .i64 (j * h)) (IntKind.wrap .i64 (IntKind.wrap .i64 (i + 1) * w)) (IntKind.wrap .i64 (IntKind.wrap .i64 (j + 1) * h))).snd.fst, (inter a b c d (IntKind.wrap .i64 (i * w)) (IntKind.wrap .i64 (j * h)) (IntKind.wrap .i64 (IntKind.wrap .i64 (i + 1) * w)) (IntKind.wrap .i64 (IntKind.wrap .i64 (j + 1) * h))).snd.snd.fst, (inter a b c d (IntKind.wrap .i64 (i * w)) (IntKind.wrap .i64 (j * h)) (IntKind.wrap .i64 (IntKind.wrap .i64 (i + 1) * w)) (IntKind.wrap .i64 (IntKind.wrap .i64 (j + 1) * h))).snd.snd.snd)]))])
      .no)
    (.leaf (Ex.exit 2) [.one (.int .i64 w), .one (.int .i64 h), V.one (C.ptr 0 0), .one (.int .i64 l), .one (.int .i64 g), .one (.int .i64 u), V.one (C.row 1), .one (.int .i64 j)] [some (Blk.box [.int .i64 a, .int .i64 b, .int .i64 c, .int .i64 d]), some (Blk.arr 23 (Sh.pair (Sh.int .i64) (Sh.pair (Sh.int .i64) (Sh.pair (Sh.int .i64) (Sh.int .i64)))) t)]))
def T_rect_Cells_1 : List V → List (Option Blk) → LT := fun vs bl => (pO vs fun c' vs => kI c' fun w => pO vs fun c' vs => kI c' fun h => pO vs fun c' vs => kP 0 0 c' <| pO vs fun c' vs => kI c' fun l => pO vs fun c' vs => kI c' fun g => pO vs fun c' vs => kI c' fun u => pO vs fun c' vs => kR 1 c' <| pO vs fun c' vs => kI c' fun j => pO vs fun c' vs => kI c' fun i => pE vs <| bB bl fun q' bl => tC q' fun c' q' => kI c' fun a => tC q' fun c' q' => kI c' fun b => tC q' fun c' q' => kI c' fun c => tC q' fun c' q' => kI c' fun d => tE q' <| bAR 23 bl fun t bl => bE bl <| some (U_rect_Cells_1 a b c d w h l g u j i t)).getD .no
theorem tu_rect_Cells_1 (a b c d w h l g u j i : Int) (t : List Rc) : T_rect_Cells_1 [.one (.int .i64 w), .one (.int .i64 h), .one (.ptr 0 0), .one (.int .i64 l), .one (.int .i64 g), .one (.int .i64 u), .one (.row 1), .one (.int .i64 j), .one (.int .i64 i)] [some (.box [.int .i64 a, .int .i64 b, .int .i64 c, .int .i64 d]), some (.arr 23 (.pair (.int .i64) (.pair (.int .i64) (.pair (.int .i64) (.int .i64)))) t)] = U_rect_Cells_1 a b c d w h l g u j i t := by kernel_rfl
theorem b_rect_Cells_1 (a b c d w h l g u j i : Int) (t : List Rc) (Kc : Ex → Option (List V × List (Option Blk)) → Option Out) : exec Try.prog t_rect_Cells (annOf []) l_rect_Cells 20 0 (loopOf Try.f34 1) (unp 86 [1, 2, 3, 7, 8, 10, 11, 12, 13] [.one (.int .i64 w), .one (.int .i64 h), .one (.ptr 0 0), .one (.int .i64 l), .one (.int .i64 g), .one (.int .i64 u), .one (.row 1), .one (.int .i64 j), .one (.int .i64 i)] [some (.box [.int .i64 a, .int .i64 b, .int .i64 c, .int .i64 d]), some (.arr 23 (.pair (.int .i64) (.pair (.int .i64) (.pair (.int .i64) (.int .i64)))) t)]) (endc 0 86 [1, 2, 3, 7, 8, 10, 11, 12, 13] (kxOf [1, 2, 3, 7, 8, 10, 11, 12] [6]) Kc) =
  (T_rect_Cells_1 [.one (.int .i64 w), .one (.int .i64 h), .one (.ptr 0 0), .one (.int .i64 l), .one (.int .i64 g), .one (.int .i64 u), .one (.row 1), .one (.int .i64 j), .one (.int .i64 i)] [some (.box [.int .i64 a, .int .i64 b, .int .i64 c, .int .i64 d]), some (.arr 23 (.pair (.int .i64) (.pair (.int .i64) (.pair (.int .i64) (.int .i64)))) t)]).runc Kc := by kernel_rfl
def t_ref01_Cells : FuncId → Option Summ := tabOf [(62, G_ref01_Valid), (63, G_ref01_Empty), (67, G_ref01_FloorDiv), (68, G_ref01_CeilDiv), (69, G_ref01_Intersect)]
def l_ref01_Cells : Nat → Option LSumm := ltOf [(11, ⟨0, 88, [1, 2, 3, 7, 8, 10, 11, 12], (kxOf [11] [6]), S_ref01_Cells_0⟩), (14, ⟨0, 88, [1, 2, 3, 7, 8, 10, 11, 12, 13], (kxOf [1, 2, 3, 7, 8, 10, 11, 12] [6]), S_ref01_Cells_1⟩)]
theorem e_ref01_Cells (a b c d w h : Int) : funR Try.prog t_ref01_Cells (annOf []) l_ref01_Cells 20 Try.f36 [.agg [.int .i64 a, .int .i64 b, .int .i64 c, .int .i64 d], .one (.int .i64 w), .one (.int .i64 h)] [] =
  (ite2 (!valid a b c d)
  (some ⟨V.one (C.row 0), [], [Blk.arr 23 (Sh.pair (Sh.int .i64) (Sh.pair (Sh.int .i64) (Sh.pair (Sh.int .i64) (Sh.int .i64)))) ([] : List (Int × Int × Int × Int))]⟩)
  (ite2 (empty a b c d)
    (some ⟨V.one (C.row 0), [], [Blk.arr 23 (Sh.pair (Sh.int .i64) (Sh.pair (Sh.int .i64) (Sh.pair (Sh.int .i64) (Sh.int .i64)))) ([] : List (Int × Int × Int × Int))]⟩)
    (ite2 (decide (w < 1))
      (some ⟨V.one (C.row 0), [], [Blk.arr 23 (Sh.pair (Sh.int .i64) (Sh.pair (Sh.int .i64) (Sh.pair (Sh.int .i64) (Sh.int .i64)))) ([] : List (Int × Int × Int × Int))]⟩)
      (ite2 (decide (h < 1))
        (some ⟨V.one (C.row 0), [], [Blk.arr 23 (Sh.pair (Sh.int .i64) (Sh.pair (Sh.int .i64) (Sh.pair (Sh.int .i64) (Sh.int .i64)))) ([] : List (Int × Int × Int × Int))]⟩)
        (ite2 (decide (IntKind.wrap .i64 (IntKind.wrap .i64 (cdiv c w - fdiv a w) * IntKind.wrap .i64 (cdiv d h - fdiv b h)) > 65536))
          (some ⟨V.one (C.row 0), [], [Blk.arr 23 (Sh.pair (Sh.int .i64) (Sh.pair (Sh.int .i64) (Sh.pair (Sh.int .i64) (Sh.int .i64)))) ([] : List (Int × Int × Int × Int))]⟩)
          (ite2 (k_ref01_Cells_0 a b c d w h (fdiv a w) (cdiv c w) (cdiv d h) (fdiv b h) [])
            (some ⟨V.one (C.row 0), [], [Blk.arr 23 (Sh.pair (Sh.int .i64) (Sh.pair (Sh.int .i64) (Sh.pair (Sh.int .i64) (Sh.int .i64)))) ([] ++ gridL a b c d w h (fdiv a w) (Int.toNat (cdiv c w - fdiv a w)) (Int.toNat (cdiv d h - fdiv b h)) (fdiv b h))]⟩)
            none)))))) := by kernel_rfl
def U_ref01_Cells_0 (a b c d w h l g u j : Int) (t : List Rc) : LT :=
  (.br (decide (j < u))
    (.br (k_ref01_Cells_1 a b c d w h l g u j l t)
      (.leaf Ex.normal [.one (.int .i64 w), .one (.int .i64 h), V.one (C.ptr 0 0), .one (.int .i64 l), .one (.int .i64 g), .one (.int .i64 u), V.one (C.row 1), .one (.int .i64 (IntKind.wrap .i64 (j + 1)))] [some (Blk.box [.int .i64 a, .int .i64 b, .int .i64 c, .int .i64 d]), some (Blk.arr 23 (Sh.pair (Sh.int .i64) (Sh.pair (Sh.int .i64) (Sh.pair (Sh.int .i64) (Sh.int .i64)))) (t ++ rowL a b c d w h j (Int.toNat (g - l)) l))])
      .no)
    (.leaf (Ex.exit 0) [V.one (C.row 0)] [some (Blk.arr 23 (Sh.pair (Sh.int .i64) (Sh.pair (Sh.int .i64) (Sh.pair (Sh.int .i64) (Sh.int .i64)))) t)]))
def T_ref01_Cells_0 : List V → List (Option Blk) → LT := fun vs bl => (pO vs fun c' vs => kI c' fun w => pO vs fun c' vs => kI c' fun h => pO vs fun c' vs => kP 0 0 c' <| pO vs fun c' vs => kI c' fun l => pO vs fun c' vs => kI c' fun g => pO vs fun c' vs => kI c' fun u => pO vs fun c' vs => kR 1 c' <| pO vs fun c' vs => kI c' fun j => pE vs <| bB bl fun q' bl => tC q' fun c' q' => kI c' fun a => tC q' fun c' q' => kI c' fun b => tC q' fun c' q' => kI c' fun c => tC q' fun c' q' => kI c' fun d => tE q' <| bAR 23 bl fun t bl => bE bl <| some (U_ref01_Cells_0 a b c d w h l g u j t)).getD .no
theorem tu_ref01_Cells_0 (a b c d w h l g u j : Int) (t : List Rc) : T_ref01_Cells_0 [.one (.int .i64 w), .one (.int .i64 h), .one (.ptr 0 0), .one (.int .i64 l), .one (.int .i64 g), .one (.int .i64 u), .one (.row 1), .one (.int .i64 j)] [some (.box [.int .i64 a, .int .i64 b, .int .i64 c, .int .i64 d]), some (.arr 23 (.pair (.int .i64) (.pair (.int .i64) (.pair (.int .i64) (.int .i64)))) t)] = U_ref01_Cells_0 a b c d w h l g u j t := by kernel_rfl
theorem b_ref01_Cells_0 (a b c d w h l g u j : Int) (t : List Rc) (Kc : Ex → Option (List V × List (Option Blk)) → Option Out) : exec Try.prog t_ref01_Cells (annOf []) l_ref01_Cells 20 0 (loopOf Try.f36 0) (unp 88 [1, 2, 3, 7, 8, 10, 11, 12] [.one (.int .i64 w), .one (.int .i64 h), .one (.ptr 0 0), .one (.int .i64 l), .one (.int .i64 g), .one (.int .i64 u), .one (.row 1), .one (.int .i64 j)] [some (.box [.int .i64 a, .int .i64 b, .int .i64 c, .int .i64 d]), some (.arr 23 (.pair (.int .i64) (.pair (.int .i64) (.pair (.int .i64) (.int .i64)))) t)]) (endc 0 88 [1, 2, 3, 7, 8, 10, 11, 12] (kxOf [11] [6]) Kc) =
  (T_ref01_Cells_0 [.one (.int .i64 w), .one (.int .i64 h), .one (.ptr 0 0), .one (.int .i64 l), .one (.int .i64 g), .one (.int .i64 u), .one (.row 1), .one (.int .i64 j)] [some (.box [.int .i64 a, .int .i64 b, .int .i64 c, .int .i64 d]), some (.arr 23 (.pair (.int .i64) (.pair (.int .i64) (.pair (.int .i64) (.int .i64)))) t)]).runc Kc := by kernel_rfl
def U_ref01_Cells_1 (a b c d w h l g u j i : Int) (t : List Rc) : LT :=
  (.br (decide (i < g))
    (.br (decide ((List.length t + List.length [((inter a b c d (IntKind.wrap .i64 (i * w)) (IntKind.wrap .i64 (j * h)) (IntKind.wrap .i64 (IntKind.wrap .i64 (i * w) + w)) (IntKind.wrap .i64 (IntKind.wrap .i64 (j * h) + h))).fst, (inter a b c d (IntKind.wrap .i64 (i * w)) (IntKind.wrap .i64 (j * h)) (IntKind.wrap .i64 (IntKind.wrap .i64 (i * w) + w)) (IntKind.wrap .i64 (IntKind.wrap .i64 (j * h) + h))).snd.fst, (inter a b c d (IntKind.wrap .i64 (i * w)) (IntKind.wrap .i64 (j * h)) (IntKind.wrap .i64 (IntKind.wrap .i64 (i * w) + w)) (IntKind.wrap .i64 (IntKind.wrap .i64 (j * h) + h))).snd.snd.fst, (inter a b c d (IntKind.wrap .i64 (i * w)) (IntKind.wrap .i64 (j * h)) (IntKind.wrap .i64 (IntKind.wrap .i64 (i * w) + w)) (IntKind.wrap .i64 (IntKind.wrap .i64 (j * h) + h))).snd.snd.snd)]) * 33 ≤ 140737488355328))
      (.leaf Ex.normal [.one (.int .i64 w), .one (.int .i64 h), V.one (C.ptr 0 0), .one (.int .i64 l), .one (.int .i64 g), .one (.int .i64 u), V.one (C.row 1), .one (.int .i64 j), .one (.int .i64 (IntKind.wrap .i64 (i + 1)))] [some (Blk.box [.int .i64 a, .int .i64 b, .int .i64 c, .int .i64 d]), some (Blk.arr 23 (Sh.pair (Sh.int .i64) (Sh.pair (Sh.int .i64) (Sh.pair (Sh.int .i64) (Sh.int .i64)))) (t ++ [((inter a b c d (IntKind.wrap .i64 (i * w)) (IntKind.wrap .i64 (j * h)) (IntKind.wrap .i64 (IntKind.wrap .i64 (i * w) + w)) (IntKind.wrap .i64 (IntKind.wrap .i64 (j * h) + h))).fst, (inter a b c d (IntKind.wrap .i64 (i * w)) (IntKind.wrap .i64 (j * h)) (IntKind.wrap .i64 (IntKind.wrap .i64 (i * w) + w)) (IntKind.wrap .i64 (IntKind.wrap .i64 (j * h) + h))).snd.fst, (inter a b c d (IntKind.wrap .i64 (i * w)) (IntKind.wrap .i64 (j * h)) (IntKind.wrap .i64 (IntKind.wrap .i64 (i * w) + w)) (IntKind.wrap .i64 (IntKind.wrap .i64 (j * h) + h))).snd.snd.fst, (inter a b c d (IntKind.wrap .i64 (i * w)) (IntKind.wrap .i64 (j * h)) (IntKind.wrap .i64 (IntKind.wrap .i64 (i * w) + w)) (IntKind.wrap .i64 (IntKind.wrap .i64 (j * h) + h))).snd.snd.snd)]))])
      .no)
    (.leaf (Ex.exit 2) [.one (.int .i64 w), .one (.int .i64 h), V.one (C.ptr 0 0), .one (.int .i64 l), .one (.int .i64 g), .one (.int .i64 u), V.one (C.row 1), .one (.int .i64 j)] [some (Blk.box [.int .i64 a, .int .i64 b, .int .i64 c, .int .i64 d]), some (Blk.arr 23 (Sh.pair (Sh.int .i64) (Sh.pair (Sh.int .i64) (Sh.pair (Sh.int .i64) (Sh.int .i64)))) t)]))
def T_ref01_Cells_1 : List V → List (Option Blk) → LT := fun vs bl => (pO vs fun c' vs => kI c' fun w => pO vs fun c' vs => kI c' fun h => pO vs fun c' vs => kP 0 0 c' <| pO vs fun c' vs => kI c' fun l => pO vs fun c' vs => kI c' fun g => pO vs fun c' vs => kI c' fun u => pO vs fun c' vs => kR 1 c' <| pO vs fun c' vs => kI c' fun j => pO vs fun c' vs => kI c' fun i => pE vs <| bB bl fun q' bl => tC q' fun c' q' => kI c' fun a => tC q' fun c' q' => kI c' fun b => tC q' fun c' q' => kI c' fun c => tC q' fun c' q' => kI c' fun d => tE q' <| bAR 23 bl fun t bl => bE bl <| some (U_ref01_Cells_1 a b c d w h l g u j i t)).getD .no
theorem tu_ref01_Cells_1 (a b c d w h l g u j i : Int) (t : List Rc) : T_ref01_Cells_1 [.one (.int .i64 w), .one (.int .i64 h), .one (.ptr 0 0), .one (.int .i64 l), .one (.int .i64 g), .one (.int .i64 u), .one (.row 1), .one (.int .i64 j), .one (.int .i64 i)] [some (.box [.int .i64 a, .int .i64 b, .int .i64 c, .int .i64 d]), some (.arr 23 (.pair (.int .i64) (.pair (.int .i64) (.pair (.int .i64) (.int .i64)))) t)] = U_ref01_Cells_1 a b c d w h l g u j i t := by kernel_rfl
theorem b_ref01_Cells_1 (a b c d w h l g u j i : Int) (t : List Rc) (Kc : Ex → Option (List V × List (Option Blk)) → Option Out) : exec Try.prog t_ref01_Cells (annOf []) l_ref01_Cells 20 0 (loopOf Try.f36 1) (unp 88 [1, 2, 3, 7, 8, 10, 11, 12, 13] [.one (.int .i64 w), .one (.int .i64 h), .one (.ptr 0 0), .one (.int .i64 l), .one (.int .i64 g), .one (.int .i64 u), .one (.row 1), .one (.int .i64 j), .one (.int .i64 i)] [some (.box [.int .i64 a, .int .i64 b, .int .i64 c, .int .i64 d]), some (.arr 23 (.pair (.int .i64) (.pair (.int .i64) (.pair (.int .i64) (.int .i64)))) t)]) (endc 0 88 [1, 2, 3, 7, 8, 10, 11, 12, 13] (kxOf [1, 2, 3, 7, 8, 10, 11, 12] [6]) Kc) =
  (T_ref01_Cells_1 [.one (.int .i64 w), .one (.int .i64 h), .one (.ptr 0 0), .one (.int .i64 l), .one (.int .i64 g), .one (.int .i64 u), .one (.row 1), .one (.int .i64 j), .one (.int .i64 i)] [some (.box [.int .i64 a, .int .i64 b, .int .i64 c, .int .i64 d]), some (.arr 23 (.pair (.int .i64) (.pair (.int .i64) (.pair (.int .i64) (.int .i64)))) t)]).runc Kc := by kernel_rfl
end
end Go.Rx.Ch24

