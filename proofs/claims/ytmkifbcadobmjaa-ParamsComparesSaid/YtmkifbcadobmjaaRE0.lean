/- Each function, run by the executor: an equation. -/
import Derived.Test.YtmkifbcadobmjaaRG
import Derived.Test.YtmkifbcadobmjaaProg
import Derived.KernelRfl
set_option linter.unnecessarySimpa false
set_option linter.unusedVariables false
set_option linter.unusedSimpArgs false
set_option linter.unusedVariables false
set_option maxRecDepth 100000
set_option maxHeartbeats 4000000
open Go Go.Rx Go.Proofs
namespace Go.Rx.Ch23
noncomputable section
def t_rect_Empty : FuncId → Option Summ := tabOf []
def l_rect_Empty : Nat → Option LSumm := ltOf []
theorem e_rect_Empty (a b c d : Int) : funR Try.prog t_rect_Empty (annOf []) l_rect_Empty 20 Try.f23 [.agg [.int .i64 a, .int .i64 b, .int .i64 c, .int .i64 d]] [] =
  (ite2 (decide (a ≥ c))
  (some ⟨.one (.bool true), [], []⟩)
  (some ⟨.one (.bool (decide (b ≥ d))), [], []⟩)) := by kernel_rfl
def t_rect_Valid : FuncId → Option Summ := tabOf []
def l_rect_Valid : Nat → Option LSumm := ltOf []
theorem e_rect_Valid (a b c d : Int) : funR Try.prog t_rect_Valid (annOf []) l_rect_Valid 20 Try.f32 [.agg [.int .i64 a, .int .i64 b, .int .i64 c, .int .i64 d]] [] =
  (ite2 (decide (0 ≤ a))
  (ite2 (decide (a ≤ c))
    (ite2 (decide (c ≤ 4096))
      (ite2 (decide (0 ≤ b))
        (ite2 (decide (b ≤ d))
          (some ⟨.one (.bool (decide (d ≤ 4096))), [], []⟩)
          (some ⟨.one (.bool false), [], []⟩))
        (some ⟨.one (.bool false), [], []⟩))
      (some ⟨.one (.bool false), [], []⟩))
    (some ⟨.one (.bool false), [], []⟩))
  (some ⟨.one (.bool false), [], []⟩)) := by kernel_rfl
def t_rect_CeilDiv : FuncId → Option Summ := tabOf []
def l_rect_CeilDiv : Nat → Option LSumm := ltOf []
theorem e_rect_CeilDiv (a b : Int) : funR Try.prog t_rect_CeilDiv (annOf []) l_rect_CeilDiv 20 Try.f34 [.one (.int .i64 a), .one (.int .i64 b)] [] =
  (ite2 (decide (b < 1))
  (some ⟨.one (.int .i64 0), [], []⟩)
  (ite2 (!decide (b = 0))
    (ite2 (!decide (b = 0))
      (ite2 (decide (Int.tmod a b > 0))
        (some ⟨.one (.int .i64 (IntKind.wrap .i64 (IntKind.wrap .i64 (Int.tdiv a b) + 1))), [], []⟩)
        (some ⟨.one (.int .i64 (IntKind.wrap .i64 (Int.tdiv a b))), [], []⟩))
      none)
    none)) := by kernel_rfl
def t_rect_FloorDiv : FuncId → Option Summ := tabOf []
def l_rect_FloorDiv : Nat → Option LSumm := ltOf []
theorem e_rect_FloorDiv (a b : Int) : funR Try.prog t_rect_FloorDiv (annOf []) l_rect_FloorDiv 20 Try.f35 [.one (.int .i64 a), .one (.int .i64 b)] [] =
  (ite2 (decide (b < 1))
  (some ⟨.one (.int .i64 0), [], []⟩)
  (ite2 (!decide (b = 0))
    (ite2 (!decide (b = 0))
      (ite2 (decide (Int.tmod a b < 0))
        (some ⟨.one (.int .i64 (IntKind.wrap .i64 (IntKind.wrap .i64 (Int.tdiv a b) - 1))), [], []⟩)
        (some ⟨.one (.int .i64 (IntKind.wrap .i64 (Int.tdiv a b))), [], []⟩))
      none)
    none)) := by kernel_rfl
def t_rect_Area : FuncId → Option Summ := tabOf [(32, G_rect_Valid)]
def l_rect_Area : Nat → Option LSumm := ltOf []
theorem e_rect_Area (a b c d : Int) : funR Try.prog t_rect_Area (annOf []) l_rect_Area 20 Try.f25 [.agg [.int .i64 a, .int .i64 b, .int .i64 c, .int .i64 d]] [] =
  (ite2 (!valid a b c d)
  (some ⟨.one (.int .i64 0), [], []⟩)
  (some ⟨.one (.int .i64 (IntKind.wrap .i64 (IntKind.wrap .i64 (c - a) * IntKind.wrap .i64 (d - b)))), [], []⟩)) := by kernel_rfl
def t_rect_Reduce : FuncId → Option Summ := tabOf [(32, G_rect_Valid), (34, G_rect_CeilDiv)]
def l_rect_Reduce : Nat → Option LSumm := ltOf []
theorem e_rect_Reduce (a b c d x y : Int) : funR Try.prog t_rect_Reduce (annOf []) l_rect_Reduce 20 Try.f26 [.agg [.int .i64 a, .int .i64 b, .int .i64 c, .int .i64 d], .one (.int .i64 x), .one (.int .i64 y)] [] =
  (ite2 (!valid a b c d)
  (some ⟨.agg [.int .i64 0, .int .i64 0, .int .i64 0, .int .i64 0], [], []⟩)
  (ite2 (decide (x < 1))
    (some ⟨.agg [.int .i64 0, .int .i64 0, .int .i64 0, .int .i64 0], [], []⟩)
    (ite2 (decide (x > 4096))
      (some ⟨.agg [.int .i64 0, .int .i64 0, .int .i64 0, .int .i64 0], [], []⟩)
      (ite2 (decide (y < 1))
        (some ⟨.agg [.int .i64 0, .int .i64 0, .int .i64 0, .int .i64 0], [], []⟩)
        (ite2 (decide (y > 4096))
          (some ⟨.agg [.int .i64 0, .int .i64 0, .int .i64 0, .int .i64 0], [], []⟩)
          (some ⟨.agg [.int .i64 (cdiv a x), .int .i64 (cdiv b y), .int .i64 (cdiv c x), .int .i64 (cdiv d y)], [], []⟩)))))) := by kernel_rfl
def t_rect_Intersect : FuncId → Option Summ := tabOf [(23, G_rect_Empty)]
def l_rect_Intersect : Nat → Option LSumm := ltOf []
theorem e_rect_Intersect (a b c d e f g h : Int) : funR Try.prog t_rect_Intersect (annOf []) l_rect_Intersect 20 Try.f55 [.agg [.int .i64 a, .int .i64 b, .int .i64 c, .int .i64 d], .agg [.int .i64 e, .int .i64 f, .int .i64 g, .int .i64 h]] [] =
  (ite2 (empty (if e > a then e else a) (if f > b then f else b) (if g < c then g else c) (if h < d then h else d))
  (some ⟨.agg [.int .i64 0, .int .i64 0, .int .i64 0, .int .i64 0], [], []⟩)
  (some ⟨.agg [.int .i64 (if e > a then e else a), .int .i64 (if f > b then f else b), .int .i64 (if g < c then g else c), .int .i64 (if h < d then h else d)], [], []⟩)) := by kernel_rfl
def t_ref01_Empty : FuncId → Option Summ := tabOf []
def l_ref01_Empty : Nat → Option LSumm := ltOf []
theorem e_ref01_Empty (a b c d : Int) : funR Try.prog t_ref01_Empty (annOf []) l_ref01_Empty 20 Try.f37 [.agg [.int .i64 a, .int .i64 b, .int .i64 c, .int .i64 d]] [] =
  (ite2 (decide (a ≥ c))
  (some ⟨.one (.bool true), [], []⟩)
  (some ⟨.one (.bool (decide (b ≥ d))), [], []⟩)) := by kernel_rfl
def t_ref01_Valid : FuncId → Option Summ := tabOf []
def l_ref01_Valid : Nat → Option LSumm := ltOf []
theorem e_ref01_Valid (a b c d : Int) : funR Try.prog t_ref01_Valid (annOf []) l_ref01_Valid 20 Try.f36 [.agg [.int .i64 a, .int .i64 b, .int .i64 c, .int .i64 d]] [] =
  (ite2 (decide (0 ≤ a))
  (ite2 (decide (a ≤ c))
    (ite2 (decide (c ≤ 4096))
      (ite2 (decide (0 ≤ b))
        (ite2 (decide (b ≤ d))
          (some ⟨.one (.bool (decide (d ≤ 4096))), [], []⟩)
          (some ⟨.one (.bool false), [], []⟩))
        (some ⟨.one (.bool false), [], []⟩))
      (some ⟨.one (.bool false), [], []⟩))
    (some ⟨.one (.bool false), [], []⟩))
  (some ⟨.one (.bool false), [], []⟩)) := by kernel_rfl
def t_ref01_CeilDiv : FuncId → Option Summ := tabOf []
def l_ref01_CeilDiv : Nat → Option LSumm := ltOf []
theorem e_ref01_CeilDiv (a b : Int) : funR Try.prog t_ref01_CeilDiv (annOf []) l_ref01_CeilDiv 20 Try.f62 [.one (.int .i64 a), .one (.int .i64 b)] [] =
  (ite2 (decide (b < 1))
  (some ⟨.one (.int .i64 0), [], []⟩)
  (ite2 (!decide (b = 0))
    (ite2 (!decide (b = 0))
      (ite2 (decide (Int.tmod a b > 0))
        (some ⟨.one (.int .i64 (IntKind.wrap .i64 (IntKind.wrap .i64 (Int.tdiv a b) + 1))), [], []⟩)
        (some ⟨.one (.int .i64 (IntKind.wrap .i64 (Int.tdiv a b))), [], []⟩))
      none)
    none)) := by kernel_rfl
def t_ref01_FloorDiv : FuncId → Option Summ := tabOf []
def l_ref01_FloorDiv : Nat → Option LSumm := ltOf []
theorem e_ref01_FloorDiv (a b : Int) : funR Try.prog t_ref01_FloorDiv (annOf []) l_ref01_FloorDiv 20 Try.f63 [.one (.int .i64 a), .one (.int .i64 b)] [] =
  (ite2 (decide (b < 1))
  (some ⟨.one (.int .i64 0), [], []⟩)
  (ite2 (!decide (b = 0))
    (ite2 (!decide (b = 0))
      (ite2 (decide (Int.tmod a b < 0))
        (some ⟨.one (.int .i64 (IntKind.wrap .i64 (IntKind.wrap .i64 (Int.tdiv a b) - 1))), [], []⟩)
        (some ⟨.one (.int .i64 (IntKind.wrap .i64 (Int.tdiv a b))), [], []⟩))
      none)
    none)) := by kernel_rfl
def t_ref01_Area : FuncId → Option Summ := tabOf [(36, G_ref01_Valid)]
def l_ref01_Area : Nat → Option LSumm := ltOf []
theorem e_ref01_Area (a b c d : Int) : funR Try.prog t_ref01_Area (annOf []) l_ref01_Area 20 Try.f41 [.agg [.int .i64 a, .int .i64 b, .int .i64 c, .int .i64 d]] [] =
  (ite2 (!valid a b c d)
  (some ⟨.one (.int .i64 0), [], []⟩)
  (some ⟨.one (.int .i64 (IntKind.wrap .i64 (IntKind.wrap .i64 (c - a) * IntKind.wrap .i64 (d - b)))), [], []⟩)) := by kernel_rfl
def t_ref01_Reduce : FuncId → Option Summ := tabOf [(36, G_ref01_Valid), (62, G_ref01_CeilDiv)]
def l_ref01_Reduce : Nat → Option LSumm := ltOf []
theorem e_ref01_Reduce (a b c d x y : Int) : funR Try.prog t_ref01_Reduce (annOf []) l_ref01_Reduce 20 Try.f39 [.agg [.int .i64 a, .int .i64 b, .int .i64 c, .int .i64 d], .one (.int .i64 x), .one (.int .i64 y)] [] =
  (ite2 (!valid a b c d)
  (some ⟨.agg [.int .i64 0, .int .i64 0, .int .i64 0, .int .i64 0], [], []⟩)
  (ite2 (decide (x < 1))
    (some ⟨.agg [.int .i64 0, .int .i64 0, .int .i64 0, .int .i64 0], [], []⟩)
    (ite2 (decide (x > 4096))
      (some ⟨.agg [.int .i64 0, .int .i64 0, .int .i64 0, .int .i64 0], [], []⟩)
      (ite2 (decide (y < 1))
        (some ⟨.agg [.int .i64 0, .int .i64 0, .int .i64 0, .int .i64 0], [], []⟩)
        (ite2 (decide (y > 4096))
          (some ⟨.agg [.int .i64 0, .int .i64 0, .int .i64 0, .int .i64 0], [], []⟩)
          (some ⟨.agg [.int .i64 (cdiv a x), .int .i64 (cdiv b y), .int .i64 (cdiv c x), .int .i64 (cdiv d y)], [], []⟩)))))) := by kernel_rfl
def t_ref01_Intersect : FuncId → Option Summ := tabOf [(37, G_ref01_Empty)]
def l_ref01_Intersect : Nat → Option LSumm := ltOf []
theorem e_ref01_Intersect (a b c d e f g h : Int) : funR Try.prog t_ref01_Intersect (annOf []) l_ref01_Intersect 20 Try.f68 [.agg [.int .i64 a, .int .i64 b, .int .i64 c, .int .i64 d], .agg [.int .i64 e, .int .i64 f, .int .i64 g, .int .i64 h]] [] =
  (ite2 (empty (if e > a then e else a) (if f > b then f else b) (if g < c then g else c) (if h < d then h else d))
  (some ⟨.agg [.int .i64 0, .int .i64 0, .int .i64 0, .int .i64 0], [], []⟩)
  (some ⟨.agg [.int .i64 (if e > a then e else a), .int .i64 (if f > b then f else b), .int .i64 (if g < c then g else c), .int .i64 (if h < d then h else d)], [], []⟩)) := by kernel_rfl
def t_rect_Contains : FuncId → Option Summ := tabOf [(23, G_rect_Empty), (55, G_rect_Intersect)]
def l_rect_Contains : Nat → Option LSumm := ltOf []
theorem e_rect_Contains (a b c d e f g h : Int) : funR Try.prog t_rect_Contains (annOf []) l_rect_Contains 20 Try.f24 [.agg [.int .i64 a, .int .i64 b, .int .i64 c, .int .i64 d], .agg [.int .i64 e, .int .i64 f, .int .i64 g, .int .i64 h]] [] =
  (ite2 (empty e f g h)
  (some ⟨.one (.bool true), [], []⟩)
  (some ⟨.one (.bool ((inter a b c d e f g h).fst == e && ((inter a b c d e f g h).snd.fst == f && ((inter a b c d e f g h).snd.snd.fst == g && ((inter a b c d e f g h).snd.snd.snd == h && true))))), [], []⟩)) := by kernel_rfl
def t_params_within : FuncId → Option Summ := tabOf []
def l_params_within : Nat → Option LSumm := ltOf [(2, ⟨0, 24, [0, 1, 9, 10, 11], (kxOf [] [6]), S_params_within_0⟩)]
theorem e_params_within (a b : Int) (l : List Int) : funR Try.prog t_params_within (annOf []) l_params_within 20 Try.f33 [.one (.int .i64 a), .one (.int .i64 b), .one (.lst (.int .i64) l)] [] =
  (ite2 (k_params_within_0 a b l (↑(List.length l) : Int) 0)
  (ite2 (p_params_within_0 a b l)
    (some ⟨.one (.bool true), [], []⟩)
    (some ⟨.one (.bool false), [], []⟩))
  none) := by kernel_rfl
def U_params_within_0 (a b : Int) (l : List Int) (n i : Int) : LT :=
  (.br (decide (i < n))
    (.br (decide (0 ≤ i ∧ i < (↑(List.length l) : Int)))
      (.br (decide (gI l (Int.toNat i) < a))
        (.leaf Ex.ret [.one (.bool false)] [])
        (.br (decide (gI l (Int.toNat i) > b))
          (.leaf Ex.ret [.one (.bool false)] [])
          (.leaf Ex.normal [.one (.int .i64 a), .one (.int .i64 b), V.one (C.lst (Sh.int .i64) l), .one (.int .i64 n), .one (.int .i64 (IntKind.wrap .i64 (i + 1)))] [])))
      .no)
    (.leaf (Ex.exit 0) [] []))
def T_params_within_0 : List V → List (Option Blk) → LT := fun vs bl => (pO vs fun c' vs => kI c' fun a => pO vs fun c' vs => kI c' fun b => pO vs fun c' vs => kLI c' fun l => pO vs fun c' vs => kI c' fun n => pO vs fun c' vs => kI c' fun i => pE vs <| bE bl <| some (U_params_within_0 a b l n i)).getD .no
theorem tu_params_within_0 (a b : Int) (l : List Int) (n i : Int) : T_params_within_0 [.one (.int .i64 a), .one (.int .i64 b), .one (.lst (.int .i64) l), .one (.int .i64 n), .one (.int .i64 i)] [] = U_params_within_0 a b l n i := by kernel_rfl
theorem b_params_within_0 (a b : Int) (l : List Int) (n i : Int) (Kc : Ex → Option (List V × List (Option Blk)) → Option Out) : exec Try.prog t_params_within (annOf []) l_params_within 20 0 (loopOf Try.f33 0) (unp 24 [0, 1, 9, 10, 11] [.one (.int .i64 a), .one (.int .i64 b), .one (.lst (.int .i64) l), .one (.int .i64 n), .one (.int .i64 i)] []) (endc 0 24 [0, 1, 9, 10, 11] (kxOf [] [6]) Kc) =
  (T_params_within_0 [.one (.int .i64 a), .one (.int .i64 b), .one (.lst (.int .i64) l), .one (.int .i64 n), .one (.int .i64 i)] []).runc Kc := by kernel_rfl
def t_quant_Valid : FuncId → Option Summ := tabOf []
def l_quant_Valid : Nat → Option LSumm := ltOf []
theorem e_quant_Valid (a b : Int) : funR Try.prog t_quant_Valid (annOf []) l_quant_Valid 20 Try.f49 [.one (.int .i64 a), .one (.int .i64 b)] [] =
  (ite2 (decide (a ≥ 1))
  (ite2 (decide (a ≤ 65536))
    (ite2 (decide (b ≥ 8))
      (some ⟨.one (.bool (decide (b ≤ 32))), [], []⟩)
      (some ⟨.one (.bool false), [], []⟩))
    (some ⟨.one (.bool false), [], []⟩))
  (some ⟨.one (.bool false), [], []⟩)) := by kernel_rfl
def t_ref08_Valid : FuncId → Option Summ := tabOf []
def l_ref08_Valid : Nat → Option LSumm := ltOf []
theorem e_ref08_Valid (a b : Int) : funR Try.prog t_ref08_Valid (annOf []) l_ref08_Valid 20 Try.f51 [.one (.int .i64 a), .one (.int .i64 b)] [] =
  (ite2 (decide (1 ≤ a))
  (ite2 (decide (a ≤ 65536))
    (ite2 (decide (8 ≤ b))
      (some ⟨.one (.bool (decide (b ≤ 32))), [], []⟩)
      (some ⟨.one (.bool false), [], []⟩))
    (some ⟨.one (.bool false), [], []⟩))
  (some ⟨.one (.bool false), [], []⟩)) := by kernel_rfl
def t_quant_Threshold : FuncId → Option Summ := tabOf [(49, G_quant_Valid)]
def l_quant_Threshold : Nat → Option LSumm := ltOf []
theorem e_quant_Threshold (a b : Int) : funR Try.prog t_quant_Threshold (annOf []) l_quant_Threshold 20 Try.f53 [.one (.int .i64 a), .one (.int .i64 b)] [] =
  (ite2 (!qvalid a b)
  (some ⟨.one (.int .i64 0), [], []⟩)
  (some ⟨.one (.int .i64 (if IntKind.wrap .i64 (Int.tdiv (IntKind.wrap .i64 (a * b)) 16) > 1 then IntKind.wrap .i64 (Int.tdiv (IntKind.wrap .i64 (a * b)) 16) else 1)), [], []⟩)) := by kernel_rfl
def t_ref08_Threshold : FuncId → Option Summ := tabOf [(51, G_ref08_Valid), (63, G_ref01_FloorDiv)]
def l_ref08_Threshold : Nat → Option LSumm := ltOf []
theorem e_ref08_Threshold (a b : Int) : funR Try.prog t_ref08_Threshold (annOf []) l_ref08_Threshold 20 Try.f54 [.one (.int .i64 a), .one (.int .i64 b)] [] =
  (ite2 (!qvalid a b)
  (some ⟨.one (.int .i64 0), [], []⟩)
  (some ⟨.one (.int .i64 (if fdiv (IntKind.wrap .i64 (a * b)) 16 > 1 then fdiv (IntKind.wrap .i64 (a * b)) 16 else 1)), [], []⟩)) := by kernel_rfl
def t_eqI : FuncId → Option Summ := tabOf []
def l_eqI : Nat → Option LSumm := ltOf [(4, ⟨0, 26, [0, 1, 12, 13], (kxOf [] [4]), S_eqI_0⟩)]
theorem e_eqI (l m : List Int) : funR Try.prog t_eqI (annOf []) l_eqI 20 Try.f61 [.one (.lst (.int .i64) l), .one (.lst (.int .i64) m)] [] =
  (ite2 ((↑(List.length l) : Int) != (↑(List.length m) : Int))
  (some ⟨.one (.bool false), [], []⟩)
  (ite2 (k_eqI_0 l m (↑(List.length l) : Int) 0)
    (ite2 (p_eqI_0 l m)
      (some ⟨.one (.bool true), [], []⟩)
      (some ⟨.one (.bool false), [], []⟩))
    none)) := by kernel_rfl
def U_eqI_0 (l m : List Int) (n i : Int) : LT :=
  (.br (decide (i < n))
    (.br (decide (0 ≤ i ∧ i < (↑(List.length l) : Int)))
      (.br (decide (0 ≤ i ∧ i < (↑(List.length m) : Int)))
        (.br (gI l (Int.toNat i) != gI m (Int.toNat i))
          (.leaf Ex.ret [.one (.bool false)] [])
          (.leaf Ex.normal [V.one (C.lst (Sh.int .i64) l), V.one (C.lst (Sh.int .i64) m), .one (.int .i64 n), .one (.int .i64 (IntKind.wrap .i64 (i + 1)))] []))
        .no)
      .no)
    (.leaf (Ex.exit 0) [] []))
def T_eqI_0 : List V → List (Option Blk) → LT := fun vs bl => (pO vs fun c' vs => kLI c' fun l => pO vs fun c' vs => kLI c' fun m => pO vs fun c' vs => kI c' fun n => pO vs fun c' vs => kI c' fun i => pE vs <| bE bl <| some (U_eqI_0 l m n i)).getD .no
theorem tu_eqI_0 (l m : List Int) (n i : Int) : T_eqI_0 [.one (.lst (.int .i64) l), .one (.lst (.int .i64) m), .one (.int .i64 n), .one (.int .i64 i)] [] = U_eqI_0 l m n i := by kernel_rfl
theorem b_eqI_0 (l m : List Int) (n i : Int) (Kc : Ex → Option (List V × List (Option Blk)) → Option Out) : exec Try.prog t_eqI (annOf []) l_eqI 20 0 (loopOf Try.f61 0) (unp 26 [0, 1, 12, 13] [.one (.lst (.int .i64) l), .one (.lst (.int .i64) m), .one (.int .i64 n), .one (.int .i64 i)] []) (endc 0 26 [0, 1, 12, 13] (kxOf [] [4]) Kc) =
  (T_eqI_0 [.one (.lst (.int .i64) l), .one (.lst (.int .i64) m), .one (.int .i64 n), .one (.int .i64 i)] []).runc Kc := by kernel_rfl
def t_eqP : FuncId → Option Summ := tabOf []
def l_eqP : Nat → Option LSumm := ltOf [(4, ⟨0, 26, [0, 1, 12, 13], (kxOf [] [4]), S_eqP_0⟩)]
theorem e_eqP (l m : List (Int × Int)) : funR Try.prog t_eqP (annOf []) l_eqP 20 Try.f60 [.one (.lst (.pair (.int .i64) (.int .i64)) l), .one (.lst (.pair (.int .i64) (.int .i64)) m)] [] =
  (ite2 ((↑(List.length l) : Int) != (↑(List.length m) : Int))
  (some ⟨.one (.bool false), [], []⟩)
  (ite2 (k_eqP_0 l m (↑(List.length l) : Int) 0)
    (ite2 (p_eqP_0 l m)
      (some ⟨.one (.bool true), [], []⟩)
      (some ⟨.one (.bool false), [], []⟩))
    none)) := by kernel_rfl
def U_eqP_0 (l m : List (Int × Int)) (n i : Int) : LT :=
  (.br (decide (i < n))
    (.br (decide (0 ≤ i ∧ i < (↑(List.length l) : Int)))
      (.br (decide (0 ≤ i ∧ i < (↑(List.length m) : Int)))
        (.br (!((gP l (Int.toNat i)).fst == (gP m (Int.toNat i)).fst && ((gP l (Int.toNat i)).snd == (gP m (Int.toNat i)).snd && true)))
          (.leaf Ex.ret [.one (.bool false)] [])
          (.leaf Ex.normal [V.one (C.lst (Sh.pair (Sh.int .i64) (Sh.int .i64)) l), V.one (C.lst (Sh.pair (Sh.int .i64) (Sh.int .i64)) m), .one (.int .i64 n), .one (.int .i64 (IntKind.wrap .i64 (i + 1)))] []))
        .no)
      .no)
    (.leaf (Ex.exit 0) [] []))
def T_eqP_0 : List V → List (Option Blk) → LT := fun vs bl => (pO vs fun c' vs => kLP c' fun l => pO vs fun c' vs => kLP c' fun m => pO vs fun c' vs => kI c' fun n => pO vs fun c' vs => kI c' fun i => pE vs <| bE bl <| some (U_eqP_0 l m n i)).getD .no
theorem tu_eqP_0 (l m : List (Int × Int)) (n i : Int) : T_eqP_0 [.one (.lst (.pair (.int .i64) (.int .i64)) l), .one (.lst (.pair (.int .i64) (.int .i64)) m), .one (.int .i64 n), .one (.int .i64 i)] [] = U_eqP_0 l m n i := by kernel_rfl
theorem b_eqP_0 (l m : List (Int × Int)) (n i : Int) (Kc : Ex → Option (List V × List (Option Blk)) → Option Out) : exec Try.prog t_eqP (annOf []) l_eqP 20 0 (loopOf Try.f60 0) (unp 26 [0, 1, 12, 13] [.one (.lst (.pair (.int .i64) (.int .i64)) l), .one (.lst (.pair (.int .i64) (.int .i64)) m), .one (.int .i64 n), .one (.int .i64 i)] []) (endc 0 26 [0, 1, 12, 13] (kxOf [] [4]) Kc) =
  (T_eqP_0 [.one (.lst (.pair (.int .i64) (.int .i64)) l), .one (.lst (.pair (.int .i64) (.int .i64)) m), .one (.int .i64 n), .one (.int .i64 i)] []).runc Kc := by kernel_rfl
def t_eqC : FuncId → Option Summ := tabOf []
def l_eqC : Nat → Option LSumm := ltOf [(4, ⟨0, 26, [0, 1, 12, 13], (kxOf [] [4]), S_eqC_0⟩)]
theorem e_eqC (l m : List (Int × Bool × Int × Int)) : funR Try.prog t_eqC (annOf []) l_eqC 20 Try.f59 [.one (.lst (.pair (.int .i64) (.pair .bool (.pair (.int .i64) (.int .i64)))) l), .one (.lst (.pair (.int .i64) (.pair .bool (.pair (.int .i64) (.int .i64)))) m)] [] =
  (ite2 ((↑(List.length l) : Int) != (↑(List.length m) : Int))
  (some ⟨.one (.bool false), [], []⟩)
  (ite2 (k_eqC_0 l m (↑(List.length l) : Int) 0)
    (ite2 (p_eqC_0 l m)
      (some ⟨.one (.bool true), [], []⟩)
      (some ⟨.one (.bool false), [], []⟩))
    none)) := by kernel_rfl
def U_eqC_0 (l m : List (Int × Bool × Int × Int)) (n i : Int) : LT :=
  (.br (decide (i < n))
    (.br (decide (0 ≤ i ∧ i < (↑(List.length l) : Int)))
      (.br (decide (0 ≤ i ∧ i < (↑(List.length m) : Int)))
        (.br (!((gC l (Int.toNat i)).fst == (gC m (Int.toNat i)).fst && ((gC l (Int.toNat i)).snd.fst == (gC m (Int.toNat i)).snd.fst && ((gC l (Int.toNat i)).snd.snd.fst == (gC m (Int.toNat i)).snd.snd.fst && ((gC l (Int.toNat i)).snd.snd.snd == (gC m (Int.toNat i)).snd.snd.snd && true)))))
          (.leaf Ex.ret [.one (.bool false)] [])
          (.leaf Ex.normal [V.one (C.lst (Sh.pair (Sh.int .i64) (Sh.pair Sh.bool (Sh.pair (Sh.int .i64) (Sh.int .i64)))) l), V.one (C.lst (Sh.pair (Sh.int .i64) (Sh.pair Sh.bool (Sh.pair (Sh.int .i64) (Sh.int .i64)))) m), .one (.int .i64 n), .one (.int .i64 (IntKind.wrap .i64 (i + 1)))] []))
        .no)
      .no)
    (.leaf (Ex.exit 0) [] []))
def T_eqC_0 : List V → List (Option Blk) → LT := fun vs bl => (pO vs fun c' vs => kLC c' fun l => pO vs fun c' vs => kLC c' fun m => pO vs fun c' vs => kI c' fun n => pO vs fun c' vs => kI c' fun i => pE vs <| bE bl <| some (U_eqC_0 l m n i)).getD .no
theorem tu_eqC_0 (l m : List (Int × Bool × Int × Int)) (n i : Int) : T_eqC_0 [.one (.lst (.pair (.int .i64) (.pair .bool (.pair (.int .i64) (.int .i64)))) l), .one (.lst (.pair (.int .i64) (.pair .bool (.pair (.int .i64) (.int .i64)))) m), .one (.int .i64 n), .one (.int .i64 i)] [] = U_eqC_0 l m n i := by kernel_rfl
theorem b_eqC_0 (l m : List (Int × Bool × Int × Int)) (n i : Int) (Kc : Ex → Option (List V × List (Option Blk)) → Option Out) : exec Try.prog t_eqC (annOf []) l_eqC 20 0 (loopOf Try.f59 0) (unp 26 [0, 1, 12, 13] [.one (.lst (.pair (.int .i64) (.pair .bool (.pair (.int .i64) (.int .i64)))) l), .one (.lst (.pair (.int .i64) (.pair .bool (.pair (.int .i64) (.int .i64)))) m), .one (.int .i64 n), .one (.int .i64 i)] []) (endc 0 26 [0, 1, 12, 13] (kxOf [] [4]) Kc) =
  (T_eqC_0 [.one (.lst (.pair (.int .i64) (.pair .bool (.pair (.int .i64) (.int .i64)))) l), .one (.lst (.pair (.int .i64) (.pair .bool (.pair (.int .i64) (.int .i64)))) m), .one (.int .i64 n), .one (.int .i64 i)] []).runc Kc := by kernel_rfl
end
end Go.Rx.Ch23
