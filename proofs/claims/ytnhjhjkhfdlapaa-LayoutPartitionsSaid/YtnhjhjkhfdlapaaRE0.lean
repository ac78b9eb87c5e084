/- Each function, run by the executor: an equation. -/
import Derived.Test.YtnhjhjkhfdlapaaRG
import Derived.Test.YtnhjhjkhfdlapaaProg
import Derived.KernelRfl
set_option linter.unnecessarySimpa false
set_option linter.unusedVariables false
set_option linter.unusedSimpArgs false
set_option linter.unusedVariables false
set_option maxRecDepth 100000
set_option maxHeartbeats 4000000
open Go Go.Rx Go.Proofs
namespace Go.Rx.Ch24
noncomputable section
def t_rect_Empty : FuncId → Option Summ := tabOf []
def l_rect_Empty : Nat → Option LSumm := ltOf []
theorem e_rect_Empty (a b c d : Int) : funR Try.prog t_rect_Empty (annOf []) l_rect_Empty 20 Try.f58 [.agg [.int .i64 a, .int .i64 b, .int .i64 c, .int .i64 d]] [] =
  (ite2 (decide (a ≥ c))
  (some ⟨.one (.bool true), [], []⟩)
  (some ⟨.one (.bool (decide (b ≥ d))), [], []⟩)) := by kernel_rfl
def t_rect_Valid : FuncId → Option Summ := tabOf []
def l_rect_Valid : Nat → Option LSumm := ltOf []
theorem e_rect_Valid (a b c d : Int) : funR Try.prog t_rect_Valid (annOf []) l_rect_Valid 20 Try.f56 [.agg [.int .i64 a, .int .i64 b, .int .i64 c, .int .i64 d]] [] =
  (ite2 (decide (0 ≤ a))
  (ite2 (decide (a ≤ c))
    (ite2 (decide (c ≤ 4096))
      (ite2 (decide (0 ≤ b))
        (ite2 (decide (b ≤ d))
          (some ⟨.one (.bool (decide (d ≤ 4096))), [], []⟩)
          (some ⟨.one (.bool false), [], []⟩))
        (some ⟨.one (.bool false), [], []⟩))
      (some ⟨.one (.bool false), [], []⟩))
    (some ⟨.one (.bool false), [], []⟩))
  (some ⟨.one (.bool false), [], []⟩)) := by kernel_rfl
def t_rect_CeilDiv : FuncId → Option Summ := tabOf []
def l_rect_CeilDiv : Nat → Option LSumm := ltOf []
theorem e_rect_CeilDiv (a b : Int) : funR Try.prog t_rect_CeilDiv (annOf []) l_rect_CeilDiv 20 Try.f60 [.one (.int .i64 a), .one (.int .i64 b)] [] =
  (ite2 (decide (b < 1))
  (some ⟨.one (.int .i64 0), [], []⟩)
  (ite2 (!decide (b = 0))
    (ite2 (!decide (b = 0))
      (ite2 (decide (Int.tmod a b > 0))
        (some ⟨.one (.int .i64 (IntKind.wrap .i64 (IntKind.wrap .i64 (Int.tdiv a b) + 1))), [], []⟩)
        (some ⟨.one (.int .i64 (IntKind.wrap .i64 (Int.tdiv a b))), [], []⟩))
      none)
    none)) := by kernel_rfl
def t_rect_FloorDiv : FuncId → Option Summ := tabOf []
def l_rect_FloorDiv : Nat → Option LSumm := ltOf []
theorem e_rect_FloorDiv (a b : Int) : funR Try.prog t_rect_FloorDiv (annOf []) l_rect_FloorDiv 20 Try.f61 [.one (.int .i64 a), .one (.int .i64 b)] [] =
  (ite2 (decide (b < 1))
  (some ⟨.one (.int .i64 0), [], []⟩)
  (ite2 (!decide (b = 0))
    (ite2 (!decide (b = 0))
      (ite2 (decide (Int.tmod a b < 0))
        (some ⟨.one (.int .i64 (IntKind.wrap .i64 (IntKind.wrap .i64 (Int.tdiv a b) - 1))), [], []⟩)
        (some ⟨.one (.int .i64 (IntKind.wrap .i64 (Int.tdiv a b))), [], []⟩))
      none)
    none)) := by kernel_rfl
def t_rect_Area : FuncId → Option Summ := tabOf [(56, G_rect_Valid)]
def l_rect_Area : Nat → Option LSumm := ltOf []
theorem e_rect_Area (a b c d : Int) : funR Try.prog t_rect_Area (annOf []) l_rect_Area 20 Try.f30 [.agg [.int .i64 a, .int .i64 b, .int .i64 c, .int .i64 d]] [] =
  (ite2 (!valid a b c d)
  (some ⟨.one (.int .i64 0), [], []⟩)
  (some ⟨.one (.int .i64 (IntKind.wrap .i64 (IntKind.wrap .i64 (c - a) * IntKind.wrap .i64 (d - b)))), [], []⟩)) := by kernel_rfl
def t_rect_Reduce : FuncId → Option Summ := tabOf [(56, G_rect_Valid), (60, G_rect_CeilDiv)]
def l_rect_Reduce : Nat → Option LSumm := ltOf []
theorem e_rect_Reduce (a b c d x y : Int) : funR Try.prog t_rect_Reduce (annOf []) l_rect_Reduce 20 Try.f37 [.agg [.int .i64 a, .int .i64 b, .int .i64 c, .int .i64 d], .one (.int .i64 x), .one (.int .i64 y)] [] =
  (ite2 (!valid a b c d)
  (some ⟨.agg [.int .i64 0, .int .i64 0, .int .i64 0, .int .i64 0], [], []⟩)
  (ite2 (decide (x < 1))
    (some ⟨.agg [.int .i64 0, .int .i64 0, .int .i64 0, .int .i64 0], [], []⟩)
    (ite2 (decide (x > 4096))
      (some ⟨.agg [.int .i64 0, .int .i64 0, .int .i64 0, .int .i64 0], [], []⟩)
      (ite2 (decide (y < 1))
        (some ⟨.agg [.int .i64 0, .int .i64 0, .int .i64 0, .int .i64 0], [], []⟩)
        (ite2 (decide (y > 4096))
          (some ⟨.agg [.int .i64 0, .int .i64 0, .int .i64 0, .int .i64 0], [], []⟩)
          (some ⟨.agg [.int .i64 (cdiv a x), .int .i64 (cdiv b y), .int .i64 (cdiv c x), .int .i64 (cdiv d y)], [], []⟩)))))) := by kernel_rfl
def t_rect_Intersect : FuncId → Option Summ := tabOf [(58, G_rect_Empty)]
def l_rect_Intersect : Nat → Option LSumm := ltOf []
theorem e_rect_Intersect (a b c d e f g h : Int) : funR Try.prog t_rect_Intersect (annOf []) l_rect_Intersect 20 Try.f59 [.agg [.int .i64 a, .int .i64 b, .int .i64 c, .int .i64 d], .agg [.int .i64 e, .int .i64 f, .int .i64 g, .int .i64 h]] [] =
  (ite2 (empty (if e > a then e else a) (if f > b then f else b) (if g < c then g else c) (if h < d then h else d))
  (some ⟨.agg [.int .i64 0, .int .i64 0, .int .i64 0, .int .i64 0], [], []⟩)
  (some ⟨.agg [.int .i64 (if e > a then e else a), .int .i64 (if f > b then f else b), .int .i64 (if g < c then g else c), .int .i64 (if h < d then h else d)], [], []⟩)) := by kernel_rfl
def t_rect_Contains : FuncId → Option Summ := tabOf [(58, G_rect_Empty), (59, G_rect_Intersect)]
def l_rect_Contains : Nat → Option LSumm := ltOf []
theorem e_rect_Contains (a b c d e f g h : Int) : funR Try.prog t_rect_Contains (annOf []) l_rect_Contains 20 Try.f29 [.agg [.int .i64 a, .int .i64 b, .int .i64 c, .int .i64 d], .agg [.int .i64 e, .int .i64 f, .int .i64 g, .int .i64 h]] [] =
  (ite2 (empty e f g h)
  (some ⟨.one (.bool true), [], []⟩)
  (some ⟨.one (.bool ((inter a b c d e f g h).fst == e && ((inter a b c d e f g h).snd.fst == f && ((inter a b c d e f g h).snd.snd.fst == g && ((inter a b c d e f g h).snd.snd.snd == h && true))))), [], []⟩)) := by kernel_rfl
def t_params_within : FuncId → Option Summ := tabOf []
def l_params_within : Nat → Option LSumm := ltOf [(2, ⟨0, 24, [0, 1, 9, 10, 11], (kxOf [] [6]), S_params_within_0⟩)]
theorem e_params_within (a b : Int) (l : List Int) : funR Try.prog t_params_within (annOf []) l_params_within 20 Try.f51 [.one (.int .i64 a), .one (.int .i64 b), .one (.lst (.int .i64) l)] [] =
  (ite2 (k_params_within_0 a b l (↑(List.length l) : Int) 0)
  (ite2 (p_params_within_0 a b l)
    (some ⟨.one (.bool true), [], []⟩)
    (some ⟨.one (.bool false), [], []⟩))
  none) := by kernel_rfl
def U_params_within_0 (a b : Int) (l : List Int) (n i : Int) : LT :=
  (.br (decide (i < n))
    (.br (decide (0 ≤ i ∧ i < (↑(List.length l) : Int)))
      (.br (decide (gI l (Int.toNat i) < a))
        (.leaf Ex.ret [.one (.bool false)] [])
        (.br (decide (gI l (Int.toNat i) > b))
          (.leaf Ex.ret [.one (.bool false)] [])
          (.leaf Ex.normal [.one (.int .i64 a), .one (.int .i64 b), V.one (C.lst (Sh.int .i64) l), .one (.int .i64 n), .one (.int .i64 (IntKind.wrap .i64 (i + 1)))] [])))
      .no)
    (.leaf (Ex.exit 0) [] []))
def T_params_within_0 : List V → List (Option Blk) → LT := fun vs bl => (pO vs fun c' vs => kI c' fun a => pO vs fun c' vs => kI c' fun b => pO vs fun c' vs => kLI c' fun l => pO vs fun c' vs => kI c' fun n => pO vs fun c' vs => kI c' fun i => pE vs <| bE bl <| some (U_params_within_0 a b l n i)).getD .no
theorem tu_params_within_0 (a b : Int) (l : List Int) (n i : Int) : T_params_within_0 [.one (.int .i64 a), .one (.int .i64 b), .one (.lst (.int .i64) l), .one (.int .i64 n), .one (.int .i64 i)] [] = U_params_within_0 a b l n i := by kernel_rfl
theorem b_params_within_0 (a b : Int) (l : List Int) (n i : Int) (Kc : Ex → Option (List V × List (Option Blk)) → Option Out) : exec Try.prog t_params_within (annOf []) l_params_within 20 0 (loopOf Try.f51 0) (unp 24 [0, 1, 9, 10, 11] [.one (.int .i64 a), .one (.int .i64 b), .one (.lst (.int .i64) l), .one (.int .i64 n), .one (.int .i64 i)] []) (endc 0 24 [0, 1, 9, 10, 11] (kxOf [] [6]) Kc) =
  (T_params_within_0 [.one (.int .i64 a), .one (.int .i64 b), .one (.lst (.int .i64) l), .one (.int .i64 n), .one (.int .i64 i)] []).runc Kc := by kernel_rfl
end
end Go.Rx.Ch24

set_option linter.unusedVariables false
set_option maxRecDepth 100000
set_option maxHeartbeats 4000000
open Go Go.Rx Go.Proofs
namespace Go.Rx.Ch24
noncomputable section
def t_params_Precinct : FuncId → Option Summ := tabOf []
def l_params_Precinct : Nat → Option LSumm := ltOf []
theorem e_params_Precinct (p : Pm) (r : Int) : funR Try.prog t_params_Precinct (annOf []) l_params_Precinct 20 Try.f41 [.agg (pmC p), .one (.int .i64 r)] [] =
  (ite2 (decide (r < 0))
  (some ⟨.agg [.int .i64 0, .int .i64 0], [], []⟩)
  (ite2 (decide (r > p.le))
    (some ⟨.agg [.int .i64 0, .int .i64 0], [], []⟩)
    (ite2 ((↑(List.length p.pr) : Int) == 0)
      (some ⟨.agg [.int .i64 12, .int .i64 12], [], []⟩)
      (ite2 (decide (r ≥ (↑(List.length p.pr) : Int)))
        (some ⟨.agg [.int .i64 0, .int .i64 0], [], []⟩)
        (ite2 (decide (0 ≤ r ∧ r < (↑(List.length p.pr) : Int)))
          (some ⟨.agg [.int .i64 (gP p.pr (Int.toNat r)).fst, .int .i64 (gP p.pr (Int.toNat r)).snd], [], []⟩)
          none))))) := by kernel_rfl
end
end Go.Rx.Ch24

set_option linter.unusedVariables false
set_option maxRecDepth 100000
set_option maxHeartbeats 4000000
open Go Go.Rx Go.Proofs
namespace Go.Rx.Ch24
noncomputable section
end
end Go.Rx.Ch24

set_option linter.unusedVariables false
set_option maxRecDepth 100000
set_option maxHeartbeats 4000000
open Go Go.Rx Go.Proofs
namespace Go.Rx.Ch24
noncomputable section
end
end Go.Rx.Ch24

set_option linter.unusedVariables false
set_option maxRecDepth 100000
set_option maxHeartbeats 4000000
open Go Go.Rx Go.Proofs
namespace Go.Rx.Ch24
noncomputable section
def t_params_Header : FuncId → Option Summ := tabOf [(30, G_rect_Area), (37, G_rect_Reduce), (51, G_params_within), (56, G_rect_Valid), (58, G_rect_Empty), (60, G_rect_CeilDiv), (61, G_rect_FloorDiv)]
def l_params_Header : Nat → Option LSumm := ltOf [(4, ⟨0, 114, [1, 36, 37, 38], (kxOf [1] [2]), S_params_Header_0⟩), (14, ⟨0, 114, [1, 98, 99, 100], (kxOf [] [2]), S_params_Header_1⟩)]
theorem e_params_Header (h : Hd) : funR Try.prog t_params_Header (annOf []) l_params_Header 20 Try.f33 [.agg (hdC h)] [] =
  (ite2 (!valid h.a h.b h.c h.d)
  (some ⟨.one (.int .i64 12), [], []⟩)
  (ite2 (empty h.a h.b h.c h.d)
    (some ⟨.one (.int .i64 12), [], []⟩)
    (ite2 (!within 1 4096 [h.tw, h.th])
      (some ⟨.one (.int .i64 12), [], []⟩)
      (ite2 (!within 1 4 [(↑(List.length h.cs) : Int)])
        (some ⟨.one (.int .i64 12), [], []⟩)
        (ite2 (k_params_Header_0 h h.cs (↑(List.length h.cs) : Int) 0)
          (ite2 (p_params_Header_0 h h.cs)
            (ite2 (decide (IntKind.wrap .i64 (IntKind.wrap .i64 (cdiv h.c h.tw - fdiv h.a h.tw) * IntKind.wrap .i64 (cdiv h.d h.th - fdiv h.b h.th)) > 1024))
              (some ⟨.one (.int .i64 5), [], []⟩)
              (ite2 (k_params_Header_1 h h.cs (↑(List.length h.cs) : Int) 0)
                (ite2 (p_params_Header_1 h h.cs)
                  (some ⟨.one (.int .i64 0), [], []⟩)
                  (some ⟨.one (.int .i64 5), [], []⟩))
                none))
            (some ⟨.one (.int .i64 12), [], []⟩))
          none))))) := by kernel_rfl
def U_params_Header_0 (h : Hd) (l : List (Int × Bool × Int × Int)) (n i : Int) : LT :=
  (.br (decide (i < n))
    (.br (decide (0 ≤ i ∧ i < (↑(List.length l) : Int)))
      (.br (!within 1 16 [(gC l (Int.toNat i)).fst])
        (.leaf Ex.ret [.one (.int .i64 12)] [])
        (.br (!within 1 4 [(gC l (Int.toNat i)).snd.snd.fst, (gC l (Int.toNat i)).snd.snd.snd])
          (.leaf Ex.ret [.one (.int .i64 12)] [])
          (.br (empty (reduce h.a h.b h.c h.d (gC l (Int.toNat i)).snd.snd.fst (gC l (Int.toNat i)).snd.snd.snd).fst (reduce h.a h.b h.c h.d (gC l (Int.toNat i)).snd.snd.fst (gC l (Int.toNat i)).snd.snd.snd).snd.fst (reduce h.a h.b h.c h.d (gC l (Int.toNat i)).snd.snd.fst (gC l (Int.toNat i)).snd.snd.snd).snd.snd.fst (reduce h.a h.b h.c h.d (gC l (Int.toNat i)).snd.snd.fst (gC l (Int.toNat i)).snd.snd.snd).snd.snd.snd)
            (.leaf Ex.ret [.one (.int .i64 12)] [])
            (.leaf Ex.normal [V.one (C.ptr 0 0), V.one (C.lst (Sh.pair (Sh.int .i64) (Sh.pair Sh.bool (Sh.pair (Sh.int .i64) (Sh.int .i64)))) l), .one (.int .i64 n), .one (.int .i64 (IntKind.wrap .i64 (i + 1)))] [some (Blk.box [.int .i64 h.a, .int .i64 h.b, .int .i64 h.c, .int .i64 h.d, .int .i64 h.tw, .int .i64 h.th, C.lst (Sh.pair (Sh.int .i64) (Sh.pair Sh.bool (Sh.pair (Sh.int .i64) (Sh.int .i64)))) h.cs])]))))
      .no)
    (.leaf (Ex.exit 0) [V.one (C.ptr 0 0)] [some (Blk.box [.int .i64 h.a, .int .i64 h.b, .int .i64 h.c, .int .i64 h.d, .int .i64 h.tw, .int .i64 h.th, C.lst (Sh.pair (Sh.int .i64) (Sh.pair Sh.bool (Sh.pair (Sh.int .i64) (Sh.int .i64)))) h.cs])]))
def T_params_Header_0 : List V → List (Option Blk) → LT := fun vs bl => (pO vs fun c' vs => kP 0 0 c' <| pO vs fun c' vs => kLC c' fun l => pO vs fun c' vs => kI c' fun n => pO vs fun c' vs => kI c' fun i => pE vs <| bB bl fun q' bl => rdHd q' fun h => bE bl <| some (U_params_Header_0 h l n i)).getD .no
theorem tu_params_Header_0 (h : Hd) (l : List (Int × Bool × Int × Int)) (n i : Int) : T_params_Header_0 [.one (.ptr 0 0), .one (.lst (.pair (.int .i64) (.pair .bool (.pair (.int .i64) (.int .i64)))) l), .one (.int .i64 n), .one (.int .i64 i)] [some (.box (hdC h))] = U_params_Header_0 h l n i := by kernel_rfl
theorem b_params_Header_0 (h : Hd) (l : List (Int × Bool × Int × Int)) (n i : Int) (Kc : Ex → Option (List V × List (Option Blk)) → Option Out) : exec Try.prog t_params_Header (annOf []) l_params_Header 20 0 (loopOf Try.f33 0) (unp 114 [1, 36, 37, 38] [.one (.ptr 0 0), .one (.lst (.pair (.int .i64) (.pair .bool (.pair (.int .i64) (.int .i64)))) l), .one (.int .i64 n), .one (.int .i64 i)] [some (.box (hdC h))]) (endc 0 114 [1, 36, 37, 38] (kxOf [1] [2]) Kc) =
  (T_params_Header_0 [.one (.ptr 0 0), .one (.lst (.pair (.int .i64) (.pair .bool (.pair (.int .i64) (.int .i64)))) l), .one (.int .i64 n), .one (.int .i64 i)] [some (.box (hdC h))]).runc Kc := by kernel_rfl
def U_params_Header_1 (h : Hd) (l : List (Int × Bool × Int × Int)) (n i : Int) : LT :=
  (.br (decide (i < n))
    (.br (decide (0 ≤ i ∧ i < (↑(List.length l) : Int)))
      (.br (decide (area (reduce h.a h.b h.c h.d (gC l (Int.toNat i)).snd.snd.fst (gC l (Int.toNat i)).snd.snd.snd).fst (reduce h.a h.b h.c h.d (gC l (Int.toNat i)).snd.snd.fst (gC l (Int.toNat i)).snd.snd.snd).snd.fst (reduce h.a h.b h.c h.d (gC l (Int.toNat i)).snd.snd.fst (gC l (Int.toNat i)).snd.snd.snd).snd.snd.fst (reduce h.a h.b h.c h.d (gC l (Int.toNat i)).snd.snd.fst (gC l (Int.toNat i)).snd.snd.snd).snd.snd.snd > 1048576))
        (.leaf Ex.ret [.one (.int .i64 5)] [])
        (.leaf Ex.normal [V.one (C.ptr 0 0), V.one (C.lst (Sh.pair (Sh.int .i64) (Sh.pair Sh.bool (Sh.pair (Sh.int .i64) (Sh.int .i64)))) l), .one (.int .i64 n), .one (.int .i64 (IntKind.wrap .i64 (i + 1)))] [some (Blk.box [.int .i64 h.a, .int .i64 h.b, .int .i64 h.c, .int .i64 h.d, .int .i64 h.tw, .int .i64 h.th, C.lst (Sh.pair (Sh.int .i64) (Sh.pair Sh.bool (Sh.pair (Sh.int .i64) (Sh.int .i64)))) h.cs])]))
      .no)
    (.leaf (Ex.exit 2) [] []))
def T_params_Header_1 : List V → List (Option Blk) → LT := fun vs bl => (pO vs fun c' vs => kP 0 0 c' <| pO vs fun c' vs => kLC c' fun l => pO vs fun c' vs => kI c' fun n => pO vs fun c' vs => kI c' fun i => pE vs <| bB bl fun q' bl => rdHd q' fun h => bE bl <| some (U_params_Header_1 h l n i)).getD .no
theorem tu_params_Header_1 (h : Hd) (l : List (Int × Bool × Int × Int)) (n i : Int) : T_params_Header_1 [.one (.ptr 0 0), .one (.lst (.pair (.int .i64) (.pair .bool (.pair (.int .i64) (.int .i64)))) l), .one (.int .i64 n), .one (.int .i64 i)] [some (.box (hdC h))] = U_params_Header_1 h l n i := by kernel_rfl
theorem b_params_Header_1 (h : Hd) (l : List (Int × Bool × Int × Int)) (n i : Int) (Kc : Ex → Option (List V × List (Option Blk)) → Option Out) : exec Try.prog t_params_Header (annOf []) l_params_Header 20 0 (loopOf Try.f33 1) (unp 114 [1, 98, 99, 100] [.one (.ptr 0 0), .one (.lst (.pair (.int .i64) (.pair .bool (.pair (.int .i64) (.int .i64)))) l), .one (.int .i64 n), .one (.int .i64 i)] [some (.box (hdC h))]) (endc 0 114 [1, 98, 99, 100] (kxOf [] [2]) Kc) =
  (T_params_Header_1 [.one (.ptr 0 0), .one (.lst (.pair (.int .i64) (.pair .bool (.pair (.int .i64) (.int .i64)))) l), .one (.int .i64 n), .one (.int .i64 i)] [some (.box (hdC h))]).runc Kc := by kernel_rfl
end
end Go.Rx.Ch24

set_option linter.unusedVariables false
set_option maxRecDepth 100000
set_option maxHeartbeats 4000000
open Go Go.Rx Go.Proofs
namespace Go.Rx.Ch24
noncomputable section
def t_params_numbers : FuncId → Option Summ := tabOf [(51, G_params_within)]
def l_params_numbers : Nat → Option LSumm := ltOf [(6, ⟨0, 114, [2, 3, 36, 37, 38], (kxOf [2, 3] [4]), S_params_numbers_0⟩)]
theorem e_params_numbers (h : Hd) (p : Pm) : funR Try.prog t_params_numbers (annOf []) l_params_numbers 20 Try.f52 [.agg (hdC h), .agg (pmC p)] [] =
  (ite2 (!within 0 5 [p.le])
  (some ⟨.one (.bool false), [], []⟩)
  (ite2 (!within 2 6 [p.bx, p.bw])
    (some ⟨.one (.bool false), [], []⟩)
    (ite2 ((↑(List.length p.pr) : Int) != 0)
      (ite2 ((↑(List.length p.pr) : Int) != IntKind.wrap .i64 (p.le + 1))
        (some ⟨.one (.bool false), [], []⟩)
        (ite2 (k_params_numbers_0 h p p.pr (↑(List.length p.pr) : Int) 0)
          (ite2 (p_params_numbers_0 h p p.pr)
            (ite2 (!within 1 16 [p.la])
              (some ⟨.one (.bool false), [], []⟩)
              (ite2 ((↑(List.length p.st) : Int) != IntKind.wrap .i64 (IntKind.wrap .i64 (3 * p.le) + 1))
                (some ⟨.one (.bool false), [], []⟩)
                (ite2 (small (List.length p.st))
                  (ite2 (!within 1 65536 p.st)
                    (some ⟨.one (.bool false), [], []⟩)
                    (ite2 (!within 8 32 [p.de])
                      (some ⟨.one (.bool false), [], []⟩)
                      (ite2 (!within 0 30 [p.sf])
                        (some ⟨.one (.bool false), [], []⟩)
                        (ite2 (p.co == 0)
                          (some ⟨.one (.bool true), [], []⟩)
                          (ite2 (decide ((↑(List.length h.cs) : Int) ≥ 3))
                            (ite2 (decide ((0 : Int) ≤ 0 ∧ 0 < (↑(List.length h.cs) : Int)))
                              (ite2 (decide ((0 : Int) ≤ 1 ∧ 1 < (↑(List.length h.cs) : Int)))
                                (ite2 ((gC h.cs 0).fst == (gC h.cs 1).fst && ((gC h.cs 0).snd.fst == (gC h.cs 1).snd.fst && ((gC h.cs 0).snd.snd.fst == (gC h.cs 1).snd.snd.fst && ((gC h.cs 0).snd.snd.snd == (gC h.cs 1).snd.snd.snd && true))))
                                  (ite2 (decide ((0 : Int) ≤ 0 ∧ 0 < (↑(List.length h.cs) : Int)))
                                    (ite2 (decide ((0 : Int) ≤ 2 ∧ 2 < (↑(List.length h.cs) : Int)))
                                      (some ⟨.one (.bool ((gC h.cs 0).fst == (gC h.cs 2).fst && ((gC h.cs 0).snd.fst == (gC h.cs 2).snd.fst && ((gC h.cs 0).snd.snd.fst == (gC h.cs 2).snd.snd.fst && ((gC h.cs 0).snd.snd.snd == (gC h.cs 2).snd.snd.snd && true))))), [], []⟩)
                                      none)
                                    none)
                                  (some ⟨.one (.bool false), [], []⟩))
                                none)
                              none)
                            (some ⟨.one (.bool false), [], []⟩))))))
                  none)))
            (some ⟨.one (.bool false), [], []⟩))
          none))
      (ite2 (k_params_numbers_0 h p p.pr (↑(List.length p.pr) : Int) 0)
        (ite2 (p_params_numbers_0 h p p.pr)
          (ite2 (!within 1 16 [p.la])
            (some ⟨.one (.bool false), [], []⟩)
            (ite2 ((↑(List.length p.st) : Int) != IntKind.wrap .i64 (IntKind.wrap .i64 (3 * p.le) + 1))
              (some ⟨.one (.bool false), [], []⟩)
              (ite2 (small (List.length p.st))
                (ite2 (!within 1 65536 p.st)
                  (some ⟨.one (.bool false), [], []⟩)
                  (ite2 (!within 8 32 [p.de])
                    (some ⟨.one (.bool false), [], []⟩)
                    (ite2 (!within 0 30 [p.sf])
                      (some ⟨.one (.bool false), [], []⟩)
                      (ite2 (p.co == 0)
                        (some ⟨.one (.bool true), [], []⟩)
                        (ite2 (decide ((↑(List.length h.cs) : Int) ≥ 3))
                          (ite2 (decide ((0 : Int) ≤ 0 ∧ 0 < (↑(List.length h.cs) : Int)))
                            (ite2 (decide ((0 : Int) ≤ 1 ∧ 1 < (↑(List.length h.cs) : Int)))
                              (ite2 ((gC h.cs 0).fst == (gC h.cs 1).fst && ((gC h.cs 0).snd.fst == (gC h.cs 1).snd.fst && ((gC h.cs 0).snd.snd.fst == (gC h.cs 1).snd.snd.fst && ((gC h.cs 0).snd.snd.snd == (gC h.cs 1).snd.snd.snd && true))))
                                (ite2 (decide ((0 : Int) ≤ 0 ∧ 0 < (↑(List.length h.cs) : Int)))
                                  (ite2 (decide ((0 : Int) ≤ 2 ∧ 2 < (↑(List.length h.cs) : Int)))
                                    (some ⟨.one (.bool ((gC h.cs 0).fst == (gC h.cs 2).fst && ((gC h.cs 0).snd.fst == (gC h.cs 2).snd.fst && ((gC h.cs 0).snd.snd.fst == (gC h.cs 2).snd.snd.fst && ((gC h.cs 0).snd.snd.snd == (gC h.cs 2).snd.snd.snd && true))))), [], []⟩)
                                    none)
                                  none)
                                (some ⟨.one (.bool false), [], []⟩))
                              none)
                            none)
                          (some ⟨.one (.bool false), [], []⟩))))))
                none)))
          (some ⟨.one (.bool false), [], []⟩))
        none)))) := by kernel_rfl
def U_params_numbers_0 (h : Hd) (p : Pm) (l : List (Int × Int)) (n i : Int) : LT :=
  (.br (decide (i < n))
    (.br (decide (0 ≤ i ∧ i < (↑(List.length l) : Int)))
      (.br (!within (if 1 < i then 1 else i) 12 [(gP l (Int.toNat i)).fst, (gP l (Int.toNat i)).snd])
        (.leaf Ex.ret [.one (.bool false)] [])
        (.leaf Ex.normal [V.one (C.ptr 0 0), V.one (C.ptr 1 0), V.one (C.lst (Sh.pair (Sh.int .i64) (Sh.int .i64)) l), .one (.int .i64 n), .one (.int .i64 (IntKind.wrap .i64 (i + 1)))] [some (Blk.box [.int .i64 h.a, .int .i64 h.b, .int .i64 h.c, .int .i64 h.d, .int .i64 h.tw, .int .i64 h.th, C.lst (Sh.pair (Sh.int .i64) (Sh.pair Sh.bool (Sh.pair (Sh.int .i64) (Sh.int .i64)))) h.cs]), some (Blk.box [.int .i64 p.ke, .int .i64 p.le, .int .i64 p.co, .int .i64 p.bx, .int .i64 p.bw, C.lst (Sh.pair (Sh.int .i64) (Sh.int .i64)) p.pr, .int .i64 p.od, .int .i64 p.la, .bool p.m1, .bool p.m2, .bool p.m3, .bool p.m4, .bool p.m5, .bool p.dv, .bool p.sy, .bool p.fe, C.lst (Sh.int .i64) p.st, .int .i64 p.de, .int .i64 p.sf])]))
      .no)
    (.leaf (Ex.exit 0) [V.one (C.ptr 0 0), V.one (C.ptr 1 0)] [some (Blk.box [.int .i64 h.a, .int .i64 h.b, .int .i64 h.c, .int .i64 h.d, .int .i64 h.tw, .int .i64 h.th, C.lst (Sh.pair (Sh.int .i64) (Sh.pair Sh.bool (Sh.pair (Sh.int .i64) (Sh.int .i64)))) h.cs]), some (Blk.box [.int .i64 p.ke, .int .i64 p.le, .int .i64 p.co, .int .i64 p.bx, .int .i64 p.bw, C.lst (Sh.pair (Sh.int .i64) (Sh.int .i64)) p.pr, .int .i64 p.od, .int .i64 p.la, .bool p.m1, .bool p.m2, .bool p.m3, .bool p.m4, .bool p.m5, .bool p.dv, .bool p.sy, .bool p.fe, C.lst (Sh.int .i64) p.st, .int .i64 p.de, .int .i64 p.sf])]))
def T_params_numbers_0 : List V → List (Option Blk) → LT := fun vs bl => (pO vs fun c' vs => kP 0 0 c' <| pO vs fun c' vs => kP 1 0 c' <| pO vs fun c' vs => kLP c' fun l => pO vs fun c' vs => kI c' fun n => pO vs fun c' vs => kI c' fun i => pE vs <| bB bl fun q' bl => rdHd q' fun h => bB bl fun q' bl => rdPm q' fun p => bE bl <| some (U_params_numbers_0 h p l n i)).getD .no
theorem tu_params_numbers_0 (h : Hd) (p : Pm) (l : List (Int × Int)) (n i : Int) : T_params_numbers_0 [.one (.ptr 0 0), .one (.ptr 1 0), .one (.lst (.pair (.int .i64) (.int .i64)) l), .one (.int .i64 n), .one (.int .i64 i)] [some (.box (hdC h)), some (.box (pmC p))] = U_params_numbers_0 h p l n i := by kernel_rfl
theorem b_params_numbers_0 (h : Hd) (p : Pm) (l : List (Int × Int)) (n i : Int) (Kc : Ex → Option (List V × List (Option Blk)) → Option Out) : exec Try.prog t_params_numbers (annOf []) l_params_numbers 20 0 (loopOf Try.f52 0) (unp 114 [2, 3, 36, 37, 38] [.one (.ptr 0 0), .one (.ptr 1 0), .one (.lst (.pair (.int .i64) (.int .i64)) l), .one (.int .i64 n), .one (.int .i64 i)] [some (.box (hdC h)), some (.box (pmC p))]) (endc 0 114 [2, 3, 36, 37, 38] (kxOf [2, 3] [4]) Kc) =
  (T_params_numbers_0 [.one (.ptr 0 0), .one (.ptr 1 0), .one (.lst (.pair (.int .i64) (.int .i64)) l), .one (.int .i64 n), .one (.int .i64 i)] [some (.box (hdC h)), some (.box (pmC p))]).runc Kc := by kernel_rfl
end
end Go.Rx.Ch24

set_option linter.unusedVariables false
set_option maxRecDepth 100000
set_option maxHeartbeats 4000000
open Go Go.Rx Go.Proofs
namespace Go.Rx.Ch24
noncomputable section
end
end Go.Rx.Ch24

set_option linter.unusedVariables false
set_option maxRecDepth 100000
set_option maxHeartbeats 4000000
open Go Go.Rx Go.Proofs
namespace Go.Rx.Ch24
noncomputable section
def t_pyr_validLevels : FuncId → Option Summ := tabOf []
def l_pyr_validLevels : Nat → Option LSumm := ltOf []
theorem e_pyr_validLevels (n : Int) : funR Try.prog t_pyr_validLevels (annOf []) l_pyr_validLevels 20 Try.f54 [.one (.int .i64 n)] [] =
  (ite2 (decide (n ≥ 0))
  (some ⟨.one (.bool (decide (n ≤ 5))), [], []⟩)
  (some ⟨.one (.bool false), [], []⟩)) := by kernel_rfl
def t_pyr_Count : FuncId → Option Summ := tabOf [(54, G_pyr_validLevels)]
def l_pyr_Count : Nat → Option LSumm := ltOf []
theorem e_pyr_Count (n : Int) : funR Try.prog t_pyr_Count (annOf []) l_pyr_Count 20 Try.f85 [.one (.int .i64 n)] [] =
  (ite2 (!inr 0 5 n)
  (some ⟨.one (.int .i64 0), [], []⟩)
  (some ⟨.one (.int .i64 (IntKind.wrap .i64 (IntKind.wrap .i64 (3 * n) + 1))), [], []⟩)) := by kernel_rfl
def t_pyr_Place : FuncId → Option Summ := tabOf [(85, G_pyr_Count)]
def l_pyr_Place : Nat → Option LSumm := ltOf []
theorem e_pyr_Place (i n : Int) : funR Try.prog t_pyr_Place (annOf []) l_pyr_Place 20 Try.f55 [.one (.int .i64 i), .one (.int .i64 n)] [] =
  (ite2 (decide (i < 0))
  (some ⟨V.tup [(false, [.int .i64 0]), (false, [.int .i64 0]), (false, [.bool false])], [], []⟩)
  (ite2 (decide (i ≥ count n))
    (some ⟨V.tup [(false, [.int .i64 0]), (false, [.int .i64 0]), (false, [.bool false])], [], []⟩)
    (ite2 (i == 0)
      (some ⟨V.tup [(false, [.int .i64 n]), (false, [.int .i64 0]), (false, [.bool true])], [], []⟩)
      (some ⟨V.tup [(false, [.int .i64 (IntKind.wrap .i64 (IntKind.wrap .i64 (n - IntKind.wrap .i64 (Int.tdiv (IntKind.wrap .i64 (i + 2)) 3)) + 1))]), (false, [.int .i64 (IntKind.wrap .i64 (IntKind.wrap .i64 (i - IntKind.wrap .i64 (3 * IntKind.wrap .i64 (Int.tdiv (IntKind.wrap .i64 (i + 2)) 3))) + 3))]), (false, [.bool true])], [], []⟩)))) := by kernel_rfl
def t_pyr_Indices : FuncId → Option Summ := tabOf [(54, G_pyr_validLevels)]
def l_pyr_Indices : Nat → Option LSumm := ltOf []
theorem e_pyr_Indices (n r : Int) : funR Try.prog t_pyr_Indices (annOf []) l_pyr_Indices 20 Try.f26 [.one (.int .i64 n), .one (.int .i64 r)] [] =
  (ite2 (!inr 0 5 n)
  (some ⟨V.one (C.row 0), [], [Blk.arr 3 (Sh.int .i64) ([] : List (Int))]⟩)
  (ite2 (decide (r < 0))
    (some ⟨V.one (C.row 0), [], [Blk.arr 3 (Sh.int .i64) ([] : List (Int))]⟩)
    (ite2 (decide (r > n))
      (some ⟨V.one (C.row 0), [], [Blk.arr 3 (Sh.int .i64) ([] : List (Int))]⟩)
      (ite2 (r == 0)
        (some ⟨V.one (C.row 0), [], [Blk.arr 3 (Sh.int .i64) ([0] : List (Int))]⟩)
        (some ⟨V.one (C.row 0), [], [Blk.arr 3 (Sh.int .i64) ([IntKind.wrap .i64 (IntKind.wrap .i64 (3 * r) - 2), IntKind.wrap .i64 (IntKind.wrap .i64 (3 * r) - 1), IntKind.wrap .i64 (3 * r)] : List (Int))]⟩))))) := by kernel_rfl
def t_pyr_Resolution : FuncId → Option Summ := tabOf [(37, G_rect_Reduce), (54, G_pyr_validLevels)]
def l_pyr_Resolution : Nat → Option LSumm := ltOf []
theorem e_pyr_Resolution (a b c d n r : Int) : funR Try.prog t_pyr_Resolution (annOf []) l_pyr_Resolution 20 Try.f40 [.agg [.int .i64 a, .int .i64 b, .int .i64 c, .int .i64 d], .one (.int .i64 n), .one (.int .i64 r)] [] =
  (ite2 (!inr 0 5 n)
  (some ⟨.agg [.int .i64 0, .int .i64 0, .int .i64 0, .int .i64 0], [], []⟩)
  (ite2 (decide (r < 0))
    (some ⟨.agg [.int .i64 0, .int .i64 0, .int .i64 0, .int .i64 0], [], []⟩)
    (ite2 (decide (r > n))
      (some ⟨.agg [.int .i64 0, .int .i64 0, .int .i64 0, .int .i64 0], [], []⟩)
      (ite2 (decide (0 ≤ IntKind.wrap IntKind.u64 (IntKind.wrap .i64 (n - r))))
        (some ⟨.agg [.int .i64 (reduce a b c d (IntKind.wrap .i64 (1 * 2 ^ min (Int.toNat (IntKind.wrap IntKind.u64 (IntKind.wrap .i64 (n - r)))) 64)) (IntKind.wrap .i64 (1 * 2 ^ min (Int.toNat (IntKind.wrap IntKind.u64 (IntKind.wrap .i64 (n - r)))) 64))).fst, .int .i64 (reduce a b c d (IntKind.wrap .i64 (1 * 2 ^ min (Int.toNat (IntKind.wrap IntKind.u64 (IntKind.wrap .i64 (n - r)))) 64)) (IntKind.wrap .i64 (1 * 2 ^ min (Int.toNat (IntKind.wrap IntKind.u64 (IntKind.wrap .i64 (n - r)))) 64))).snd.fst, .int .i64 (reduce a b c d (IntKind.wrap .i64 (1 * 2 ^ min (Int.toNat (IntKind.wrap IntKind.u64 (IntKind.wrap .i64 (n - r)))) 64)) (IntKind.wrap .i64 (1 * 2 ^ min (Int.toNat (IntKind.wrap IntKind.u64 (IntKind.wrap .i64 (n - r)))) 64))).snd.snd.fst, .int .i64 (reduce a b c d (IntKind.wrap .i64 (1 * 2 ^ min (Int.toNat (IntKind.wrap IntKind.u64 (IntKind.wrap .i64 (n - r)))) 64)) (IntKind.wrap .i64 (1 * 2 ^ min (Int.toNat (IntKind.wrap IntKind.u64 (IntKind.wrap .i64 (n - r)))) 64))).snd.snd.snd], [], []⟩)
        none)))) := by kernel_rfl
def t_dwt_Bands : FuncId → Option Summ := tabOf [(56, G_rect_Valid)]
def l_dwt_Bands : Nat → Option LSumm := ltOf []
theorem e_dwt_Bands (a b c d : Int) : funR Try.prog t_dwt_Bands (annOf []) l_dwt_Bands 20 Try.f57 [.agg [.int .i64 a, .int .i64 b, .int .i64 c, .int .i64 d]] [] =
  (ite2 (!valid a b c d)
  (some ⟨.agg [.int .i64 0, .int .i64 0, .int .i64 0, .int .i64 0, .int .i64 0, .int .i64 0, .int .i64 0, .int .i64 0, .int .i64 0, .int .i64 0, .int .i64 0, .int .i64 0, .int .i64 0, .int .i64 0, .int .i64 0, .int .i64 0], [], []⟩)
  (some ⟨.agg [.int .i64 (IntKind.wrap .i64 (Int.tdiv (IntKind.wrap .i64 (a + 1)) 2)), .int .i64 (IntKind.wrap .i64 (Int.tdiv (IntKind.wrap .i64 (b + 1)) 2)), .int .i64 (IntKind.wrap .i64 (Int.tdiv (IntKind.wrap .i64 (c + 1)) 2)), .int .i64 (IntKind.wrap .i64 (Int.tdiv (IntKind.wrap .i64 (d + 1)) 2)), .int .i64 (IntKind.wrap .i64 (Int.tdiv (IntKind.wrap .i64 (a + 0)) 2)), .int .i64 (IntKind.wrap .i64 (Int.tdiv (IntKind.wrap .i64 (b + 1)) 2)), .int .i64 (IntKind.wrap .i64 (Int.tdiv (IntKind.wrap .i64 (c + 0)) 2)), .int .i64 (IntKind.wrap .i64 (Int.tdiv (IntKind.wrap .i64 (d + 1)) 2)), .int .i64 (IntKind.wrap .i64 (Int.tdiv (IntKind.wrap .i64 (a + 1)) 2)), .int .i64 (IntKind.wrap .i64 (Int.tdiv (IntKind.wrap .i64 (b + 0)) 2)), .int .i64 (IntKind.wrap .i64 (Int.tdiv (IntKind.wrap .i64 (c + 1)) 2)), .int .i64 (IntKind.wrap .i64 (Int.tdiv (IntKind.wrap .i64 (d + 0)) 2)), .int .i64 (IntKind.wrap .i64 (Int.tdiv (IntKind.wrap .i64 (a + 0)) 2)), .int .i64 (IntKind.wrap .i64 (Int.tdiv (IntKind.wrap .i64 (b + 0)) 2)), .int .i64 (IntKind.wrap .i64 (Int.tdiv (IntKind.wrap .i64 (c + 0)) 2)), .int .i64 (IntKind.wrap .i64 (Int.tdiv (IntKind.wrap .i64 (d + 0)) 2))], [], []⟩)) := by kernel_rfl
def t_pyr_Band : FuncId → Option Summ := tabOf [(40, G_pyr_Resolution), (55, G_pyr_Place), (56, G_rect_Valid), (57, G_dwt_Bands)]
def l_pyr_Band : Nat → Option LSumm := ltOf []
theorem e_pyr_Band (a b c d n i : Int) : funR Try.prog t_pyr_Band (annOf []) l_pyr_Band 20 Try.f28 [.agg [.int .i64 a, .int .i64 b, .int .i64 c, .int .i64 d], .one (.int .i64 n), .one (.int .i64 i)] [] =
  (ite2 (!plOk i n)
  (some ⟨.agg [.int .i64 0, .int .i64 0, .int .i64 0, .int .i64 0], [], []⟩)
  (ite2 (!valid a b c d)
    (some ⟨.agg [.int .i64 0, .int .i64 0, .int .i64 0, .int .i64 0], [], []⟩)
    (ite2 (i == 0)
      (some ⟨.agg [.int .i64 (resR a b c d n 0).fst, .int .i64 (resR a b c d n 0).snd.fst, .int .i64 (resR a b c d n 0).snd.snd.fst, .int .i64 (resR a b c d n 0).snd.snd.snd], [], []⟩)
      (ite2 (decide (0 ≤ plOr i n ∧ plOr i n < 4))
        (some ⟨.agg [.int .i64 (gI [(bnd (resR a b c d n (IntKind.wrap .i64 (IntKind.wrap .i64 (n - plLv i n) + 1))).fst (resR a b c d n (IntKind.wrap .i64 (IntKind.wrap .i64 (n - plLv i n) + 1))).snd.fst (resR a b c d n (IntKind.wrap .i64 (IntKind.wrap .i64 (n - plLv i n) + 1))).snd.snd.fst (resR a b c d n (IntKind.wrap .i64 (IntKind.wrap .i64 (n - plLv i n) + 1))).snd.snd.snd 0).fst, (bnd (resR a b c d n (IntKind.wrap .i64 (IntKind.wrap .i64 (n - plLv i n) + 1))).fst (resR a b c d n (IntKind.wrap .i64 (IntKind.wrap .i64 (n - plLv i n) + 1))).snd.fst (resR a b c d n (IntKind.wrap .i64 (IntKind.wrap .i64 (n - plLv i n) + 1))).snd.snd.fst (resR a b c d n (IntKind.wrap .i64 (IntKind.wrap .i64 (n - plLv i n) + 1))).snd.snd.snd 1).fst, (bnd (resR a b c d n (IntKind.wrap .i64 (IntKind.wrap .i64 (n - plLv i n) + 1))).fst (resR a b c d n (IntKind.wrap .i64 (IntKind.wrap .i64 (n - plLv i n) + 1))).snd.fst (resR a b c d n (IntKind.wrap .i64 (IntKind.wrap .i64 (n - plLv i n) + 1))).snd.snd.fst (resR a b c d n (IntKind.wrap .i64 (IntKind.wrap .i64 (n - plLv i n) + 1))).snd.snd.snd 2).fst, (bnd (resR a b c d n (IntKind.wrap .i64 (IntKind.wrap .i64 (n - plLv i n) + 1))).fst (resR a b c d n (IntKind.wrap .i64 (IntKind.wrap .i64 (n - plLv i n) + 1))).snd.fst (resR a b c d n (IntKind.wrap .i64 (IntKind.wrap .i64 (n - plLv i n) + 1))).snd.snd.fst (resR a b c d n (IntKind.wrap .i64 (IntKind.wrap .i64 (n - plLv i n) + 1))).snd.snd.snd 3).fst] (Int.toNat (plOr i n))), .int .i64 (gI [(bnd (resR a b c d n (IntKind.wrap .i64 (IntKind.wrap .i64 (n - plLv i n) + 1))).fst (resR a b c d n (IntKind.wrap .i64 (IntKind.wrap .i64 (n - plLv i n) + 1))).snd.fst (resR a b c d n (IntKind.wrap .i64 (IntKind.wrap .i64 (n - plLv i n) + 1))).snd.snd.fst (resR a b c d n (IntKind.wrap .i64 (IntKind.wrap .i64 (n - plLv i n) + 1))).snd.snd.snd 0).snd.fst, (bnd (resR a b c d n (IntKind.wrap .i64 (IntKind.wrap .i64 (n - plLv i n) + 1))).fst (resR a b c d n (IntKind.wrap .i64 (IntKind.wrap .i64 (n - plLv i n) + 1))).snd.fst (resR a b c d n (IntKind.wrap .i64 (IntKind.wrap .i64 (n - plLv i n) + 1))).snd.snd.fst (resR a b c d n (IntKind.wrap .i64 (IntKind.wrap .i64 (n - plLv i n) + 1))).snd.snd.snd 1).snd.fst, (bnd (resR a b c d n (IntKind.wrap .i64 (IntKind.wrap .i64 (n - plLv i n) + 1))).fst (resR a b c d n (IntKind.wrap .i64 (IntKind.wrap .i64 (n - plLv i n) + 1))).snd.fst (resR a b c d n (IntKind.wrap .i64 (IntKind.wrap .i64 (n - plLv i n) + 1))).snd.snd.fst (resR a b c d n (IntKind.wrap .i64 (IntKind.wrap .i64 (n - plLv i n) + 1))).snd.snd.snd 2).snd.fst, (bnd (resR a b c d n (IntKind.wrap .i64 (IntKind.wrap .i64 (n - plLv i n) + 1))).fst (resR a b c d n (IntKind.wrap .i64 (IntKind.wrap .i64 (n - plLv i n) + 1))).snd.fst (resR a b c d n (IntKind.wrap .i64 (IntKind.wrap .i64 (n - plLv i n) + 1))).snd.snd.fst (resR a b c d n (IntKind.wrap .i64 (IntKind.wrap .i64 (n - plLv i n) + 1))).snd.snd.snd 3).snd.fst] (Int.toNat (plOr i n))), .int .i64 (gI [(bnd (resR a b c d n (IntKind.wrap .i64 (IntKind.wrap .i64 (n - plLv i n) + 1))).fst (resR a b c d n (IntKind.wrap .i64 (IntKind.wrap .i64 (n - plLv i n) + 1))).snd.fst (resR a b c d n (IntKind.wrap .i64 (IntKind.wrap .i64 (n - plLv i n) + 1))).snd.snd.fst (resR a b c d n (IntKind.wrap .i64 (IntKind.wrap .i64 (n - plLv i n) + 1))).snd.snd.snd 0).snd.snd.fst, (bnd (resR a b c d n (IntKind.wrap .i64 (IntKind.wrap .i64 (n - plLv i n) + 1))).fst (resR a b c d n (IntKind.wrap .i64 (IntKind.wrap .i64 (n - plLv i n) + 1))).snd.fst (resR a b c d n (IntKind.wrap .i64 (IntKind.wrap .i64 (n - plLv i n) + 1))).snd.snd.fst (resR a b c d n (IntKind.wrap .i64 (IntKind.wrap .i64 (n - plLv i n) + 1))).snd.snd.snd 1).snd.snd.fst, (bnd (resR a b c d n (IntKind.wrap .i64 (IntKind.wrap .i64 (n - plLv i n) + 1))).fst (resR a b c d n (IntKind.wrap .i64 (IntKind.wrap .i64 (n - plLv i n) + 1))).snd.fst (resR a b c d n (IntKind.wrap .i64 (IntKind.wrap .i64 (n - plLv i n) + 1))).snd.snd.fst (resR a b c d n (IntKind.wrap .i64 (IntKind.wrap .i64 (n - plLv i n) + 1))).snd.snd.snd 2).snd.snd.fst, (bnd (resR a b c d n (IntKind.wrap .i64 (IntKind.wrap .i64 (n - plLv i n) + 1))).fst (resR a b c d n (IntKind.wrap .i64 (IntKind.wrap .i64 (n - plLv i n) + 1))).snd.fst (resR a b c d n (IntKind.wrap .i64 (IntKind.wrap .i64 (n - plLv i n) + 1))).snd.snd.fst (resR a b c d n (IntKind.wrap .i64 (IntKind.wrap .i64 (n - plLv i n) + 1))).snd.snd.snd 3).snd.snd.fst] (Int.toNat (plOr i n))), .int .i64 (gI [(bnd (resR a b c d n (IntKind.wrap .i64 (IntKind.wrap .i64 (n - plLv i n) + 1))).fst (resR a b c d n (IntKind.wrap .i64 (IntKind.wrap .i64 (n - plLv i n) + 1))).snd.fst (resR a b c d n (IntKind.wrap .i64 (IntKind.wrap .i64 (n - plLv i n) + 1))).snd.snd.fst (resR a b c d n (IntKind.wrap .i64 (IntKind.wrap .i64 (n - plLv i n) + 1))).snd.snd.snd 0).snd.snd.snd, (bnd (resR a b c d n (IntKind.wrap .i64 (IntKind.wrap .i64 (n - plLv i n) + 1))).fst (resR a b c d n (IntKind.wrap .i64 (IntKind.wrap .i64 (n - plLv i n) + 1))).snd.fst (resR a b c d n (IntKind.wrap .i64 (IntKind.wrap .i64 (n - plLv i n) + 1))).snd.snd.fst (resR a b c d n (IntKind.wrap .i64 (IntKind.wrap .i64 (n - plLv i n) + 1))).snd.snd.snd 1).snd.snd.snd, (bnd (resR a b c d n (IntKind.wrap .i64 (IntKind.wrap .i64 (n - plLv i n) + 1))).fst (resR a b c d n (IntKind.wrap .i64 (IntKind.wrap .i64 (n - plLv i n) + 1))).snd.fst (resR a b c d n (IntKind.wrap .i64 (IntKind.wrap .i64 (n - plLv i n) + 1))).snd.snd.fst (resR a b c d n (IntKind.wrap .i64 (IntKind.wrap .i64 (n - plLv i n) + 1))).snd.snd.snd 2).snd.snd.snd, (bnd (resR a b c d n (IntKind.wrap .i64 (IntKind.wrap .i64 (n - plLv i n) + 1))).fst (resR a b c d n (IntKind.wrap .i64 (IntKind.wrap .i64 (n - plLv i n) + 1))).snd.fst (resR a b c d n (IntKind.wrap .i64 (IntKind.wrap .i64 (n - plLv i n) + 1))).snd.snd.fst (resR a b c d n (IntKind.wrap .i64 (IntKind.wrap .i64 (n - plLv i n) + 1))).snd.snd.snd 3).snd.snd.snd] (Int.toNat (plOr i n)))], [], []⟩)
        none)))) := by kernel_rfl
def t_params_cells : FuncId → Option Summ := tabOf [(58, G_rect_Empty), (60, G_rect_CeilDiv), (61, G_rect_FloorDiv)]
def l_params_cells : Nat → Option LSumm := ltOf []
theorem e_params_cells (a b c d x y : Int) : funR Try.prog t_params_cells (annOf []) l_params_cells 20 Try.f84 [.agg [.int .i64 a, .int .i64 b, .int .i64 c, .int .i64 d], .one (.int .i64 x), .one (.int .i64 y)] [] =
  (ite2 (empty a b c d)
  (some ⟨.one (.int .i64 0), [], []⟩)
  (ite2 (decide (0 ≤ IntKind.wrap IntKind.u64 x))
    (ite2 (decide (0 ≤ IntKind.wrap IntKind.u64 y))
      (some ⟨.one (.int .i64 (IntKind.wrap .i64 (IntKind.wrap .i64 (cdiv c (IntKind.wrap .i64 (1 * 2 ^ min (Int.toNat (IntKind.wrap IntKind.u64 x)) 64)) - fdiv a (IntKind.wrap .i64 (1 * 2 ^ min (Int.toNat (IntKind.wrap IntKind.u64 x)) 64))) * IntKind.wrap .i64 (cdiv d (IntKind.wrap .i64 (1 * 2 ^ min (Int.toNat (IntKind.wrap IntKind.u64 y)) 64)) - fdiv b (IntKind.wrap .i64 (1 * 2 ^ min (Int.toNat (IntKind.wrap IntKind.u64 y)) 64)))))), [], []⟩)
      none)
    none)) := by kernel_rfl
end
end Go.Rx.Ch24

set_option linter.unusedVariables false
set_option maxRecDepth 100000
set_option maxHeartbeats 4000000
open Go Go.Rx Go.Proofs
namespace Go.Rx.Ch24
noncomputable section
def t_rect_Cells : FuncId → Option Summ := tabOf [(56, G_rect_Valid), (58, G_rect_Empty), (59, G_rect_Intersect), (60, G_rect_CeilDiv), (61, G_rect_FloorDiv)]
def l_rect_Cells : Nat → Option LSumm := ltOf [(9, ⟨0, 86, [1, 2, 3, 7, 8, 10, 11, 12], (kxOf [11] [6]), S_rect_Cells_0⟩), (12, ⟨0, 86, [1, 2, 3, 7, 8, 10, 11, 12, 13], (kxOf [1, 2, 3, 7, 8, 10, 11, 12] [6]), S_rect_Cells_1⟩)]
theorem e_rect_Cells (a b c d w h : Int) : funR Try.prog t_rect_Cells (annOf []) l_rect_Cells 20 Try.f34 [.agg [.int .i64 a, .int .i64 b, .int .i64 c, .int .i64 d], .one (.int .i64 w), .one (.int .i64 h)] [] =
  (ite2 (!valid a b c d)
  (some ⟨V.one (C.row 0), [], [Blk.arr 23 (Sh.pair (Sh.int .i64) (Sh.pair (Sh.int .i64) (Sh.pair (Sh.int .i64) (Sh.int .i64)))) ([] : List (Int × Int × Int × Int))]⟩)
  (ite2 (empty a b c d)
    (some ⟨V.one (C.row 0), [], [Blk.arr 23 (Sh.pair (Sh.int .i64) (Sh.pair (Sh.int .i64) (Sh.pair (Sh.int .i64) (Sh.int .i64)))) ([] : List (Int × Int × Int × Int))]⟩)
    (ite2 (decide (w < 1))
      (some ⟨V.one (C.row 0), [], [Blk.arr 23 (Sh.pair (Sh.int .i64) (Sh.pair (Sh.int .i64) (Sh.pair (Sh.int .i64) (Sh.int .i64)))) ([] : List (Int × Int × Int × Int))]⟩)
      (ite2 (decide (h < 1))
        (some ⟨V.one (C.row 0), [], [Blk.arr 23 (Sh.pair (Sh.int .i64) (Sh.pair (Sh.int .i64) (Sh.pair (Sh.int .i64) (Sh.int .i64)))) ([] : List (Int × Int × Int × Int))]⟩)
        (ite2 (decide (IntKind.wrap .i64 (IntKind.wrap .i64 (cdiv c w - fdiv a w) * IntKind.wrap .i64 (cdiv d h - fdiv b h)) > 65536))
          (some ⟨V.one (C.row 0), [], [Blk.arr 23 (Sh.pair (Sh.int .i64) (Sh.pair (Sh.int .i64) (Sh.pair (Sh.int .i64) (Sh.int .i64)))) ([] : List (Int × Int × Int × Int))]⟩)
          (ite2 (k_rect_Cells_0 a b c d w h (fdiv a w) (cdiv c w) (cdiv d h) (fdiv b h) [])
            (some ⟨V.one (C.row 0), [], [Blk.arr 23 (Sh.pair (Sh.int .i64) (Sh.pair (Sh.int .i64) (Sh.pair (Sh.int .i64) (Sh.int .i64)))) ([] ++ gridL a b c d w h (fdiv a w) (Int.toNat (cdiv c w - fdiv a w)) (Int.toNat (cdiv d h - fdiv b h)) (fdiv b h))]⟩)
            none)))))) := by kernel_rfl
def U_rect_Cells_0 (a b c d w h l g u j : Int) (t : List Rc) : LT :=
  (.br (decide (j < u))
    (.br (k_rect_Cells_1 a b c d w h l g u j l t)
      (.leaf Ex.normal [.one (.int .i64 w), .one (.int .i64 h), V.one (C.ptr 0 0), .one (.int .i64 l), .one (.int .i64 g), .one (.int .i64 u), V.one (C.row 1), .one (.int .i64 (IntKind.wrap .i64 (j + 1)))] [some (Blk.box [.int .i64 a, .int .i64 b, .int .i64 c, .int .i64 d]), some (Blk.arr 23 (Sh.pair (Sh.int .i64) (Sh.pair (Sh.int .i64) (Sh.pair (Sh.int .i64) (Sh.int .i64)))) (t ++ rowL a b c d w h j (Int.toNat (g - l)) l))])
      .no)
    (.leaf (Ex.exit 0) [V.one (C.row 0)] [some (Blk.arr 23 (Sh.pair (Sh.int .i64) (Sh.pair (Sh.int .i64) (Sh.pair (Sh.int .i64) (Sh.int .i64)))) t)]))
def T_rect_Cells_0 : List V → List (Option Blk) → LT := fun vs bl => (pO vs fun c' vs => kI c' fun w => pO vs fun c' vs => kI c' fun h => pO vs fun c' vs => kP 0 0 c' <| pO vs fun c' vs => kI c' fun l => pO vs fun c' vs => kI c' fun g => pO vs fun c' vs => kI c' fun u => pO vs fun c' vs => kR 1 c' <| pO vs fun c' vs => kI c' fun j => pE vs <| bB bl fun q' bl => tC q' fun c' q' => kI c' fun a => tC q' fun c' q' => kI c' fun b => tC q' fun c' q' => kI c' fun c => tC q' fun c' q' => kI c' fun d => tE q' <| bAR 23 bl fun t bl => bE bl <| some (U_rect_Cells_0 a b c d w h l g u j t)).getD .no
theorem tu_rect_Cells_0 (a b c d w h l g u j : Int) (t : List Rc) : T_rect_Cells_0 [.one (.int .i64 w), .one (.int .i64 h), .one (.ptr 0 0), .one (.int .i64 l), .one (.int .i64 g), .one (.int .i64 u), .one (.row 1), .one (.int .i64 j)] [some (.box [.int .i64 a, .int .i64 b, .int .i64 c, .int .i64 d]), some (.arr 23 (.pair (.int .i64) (.pair (.int .i64) (.pair (.int .i64) (.int .i64)))) t)] = U_rect_Cells_0 a b c d w h l g u j t := by kernel_rfl
theorem b_rect_Cells_0 (a b c d w h l g u j : Int) (t : List Rc) (Kc : Ex → Option (List V × List (Option Blk)) → Option Out) : exec Try.prog t_rect_Cells (annOf []) l_rect_Cells 20 0 (loopOf Try.f34 0) (unp 86 [1, 2, 3, 7, 8, 10, 11, 12] [.one (.int .i64 w), .one (.int .i64 h), .one (.ptr 0 0), .one (.int .i64 l), .one (.int .i64 g), .one (.int .i64 u), .one (.row 1), .one (.int .i64 j)] [some (.box [.int .i64 a, .int .i64 b, .int .i64 c, .int .i64 d]), some (.arr 23 (.pair (.int .i64) (.pair (.int .i64) (.pair (.int .i64) (.int .i64)))) t)]) (endc 0 86 [1, 2, 3, 7, 8, 10, 11, 12] (kxOf [11] [6]) Kc) =
  (T_rect_Cells_0 [.one (.int .i64 w), .one (.int .i64 h), .one (.ptr 0 0), .one (.int .i64 l), .one (.int .i64 g), .one (.int .i64 u), .one (.row 1), .one (.int .i64 j)] [some (.box [.int .i64 a, .int .i64 b, .int .i64 c, .int .i64 d]), some (.arr 23 (.pair (.int .i64) (.pair (.int .i64) (.pair (.int .i64) (.int .i64)))) t)]).runc Kc := by kernel_rfl
def U_rect_Cells_1 (a b c d w h l g u j i : Int) (t : List Rc) : LT :=
  (.br (decide (i < g))
    (.br (decide ((List.length t + List.length [((inter a b c d (IntKind.wrap .i64 (i * w)) (IntKind.wrap .i64 (j * h)) (IntKind.wrap .i64 (IntKind.wrap .i64 (i + 1) * w)) (IntKind.wrap .i64 (IntKind.wrap .i64 (j + 1) * h))).fst, (inter a b c d (IntKind.wrap .i64 (i * w)) (IntKind.wrap .i64 (j * h)) (IntKind.wrap .i64 (IntKind.wrap .i64 (i + 1) * w)) (IntKind.wrap .i64 (IntKind.wrap .i64 (j + 1) * h))).snd.fst, (inter a b c d (IntKind.wrap .i64 (i * w)) (IntKind.wrap .i64 (j * h)) (IntKind.wrap .i64 (IntKind.wrap .i64 (i + 1) * w)) (IntKind.wrap .i64 (IntKind.wrap .i64 (j + 1) * h))).snd.snd.fst, (inter a b c d (IntKind.wrap .i64 (i * w)) (IntKind.wrap .i64 (j * h)) (IntKind.wrap .i64 (IntKind.wrap .i64 (i + 1) * w)) (IntKind.wrap .i64 (IntKind.wrap .i64 (j + 1) * h))).snd.snd.snd)]) * 33 ≤ 140737488355328))
      (.leaf Ex.normal [.one (.int .i64 w), .one (.int .i64 h), V.one (C.ptr 0 0), .one (.int .i64 l), .one (.int .i64 g), .one (.int .i64 u), V.one (C.row 1), .one (.int .i64 j), .one (.int .i64 (IntKind.wrap .i64 (i + 1)))] [some (Blk.box [.int .i64 a, .int .i64 b, .int .i64 c, .int .i64 d]), some (Blk.arr 23 (Sh.pair (Sh.int .i64) (Sh.pair (Sh.int .i64) (Sh.pair (Sh.int .i64) (Sh.int .i64)))) (t ++ [((inter a b c d (IntKind.wrap .i64 (i * w)) (IntKind.wrap .i64 (j * h)) (IntKind.wrap .i64 (IntKind.wrap .i64 (i + 1) * w)) (IntKind.wrap .i64 (IntKind.wrap .i64 (j + 1) * h))).fst, (inter a b c d (IntKind.wrap .i64 (i * w)) (IntKind.wrap .i64 (j * h)) (IntKind.wrap .i64 (IntKind.wrap .i64 (i + 1) * w)) (IntKind.wrap .i64 (IntKind.wrap .i64 (j + 1) * h))).snd.fst, (inter a b c d (IntKind.wrap .i64 (i * w)) (IntKind.wrap .i64 (j * h)) (IntKind.wrap .i64 (IntKind.wrap .i64 (i + 1) * w)) (IntKind.wrap .i64 (IntKind.wrap .i64 (j + 1) * h))).snd.snd.fst, (inter a b c d (IntKind.wrap .i64 (i * w)) (IntKind.wrap .i64 (j * h)) (IntKind.wrap .i64 (IntKind.wrap .i64 (i + 1) * w)) (IntKind.wrap .i64 (IntKind.wrap .i64 (j + 1) * h))).snd.snd.snd)]))])
      .no)
    (.leaf (Ex.exit 2) [.one (.int .i64 w), .one (.int .i64 h), V.one (C.ptr 0 0), .one (.int .i64 l), .one (.int .i64 g), .one (.int .i64 u), V.one (C.row 1), .one (.int .i64 j)] [some (Blk.box [.int .i64 a, .int .i64 b, .int .i64 c, .int .i64 d]), some (Blk.arr 23 (Sh.pair (Sh.int .i64) (Sh.pair (Sh.int .i64) (Sh.pair (Sh.int .i64) (Sh.int .i64)))) t)]))
def T_rect_Cells_1 : List V → List (Option Blk) → LT := fun vs bl => (pO vs fun c' vs => kI c' fun w => pO vs fun c' vs => kI c' fun h => pO vs fun c' vs => kP 0 0 c' <| pO vs fun c' vs => kI c' fun l => pO vs fun c' vs => kI c' fun g => pO vs fun c' vs => kI c' fun u => pO vs fun c' vs => kR 1 c' <| pO vs fun c' vs => kI c' fun j => pO vs fun c' vs => kI c' fun i => pE vs <| bB bl fun q' bl => tC q' fun c' q' => kI c' fun a => tC q' fun c' q' => kI c' fun b => tC q' fun c' q' => kI c' fun c => tC q' fun c' q' => kI c' fun d => tE q' <| bAR 23 bl fun t bl => bE bl <| some (U_rect_Cells_1 a b c d w h l g u j i t)).getD .no
theorem tu_rect_Cells_1 (a b c d w h l g u j i : Int) (t : List Rc) : T_rect_Cells_1 [.one (.int .i64 w), .one (.int .i64 h), .one (.ptr 0 0), .one (.int .i64 l), .one (.int .i64 g), .one (.int .i64 u), .one (.row 1), .one (.int .i64 j), .one (.int .i64 i)] [some (.box [.int .i64 a, .int .i64 b, .int .i64 c, .int .i64 d]), some (.arr 23 (.pair (.int .i64) (.pair (.int .i64) (.pair (.int .i64) (.int .i64)))) t)] = U_rect_Cells_1 a b c d w h l g u j i t := by kernel_rfl
theorem b_rect_Cells_1 (a b c d w h l g u j i : Int) (t : List Rc) (Kc : Ex → Option (List V × List (Option Blk)) → Option Out) : exec Try.prog t_rect_Cells (annOf []) l_rect_Cells 20 0 (loopOf Try.f34 1) (unp 86 [1, 2, 3, 7, 8, 10, 11, 12, 13] [.one (.int .i64 w), .one (.int .i64 h), .one (.ptr 0 0), .one (.int .i64 l), .one (.int .i64 g), .one (.int .i64 u), .one (.row 1), .one (.int .i64 j), .one (.int .i64 i)] [some (.box [.int .i64 a, .int .i64 b, .int .i64 c, .int .i64 d]), some (.arr 23 (.pair (.int .i64) (.pair (.int .i64) (.pair (.int .i64) (.int .i64)))) t)]) (endc 0 86 [1, 2, 3, 7, 8, 10, 11, 12, 13] (kxOf [1, 2, 3, 7, 8, 10, 11, 12] [6]) Kc) =
  (T_rect_Cells_1 [.one (.int .i64 w), .one (.int .i64 h), .one (.ptr 0 0), .one (.int .i64 l), .one (.int .i64 g), .one (.int .i64 u), .one (.row 1), .one (.int .i64 j), .one (.int .i64 i)] [some (.box [.int .i64 a, .int .i64 b, .int .i64 c, .int .i64 d]), some (.arr 23 (.pair (.int .i64) (.pair (.int .i64) (.pair (.int .i64) (.int .i64)))) t)]).runc Kc := by kernel_rfl
end
end Go.Rx.Ch24

set_option linter.unusedVariables false
set_option maxRecDepth 100000
set_option maxHeartbeats 4000000
open Go Go.Rx Go.Proofs
namespace Go.Rx.Ch24
noncomputable section
def t_tileFits : FuncId → Option Summ := tabOf [(26, G_pyr_Indices), (28, G_pyr_Band), (37, G_rect_Reduce), (40, G_pyr_Resolution), (41, G_params_Precinct), (84, G_params_cells)]
def l_tileFits : Nat → Option LSumm := ltOf [(3, ⟨0, 92, [4, 5, 7, 16, 17, 18], (kxOf [7] [6]), S_tileFits_0⟩), (7, ⟨0, 92, [4, 5, 7, 10, 11, 16, 17, 18], (kxOf [4, 5, 7, 16, 17, 18] [6]), S_tileFits_1⟩), (14, ⟨0, 92, [4, 5, 7, 10, 11, 12, 16, 17, 18, 65, 66, 67], (kxOf [4, 5, 7, 10, 11, 16, 17, 18] [6]), S_tileFits_2⟩)]
theorem e_tileFits (h : Hd) (p : Pm) (a b c d : Int) : funR Try.prog t_tileFits (annOf []) l_tileFits 20 Try.f53 [.agg (hdC h), .agg (pmC p), .agg [.int .i64 a, .int .i64 b, .int .i64 c, .int .i64 d]] [] =
  (ite2 (k_tileFits_0 p h.cs a b c d 0 (↑(List.length h.cs) : Int) 0)
  (ite2 (compsOK (a, b, c, d) p h.cs)
    (some ⟨.one (.bool (decide (packs (a, b, c, d) p h.cs ≤ 65536))), [], []⟩)
    (some ⟨.one (.bool false), [], []⟩))
  none) := by kernel_rfl
def U_tileFits_0 (p : Pm) (l : List (Int × Bool × Int × Int)) (a b c d s n i : Int) : LT :=
  (.br (decide (i < n))
    (.br (decide (0 ≤ i ∧ i < (↑(List.length l) : Int)))
      (.br (k_tileFits_1 p l a b c d (reduce a b c d (gC l (Int.toNat i)).snd.snd.fst (gC l (Int.toNat i)).snd.snd.snd).fst (reduce a b c d (gC l (Int.toNat i)).snd.snd.fst (gC l (Int.toNat i)).snd.snd.snd).snd.fst (reduce a b c d (gC l (Int.toNat i)).snd.snd.fst (gC l (Int.toNat i)).snd.snd.snd).snd.snd.fst (reduce a b c d (gC l (Int.toNat i)).snd.snd.fst (gC l (Int.toNat i)).snd.snd.snd).snd.snd.snd s n i 0)
        (.br (compOK ((reduce a b c d (gC l (Int.toNat i)).snd.snd.fst (gC l (Int.toNat i)).snd.snd.snd).fst, (reduce a b c d (gC l (Int.toNat i)).snd.snd.fst (gC l (Int.toNat i)).snd.snd.snd).snd.fst, (reduce a b c d (gC l (Int.toNat i)).snd.snd.fst (gC l (Int.toNat i)).snd.snd.snd).snd.snd.fst, (reduce a b c d (gC l (Int.toNat i)).snd.snd.fst (gC l (Int.toNat i)).snd.snd.snd).snd.snd.snd) p)
          (.leaf Ex.normal [V.one (C.ptr 0 0), V.one (C.ptr 1 0), .one (.int .i64 (s + p.la * compN ((reduce a b c d (gC l (Int.toNat i)).snd.snd.fst (gC l (Int.toNat i)).snd.snd.snd).fst, (reduce a b c d (gC l (Int.toNat i)).snd.snd.fst (gC l (Int.toNat i)).snd.snd.snd).snd.fst, (reduce a b c d (gC l (Int.toNat i)).snd.snd.fst (gC l (Int.toNat i)).snd.snd.snd).snd.snd.fst, (reduce a b c d (gC l (Int.toNat i)).snd.snd.fst (gC l (Int.toNat i)).snd.snd.snd).snd.snd.snd) p)), V.one (C.lst (Sh.pair (Sh.int .i64) (Sh.pair Sh.bool (Sh.pair (Sh.int .i64) (Sh.int .i64)))) l), .one (.int .i64 n), .one (.int .i64 (IntKind.wrap .i64 (i + 1)))] [some (Blk.box [.int .i64 p.ke, .int .i64 p.le, .int .i64 p.co, .int .i64 p.bx, .int .i64 p.bw, C.lst (Sh.pair (Sh.int .i64) (Sh.int .i64)) p.pr, .int .i64 p.od, .int .i64 p.la, .bool p.m1, .bool p.m2, .bool p.m3, .bool p.m4, .bool p.m5, .bool p.dv, .bool p.sy, .bool p.fe, C.lst (Sh.int .i64) p.st, .int .i64 p.de, .int .i64 p.sf]), some (Blk.box [.int .i64 a, .int .i64 b, .int .i64 c, .int .i64 d])])
          (.leaf Ex.ret [.one (.bool false)] []))
        .no)
      .no)
    (.leaf (Ex.exit 0) [.one (.int .i64 s)] []))
def T_tileFits_0 : List V → List (Option Blk) → LT := fun vs bl => (pO vs fun c' vs => kP 0 0 c' <| pO vs fun c' vs => kP 1 0 c' <| pO vs fun c' vs => kI c' fun s => pO vs fun c' vs => kLC c' fun l => pO vs fun c' vs => kI c' fun n => pO vs fun c' vs => kI c' fun i => pE vs <| bB bl fun q' bl => rdPm q' fun p => bB bl fun q' bl => tC q' fun c' q' => kI c' fun a => tC q' fun c' q' => kI c' fun b => tC q' fun c' q' => kI c' fun c => tC q' fun c' q' => kI c' fun d => tE q' <| bE bl <| some (U_tileFits_0 p l a b c d s n i)).getD .no
theorem tu_tileFits_0 (p : Pm) (l : List (Int × Bool × Int × Int)) (a b c d s n i : Int) : T_tileFits_0 [.one (.ptr 0 0), .one (.ptr 1 0), .one (.int .i64 s), .one (.lst (.pair (.int .i64) (.pair .bool (.pair (.int .i64) (.int .i64)))) l), .one (.int .i64 n), .one (.int .i64 i)] [some (.box (pmC p)), some (.box [.int .i64 a, .int .i64 b, .int .i64 c, .int .i64 d])] = U_tileFits_0 p l a b c d s n i := by kernel_rfl
theorem b_tileFits_0 (p : Pm) (l : List (Int × Bool × Int × Int)) (a b c d s n i : Int) (Kc : Ex → Option (List V × List (Option Blk)) → Option Out) : exec Try.prog t_tileFits (annOf []) l_tileFits 20 0 (loopOf Try.f53 0) (unp 92 [4, 5, 7, 16, 17, 18] [.one (.ptr 0 0), .one (.ptr 1 0), .one (.int .i64 s), .one (.lst (.pair (.int .i64) (.pair .bool (.pair (.int .i64) (.int .i64)))) l), .one (.int .i64 n), .one (.int .i64 i)] [some (.box (pmC p)), some (.box [.int .i64 a, .int .i64 b, .int .i64 c, .int .i64 d])]) (endc 0 92 [4, 5, 7, 16, 17, 18] (kxOf [7] [6]) Kc) =
  (T_tileFits_0 [.one (.ptr 0 0), .one (.ptr 1 0), .one (.int .i64 s), .one (.lst (.pair (.int .i64) (.pair .bool (.pair (.int .i64) (.int .i64)))) l), .one (.int .i64 n), .one (.int .i64 i)] [some (.box (pmC p)), some (.box [.int .i64 a, .int .i64 b, .int .i64 c, .int .i64 d])]).runc Kc := by kernel_rfl
def U_tileFits_1 (p : Pm) (l : List (Int × Bool × Int × Int)) (a b c d e f g o s n i res : Int) : LT :=
  (.br (decide (res ≤ p.le))
    (.br (inr 0 12 (prec p res).fst && inr 0 12 (prec p res).snd)
      (.br (decide (res > 0))
        (.br (k_tileFits_2 p l (idxs p.le res) a b c d e f g o (IntKind.wrap .i64 ((prec p res).fst - 1)) (IntKind.wrap .i64 ((prec p res).snd - 1)) (IntKind.wrap .i64 (s + IntKind.wrap .i64 (cellsN (resR e f g o p.le res).fst (resR e f g o p.le res).snd.fst (resR e f g o p.le res).snd.snd.fst (resR e f g o p.le res).snd.snd.snd (prec p res).fst (prec p res).snd * p.la))) n i res (↑(List.length (idxs p.le res)) : Int) 0)
          (.br (p_tileFits_2 p l (idxs p.le res) a b c d e f g o (IntKind.wrap .i64 ((prec p res).fst - 1)) (IntKind.wrap .i64 ((prec p res).snd - 1)) (IntKind.wrap .i64 (s + IntKind.wrap .i64 (cellsN (resR e f g o p.le res).fst (resR e f g o p.le res).snd.fst (resR e f g o p.le res).snd.snd.fst (resR e f g o p.le res).snd.snd.snd (prec p res).fst (prec p res).snd * p.la))) n i res)
            (.leaf Ex.normal [V.one (C.ptr 0 0), V.one (C.ptr 1 0), .one (.int .i64 (IntKind.wrap .i64 (s + IntKind.wrap .i64 (cellsN (resR e f g o p.le res).fst (resR e f g o p.le res).snd.fst (resR e f g o p.le res).snd.snd.fst (resR e f g o p.le res).snd.snd.snd (prec p res).fst (prec p res).snd * p.la)))), V.one (C.ptr 2 0), .one (.int .i64 (IntKind.wrap .i64 (res + 1))), V.one (C.lst (Sh.pair (Sh.int .i64) (Sh.pair Sh.bool (Sh.pair (Sh.int .i64) (Sh.int .i64)))) l), .one (.int .i64 n), .one (.int .i64 i)] [some (Blk.box [.int .i64 p.ke, .int .i64 p.le, .int .i64 p.co, .int .i64 p.bx, .int .i64 p.bw, C.lst (Sh.pair (Sh.int .i64) (Sh.int .i64)) p.pr, .int .i64 p.od, .int .i64 p.la, .bool p.m1, .bool p.m2, .bool p.m3, .bool p.m4, .bool p.m5, .bool p.dv, .bool p.sy, .bool p.fe, C.lst (Sh.int .i64) p.st, .int .i64 p.de, .int .i64 p.sf]), some (Blk.box [.int .i64 a, .int .i64 b, .int .i64 c, .int .i64 d]), some (Blk.box [.int .i64 e, .int .i64 f, .int .i64 g, .int .i64 o])])
            (.leaf Ex.ret [.one (.bool false)] []))
          .no)
        (.br (k_tileFits_2 p l (idxs p.le res) a b c d e f g o (prec p res).fst (prec p res).snd (IntKind.wrap .i64 (s + IntKind.wrap .i64 (cellsN (resR e f g o p.le res).fst (resR e f g o p.le res).snd.fst (resR e f g o p.le res).snd.snd.fst (resR e f g o p.le res).snd.snd.snd (prec p res).fst (prec p res).snd * p.la))) n i res (↑(List.length (idxs p.le res)) : Int) 0)
          (.br (p_tileFits_2 p l (idxs p.le res) a b c d e f g o (prec p res).fst (prec p res).snd (IntKind.wrap .i64 (s + IntKind.wrap .i64 (cellsN (resR e f g o p.le res).fst (resR e f g o p.le res).snd.fst (resR e f g o p.le res).snd.snd.fst (resR e f g o p.le res).snd.snd.snd (prec p res).fst (prec p res).snd * p.la))) n i res)
            (.leaf Ex.normal [V.one (C.ptr 0 0), V.one (C.ptr 1 0), .one (.int .i64 (IntKind.wrap .i64 (s + IntKind.wrap .i64 (cellsN (resR e f g o p.le res).fst (resR e f g o p.le res).snd.fst (resR e f g o p.le res).snd.snd.fst (resR e f g o p.le res).snd.snd.snd (prec p res).fst (prec p res).snd * p.la)))), V.one (C.ptr 2 0), .one (.int .i64 (IntKind.wrap .i64 (res + 1))), V.one (C.lst (Sh.pair (Sh.int .i64) (Sh.pair Sh.bool (Sh.pair (Sh.int .i64) (Sh.int .i64)))) l), .one (.int .i64 n), .one (.int .i64 i)] [some (Blk.box [.int .i64 p.ke, .int .i64 p.le, .int .i64 p.co, .int .i64 p.bx, .int .i64 p.bw, C.lst (Sh.pair (Sh.int .i64) (Sh.int .i64)) p.pr, .int .i64 p.od, .int .i64 p.la, .bool p.m1, .bool p.m2, .bool p.m3, .bool p.m4, .bool p.m5, .bool p.dv, .bool p.sy, .bool p.fe, C.lst (Sh.int .i64) p.st, .int .i64 p.de, .int .i64 p.sf]), some (Blk.box [.int .i64 a, .int .i64 b, .int .i64 c, .int .i64 d]), some (Blk.box [.int .i64 e, .int .i64 f, .int .i64 g, .int .i64 o])])
            (.leaf Ex.ret [.one (.bool false)] []))
          .no))
      .no)
    (.leaf (Ex.exit 2) [V.one (C.ptr 0 0), V.one (C.ptr 1 0), .one (.int .i64 s), V.one (C.lst (Sh.pair (Sh.int .i64) (Sh.pair Sh.bool (Sh.pair (Sh.int .i64) (Sh.int .i64)))) l), .one (.int .i64 n), .one (.int .i64 i)] [some (Blk.box [.int .i64 p.ke, .int .i64 p.le, .int .i64 p.co, .int .i64 p.bx, .int .i64 p.bw, C.lst (Sh.pair (Sh.int .i64) (Sh.int .i64)) p.pr, .int .i64 p.od, .int .i64 p.la, .bool p.m1, .bool p.m2, .bool p.m3, .bool p.m4, .bool p.m5, .bool p.dv, .bool p.sy, .bool p.fe, C.lst (Sh.int .i64) p.st, .int .i64 p.de, .int .i64 p.sf]), some (Blk.box [.int .i64 a, .int .i64 b, .int .i64 c, .int .i64 d])]))
def T_tileFits_1 : List V → List (Option Blk) → LT := fun vs bl => (pO vs fun c' vs => kP 0 0 c' <| pO vs fun c' vs => kP 1 0 c' <| pO vs fun c' vs => kI c' fun s => pO vs fun c' vs => kP 2 0 c' <| pO vs fun c' vs => kI c' fun res => pO vs fun c' vs => kLC c' fun l => pO vs fun c' vs => kI c' fun n => pO vs fun c' vs => kI c' fun i => pE vs <| bB bl fun q' bl => rdPm q' fun p => bB bl fun q' bl => tC q' fun c' q' => kI c' fun a => tC q' fun c' q' => kI c' fun b => tC q' fun c' q' => kI c' fun c => tC q' fun c' q' => kI c' fun d => tE q' <| bB bl fun q' bl => tC q' fun c' q' => kI c' fun e => tC q' fun c' q' => kI c' fun f => tC q' fun c' q' => kI c' fun g => tC q' fun c' q' => kI c' fun o => tE q' <| bE bl <| some (U_tileFits_1 p l a b c d e f g o s n i res)).getD .no
theorem tu_tileFits_1 (p : Pm) (l : List (Int × Bool × Int × Int)) (a b c d e f g o s n i res : Int) : T_tileFits_1 [.one (.ptr 0 0), .one (.ptr 1 0), .one (.int .i64 s), .one (.ptr 2 0), .one (.int .i64 res), .one (.lst (.pair (.int .i64) (.pair .bool (.pair (.int .i64) (.int .i64)))) l), .one (.int .i64 n), .one (.int .i64 i)] [some (.box (pmC p)), some (.box [.int .i64 a, .int .i64 b, .int .i64 c, .int .i64 d]), some (.box [.int .i64 e, .int .i64 f, .int .i64 g, .int .i64 o])] = U_tileFits_1 p l a b c d e f g o s n i res := by kernel_rfl
theorem b_tileFits_1 (p : Pm) (l : List (Int × Bool × Int × Int)) (a b c d e f g o s n i res : Int) (Kc : Ex → Option (List V × List (Option Blk)) → Option Out) : exec Try.prog t_tileFits (annOf []) l_tileFits 20 0 (loopOf Try.f53 1) (unp 92 [4, 5, 7, 10, 11, 16, 17, 18] [.one (.ptr 0 0), .one (.ptr 1 0), .one (.int .i64 s), .one (.ptr 2 0), .one (.int .i64 res), .one (.lst (.pair (.int .i64) (.pair .bool (.pair (.int .i64) (.int .i64)))) l), .one (.int .i64 n), .one (.int .i64 i)] [some (.box (pmC p)), some (.box [.int .i64 a, .int .i64 b, .int .i64 c, .int .i64 d]), some (.box [.int .i64 e, .int .i64 f, .int .i64 g, .int .i64 o])]) (endc 0 92 [4, 5, 7, 10, 11, 16, 17, 18] (kxOf [4, 5, 7, 16, 17, 18] [6]) Kc) =
  (T_tileFits_1 [.one (.ptr 0 0), .one (.ptr 1 0), .one (.int .i64 s), .one (.ptr 2 0), .one (.int .i64 res), .one (.lst (.pair (.int .i64) (.pair .bool (.pair (.int .i64) (.int .i64)))) l), .one (.int .i64 n), .one (.int .i64 i)] [some (.box (pmC p)), some (.box [.int .i64 a, .int .i64 b, .int .i64 c, .int .i64 d]), some (.box [.int .i64 e, .int .i64 f, .int .i64 g, .int .i64 o])]).runc Kc := by kernel_rfl
def U_tileFits_2 (p : Pm) (l : List (Int × Bool × Int × Int)) (t : List Int) (a b c d e f g o x y s m u res : Int) (n i : Int) : LT :=
  (.br (decide (i < n))
    (.br (decide (0 ≤ i ∧ i < (↑(List.length t) : Int)))
      (.br (decide (Int.toNat i < List.length t))
        (.br (inr 0 12 (if x < p.bx then x else p.bx) && inr 0 12 (if y < p.bw then y else p.bw))
          (.br (decide (cellsN (bandR e f g o p.le (gI t (Int.toNat i))).fst (bandR e f g o p.le (gI t (Int.toNat i))).snd.fst (bandR e f g o p.le (gI t (Int.toNat i))).snd.snd.fst (bandR e f g o p.le (gI t (Int.toNat i))).snd.snd.snd (if x < p.bx then x else p.bx) (if y < p.bw then y else p.bw) > 65536))
            (.leaf Ex.ret [.one (.bool false)] [])
            (.leaf Ex.normal [V.one (C.ptr 0 0), V.one (C.ptr 1 0), .one (.int .i64 s), V.one (C.ptr 2 0), .one (.int .i64 res), V.one (C.ptr 3 0), V.one (C.lst (Sh.pair (Sh.int .i64) (Sh.pair Sh.bool (Sh.pair (Sh.int .i64) (Sh.int .i64)))) l), .one (.int .i64 m), .one (.int .i64 u), V.one (C.row 4), .one (.int .i64 n), .one (.int .i64 (IntKind.wrap .i64 (i + 1)))] [some (Blk.box [.int .i64 p.ke, .int .i64 p.le, .int .i64 p.co, .int .i64 p.bx, .int .i64 p.bw, C.lst (Sh.pair (Sh.int .i64) (Sh.int .i64)) p.pr, .int .i64 p.od, .int .i64 p.la, .bool p.m1, .bool p.m2, .bool p.m3, .bool p.m4, .bool p.m5, .bool p.dv, .bool p.sy, .bool p.fe, C.lst (Sh.int .i64) p.st, .int .i64 p.de, .int .i64 p.sf]), some (Blk.box [.int .i64 a, .int .i64 b, .int .i64 c, .int .i64 d]), some (Blk.box [.int .i64 e, .int .i64 f, .int .i64 g, .int .i64 o]), some (Blk.box [.int .i64 x, .int .i64 y]), some (Blk.arr 3 (Sh.int .i64) t)]))
          .no)
        .no)
      .no)
    (.leaf (Ex.exit 4) [V.one (C.ptr 0 0), V.one (C.ptr 1 0), .one (.int .i64 s), V.one (C.ptr 2 0), .one (.int .i64 res), V.one (C.lst (Sh.pair (Sh.int .i64) (Sh.pair Sh.bool (Sh.pair (Sh.int .i64) (Sh.int .i64)))) l), .one (.int .i64 m), .one (.int .i64 u)] [some (Blk.box [.int .i64 p.ke, .int .i64 p.le, .int .i64 p.co, .int .i64 p.bx, .int .i64 p.bw, C.lst (Sh.pair (Sh.int .i64) (Sh.int .i64)) p.pr, .int .i64 p.od, .int .i64 p.la, .bool p.m1, .bool p.m2, .bool p.m3, .bool p.m4, .bool p.m5, .bool p.dv, .bool p.sy, .bool p.fe, C.lst (Sh.int .i64) p.st, .int .i64 p.de, .int .i64 p.sf]), some (Blk.box [.int .i64 a, .int .i64 b, .int .i64 c, .int .i64 d]), some (Blk.box [.int .i64 e, .int .i64 f, .int .i64 g, .int .i64 o])]))
def T_tileFits_2 : List V → List (Option Blk) → LT := fun vs bl => (pO vs fun c' vs => kP 0 0 c' <| pO vs fun c' vs => kP 1 0 c' <| pO vs fun c' vs => kI c' fun s => pO vs fun c' vs => kP 2 0 c' <| pO vs fun c' vs => kI c' fun res => pO vs fun c' vs => kP 3 0 c' <| pO vs fun c' vs => kLC c' fun l => pO vs fun c' vs => kI c' fun m => pO vs fun c' vs => kI c' fun u => pO vs fun c' vs => kR 4 c' <| pO vs fun c' vs => kI c' fun n => pO vs fun c' vs => kI c' fun i => pE vs <| bB bl fun q' bl => rdPm q' fun p => bB bl fun q' bl => tC q' fun c' q' => kI c' fun a => tC q' fun c' q' => kI c' fun b => tC q' fun c' q' => kI c' fun c => tC q' fun c' q' => kI c' fun d => tE q' <| bB bl fun q' bl => tC q' fun c' q' => kI c' fun e => tC q' fun c' q' => kI c' fun f => tC q' fun c' q' => kI c' fun g => tC q' fun c' q' => kI c' fun o => tE q' <| bB bl fun q' bl => tC q' fun c' q' => kI c' fun x => tC q' fun c' q' => kI c' fun y => tE q' <| bAI 3 bl fun t bl => bE bl <| some (U_tileFits_2 p l t a b c d e f g o x y s m u res n i)).getD .no
theorem tu_tileFits_2 (p : Pm) (l : List (Int × Bool × Int × Int)) (t : List Int) (a b c d e f g o x y s m u res : Int) (n i : Int) : T_tileFits_2 [.one (.ptr 0 0), .one (.ptr 1 0), .one (.int .i64 s), .one (.ptr 2 0), .one (.int .i64 res), .one (.ptr 3 0), .one (.lst (.pair (.int .i64) (.pair .bool (.pair (.int .i64) (.int .i64)))) l), .one (.int .i64 m), .one (.int .i64 u), .one (.row 4), .one (.int .i64 n), .one (.int .i64 i)] [some (.box (pmC p)), some (.box [.int .i64 a, .int .i64 b, .int .i64 c, .int .i64 d]), some (.box [.int .i64 e, .int .i64 f, .int .i64 g, .int .i64 o]), some (.box [.int .i64 x, .int .i64 y]), some (.arr 3 (.int .i64) t)] = U_tileFits_2 p l t a b c d e f g o x y s m u res n i := by kernel_rfl
theorem b_tileFits_2 (p : Pm) (l : List (Int × Bool × Int × Int)) (t : List Int) (a b c d e f g o x y s m u res : Int) (n i : Int) (Kc : Ex → Option (List V × List (Option Blk)) → Option Out) : exec Try.prog t_tileFits (annOf []) l_tileFits 20 0 (loopOf Try.f53 2) (unp 92 [4, 5, 7, 10, 11, 12, 16, 17, 18, 65, 66, 67] [.one (.ptr 0 0), .one (.ptr 1 0), .one (.int .i64 s), .one (.ptr 2 0), .one (.int .i64 res), .one (.ptr 3 0), .one (.lst (.pair (.int .i64) (.pair .bool (.pair (.int .i64) (.int .i64)))) l), .one (.int .i64 m), .one (.int .i64 u), .one (.row 4), .one (.int .i64 n), .one (.int .i64 i)] [some (.box (pmC p)), some (.box [.int .i64 a, .int .i64 b, .int .i64 c, .int .i64 d]), some (.box [.int .i64 e, .int .i64 f, .int .i64 g, .int .i64 o]), some (.box [.int .i64 x, .int .i64 y]), some (.arr 3 (.int .i64) t)]) (endc 0 92 [4, 5, 7, 10, 11, 12, 16, 17, 18, 65, 66, 67] (kxOf [4, 5, 7, 10, 11, 16, 17, 18] [6]) Kc) =
  (T_tileFits_2 [.one (.ptr 0 0), .one (.ptr 1 0), .one (.int .i64 s), .one (.ptr 2 0), .one (.int .i64 res), .one (.ptr 3 0), .one (.lst (.pair (.int .i64) (.pair .bool (.pair (.int .i64) (.int .i64)))) l), .one (.int .i64 m), .one (.int .i64 u), .one (.row 4), .one (.int .i64 n), .one (.int .i64 i)] [some (.box (pmC p)), some (.box [.int .i64 a, .int .i64 b, .int .i64 c, .int .i64 d]), some (.box [.int .i64 e, .int .i64 f, .int .i64 g, .int .i64 o]), some (.box [.int .i64 x, .int .i64 y]), some (.arr 3 (.int .i64) t)]).runc Kc := by kernel_rfl
end
end Go.Rx.Ch24

set_option linter.unusedVariables false
set_option maxRecDepth 100000
set_option maxHeartbeats 4000000
open Go Go.Rx Go.Proofs
namespace Go.Rx.Ch24
noncomputable section
def t_params_Check : FuncId → Option Summ := tabOf [(33, G_params_Header), (34, G_rect_Cells), (51, G_params_within), (52, G_params_numbers), (53, G_tileFits)]
def l_params_Check : Nat → Option LSumm := ltOf [(9, ⟨0, 54, [2, 3, 42, 43, 44], (kxOf [] [4]), S_params_Check_0⟩)]
theorem e_params_Check (h : Hd) (p : Pm) : funR Try.prog t_params_Check (annOf []) l_params_Check 20 Try.f25 [.agg (hdC h), .agg (pmC p)] [] =
  (ite2 (small (List.length h.cs))
  (ite2 (header h != 0)
    (some ⟨.one (.int .i64 (header h)), [], []⟩)
    (ite2 (!within 1 3 [p.ke])
      (some ⟨.one (.int .i64 3), [], []⟩)
      (ite2 (!within 0 2 [p.co])
        (some ⟨.one (.int .i64 3), [], []⟩)
        (ite2 (!within 1 5 [p.od])
          (some ⟨.one (.int .i64 3), [], []⟩)
          (ite2 (small (List.length p.pr) && small (List.length p.st))
            (ite2 (!(nums p && colors h p))
              (some ⟨.one (.int .i64 13), [], []⟩)
              (ite2 (decide (h.tw ≤ 4096) && decide (h.th ≤ 4096))
                (ite2 (k_params_Check_0 h p (tilesL h.a h.b h.c h.d h.tw h.th) (↑(List.length (tilesL h.a h.b h.c h.d h.tw h.th)) : Int) 0)
                  (ite2 (p_params_Check_0 h p (tilesL h.a h.b h.c h.d h.tw h.th))
                    (some ⟨.one (.int .i64 0), [], []⟩)
                    (some ⟨.one (.int .i64 5), [], []⟩))
                  none)
                none))
            none)))))
  none) := by kernel_rfl
def U_params_Check_0 (h : Hd) (p : Pm) (t : List Rc) (n i : Int) : LT :=
  (.br (decide (i < n))
    (.br (decide (0 ≤ i ∧ i < (↑(List.length t) : Int)))
      (.br (decide (Int.toNat i < List.length t))
        (.br (nums p && valid (gR t (Int.toNat i)).fst (gR t (Int.toNat i)).snd.fst (gR t (Int.toNat i)).snd.snd.fst (gR t (Int.toNat i)).snd.snd.snd && small (List.length h.cs) && decide (List.length h.cs ≤ 4))
          (.br (!fits ((gR t (Int.toNat i)).fst, (gR t (Int.toNat i)).snd.fst, (gR t (Int.toNat i)).snd.snd.fst, (gR t (Int.toNat i)).snd.snd.snd) p h.cs)
            (.leaf Ex.ret [.one (.int .i64 5)] [])
            (.leaf Ex.normal [V.one (C.ptr 0 0), V.one (C.ptr 1 0), V.one (C.row 2), .one (.int .i64 n), .one (.int .i64 (IntKind.wrap .i64 (i + 1)))] [some (Blk.box [.int .i64 h.a, .int .i64 h.b, .int .i64 h.c, .int .i64 h.d, .int .i64 h.tw, .int .i64 h.th, C.lst (Sh.pair (Sh.int .i64) (Sh.pair Sh.bool (Sh.pair (Sh.int .i64) (Sh.int .i64)))) h.cs]), some (Blk.box [.int .i64 p.ke, .int .i64 p.le, .int .i64 p.co, .int .i64 p.bx, .int .i64 p.bw, C.lst (Sh.pair (Sh.int .i64) (Sh.int .i64)) p.pr, .int .i64 p.od, .int .i64 p.la, .bool p.m1, .bool p.m2, .bool p.m3, .bool p.m4, .bool p.m5, .bool p.dv, .bool p.sy, .bool p.fe, C.lst (Sh.int .i64) p.st, .int .i64 p.de, .int .i64 p.sf]), some (Blk.arr 23 (Sh.pair (Sh.int .i64) (Sh.pair (Sh.int .i64) (Sh.pair (Sh.int .i64) (Sh.int .i64)))) t)]))
          .no)
        .no)
      .no)
    (.leaf (Ex.exit 0) [] []))
def T_params_Check_0 : List V → List (Option Blk) → LT := fun vs bl => (pO vs fun c' vs => kP 0 0 c' <| pO vs fun c' vs => kP 1 0 c' <| pO vs fun c' vs => kR 2 c' <| pO vs fun c' vs => kI c' fun n => pO vs fun c' vs => kI c' fun i => pE vs <| bB bl fun q' bl => rdHd q' fun h => bB bl fun q' bl => rdPm q' fun p => bAR 23 bl fun t bl => bE bl <| some (U_params_Check_0 h p t n i)).getD .no
theorem tu_params_Check_0 (h : Hd) (p : Pm) (t : List Rc) (n i : Int) : T_params_Check_0 [.one (.ptr 0 0), .one (.ptr 1 0), .one (.row 2), .one (.int .i64 n), .one (.int .i64 i)] [some (.box (hdC h)), some (.box (pmC p)), some (.arr 23 (.pair (.int .i64) (.pair (.int .i64) (.pair (.int .i64) (.int .i64)))) t)] = U_params_Check_0 h p t n i := by kernel_rfl
theorem b_params_Check_0 (h : Hd) (p : Pm) (t : List Rc) (n i : Int) (Kc : Ex → Option (List V × List (Option Blk)) → Option Out) : exec Try.prog t_params_Check (annOf []) l_params_Check 20 0 (loopOf Try.f25 0) (unp 54 [2, 3, 42, 43, 44] [.one (.ptr 0 0), .one (.ptr 1 0), .one (.row 2), .one (.int .i64 n), .one (.int .i64 i)] [some (.box (hdC h)), some (.box (pmC p)), some (.arr 23 (.pair (.int .i64) (.pair (.int .i64) (.pair (.int .i64) (.int .i64)))) t)]) (endc 0 54 [2, 3, 42, 43, 44] (kxOf [] [4]) Kc) =
  (T_params_Check_0 [.one (.ptr 0 0), .one (.ptr 1 0), .one (.row 2), .one (.int .i64 n), .one (.int .i64 i)] [some (.box (hdC h)), some (.box (pmC p)), some (.arr 23 (.pair (.int .i64) (.pair (.int .i64) (.pair (.int .i64) (.int .i64)))) t)]).runc Kc := by kernel_rfl
end
end Go.Rx.Ch24

set_option linter.unusedVariables false
set_option maxRecDepth 100000
set_option maxHeartbeats 4000000
open Go Go.Rx Go.Proofs
namespace Go.Rx.Ch24
noncomputable section
def t_rect_Has : FuncId → Option Summ := tabOf []
def l_rect_Has : Nat → Option LSumm := ltOf []
theorem e_rect_Has (a b c d x y : Int) : funR Try.prog t_rect_Has (annOf []) l_rect_Has 20 Try.f27 [.agg [.int .i64 a, .int .i64 b, .int .i64 c, .int .i64 d], .agg [.int .i64 x, .int .i64 y]] [] =
  (ite2 (decide (a ≤ x))
  (ite2 (decide (x < c))
    (ite2 (decide (b ≤ y))
      (some ⟨.one (.bool (decide (y < d))), [], []⟩)
      (some ⟨.one (.bool false), [], []⟩))
    (some ⟨.one (.bool false), [], []⟩))
  (some ⟨.one (.bool false), [], []⟩)) := by kernel_rfl
def t_pa_exponents : FuncId → Option Summ := tabOf []
def l_pa_exponents : Nat → Option LSumm := ltOf []
theorem e_pa_exponents (a b m : Int) : funR Try.prog t_pa_exponents (annOf []) l_pa_exponents 20 Try.f86 [.one (.int .i64 a), .one (.int .i64 b), .one (.int .i64 m)] [] =
  (ite2 (decide (a ≥ 0))
  (ite2 (decide (a ≤ m))
    (ite2 (decide (b ≥ 0))
      (some ⟨.one (.bool (decide (b ≤ m))), [], []⟩)
      (some ⟨.one (.bool false), [], []⟩))
    (some ⟨.one (.bool false), [], []⟩))
  (some ⟨.one (.bool false), [], []⟩)) := by kernel_rfl
def t_pa_span : FuncId → Option Summ := tabOf []
def l_pa_span : Nat → Option LSumm := ltOf []
theorem e_pa_span (f t e : Int) : funR Try.prog t_pa_span (annOf []) l_pa_span 20 Try.f87 [.one (.int .i64 f), .one (.int .i64 t), .one (.int .i64 e)] [] =
  (ite2 (decide (0 ≤ IntKind.wrap IntKind.u64 e))
  (ite2 (decide (0 ≤ IntKind.wrap IntKind.u64 e))
    (some ⟨V.tup [(false, [.int .i64 (Int.fdiv f (2 ^ min (Int.toNat (IntKind.wrap IntKind.u64 e)) 64))]), (false, [.int .i64 (IntKind.wrap .i64 (IntKind.wrap .i64 (Int.fdiv (IntKind.wrap .i64 (t - 1)) (2 ^ min (Int.toNat (IntKind.wrap IntKind.u64 e)) 64) - Int.fdiv f (2 ^ min (Int.toNat (IntKind.wrap IntKind.u64 e)) 64)) + 1))])], [], []⟩)
    none)
  none) := by kernel_rfl
def t_pa_cell : FuncId → Option Summ := tabOf []
def l_pa_cell : Nat → Option LSumm := ltOf []
theorem e_pa_cell (c r a b : Int) : funR Try.prog t_pa_cell (annOf []) l_pa_cell 20 Try.f93 [.one (.int .i64 c), .one (.int .i64 r), .one (.int .i64 a), .one (.int .i64 b)] [] =
  (ite2 (decide (0 ≤ IntKind.wrap IntKind.u64 a))
  (ite2 (decide (0 ≤ IntKind.wrap IntKind.u64 b))
    (ite2 (decide (0 ≤ IntKind.wrap IntKind.u64 a))
      (ite2 (decide (0 ≤ IntKind.wrap IntKind.u64 b))
        (some ⟨.agg [.int .i64 (IntKind.wrap .i64 (c * 2 ^ min (Int.toNat (IntKind.wrap IntKind.u64 a)) 64)), .int .i64 (IntKind.wrap .i64 (r * 2 ^ min (Int.toNat (IntKind.wrap IntKind.u64 b)) 64)), .int .i64 (IntKind.wrap .i64 (IntKind.wrap .i64 (c + 1) * 2 ^ min (Int.toNat (IntKind.wrap IntKind.u64 a)) 64)), .int .i64 (IntKind.wrap .i64 (IntKind.wrap .i64 (r + 1) * 2 ^ min (Int.toNat (IntKind.wrap IntKind.u64 b)) 64))], [], []⟩)
        none)
      none)
    none)
  none) := by kernel_rfl
def t_pa_grid : FuncId → Option Summ := tabOf [(56, G_rect_Valid), (58, G_rect_Empty), (86, G_pa_exponents), (87, G_pa_span)]
def l_pa_grid : Nat → Option LSumm := ltOf []
theorem e_pa_grid (a b c d x y m : Int) : funR Try.prog t_pa_grid (annOf []) l_pa_grid 20 Try.f70 [.agg [.int .i64 a, .int .i64 b, .int .i64 c, .int .i64 d], .one (.int .i64 x), .one (.int .i64 y), .one (.int .i64 m)] [] =
  (ite2 (!valid a b c d)
  (some ⟨V.tup [(false, [.int .i64 0]), (false, [.int .i64 0]), (false, [.int .i64 0]), (false, [.int .i64 0])], [], []⟩)
  (ite2 (empty a b c d)
    (some ⟨V.tup [(false, [.int .i64 0]), (false, [.int .i64 0]), (false, [.int .i64 0]), (false, [.int .i64 0])], [], []⟩)
    (ite2 (!(inr 0 m x && inr 0 m y))
      (some ⟨V.tup [(false, [.int .i64 0]), (false, [.int .i64 0]), (false, [.int .i64 0]), (false, [.int .i64 0])], [], []⟩)
      (ite2 (inr 0 4096 a && inr 0 4096 c && inr 0 12 x)
        (ite2 (inr 0 4096 b && inr 0 4096 d && inr 0 12 y)
          (ite2 (decide (IntKind.wrap .i64 (spN a c x * spN b d y) > 65536))
            (some ⟨V.tup [(false, [.int .i64 0]), (false, [.int .i64 0]), (false, [.int .i64 0]), (false, [.int .i64 0])], [], []⟩)
            (some ⟨V.tup [(false, [.int .i64 (a / pw x)]), (false, [.int .i64 (b / pw y)]), (false, [.int .i64 (spN a c x)]), (false, [.int .i64 (spN b d y)])], [], []⟩))
          none)
        none)))) := by kernel_rfl
def t_pa_Precincts : FuncId → Option Summ := tabOf [(70, G_pa_grid)]
def l_pa_Precincts : Nat → Option LSumm := ltOf []
theorem e_pa_Precincts (a b c d x y : Int) : funR Try.prog t_pa_Precincts (annOf []) l_pa_Precincts 20 Try.f42 [.agg [.int .i64 a, .int .i64 b, .int .i64 c, .int .i64 d], .one (.int .i64 x), .one (.int .i64 y)] [] =
  (some ⟨V.tup [(false, [.int .i64 (gridS a b c d x y 12).snd.snd.fst]), (false, [.int .i64 (gridS a b c d x y 12).snd.snd.snd])], [], []⟩) := by kernel_rfl
def t_pa_place : FuncId → Option Summ := tabOf [(70, G_pa_grid)]
def l_pa_place : Nat → Option LSumm := ltOf []
theorem e_pa_place (a b c d x y i : Int) : funR Try.prog t_pa_place (annOf []) l_pa_place 20 Try.f92 [.agg [.int .i64 a, .int .i64 b, .int .i64 c, .int .i64 d], .one (.int .i64 x), .one (.int .i64 y), .one (.int .i64 i)] [] =
  (ite2 (decide (i < 0))
  (some ⟨V.tup [(false, [.int .i64 0]), (false, [.int .i64 0]), (false, [.bool false])], [], []⟩)
  (ite2 (decide (i ≥ IntKind.wrap .i64 ((gridS a b c d x y 12).snd.snd.fst * (gridS a b c d x y 12).snd.snd.snd)))
    (some ⟨V.tup [(false, [.int .i64 0]), (false, [.int .i64 0]), (false, [.bool false])], [], []⟩)
    (ite2 (!decide ((gridS a b c d x y 12).snd.snd.fst = 0))
      (ite2 (!decide ((gridS a b c d x y 12).snd.snd.fst = 0))
        (some ⟨V.tup [(false, [.int .i64 (IntKind.wrap .i64 ((gridS a b c d x y 12).fst + Int.tmod i (gridS a b c d x y 12).snd.snd.fst))]), (false, [.int .i64 (IntKind.wrap .i64 ((gridS a b c d x y 12).snd.fst + IntKind.wrap .i64 (Int.tdiv i (gridS a b c d x y 12).snd.snd.fst)))]), (false, [.bool true])], [], []⟩)
        none)
      none))) := by kernel_rfl
def t_pa_InBand : FuncId → Option Summ := tabOf [(56, G_rect_Valid), (59, G_rect_Intersect), (92, G_pa_place), (93, G_pa_cell)]
def l_pa_InBand : Nat → Option LSumm := ltOf []
theorem e_pa_InBand (a b c d e f g q o x y i : Int) : funR Try.prog t_pa_InBand (annOf []) l_pa_InBand 20 Try.f76 [.agg [.int .i64 a, .int .i64 b, .int .i64 c, .int .i64 d], .agg [.int .i64 e, .int .i64 f, .int .i64 g, .int .i64 q], .one (.int .i64 o), .one (.int .i64 x), .one (.int .i64 y), .one (.int .i64 i)] [] =
  (ite2 (!plcOk a b c d x y i)
  (some ⟨V.tup [(true, [.int .i64 0, .int .i64 0, .int .i64 0, .int .i64 0]), (false, [.bool false])], [], []⟩)
  (ite2 (!valid e f g q)
    (some ⟨V.tup [(true, [.int .i64 0, .int .i64 0, .int .i64 0, .int .i64 0]), (false, [.bool false])], [], []⟩)
    (ite2 (decide (o < 0))
      (some ⟨V.tup [(true, [.int .i64 0, .int .i64 0, .int .i64 0, .int .i64 0]), (false, [.bool false])], [], []⟩)
      (ite2 (decide (o > 3))
        (some ⟨V.tup [(true, [.int .i64 0, .int .i64 0, .int .i64 0, .int .i64 0]), (false, [.bool false])], [], []⟩)
        (ite2 (o != 0)
          (ite2 (x == 0)
            (some ⟨V.tup [(true, [.int .i64 0, .int .i64 0, .int .i64 0, .int .i64 0]), (false, [.bool false])], [], []⟩)
            (ite2 (y == 0)
              (some ⟨V.tup [(true, [.int .i64 0, .int .i64 0, .int .i64 0, .int .i64 0]), (false, [.bool false])], [], []⟩)
              (ite2 (inr 0 4096 (plcC a b c d x y i) && inr 0 4096 (plcR a b c d x y i) && inr 0 12 (IntKind.wrap .i64 (x - 1)) && inr 0 12 (IntKind.wrap .i64 (y - 1)))
                (ite2 ((inter e f g q (plcC a b c d x y i * pw (IntKind.wrap .i64 (x - 1))) (plcR a b c d x y i * pw (IntKind.wrap .i64 (y - 1))) ((plcC a b c d x y i + 1) * pw (IntKind.wrap .i64 (x - 1))) ((plcR a b c d x y i + 1) * pw (IntKind.wrap .i64 (y - 1)))).fst == 0 && ((inter e f g q (plcC a b c d x y i * pw (IntKind.wrap .i64 (x - 1))) (plcR a b c d x y i * pw (IntKind.wrap .i64 (y - 1))) ((plcC a b c d x y i + 1) * pw (IntKind.wrap .i64 (x - 1))) ((plcR a b c d x y i + 1) * pw (IntKind.wrap .i64 (y - 1)))).snd.fst == 0 && ((inter e f g q (plcC a b c d x y i * pw (IntKind.wrap .i64 (x - 1))) (plcR a b c d x y i * pw (IntKind.wrap .i64 (y - 1))) ((plcC a b c d x y i + 1) * pw (IntKind.wrap .i64 (x - 1))) ((plcR a b c d x y i + 1) * pw (IntKind.wrap .i64 (y - 1)))).snd.snd.fst == 0 && ((inter e f g q (plcC a b c d x y i * pw (IntKind.wrap .i64 (x - 1))) (plcR a b c d x y i * pw (IntKind.wrap .i64 (y - 1))) ((plcC a b c d x y i + 1) * pw (IntKind.wrap .i64 (x - 1))) ((plcR a b c d x y i + 1) * pw (IntKind.wrap .i64 (y - 1)))).snd.snd.snd == 0 && true))))
                  (some ⟨V.tup [(true, [.int .i64 0, .int .i64 0, .int .i64 0, .int .i64 0]), (false, [.bool true])], [], []⟩)
                  (some ⟨V.tup [(true, [.int .i64 (inter e f g q (plcC a b c d x y i * pw (IntKind.wrap .i64 (x - 1))) (plcR a b c d x y i * pw (IntKind.wrap .i64 (y - 1))) ((plcC a b c d x y i + 1) * pw (IntKind.wrap .i64 (x - 1))) ((plcR a b c d x y i + 1) * pw (IntKind.wrap .i64 (y - 1)))).fst, .int .i64 (inter e f g q (plcC a b c d x y i * pw (IntKind.wrap .i64 (x - 1))) (plcR a b c d x y i * pw (IntKind.wrap .i64 (y - 1))) ((plcC a b c d x y i + 1) * pw (IntKind.wrap .i64 (x - 1))) ((plcR a b c d x y i + 1) * pw (IntKind.wrap .i64 (y - 1)))).snd.fst, .int .i64 (inter e f g q (plcC a b c d x y i * pw (IntKind.wrap .i64 (x - 1))) (plcR a b c d x y i * pw (IntKind.wrap .i64 (y - 1))) ((plcC a b c d x y i + 1) * pw (IntKind.wrap .i64 (x - 1))) ((plcR a b c d x y i + 1) * pw (IntKind.wrap .i64 (y - 1)))).snd.snd.fst, .int .i64 (inter e f g q (plcC a b c d x y i * pw (IntKind.wrap .i64 (x - 1))) (plcR a b c d x y i * pw (IntKind.wrap .i64 (y - 1))) ((plcC a b c d x y i + 1) * pw (IntKind.wrap .i64 (x - 1))) ((plcR a b c d x y i + 1) * pw (IntKind.wrap .i64 (y - 1)))).snd.snd.snd]), (false, [.bool true])], [], []⟩))
                none)))
          (ite2 (inr 0 4096 (plcC a b c d x y i) && inr 0 4096 (plcR a b c d x y i) && inr 0 12 x && inr 0 12 y)
            (ite2 ((inter e f g q (plcC a b c d x y i * pw x) (plcR a b c d x y i * pw y) ((plcC a b c d x y i + 1) * pw x) ((plcR a b c d x y i + 1) * pw y)).fst == 0 && ((inter e f g q (plcC a b c d x y i * pw x) (plcR a b c d x y i * pw y) ((plcC a b c d x y i + 1) * pw x) ((plcR a b c d x y i + 1) * pw y)).snd.fst == 0 && ((inter e f g q (plcC a b c d x y i * pw x) (plcR a b c d x y i * pw y) ((plcC a b c d x y i + 1) * pw x) ((plcR a b c d x y i + 1) * pw y)).snd.snd.fst == 0 && ((inter e f g q (plcC a b c d x y i * pw x) (plcR a b c d x y i * pw y) ((plcC a b c d x y i + 1) * pw x) ((plcR a b c d x y i + 1) * pw y)).snd.snd.snd == 0 && true))))
              (some ⟨V.tup [(true, [.int .i64 0, .int .i64 0, .int .i64 0, .int .i64 0]), (false, [.bool true])], [], []⟩)
              (some ⟨V.tup [(true, [.int .i64 (inter e f g q (plcC a b c d x y i * pw x) (plcR a b c d x y i * pw y) ((plcC a b c d x y i + 1) * pw x) ((plcR a b c d x y i + 1) * pw y)).fst, .int .i64 (inter e f g q (plcC a b c d x y i * pw x) (plcR a b c d x y i * pw y) ((plcC a b c d x y i + 1) * pw x) ((plcR a b c d x y i + 1) * pw y)).snd.fst, .int .i64 (inter e f g q (plcC a b c d x y i * pw x) (plcR a b c d x y i * pw y) ((plcC a b c d x y i + 1) * pw x) ((plcR a b c d x y i + 1) * pw y)).snd.snd.fst, .int .i64 (inter e f g q (plcC a b c d x y i * pw x) (plcR a b c d x y i * pw y) ((plcC a b c d x y i + 1) * pw x) ((plcR a b c d x y i + 1) * pw y)).snd.snd.snd]), (false, [.bool true])], [], []⟩))
            none)))))) := by kernel_rfl
end
end Go.Rx.Ch24

set_option linter.unusedVariables false
set_option maxRecDepth 100000
set_option maxHeartbeats 4000000
open Go Go.Rx Go.Proofs
namespace Go.Rx.Ch24
noncomputable section
def t_pa_Blocks : FuncId → Option Summ := tabOf [(59, G_rect_Intersect), (70, G_pa_grid), (93, G_pa_cell)]
def l_pa_Blocks : Nat → Option LSumm := ltOf [(3, ⟨0, 49, [1, 2, 3, 6, 7, 8, 9, 10, 22, 23], (kxOf [6, 7, 8] [6, 7, 8]), S_pa_Blocks_0⟩), (6, ⟨0, 49, [1, 2, 3, 6, 7, 8, 9, 10, 11, 22, 23, 26, 27], (kxOf [1, 2, 3, 6, 7, 8, 9, 10, 22, 23] [6, 7, 8]), S_pa_Blocks_1⟩)]
theorem e_pa_Blocks (a b c d x y : Int) : funR Try.prog t_pa_Blocks (annOf []) l_pa_Blocks 20 Try.f77 [.agg [.int .i64 a, .int .i64 b, .int .i64 c, .int .i64 d], .one (.int .i64 x), .one (.int .i64 y)] [] =
  (ite2 (k_pa_Blocks_0 a b c d x y (gridS a b c d x y 6).snd.snd.fst (gridS a b c d x y 6).snd.snd.snd (gridS a b c d x y 6).fst (gridS a b c d x y 6).snd.fst (gridS a b c d x y 6).snd.snd.snd 0 [])
  (some ⟨V.tup [(false, [.int .i64 (gridS a b c d x y 6).snd.snd.fst]), (false, [.int .i64 (gridS a b c d x y 6).snd.snd.snd]), (false, [C.row 0])], [], [Blk.arr 23 (Sh.pair (Sh.int .i64) (Sh.pair (Sh.int .i64) (Sh.pair (Sh.int .i64) (Sh.int .i64)))) ([] ++ blkGrid a b c d x y (gridS a b c d x y 6).fst (Int.toNat (gridS a b c d x y 6).snd.snd.fst) (Int.toNat ((gridS a b c d x y 6).snd.snd.snd - 0)) ((gridS a b c d x y 6).snd.fst + 0))]⟩)
  none) := by kernel_rfl
def U_pa_Blocks_0 (a b c d x y m n h l u i : Int) (t : List Rc) : LT :=
  (.br (decide (i < u))
    (.br (k_pa_Blocks_1 a b c d x y m n h l i u i m 0 t)
      (.leaf Ex.normal [.one (.int .i64 x), .one (.int .i64 y), V.one (C.ptr 0 0), .one (.int .i64 m), .one (.int .i64 n), V.one (C.row 1), .one (.int .i64 h), .one (.int .i64 l), .one (.int .i64 u), .one (.int .i64 (IntKind.wrap .i64 (i + 1)))] [some (Blk.box [.int .i64 a, .int .i64 b, .int .i64 c, .int .i64 d]), some (Blk.arr 23 (Sh.pair (Sh.int .i64) (Sh.pair (Sh.int .i64) (Sh.pair (Sh.int .i64) (Sh.int .i64)))) (t ++ blkRow a b c d x y (l + i) (Int.toNat (m - 0)) (h + 0)))])
      .no)
    (.leaf (Ex.exit 0) [.one (.int .i64 m), .one (.int .i64 n), V.one (C.row 0)] [some (Blk.arr 23 (Sh.pair (Sh.int .i64) (Sh.pair (Sh.int .i64) (Sh.pair (Sh.int .i64) (Sh.int .i64)))) t)]))
def T_pa_Blocks_0 : List V → List (Option Blk) → LT := fun vs bl => (pO vs fun c' vs => kI c' fun x => pO vs fun c' vs => kI c' fun y => pO vs fun c' vs => kP 0 0 c' <| pO vs fun c' vs => kI c' fun m => pO vs fun c' vs => kI c' fun n => pO vs fun c' vs => kR 1 c' <| pO vs fun c' vs => kI c' fun h => pO vs fun c' vs => kI c' fun l => pO vs fun c' vs => kI c' fun u => pO vs fun c' vs => kI c' fun i => pE vs <| bB bl fun q' bl => tC q' fun c' q' => kI c' fun a => tC q' fun c' q' => kI c' fun b => tC q' fun c' q' => kI c' fun c => tC q' fun c' q' => kI c' fun d => tE q' <| bAR 23 bl fun t bl => bE bl <| some (U_pa_Blocks_0 a b c d x y m n h l u i t)).getD .no
theorem tu_pa_Blocks_0 (a b c d x y m n h l u i : Int) (t : List Rc) : T_pa_Blocks_0 [.one (.int .i64 x), .one (.int .i64 y), .one (.ptr 0 0), .one (.int .i64 m), .one (.int .i64 n), .one (.row 1), .one (.int .i64 h), .one (.int .i64 l), .one (.int .i64 u), .one (.int .i64 i)] [some (.box [.int .i64 a, .int .i64 b, .int .i64 c, .int .i64 d]), some (.arr 23 (.pair (.int .i64) (.pair (.int .i64) (.pair (.int .i64) (.int .i64)))) t)] = U_pa_Blocks_0 a b c d x y m n h l u i t := by kernel_rfl
theorem b_pa_Blocks_0 (a b c d x y m n h l u i : Int) (t : List Rc) (Kc : Ex → Option (List V × List (Option Blk)) → Option Out) : exec Try.prog t_pa_Blocks (annOf []) l_pa_Blocks 20 0 (loopOf Try.f77 0) (unp 49 [1, 2, 3, 6, 7, 8, 9, 10, 22, 23] [.one (.int .i64 x), .one (.int .i64 y), .one (.ptr 0 0), .one (.int .i64 m), .one (.int .i64 n), .one (.row 1), .one (.int .i64 h), .one (.int .i64 l), .one (.int .i64 u), .one (.int .i64 i)] [some (.box [.int .i64 a, .int .i64 b, .int .i64 c, .int .i64 d]), some (.arr 23 (.pair (.int .i64) (.pair (.int .i64) (.pair (.int .i64) (.int .i64)))) t)]) (endc 0 49 [1, 2, 3, 6, 7, 8, 9, 10, 22, 23] (kxOf [6, 7, 8] [6, 7, 8]) Kc) =
  (T_pa_Blocks_0 [.one (.int .i64 x), .one (.int .i64 y), .one (.ptr 0 0), .one (.int .i64 m), .one (.int .i64 n), .one (.row 1), .one (.int .i64 h), .one (.int .i64 l), .one (.int .i64 u), .one (.int .i64 i)] [some (.box [.int .i64 a, .int .i64 b, .int .i64 c, .int .i64 d]), some (.arr 23 (.pair (.int .i64) (.pair (.int .i64) (.pair (.int .i64) (.int .i64)))) t)]).runc Kc := by kernel_rfl
def U_pa_Blocks_1 (a b c d x y m n h l s u v g q : Int) (t : List Rc) : LT :=
  (.br (decide (q < g))
    (.br (inr 0 4096 (IntKind.wrap .i64 (h + q)) && inr 0 4096 (IntKind.wrap .i64 (l + s)) && inr 0 12 x && inr 0 12 y)
      (.br (decide ((List.length t + List.length [((inter a b c d (IntKind.wrap .i64 (h + q) * pw x) (IntKind.wrap .i64 (l + s) * pw y) ((IntKind.wrap .i64 (h + q) + 1) * pw x) ((IntKind.wrap .i64 (l + s) + 1) * pw y)).fst, (inter a b c d (IntKind.wrap .i64 (h + q) * pw x) (IntKind.wrap .i64 (l + s) * pw y) ((IntKind.wrap .i64 (h + q) + 1) * pw x) ((IntKind.wrap .i64 (l + s) + 1) * pw y)).snd.fst, (inter a b c d (IntKind.wrap .i64 (h + q) * pw x) (IntKind.wrap .i64 (l + s) * pw y) ((IntKind.wrap .i64 (h + q) + 1) * pw x) ((IntKind.wrap .i64 (l + s) + 1) * pw y)).snd.snd.fst, (inter a b c d (IntKind.wrap .i64 (h + q) * pw x) (IntKind.wrap .i64 (l + s) * pw y) ((IntKind.wrap .i64 (h + q) + 1) * pw x) ((IntKind.wrap .i64 (l + s) + 1) * pw y)).snd.snd.snd)]) * 33 ≤ 140737488355328))
        (.leaf Ex.normal [.one (.int .i64 x), .one (.int .i64 y), V.one (C.ptr 0 0), .one (.int .i64 m), .one (.int .i64 n), V.one (C.row 1), .one (.int .i64 h), .one (.int .i64 l), .one (.int .i64 s), .one (.int .i64 u), .one (.int .i64 v), .one (.int .i64 g), .one (.int .i64 (IntKind.wrap .i64 (q + 1)))] [some (Blk.box [.int .i64 a, .int .i64 b, .int .i64 c, .int .i64 d]), some (Blk.arr 23 (Sh.pair (Sh.int .i64) (Sh.pair (Sh.int .i64) (Sh.pair (Sh.int .i64) (Sh.int .i64)))) (t ++ [((inter a b c d (IntKind.wrap .i64 (h + q) * pw x) (IntKind.wrap .i64 (l + s) * pw y) ((IntKind.wrap .i64 (h + q) + 1) * pw x) ((IntKind.wrap .i64 (l + s) + 1) * pw y)).fst, (inter a b c d (IntKind.wrap .i64 (h + q) * pw x) (IntKind.wrap .i64 (l + s) * pw y) ((IntKind.wrap .i64 (h + q) + 1) * pw x) ((IntKind.wrap .i64 (l + s) + 1) * pw y)).snd.fst, (inter a b c d (IntKind.wrap .i64 (h + q) * pw x) (IntKind.wrap .i64 (l + s) * pw y) ((IntKind.wrap .i64 (h + q) + 1) * pw x) ((IntKind.wrap .i64 (l + s) + 1) * pw y)).snd.snd.fst, (inter a b c d (IntKind.wrap .i64 (h + q) * pw x) (IntKind.wrap .i64 (l + s) * pw y) ((IntKind.wrap .i64 (h + q) + 1) * pw x) ((IntKind.wrap .i64 (l + s) + 1) * pw y)).snd.snd.snd)]))])
        .no)
      .no)
    (.leaf (Ex.exit 2) [.one (.int .i64 x), .one (.int .i64 y), V.one (C.ptr 0 0), .one (.int .i64 m), .one (.int .i64 n), V.one (C.row 1), .one (.int .i64 h), .one (.int .i64 l), .one (.int .i64 u), .one (.int .i64 v)] [some (Blk.box [.int .i64 a, .int .i64 b, .int .i64 c, .int .i64 d]), some (Blk.arr 23 (Sh.pair (Sh.int .i64) (Sh.pair (Sh.int .i64) (Sh.pair (Sh.int .i64) (Sh.int .i64)))) t)]))
def T_pa_Blocks_1 : List V → List (Option Blk) → LT := fun vs bl => (pO vs fun c' vs => kI c' fun x => pO vs fun c' vs => kI c' fun y => pO vs fun c' vs => kP 0 0 c' <| pO vs fun c' vs => kI c' fun m => pO vs fun c' vs => kI c' fun n => pO vs fun c' vs => kR 1 c' <| pO vs fun c' vs => kI c' fun h => pO vs fun c' vs => kI c' fun l => pO vs fun c' vs => kI c' fun s => pO vs fun c' vs => kI c' fun u => pO vs fun c' vs => kI c' fun v => pO vs fun c' vs => kI c' fun g => pO vs fun c' vs => kI c' fun q => pE vs <| bB bl fun q' bl => tC q' fun c' q' => kI c' fun a => tC q' fun c' q' => kI c' fun b => tC q' fun c' q' => kI c' fun c => tC q' fun c' q' => kI c' fun d => tE q' <| bAR 23 bl fun t bl => bE bl <| some (U_pa_Blocks_1 a b c d x y m n h l s u v g q t)).getD .no
theorem tu_pa_Blocks_1 (a b c d x y m n h l s u v g q : Int) (t : List Rc) : T_pa_Blocks_1 [.one (.int .i64 x), .one (.int .i64 y), .one (.ptr 0 0), .one (.int .i64 m), .one (.int .i64 n), .one (.row 1), .one (.int .i64 h), .one (.int .i64 l), .one (.int .i64 s), .one (.int .i64 u), .one (.int .i64 v), .one (.int .i64 g), .one (.int .i64 q)] [some (.box [.int .i64 a, .int .i64 b, .int .i64 c, .int .i64 d]), some (.arr 23 (.pair (.int .i64) (.pair (.int .i64) (.pair (.int .i64) (.int .i64)))) t)] = U_pa_Blocks_1 a b c d x y m n h l s u v g q t := by kernel_rfl
theorem b_pa_Blocks_1 (a b c d x y m n h l s u v g q : Int) (t : List Rc) (Kc : Ex → Option (List V × List (Option Blk)) → Option Out) : exec Try.prog t_pa_Blocks (annOf []) l_pa_Blocks 20 0 (loopOf Try.f77 1) (unp 49 [1, 2, 3, 6, 7, 8, 9, 10, 11, 22, 23, 26, 27] [.one (.int .i64 x), .one (.int .i64 y), .one (.ptr 0 0), .one (.int .i64 m), .one (.int .i64 n), .one (.row 1), .one (.int .i64 h), .one (.int .i64 l), .one (.int .i64 s), .one (.int .i64 u), .one (.int .i64 v), .one (.int .i64 g), .one (.int .i64 q)] [some (.box [.int .i64 a, .int .i64 b, .int .i64 c, .int .i64 d]), some (.arr 23 (.pair (.int .i64) (.pair (.int .i64) (.pair (.int .i64) (.int .i64)))) t)]) (endc 0 49 [1, 2, 3, 6, 7, 8, 9, 10, 11, 22, 23, 26, 27] (kxOf [1, 2, 3, 6, 7, 8, 9, 10, 22, 23] [6, 7, 8]) Kc) =
  (T_pa_Blocks_1 [.one (.int .i64 x), .one (.int .i64 y), .one (.ptr 0 0), .one (.int .i64 m), .one (.int .i64 n), .one (.row 1), .one (.int .i64 h), .one (.int .i64 l), .one (.int .i64 s), .one (.int .i64 u), .one (.int .i64 v), .one (.int .i64 g), .one (.int .i64 q)] [some (.box [.int .i64 a, .int .i64 b, .int .i64 c, .int .i64 d]), some (.arr 23 (.pair (.int .i64) (.pair (.int .i64) (.pair (.int .i64) (.int .i64)))) t)]).runc Kc := by kernel_rfl
end
end Go.Rx.Ch24

set_option linter.unusedVariables false
set_option maxRecDepth 100000
set_option maxHeartbeats 4000000
open Go Go.Rx Go.Proofs
namespace Go.Rx.Ch24
noncomputable section
def t_lay_Tiles : FuncId → Option Summ := tabOf [(33, G_params_Header), (34, G_rect_Cells)]
def l_lay_Tiles : Nat → Option LSumm := ltOf []
theorem e_lay_Tiles (h : Hd) : funR Try.prog t_lay_Tiles (annOf []) l_lay_Tiles 20 Try.f10 [.agg (hdC h)] [] =
  (ite2 (small (List.length h.cs))
  (ite2 (header h != 0)
    (some ⟨V.one (C.row 0), [], [Blk.arr 23 (Sh.pair (Sh.int .i64) (Sh.pair (Sh.int .i64) (Sh.pair (Sh.int .i64) (Sh.int .i64)))) ([] : List (Int × Int × Int × Int))]⟩)
    (ite2 (decide (h.tw ≤ 4096) && decide (h.th ≤ 4096))
      (some ⟨V.one (C.row 0), [], [Blk.arr 23 (Sh.pair (Sh.int .i64) (Sh.pair (Sh.int .i64) (Sh.pair (Sh.int .i64) (Sh.int .i64)))) (tilesL h.a h.b h.c h.d h.tw h.th)]⟩)
      none))
  none) := by kernel_rfl
end
end Go.Rx.Ch24

set_option linter.unusedVariables false
set_option maxRecDepth 100000
set_option maxHeartbeats 4000000
open Go Go.Rx Go.Proofs
namespace Go.Rx.Ch24
noncomputable section
end
end Go.Rx.Ch24

set_option linter.unusedVariables false
set_option maxRecDepth 100000
set_option maxHeartbeats 4000000
open Go Go.Rx Go.Proofs
namespace Go.Rx.Ch24
noncomputable section
def t_lay_Component : FuncId → Option Summ := tabOf [(10, G_lay_Tiles), (37, G_rect_Reduce)]
def l_lay_Component : Nat → Option LSumm := ltOf []
theorem e_lay_Component (h : Hd) (t k : Int) : funR Try.prog t_lay_Component (annOf []) l_lay_Component 20 Try.f12 [.agg (hdC h), .one (.int .i64 t), .one (.int .i64 k)] [] =
  (ite2 (small (List.length h.cs))
  (ite2 (decide (t < 0))
    (some ⟨.agg [.int .i64 0, .int .i64 0, .int .i64 0, .int .i64 0], [], []⟩)
    (ite2 (decide (t ≥ (↑(List.length (tilesH h)) : Int)))
      (some ⟨.agg [.int .i64 0, .int .i64 0, .int .i64 0, .int .i64 0], [], []⟩)
      (ite2 (decide (k < 0))
        (some ⟨.agg [.int .i64 0, .int .i64 0, .int .i64 0, .int .i64 0], [], []⟩)
        (ite2 (decide (k ≥ (↑(List.length h.cs) : Int)))
          (some ⟨.agg [.int .i64 0, .int .i64 0, .int .i64 0, .int .i64 0], [], []⟩)
          (ite2 (decide (0 ≤ k ∧ k < (↑(List.length h.cs) : Int)))
            (ite2 (decide (0 ≤ t ∧ t < (↑(List.length (tilesH h)) : Int)))
              (ite2 (decide (Int.toNat t < List.length (tilesH h)))
                (some ⟨.agg [.int .i64 (reduce (gR (tilesH h) (Int.toNat t)).fst (gR (tilesH h) (Int.toNat t)).snd.fst (gR (tilesH h) (Int.toNat t)).snd.snd.fst (gR (tilesH h) (Int.toNat t)).snd.snd.snd (gC h.cs (Int.toNat k)).snd.snd.fst (gC h.cs (Int.toNat k)).snd.snd.snd).fst, .int .i64 (reduce (gR (tilesH h) (Int.toNat t)).fst (gR (tilesH h) (Int.toNat t)).snd.fst (gR (tilesH h) (Int.toNat t)).snd.snd.fst (gR (tilesH h) (Int.toNat t)).snd.snd.snd (gC h.cs (Int.toNat k)).snd.snd.fst (gC h.cs (Int.toNat k)).snd.snd.snd).snd.fst, .int .i64 (reduce (gR (tilesH h) (Int.toNat t)).fst (gR (tilesH h) (Int.toNat t)).snd.fst (gR (tilesH h) (Int.toNat t)).snd.snd.fst (gR (tilesH h) (Int.toNat t)).snd.snd.snd (gC h.cs (Int.toNat k)).snd.snd.fst (gC h.cs (Int.toNat k)).snd.snd.snd).snd.snd.fst, .int .i64 (reduce (gR (tilesH h) (Int.toNat t)).fst (gR (tilesH h) (Int.toNat t)).snd.fst (gR (tilesH h) (Int.toNat t)).snd.snd.fst (gR (tilesH h) (Int.toNat t)).snd.snd.snd (gC h.cs (Int.toNat k)).snd.snd.fst (gC h.cs (Int.toNat k)).snd.snd.snd).snd.snd.snd], [], []⟩)
                none)
              none)
            none)))))
  none) := by kernel_rfl
def t_lay_exists : FuncId → Option Summ := tabOf [(10, G_lay_Tiles), (25, G_params_Check)]
def l_lay_exists : Nat → Option LSumm := ltOf []
theorem e_lay_exists (h : Hd) (p : Pm) (t k : Int) : funR Try.prog t_lay_exists (annOf []) l_lay_exists 20 Try.f39 [.agg (hdC h), .agg (pmC p), .one (.int .i64 t), .one (.int .i64 k)] [] =
  (ite2 (small (List.length h.cs) && (small (List.length p.pr) && small (List.length p.st)))
  (ite2 (checkA h p == 0)
    (ite2 (decide (t ≥ 0))
      (ite2 (small (List.length h.cs))
        (ite2 (decide (t < (↑(List.length (tilesH h)) : Int)))
          (ite2 (decide (k ≥ 0))
            (some ⟨.one (.bool (decide (k < (↑(List.length h.cs) : Int)))), [], []⟩)
            (some ⟨.one (.bool false), [], []⟩))
          (some ⟨.one (.bool false), [], []⟩))
        none)
      (some ⟨.one (.bool false), [], []⟩))
    (some ⟨.one (.bool false), [], []⟩))
  none) := by kernel_rfl
def t_lay_Resolution : FuncId → Option Summ := tabOf [(12, G_lay_Component), (39, G_lay_exists), (40, G_pyr_Resolution), (41, G_params_Precinct), (42, G_pa_Precincts)]
def l_lay_Resolution : Nat → Option LSumm := ltOf []
theorem e_lay_Resolution (h : Hd) (p : Pm) (t k s : Int) : funR Try.prog t_lay_Resolution (annOf []) l_lay_Resolution 20 Try.f14 [.agg (hdC h), .agg (pmC p), .one (.int .i64 t), .one (.int .i64 k), .one (.int .i64 s)] [] =
  (ite2 (small (List.length h.cs) && (small (List.length p.pr) && small (List.length p.st)))
  (ite2 (!existsB h p t k)
    (some ⟨V.tup [(true, [.int .i64 0, .int .i64 0, .int .i64 0, .int .i64 0]), (false, [.int .i64 0]), (false, [.int .i64 0])], [], []⟩)
    (ite2 (decide (s < 0))
      (some ⟨V.tup [(true, [.int .i64 0, .int .i64 0, .int .i64 0, .int .i64 0]), (false, [.int .i64 0]), (false, [.int .i64 0])], [], []⟩)
      (ite2 (decide (s > p.le))
        (some ⟨V.tup [(true, [.int .i64 0, .int .i64 0, .int .i64 0, .int .i64 0]), (false, [.int .i64 0]), (false, [.int .i64 0])], [], []⟩)
        (ite2 (small (List.length h.cs))
          (some ⟨V.tup [(true, [.int .i64 (resR (compT h t k).fst (compT h t k).snd.fst (compT h t k).snd.snd.fst (compT h t k).snd.snd.snd p.le s).fst, .int .i64 (resR (compT h t k).fst (compT h t k).snd.fst (compT h t k).snd.snd.fst (compT h t k).snd.snd.snd p.le s).snd.fst, .int .i64 (resR (compT h t k).fst (compT h t k).snd.fst (compT h t k).snd.snd.fst (compT h t k).snd.snd.snd p.le s).snd.snd.fst, .int .i64 (resR (compT h t k).fst (compT h t k).snd.fst (compT h t k).snd.snd.fst (compT h t k).snd.snd.snd p.le s).snd.snd.snd]), (false, [.int .i64 (precN (resR (compT h t k).fst (compT h t k).snd.fst (compT h t k).snd.snd.fst (compT h t k).snd.snd.snd p.le s).fst (resR (compT h t k).fst (compT h t k).snd.fst (compT h t k).snd.snd.fst (compT h t k).snd.snd.snd p.le s).snd.fst (resR (compT h t k).fst (compT h t k).snd.fst (compT h t k).snd.snd.fst (compT h t k).snd.snd.snd p.le s).snd.snd.fst (resR (compT h t k).fst (compT h t k).snd.fst (compT h t k).snd.snd.fst (compT h t k).snd.snd.snd p.le s).snd.snd.snd (prec p s).fst (prec p s).snd).fst]), (false, [.int .i64 (precN (resR (compT h t k).fst (compT h t k).snd.fst (compT h t k).snd.snd.fst (compT h t k).snd.snd.snd p.le s).fst (resR (compT h t k).fst (compT h t k).snd.fst (compT h t k).snd.snd.fst (compT h t k).snd.snd.snd p.le s).snd.fst (resR (compT h t k).fst (compT h t k).snd.fst (compT h t k).snd.snd.fst (compT h t k).snd.snd.snd p.le s).snd.snd.fst (resR (compT h t k).fst (compT h t k).snd.fst (compT h t k).snd.snd.fst (compT h t k).snd.snd.snd p.le s).snd.snd.snd (prec p s).fst (prec p s).snd).snd])], [], []⟩)
          none))))
  none) := by kernel_rfl
end
end Go.Rx.Ch24

