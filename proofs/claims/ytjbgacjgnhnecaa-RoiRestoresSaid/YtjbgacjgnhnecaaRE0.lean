/- Each function, run by the executor: an equation. -/
import Derived.Test.YtjbgacjgnhnecaaRG
import Derived.Test.YtjbgacjgnhnecaaProg
import Derived.KernelRfl
import Derived.Test.YtjbgacjgnhnecaaRxD
set_option linter.unnecessarySimpa false
set_option linter.unusedVariables false
set_option maxRecDepth 100000
set_option maxHeartbeats 40000000
open Go Go.Rx Go.Proofs
namespace Go.Rx.Ch30
noncomputable section
def t_rect_Empty : FuncId → Option Summ := tabOf []
def l_rect_Empty : Nat → Option LSumm := ltOf []
theorem e_rect_Empty (a b c d : Int) : funR Try.prog t_rect_Empty (annOf []) l_rect_Empty 20 Try.f31 [.agg [.int .i64 a, .int .i64 b, .int .i64 c, .int .i64 d]] [] =
  (ite2 (decide (a ≥ c))
  (some ⟨.one (.bool true), [], []⟩)
  (some ⟨.one (.bool (decide (b ≥ d))), [], []⟩)) := by kernel_rfl
def t_rect_Valid : FuncId → Option Summ := tabOf []
def l_rect_Valid : Nat → Option LSumm := ltOf []
theorem e_rect_Valid (a b c d : Int) : funR Try.prog t_rect_Valid (annOf []) l_rect_Valid 20 Try.f30 [.agg [.int .i64 a, .int .i64 b, .int .i64 c, .int .i64 d]] [] =
  (ite2 (decide (0 ≤ a))
  (ite2 (decide (a ≤ c))
   (ite2 (decide (c ≤ 4096))
    (ite2 (decide (0 ≤ b))
     (ite2 (decide (b ≤ d))
      (some ⟨.one (.bool (decide (d ≤ 4096))), [], []⟩)
      (some ⟨.one (.bool false), [], []⟩))
     (some ⟨.one (.bool false), [], []⟩))
    (some ⟨.one (.bool false), [], []⟩))
   (some ⟨.one (.bool false), [], []⟩))
  (some ⟨.one (.bool false), [], []⟩)) := by kernel_rfl
def t_rect_CeilDiv : FuncId → Option Summ := tabOf []
def l_rect_CeilDiv : Nat → Option LSumm := ltOf []
theorem e_rect_CeilDiv (a b : Int) : funR Try.prog t_rect_CeilDiv (annOf []) l_rect_CeilDiv 20 Try.f74 [.one (.int .i64 a), .one (.int .i64 b)] [] =
  (ite2 (decide (b < 1))
  (some ⟨.one (.int .i64 0), [], []⟩)
  (ite2 (!decide (b = 0))
   (ite2 (!decide (b = 0))
    (ite2 (decide (Int.tmod a b > 0))
     (some ⟨.one (.int .i64 (IntKind.wrap .i64 (IntKind.wrap .i64 (Int.tdiv a b) + 1))), [], []⟩)
     (some ⟨.one (.int .i64 (IntKind.wrap .i64 (Int.tdiv a b))), [], []⟩))
    none)
   none)) := by kernel_rfl
def t_rect_FloorDiv : FuncId → Option Summ := tabOf []
def l_rect_FloorDiv : Nat → Option LSumm := ltOf []
theorem e_rect_FloorDiv (a b : Int) : funR Try.prog t_rect_FloorDiv (annOf []) l_rect_FloorDiv 20 Try.f75 [.one (.int .i64 a), .one (.int .i64 b)] [] =
  (ite2 (decide (b < 1))
  (some ⟨.one (.int .i64 0), [], []⟩)
  (ite2 (!decide (b = 0))
   (ite2 (!decide (b = 0))
    (ite2 (decide (Int.tmod a b < 0))
     (some ⟨.one (.int .i64 (IntKind.wrap .i64 (IntKind.wrap .i64 (Int.tdiv a b) - 1))), [], []⟩)
     (some ⟨.one (.int .i64 (IntKind.wrap .i64 (Int.tdiv a b))), [], []⟩))
    none)
   none)) := by kernel_rfl
def t_rect_Area : FuncId → Option Summ := tabOf [(30, G_rect_Valid)]
def l_rect_Area : Nat → Option LSumm := ltOf []
theorem e_rect_Area (a b c d : Int) : funR Try.prog t_rect_Area (annOf []) l_rect_Area 20 Try.f42 [.agg [.int .i64 a, .int .i64 b, .int .i64 c, .int .i64 d]] [] =
  (ite2 (!valid a b c d)
  (some ⟨.one (.int .i64 0), [], []⟩)
  (some ⟨.one (.int .i64 (IntKind.wrap .i64 (IntKind.wrap .i64 (c - a) * IntKind.wrap .i64 (d - b)))), [], []⟩)) := by kernel_rfl
def t_rect_Reduce : FuncId → Option Summ := tabOf [(30, G_rect_Valid), (74, G_rect_CeilDiv)]
def l_rect_Reduce : Nat → Option LSumm := ltOf []
theorem e_rect_Reduce (a b c d x y : Int) : funR Try.prog t_rect_Reduce (annOf []) l_rect_Reduce 20 Try.f51 [.agg [.int .i64 a, .int .i64 b, .int .i64 c, .int .i64 d], .one (.int .i64 x), .one (.int .i64 y)] [] =
  (ite2 (!valid a b c d)
  (some ⟨.agg [.int .i64 0, .int .i64 0, .int .i64 0, .int .i64 0], [], []⟩)
  (ite2 (decide (x < 1))
   (some ⟨.agg [.int .i64 0, .int .i64 0, .int .i64 0, .int .i64 0], [], []⟩)
   (ite2 (decide (x > 4096))
    (some ⟨.agg [.int .i64 0, .int .i64 0, .int .i64 0, .int .i64 0], [], []⟩)
    (ite2 (decide (y < 1))
     (some ⟨.agg [.int .i64 0, .int .i64 0, .int .i64 0, .int .i64 0], [], []⟩)
     (ite2 (decide (y > 4096))
      (some ⟨.agg [.int .i64 0, .int .i64 0, .int .i64 0, .int .i64 0], [], []⟩)
      (some ⟨.agg [.int .i64 (cdiv a x), .int .i64 (cdiv b y), .int .i64 (cdiv c x), .int .i64 (cdiv d y)], [], []⟩)))))) := by kernel_rfl
def t_rect_Intersect : FuncId → Option Summ := tabOf [(31, G_rect_Empty)]
def l_rect_Intersect : Nat → Option LSumm := ltOf []
theorem e_rect_Intersect (a b c d e f g h : Int) : funR Try.prog t_rect_Intersect (annOf []) l_rect_Intersect 20 Try.f62 [.agg [.int .i64 a, .int .i64 b, .int .i64 c, .int .i64 d], .agg [.int .i64 e, .int .i64 f, .int .i64 g, .int .i64 h]] [] =
  (ite2 (empty (if e > a then e else a) (if f > b then f else b) (if g < c then g else c) (if h < d then h else d))
  (some ⟨.agg [.int .i64 0, .int .i64 0, .int .i64 0, .int .i64 0], [], []⟩)
  (some ⟨.agg [.int .i64 (if e > a then e else a), .int .i64 (if f > b then f else b), .int .i64 (if g < c then g else c), .int .i64 (if h < d then h else d)], [], []⟩)) := by kernel_rfl
def t_ref01_Empty : FuncId → Option Summ := tabOf []
def l_ref01_Empty : Nat → Option LSumm := ltOf []
theorem e_ref01_Empty (a b c d : Int) : funR Try.prog t_ref01_Empty (annOf []) l_ref01_Empty 20 Try.f33 [.agg [.int .i64 a, .int .i64 b, .int .i64 c, .int .i64 d]] [] =
  (ite2 (decide (a ≥ c))
  (some ⟨.one (.bool true), [], []⟩)
  (some ⟨.one (.bool (decide (b ≥ d))), [], []⟩)) := by kernel_rfl
def t_ref01_Valid : FuncId → Option Summ := tabOf []
def l_ref01_Valid : Nat → Option LSumm := ltOf []
theorem e_ref01_Valid (a b c d : Int) : funR Try.prog t_ref01_Valid (annOf []) l_ref01_Valid 20 Try.f32 [.agg [.int .i64 a, .int .i64 b, .int .i64 c, .int .i64 d]] [] =
  (ite2 (decide (0 ≤ a))
  (ite2 (decide (a ≤ c))
   (ite2 (decide (c ≤ 4096))
    (ite2 (decide (0 ≤ b))
     (ite2 (decide (b ≤ d))
      (some ⟨.one (.bool (decide (d ≤ 4096))), [], []⟩)
      (some ⟨.one (.bool false), [], []⟩))
     (some ⟨.one (.bool false), [], []⟩))
    (some ⟨.one (.bool false), [], []⟩))
   (some ⟨.one (.bool false), [], []⟩))
  (some ⟨.one (.bool false), [], []⟩)) := by kernel_rfl
def t_ref01_Area : FuncId → Option Summ := tabOf [(32, G_ref01_Valid)]
def l_ref01_Area : Nat → Option LSumm := ltOf []
theorem e_ref01_Area (a b c d : Int) : funR Try.prog t_ref01_Area (annOf []) l_ref01_Area 20 Try.f44 [.agg [.int .i64 a, .int .i64 b, .int .i64 c, .int .i64 d]] [] =
  (ite2 (!valid a b c d)
  (some ⟨.one (.int .i64 0), [], []⟩)
  (some ⟨.one (.int .i64 (IntKind.wrap .i64 (IntKind.wrap .i64 (c - a) * IntKind.wrap .i64 (d - b)))), [], []⟩)) := by kernel_rfl
def t_params_within : FuncId → Option Summ := tabOf []
def l_params_within : Nat → Option LSumm := ltOf [(2, ⟨0, 24, [0, 1, 9, 10, 11], (kxOf [] [6]), S_params_within_0⟩)]
theorem e_params_within (a b : Int) (l : List Int) : funR Try.prog t_params_within (annOf []) l_params_within 20 Try.f47 [.one (.int .i64 a), .one (.int .i64 b), .one (.lst (.int .i64) l)] [] =
  (ite2 (k_params_within_0 a b l (↑(List.length l) : Int) 0)
  (ite2 (p_params_within_0 a b l)
   (some ⟨.one (.bool true), [], []⟩)
   (some ⟨.one (.bool false), [], []⟩))
  none) := by kernel_rfl
def U_params_within_0 (a b : Int) (l : List Int) (n i : Int) : LT :=
  (.br (decide (i < n))
    (.br (decide (0 ≤ i ∧ i < (↑(List.length l) : Int)))
     (.br (decide (gI l (Int.toNat i) < a))
      (.leaf Ex.ret [.one (.bool false)] [])
      (.br (decide (gI l (Int.toNat i) > b))
       (.leaf Ex.ret [.one (.bool false)] [])
       (.leaf Ex.normal [.one (.int .i64 a), .one (.int .i64 b), .one (.lst (.int .i64) l), .one (.int .i64 n), .one (.int .i64 (IntKind.wrap .i64 (i + 1)))] [])))
     .no)
    (.leaf (Ex.exit 0) [] []))
def T_params_within_0 : TT := fun vs bl => (D_params_within_0 vs bl fun a b l n i => some (U_params_within_0 a b l n i)).getD .no
theorem tu_params_within_0 (a b : Int) (l : List Int) (n i : Int) : T_params_within_0 [.one (.int .i64 a), .one (.int .i64 b), .one (.lst (.int .i64) l), .one (.int .i64 n), .one (.int .i64 i)] [] = U_params_within_0 a b l n i := by kernel_rfl
theorem b_params_within_0 (a b : Int) (l : List Int) (n i : Int) (Kc : KT) : exec Try.prog t_params_within (annOf []) l_params_within 20 0 (loopOf Try.f47 0) (unp 24 [0, 1, 9, 10, 11] [.one (.int .i64 a), .one (.int .i64 b), .one (.lst (.int .i64) l), .one (.int .i64 n), .one (.int .i64 i)] []) (endc 0 24 [0, 1, 9, 10, 11] (kxOf [] [6]) Kc) =
  (U_params_within_0 a b l n i).runc Kc := by kernel_rfl
def t_params_Precinct : FuncId → Option Summ := tabOf []
def l_params_Precinct : Nat → Option LSumm := ltOf []
theorem e_params_Precinct (p : Pm) (r : Int) : funR Try.prog t_params_Precinct (annOf []) l_params_Precinct 20 Try.f76 [.agg (pmC p), .one (.int .i64 r)] [] =
  (ite2 (decide (r < 0))
  (some ⟨.agg [.int .i64 0, .int .i64 0], [], []⟩)
  (ite2 (decide (r > p.le))
   (some ⟨.agg [.int .i64 0, .int .i64 0], [], []⟩)
   (ite2 ((↑(List.length p.pr) : Int) == 0)
    (some ⟨.agg [.int .i64 12, .int .i64 12], [], []⟩)
    (ite2 (decide (r ≥ (↑(List.length p.pr) : Int)))
     (some ⟨.agg [.int .i64 0, .int .i64 0], [], []⟩)
     (ite2 (decide (0 ≤ r ∧ r < (↑(List.length p.pr) : Int)))
      (some ⟨.agg [.int .i64 (gP p.pr (Int.toNat r)).1, .int .i64 (gP p.pr (Int.toNat r)).2], [], []⟩)
      none))))) := by kernel_rfl


def t_params_Header : FuncId → Option Summ := tabOf [(30, G_rect_Valid), (31, G_rect_Empty), (42, G_rect_Area), (47, G_params_within), (51, G_rect_Reduce), (74, G_rect_CeilDiv), (75, G_rect_FloorDiv)]
def l_params_Header : Nat → Option LSumm := ltOf [(4, ⟨0, 114, [1, 36, 37, 38], (kxOf [1] [2]), S_params_Header_0⟩), (14, ⟨0, 114, [1, 98, 99, 100], (kxOf [] [2]), S_params_Header_1⟩)]
theorem e_params_Header (h : Hd) : funR Try.prog t_params_Header (annOf []) l_params_Header 20 Try.f46 [.agg (hdC h)] [] =
  (ite2 (!valid h.a h.b h.c h.d)
  (some ⟨.one (.int .i64 12), [], []⟩)
  (ite2 (empty h.a h.b h.c h.d)
   (some ⟨.one (.int .i64 12), [], []⟩)
   (ite2 (!within 1 4096 [h.tw, h.th])
    (some ⟨.one (.int .i64 12), [], []⟩)
    (ite2 (!within 1 4 [(↑(List.length h.cs) : Int)])
     (some ⟨.one (.int .i64 12), [], []⟩)
     (ite2 (k_params_Header_0 h h.cs (↑(List.length h.cs) : Int) 0)
      (ite2 (p_params_Header_0 h h.cs)
       (ite2 (decide (IntKind.wrap .i64 (IntKind.wrap .i64 (cdiv h.c h.tw - fdiv h.a h.tw) * IntKind.wrap .i64 (cdiv h.d h.th - fdiv h.b h.th)) > 1024))
        (some ⟨.one (.int .i64 5), [], []⟩)
        (ite2 (k_params_Header_1 h h.cs (↑(List.length h.cs) : Int) 0)
         (ite2 (p_params_Header_1 h h.cs)
          (some ⟨.one (.int .i64 0), [], []⟩)
          (some ⟨.one (.int .i64 5), [], []⟩))
         none))
       (some ⟨.one (.int .i64 12), [], []⟩))
      none))))) := by kernel_rfl
def U_params_Header_0 (h : Hd) (l : List (Int × Bool × Int × Int)) (n i : Int) : LT :=
  (.br (decide (i < n))
    (.br (decide (0 ≤ i ∧ i < (↑(List.length l) : Int)))
     (.br (!within 1 16 [(gC l (Int.toNat i)).1])
      (.leaf Ex.ret [.one (.int .i64 12)] [])
      (.br (!within 1 4 [(gC l (Int.toNat i)).2.2.1, (gC l (Int.toNat i)).2.2.2])
       (.leaf Ex.ret [.one (.int .i64 12)] [])
       (.br (empty (reduce h.a h.b h.c h.d (gC l (Int.toNat i)).2.2.1 (gC l (Int.toNat i)).2.2.2).1 (reduce h.a h.b h.c h.d (gC l (Int.toNat i)).2.2.1 (gC l (Int.toNat i)).2.2.2).2.1 (reduce h.a h.b h.c h.d (gC l (Int.toNat i)).2.2.1 (gC l (Int.toNat i)).2.2.2).2.2.1 (reduce h.a h.b h.c h.d (gC l (Int.toNat i)).2.2.1 (gC l (Int.toNat i)).2.2.2).2.2.2)
        (.leaf Ex.ret [.one (.int .i64 12)] [])
        (.leaf Ex.normal [.one (.ptr 0 0), .one (.lst (.pair (.int .i64) (Sh.pair Sh.bool (Sh.pair (Sh.int .i64) (Sh.int .i64)))) l), .one (.int .i64 n), .one (.int .i64 (IntKind.wrap .i64 (i + 1)))] [some (.box [.int .i64 h.a, .int .i64 h.b, .int .i64 h.c, .int .i64 h.d, .int .i64 h.tw, .int .i64 h.th, .lst (.pair (.int .i64) (Sh.pair Sh.bool (Sh.pair (Sh.int .i64) (Sh.int .i64)))) h.cs])]))))
     .no)
    (.leaf (Ex.exit 0) [.one (.ptr 0 0)] [some (.box [.int .i64 h.a, .int .i64 h.b, .int .i64 h.c, .int .i64 h.d, .int .i64 h.tw, .int .i64 h.th, .lst (.pair (.int .i64) (Sh.pair Sh.bool (Sh.pair (Sh.int .i64) (Sh.int .i64)))) h.cs])]))
def T_params_Header_0 : TT := fun vs bl => (D_params_Header_0 vs bl fun h l n i => some (U_params_Header_0 h l n i)).getD .no
theorem tu_params_Header_0 (h : Hd) (l : List (Int × Bool × Int × Int)) (n i : Int) : T_params_Header_0 [.one (.ptr 0 0), .one (.lst (.pair (.int .i64) (.pair .bool (.pair (.int .i64) (.int .i64)))) l), .one (.int .i64 n), .one (.int .i64 i)] [some (.box (hdC h))] = U_params_Header_0 h l n i := by kernel_rfl
theorem b_params_Header_0 (h : Hd) (l : List (Int × Bool × Int × Int)) (n i : Int) (Kc : KT) : exec Try.prog t_params_Header (annOf []) l_params_Header 20 0 (loopOf Try.f46 0) (unp 114 [1, 36, 37, 38] [.one (.ptr 0 0), .one (.lst (.pair (.int .i64) (.pair .bool (.pair (.int .i64) (.int .i64)))) l), .one (.int .i64 n), .one (.int .i64 i)] [some (.box (hdC h))]) (endc 0 114 [1, 36, 37, 38] (kxOf [1] [2]) Kc) =
  (U_params_Header_0 h l n i).runc Kc := by kernel_rfl
def U_params_Header_1 (h : Hd) (l : List (Int × Bool × Int × Int)) (n i : Int) : LT :=
  (.br (decide (i < n))
    (.br (decide (0 ≤ i ∧ i < (↑(List.length l) : Int)))
     (.br (decide (area (reduce h.a h.b h.c h.d (gC l (Int.toNat i)).2.2.1 (gC l (Int.toNat i)).2.2.2).1 (reduce h.a h.b h.c h.d (gC l (Int.toNat i)).2.2.1 (gC l (Int.toNat i)).2.2.2).2.1 (reduce h.a h.b h.c h.d (gC l (Int.toNat i)).2.2.1 (gC l (Int.toNat i)).2.2.2).2.2.1 (reduce h.a h.b h.c h.d (gC l (Int.toNat i)).2.2.1 (gC l (Int.toNat i)).2.2.2).2.2.2 > 1048576))
      (.leaf Ex.ret [.one (.int .i64 5)] [])
      (.leaf Ex.normal [.one (.ptr 0 0), .one (.lst (.pair (.int .i64) (Sh.pair Sh.bool (Sh.pair (Sh.int .i64) (Sh.int .i64)))) l), .one (.int .i64 n), .one (.int .i64 (IntKind.wrap .i64 (i + 1)))] [some (.box [.int .i64 h.a, .int .i64 h.b, .int .i64 h.c, .int .i64 h.d, .int .i64 h.tw, .int .i64 h.th, .lst (.pair (.int .i64) (Sh.pair Sh.bool (Sh.pair (Sh.int .i64) (Sh.int .i64)))) h.cs])]))
     .no)
    (.leaf (Ex.exit 2) [] []))
def T_params_Header_1 : TT := fun vs bl => (D_params_Header_1 vs bl fun h l n i => some (U_params_Header_1 h l n i)).getD .no
theorem tu_params_Header_1 (h : Hd) (l : List (Int × Bool × Int × Int)) (n i : Int) : T_params_Header_1 [.one (.ptr 0 0), .one (.lst (.pair (.int .i64) (.pair .bool (.pair (.int .i64) (.int .i64)))) l), .one (.int .i64 n), .one (.int .i64 i)] [some (.box (hdC h))] = U_params_Header_1 h l n i := by kernel_rfl
theorem b_params_Header_1 (h : Hd) (l : List (Int × Bool × Int × Int)) (n i : Int) (Kc : KT) : exec Try.prog t_params_Header (annOf []) l_params_Header 20 0 (loopOf Try.f46 1) (unp 114 [1, 98, 99, 100] [.one (.ptr 0 0), .one (.lst (.pair (.int .i64) (.pair .bool (.pair (.int .i64) (.int .i64)))) l), .one (.int .i64 n), .one (.int .i64 i)] [some (.box (hdC h))]) (endc 0 114 [1, 98, 99, 100] (kxOf [] [2]) Kc) =
  (U_params_Header_1 h l n i).runc Kc := by kernel_rfl
def t_params_numbers : FuncId → Option Summ := tabOf [(47, G_params_within)]
def l_params_numbers : Nat → Option LSumm := ltOf [(6, ⟨0, 114, [2, 3, 36, 37, 38], (kxOf [2, 3] [4]), S_params_numbers_0⟩)]
theorem e_params_numbers (h : Hd) (p : Pm) : funR Try.prog t_params_numbers (annOf []) l_params_numbers 20 Try.f48 [.agg (hdC h), .agg (pmC p)] [] =
  (ite2 (!within 0 5 [p.le])
  (some ⟨.one (.bool false), [], []⟩)
  (ite2 (!within 2 6 [p.bx, p.bw])
   (some ⟨.one (.bool false), [], []⟩)
   (ite2 ((↑(List.length p.pr) : Int) != 0)
    (ite2 ((↑(List.length p.pr) : Int) != IntKind.wrap .i64 (p.le + 1))
     (some ⟨.one (.bool false), [], []⟩)
     (ite2 (k_params_numbers_0 h p p.pr (↑(List.length p.pr) : Int) 0)
      (ite2 (p_params_numbers_0 h p p.pr)
       (ite2 (!within 1 16 [p.la])
        (some ⟨.one (.bool false), [], []⟩)
        (ite2 ((↑(List.length p.st) : Int) != IntKind.wrap .i64 (IntKind.wrap .i64 (3 * p.le) + 1))
         (some ⟨.one (.bool false), [], []⟩)
         (ite2 (small (List.length p.st))
          (ite2 (!within 1 65536 p.st)
           (some ⟨.one (.bool false), [], []⟩)
           (ite2 (!within 8 32 [p.de])
            (some ⟨.one (.bool false), [], []⟩)
            (ite2 (!within 0 30 [p.sf])
             (some ⟨.one (.bool false), [], []⟩)
             (ite2 (p.co == 0)
              (some ⟨.one (.bool true), [], []⟩)
              (ite2 (decide ((↑(List.length h.cs) : Int) ≥ 3))
               (ite2 (decide ((0 : Int) ≤ 0 ∧ 0 < (↑(List.length h.cs) : Int)))
                (ite2 (decide ((0 : Int) ≤ 1 ∧ 1 < (↑(List.length h.cs) : Int)))
                 (ite2 ((gC h.cs 0).1 == (gC h.cs 1).1 && ((gC h.cs 0).2.1 == (gC h.cs 1).2.1 && ((gC h.cs 0).2.2.1 == (gC h.cs 1).2.2.1 && ((gC h.cs 0).2.2.2 == (gC h.cs 1).2.2.2 && true))))
                  (ite2 (decide ((0 : Int) ≤ 0 ∧ 0 < (↑(List.length h.cs) : Int)))
                   (ite2 (decide ((0 : Int) ≤ 2 ∧ 2 < (↑(List.length h.cs) : Int)))
                    (some ⟨.one (.bool ((gC h.cs 0).1 == (gC h.cs 2).1 && ((gC h.cs 0).2.1 == (gC h.cs 2).2.1 && ((gC h.cs 0).2.2.1 == (gC h.cs 2).2.2.1 && ((gC h.cs 0).2.2.2 == (gC h.cs 2).2.2.2 && true))))), [], []⟩)
                    none)
                   none)
                  (some ⟨.one (.bool false), [], []⟩))
                 none)
                none)
               (some ⟨.one (.bool false), [], []⟩))))))
          none)))
       (some ⟨.one (.bool false), [], []⟩))
      none))
    (ite2 (k_params_numbers_0 h p p.pr (↑(List.length p.pr) : Int) 0)
     (ite2 (p_params_numbers_0 h p p.pr)
      (ite2 (!within 1 16 [p.la])
       (some ⟨.one (.bool false), [], []⟩)
       (ite2 ((↑(List.length p.st) : Int) != IntKind.wrap .i64 (IntKind.wrap .i64 (3 * p.le) + 1))
        (some ⟨.one (.bool false), [], []⟩)
        (ite2 (small (List.length p.st))
         (ite2 (!within 1 65536 p.st)
          (some ⟨.one (.bool false), [], []⟩)
          (ite2 (!within 8 32 [p.de])
           (some ⟨.one (.bool false), [], []⟩)
           (ite2 (!within 0 30 [p.sf])
            (some ⟨.one (.bool false), [], []⟩)
            (ite2 (p.co == 0)
             (some ⟨.one (.bool true), [], []⟩)
             (ite2 (decide ((↑(List.length h.cs) : Int) ≥ 3))
              (ite2 (decide ((0 : Int) ≤ 0 ∧ 0 < (↑(List.length h.cs) : Int)))
               (ite2 (decide ((0 : Int) ≤ 1 ∧ 1 < (↑(List.length h.cs) : Int)))
                (ite2 ((gC h.cs 0).1 == (gC h.cs 1).1 && ((gC h.cs 0).2.1 == (gC h.cs 1).2.1 && ((gC h.cs 0).2.2.1 == (gC h.cs 1).2.2.1 && ((gC h.cs 0).2.2.2 == (gC h.cs 1).2.2.2 && true))))
                 (ite2 (decide ((0 : Int) ≤ 0 ∧ 0 < (↑(List.length h.cs) : Int)))
                  (ite2 (decide ((0 : Int) ≤ 2 ∧ 2 < (↑(List.length h.cs) : Int)))
                   (some ⟨.one (.bool ((gC h.cs 0).1 == (gC h.cs 2).1 && ((gC h.cs 0).2.1 == (gC h.cs 2).2.1 && ((gC h.cs 0).2.2.1 == (gC h.cs 2).2.2.1 && ((gC h.cs 0).2.2.2 == (gC h.cs 2).2.2.2 && true))))), [], []⟩)
                   none)
                  none)
                 (some ⟨.one (.bool false), [], []⟩))
                none)
               none)
              (some ⟨.one (.bool false), [], []⟩))))))
         none)))
      (some ⟨.one (.bool false), [], []⟩))
     none)))) := by kernel_rfl
def U_params_numbers_0 (h : Hd) (p : Pm) (l : List (Int × Int)) (n i : Int) : LT :=
  (.br (decide (i < n))
    (.br (decide (0 ≤ i ∧ i < (↑(List.length l) : Int)))
     (.br (!within (if 1 < i then 1 else i) 12 [(gP l (Int.toNat i)).1, (gP l (Int.toNat i)).2])
      (.leaf Ex.ret [.one (.bool false)] [])
      (.leaf Ex.normal [.one (.ptr 0 0), .one (.ptr 1 0), .one (.lst (.pair (.int .i64) (Sh.int .i64)) l), .one (.int .i64 n), .one (.int .i64 (IntKind.wrap .i64 (i + 1)))] [some (.box [.int .i64 h.a, .int .i64 h.b, .int .i64 h.c, .int .i64 h.d, .int .i64 h.tw, .int .i64 h.th, .lst (.pair (.int .i64) (Sh.pair Sh.bool (Sh.pair (Sh.int .i64) (Sh.int .i64)))) h.cs]), some (.box [.int .i64 p.ke, .int .i64 p.le, .int .i64 p.co, .int .i64 p.bx, .int .i64 p.bw, .lst (.pair (.int .i64) (Sh.int .i64)) p.pr, .int .i64 p.od, .int .i64 p.la, .bool p.m1, .bool p.m2, .bool p.m3, .bool p.m4, .bool p.m5, .bool p.dv, .bool p.sy, .bool p.fe, .lst (.int .i64) p.st, .int .i64 p.de, .int .i64 p.sf])]))
     .no)
    (.leaf (Ex.exit 0) [.one (.ptr 0 0), .one (.ptr 1 0)] [some (.box [.int .i64 h.a, .int .i64 h.b, .int .i64 h.c, .int .i64 h.d, .int .i64 h.tw, .int .i64 h.th, .lst (.pair (.int .i64) (Sh.pair Sh.bool (Sh.pair (Sh.int .i64) (Sh.int .i64)))) h.cs]), some (.box [.int .i64 p.ke, .int .i64 p.le, .int .i64 p.co, .int .i64 p.bx, .int .i64 p.bw, .lst (.pair (.int .i64) (Sh.int .i64)) p.pr, .int .i64 p.od, .int .i64 p.la, .bool p.m1, .bool p.m2, .bool p.m3, .bool p.m4, .bool p.m5, .bool p.dv, .bool p.sy, .bool p.fe, .lst (.int .i64) p.st, .int .i64 p.de, .int .i64 p.sf])]))
def T_params_numbers_0 : TT := fun vs bl => (D_params_numbers_0 vs bl fun h p l n i => some (U_params_numbers_0 h p l n i)).getD .no
theorem tu_params_numbers_0 (h : Hd) (p : Pm) (l : List (Int × Int)) (n i : Int) : T_params_numbers_0 [.one (.ptr 0 0), .one (.ptr 1 0), .one (.lst (.pair (.int .i64) (.int .i64)) l), .one (.int .i64 n), .one (.int .i64 i)] [some (.box (hdC h)), some (.box (pmC p))] = U_params_numbers_0 h p l n i := by kernel_rfl
theorem b_params_numbers_0 (h : Hd) (p : Pm) (l : List (Int × Int)) (n i : Int) (Kc : KT) : exec Try.prog t_params_numbers (annOf []) l_params_numbers 20 0 (loopOf Try.f48 0) (unp 114 [2, 3, 36, 37, 38] [.one (.ptr 0 0), .one (.ptr 1 0), .one (.lst (.pair (.int .i64) (.int .i64)) l), .one (.int .i64 n), .one (.int .i64 i)] [some (.box (hdC h)), some (.box (pmC p))]) (endc 0 114 [2, 3, 36, 37, 38] (kxOf [2, 3] [4]) Kc) =
  (U_params_numbers_0 h p l n i).runc Kc := by kernel_rfl

def t_pyr_validLevels : FuncId → Option Summ := tabOf []
def l_pyr_validLevels : Nat → Option LSumm := ltOf []
theorem e_pyr_validLevels (n : Int) : funR Try.prog t_pyr_validLevels (annOf []) l_pyr_validLevels 20 Try.f52 [.one (.int .i64 n)] [] =
  (ite2 (decide (n ≥ 0))
  (some ⟨.one (.bool (decide (n ≤ 5))), [], []⟩)
  (some ⟨.one (.bool false), [], []⟩)) := by kernel_rfl
def t_pyr_Count : FuncId → Option Summ := tabOf [(52, G_pyr_validLevels)]
def l_pyr_Count : Nat → Option LSumm := ltOf []
theorem e_pyr_Count (n : Int) : funR Try.prog t_pyr_Count (annOf []) l_pyr_Count 20 Try.f25 [.one (.int .i64 n)] [] =
  (ite2 (!inr 0 5 n)
  (some ⟨.one (.int .i64 0), [], []⟩)
  (some ⟨.one (.int .i64 (IntKind.wrap .i64 (IntKind.wrap .i64 (3 * n) + 1))), [], []⟩)) := by kernel_rfl
def t_pyr_Place : FuncId → Option Summ := tabOf [(25, G_pyr_Count)]
def l_pyr_Place : Nat → Option LSumm := ltOf []
theorem e_pyr_Place (i n : Int) : funR Try.prog t_pyr_Place (annOf []) l_pyr_Place 20 Try.f53 [.one (.int .i64 i), .one (.int .i64 n)] [] =
  (ite2 (decide (i < 0))
  (some ⟨.tup [(false, [.int .i64 0]), (false, [.int .i64 0]), (false, [.bool false])], [], []⟩)
  (ite2 (decide (i ≥ count n))
   (some ⟨.tup [(false, [.int .i64 0]), (false, [.int .i64 0]), (false, [.bool false])], [], []⟩)
   (ite2 (i == 0)
    (some ⟨.tup [(false, [.int .i64 n]), (false, [.int .i64 0]), (false, [.bool true])], [], []⟩)
    (some ⟨.tup [(false, [.int .i64 (IntKind.wrap .i64 (IntKind.wrap .i64 (n - IntKind.wrap .i64 (Int.tdiv (IntKind.wrap .i64 (i + 2)) 3)) + 1))]), (false, [.int .i64 (IntKind.wrap .i64 (IntKind.wrap .i64 (i - IntKind.wrap .i64 (3 * IntKind.wrap .i64 (Int.tdiv (IntKind.wrap .i64 (i + 2)) 3))) + 3))]), (false, [.bool true])], [], []⟩)))) := by kernel_rfl
def t_pyr_Indices : FuncId → Option Summ := tabOf [(52, G_pyr_validLevels)]
def l_pyr_Indices : Nat → Option LSumm := ltOf []
theorem e_pyr_Indices (n r : Int) : funR Try.prog t_pyr_Indices (annOf []) l_pyr_Indices 20 Try.f78 [.one (.int .i64 n), .one (.int .i64 r)] [] =
  (ite2 (!inr 0 5 n)
  (some ⟨.one (.row 0), [], [.arr 3 (.int .i64) ([] : List (Int))]⟩)
  (ite2 (decide (r < 0))
   (some ⟨.one (.row 0), [], [.arr 3 (.int .i64) ([] : List (Int))]⟩)
   (ite2 (decide (r > n))
    (some ⟨.one (.row 0), [], [.arr 3 (.int .i64) ([] : List (Int))]⟩)
    (ite2 (r == 0)
     (some ⟨.one (.row 0), [], [.arr 3 (.int .i64) ([0] : List (Int))]⟩)
     (some ⟨.one (.row 0), [], [.arr 3 (.int .i64) ([IntKind.wrap .i64 (IntKind.wrap .i64 (3 * r) - 2), IntKind.wrap .i64 (IntKind.wrap .i64 (3 * r) - 1), IntKind.wrap .i64 (3 * r)] : List (Int))]⟩))))) := by kernel_rfl
def t_pyr_Resolution : FuncId → Option Summ := tabOf [(51, G_rect_Reduce), (52, G_pyr_validLevels)]
def l_pyr_Resolution : Nat → Option LSumm := ltOf []
theorem e_pyr_Resolution (a b c d n r : Int) : funR Try.prog t_pyr_Resolution (annOf []) l_pyr_Resolution 20 Try.f54 [.agg [.int .i64 a, .int .i64 b, .int .i64 c, .int .i64 d], .one (.int .i64 n), .one (.int .i64 r)] [] =
  (ite2 (!inr 0 5 n)
  (some ⟨.agg [.int .i64 0, .int .i64 0, .int .i64 0, .int .i64 0], [], []⟩)
  (ite2 (decide (r < 0))
   (some ⟨.agg [.int .i64 0, .int .i64 0, .int .i64 0, .int .i64 0], [], []⟩)
   (ite2 (decide (r > n))
    (some ⟨.agg [.int .i64 0, .int .i64 0, .int .i64 0, .int .i64 0], [], []⟩)
    (ite2 (decide (0 ≤ IntKind.wrap IntKind.u64 (IntKind.wrap .i64 (n - r))))
     (some ⟨.agg [.int .i64 (reduce a b c d (IntKind.wrap .i64 (1 * 2 ^ min (Int.toNat (IntKind.wrap IntKind.u64 (IntKind.wrap .i64 (n - r)))) 64)) (IntKind.wrap .i64 (1 * 2 ^ min (Int.toNat (IntKind.wrap IntKind.u64 (IntKind.wrap .i64 (n - r)))) 64))).1, .int .i64 (reduce a b c d (IntKind.wrap .i64 (1 * 2 ^ min (Int.toNat (IntKind.wrap IntKind.u64 (IntKind.wrap .i64 (n - r)))) 64)) (IntKind.wrap .i64 (1 * 2 ^ min (Int.toNat (IntKind.wrap IntKind.u64 (IntKind.wrap .i64 (n - r)))) 64))).2.1, .int .i64 (reduce a b c d (IntKind.wrap .i64 (1 * 2 ^ min (Int.toNat (IntKind.wrap IntKind.u64 (IntKind.wrap .i64 (n - r)))) 64)) (IntKind.wrap .i64 (1 * 2 ^ min (Int.toNat (IntKind.wrap IntKind.u64 (IntKind.wrap .i64 (n - r)))) 64))).2.2.1, .int .i64 (reduce a b c d (IntKind.wrap .i64 (1 * 2 ^ min (Int.toNat (IntKind.wrap IntKind.u64 (IntKind.wrap .i64 (n - r)))) 64)) (IntKind.wrap .i64 (1 * 2 ^ min (Int.toNat (IntKind.wrap IntKind.u64 (IntKind.wrap .i64 (n - r)))) 64))).2.2.2], [], []⟩)
     none)))) := by kernel_rfl
def t_dwt_Bands : FuncId → Option Summ := tabOf [(30, G_rect_Valid)]
def l_dwt_Bands : Nat → Option LSumm := ltOf []
theorem e_dwt_Bands (a b c d : Int) : funR Try.prog t_dwt_Bands (annOf []) l_dwt_Bands 20 Try.f55 [.agg [.int .i64 a, .int .i64 b, .int .i64 c, .int .i64 d]] [] =
  (ite2 (!valid a b c d)
  (some ⟨.agg [.int .i64 0, .int .i64 0, .int .i64 0, .int .i64 0, .int .i64 0, .int .i64 0, .int .i64 0, .int .i64 0, .int .i64 0, .int .i64 0, .int .i64 0, .int .i64 0, .int .i64 0, .int .i64 0, .int .i64 0, .int .i64 0], [], []⟩)
  (some ⟨.agg [.int .i64 (IntKind.wrap .i64 (Int.tdiv (IntKind.wrap .i64 (a + 1)) 2)), .int .i64 (IntKind.wrap .i64 (Int.tdiv (IntKind.wrap .i64 (b + 1)) 2)), .int .i64 (IntKind.wrap .i64 (Int.tdiv (IntKind.wrap .i64 (c + 1)) 2)), .int .i64 (IntKind.wrap .i64 (Int.tdiv (IntKind.wrap .i64 (d + 1)) 2)), .int .i64 (IntKind.wrap .i64 (Int.tdiv (IntKind.wrap .i64 (a + 0)) 2)), .int .i64 (IntKind.wrap .i64 (Int.tdiv (IntKind.wrap .i64 (b + 1)) 2)), .int .i64 (IntKind.wrap .i64 (Int.tdiv (IntKind.wrap .i64 (c + 0)) 2)), .int .i64 (IntKind.wrap .i64 (Int.tdiv (IntKind.wrap .i64 (d + 1)) 2)), .int .i64 (IntKind.wrap .i64 (Int.tdiv (IntKind.wrap .i64 (a + 1)) 2)), .int .i64 (IntKind.wrap .i64 (Int.tdiv (IntKind.wrap .i64 (b + 0)) 2)), .int .i64 (IntKind.wrap .i64 (Int.tdiv (IntKind.wrap .i64 (c + 1)) 2)), .int .i64 (IntKind.wrap .i64 (Int.tdiv (IntKind.wrap .i64 (d + 0)) 2)), .int .i64 (IntKind.wrap .i64 (Int.tdiv (IntKind.wrap .i64 (a + 0)) 2)), .int .i64 (IntKind.wrap .i64 (Int.tdiv (IntKind.wrap .i64 (b + 0)) 2)), .int .i64 (IntKind.wrap .i64 (Int.tdiv (IntKind.wrap .i64 (c + 0)) 2)), .int .i64 (IntKind.wrap .i64 (Int.tdiv (IntKind.wrap .i64 (d + 0)) 2))], [], []⟩)) := by kernel_rfl
def t_pyr_Band : FuncId → Option Summ := tabOf [(30, G_rect_Valid), (53, G_pyr_Place), (54, G_pyr_Resolution), (55, G_dwt_Bands)]
def l_pyr_Band : Nat → Option LSumm := ltOf []
theorem e_pyr_Band (a b c d n i : Int) : funR Try.prog t_pyr_Band (annOf []) l_pyr_Band 20 Try.f27 [.agg [.int .i64 a, .int .i64 b, .int .i64 c, .int .i64 d], .one (.int .i64 n), .one (.int .i64 i)] [] =
  (let z1_ := resR a b c d n (IntKind.wrap .i64 (IntKind.wrap .i64 (n - plLv i n) + 1)); let z2_ := bnd z1_.1 z1_.2.1 z1_.2.2.1 z1_.2.2.2 0; let z3_ := bnd z1_.1 z1_.2.1 z1_.2.2.1 z1_.2.2.2 1; let z4_ := bnd z1_.1 z1_.2.1 z1_.2.2.1 z1_.2.2.2 2; let z5_ := bnd z1_.1 z1_.2.1 z1_.2.2.1 z1_.2.2.2 3; (ite2 (!plOk i n)
  (some ⟨.agg [.int .i64 0, .int .i64 0, .int .i64 0, .int .i64 0], [], []⟩)
  (ite2 (!valid a b c d)
   (some ⟨.agg [.int .i64 0, .int .i64 0, .int .i64 0, .int .i64 0], [], []⟩)
   (ite2 (i == 0)
    (some ⟨.agg [.int .i64 (resR a b c d n 0).1, .int .i64 (resR a b c d n 0).2.1, .int .i64 (resR a b c d n 0).2.2.1, .int .i64 (resR a b c d n 0).2.2.2], [], []⟩)
    (ite2 (decide (0 ≤ plOr i n ∧ plOr i n < 4))
     (some ⟨.agg [.int .i64 (gI [z2_.1, z3_.1, z4_.1, z5_.1] (Int.toNat (plOr i n))), .int .i64 (gI [z2_.2.1, z3_.2.1, z4_.2.1, z5_.2.1] (Int.toNat (plOr i n))), .int .i64 (gI [z2_.2.2.1, z3_.2.2.1, z4_.2.2.1, z5_.2.2.1] (Int.toNat (plOr i n))), .int .i64 (gI [z2_.2.2.2, z3_.2.2.2, z4_.2.2.2, z5_.2.2.2] (Int.toNat (plOr i n)))], [], []⟩)
     none))))) := by kernel_rfl
def t_params_cells : FuncId → Option Summ := tabOf [(31, G_rect_Empty), (74, G_rect_CeilDiv), (75, G_rect_FloorDiv)]
def l_params_cells : Nat → Option LSumm := ltOf []
theorem e_params_cells (a b c d x y : Int) : funR Try.prog t_params_cells (annOf []) l_params_cells 20 Try.f77 [.agg [.int .i64 a, .int .i64 b, .int .i64 c, .int .i64 d], .one (.int .i64 x), .one (.int .i64 y)] [] =
  (ite2 (empty a b c d)
  (some ⟨.one (.int .i64 0), [], []⟩)
  (ite2 (decide (0 ≤ IntKind.wrap IntKind.u64 x))
   (ite2 (decide (0 ≤ IntKind.wrap IntKind.u64 y))
    (some ⟨.one (.int .i64 (IntKind.wrap .i64 (IntKind.wrap .i64 (cdiv c (IntKind.wrap .i64 (1 * 2 ^ min (Int.toNat (IntKind.wrap IntKind.u64 x)) 64)) - fdiv a (IntKind.wrap .i64 (1 * 2 ^ min (Int.toNat (IntKind.wrap IntKind.u64 x)) 64))) * IntKind.wrap .i64 (cdiv d (IntKind.wrap .i64 (1 * 2 ^ min (Int.toNat (IntKind.wrap IntKind.u64 y)) 64)) - fdiv b (IntKind.wrap .i64 (1 * 2 ^ min (Int.toNat (IntKind.wrap IntKind.u64 y)) 64)))))), [], []⟩)
    none)
   none)) := by kernel_rfl
def t_rect_Cells : FuncId → Option Summ := tabOf [(30, G_rect_Valid), (31, G_rect_Empty), (62, G_rect_Intersect), (74, G_rect_CeilDiv), (75, G_rect_FloorDiv)]
def l_rect_Cells : Nat → Option LSumm := ltOf [(9, ⟨0, 86, [1, 2, 3, 7, 8, 10, 11, 12], (kxOf [11] [6]), S_rect_Cells_0⟩), (12, ⟨0, 86, [1, 2, 3, 7, 8, 10, 11, 12, 13], (kxOf [1, 2, 3, 7, 8, 10, 11, 12] [6]), S_rect_Cells_1⟩)]
theorem e_rect_Cells (a b c d w h : Int) : funR Try.prog t_rect_Cells (annOf []) l_rect_Cells 20 Try.f49 [.agg [.int .i64 a, .int .i64 b, .int .i64 c, .int .i64 d], .one (.int .i64 w), .one (.int .i64 h)] [] =
  (ite2 (!valid a b c d)
  (some ⟨.one (.row 0), [], [.arr 28 (.pair (.int .i64) (Sh.pair (Sh.int .i64) (Sh.pair (Sh.int .i64) (Sh.int .i64)))) ([] : List (Int × Int × Int × Int))]⟩)
  (ite2 (empty a b c d)
   (some ⟨.one (.row 0), [], [.arr 28 (.pair (.int .i64) (Sh.pair (Sh.int .i64) (Sh.pair (Sh.int .i64) (Sh.int .i64)))) ([] : List (Int × Int × Int × Int))]⟩)
   (ite2 (decide (w < 1))
    (some ⟨.one (.row 0), [], [.arr 28 (.pair (.int .i64) (Sh.pair (Sh.int .i64) (Sh.pair (Sh.int .i64) (Sh.int .i64)))) ([] : List (Int × Int × Int × Int))]⟩)
    (ite2 (decide (h < 1))
     (some ⟨.one (.row 0), [], [.arr 28 (.pair (.int .i64) (Sh.pair (Sh.int .i64) (Sh.pair (Sh.int .i64) (Sh.int .i64)))) ([] : List (Int × Int × Int × Int))]⟩)
     (ite2 (decide (IntKind.wrap .i64 (IntKind.wrap .i64 (cdiv c w - fdiv a w) * IntKind.wrap .i64 (cdiv d h - fdiv b h)) > 65536))
      (some ⟨.one (.row 0), [], [.arr 28 (.pair (.int .i64) (Sh.pair (Sh.int .i64) (Sh.pair (Sh.int .i64) (Sh.int .i64)))) ([] : List (Int × Int × Int × Int))]⟩)
      (ite2 (k_rect_Cells_0 a b c d w h (fdiv a w) (cdiv c w) (cdiv d h) (fdiv b h) [])
       (some ⟨.one (.row 0), [], [.arr 28 (.pair (.int .i64) (Sh.pair (Sh.int .i64) (Sh.pair (Sh.int .i64) (Sh.int .i64)))) ([] ++ gridL a b c d w h (fdiv a w) (Int.toNat (cdiv c w - fdiv a w)) (Int.toNat (cdiv d h - fdiv b h)) (fdiv b h))]⟩)
       none)))))) := by kernel_rfl
def U_rect_Cells_0 (a b c d w h l g u j : Int) (t : List Rc) : LT :=
  (.br (decide (j < u))
    (.br (k_rect_Cells_1 a b c d w h l g u j l t)
     (.leaf Ex.normal [.one (.int .i64 w), .one (.int .i64 h), .one (.ptr 0 0), .one (.int .i64 l), .one (.int .i64 g), .one (.int .i64 u), .one (.row 1), .one (.int .i64 (IntKind.wrap .i64 (j + 1)))] [some (.box [.int .i64 a, .int .i64 b, .int .i64 c, .int .i64 d]), some (.arr 28 (.pair (.int .i64) (Sh.pair (Sh.int .i64) (Sh.pair (Sh.int .i64) (Sh.int .i64)))) (t ++ rowL a b c d w h j (Int.toNat (g - l)) l))])
     .no)
    (.leaf (Ex.exit 0) [.one (.row 0)] [some (.arr 28 (.pair (.int .i64) (Sh.pair (Sh.int .i64) (Sh.pair (Sh.int .i64) (Sh.int .i64)))) t)]))
def T_rect_Cells_0 : TT := fun vs bl => (D_rect_Cells_0 vs bl fun a b c d w h l g u j t => some (U_rect_Cells_0 a b c d w h l g u j t)).getD .no
theorem tu_rect_Cells_0 (a b c d w h l g u j : Int) (t : List Rc) : T_rect_Cells_0 [.one (.int .i64 w), .one (.int .i64 h), .one (.ptr 0 0), .one (.int .i64 l), .one (.int .i64 g), .one (.int .i64 u), .one (.row 1), .one (.int .i64 j)] [some (.box [.int .i64 a, .int .i64 b, .int .i64 c, .int .i64 d]), some (.arr 28 (.pair (.int .i64) (.pair (.int .i64) (.pair (.int .i64) (.int .i64)))) t)] = U_rect_Cells_0 a b c d w h l g u j t := by kernel_rfl
theorem b_rect_Cells_0 (a b c d w h l g u j : Int) (t : List Rc) (Kc : KT) : exec Try.prog t_rect_Cells (annOf []) l_rect_Cells 20 0 (loopOf Try.f49 0) (unp 86 [1, 2, 3, 7, 8, 10, 11, 12] [.one (.int .i64 w), .one (.int .i64 h), .one (.ptr 0 0), .one (.int .i64 l), .one (.int .i64 g), .one (.int .i64 u), .one (.row 1), .one (.int .i64 j)] [some (.box [.int .i64 a, .int .i64 b, .int .i64 c, .int .i64 d]), some (.arr 28 (.pair (.int .i64) (.pair (.int .i64) (.pair (.int .i64) (.int .i64)))) t)]) (endc 0 86 [1, 2, 3, 7, 8, 10, 11, 12] (kxOf [11] [6]) Kc) =
  (U_rect_Cells_0 a b c d w h l g u j t).runc Kc := by kernel_rfl
def U_rect_Cells_1 (a b c d w h l g u j i : Int) (t : List Rc) : LT :=
  (.br (decide (i < g))
    (.br (decide ((List.length t + List.length [((inter a b c d (IntKind.wrap .i64 (i * w)) (IntKind.wrap .i64 (j * h)) (IntKind.wrap .i64 (IntKind.wrap .i64 (i + 1) * w)) (IntKind.wrap .i64 (IntKind.wrap .i64 (j + 1) * h))).1, (inter a b c d (IntKind.wrap .i64 (i * w)) (IntKind.wrap .i64 (j * h)) (IntKind.wrap .i64 (IntKind.wrap .i64 (i + 1) * w)) (IntKind.wrap .i64 (IntKind.wrap .i64 (j + 1) * h))).2.1, (inter a b c d (IntKind.wrap .i64 (i * w)) (IntKind.wrap .i64 (j * h)) (IntKind.wrap .i64 (IntKind.wrap .i64 (i + 1) * w)) (IntKind.wrap .i64 (IntKind.wrap .i64 (j + 1) * h))).2.2.1, (inter a b c d (IntKind.wrap .i64 (i * w)) (IntKind.wrap .i64 (j * h)) (IntKind.wrap .i64 (IntKind.wrap .i64 (i + 1) * w)) (IntKind.wrap .i64 (IntKind.wrap .i64 (j + 1) * h))).2.2.2)]) * 33 ≤ 140737488355328))
     (.leaf Ex.normal [.one (.int .i64 w), .one (.int .i64 h), .one (.ptr 0 0), .one (.int .i64 l), .one (.int .i64 g), .one (.int .i64 u), .one (.row 1), .one (.int .i64 j), .one (.int .i64 (IntKind.wrap .i64 (i + 1)))] [some (.box [.int .i64 a, .int .i64 b, .int .i64 c, .int .i64 d]), some (.arr 28 (.pair (.int .i64) (Sh.pair (Sh.int .i64) (Sh.pair (Sh.int .i64) (Sh.int .i64)))) (t ++ [((inter a b c d (IntKind.wrap .i64 (i * w)) (IntKind.wrap .i64 (j * h)) (IntKind.wrap .i64 (IntKind.wrap .i64 (i + 1) * w)) (IntKind.wrap .i64 (IntKind.wrap .i64 (j + 1) * h))).1, (inter a b c d (IntKind.wrap .i64 (i * w)) (IntKind.wrap .i64 (j * h)) (IntKind.wrap .i64 (IntKind.wrap .i64 (i + 1) * w)) (IntKind.wrap .i64 (IntKind.wrap .i64 (j + 1) * h))).2.1, (inter a b c d (IntKind.wrap .i64 (i * w)) (IntKind.wrap .i64 (j * h)) (IntKind.wrap .i64 (IntKind.wrap .i64 (i + 1) * w)) (IntKind.wrap .i64 (IntKind.wrap .i64 (j + 1) * h))).2.2.1, (inter a b c d (IntKind.wrap .i64 (i * w)) (IntKind.wrap .i64 (j * h)) (IntKind.wrap .i64 (IntKind.wrap .i64 (i + 1) * w)) (IntKind.wrap .i64 (IntKind.wrap .i64 (j + 1) * h))).2.2.2)]))])
     .no)
    (.leaf (Ex.exit 2) [.one (.int .i64 w), .one (.int .i64 h), .one (.ptr 0 0), .one (.int .i64 l), .one (.int .i64 g), .one (.int .i64 u), .one (.row 1), .one (.int .i64 j)] [some (.box [.int .i64 a, .int .i64 b, .int .i64 c, .int .i64 d]), some (.arr 28 (.pair (.int .i64) (Sh.pair (Sh.int .i64) (Sh.pair (Sh.int .i64) (Sh.int .i64)))) t)]))
def T_rect_Cells_1 : TT := fun vs bl => (D_rect_Cells_1 vs bl fun a b c d w h l g u j i t => some (U_rect_Cells_1 a b c d w h l g u j i t)).getD .no
theorem tu_rect_Cells_1 (a b c d w h l g u j i : Int) (t : List Rc) : T_rect_Cells_1 [.one (.int .i64 w), .one (.int .i64 h), .one (.ptr 0 0), .one (.int .i64 l), .one (.int .i64 g), .one (.int .i64 u), .one (.row 1), .one (.int .i64 j), .one (.int .i64 i)] [some (.box [.int .i64 a, .int .i64 b, .int .i64 c, .int .i64 d]), some (.arr 28 (.pair (.int .i64) (.pair (.int .i64) (.pair (.int .i64) (.int .i64)))) t)] = U_rect_Cells_1 a b c d w h l g u j i t := by kernel_rfl
theorem b_rect_Cells_1 (a b c d w h l g u j i : Int) (t : List Rc) (Kc : KT) : exec Try.prog t_rect_Cells (annOf []) l_rect_Cells 20 0 (loopOf Try.f49 1) (unp 86 [1, 2, 3, 7, 8, 10, 11, 12, 13] [.one (.int .i64 w), .one (.int .i64 h), .one (.ptr 0 0), .one (.int .i64 l), .one (.int .i64 g), .one (.int .i64 u), .one (.row 1), .one (.int .i64 j), .one (.int .i64 i)] [some (.box [.int .i64 a, .int .i64 b, .int .i64 c, .int .i64 d]), some (.arr 28 (.pair (.int .i64) (.pair (.int .i64) (.pair (.int .i64) (.int .i64)))) t)]) (endc 0 86 [1, 2, 3, 7, 8, 10, 11, 12, 13] (kxOf [1, 2, 3, 7, 8, 10, 11, 12] [6]) Kc) =
  (U_rect_Cells_1 a b c d w h l g u j i t).runc Kc := by kernel_rfl
def t_tileFits : FuncId → Option Summ := tabOf [(27, G_pyr_Band), (51, G_rect_Reduce), (54, G_pyr_Resolution), (76, G_params_Precinct), (77, G_params_cells), (78, G_pyr_Indices)]
def l_tileFits : Nat → Option LSumm := ltOf [(3, ⟨0, 92, [4, 5, 7, 16, 17, 18], (kxOf [7] [6]), S_tileFits_0⟩), (7, ⟨0, 92, [4, 5, 7, 10, 11, 16, 17, 18], (kxOf [4, 5, 7, 16, 17, 18] [6]), S_tileFits_1⟩), (14, ⟨0, 92, [4, 5, 7, 10, 11, 12, 16, 17, 18, 65, 66, 67], (kxOf [4, 5, 7, 10, 11, 16, 17, 18] [6]), S_tileFits_2⟩)]
theorem e_tileFits (h : Hd) (p : Pm) (a b c d : Int) : funR Try.prog t_tileFits (annOf []) l_tileFits 20 Try.f50 [.agg (hdC h), .agg (pmC p), .agg [.int .i64 a, .int .i64 b, .int .i64 c, .int .i64 d]] [] =
  (ite2 (k_tileFits_0 p h.cs a b c d 0 (↑(List.length h.cs) : Int) 0)
  (ite2 (compsOK (a, b, c, d) p h.cs)
   (some ⟨.one (.bool (decide (packs (a, b, c, d) p h.cs ≤ 65536))), [], []⟩)
   (some ⟨.one (.bool false), [], []⟩))
  none) := by kernel_rfl
def U_tileFits_0 (p : Pm) (l : List (Int × Bool × Int × Int)) (a b c d s n i : Int) : LT :=
  (.br (decide (i < n))
    (.br (decide (0 ≤ i ∧ i < (↑(List.length l) : Int)))
     (.br (k_tileFits_1 p l a b c d (reduce a b c d (gC l (Int.toNat i)).2.2.1 (gC l (Int.toNat i)).2.2.2).1 (reduce a b c d (gC l (Int.toNat i)).2.2.1 (gC l (Int.toNat i)).2.2.2).2.1 (reduce a b c d (gC l (Int.toNat i)).2.2.1 (gC l (Int.toNat i)).2.2.2).2.2.1 (reduce a b c d (gC l (Int.toNat i)).2.2.1 (gC l (Int.toNat i)).2.2.2).2.2.2 s n i 0)
      (.br (compOK ((reduce a b c d (gC l (Int.toNat i)).2.2.1 (gC l (Int.toNat i)).2.2.2).1, (reduce a b c d (gC l (Int.toNat i)).2.2.1 (gC l (Int.toNat i)).2.2.2).2.1, (reduce a b c d (gC l (Int.toNat i)).2.2.1 (gC l (Int.toNat i)).2.2.2).2.2.1, (reduce a b c d (gC l (Int.toNat i)).2.2.1 (gC l (Int.toNat i)).2.2.2).2.2.2) p)
       (.leaf Ex.normal [.one (.ptr 0 0), .one (.ptr 1 0), .one (.int .i64 (s + p.la * compN ((reduce a b c d (gC l (Int.toNat i)).2.2.1 (gC l (Int.toNat i)).2.2.2).1, (reduce a b c d (gC l (Int.toNat i)).2.2.1 (gC l (Int.toNat i)).2.2.2).2.1, (reduce a b c d (gC l (Int.toNat i)).2.2.1 (gC l (Int.toNat i)).2.2.2).2.2.1, (reduce a b c d (gC l (Int.toNat i)).2.2.1 (gC l (Int.toNat i)).2.2.2).2.2.2) p)), .one (.lst (.pair (.int .i64) (Sh.pair Sh.bool (Sh.pair (Sh.int .i64) (Sh.int .i64)))) l), .one (.int .i64 n), .one (.int .i64 (IntKind.wrap .i64 (i + 1)))] [some (.box [.int .i64 p.ke, .int .i64 p.le, .int .i64 p.co, .int .i64 p.bx, .int .i64 p.bw, .lst (.pair (.int .i64) (Sh.int .i64)) p.pr, .int .i64 p.od, .int .i64 p.la, .bool p.m1, .bool p.m2, .bool p.m3, .bool p.m4, .bool p.m5, .bool p.dv, .bool p.sy, .bool p.fe, .lst (.int .i64) p.st, .int .i64 p.de, .int .i64 p.sf]), some (.box [.int .i64 a, .int .i64 b, .int .i64 c, .int .i64 d])])
       (.leaf Ex.ret [.one (.bool false)] []))
      .no)
     .no)
    (.leaf (Ex.exit 0) [.one (.int .i64 s)] []))
def T_tileFits_0 : TT := fun vs bl => (D_tileFits_0 vs bl fun p l a b c d s n i => some (U_tileFits_0 p l a b c d s n i)).getD .no
theorem tu_tileFits_0 (p : Pm) (l : List (Int × Bool × Int × Int)) (a b c d s n i : Int) : T_tileFits_0 [.one (.ptr 0 0), .one (.ptr 1 0), .one (.int .i64 s), .one (.lst (.pair (.int .i64) (.pair .bool (.pair (.int .i64) (.int .i64)))) l), .one (.int .i64 n), .one (.int .i64 i)] [some (.box (pmC p)), some (.box [.int .i64 a, .int .i64 b, .int .i64 c, .int .i64 d])] = U_tileFits_0 p l a b c d s n i := by kernel_rfl
theorem b_tileFits_0 (p : Pm) (l : List (Int × Bool × Int × Int)) (a b c d s n i : Int) (Kc : KT) : exec Try.prog t_tileFits (annOf []) l_tileFits 20 0 (loopOf Try.f50 0) (unp 92 [4, 5, 7, 16, 17, 18] [.one (.ptr 0 0), .one (.ptr 1 0), .one (.int .i64 s), .one (.lst (.pair (.int .i64) (.pair .bool (.pair (.int .i64) (.int .i64)))) l), .one (.int .i64 n), .one (.int .i64 i)] [some (.box (pmC p)), some (.box [.int .i64 a, .int .i64 b, .int .i64 c, .int .i64 d])]) (endc 0 92 [4, 5, 7, 16, 17, 18] (kxOf [7] [6]) Kc) =
  (U_tileFits_0 p l a b c d s n i).runc Kc := by kernel_rfl
def U_tileFits_1 (p : Pm) (l : List (Int × Bool × Int × Int)) (a b c d e f g o s n i res : Int) : LT :=
  let z1_ := IntKind.wrap .i64 (s + IntKind.wrap .i64 (cellsN (resR e f g o p.le res).1 (resR e f g o p.le res).2.1 (resR e f g o p.le res).2.2.1 (resR e f g o p.le res).2.2.2 (prec p res).1 (prec p res).2 * p.la)); (.br (decide (res ≤ p.le))
    (.br (inr 0 12 (prec p res).1 && inr 0 12 (prec p res).2)
     (.br (decide (res > 0))
      (.br (k_tileFits_2 p l (idxs p.le res) a b c d e f g o (IntKind.wrap .i64 ((prec p res).1 - 1)) (IntKind.wrap .i64 ((prec p res).2 - 1)) z1_ n i res (↑(List.length (idxs p.le res)) : Int) 0)
       (.br (p_tileFits_2 p l (idxs p.le res) a b c d e f g o (IntKind.wrap .i64 ((prec p res).1 - 1)) (IntKind.wrap .i64 ((prec p res).2 - 1)) z1_ n i res)
        (.leaf Ex.normal [.one (.ptr 0 0), .one (.ptr 1 0), .one (.int .i64 z1_), .one (.ptr 2 0), .one (.int .i64 (IntKind.wrap .i64 (res + 1))), .one (.lst (.pair (.int .i64) (Sh.pair Sh.bool (Sh.pair (Sh.int .i64) (Sh.int .i64)))) l), .one (.int .i64 n), .one (.int .i64 i)] [some (.box [.int .i64 p.ke, .int .i64 p.le, .int .i64 p.co, .int .i64 p.bx, .int .i64 p.bw, .lst (.pair (.int .i64) (Sh.int .i64)) p.pr, .int .i64 p.od, .int .i64 p.la, .bool p.m1, .bool p.m2, .bool p.m3, .bool p.m4, .bool p.m5, .bool p.dv, .bool p.sy, .bool p.fe, .lst (.int .i64) p.st, .int .i64 p.de, .int .i64 p.sf]), some (.box [.int .i64 a, .int .i64 b, .int .i64 c, .int .i64 d]), some (.box [.int .i64 e, .int .i64 f, .int .i64 g, .int .i64 o])])
        (.leaf Ex.ret [.one (.bool false)] []))
       .no)
      (.br (k_tileFits_2 p l (idxs p.le res) a b c d e f g o (prec p res).1 (prec p res).2 z1_ n i res (↑(List.length (idxs p.le res)) : Int) 0)
       (.br (p_tileFits_2 p l (idxs p.le res) a b c d e f g o (prec p res).1 (prec p res).2 z1_ n i res)
        (.leaf Ex.normal [.one (.ptr 0 0), .one (.ptr 1 0), .one (.int .i64 z1_), .one (.ptr 2 0), .one (.int .i64 (IntKind.wrap .i64 (res + 1))), .one (.lst (.pair (.int .i64) (Sh.pair Sh.bool (Sh.pair (Sh.int .i64) (Sh.int .i64)))) l), .one (.int .i64 n), .one (.int .i64 i)] [some (.box [.int .i64 p.ke, .int .i64 p.le, .int .i64 p.co, .int .i64 p.bx, .int .i64 p.bw, .lst (.pair (.int .i64) (Sh.int .i64)) p.pr, .int .i64 p.od, .int .i64 p.la, .bool p.m1, .bool p.m2, .bool p.m3, .bool p.m4, .bool p.m5, .bool p.dv, .bool p.sy, .bool p.fe, .lst (.int .i64) p.st, .int .i64 p.de, .int .i64 p.sf]), some (.box [.int .i64 a, .int .i64 b, .int .i64 c, .int .i64 d]), some (.box [.int .i64 e, .int .i64 f, .int .i64 g, .int .i64 o])])
        (.leaf Ex.ret [.one (.bool false)] []))
       .no))
     .no)
    (.leaf (Ex.exit 2) [.one (.ptr 0 0), .one (.ptr 1 0), .one (.int .i64 s), .one (.lst (.pair (.int .i64) (Sh.pair Sh.bool (Sh.pair (Sh.int .i64) (Sh.int .i64)))) l), .one (.int .i64 n), .one (.int .i64 i)] [some (.box [.int .i64 p.ke, .int .i64 p.le, .int .i64 p.co, .int .i64 p.bx, .int .i64 p.bw, .lst (.pair (.int .i64) (Sh.int .i64)) p.pr, .int .i64 p.od, .int .i64 p.la, .bool p.m1, .bool p.m2, .bool p.m3, .bool p.m4, .bool p.m5, .bool p.dv, .bool p.sy, .bool p.fe, .lst (.int .i64) p.st, .int .i64 p.de, .int .i64 p.sf]), some (.box [.int .i64 a, .int .i64 b, .int .i64 c, .int .i64 d])]))
def T_tileFits_1 : TT := fun vs bl => (D_tileFits_1 vs bl fun p l a b c d e f g o s n i res => some (U_tileFits_1 p l a b c d e f g o s n i res)).getD .no
theorem tu_tileFits_1 (p : Pm) (l : List (Int × Bool × Int × Int)) (a b c d e f g o s n i res : Int) : T_tileFits_1 [.one (.ptr 0 0), .one (.ptr 1 0), .one (.int .i64 s), .one (.ptr 2 0), .one (.int .i64 res), .one (.lst (.pair (.int .i64) (.pair .bool (.pair (.int .i64) (.int .i64)))) l), .one (.int .i64 n), .one (.int .i64 i)] [some (.box (pmC p)), some (.box [.int .i64 a, .int .i64 b, .int .i64 c, .int .i64 d]), some (.box [.int .i64 e, .int .i64 f, .int .i64 g, .int .i64 o])] = U_tileFits_1 p l a b c d e f g o s n i res := by kernel_rfl
theorem b_tileFits_1 (p : Pm) (l : List (Int × Bool × Int × Int)) (a b c d e f g o s n i res : Int) (Kc : KT) : exec Try.prog t_tileFits (annOf []) l_tileFits 20 0 (loopOf Try.f50 1) (unp 92 [4, 5, 7, 10, 11, 16, 17, 18] [.one (.ptr 0 0), .one (.ptr 1 0), .one (.int .i64 s), .one (.ptr 2 0), .one (.int .i64 res), .one (.lst (.pair (.int .i64) (.pair .bool (.pair (.int .i64) (.int .i64)))) l), .one (.int .i64 n), .one (.int .i64 i)] [some (.box (pmC p)), some (.box [.int .i64 a, .int .i64 b, .int .i64 c, .int .i64 d]), some (.box [.int .i64 e, .int .i64 f, .int .i64 g, .int .i64 o])]) (endc 0 92 [4, 5, 7, 10, 11, 16, 17, 18] (kxOf [4, 5, 7, 16, 17, 18] [6]) Kc) =
  (U_tileFits_1 p l a b c d e f g o s n i res).runc Kc := by kernel_rfl
def U_tileFits_2 (p : Pm) (l : List (Int × Bool × Int × Int)) (t : List Int) (a b c d e f g o x y s m u res : Int) (n i : Int) : LT :=
  (.br (decide (i < n))
    (.br (decide (0 ≤ i ∧ i < (↑(List.length t) : Int)))
     (.br (decide (Int.toNat i < List.length t))
      (.br (inr 0 12 (if x < p.bx then x else p.bx) && inr 0 12 (if y < p.bw then y else p.bw))
       (.br (decide (cellsN (bandR e f g o p.le (gI t (Int.toNat i))).1 (bandR e f g o p.le (gI t (Int.toNat i))).2.1 (bandR e f g o p.le (gI t (Int.toNat i))).2.2.1 (bandR e f g o p.le (gI t (Int.toNat i))).2.2.2 (if x < p.bx then x else p.bx) (if y < p.bw then y else p.bw) > 65536))
        (.leaf Ex.ret [.one (.bool false)] [])
        (.leaf Ex.normal [.one (.ptr 0 0), .one (.ptr 1 0), .one (.int .i64 s), .one (.ptr 2 0), .one (.int .i64 res), .one (.ptr 3 0), .one (.lst (.pair (.int .i64) (Sh.pair Sh.bool (Sh.pair (Sh.int .i64) (Sh.int .i64)))) l), .one (.int .i64 m), .one (.int .i64 u), .one (.row 4), .one (.int .i64 n), .one (.int .i64 (IntKind.wrap .i64 (i + 1)))] [some (.box [.int .i64 p.ke, .int .i64 p.le, .int .i64 p.co, .int .i64 p.bx, .int .i64 p.bw, .lst (.pair (.int .i64) (Sh.int .i64)) p.pr, .int .i64 p.od, .int .i64 p.la, .bool p.m1, .bool p.m2, .bool p.m3, .bool p.m4, .bool p.m5, .bool p.dv, .bool p.sy, .bool p.fe, .lst (.int .i64) p.st, .int .i64 p.de, .int .i64 p.sf]), some (.box [.int .i64 a, .int .i64 b, .int .i64 c, .int .i64 d]), some (.box [.int .i64 e, .int .i64 f, .int .i64 g, .int .i64 o]), some (.box [.int .i64 x, .int .i64 y]), some (.arr 3 (.int .i64) t)]))
       .no)
      .no)
     .no)
    (.leaf (Ex.exit 4) [.one (.ptr 0 0), .one (.ptr 1 0), .one (.int .i64 s), .one (.ptr 2 0), .one (.int .i64 res), .one (.lst (.pair (.int .i64) (Sh.pair Sh.bool (Sh.pair (Sh.int .i64) (Sh.int .i64)))) l), .one (.int .i64 m), .one (.int .i64 u)] [some (.box [.int .i64 p.ke, .int .i64 p.le, .int .i64 p.co, .int .i64 p.bx, .int .i64 p.bw, .lst (.pair (.int .i64) (Sh.int .i64)) p.pr, .int .i64 p.od, .int .i64 p.la, .bool p.m1, .bool p.m2, .bool p.m3, .bool p.m4, .bool p.m5, .bool p.dv, .bool p.sy, .bool p.fe, .lst (.int .i64) p.st, .int .i64 p.de, .int .i64 p.sf]), some (.box [.int .i64 a, .int .i64 b, .int .i64 c, .int .i64 d]), some (.box [.int .i64 e, .int .i64 f, .int .i64 g, .int .i64 o])]))
def T_tileFits_2 : TT := fun vs bl => (D_tileFits_2 vs bl fun p l t a b c d e f g o x y s m u res n i => some (U_tileFits_2 p l t a b c d e f g o x y s m u res n i)).getD .no
theorem tu_tileFits_2 (p : Pm) (l : List (Int × Bool × Int × Int)) (t : List Int) (a b c d e f g o x y s m u res : Int) (n i : Int) : T_tileFits_2 [.one (.ptr 0 0), .one (.ptr 1 0), .one (.int .i64 s), .one (.ptr 2 0), .one (.int .i64 res), .one (.ptr 3 0), .one (.lst (.pair (.int .i64) (.pair .bool (.pair (.int .i64) (.int .i64)))) l), .one (.int .i64 m), .one (.int .i64 u), .one (.row 4), .one (.int .i64 n), .one (.int .i64 i)] [some (.box (pmC p)), some (.box [.int .i64 a, .int .i64 b, .int .i64 c, .int .i64 d]), some (.box [.int .i64 e, .int .i64 f, .int .i64 g, .int .i64 o]), some (.box [.int .i64 x, .int .i64 y]), some (.arr 3 (.int .i64) t)] = U_tileFits_2 p l t a b c d e f g o x y s m u res n i := by kernel_rfl
theorem b_tileFits_2 (p : Pm) (l : List (Int × Bool × Int × Int)) (t : List Int) (a b c d e f g o x y s m u res : Int) (n i : Int) (Kc : KT) : exec Try.prog t_tileFits (annOf []) l_tileFits 20 0 (loopOf Try.f50 2) (unp 92 [4, 5, 7, 10, 11, 12, 16, 17, 18, 65, 66, 67] [.one (.ptr 0 0), .one (.ptr 1 0), .one (.int .i64 s), .one (.ptr 2 0), .one (.int .i64 res), .one (.ptr 3 0), .one (.lst (.pair (.int .i64) (.pair .bool (.pair (.int .i64) (.int .i64)))) l), .one (.int .i64 m), .one (.int .i64 u), .one (.row 4), .one (.int .i64 n), .one (.int .i64 i)] [some (.box (pmC p)), some (.box [.int .i64 a, .int .i64 b, .int .i64 c, .int .i64 d]), some (.box [.int .i64 e, .int .i64 f, .int .i64 g, .int .i64 o]), some (.box [.int .i64 x, .int .i64 y]), some (.arr 3 (.int .i64) t)]) (endc 0 92 [4, 5, 7, 10, 11, 12, 16, 17, 18, 65, 66, 67] (kxOf [4, 5, 7, 10, 11, 16, 17, 18] [6]) Kc) =
  (U_tileFits_2 p l t a b c d e f g o x y s m u res n i).runc Kc := by kernel_rfl
def t_params_Check : FuncId → Option Summ := tabOf [(46, G_params_Header), (47, G_params_within), (48, G_params_numbers), (49, G_rect_Cells), (50, G_tileFits)]
def l_params_Check : Nat → Option LSumm := ltOf [(9, ⟨0, 54, [2, 3, 42, 43, 44], (kxOf [] [4]), S_params_Check_0⟩)]
theorem e_params_Check (h : Hd) (p : Pm) : funR Try.prog t_params_Check (annOf []) l_params_Check 20 Try.f22 [.agg (hdC h), .agg (pmC p)] [] =
  (ite2 (small (List.length h.cs))
  (ite2 (header h != 0)
   (some ⟨.one (.int .i64 (header h)), [], []⟩)
   (ite2 (!within 1 3 [p.ke])
    (some ⟨.one (.int .i64 3), [], []⟩)
    (ite2 (!within 0 2 [p.co])
     (some ⟨.one (.int .i64 3), [], []⟩)
     (ite2 (!within 1 5 [p.od])
      (some ⟨.one (.int .i64 3), [], []⟩)
      (ite2 (small (List.length p.pr) && small (List.length p.st))
       (ite2 (!(nums p && colors h p))
        (some ⟨.one (.int .i64 13), [], []⟩)
        (ite2 (decide (h.tw ≤ 4096) && decide (h.th ≤ 4096))
         (ite2 (k_params_Check_0 h p (tilesL h.a h.b h.c h.d h.tw h.th) (↑(List.length (tilesL h.a h.b h.c h.d h.tw h.th)) : Int) 0)
          (ite2 (p_params_Check_0 h p (tilesL h.a h.b h.c h.d h.tw h.th))
           (some ⟨.one (.int .i64 0), [], []⟩)
           (some ⟨.one (.int .i64 5), [], []⟩))
          none)
         none))
       none)))))
  none) := by kernel_rfl
def U_params_Check_0 (h : Hd) (p : Pm) (t : List Rc) (n i : Int) : LT :=
  (.br (decide (i < n))
    (.br (decide (0 ≤ i ∧ i < (↑(List.length t) : Int)))
     (.br (decide (Int.toNat i < List.length t))
      (.br (nums p && valid (gR t (Int.toNat i)).1 (gR t (Int.toNat i)).2.1 (gR t (Int.toNat i)).2.2.1 (gR t (Int.toNat i)).2.2.2 && small (List.length h.cs) && decide (List.length h.cs ≤ 4))
       (.br (!fits ((gR t (Int.toNat i)).1, (gR t (Int.toNat i)).2.1, (gR t (Int.toNat i)).2.2.1, (gR t (Int.toNat i)).2.2.2) p h.cs)
        (.leaf Ex.ret [.one (.int .i64 5)] [])
        (.leaf Ex.normal [.one (.ptr 0 0), .one (.ptr 1 0), .one (.row 2), .one (.int .i64 n), .one (.int .i64 (IntKind.wrap .i64 (i + 1)))] [some (.box [.int .i64 h.a, .int .i64 h.b, .int .i64 h.c, .int .i64 h.d, .int .i64 h.tw, .int .i64 h.th, .lst (.pair (.int .i64) (Sh.pair Sh.bool (Sh.pair (Sh.int .i64) (Sh.int .i64)))) h.cs]), some (.box [.int .i64 p.ke, .int .i64 p.le, .int .i64 p.co, .int .i64 p.bx, .int .i64 p.bw, .lst (.pair (.int .i64) (Sh.int .i64)) p.pr, .int .i64 p.od, .int .i64 p.la, .bool p.m1, .bool p.m2, .bool p.m3, .bool p.m4, .bool p.m5, .bool p.dv, .bool p.sy, .bool p.fe, .lst (.int .i64) p.st, .int .i64 p.de, .int .i64 p.sf]), some (.arr 28 (.pair (.int .i64) (Sh.pair (Sh.int .i64) (Sh.pair (Sh.int .i64) (Sh.int .i64)))) t)]))
       .no)
      .no)
     .no)
    (.leaf (Ex.exit 0) [] []))
def T_params_Check_0 : TT := fun vs bl => (D_params_Check_0 vs bl fun h p t n i => some (U_params_Check_0 h p t n i)).getD .no
theorem tu_params_Check_0 (h : Hd) (p : Pm) (t : List Rc) (n i : Int) : T_params_Check_0 [.one (.ptr 0 0), .one (.ptr 1 0), .one (.row 2), .one (.int .i64 n), .one (.int .i64 i)] [some (.box (hdC h)), some (.box (pmC p)), some (.arr 28 (.pair (.int .i64) (.pair (.int .i64) (.pair (.int .i64) (.int .i64)))) t)] = U_params_Check_0 h p t n i := by kernel_rfl
theorem b_params_Check_0 (h : Hd) (p : Pm) (t : List Rc) (n i : Int) (Kc : KT) : exec Try.prog t_params_Check (annOf []) l_params_Check 20 0 (loopOf Try.f22 0) (unp 54 [2, 3, 42, 43, 44] [.one (.ptr 0 0), .one (.ptr 1 0), .one (.row 2), .one (.int .i64 n), .one (.int .i64 i)] [some (.box (hdC h)), some (.box (pmC p)), some (.arr 28 (.pair (.int .i64) (.pair (.int .i64) (.pair (.int .i64) (.int .i64)))) t)]) (endc 0 54 [2, 3, 42, 43, 44] (kxOf [] [4]) Kc) =
  (U_params_Check_0 h p t n i).runc Kc := by kernel_rfl
def t_rect_Has : FuncId → Option Summ := tabOf []
def l_rect_Has : Nat → Option LSumm := ltOf []
theorem e_rect_Has (a b c d x y : Int) : funR Try.prog t_rect_Has (annOf []) l_rect_Has 20 Try.f21 [.agg [.int .i64 a, .int .i64 b, .int .i64 c, .int .i64 d], .agg [.int .i64 x, .int .i64 y]] [] =
  (ite2 (decide (a ≤ x))
  (ite2 (decide (x < c))
   (ite2 (decide (b ≤ y))
    (some ⟨.one (.bool (decide (y < d))), [], []⟩)
    (some ⟨.one (.bool false), [], []⟩))
   (some ⟨.one (.bool false), [], []⟩))
  (some ⟨.one (.bool false), [], []⟩)) := by kernel_rfl

def t_lay_Tiles : FuncId → Option Summ := tabOf [(46, G_params_Header), (49, G_rect_Cells)]
def l_lay_Tiles : Nat → Option LSumm := ltOf []
theorem e_lay_Tiles (h : Hd) : funR Try.prog t_lay_Tiles (annOf []) l_lay_Tiles 20 Try.f23 [.agg (hdC h)] [] =
  (ite2 (small (List.length h.cs))
  (ite2 (header h != 0)
   (some ⟨.one (.row 0), [], [.arr 28 (.pair (.int .i64) (Sh.pair (Sh.int .i64) (Sh.pair (Sh.int .i64) (Sh.int .i64)))) ([] : List (Int × Int × Int × Int))]⟩)
   (ite2 (decide (h.tw ≤ 4096) && decide (h.th ≤ 4096))
    (some ⟨.one (.row 0), [], [.arr 28 (.pair (.int .i64) (Sh.pair (Sh.int .i64) (Sh.pair (Sh.int .i64) (Sh.int .i64)))) (tilesL h.a h.b h.c h.d h.tw h.th)]⟩)
    none))
  none) := by kernel_rfl

def t_lay_Component : FuncId → Option Summ := tabOf [(23, G_lay_Tiles), (51, G_rect_Reduce)]
def l_lay_Component : Nat → Option LSumm := ltOf []
theorem e_lay_Component (h : Hd) (t k : Int) : funR Try.prog t_lay_Component (annOf []) l_lay_Component 20 Try.f24 [.agg (hdC h), .one (.int .i64 t), .one (.int .i64 k)] [] =
  (ite2 (small (List.length h.cs))
  (ite2 (decide (t < 0))
   (some ⟨.agg [.int .i64 0, .int .i64 0, .int .i64 0, .int .i64 0], [], []⟩)
   (ite2 (decide (t ≥ (↑(List.length (tilesH h)) : Int)))
    (some ⟨.agg [.int .i64 0, .int .i64 0, .int .i64 0, .int .i64 0], [], []⟩)
    (ite2 (decide (k < 0))
     (some ⟨.agg [.int .i64 0, .int .i64 0, .int .i64 0, .int .i64 0], [], []⟩)
     (ite2 (decide (k ≥ (↑(List.length h.cs) : Int)))
      (some ⟨.agg [.int .i64 0, .int .i64 0, .int .i64 0, .int .i64 0], [], []⟩)
      (ite2 (decide (0 ≤ k ∧ k < (↑(List.length h.cs) : Int)))
       (ite2 (decide (0 ≤ t ∧ t < (↑(List.length (tilesH h)) : Int)))
        (ite2 (decide (Int.toNat t < List.length (tilesH h)))
         (some ⟨.agg [.int .i64 (reduce (gR (tilesH h) (Int.toNat t)).1 (gR (tilesH h) (Int.toNat t)).2.1 (gR (tilesH h) (Int.toNat t)).2.2.1 (gR (tilesH h) (Int.toNat t)).2.2.2 (gC h.cs (Int.toNat k)).2.2.1 (gC h.cs (Int.toNat k)).2.2.2).1, .int .i64 (reduce (gR (tilesH h) (Int.toNat t)).1 (gR (tilesH h) (Int.toNat t)).2.1 (gR (tilesH h) (Int.toNat t)).2.2.1 (gR (tilesH h) (Int.toNat t)).2.2.2 (gC h.cs (Int.toNat k)).2.2.1 (gC h.cs (Int.toNat k)).2.2.2).2.1, .int .i64 (reduce (gR (tilesH h) (Int.toNat t)).1 (gR (tilesH h) (Int.toNat t)).2.1 (gR (tilesH h) (Int.toNat t)).2.2.1 (gR (tilesH h) (Int.toNat t)).2.2.2 (gC h.cs (Int.toNat k)).2.2.1 (gC h.cs (Int.toNat k)).2.2.2).2.2.1, .int .i64 (reduce (gR (tilesH h) (Int.toNat t)).1 (gR (tilesH h) (Int.toNat t)).2.1 (gR (tilesH h) (Int.toNat t)).2.2.1 (gR (tilesH h) (Int.toNat t)).2.2.2 (gC h.cs (Int.toNat k)).2.2.1 (gC h.cs (Int.toNat k)).2.2.2).2.2.2], [], []⟩)
         none)
        none)
       none)))))
  none) := by kernel_rfl


def t_lift_Margin : FuncId → Option Summ := tabOf []
def l_lift_Margin : Nat → Option LSumm := ltOf []
theorem e_lift_Margin (k : Int) : funR Try.prog t_lift_Margin (annOf []) l_lift_Margin 20 Try.f56 [.one (.int .i64 k)] [] =
  (ite2 (k == 1)
  (ite2 (k == 1)
   (some ⟨.one (.int .i64 2), [], []⟩)
   (ite2 (k == 3)
    (some ⟨.one (.int .i64 4), [], []⟩)
    (some ⟨.one (.int .i64 0), [], []⟩)))
  (ite2 (k == 2)
   (some ⟨.one (.int .i64 2), [], []⟩)
   (ite2 (k == 3)
    (some ⟨.one (.int .i64 4), [], []⟩)
    (some ⟨.one (.int .i64 0), [], []⟩)))) := by kernel_rfl











def t_pyr_Need : FuncId → Option Summ := tabOf [(25, G_pyr_Count), (30, G_rect_Valid), (31, G_rect_Empty), (52, G_pyr_validLevels), (54, G_pyr_Resolution), (55, G_dwt_Bands), (56, G_lift_Margin), (62, G_rect_Intersect)]
def l_pyr_Need : Nat → Option LSumm := ltOf [(9, ⟨0, 107, [1, 5, 11, 12, 13, 14], (kxOf [12, 13] [10]), S_pyr_Need_0⟩)]
theorem e_pyr_Need (a b c d n r e f g h k : Int) : funR Try.prog t_pyr_Need (annOf []) l_pyr_Need 20 Try.f63 [.agg [.int .i64 a, .int .i64 b, .int .i64 c, .int .i64 d], .one (.int .i64 n), .one (.int .i64 r), .agg [.int .i64 e, .int .i64 f, .int .i64 g, .int .i64 h], .one (.int .i64 k)] [] =
  (let z1_ := inter e f g h (resR a b c d n r).1 (resR a b c d n r).2.1 (resR a b c d n r).2.2.1 (resR a b c d n r).2.2.2; (ite2 (!valid a b c d)
  (some ⟨.one (.row 0), [], [.arr 28 (.pair (.int .i64) (Sh.pair (Sh.int .i64) (Sh.pair (Sh.int .i64) (Sh.int .i64)))) ([] : List (Int × Int × Int × Int))]⟩)
  (ite2 (!inr 0 5 n)
   (some ⟨.one (.row 0), [], [.arr 28 (.pair (.int .i64) (Sh.pair (Sh.int .i64) (Sh.pair (Sh.int .i64) (Sh.int .i64)))) ([] : List (Int × Int × Int × Int))]⟩)
   (ite2 (decide (r < 0))
    (some ⟨.one (.row 0), [], [.arr 28 (.pair (.int .i64) (Sh.pair (Sh.int .i64) (Sh.pair (Sh.int .i64) (Sh.int .i64)))) ([] : List (Int × Int × Int × Int))]⟩)
    (ite2 (decide (r > n))
     (some ⟨.one (.row 0), [], [.arr 28 (.pair (.int .i64) (Sh.pair (Sh.int .i64) (Sh.pair (Sh.int .i64) (Sh.int .i64)))) ([] : List (Int × Int × Int × Int))]⟩)
     (ite2 (marg k == 0)
      (some ⟨.one (.row 0), [], [.arr 28 (.pair (.int .i64) (Sh.pair (Sh.int .i64) (Sh.pair (Sh.int .i64) (Sh.int .i64)))) ([] : List (Int × Int × Int × Int))]⟩)
      (ite2 (decide (0 ≤ count n ∧ count n ≤ count n ∧ count n * 33 ≤ 140737488355328))
       (ite2 (empty z1_.1 z1_.2.1 z1_.2.2.1 z1_.2.2.2)
        (some ⟨.one (.row 0), [], [.arr 28 (.pair (.int .i64) (Sh.pair (Sh.int .i64) (Sh.pair (Sh.int .i64) (Sh.int .i64)))) (List.replicate (Int.toNat (count n)) ((0, 0, 0, 0) : Int × Int × Int × Int))]⟩)
        (ite2 (k_pyr_Need_0 a b c d n (marg k) z1_.1 z1_.2.1 z1_.2.2.1 z1_.2.2.2 r (List.replicate (Int.toNat (count n)) ((0, 0, 0, 0) : Int × Int × Int × Int)))
         (ite2 (decide ((0 : Int) ≤ 0 ∧ 0 < (↑(List.length (ndL a b c d n (marg k) r (z1_.1, z1_.2.1, z1_.2.2.1, z1_.2.2.2) (Int.toNat r))) : Int)))
          (ite2 (decide (0 < List.length (ndL a b c d n (marg k) r (z1_.1, z1_.2.1, z1_.2.2.1, z1_.2.2.2) (Int.toNat r))))
           (some ⟨.one (.row 0), [], [.arr 28 (.pair (.int .i64) (Sh.pair (Sh.int .i64) (Sh.pair (Sh.int .i64) (Sh.int .i64)))) (List.set (ndL a b c d n (marg k) r (z1_.1, z1_.2.1, z1_.2.2.1, z1_.2.2.2) (Int.toNat r)) 0 ((ndW a b c d n (marg k) r (z1_.1, z1_.2.1, z1_.2.2.1, z1_.2.2.2) (Int.toNat r)).1, (ndW a b c d n (marg k) r (z1_.1, z1_.2.1, z1_.2.2.1, z1_.2.2.2) (Int.toNat r)).2.1, (ndW a b c d n (marg k) r (z1_.1, z1_.2.1, z1_.2.2.1, z1_.2.2.2) (Int.toNat r)).2.2.1, (ndW a b c d n (marg k) r (z1_.1, z1_.2.1, z1_.2.2.1, z1_.2.2.2) (Int.toNat r)).2.2.2))]⟩)
           none)
          none)
         none))
       none))))))) := by kernel_rfl
def U_pyr_Need_0 (a b c d n m w0 w1 w2 w3 t : Int) (v : List (Int × Int × Int × Int)) : LT :=
  let z1_ := inter (IntKind.wrap .i64 (w0 - m)) (IntKind.wrap .i64 (w1 - m)) (IntKind.wrap .i64 (w2 + m)) (IntKind.wrap .i64 (w3 + m)) (resR a b c d n t).1 (resR a b c d n t).2.1 (resR a b c d n t).2.2.1 (resR a b c d n t).2.2.2; let z2_ := bnd z1_.1 z1_.2.1 z1_.2.2.1 z1_.2.2.2 1; let z3_ := bnd z1_.1 z1_.2.1 z1_.2.2.1 z1_.2.2.2 2; let z4_ := IntKind.wrap .i64 (IntKind.wrap .i64 (3 * t) - 2); let z5_ := IntKind.wrap .i64 (3 * t) - 1; let z6_ := bnd z1_.1 z1_.2.1 z1_.2.2.1 z1_.2.2.2 3; let z7_ := bnd z1_.1 z1_.2.1 z1_.2.2.1 z1_.2.2.2 0; (.br (decide (t > 0))
    (.br (decide (0 ≤ IntKind.wrap .i64 (IntKind.wrap .i64 (3 * t) - 2) ∧ IntKind.wrap .i64 (IntKind.wrap .i64 (3 * t) - 2) < (↑(List.length v) : Int)))
     (.br (decide (Int.toNat z4_ < List.length v))
      (.br (decide (0 ≤ IntKind.wrap .i64 z5_ ∧ IntKind.wrap .i64 z5_ < (↑(List.length (List.set v (Int.toNat z4_) (z2_.1, z2_.2.1, z2_.2.2.1, z2_.2.2.2))) : Int)))
       (.br (decide (Int.toNat (IntKind.wrap .i64 z5_) < List.length (List.set v (Int.toNat z4_) (z2_.1, z2_.2.1, z2_.2.2.1, z2_.2.2.2))))
        (.br (decide (0 ≤ IntKind.wrap .i64 (3 * t) ∧ IntKind.wrap .i64 (3 * t) < (↑(List.length (List.set (List.set v (Int.toNat z4_) (z2_.1, z2_.2.1, z2_.2.2.1, z2_.2.2.2)) (Int.toNat (IntKind.wrap .i64 z5_)) (z3_.1, z3_.2.1, z3_.2.2.1, z3_.2.2.2))) : Int)))
         (.br (decide (Int.toNat (IntKind.wrap .i64 (3 * t)) < List.length (List.set (List.set v (Int.toNat z4_) (z2_.1, z2_.2.1, z2_.2.2.1, z2_.2.2.2)) (Int.toNat (IntKind.wrap .i64 z5_)) (z3_.1, z3_.2.1, z3_.2.2.1, z3_.2.2.2))))
          (.leaf Ex.normal [.one (.int .i64 n), .one (.ptr 0 0), .one (.int .i64 m), .one (.row 1), .one (.ptr 2 0), .one (.int .i64 (IntKind.wrap .i64 (t - 1)))] [some (.box [.int .i64 a, .int .i64 b, .int .i64 c, .int .i64 d]), some (.arr 28 (.pair (.int .i64) (Sh.pair (Sh.int .i64) (Sh.pair (Sh.int .i64) (Sh.int .i64)))) (List.set (List.set (List.set v (Int.toNat z4_) (z2_.1, z2_.2.1, z2_.2.2.1, z2_.2.2.2)) (Int.toNat (IntKind.wrap .i64 z5_)) (z3_.1, z3_.2.1, z3_.2.2.1, z3_.2.2.2)) (Int.toNat (IntKind.wrap .i64 (3 * t))) (z6_.1, z6_.2.1, z6_.2.2.1, z6_.2.2.2))), some (.box [.int .i64 z7_.1, .int .i64 z7_.2.1, .int .i64 z7_.2.2.1, .int .i64 z7_.2.2.2])])
          .no)
         .no)
        .no)
       .no)
      .no)
     .no)
    (.leaf (Ex.exit 0) [.one (.row 0), .one (.ptr 1 0)] [some (.arr 28 (.pair (.int .i64) (Sh.pair (Sh.int .i64) (Sh.pair (Sh.int .i64) (Sh.int .i64)))) v), some (.box [.int .i64 w0, .int .i64 w1, .int .i64 w2, .int .i64 w3])]))
def T_pyr_Need_0 : TT := fun vs bl => (D_pyr_Need_0 vs bl fun a b c d n m w0 w1 w2 w3 t v => some (U_pyr_Need_0 a b c d n m w0 w1 w2 w3 t v)).getD .no
theorem tu_pyr_Need_0 (a b c d n m w0 w1 w2 w3 t : Int) (v : List (Int × Int × Int × Int)) : T_pyr_Need_0 [.one (.int .i64 n), .one (.ptr 0 0), .one (.int .i64 m), .one (.row 1), .one (.ptr 2 0), .one (.int .i64 t)] [some (.box [.int .i64 a, .int .i64 b, .int .i64 c, .int .i64 d]), some (.arr 28 (.pair (.int .i64) (.pair (.int .i64) (.pair (.int .i64) (.int .i64)))) v), some (.box [.int .i64 w0, .int .i64 w1, .int .i64 w2, .int .i64 w3])] = U_pyr_Need_0 a b c d n m w0 w1 w2 w3 t v := by kernel_rfl
theorem b_pyr_Need_0 (a b c d n m w0 w1 w2 w3 t : Int) (v : List (Int × Int × Int × Int)) (Kc : KT) : exec Try.prog t_pyr_Need (annOf []) l_pyr_Need 20 0 (loopOf Try.f63 0) (unp 107 [1, 5, 11, 12, 13, 14] [.one (.int .i64 n), .one (.ptr 0 0), .one (.int .i64 m), .one (.row 1), .one (.ptr 2 0), .one (.int .i64 t)] [some (.box [.int .i64 a, .int .i64 b, .int .i64 c, .int .i64 d]), some (.arr 28 (.pair (.int .i64) (.pair (.int .i64) (.pair (.int .i64) (.int .i64)))) v), some (.box [.int .i64 w0, .int .i64 w1, .int .i64 w2, .int .i64 w3])]) (endc 0 107 [1, 5, 11, 12, 13, 14] (kxOf [12, 13] [10]) Kc) =
  (U_pyr_Need_0 a b c d n m w0 w1 w2 w3 t v).runc Kc := by kernel_rfl






def t_roi_Valid : FuncId → Option Summ := tabOf [(30, G_rect_Valid), (31, G_rect_Empty)]
def l_roi_Valid : Nat → Option LSumm := ltOf [(4, ⟨0, 22, [8, 9, 10], (kxOf [] [2]), S_roi_Valid_0⟩)]
theorem e_roi_Valid (l : List (Int × Int × Int × Int)) : funR Try.prog t_roi_Valid (annOf []) l_roi_Valid 20 Try.f9 [.one (.lst (.pair (.int .i64) (.pair (.int .i64) (.pair (.int .i64) (.int .i64)))) l)] [] =
  (ite2 (decide ((↑(List.length l) : Int) > 8))
  (some ⟨.one (.int .i64 5), [], []⟩)
  (ite2 (k_roi_Valid_0 l (↑(List.length l) : Int) 0)
   (ite2 (p_roi_Valid_0 l)
    (some ⟨.one (.int .i64 0), [], []⟩)
    (some ⟨.one (.int .i64 2), [], []⟩))
   none)) := by kernel_rfl
def U_roi_Valid_0 (l : List (Int × Int × Int × Int)) (n i : Int) : LT :=
  (.br (decide (i < n))
    (.br (decide (0 ≤ i ∧ i < (↑(List.length l) : Int)))
     (.br (!valid (gR l (Int.toNat i)).1 (gR l (Int.toNat i)).2.1 (gR l (Int.toNat i)).2.2.1 (gR l (Int.toNat i)).2.2.2)
      (.leaf Ex.ret [.one (.int .i64 2)] [])
      (.br (empty (gR l (Int.toNat i)).1 (gR l (Int.toNat i)).2.1 (gR l (Int.toNat i)).2.2.1 (gR l (Int.toNat i)).2.2.2)
       (.leaf Ex.ret [.one (.int .i64 2)] [])
       (.leaf Ex.normal [.one (.lst (.pair (.int .i64) (Sh.pair (Sh.int .i64) (Sh.pair (Sh.int .i64) (Sh.int .i64)))) l), .one (.int .i64 n), .one (.int .i64 (IntKind.wrap .i64 (i + 1)))] [])))
     .no)
    (.leaf (Ex.exit 0) [] []))
def T_roi_Valid_0 : TT := fun vs bl => (D_roi_Valid_0 vs bl fun l n i => some (U_roi_Valid_0 l n i)).getD .no
theorem tu_roi_Valid_0 (l : List (Int × Int × Int × Int)) (n i : Int) : T_roi_Valid_0 [.one (.lst (.pair (.int .i64) (.pair (.int .i64) (.pair (.int .i64) (.int .i64)))) l), .one (.int .i64 n), .one (.int .i64 i)] [] = U_roi_Valid_0 l n i := by kernel_rfl
theorem b_roi_Valid_0 (l : List (Int × Int × Int × Int)) (n i : Int) (Kc : KT) : exec Try.prog t_roi_Valid (annOf []) l_roi_Valid 20 0 (loopOf Try.f9 0) (unp 22 [8, 9, 10] [.one (.lst (.pair (.int .i64) (.pair (.int .i64) (.pair (.int .i64) (.int .i64)))) l), .one (.int .i64 n), .one (.int .i64 i)] []) (endc 0 22 [8, 9, 10] (kxOf [] [2]) Kc) =
  (U_roi_Valid_0 l n i).runc Kc := by kernel_rfl
def t_ref30_Valid : FuncId → Option Summ := tabOf [(32, G_ref01_Valid), (33, G_ref01_Empty)]
def l_ref30_Valid : Nat → Option LSumm := ltOf [(4, ⟨0, 26, [0, 3], (kxOf [] [2]), S_ref30_Valid_0⟩)]
theorem e_ref30_Valid (l : List (Int × Int × Int × Int)) : funR Try.prog t_ref30_Valid (annOf []) l_ref30_Valid 20 Try.f10 [.one (.lst (.pair (.int .i64) (.pair (.int .i64) (.pair (.int .i64) (.int .i64)))) l)] [] =
  (ite2 (decide ((↑(List.length l) : Int) > 8))
  (some ⟨.one (.int .i64 5), [], []⟩)
  (ite2 (k_ref30_Valid_0 l 0)
   (ite2 (p_ref30_Valid_0 l)
    (some ⟨.one (.int .i64 0), [], []⟩)
    (some ⟨.one (.int .i64 2), [], []⟩))
   none)) := by kernel_rfl
def U_ref30_Valid_0 (l : List (Int × Int × Int × Int)) (i : Int) : LT :=
  (.br (decide (i < (↑(List.length l) : Int)))
    (.br (decide (0 ≤ i ∧ i < (↑(List.length l) : Int)))
     (.br (!valid (gR l (Int.toNat i)).1 (gR l (Int.toNat i)).2.1 (gR l (Int.toNat i)).2.2.1 (gR l (Int.toNat i)).2.2.2)
      (.leaf Ex.ret [.one (.int .i64 2)] [])
      (.br (decide (0 ≤ i ∧ i < (↑(List.length l) : Int)))
       (.br (empty (gR l (Int.toNat i)).1 (gR l (Int.toNat i)).2.1 (gR l (Int.toNat i)).2.2.1 (gR l (Int.toNat i)).2.2.2)
        (.leaf Ex.ret [.one (.int .i64 2)] [])
        (.leaf Ex.normal [.one (.lst (.pair (.int .i64) (Sh.pair (Sh.int .i64) (Sh.pair (Sh.int .i64) (Sh.int .i64)))) l), .one (.int .i64 (IntKind.wrap .i64 (i + 1)))] []))
       .no))
     .no)
    (.leaf (Ex.exit 0) [] []))
def T_ref30_Valid_0 : TT := fun vs bl => (D_ref30_Valid_0 vs bl fun l i => some (U_ref30_Valid_0 l i)).getD .no
theorem tu_ref30_Valid_0 (l : List (Int × Int × Int × Int)) (i : Int) : T_ref30_Valid_0 [.one (.lst (.pair (.int .i64) (.pair (.int .i64) (.pair (.int .i64) (.int .i64)))) l), .one (.int .i64 i)] [] = U_ref30_Valid_0 l i := by kernel_rfl
theorem b_ref30_Valid_0 (l : List (Int × Int × Int × Int)) (i : Int) (Kc : KT) : exec Try.prog t_ref30_Valid (annOf []) l_ref30_Valid 20 0 (loopOf Try.f10 0) (unp 26 [0, 3] [.one (.lst (.pair (.int .i64) (.pair (.int .i64) (.pair (.int .i64) (.int .i64)))) l), .one (.int .i64 i)] []) (endc 0 26 [0, 3] (kxOf [] [2]) Kc) =
  (U_ref30_Valid_0 l i).runc Kc := by kernel_rfl
def t_ref01_Has : FuncId → Option Summ := tabOf []
def l_ref01_Has : Nat → Option LSumm := ltOf []
theorem e_ref01_Has (a b c d x y : Int) : funR Try.prog t_ref01_Has (annOf []) l_ref01_Has 20 Try.f73 [.agg [.int .i64 a, .int .i64 b, .int .i64 c, .int .i64 d], .agg [.int .i64 x, .int .i64 y]] [] =
  (ite2 (decide (a ≤ x))
  (ite2 (decide (x < c))
   (ite2 (decide (b ≤ y))
    (some ⟨.one (.bool (decide (y < d))), [], []⟩)
    (some ⟨.one (.bool false), [], []⟩))
   (some ⟨.one (.bool false), [], []⟩))
  (some ⟨.one (.bool false), [], []⟩)) := by kernel_rfl
def t_ref30_Masked : FuncId → Option Summ := tabOf [(73, G_ref01_Has)]
def l_ref30_Masked : Nat → Option LSumm := ltOf [(2, ⟨0, 22, [0, 1, 2, 7], (kxOf [] [6]), S_ref30_Masked_0⟩)]
theorem e_ref30_Masked (x y : Int) (m : List (Int × Int × Int × Int)) : funR Try.prog t_ref30_Masked (annOf []) l_ref30_Masked 20 Try.f45 [.one (.int .i64 x), .one (.int .i64 y), .one (.lst (.pair (.int .i64) (.pair (.int .i64) (.pair (.int .i64) (.int .i64)))) m)] [] =
  (ite2 (k_ref30_Masked_0 x y m 0)
  (ite2 (p_ref30_Masked_0 x y m)
   (some ⟨.one (.bool false), [], []⟩)
   (some ⟨.one (.bool true), [], []⟩))
  none) := by kernel_rfl
def U_ref30_Masked_0 (x y : Int) (m : List (Int × Int × Int × Int)) (i : Int) : LT :=
  (.br (decide (i < (↑(List.length m) : Int)))
    (.br (decide (0 ≤ i ∧ i < (↑(List.length m) : Int)))
     (.br (has (gR m (Int.toNat i)).1 (gR m (Int.toNat i)).2.1 (gR m (Int.toNat i)).2.2.1 (gR m (Int.toNat i)).2.2.2 x y)
      (.leaf Ex.ret [.one (.bool true)] [])
      (.leaf Ex.normal [.one (.int .i64 x), .one (.int .i64 y), .one (.lst (.pair (.int .i64) (Sh.pair (Sh.int .i64) (Sh.pair (Sh.int .i64) (Sh.int .i64)))) m), .one (.int .i64 (IntKind.wrap .i64 (i + 1)))] []))
     .no)
    (.leaf (Ex.exit 0) [] []))
def T_ref30_Masked_0 : TT := fun vs bl => (D_ref30_Masked_0 vs bl fun x y m i => some (U_ref30_Masked_0 x y m i)).getD .no
theorem tu_ref30_Masked_0 (x y : Int) (m : List (Int × Int × Int × Int)) (i : Int) : T_ref30_Masked_0 [.one (.int .i64 x), .one (.int .i64 y), .one (.lst (.pair (.int .i64) (.pair (.int .i64) (.pair (.int .i64) (.int .i64)))) m), .one (.int .i64 i)] [] = U_ref30_Masked_0 x y m i := by kernel_rfl
theorem b_ref30_Masked_0 (x y : Int) (m : List (Int × Int × Int × Int)) (i : Int) (Kc : KT) : exec Try.prog t_ref30_Masked (annOf []) l_ref30_Masked 20 0 (loopOf Try.f45 0) (unp 22 [0, 1, 2, 7] [.one (.int .i64 x), .one (.int .i64 y), .one (.lst (.pair (.int .i64) (.pair (.int .i64) (.pair (.int .i64) (.int .i64)))) m), .one (.int .i64 i)] []) (endc 0 22 [0, 1, 2, 7] (kxOf [] [6]) Kc) =
  (U_ref30_Masked_0 x y m i).runc Kc := by kernel_rfl
def t_roi_masked : FuncId → Option Summ := tabOf [(21, G_rect_Has)]
def l_roi_masked : Nat → Option LSumm := ltOf [(4, ⟨0, 39, [8, 29, 30, 31], (kxOf [] [6]), S_roi_masked_0⟩)]
theorem e_roi_masked (i a b c d : Int) (m : List (Int × Int × Int × Int)) : funR Try.prog t_roi_masked (annOf []) l_roi_masked 20 Try.f43 [.one (.int .i64 i), .agg [.int .i64 a, .int .i64 b, .int .i64 c, .int .i64 d], .one (.lst (.pair (.int .i64) (.pair (.int .i64) (.pair (.int .i64) (.int .i64)))) m)] [] =
  (ite2 (!decide (IntKind.wrap .i64 (c - a) = 0))
  (ite2 (!decide (IntKind.wrap .i64 (c - a) = 0))
   (ite2 (k_roi_masked_0 (IntKind.wrap .i64 (a + Int.tmod i (IntKind.wrap .i64 (c - a)))) (IntKind.wrap .i64 (b + IntKind.wrap .i64 (Int.tdiv i (IntKind.wrap .i64 (c - a))))) m (↑(List.length m) : Int) 0)
    (ite2 (p_roi_masked_0 (IntKind.wrap .i64 (a + Int.tmod i (IntKind.wrap .i64 (c - a)))) (IntKind.wrap .i64 (b + IntKind.wrap .i64 (Int.tdiv i (IntKind.wrap .i64 (c - a))))) m)
     (some ⟨.one (.bool false), [], []⟩)
     (some ⟨.one (.bool true), [], []⟩))
    none)
   none)
  none) := by kernel_rfl
def U_roi_masked_0 (x y : Int) (m : List (Int × Int × Int × Int)) (n i : Int) : LT :=
  (.br (decide (i < n))
    (.br (decide (0 ≤ i ∧ i < (↑(List.length m) : Int)))
     (.br (has (gR m (Int.toNat i)).1 (gR m (Int.toNat i)).2.1 (gR m (Int.toNat i)).2.2.1 (gR m (Int.toNat i)).2.2.2 x y)
      (.leaf Ex.ret [.one (.bool true)] [])
      (.leaf Ex.normal [.one (.ptr 0 0), .one (.lst (.pair (.int .i64) (Sh.pair (Sh.int .i64) (Sh.pair (Sh.int .i64) (Sh.int .i64)))) m), .one (.int .i64 n), .one (.int .i64 (IntKind.wrap .i64 (i + 1)))] [some (.box [.int .i64 x, .int .i64 y])]))
     .no)
    (.leaf (Ex.exit 0) [] []))
def T_roi_masked_0 : TT := fun vs bl => (D_roi_masked_0 vs bl fun x y m n i => some (U_roi_masked_0 x y m n i)).getD .no
theorem tu_roi_masked_0 (x y : Int) (m : List (Int × Int × Int × Int)) (n i : Int) : T_roi_masked_0 [.one (.ptr 0 0), .one (.lst (.pair (.int .i64) (.pair (.int .i64) (.pair (.int .i64) (.int .i64)))) m), .one (.int .i64 n), .one (.int .i64 i)] [some (.box [.int .i64 x, .int .i64 y])] = U_roi_masked_0 x y m n i := by kernel_rfl
theorem b_roi_masked_0 (x y : Int) (m : List (Int × Int × Int × Int)) (n i : Int) (Kc : KT) : exec Try.prog t_roi_masked (annOf []) l_roi_masked 20 0 (loopOf Try.f43 0) (unp 39 [8, 29, 30, 31] [.one (.ptr 0 0), .one (.lst (.pair (.int .i64) (.pair (.int .i64) (.pair (.int .i64) (.int .i64)))) m), .one (.int .i64 n), .one (.int .i64 i)] [some (.box [.int .i64 x, .int .i64 y])]) (endc 0 39 [8, 29, 30, 31] (kxOf [] [6]) Kc) =
  (U_roi_masked_0 x y m n i).runc Kc := by kernel_rfl
def t_roi_Fits : FuncId → Option Summ := tabOf [(30, G_rect_Valid), (42, G_rect_Area), (43, G_roi_masked)]
def l_roi_Fits : Nat → Option LSumm := ltOf [(5, ⟨0, 61, [2, 3, 5, 9, 33, 34, 35], (kxOf [] [8]), S_roi_Fits_0⟩)]
theorem e_roi_Fits (u : List Int) (a b c d : Int) (m : List (Int × Int × Int × Int)) (s : Int) : funR Try.prog t_roi_Fits (annOf []) l_roi_Fits 20 Try.f18 [.one (.lst (.int .i64) u), .agg [.int .i64 a, .int .i64 b, .int .i64 c, .int .i64 d], .one (.lst (.pair (.int .i64) (.pair (.int .i64) (.pair (.int .i64) (.int .i64)))) m), .one (.int .i64 s)] [] =
  (ite2 (!valid a b c d)
  (some ⟨.one (.bool false), [], []⟩)
  (ite2 (decide (s < 0))
   (some ⟨.one (.bool false), [], []⟩)
   (ite2 (decide (s > 30))
    (some ⟨.one (.bool false), [], []⟩)
    (ite2 ((↑(List.length u) : Int) != area a b c d)
     (some ⟨.one (.bool false), [], []⟩)
     (ite2 (decide (0 ≤ IntKind.wrap IntKind.u64 s))
      (ite2 (k_roi_Fits_0 a b c d s (IntKind.wrap .i64 (1 * 2 ^ min (Int.toNat (IntKind.wrap IntKind.u64 s)) 64)) (↑(List.length u) : Int) 0 m u)
       (ite2 (List.all (List.range (List.length u)) (fitP u a b c m s))
        (some ⟨.one (.bool true), [], []⟩)
        (some ⟨.one (.bool false), [], []⟩))
       none)
      none))))) := by kernel_rfl
def U_roi_Fits_0 (a b c d s t n i : Int) (m : List (Int × Int × Int × Int)) (u : List Int) : LT :=
  (.br (decide (i < n))
    (.br (decide (0 ≤ i ∧ i < (↑(List.length u) : Int)))
     (.br (decide (s > 0))
      (.br (decide (gI u (Int.toNat i) ≥ t))
       (.br (small (List.length m) && valid a b c d && decide (a < c) && decide (0 ≤ i) && decide (i < 16777217))
        (.br (!mskB (mxI a c i) (myI a b c i) m)
         (.leaf Ex.ret [.one (.bool false)] [])
         (.leaf Ex.normal [.one (.lst (.pair (.int .i64) (Sh.pair (Sh.int .i64) (Sh.pair (Sh.int .i64) (Sh.int .i64)))) m), .one (.int .i64 s), .one (.ptr 0 0), .one (.int .i64 t), .one (.lst (.int .i64) u), .one (.int .i64 n), .one (.int .i64 (IntKind.wrap .i64 (i + 1)))] [some (.box [.int .i64 a, .int .i64 b, .int .i64 c, .int .i64 d])]))
        .no)
       (.br (decide (gI u (Int.toNat i) ≤ IntKind.wrap .i64 (0 - t)))
        (.br (small (List.length m) && valid a b c d && decide (a < c) && decide (0 ≤ i) && decide (i < 16777217))
         (.br (!mskB (mxI a c i) (myI a b c i) m)
          (.leaf Ex.ret [.one (.bool false)] [])
          (.leaf Ex.normal [.one (.lst (.pair (.int .i64) (Sh.pair (Sh.int .i64) (Sh.pair (Sh.int .i64) (Sh.int .i64)))) m), .one (.int .i64 s), .one (.ptr 0 0), .one (.int .i64 t), .one (.lst (.int .i64) u), .one (.int .i64 n), .one (.int .i64 (IntKind.wrap .i64 (i + 1)))] [some (.box [.int .i64 a, .int .i64 b, .int .i64 c, .int .i64 d])]))
         .no)
        (.leaf Ex.normal [.one (.lst (.pair (.int .i64) (Sh.pair (Sh.int .i64) (Sh.pair (Sh.int .i64) (Sh.int .i64)))) m), .one (.int .i64 s), .one (.ptr 0 0), .one (.int .i64 t), .one (.lst (.int .i64) u), .one (.int .i64 n), .one (.int .i64 (IntKind.wrap .i64 (i + 1)))] [some (.box [.int .i64 a, .int .i64 b, .int .i64 c, .int .i64 d])])))
      (.leaf Ex.normal [.one (.lst (.pair (.int .i64) (Sh.pair (Sh.int .i64) (Sh.pair (Sh.int .i64) (Sh.int .i64)))) m), .one (.int .i64 s), .one (.ptr 0 0), .one (.int .i64 t), .one (.lst (.int .i64) u), .one (.int .i64 n), .one (.int .i64 (IntKind.wrap .i64 (i + 1)))] [some (.box [.int .i64 a, .int .i64 b, .int .i64 c, .int .i64 d])]))
     .no)
    (.leaf (Ex.exit 0) [] []))
def T_roi_Fits_0 : TT := fun vs bl => (D_roi_Fits_0 vs bl fun a b c d s t n i m u => some (U_roi_Fits_0 a b c d s t n i m u)).getD .no
theorem tu_roi_Fits_0 (a b c d s t n i : Int) (m : List (Int × Int × Int × Int)) (u : List Int) : T_roi_Fits_0 [.one (.lst (.pair (.int .i64) (.pair (.int .i64) (.pair (.int .i64) (.int .i64)))) m), .one (.int .i64 s), .one (.ptr 0 0), .one (.int .i64 t), .one (.lst (.int .i64) u), .one (.int .i64 n), .one (.int .i64 i)] [some (.box [.int .i64 a, .int .i64 b, .int .i64 c, .int .i64 d])] = U_roi_Fits_0 a b c d s t n i m u := by kernel_rfl
theorem b_roi_Fits_0 (a b c d s t n i : Int) (m : List (Int × Int × Int × Int)) (u : List Int) (Kc : KT) : exec Try.prog t_roi_Fits (annOf []) l_roi_Fits 20 0 (loopOf Try.f18 0) (unp 61 [2, 3, 5, 9, 33, 34, 35] [.one (.lst (.pair (.int .i64) (.pair (.int .i64) (.pair (.int .i64) (.int .i64)))) m), .one (.int .i64 s), .one (.ptr 0 0), .one (.int .i64 t), .one (.lst (.int .i64) u), .one (.int .i64 n), .one (.int .i64 i)] [some (.box [.int .i64 a, .int .i64 b, .int .i64 c, .int .i64 d])]) (endc 0 61 [2, 3, 5, 9, 33, 34, 35] (kxOf [] [8]) Kc) =
  (U_roi_Fits_0 a b c d s t n i m u).runc Kc := by kernel_rfl
def t_ref30_Fits : FuncId → Option Summ := tabOf [(32, G_ref01_Valid), (44, G_ref01_Area), (45, G_ref30_Masked)]
def l_ref30_Fits : Nat → Option LSumm := ltOf [(5, ⟨0, 79, [0, 2, 3, 5, 9, 10], (kxOf [] [8]), S_ref30_Fits_0⟩)]
theorem e_ref30_Fits (u : List Int) (a b c d : Int) (m : List (Int × Int × Int × Int)) (s : Int) : funR Try.prog t_ref30_Fits (annOf []) l_ref30_Fits 20 Try.f19 [.one (.lst (.int .i64) u), .agg [.int .i64 a, .int .i64 b, .int .i64 c, .int .i64 d], .one (.lst (.pair (.int .i64) (.pair (.int .i64) (.pair (.int .i64) (.int .i64)))) m), .one (.int .i64 s)] [] =
  (ite2 (!valid a b c d)
  (some ⟨.one (.bool false), [], []⟩)
  (ite2 (decide (s < 0))
   (some ⟨.one (.bool false), [], []⟩)
   (ite2 (decide (s > 30))
    (some ⟨.one (.bool false), [], []⟩)
    (ite2 ((↑(List.length u) : Int) != area a b c d)
     (some ⟨.one (.bool false), [], []⟩)
     (ite2 (k_ref30_Fits_0 a b c d s (IntKind.wrap .i64 (c - a)) 0 m u)
      (ite2 (List.all (List.range (List.length u)) (fitP u a b c m s))
       (some ⟨.one (.bool true), [], []⟩)
       (some ⟨.one (.bool false), [], []⟩))
      none))))) := by kernel_rfl
def U_ref30_Fits_0 (a b c d s t i : Int) (m : List (Int × Int × Int × Int)) (u : List Int) : LT :=
  let z1_ := IntKind.wrap .i64 (i + 1); (.br (decide (i < (↑(List.length u) : Int)))
    (.br (decide (0 ≤ i ∧ i < (↑(List.length u) : Int)))
     (.br (decide (0 ≤ s))
      (.br (decide (gI u (Int.toNat i) ≥ IntKind.wrap .i64 (1 * 2 ^ min (Int.toNat s) 64)))
       (.br (decide (s > 0))
        (.br (!decide (t = 0))
         (.br (!decide (t = 0))
          (.br (small (List.length m))
           (.br (!mskB (IntKind.wrap .i64 (a + Int.tmod i t)) (IntKind.wrap .i64 (b + IntKind.wrap .i64 (Int.tdiv i t))) m)
            (.leaf Ex.ret [.one (.bool false)] [])
            (.leaf Ex.normal [.one (.lst (.int .i64) u), .one (.lst (.pair (.int .i64) (Sh.pair (Sh.int .i64) (Sh.pair (Sh.int .i64) (Sh.int .i64)))) m), .one (.int .i64 s), .one (.ptr 0 0), .one (.int .i64 t), .one (.int .i64 z1_)] [some (.box [.int .i64 a, .int .i64 b, .int .i64 c, .int .i64 d])]))
           .no)
          .no)
         .no)
        (.leaf Ex.normal [.one (.lst (.int .i64) u), .one (.lst (.pair (.int .i64) (Sh.pair (Sh.int .i64) (Sh.pair (Sh.int .i64) (Sh.int .i64)))) m), .one (.int .i64 s), .one (.ptr 0 0), .one (.int .i64 t), .one (.int .i64 z1_)] [some (.box [.int .i64 a, .int .i64 b, .int .i64 c, .int .i64 d])]))
       (.br (decide (0 ≤ i ∧ i < (↑(List.length u) : Int)))
        (.br (decide (0 ≤ s))
         (.br (decide (s > 0))
          (.br (decide (gI u (Int.toNat i) ≤ IntKind.wrap .i64 (-1 * 2 ^ min (Int.toNat s) 64)))
           (.br (!decide (t = 0))
            (.br (!decide (t = 0))
             (.br (small (List.length m))
              (.br (!mskB (IntKind.wrap .i64 (a + Int.tmod i t)) (IntKind.wrap .i64 (b + IntKind.wrap .i64 (Int.tdiv i t))) m)
               (.leaf Ex.ret [.one (.bool false)] [])
               (.leaf Ex.normal [.one (.lst (.int .i64) u), .one (.lst (.pair (.int .i64) (Sh.pair (Sh.int .i64) (Sh.pair (Sh.int .i64) (Sh.int .i64)))) m), .one (.int .i64 s), .one (.ptr 0 0), .one (.int .i64 t), .one (.int .i64 z1_)] [some (.box [.int .i64 a, .int .i64 b, .int .i64 c, .int .i64 d])]))
              .no)
             .no)
            .no)
           (.leaf Ex.normal [.one (.lst (.int .i64) u), .one (.lst (.pair (.int .i64) (Sh.pair (Sh.int .i64) (Sh.pair (Sh.int .i64) (Sh.int .i64)))) m), .one (.int .i64 s), .one (.ptr 0 0), .one (.int .i64 t), .one (.int .i64 z1_)] [some (.box [.int .i64 a, .int .i64 b, .int .i64 c, .int .i64 d])]))
          (.leaf Ex.normal [.one (.lst (.int .i64) u), .one (.lst (.pair (.int .i64) (Sh.pair (Sh.int .i64) (Sh.pair (Sh.int .i64) (Sh.int .i64)))) m), .one (.int .i64 s), .one (.ptr 0 0), .one (.int .i64 t), .one (.int .i64 z1_)] [some (.box [.int .i64 a, .int .i64 b, .int .i64 c, .int .i64 d])]))
         .no)
        .no))
      .no)
     .no)
    (.leaf (Ex.exit 0) [] []))
def T_ref30_Fits_0 : TT := fun vs bl => (D_ref30_Fits_0 vs bl fun a b c d s t i m u => some (U_ref30_Fits_0 a b c d s t i m u)).getD .no
theorem tu_ref30_Fits_0 (a b c d s t i : Int) (m : List (Int × Int × Int × Int)) (u : List Int) : T_ref30_Fits_0 [.one (.lst (.int .i64) u), .one (.lst (.pair (.int .i64) (.pair (.int .i64) (.pair (.int .i64) (.int .i64)))) m), .one (.int .i64 s), .one (.ptr 0 0), .one (.int .i64 t), .one (.int .i64 i)] [some (.box [.int .i64 a, .int .i64 b, .int .i64 c, .int .i64 d])] = U_ref30_Fits_0 a b c d s t i m u := by kernel_rfl
theorem b_ref30_Fits_0 (a b c d s t i : Int) (m : List (Int × Int × Int × Int)) (u : List Int) (Kc : KT) : exec Try.prog t_ref30_Fits (annOf []) l_ref30_Fits 20 0 (loopOf Try.f19 0) (unp 79 [0, 2, 3, 5, 9, 10] [.one (.lst (.int .i64) u), .one (.lst (.pair (.int .i64) (.pair (.int .i64) (.pair (.int .i64) (.int .i64)))) m), .one (.int .i64 s), .one (.ptr 0 0), .one (.int .i64 t), .one (.int .i64 i)] [some (.box [.int .i64 a, .int .i64 b, .int .i64 c, .int .i64 d])]) (endc 0 79 [0, 2, 3, 5, 9, 10] (kxOf [] [8]) Kc) =
  (U_ref30_Fits_0 a b c d s t i m u).runc Kc := by kernel_rfl
def t_roi_Scale : FuncId → Option Summ := tabOf [(18, G_roi_Fits), (30, G_rect_Valid), (42, G_rect_Area), (43, G_roi_masked)]
def l_roi_Scale : Nat → Option LSumm := ltOf [(6, ⟨0, 71, [0, 2, 3, 5, 30, 31, 32], (kxOf [0, 2, 3, 5] [8, 9]), S_roi_Scale_0⟩), (15, ⟨0, 71, [2, 3, 5, 12, 52, 53], (kxOf [12] [8, 9]), S_roi_Scale_1⟩)]
theorem e_roi_Scale (u : List Int) (a b c d : Int) (m : List (Int × Int × Int × Int)) (s : Int) : funR Try.prog t_roi_Scale (annOf []) l_roi_Scale 20 Try.f15 [.one (.lst (.int .i64) u), .agg [.int .i64 a, .int .i64 b, .int .i64 c, .int .i64 d], .one (.lst (.pair (.int .i64) (.pair (.int .i64) (.pair (.int .i64) (.int .i64)))) m), .one (.int .i64 s)] [] =
  (ite2 (!valid a b c d)
  (some ⟨.tup [(false, [.row 0]), (false, [.int .i64 2])], [], [.arr 3 (.int .i64) ([] : List (Int))]⟩)
  (ite2 (decide (s < 0))
   (some ⟨.tup [(false, [.row 0]), (false, [.int .i64 2])], [], [.arr 3 (.int .i64) ([] : List (Int))]⟩)
   (ite2 (decide (s > 30))
    (some ⟨.tup [(false, [.row 0]), (false, [.int .i64 2])], [], [.arr 3 (.int .i64) ([] : List (Int))]⟩)
    (ite2 ((↑(List.length u) : Int) != area a b c d)
     (some ⟨.tup [(false, [.row 0]), (false, [.int .i64 4])], [], [.arr 3 (.int .i64) ([] : List (Int))]⟩)
     (ite2 (k_roi_Scale_0 a b c d s m u u (↑(List.length u) : Int) 0)
      (ite2 (p_roi_Scale_0 a b c d s m u u)
       (ite2 (small (List.length m))
        (ite2 (!ftB u a b c d m s)
         (some ⟨.tup [(false, [.row 0]), (false, [.int .i64 13])], [], [.arr 3 (.int .i64) ([] : List (Int))]⟩)
         (ite2 (decide (List.length u * 9 ≤ 140737488355328))
          (ite2 (k_roi_Scale_1 a b c d s (↑(List.length u) : Int) 0 m u)
           (some ⟨.tup [(false, [.row 0]), (false, [.int .i64 0])], [], [.arr 3 (.int .i64) (scM u (scP u a b c m s))]⟩)
           none)
          none))
        none)
       (some ⟨.tup [(false, [.row 0]), (false, [.int .i64 2])], [], [.arr 3 (.int .i64) ([] : List (Int))]⟩))
      none))))) := by kernel_rfl
def U_roi_Scale_0 (a b c d s : Int) (m : List (Int × Int × Int × Int)) (u v : List Int) (n i : Int) : LT :=
  (.br (decide (i < n))
    (.br (decide (0 ≤ i ∧ i < (↑(List.length v) : Int)))
     (.br (decide (gI v (Int.toNat i) > 268435456))
      (.leaf Ex.ret [.one (.row 0), .one (.int .i64 2)] [some (.arr 3 (.int .i64) ([] : List (Int)))])
      (.br (decide (gI v (Int.toNat i) < -268435456))
       (.leaf Ex.ret [.one (.row 0), .one (.int .i64 2)] [some (.arr 3 (.int .i64) ([] : List (Int)))])
       (.leaf Ex.normal [.one (.lst (.int .i64) u), .one (.lst (.pair (.int .i64) (Sh.pair (Sh.int .i64) (Sh.pair (Sh.int .i64) (Sh.int .i64)))) m), .one (.int .i64 s), .one (.ptr 0 0), .one (.lst (.int .i64) v), .one (.int .i64 n), .one (.int .i64 (IntKind.wrap .i64 (i + 1)))] [some (.box [.int .i64 a, .int .i64 b, .int .i64 c, .int .i64 d])])))
     .no)
    (.leaf (Ex.exit 0) [.one (.lst (.int .i64) u), .one (.lst (.pair (.int .i64) (Sh.pair (Sh.int .i64) (Sh.pair (Sh.int .i64) (Sh.int .i64)))) m), .one (.int .i64 s), .one (.ptr 0 0)] [some (.box [.int .i64 a, .int .i64 b, .int .i64 c, .int .i64 d])]))
def T_roi_Scale_0 : TT := fun vs bl => (D_roi_Scale_0 vs bl fun a b c d s m u v n i => some (U_roi_Scale_0 a b c d s m u v n i)).getD .no
theorem tu_roi_Scale_0 (a b c d s : Int) (m : List (Int × Int × Int × Int)) (u v : List Int) (n i : Int) : T_roi_Scale_0 [.one (.lst (.int .i64) u), .one (.lst (.pair (.int .i64) (.pair (.int .i64) (.pair (.int .i64) (.int .i64)))) m), .one (.int .i64 s), .one (.ptr 0 0), .one (.lst (.int .i64) v), .one (.int .i64 n), .one (.int .i64 i)] [some (.box [.int .i64 a, .int .i64 b, .int .i64 c, .int .i64 d])] = U_roi_Scale_0 a b c d s m u v n i := by kernel_rfl
theorem b_roi_Scale_0 (a b c d s : Int) (m : List (Int × Int × Int × Int)) (u v : List Int) (n i : Int) (Kc : KT) : exec Try.prog t_roi_Scale (annOf []) l_roi_Scale 20 0 (loopOf Try.f15 0) (unp 71 [0, 2, 3, 5, 30, 31, 32] [.one (.lst (.int .i64) u), .one (.lst (.pair (.int .i64) (.pair (.int .i64) (.pair (.int .i64) (.int .i64)))) m), .one (.int .i64 s), .one (.ptr 0 0), .one (.lst (.int .i64) v), .one (.int .i64 n), .one (.int .i64 i)] [some (.box [.int .i64 a, .int .i64 b, .int .i64 c, .int .i64 d])]) (endc 0 71 [0, 2, 3, 5, 30, 31, 32] (kxOf [0, 2, 3, 5] [8, 9]) Kc) =
  (U_roi_Scale_0 a b c d s m u v n i).runc Kc := by kernel_rfl
def U_roi_Scale_1 (a b c d s n i : Int) (m : List (Int × Int × Int × Int)) (u : List Int) : LT :=
  (.br (decide (i < n))
    (.br (small (List.length m) && valid a b c d && decide (a < c) && decide (0 ≤ i) && decide (i < 16777217))
     (.br (mskB (mxI a c i) (myI a b c i) m)
      (.br (decide (0 ≤ i ∧ i < (↑(List.length u) : Int)))
       (.br (decide (Int.toNat i < List.length u))
        (.br (decide (0 ≤ IntKind.wrap IntKind.u64 s))
         (.br (decide (0 ≤ i ∧ i < (↑(List.length u) : Int)))
          (.br (decide (Int.toNat i < List.length u))
           (.leaf Ex.normal [.one (.lst (.pair (.int .i64) (Sh.pair (Sh.int .i64) (Sh.pair (Sh.int .i64) (Sh.int .i64)))) m), .one (.int .i64 s), .one (.ptr 0 0), .one (.row 1), .one (.int .i64 n), .one (.int .i64 (IntKind.wrap .i64 (i + 1)))] [some (.box [.int .i64 a, .int .i64 b, .int .i64 c, .int .i64 d]), some (.arr 3 (.int .i64) (List.set u (Int.toNat i) (IntKind.wrap .i64 (gI u (Int.toNat i) * IntKind.wrap .i64 (1 * 2 ^ min (Int.toNat (IntKind.wrap IntKind.u64 s)) 64)))))])
           .no)
          .no)
         .no)
        .no)
       .no)
      (.leaf Ex.normal [.one (.lst (.pair (.int .i64) (Sh.pair (Sh.int .i64) (Sh.pair (Sh.int .i64) (Sh.int .i64)))) m), .one (.int .i64 s), .one (.ptr 0 0), .one (.row 1), .one (.int .i64 n), .one (.int .i64 (IntKind.wrap .i64 (i + 1)))] [some (.box [.int .i64 a, .int .i64 b, .int .i64 c, .int .i64 d]), some (.arr 3 (.int .i64) u)]))
     .no)
    (.leaf (Ex.exit 2) [.one (.row 0)] [some (.arr 3 (.int .i64) u)]))
def T_roi_Scale_1 : TT := fun vs bl => (D_roi_Scale_1 vs bl fun a b c d s n i m u => some (U_roi_Scale_1 a b c d s n i m u)).getD .no
theorem tu_roi_Scale_1 (a b c d s n i : Int) (m : List (Int × Int × Int × Int)) (u : List Int) : T_roi_Scale_1 [.one (.lst (.pair (.int .i64) (.pair (.int .i64) (.pair (.int .i64) (.int .i64)))) m), .one (.int .i64 s), .one (.ptr 0 0), .one (.row 1), .one (.int .i64 n), .one (.int .i64 i)] [some (.box [.int .i64 a, .int .i64 b, .int .i64 c, .int .i64 d]), some (.arr 3 (.int .i64) u)] = U_roi_Scale_1 a b c d s n i m u := by kernel_rfl
theorem b_roi_Scale_1 (a b c d s n i : Int) (m : List (Int × Int × Int × Int)) (u : List Int) (Kc : KT) : exec Try.prog t_roi_Scale (annOf []) l_roi_Scale 20 0 (loopOf Try.f15 1) (unp 71 [2, 3, 5, 12, 52, 53] [.one (.lst (.pair (.int .i64) (.pair (.int .i64) (.pair (.int .i64) (.int .i64)))) m), .one (.int .i64 s), .one (.ptr 0 0), .one (.row 1), .one (.int .i64 n), .one (.int .i64 i)] [some (.box [.int .i64 a, .int .i64 b, .int .i64 c, .int .i64 d]), some (.arr 3 (.int .i64) u)]) (endc 0 71 [2, 3, 5, 12, 52, 53] (kxOf [12] [8, 9]) Kc) =
  (U_roi_Scale_1 a b c d s n i m u).runc Kc := by kernel_rfl
def t_ref30_Scale : FuncId → Option Summ := tabOf [(19, G_ref30_Fits), (32, G_ref01_Valid), (44, G_ref01_Area), (45, G_ref30_Masked)]
def l_ref30_Scale : Nat → Option LSumm := ltOf [(6, ⟨0, 94, [0, 2, 3, 5, 10], (kxOf [0, 2, 3, 5] [8, 9]), S_ref30_Scale_0⟩), (15, ⟨0, 94, [0, 2, 3, 5, 11, 12, 13], (kxOf [12] [8, 9]), S_ref30_Scale_1⟩)]
theorem e_ref30_Scale (u : List Int) (a b c d : Int) (m : List (Int × Int × Int × Int)) (s : Int) : funR Try.prog t_ref30_Scale (annOf []) l_ref30_Scale 20 Try.f16 [.one (.lst (.int .i64) u), .agg [.int .i64 a, .int .i64 b, .int .i64 c, .int .i64 d], .one (.lst (.pair (.int .i64) (.pair (.int .i64) (.pair (.int .i64) (.int .i64)))) m), .one (.int .i64 s)] [] =
  (ite2 (!valid a b c d)
  (some ⟨.tup [(false, [.row 0]), (false, [.int .i64 2])], [], [.arr 3 (.int .i64) ([] : List (Int))]⟩)
  (ite2 (decide (s < 0))
   (some ⟨.tup [(false, [.row 0]), (false, [.int .i64 2])], [], [.arr 3 (.int .i64) ([] : List (Int))]⟩)
   (ite2 (decide (s > 30))
    (some ⟨.tup [(false, [.row 0]), (false, [.int .i64 2])], [], [.arr 3 (.int .i64) ([] : List (Int))]⟩)
    (ite2 ((↑(List.length u) : Int) != area a b c d)
     (some ⟨.tup [(false, [.row 0]), (false, [.int .i64 4])], [], [.arr 3 (.int .i64) ([] : List (Int))]⟩)
     (ite2 (k_ref30_Scale_0 a b c d s m u 0)
      (ite2 (p_ref30_Scale_0 a b c d s m u)
       (ite2 (small (List.length m))
        (ite2 (!ftB u a b c d m s)
         (some ⟨.tup [(false, [.row 0]), (false, [.int .i64 13])], [], [.arr 3 (.int .i64) ([] : List (Int))]⟩)
         (ite2 (k_ref30_Scale_1 a b c d s (IntKind.wrap .i64 (c - a)) 0 m u [])
          (some ⟨.tup [(false, [.row 0]), (false, [.int .i64 0])], [], [.arr 3 (.int .i64) (scM u (scP u a b c m s))]⟩)
          none))
        none)
       (some ⟨.tup [(false, [.row 0]), (false, [.int .i64 2])], [], [.arr 3 (.int .i64) ([] : List (Int))]⟩))
      none))))) := by kernel_rfl
def U_ref30_Scale_0 (a b c d s : Int) (m : List (Int × Int × Int × Int)) (u : List Int) (i : Int) : LT :=
  (.br (decide (i < (↑(List.length u) : Int)))
    (.br (decide (0 ≤ i ∧ i < (↑(List.length u) : Int)))
     (.br (decide (gI u (Int.toNat i) > 268435456))
      (.leaf Ex.ret [.one (.row 0), .one (.int .i64 2)] [some (.arr 3 (.int .i64) ([] : List (Int)))])
      (.br (decide (0 ≤ i ∧ i < (↑(List.length u) : Int)))
       (.br (decide (gI u (Int.toNat i) < -268435456))
        (.leaf Ex.ret [.one (.row 0), .one (.int .i64 2)] [some (.arr 3 (.int .i64) ([] : List (Int)))])
        (.leaf Ex.normal [.one (.lst (.int .i64) u), .one (.lst (.pair (.int .i64) (Sh.pair (Sh.int .i64) (Sh.pair (Sh.int .i64) (Sh.int .i64)))) m), .one (.int .i64 s), .one (.ptr 0 0), .one (.int .i64 (IntKind.wrap .i64 (i + 1)))] [some (.box [.int .i64 a, .int .i64 b, .int .i64 c, .int .i64 d])]))
       .no))
     .no)
    (.leaf (Ex.exit 0) [.one (.lst (.int .i64) u), .one (.lst (.pair (.int .i64) (Sh.pair (Sh.int .i64) (Sh.pair (Sh.int .i64) (Sh.int .i64)))) m), .one (.int .i64 s), .one (.ptr 0 0)] [some (.box [.int .i64 a, .int .i64 b, .int .i64 c, .int .i64 d])]))
def T_ref30_Scale_0 : TT := fun vs bl => (D_ref30_Scale_0 vs bl fun a b c d s m u i => some (U_ref30_Scale_0 a b c d s m u i)).getD .no
theorem tu_ref30_Scale_0 (a b c d s : Int) (m : List (Int × Int × Int × Int)) (u : List Int) (i : Int) : T_ref30_Scale_0 [.one (.lst (.int .i64) u), .one (.lst (.pair (.int .i64) (.pair (.int .i64) (.pair (.int .i64) (.int .i64)))) m), .one (.int .i64 s), .one (.ptr 0 0), .one (.int .i64 i)] [some (.box [.int .i64 a, .int .i64 b, .int .i64 c, .int .i64 d])] = U_ref30_Scale_0 a b c d s m u i := by kernel_rfl
theorem b_ref30_Scale_0 (a b c d s : Int) (m : List (Int × Int × Int × Int)) (u : List Int) (i : Int) (Kc : KT) : exec Try.prog t_ref30_Scale (annOf []) l_ref30_Scale 20 0 (loopOf Try.f16 0) (unp 94 [0, 2, 3, 5, 10] [.one (.lst (.int .i64) u), .one (.lst (.pair (.int .i64) (.pair (.int .i64) (.pair (.int .i64) (.int .i64)))) m), .one (.int .i64 s), .one (.ptr 0 0), .one (.int .i64 i)] [some (.box [.int .i64 a, .int .i64 b, .int .i64 c, .int .i64 d])]) (endc 0 94 [0, 2, 3, 5, 10] (kxOf [0, 2, 3, 5] [8, 9]) Kc) =
  (U_ref30_Scale_0 a b c d s m u i).runc Kc := by kernel_rfl
def U_ref30_Scale_1 (a b c d s n i : Int) (m : List (Int × Int × Int × Int)) (u v : List Int) : LT :=
  (.br (decide (i < (↑(List.length u) : Int)))
    (.br (decide (0 ≤ i ∧ i < (↑(List.length u) : Int)))
     (.br (!decide (n = 0))
      (.br (!decide (n = 0))
       (.br (small (List.length m))
        (.br (mskB (IntKind.wrap .i64 (a + Int.tmod i n)) (IntKind.wrap .i64 (b + IntKind.wrap .i64 (Int.tdiv i n))) m)
         (.br (decide (0 ≤ s))
          (.br (decide ((List.length v + List.length [IntKind.wrap .i64 (gI u (Int.toNat i) * IntKind.wrap .i64 (1 * 2 ^ min (Int.toNat s) 64))]) * 9 ≤ 140737488355328))
           (.leaf Ex.normal [.one (.lst (.int .i64) u), .one (.lst (.pair (.int .i64) (Sh.pair (Sh.int .i64) (Sh.pair (Sh.int .i64) (Sh.int .i64)))) m), .one (.int .i64 s), .one (.ptr 0 0), .one (.int .i64 n), .one (.row 1), .one (.int .i64 (IntKind.wrap .i64 (i + 1)))] [some (.box [.int .i64 a, .int .i64 b, .int .i64 c, .int .i64 d]), some (.arr 3 (.int .i64) (v ++ [IntKind.wrap .i64 (gI u (Int.toNat i) * IntKind.wrap .i64 (1 * 2 ^ min (Int.toNat s) 64))]))])
           .no)
          .no)
         (.br (decide ((List.length v + List.length [gI u (Int.toNat i)]) * 9 ≤ 140737488355328))
          (.leaf Ex.normal [.one (.lst (.int .i64) u), .one (.lst (.pair (.int .i64) (Sh.pair (Sh.int .i64) (Sh.pair (Sh.int .i64) (Sh.int .i64)))) m), .one (.int .i64 s), .one (.ptr 0 0), .one (.int .i64 n), .one (.row 1), .one (.int .i64 (IntKind.wrap .i64 (i + 1)))] [some (.box [.int .i64 a, .int .i64 b, .int .i64 c, .int .i64 d]), some (.arr 3 (.int .i64) (v ++ [gI u (Int.toNat i)]))])
          .no))
        .no)
       .no)
      .no)
     .no)
    (.leaf (Ex.exit 2) [.one (.row 0)] [some (.arr 3 (.int .i64) v)]))
def T_ref30_Scale_1 : TT := fun vs bl => (D_ref30_Scale_1 vs bl fun a b c d s n i m u v => some (U_ref30_Scale_1 a b c d s n i m u v)).getD .no
theorem tu_ref30_Scale_1 (a b c d s n i : Int) (m : List (Int × Int × Int × Int)) (u v : List Int) : T_ref30_Scale_1 [.one (.lst (.int .i64) u), .one (.lst (.pair (.int .i64) (.pair (.int .i64) (.pair (.int .i64) (.int .i64)))) m), .one (.int .i64 s), .one (.ptr 0 0), .one (.int .i64 n), .one (.row 1), .one (.int .i64 i)] [some (.box [.int .i64 a, .int .i64 b, .int .i64 c, .int .i64 d]), some (.arr 3 (.int .i64) v)] = U_ref30_Scale_1 a b c d s n i m u v := by kernel_rfl
theorem b_ref30_Scale_1 (a b c d s n i : Int) (m : List (Int × Int × Int × Int)) (u v : List Int) (Kc : KT) : exec Try.prog t_ref30_Scale (annOf []) l_ref30_Scale 20 0 (loopOf Try.f16 1) (unp 94 [0, 2, 3, 5, 11, 12, 13] [.one (.lst (.int .i64) u), .one (.lst (.pair (.int .i64) (.pair (.int .i64) (.pair (.int .i64) (.int .i64)))) m), .one (.int .i64 s), .one (.ptr 0 0), .one (.int .i64 n), .one (.row 1), .one (.int .i64 i)] [some (.box [.int .i64 a, .int .i64 b, .int .i64 c, .int .i64 d]), some (.arr 3 (.int .i64) v)]) (endc 0 94 [0, 2, 3, 5, 11, 12, 13] (kxOf [12] [8, 9]) Kc) =
  (U_ref30_Scale_1 a b c d s n i m u v).runc Kc := by kernel_rfl
def t_roi_demand : FuncId → Option Summ := tabOf []
def l_roi_demand : Nat → Option LSumm := ltOf []
theorem e_roi_demand (b : Bool) : funR Try.prog t_roi_demand (annOf []) l_roi_demand 20 Try.f61 [.one (.bool b)] [] =
  (ite2 (!b)
  none
  (some ⟨.tup [], [], []⟩)) := by kernel_rfl
def t_roi_collect : FuncId → Option Summ := tabOf [(9, G_roi_Valid), (22, G_params_Check), (23, G_lay_Tiles), (24, G_lay_Component), (25, G_pyr_Count), (31, G_rect_Empty), (51, G_rect_Reduce), (61, G_roi_demand), (62, G_rect_Intersect), (63, G_pyr_Need)]
def l_roi_collect : Nat → Option LSumm := ltOf [(7, ⟨0, 111, [2, 3, 4, 6, 7, 13, 14, 15, 69, 70, 71], (kxOf [15] [12]), S_roi_collect_0⟩)]
theorem e_roi_collect (h : Hd) (p : Pm) (t k b : Int) (l : List (Int × Int × Int × Int)) : funR Try.prog t_roi_collect (annOf []) l_roi_collect 20 Try.f35 [.agg (hdC h), .agg (pmC p), .one (.int .i64 t), .one (.int .i64 k), .one (.int .i64 b), .one (.lst (.pair (.int .i64) (.pair (.int .i64) (.pair (.int .i64) (.int .i64)))) l)] [] =
  (ite2 (small (List.length h.cs) && (small (List.length p.pr) && small (List.length p.st)))
  (ite2 (checkA h p == 0)
   (ite2 (rgErr l == 0)
    (ite2 (small (List.length h.cs))
     (ite2 (decide (t ≥ 0))
      (ite2 (decide (t < (↑(List.length (tilesH h)) : Int)))
       (ite2 (decide (k ≥ 0))
        (ite2 (decide (k < (↑(List.length h.cs) : Int)))
         (ite2 (decide (b ≥ 0))
          (ite2 (decide (b < count p.le))
           (ite2 (decide (0 ≤ k ∧ k < (↑(List.length h.cs) : Int)))
            (ite2 (k_roi_collect_0 h p t k b (↑(List.length l) : Int) 0 (gC h.cs (Int.toNat k)).1 (gC h.cs (Int.toNat k)).2.2.1 (gC h.cs (Int.toNat k)).2.2.2 (gC h.cs (Int.toNat k)).2.1 l (tilesH h) [])
             (some ⟨.one (.row 0), [], [.arr 28 (.pair (.int .i64) (Sh.pair (Sh.int .i64) (Sh.pair (Sh.int .i64) (Sh.int .i64)))) (roiM h p t k b l)]⟩)
             none)
            none)
           none)
          none)
         none)
        none)
       none)
      none)
     none)
    none)
   none)
  none) := by kernel_rfl
def U_roi_collect_0 (h : Hd) (p : Pm) (t k b n i c0 c2 c3 : Int) (c1 : Bool) (l u v : List (Int × Int × Int × Int)) : LT :=
  let z3_ := inter (gR l (Int.toNat i)).1 (gR l (Int.toNat i)).2.1 (gR l (Int.toNat i)).2.2.1 (gR l (Int.toNat i)).2.2.2 (gR u (Int.toNat t)).1 (gR u (Int.toNat t)).2.1 (gR u (Int.toNat t)).2.2.1 (gR u (Int.toNat t)).2.2.2; let z1_ := reduce z3_.1 z3_.2.1 z3_.2.2.1 z3_.2.2.2 c2 c3; let z2_ := gR (ndF (compT h t k).1 (compT h t k).2.1 (compT h t k).2.2.1 (compT h t k).2.2.2 p.le p.le z1_.1 z1_.2.1 z1_.2.2.1 z1_.2.2.2 p.ke) (Int.toNat b); (.br (decide (i < n))
    (.br (decide (0 ≤ i ∧ i < (↑(List.length l) : Int)))
     (.br (decide (0 ≤ t ∧ t < (↑(List.length u) : Int)))
      (.br (decide (Int.toNat t < List.length u))
       (.br (small (List.length h.cs))
        (.br (decide (0 ≤ b ∧ b < (↑(List.length (ndF (compT h t k).1 (compT h t k).2.1 (compT h t k).2.2.1 (compT h t k).2.2.2 p.le p.le z1_.1 z1_.2.1 z1_.2.2.1 z1_.2.2.2 p.ke)) : Int)))
         (.br (decide (Int.toNat b < List.length (ndF (compT h t k).1 (compT h t k).2.1 (compT h t k).2.2.1 (compT h t k).2.2.2 p.le p.le z1_.1 z1_.2.1 z1_.2.2.1 z1_.2.2.2 p.ke)))
          (.br (!empty z2_.1 z2_.2.1 z2_.2.2.1 z2_.2.2.2)
           (.br (decide ((List.length v + List.length [(z2_.1, z2_.2.1, z2_.2.2.1, z2_.2.2.2)]) * 33 ≤ 140737488355328))
            (.leaf Ex.normal [.one (.int .i64 t), .one (.int .i64 k), .one (.int .i64 b), .one (.ptr 0 0), .one (.ptr 1 0), .one (.row 2), .one (.ptr 3 0), .one (.row 4), .one (.lst (.pair (.int .i64) (Sh.pair (Sh.int .i64) (Sh.pair (Sh.int .i64) (Sh.int .i64)))) l), .one (.int .i64 n), .one (.int .i64 (IntKind.wrap .i64 (i + 1)))] [some (.box [.int .i64 h.a, .int .i64 h.b, .int .i64 h.c, .int .i64 h.d, .int .i64 h.tw, .int .i64 h.th, .lst (.pair (.int .i64) (Sh.pair Sh.bool (Sh.pair (Sh.int .i64) (Sh.int .i64)))) h.cs]), some (.box [.int .i64 p.ke, .int .i64 p.le, .int .i64 p.co, .int .i64 p.bx, .int .i64 p.bw, .lst (.pair (.int .i64) (Sh.int .i64)) p.pr, .int .i64 p.od, .int .i64 p.la, .bool p.m1, .bool p.m2, .bool p.m3, .bool p.m4, .bool p.m5, .bool p.dv, .bool p.sy, .bool p.fe, .lst (.int .i64) p.st, .int .i64 p.de, .int .i64 p.sf]), some (.arr 28 (.pair (.int .i64) (Sh.pair (Sh.int .i64) (Sh.pair (Sh.int .i64) (Sh.int .i64)))) u), some (.box [.int .i64 c0, .bool c1, .int .i64 c2, .int .i64 c3]), some (.arr 28 (.pair (.int .i64) (Sh.pair (Sh.int .i64) (Sh.pair (Sh.int .i64) (Sh.int .i64)))) (v ++ [(z2_.1, z2_.2.1, z2_.2.2.1, z2_.2.2.2)]))])
            .no)
           (.leaf Ex.normal [.one (.int .i64 t), .one (.int .i64 k), .one (.int .i64 b), .one (.ptr 0 0), .one (.ptr 1 0), .one (.row 2), .one (.ptr 3 0), .one (.row 4), .one (.lst (.pair (.int .i64) (Sh.pair (Sh.int .i64) (Sh.pair (Sh.int .i64) (Sh.int .i64)))) l), .one (.int .i64 n), .one (.int .i64 (IntKind.wrap .i64 (i + 1)))] [some (.box [.int .i64 h.a, .int .i64 h.b, .int .i64 h.c, .int .i64 h.d, .int .i64 h.tw, .int .i64 h.th, .lst (.pair (.int .i64) (Sh.pair Sh.bool (Sh.pair (Sh.int .i64) (Sh.int .i64)))) h.cs]), some (.box [.int .i64 p.ke, .int .i64 p.le, .int .i64 p.co, .int .i64 p.bx, .int .i64 p.bw, .lst (.pair (.int .i64) (Sh.int .i64)) p.pr, .int .i64 p.od, .int .i64 p.la, .bool p.m1, .bool p.m2, .bool p.m3, .bool p.m4, .bool p.m5, .bool p.dv, .bool p.sy, .bool p.fe, .lst (.int .i64) p.st, .int .i64 p.de, .int .i64 p.sf]), some (.arr 28 (.pair (.int .i64) (Sh.pair (Sh.int .i64) (Sh.pair (Sh.int .i64) (Sh.int .i64)))) u), some (.box [.int .i64 c0, .bool c1, .int .i64 c2, .int .i64 c3]), some (.arr 28 (.pair (.int .i64) (Sh.pair (Sh.int .i64) (Sh.pair (Sh.int .i64) (Sh.int .i64)))) v)]))
          .no)
         .no)
        .no)
       .no)
      .no)
     .no)
    (.leaf (Ex.exit 0) [.one (.row 0)] [some (.arr 28 (.pair (.int .i64) (Sh.pair (Sh.int .i64) (Sh.pair (Sh.int .i64) (Sh.int .i64)))) v)]))
def T_roi_collect_0 : TT := fun vs bl => (D_roi_collect_0 vs bl fun h p t k b n i c0 c2 c3 c1 l u v => some (U_roi_collect_0 h p t k b n i c0 c2 c3 c1 l u v)).getD .no
theorem tu_roi_collect_0 (h : Hd) (p : Pm) (t k b n i c0 c2 c3 : Int) (c1 : Bool) (l u v : List (Int × Int × Int × Int)) : T_roi_collect_0 [.one (.int .i64 t), .one (.int .i64 k), .one (.int .i64 b), .one (.ptr 0 0), .one (.ptr 1 0), .one (.row 2), .one (.ptr 3 0), .one (.row 4), .one (.lst (.pair (.int .i64) (.pair (.int .i64) (.pair (.int .i64) (.int .i64)))) l), .one (.int .i64 n), .one (.int .i64 i)] [some (.box (hdC h)), some (.box (pmC p)), some (.arr 28 (.pair (.int .i64) (.pair (.int .i64) (.pair (.int .i64) (.int .i64)))) u), some (.box [.int .i64 c0, .bool c1, .int .i64 c2, .int .i64 c3]), some (.arr 28 (.pair (.int .i64) (.pair (.int .i64) (.pair (.int .i64) (.int .i64)))) v)] = U_roi_collect_0 h p t k b n i c0 c2 c3 c1 l u v := by kernel_rfl
theorem b_roi_collect_0 (h : Hd) (p : Pm) (t k b n i c0 c2 c3 : Int) (c1 : Bool) (l u v : List (Int × Int × Int × Int)) (Kc : KT) : exec Try.prog t_roi_collect (annOf []) l_roi_collect 20 0 (loopOf Try.f35 0) (unp 111 [2, 3, 4, 6, 7, 13, 14, 15, 69, 70, 71] [.one (.int .i64 t), .one (.int .i64 k), .one (.int .i64 b), .one (.ptr 0 0), .one (.ptr 1 0), .one (.row 2), .one (.ptr 3 0), .one (.row 4), .one (.lst (.pair (.int .i64) (.pair (.int .i64) (.pair (.int .i64) (.int .i64)))) l), .one (.int .i64 n), .one (.int .i64 i)] [some (.box (hdC h)), some (.box (pmC p)), some (.arr 28 (.pair (.int .i64) (.pair (.int .i64) (.pair (.int .i64) (.int .i64)))) u), some (.box [.int .i64 c0, .bool c1, .int .i64 c2, .int .i64 c3]), some (.arr 28 (.pair (.int .i64) (.pair (.int .i64) (.pair (.int .i64) (.int .i64)))) v)]) (endc 0 111 [2, 3, 4, 6, 7, 13, 14, 15, 69, 70, 71] (kxOf [15] [12]) Kc) =
  (U_roi_collect_0 h p t k b n i c0 c2 c3 c1 l u v).runc Kc := by kernel_rfl
def t_roi_Band : FuncId → Option Summ := tabOf [(35, G_roi_collect)]
def l_roi_Band : Nat → Option LSumm := ltOf []
theorem e_roi_Band (h : Hd) (p : Pm) (t k b : Int) (l : List (Int × Int × Int × Int)) : funD Try.prog t_roi_Band (annOf []) l_roi_Band 20 Try.f12 13 [.agg (hdC h), .agg (pmC p), .one (.int .i64 t), .one (.int .i64 k), .one (.int .i64 b), .one (.lst (.pair (.int .i64) (.pair (.int .i64) (.pair (.int .i64) (.int .i64)))) l)] [] =
  (ite2 (roiOk h p t k b l && small (List.length l) && (small (List.length h.cs) && (small (List.length p.pr) && small (List.length p.st))))
  (some ⟨.one (.row 0), [], [.arr 28 (.pair (.int .i64) (Sh.pair (Sh.int .i64) (Sh.pair (Sh.int .i64) (Sh.int .i64)))) (roiM h p t k b l)]⟩)
  none) := by kernel_rfl
end
end Go.Rx.Ch30
