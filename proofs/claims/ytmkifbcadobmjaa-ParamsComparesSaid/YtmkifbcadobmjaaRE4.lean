/- Each function, run by the executor: an equation. -/
import Derived.Test.YtmkifbcadobmjaaRG
import Derived.Test.YtmkifbcadobmjaaProg
import Derived.KernelRfl
set_option linter.unnecessarySimpa false
set_option linter.unusedVariables false
set_option linter.unusedSimpArgs false
set_option linter.unusedVariables false
set_option maxRecDepth 100000
set_option maxHeartbeats 4000000
open Go Go.Rx Go.Proofs
namespace Go.Rx.Ch23
noncomputable section
def t_ref23_kinds : FuncId → Option Summ := tabOf []
def l_ref23_kinds : Nat → Option LSumm := ltOf []
theorem e_ref23_kinds (p : Pm) : funR Try.prog t_ref23_kinds (annOf []) l_ref23_kinds 20 Try.f44 [.agg (pmC p)] [] =
  (ite2 (decide (p.ke ≥ 1))
  (ite2 (decide (p.ke ≤ 3))
    (ite2 (decide (p.co ≥ 0))
      (ite2 (decide (p.co ≤ 2))
        (ite2 (decide (p.od ≥ 1))
          (some ⟨.one (.bool (decide (p.od ≤ 5))), [], []⟩)
          (some ⟨.one (.bool false), [], []⟩))
        (some ⟨.one (.bool false), [], []⟩))
      (some ⟨.one (.bool false), [], []⟩))
    (some ⟨.one (.bool false), [], []⟩))
  (some ⟨.one (.bool false), [], []⟩)) := by kernel_rfl
def t_ref23_in : FuncId → Option Summ := tabOf []
def l_ref23_in : Nat → Option LSumm := ltOf []
theorem e_ref23_in (a b c : Int) : funR Try.prog t_ref23_in (annOf []) l_ref23_in 20 Try.f38 [.one (.int .i64 a), .one (.int .i64 b), .one (.int .i64 c)] [] =
  (ite2 (decide (b ≤ a))
  (some ⟨.one (.bool (decide (a ≤ c))), [], []⟩)
  (some ⟨.one (.bool false), [], []⟩)) := by kernel_rfl
def t_ref23_tiles : FuncId → Option Summ := tabOf [(62, G_ref01_CeilDiv), (63, G_ref01_FloorDiv)]
def l_ref23_tiles : Nat → Option LSumm := ltOf []
theorem e_ref23_tiles (h : Hd) : funR Try.prog t_ref23_tiles (annOf []) l_ref23_tiles 20 Try.f40 [.agg (hdC h)] [] =
  (some ⟨.one (.int .i64 (IntKind.wrap .i64 (IntKind.wrap .i64 (cdiv h.c h.tw - fdiv h.a h.tw) * IntKind.wrap .i64 (cdiv h.d h.th - fdiv h.b h.th)))), [], []⟩) := by kernel_rfl
def t_params_Header : FuncId → Option Summ := tabOf [(23, G_rect_Empty), (25, G_rect_Area), (26, G_rect_Reduce), (32, G_rect_Valid), (33, G_params_within), (34, G_rect_CeilDiv), (35, G_rect_FloorDiv)]
def l_params_Header : Nat → Option LSumm := ltOf [(4, ⟨0, 114, [1, 36, 37, 38], (kxOf [1] [2]), S_params_Header_0⟩), (14, ⟨0, 114, [1, 98, 99, 100], (kxOf [] [2]), S_params_Header_1⟩)]
theorem e_params_Header (h : Hd) : funR Try.prog t_params_Header (annOf []) l_params_Header 20 Try.f11 [.agg (hdC h)] [] =
  (ite2 (!valid h.a h.b h.c h.d)
  (some ⟨.one (.int .i64 12), [], []⟩)
  (ite2 (empty h.a h.b h.c h.d)
    (some ⟨.one (.int .i64 12), [], []⟩)
    (ite2 (!within 1 4096 [h.tw, h.th])
      (some ⟨.one (.int .i64 12), [], []⟩)
      (ite2 (!within 1 4 [(↑(List.length h.cs) : Int)])
        (some ⟨.one (.int .i64 12), [], []⟩)
        (ite2 (k_params_Header_0 h h.cs (↑(List.length h.cs) : Int) 0)
          (ite2 (p_params_Header_0 h h.cs)
            (ite2 (decide (IntKind.wrap .i64 (IntKind.wrap .i64 (cdiv h.c h.tw - fdiv h.a h.tw) * IntKind.wrap .i64 (cdiv h.d h.th - fdiv h.b h.th)) > 1024))
              (some ⟨.one (.int .i64 5), [], []⟩)
              (ite2 (k_params_Header_1 h h.cs (↑(List.length h.cs) : Int) 0)
                (ite2 (p_params_Header_1 h h.cs)
                  (some ⟨.one (.int .i64 0), [], []⟩)
                  (some ⟨.one (.int .i64 5), [], []⟩))
                none))
            (some ⟨.one (.int .i64 12), [], []⟩))
          none))))) := by kernel_rfl
def U_params_Header_0 (h : Hd) (l : List (Int × Bool × Int × Int)) (n i : Int) : LT :=
  (.br (decide (i < n))
    (.br (decide (0 ≤ i ∧ i < (↑(List.length l) : Int)))
      (.br (!within 1 16 [(gC l (Int.toNat i)).fst])
        (.leaf Ex.ret [.one (.int .i64 12)] [])
        (.br (!within 1 4 [(gC l (Int.toNat i)).snd.snd.fst, (gC l (Int.toNat i)).snd.snd.snd])
          (.leaf Ex.ret [.one (.int .i64 12)] [])
          (.br (empty (reduce h.a h.b h.c h.d (gC l (Int.toNat i)).snd.snd.fst (gC l (Int.toNat i)).snd.snd.snd).fst (reduce h.a h.b h.c h.d (gC l (Int.toNat i)).snd.snd.fst (gC l (Int.toNat i)).snd.snd.snd).snd.fst (reduce h.a h.b h.c h.d (gC l (Int.toNat i)).snd.snd.fst (gC l (Int.toNat i)).snd.snd.snd).snd.snd.fst (reduce h.a h.b h.c h.d (gC l (Int.toNat i)).snd.snd.fst (gC l (Int.toNat i)).snd.snd.snd).snd.snd.snd)
            (.leaf Ex.ret [.one (.int .i64 12)] [])
            (.leaf Ex.normal [V.one (C.ptr 0 0), V.one (C.lst (Sh.pair (Sh.int .i64) (Sh.pair Sh.bool (Sh.pair (Sh.int .i64) (Sh.int .i64)))) l), .one (.int .i64 n), .one (.int .i64 (IntKind.wrap .i64 (i + 1)))] [some (Blk.box [.int .i64 h.a, .int .i64 h.b, .int .i64 h.c, .int .i64 h.d, .int .i64 h.tw, .int .i64 h.th, C.lst (Sh.pair (Sh.int .i64) (Sh.pair Sh.bool (Sh.pair (Sh.int .i64) (Sh.int .i64)))) h.cs])]))))
      .no)
    (.leaf (Ex.exit 0) [V.one (C.ptr 0 0)] [some (Blk.box [.int .i64 h.a, .int .i64 h.b, .int .i64 h.c, .int .i64 h.d, .int .i64 h.tw, .int .i64 h.th, C.lst (Sh.pair (Sh.int .i64) (Sh.pair Sh.bool (Sh.pair (Sh.int .i64) (Sh.int .i64)))) h.cs])]))
def T_params_Header_0 : List V → List (Option Blk) → LT := fun vs bl => (pO vs fun c' vs => kP 0 0 c' <| pO vs fun c' vs => kLC c' fun l => pO vs fun c' vs => kI c' fun n => pO vs fun c' vs => kI c' fun i => pE vs <| bB bl fun q' bl => rdHd q' fun h => bE bl <| some (U_params_Header_0 h l n i)).getD .no
theorem tu_params_Header_0 (h : Hd) (l : List (Int × Bool × Int × Int)) (n i : Int) : T_params_Header_0 [.one (.ptr 0 0), .one (.lst (.pair (.int .i64) (.pair .bool (.pair (.int .i64) (.int .i64)))) l), .one (.int .i64 n), .one (.int .i64 i)] [some (.box (hdC h))] = U_params_Header_0 h l n i := by kernel_rfl
theorem b_params_Header_0 (h : Hd) (l : List (Int × Bool × Int × Int)) (n i : Int) (Kc : Ex → Option (List V × List (Option Blk)) → Option Out) : exec Try.prog t_params_Header (annOf []) l_params_Header 20 0 (loopOf Try.f11 0) (unp 114 [1, 36, 37, 38] [.one (.ptr 0 0), .one (.lst (.pair (.int .i64) (.pair .bool (.pair (.int .i64) (.int .i64)))) l), .one (.int .i64 n), .one (.int .i64 i)] [some (.box (hdC h))]) (endc 0 114 [1, 36, 37, 38] (kxOf [1] [2]) Kc) =
  (T_params_Header_0 [.one (.ptr 0 0), .one (.lst (.pair (.int .i64) (.pair .bool (.pair (.int .i64) (.int .i64)))) l), .one (.int .i64 n), .one (.int .i64 i)] [some (.box (hdC h))]).runc Kc := by kernel_rfl
def U_params_Header_1 (h : Hd) (l : List (Int × Bool × Int × Int)) (n i : Int) : LT :=
  (.br (decide (i < n))
    (.br (decide (0 ≤ i ∧ i < (↑(List.length l) : Int)))
      (.br (decide (area (reduce h.a h.b h.c h.d (gC l (Int.toNat i)).snd.snd.fst (gC l (Int.toNat i)).snd.snd.snd).fst (reduce h.a h.b h.c h.d (gC l (Int.toNat i)).snd.snd.fst (gC l (Int.toNat i)).snd.snd.snd).snd.fst (reduce h.a h.b h.c h.d (gC l (Int.toNat i)).snd.snd.fst (gC l (Int.toNat i)).snd.snd.snd).snd.snd.fst (reduce h.a h.b h.c h.d (gC l (Int.toNat i)).snd.snd.fst (gC l (Int.toNat i)).snd.snd.snd).snd.snd.snd > 1048576))
        (.leaf Ex.ret [.one (.int .i64 5)] [])
        (.leaf Ex.normal [V.one (C.ptr 0 0), V.one (C.lst (Sh.pair (Sh.int .i64) (Sh.pair Sh.bool (Sh.pair (Sh.int .i64) (Sh.int .i64)))) l), .one (.int .i64 n), .one (.int .i64 (IntKind.wrap .i64 (i + 1)))] [some (Blk.box [.int .i64 h.a, .int .i64 h.b, .int .i64 h.c, .int .i64 h.d, .int .i64 h.tw, .int .i64 h.th, C.lst (Sh.pair (Sh.int .i64) (Sh.pair Sh.bool (Sh.pair (Sh.int .i64) (Sh.int .i64)))) h.cs])]))
      .no)
    (.leaf (Ex.exit 2) [] []))
def T_params_Header_1 : List V → List (Option Blk) → LT := fun vs bl => (pO vs fun c' vs => kP 0 0 c' <| pO vs fun c' vs => kLC c' fun l => pO vs fun c' vs => kI c' fun n => pO vs fun c' vs => kI c' fun i => pE vs <| bB bl fun q' bl => rdHd q' fun h => bE bl <| some (U_params_Header_1 h l n i)).getD .no
theorem tu_params_Header_1 (h : Hd) (l : List (Int × Bool × Int × Int)) (n i : Int) : T_params_Header_1 [.one (.ptr 0 0), .one (.lst (.pair (.int .i64) (.pair .bool (.pair (.int .i64) (.int .i64)))) l), .one (.int .i64 n), .one (.int .i64 i)] [some (.box (hdC h))] = U_params_Header_1 h l n i := by kernel_rfl
theorem b_params_Header_1 (h : Hd) (l : List (Int × Bool × Int × Int)) (n i : Int) (Kc : Ex → Option (List V × List (Option Blk)) → Option Out) : exec Try.prog t_params_Header (annOf []) l_params_Header 20 0 (loopOf Try.f11 1) (unp 114 [1, 98, 99, 100] [.one (.ptr 0 0), .one (.lst (.pair (.int .i64) (.pair .bool (.pair (.int .i64) (.int .i64)))) l), .one (.int .i64 n), .one (.int .i64 i)] [some (.box (hdC h))]) (endc 0 114 [1, 98, 99, 100] (kxOf [] [2]) Kc) =
  (T_params_Header_1 [.one (.ptr 0 0), .one (.lst (.pair (.int .i64) (.pair .bool (.pair (.int .i64) (.int .i64)))) l), .one (.int .i64 n), .one (.int .i64 i)] [some (.box (hdC h))]).runc Kc := by kernel_rfl
def t_ref23_Header : FuncId → Option Summ := tabOf [(36, G_ref01_Valid), (37, G_ref01_Empty), (38, G_ref23_in), (39, G_ref01_Reduce), (40, G_ref23_tiles), (41, G_ref01_Area)]
def l_ref23_Header : Nat → Option LSumm := ltOf [(4, ⟨0, 97, [1, 3], (kxOf [1] [2]), S_ref23_Header_0⟩), (12, ⟨0, 97, [1, 5], (kxOf [] [2]), S_ref23_Header_1⟩)]
theorem e_ref23_Header (h : Hd) : funR Try.prog t_ref23_Header (annOf []) l_ref23_Header 20 Try.f12 [.agg (hdC h)] [] =
  (ite2 (!valid h.a h.b h.c h.d)
  (some ⟨.one (.int .i64 12), [], []⟩)
  (ite2 (empty h.a h.b h.c h.d)
    (some ⟨.one (.int .i64 12), [], []⟩)
    (ite2 (!inr 1 4096 h.tw)
      (some ⟨.one (.int .i64 12), [], []⟩)
      (ite2 (!inr 1 4096 h.th)
        (some ⟨.one (.int .i64 12), [], []⟩)
        (ite2 (!inr 1 4 (↑(List.length h.cs) : Int))
          (some ⟨.one (.int .i64 12), [], []⟩)
          (ite2 (k_ref23_Header_0 h 0)
            (ite2 (p_ref23_Header_0 h)
              (ite2 (decide (tiles h > 1024))
                (some ⟨.one (.int .i64 5), [], []⟩)
                (ite2 (k_ref23_Header_1 h 0)
                  (ite2 (p_ref23_Header_1 h)
                    (some ⟨.one (.int .i64 0), [], []⟩)
                    (some ⟨.one (.int .i64 5), [], []⟩))
                  none))
              (some ⟨.one (.int .i64 12), [], []⟩))
            none)))))) := by kernel_rfl
def U_ref23_Header_0 (h : Hd) (i : Int) : LT :=
  (.br (decide (i < (↑(List.length h.cs) : Int)))
    (.br (decide (0 ≤ i ∧ i < (↑(List.length h.cs) : Int)))
      (.br (!inr 1 16 (gC h.cs (Int.toNat i)).fst)
        (.leaf Ex.ret [.one (.int .i64 12)] [])
        (.br (!inr 1 4 (gC h.cs (Int.toNat i)).snd.snd.fst)
          (.leaf Ex.ret [.one (.int .i64 12)] [])
          (.br (!inr 1 4 (gC h.cs (Int.toNat i)).snd.snd.snd)
            (.leaf Ex.ret [.one (.int .i64 12)] [])
            (.br (empty (reduce h.a h.b h.c h.d (gC h.cs (Int.toNat i)).snd.snd.fst (gC h.cs (Int.toNat i)).snd.snd.snd).fst (reduce h.a h.b h.c h.d (gC h.cs (Int.toNat i)).snd.snd.fst (gC h.cs (Int.toNat i)).snd.snd.snd).snd.fst (reduce h.a h.b h.c h.d (gC h.cs (Int.toNat i)).snd.snd.fst (gC h.cs (Int.toNat i)).snd.snd.snd).snd.snd.fst (reduce h.a h.b h.c h.d (gC h.cs (Int.toNat i)).snd.snd.fst (gC h.cs (Int.toNat i)).snd.snd.snd).snd.snd.snd)
              (.leaf Ex.ret [.one (.int .i64 12)] [])
              (.leaf Ex.normal [V.one (C.ptr 0 0), .one (.int .i64 (IntKind.wrap .i64 (i + 1)))] [some (Blk.box [.int .i64 h.a, .int .i64 h.b, .int .i64 h.c, .int .i64 h.d, .int .i64 h.tw, .int .i64 h.th, C.lst (Sh.pair (Sh.int .i64) (Sh.pair Sh.bool (Sh.pair (Sh.int .i64) (Sh.int .i64)))) h.cs])])))))
      .no)
    (.leaf (Ex.exit 0) [V.one (C.ptr 0 0)] [some (Blk.box [.int .i64 h.a, .int .i64 h.b, .int .i64 h.c, .int .i64 h.d, .int .i64 h.tw, .int .i64 h.th, C.lst (Sh.pair (Sh.int .i64) (Sh.pair Sh.bool (Sh.pair (Sh.int .i64) (Sh.int .i64)))) h.cs])]))
def T_ref23_Header_0 : List V → List (Option Blk) → LT := fun vs bl => (pO vs fun c' vs => kP 0 0 c' <| pO vs fun c' vs => kI c' fun i => pE vs <| bB bl fun q' bl => rdHd q' fun h => bE bl <| some (U_ref23_Header_0 h i)).getD .no
theorem tu_ref23_Header_0 (h : Hd) (i : Int) : T_ref23_Header_0 [.one (.ptr 0 0), .one (.int .i64 i)] [some (.box (hdC h))] = U_ref23_Header_0 h i := by kernel_rfl
theorem b_ref23_Header_0 (h : Hd) (i : Int) (Kc : Ex → Option (List V × List (Option Blk)) → Option Out) : exec Try.prog t_ref23_Header (annOf []) l_ref23_Header 20 0 (loopOf Try.f12 0) (unp 97 [1, 3] [.one (.ptr 0 0), .one (.int .i64 i)] [some (.box (hdC h))]) (endc 0 97 [1, 3] (kxOf [1] [2]) Kc) =
  (T_ref23_Header_0 [.one (.ptr 0 0), .one (.int .i64 i)] [some (.box (hdC h))]).runc Kc := by kernel_rfl
def U_ref23_Header_1 (h : Hd) (i : Int) : LT :=
  (.br (decide (i < (↑(List.length h.cs) : Int)))
    (.br (decide (0 ≤ i ∧ i < (↑(List.length h.cs) : Int)))
      (.br (decide (area (reduce h.a h.b h.c h.d (gC h.cs (Int.toNat i)).snd.snd.fst (gC h.cs (Int.toNat i)).snd.snd.snd).fst (reduce h.a h.b h.c h.d (gC h.cs (Int.toNat i)).snd.snd.fst (gC h.cs (Int.toNat i)).snd.snd.snd).snd.fst (reduce h.a h.b h.c h.d (gC h.cs (Int.toNat i)).snd.snd.fst (gC h.cs (Int.toNat i)).snd.snd.snd).snd.snd.fst (reduce h.a h.b h.c h.d (gC h.cs (Int.toNat i)).snd.snd.fst (gC h.cs (Int.toNat i)).snd.snd.snd).snd.snd.snd > 1048576))
        (.leaf Ex.ret [.one (.int .i64 5)] [])
        (.leaf Ex.normal [V.one (C.ptr 0 0), .one (.int .i64 (IntKind.wrap .i64 (i + 1)))] [some (Blk.box [.int .i64 h.a, .int .i64 h.b, .int .i64 h.c, .int .i64 h.d, .int .i64 h.tw, .int .i64 h.th, C.lst (Sh.pair (Sh.int .i64) (Sh.pair Sh.bool (Sh.pair (Sh.int .i64) (Sh.int .i64)))) h.cs])]))
      .no)
    (.leaf (Ex.exit 2) [] []))
def T_ref23_Header_1 : List V → List (Option Blk) → LT := fun vs bl => (pO vs fun c' vs => kP 0 0 c' <| pO vs fun c' vs => kI c' fun i => pE vs <| bB bl fun q' bl => rdHd q' fun h => bE bl <| some (U_ref23_Header_1 h i)).getD .no
theorem tu_ref23_Header_1 (h : Hd) (i : Int) : T_ref23_Header_1 [.one (.ptr 0 0), .one (.int .i64 i)] [some (.box (hdC h))] = U_ref23_Header_1 h i := by kernel_rfl
theorem b_ref23_Header_1 (h : Hd) (i : Int) (Kc : Ex → Option (List V × List (Option Blk)) → Option Out) : exec Try.prog t_ref23_Header (annOf []) l_ref23_Header 20 0 (loopOf Try.f12 1) (unp 97 [1, 5] [.one (.ptr 0 0), .one (.int .i64 i)] [some (.box (hdC h))]) (endc 0 97 [1, 5] (kxOf [] [2]) Kc) =
  (T_ref23_Header_1 [.one (.ptr 0 0), .one (.int .i64 i)] [some (.box (hdC h))]).runc Kc := by kernel_rfl
end
end Go.Rx.Ch23
