/- Each function, run by the executor: an equation. -/
import Derived.Test.YtmkifbcadobmjaaRG
import Derived.Test.YtmkifbcadobmjaaProg
import Derived.KernelRfl
set_option linter.unnecessarySimpa false
set_option linter.unusedVariables false
set_option linter.unusedSimpArgs false
set_option linter.unusedVariables false
set_option maxRecDepth 100000
set_option maxHeartbeats 4000000
open Go Go.Rx Go.Proofs
namespace Go.Rx.Ch23
noncomputable section
def t_params_Check : FuncId → Option Summ := tabOf [(11, G_params_Header), (22, G_rect_Cells), (33, G_params_within), (42, G_params_numbers), (43, G_tileFits)]
def l_params_Check : Nat → Option LSumm := ltOf [(9, ⟨0, 54, [2, 3, 42, 43, 44], (kxOf [] [4]), S_params_Check_0⟩)]
theorem e_params_Check (h : Hd) (p : Pm) : funR Try.prog t_params_Check (annOf []) l_params_Check 20 Try.f14 [.agg (hdC h), .agg (pmC p)] [] =
  (ite2 (small (List.length h.cs))
  (ite2 (header h != 0)
    (some ⟨.one (.int .i64 (header h)), [], []⟩)
    (ite2 (!within 1 3 [p.ke])
      (some ⟨.one (.int .i64 3), [], []⟩)
      (ite2 (!within 0 2 [p.co])
        (some ⟨.one (.int .i64 3), [], []⟩)
        (ite2 (!within 1 5 [p.od])
          (some ⟨.one (.int .i64 3), [], []⟩)
          (ite2 (small (List.length p.pr) && small (List.length p.st))
            (ite2 (!(nums p && colors h p))
              (some ⟨.one (.int .i64 13), [], []⟩)
              (ite2 (decide (h.tw ≤ 4096) && decide (h.th ≤ 4096))
                (ite2 (k_params_Check_0 h p (tilesL h.a h.b h.c h.d h.tw h.th) (↑(List.length (tilesL h.a h.b h.c h.d h.tw h.th)) : Int) 0)
                  (ite2 (p_params_Check_0 h p (tilesL h.a h.b h.c h.d h.tw h.th))
                    (some ⟨.one (.int .i64 0), [], []⟩)
                    (some ⟨.one (.int .i64 5), [], []⟩))
                  none)
                none))
            none)))))
  none) := by kernel_rfl
def U_params_Check_0 (h : Hd) (p : Pm) (t : List Rc) (n i : Int) : LT :=
  (.br (decide (i < n))
    (.br (decide (0 ≤ i ∧ i < (↑(List.length t) : Int)))
      (.br (decide (Int.toNat i < List.length t))
        (.br (nums p && valid (gR t (Int.toNat i)).fst (gR t (Int.toNat i)).snd.fst (gR t (Int.toNat i)).snd.snd.fst (gR t (Int.toNat i)).snd.snd.snd && small (List.length h.cs) && decide (List.length h.cs ≤ 4))
          (.br (!fits ((gR t (Int.toNat i)).fst, (gR t (Int.toNat i)).snd.fst, (gR t (Int.toNat i)).snd.snd.fst, (gR t (Int.toNat i)).snd.snd.snd) p h.cs)
            (.leaf Ex.ret [.one (.int .i64 5)] [])
            (.leaf Ex.normal [V.one (C.ptr 0 0), V.one (C.ptr 1 0), V.one (C.row 2), .one (.int .i64 n), .one (.int .i64 (IntKind.wrap .i64 (i + 1)))] [some (Blk.box [.int .i64 h.a, .int .i64 h.b, .int .i64 h.c, .int .i64 h.d, .int .i64 h.tw, .int .i64 h.th, C.lst (Sh.pair (Sh.int .i64) (Sh.pair Sh.bool (Sh.pair (Sh.int .i64) (Sh.int .i64)))) h.cs]), some (Blk.box [.int .i64 p.ke, .int .i64 p.le, .int .i64 p.co, .int .i64 p.bx, .int .i64 p.bw, C.lst (Sh.pair (Sh.int .i64) (Sh.int .i64)) p.pr, .int .i64 p.od, .int .i64 p.la, .bool p.m1, .bool p.m2, .bool p.m3, .bool p.m4, .bool p.m5, .bool p.dv, .bool p.sy, .bool p.fe, C.lst (Sh.int .i64) p.st, .int .i64 p.de, .int .i64 p.sf]), some (Blk.arr 23 (Sh.pair (Sh.int .i64) (Sh.pair (Sh.int .i64) (Sh.pair (Sh.int .i64) (Sh.int .i64)))) t)]))
          .no)
        .no)
      .no)
    (.leaf (Ex.exit 0) [] []))
def T_params_Check_0 : List V → List (Option Blk) → LT := fun vs bl => (pO vs fun c' vs => kP 0 0 c' <| pO vs fun c' vs => kP 1 0 c' <| pO vs fun c' vs => kR 2 c' <| pO vs fun c' vs => kI c' fun n => pO vs fun c' vs => kI c' fun i => pE vs <| bB bl fun q' bl => rdHd q' fun h => bB bl fun q' bl => rdPm q' fun p => bAR 23 bl fun t bl => bE bl <| some (U_params_Check_0 h p t n i)).getD .no
theorem tu_params_Check_0 (h : Hd) (p : Pm) (t : List Rc) (n i : Int) : T_params_Check_0 [.one (.ptr 0 0), .one (.ptr 1 0), .one (.row 2), .one (.int .i64 n), .one (.int .i64 i)] [some (.box (hdC h)), some (.box (pmC p)), some (.arr 23 (.pair (.int .i64) (.pair (.int .i64) (.pair (.int .i64) (.int .i64)))) t)] = U_params_Check_0 h p t n i := by kernel_rfl
theorem b_params_Check_0 (h : Hd) (p : Pm) (t : List Rc) (n i : Int) (Kc : Ex → Option (List V × List (Option Blk)) → Option Out) : exec Try.prog t_params_Check (annOf []) l_params_Check 20 0 (loopOf Try.f14 0) (unp 54 [2, 3, 42, 43, 44] [.one (.ptr 0 0), .one (.ptr 1 0), .one (.row 2), .one (.int .i64 n), .one (.int .i64 i)] [some (.box (hdC h)), some (.box (pmC p)), some (.arr 23 (.pair (.int .i64) (.pair (.int .i64) (.pair (.int .i64) (.int .i64)))) t)]) (endc 0 54 [2, 3, 42, 43, 44] (kxOf [] [4]) Kc) =
  (T_params_Check_0 [.one (.ptr 0 0), .one (.ptr 1 0), .one (.row 2), .one (.int .i64 n), .one (.int .i64 i)] [some (.box (hdC h)), some (.box (pmC p)), some (.arr 23 (.pair (.int .i64) (.pair (.int .i64) (.pair (.int .i64) (.int .i64)))) t)]).runc Kc := by kernel_rfl
def t_ref23_Check : FuncId → Option Summ := tabOf [(12, G_ref23_Header), (44, G_ref23_kinds), (45, G_ref23_numbers), (46, G_ref01_Cells), (47, G_ref23_Packets), (48, G_ref23_Blocks)]
def l_ref23_Check : Nat → Option LSumm := ltOf [(13, ⟨0, 79, [2, 3, 6, 7], (kxOf [] [4]), S_ref23_Check_0⟩)]
theorem e_ref23_Check (h : Hd) (p : Pm) : funR Try.prog t_ref23_Check (annOf []) l_ref23_Check 20 Try.f15 [.agg (hdC h), .agg (pmC p)] [] =
  (ite2 (small (List.length h.cs))
  (ite2 (header h != 0)
    (some ⟨.one (.int .i64 (header h)), [], []⟩)
    (ite2 (!kinds p)
      (some ⟨.one (.int .i64 3), [], []⟩)
      (ite2 (small (List.length p.pr) && small (List.length p.st))
        (ite2 (!nums p)
          (some ⟨.one (.int .i64 13), [], []⟩)
          (ite2 (p.co != 0)
            (ite2 (decide ((↑(List.length h.cs) : Int) < 3))
              (some ⟨.one (.int .i64 13), [], []⟩)
              (ite2 (decide ((0 : Int) ≤ 0 ∧ 0 < (↑(List.length h.cs) : Int)))
                (ite2 (decide ((0 : Int) ≤ 1 ∧ 1 < (↑(List.length h.cs) : Int)))
                  (ite2 (!((gC h.cs 0).fst == (gC h.cs 1).fst && ((gC h.cs 0).snd.fst == (gC h.cs 1).snd.fst && ((gC h.cs 0).snd.snd.fst == (gC h.cs 1).snd.snd.fst && ((gC h.cs 0).snd.snd.snd == (gC h.cs 1).snd.snd.snd && true)))))
                    (some ⟨.one (.int .i64 13), [], []⟩)
                    (ite2 (decide ((0 : Int) ≤ 0 ∧ 0 < (↑(List.length h.cs) : Int)))
                      (ite2 (decide ((0 : Int) ≤ 2 ∧ 2 < (↑(List.length h.cs) : Int)))
                        (ite2 (!((gC h.cs 0).fst == (gC h.cs 2).fst && ((gC h.cs 0).snd.fst == (gC h.cs 2).snd.fst && ((gC h.cs 0).snd.snd.fst == (gC h.cs 2).snd.snd.fst && ((gC h.cs 0).snd.snd.snd == (gC h.cs 2).snd.snd.snd && true)))))
                          (some ⟨.one (.int .i64 13), [], []⟩)
                          (ite2 (decide (h.tw ≤ 4096) && decide (h.th ≤ 4096))
                            (ite2 (k_ref23_Check_0 h p (tilesL h.a h.b h.c h.d h.tw h.th) 0)
                              (ite2 (p_ref23_Check_0 h p (tilesL h.a h.b h.c h.d h.tw h.th))
                                (some ⟨.one (.int .i64 0), [], []⟩)
                                (some ⟨.one (.int .i64 5), [], []⟩))
                              none)
                            none))
                        none)
                      none))
                  none)
                none))
            (ite2 (decide (h.tw ≤ 4096) && decide (h.th ≤ 4096))
              (ite2 (k_ref23_Check_0 h p (tilesL h.a h.b h.c h.d h.tw h.th) 0)
                (ite2 (p_ref23_Check_0 h p (tilesL h.a h.b h.c h.d h.tw h.th))
                  (some ⟨.one (.int .i64 0), [], []⟩)
                  (some ⟨.one (.int .i64 5), [], []⟩))
                none)
              none)))
        none)))
  none) := by kernel_rfl
def U_ref23_Check_0 (h : Hd) (p : Pm) (t : List Rc) (i : Int) : LT :=
  (.br (decide (i < (↑(List.length t) : Int)))
    (.br (decide (0 ≤ i ∧ i < (↑(List.length t) : Int)))
      (.br (decide (Int.toNat i < List.length t))
        (.br (nums p && valid (gR t (Int.toNat i)).fst (gR t (Int.toNat i)).snd.fst (gR t (Int.toNat i)).snd.snd.fst (gR t (Int.toNat i)).snd.snd.snd && decide (List.length h.cs ≤ 4))
          (.br (decide (packs ((gR t (Int.toNat i)).fst, (gR t (Int.toNat i)).snd.fst, (gR t (Int.toNat i)).snd.snd.fst, (gR t (Int.toNat i)).snd.snd.snd) p h.cs > 65536))
            (.leaf Ex.ret [.one (.int .i64 5)] [])
            (.br (decide (0 ≤ i ∧ i < (↑(List.length t) : Int)))
              (.br (decide (Int.toNat i < List.length t))
                (.br (nums p && valid (gR t (Int.toNat i)).fst (gR t (Int.toNat i)).snd.fst (gR t (Int.toNat i)).snd.snd.fst (gR t (Int.toNat i)).snd.snd.snd && decide (List.length h.cs ≤ 4))
                  (.br (decide (blks ((gR t (Int.toNat i)).fst, (gR t (Int.toNat i)).snd.fst, (gR t (Int.toNat i)).snd.snd.fst, (gR t (Int.toNat i)).snd.snd.snd) p h.cs > 65536))
                    (.leaf Ex.ret [.one (.int .i64 5)] [])
                    (.leaf Ex.normal [V.one (C.ptr 0 0), V.one (C.ptr 1 0), V.one (C.row 2), .one (.int .i64 (IntKind.wrap .i64 (i + 1)))] [some (Blk.box [.int .i64 h.a, .int .i64 h.b, .int .i64 h.c, .int .i64 h.d, .int .i64 h.tw, .int .i64 h.th, C.lst (Sh.pair (Sh.int .i64) (Sh.pair Sh.bool (Sh.pair (Sh.int .i64) (Sh.int .i64)))) h.cs]), some (Blk.box [.int .i64 p.ke, .int .i64 p.le, .int .i64 p.co, .int .i64 p.bx, .int .i64 p.bw, C.lst (Sh.pair (Sh.int .i64) (Sh.int .i64)) p.pr, .int .i64 p.od, .int .i64 p.la, .bool p.m1, .bool p.m2, .bool p.m3, .bool p.m4, .bool p.m5, .bool p.dv, .bool p.sy, .bool p.fe, C.lst (Sh.int .i64) p.st, .int .i64 p.de, .int .i64 p.sf]), some (Blk.arr 23 (Sh.pair (Sh.int .i64) (Sh.pair (Sh.int .i64) (Sh.pair (Sh.int .i64) (Sh.int .i64)))) t)]))
                  .no)
                .no)
              .no))
          .no)
        .no)
      .no)
    (.leaf (Ex.exit 0) [] []))
def T_ref23_Check_0 : List V → List (Option Blk) → LT := fun vs bl => (pO vs fun c' vs => kP 0 0 c' <| pO vs fun c' vs => kP 1 0 c' <| pO vs fun c' vs => kR 2 c' <| pO vs fun c' vs => kI c' fun i => pE vs <| bB bl fun q' bl => rdHd q' fun h => bB bl fun q' bl => rdPm q' fun p => bAR 23 bl fun t bl => bE bl <| some (U_ref23_Check_0 h p t i)).getD .no
theorem tu_ref23_Check_0 (h : Hd) (p : Pm) (t : List Rc) (i : Int) : T_ref23_Check_0 [.one (.ptr 0 0), .one (.ptr 1 0), .one (.row 2), .one (.int .i64 i)] [some (.box (hdC h)), some (.box (pmC p)), some (.arr 23 (.pair (.int .i64) (.pair (.int .i64) (.pair (.int .i64) (.int .i64)))) t)] = U_ref23_Check_0 h p t i := by kernel_rfl
theorem b_ref23_Check_0 (h : Hd) (p : Pm) (t : List Rc) (i : Int) (Kc : Ex → Option (List V × List (Option Blk)) → Option Out) : exec Try.prog t_ref23_Check (annOf []) l_ref23_Check 20 0 (loopOf Try.f15 0) (unp 79 [2, 3, 6, 7] [.one (.ptr 0 0), .one (.ptr 1 0), .one (.row 2), .one (.int .i64 i)] [some (.box (hdC h)), some (.box (pmC p)), some (.arr 23 (.pair (.int .i64) (.pair (.int .i64) (.pair (.int .i64) (.int .i64)))) t)]) (endc 0 79 [2, 3, 6, 7] (kxOf [] [4]) Kc) =
  (T_ref23_Check_0 [.one (.ptr 0 0), .one (.ptr 1 0), .one (.row 2), .one (.int .i64 i)] [some (.box (hdC h)), some (.box (pmC p)), some (.arr 23 (.pair (.int .i64) (.pair (.int .i64) (.pair (.int .i64) (.int .i64)))) t)]).runc Kc := by kernel_rfl
end
end Go.Rx.Ch23
