/- Each function, run by the executor: an equation. -/
import Derived.Test.YtnhjhjkhfdlapaaRG
import Derived.Test.YtnhjhjkhfdlapaaProg
import Derived.KernelRfl
set_option linter.unnecessarySimpa false
set_option linter.unusedVariables false
set_option linter.unusedSimpArgs false
set_option linter.unusedVariables false
set_option maxRecDepth 100000
set_option maxHeartbeats 4000000
open Go Go.Rx Go.Proofs
namespace Go.Rx.Ch24
noncomputable section
def t_LayoutPartitions : FuncId → Option Summ := tabOf [(8, G_law_small), (9, G_awake), (10, G_lay_Tiles), (12, G_lay_Component), (23, G_lay_All), (25, G_params_Check), (27, G_rect_Has), (28, G_pyr_Band), (29, G_rect_Contains), (30, G_rect_Area)]
def l_LayoutPartitions : Nat → Option LSumm := ltOf [(7, ⟨0, 202, [3, 4, 5, 7, 8, 9, 36, 37], (kxOf [3, 4, 5, 7, 8, 9] [6]), S_LayoutPartitions_0⟩), (20, ⟨0, 202, [4, 5, 7, 8, 11, 12, 112, 113, 114], (kxOf [7, 8, 11, 12] [6]), S_LayoutPartitions_1⟩)]
theorem e_LayoutPartitions (h : Hd) (p : Pm) (t c s b i : Int) : funR Try.prog t_LayoutPartitions (annOf []) l_LayoutPartitions 20 Try.f7 [.agg (hdC h), .agg (pmC p), .agg [.int .i64 t, .int .i64 c, .int .i64 s, .int .i64 b, .int .i64 i]] [] =
  (ite2 (!smallB h p)
  (some ⟨.one (.bool true), [], []⟩)
  (ite2 (small (List.length h.cs) && (small (List.length p.pr) && small (List.length p.st)))
    (ite2 (checkA h p != 0)
      (some ⟨.one (.bool true), [], []⟩)
      (ite2 (small (List.length h.cs))
        (ite2 (k_LayoutPartitions_0 h p t c s b i s i 0 (↑(List.length (tilesH h)) : Int) 0 (tilesH h))
          (ite2 (!(cntT (tilesH h) s i == 1) == has h.a h.b h.c h.d s i)
            (some ⟨.one (.bool false), [], []⟩)
            (ite2 (decide (cntT (tilesH h) s i > 1))
              (some ⟨.one (.bool false), [], []⟩)
              (ite2 (decide (t < 0))
                (some ⟨.one (.bool true), [], []⟩)
                (ite2 (decide (t ≥ (↑(List.length (tilesH h)) : Int)))
                  (some ⟨.one (.bool true), [], []⟩)
                  (ite2 (decide (c < 0))
                    (some ⟨.one (.bool true), [], []⟩)
                    (ite2 (decide (c ≥ (↑(List.length h.cs) : Int)))
                      (some ⟨.one (.bool true), [], []⟩)
                      (ite2 (decide (b < 0))
                        (some ⟨.one (.bool true), [], []⟩)
                        (ite2 (decide (b > IntKind.wrap .i64 (3 * p.le)))
                          (some ⟨.one (.bool true), [], []⟩)
                          (ite2 (small (List.length h.cs))
                            (ite2 (small (List.length h.cs) && (small (List.length p.pr) && small (List.length p.st)))
                              (ite2 (k_LayoutPartitions_1 p t c s b i s i 0 (bandR (compT h t c).fst (compT h t c).snd.fst (compT h t c).snd.snd.fst (compT h t c).snd.snd.snd p.le b).fst (bandR (compT h t c).fst (compT h t c).snd.fst (compT h t c).snd.snd.fst (compT h t c).snd.snd.snd p.le b).snd.fst (bandR (compT h t c).fst (compT h t c).snd.fst (compT h t c).snd.snd.fst (compT h t c).snd.snd.snd p.le b).snd.snd.fst (bandR (compT h t c).fst (compT h t c).snd.fst (compT h t c).snd.snd.fst (compT h t c).snd.snd.snd p.le b).snd.snd.snd 0 (↑(List.length (allL h p t)) : Int) 0 (allL h p t))
                                (ite2 (sumE (allL h p t) c b == area (bandR (compT h t c).fst (compT h t c).snd.fst (compT h t c).snd.snd.fst (compT h t c).snd.snd.snd p.le b).fst (bandR (compT h t c).fst (compT h t c).snd.fst (compT h t c).snd.snd.fst (compT h t c).snd.snd.snd p.le b).snd.fst (bandR (compT h t c).fst (compT h t c).snd.fst (compT h t c).snd.snd.fst (compT h t c).snd.snd.snd p.le b).snd.snd.fst (bandR (compT h t c).fst (compT h t c).snd.fst (compT h t c).snd.snd.fst (compT h t c).snd.snd.snd p.le b).snd.snd.snd)
                                  (ite2 ((cntE (allL h p t) s i c b == 1) == has (bandR (compT h t c).fst (compT h t c).snd.fst (compT h t c).snd.snd.fst (compT h t c).snd.snd.snd p.le b).fst (bandR (compT h t c).fst (compT h t c).snd.fst (compT h t c).snd.snd.fst (compT h t c).snd.snd.snd p.le b).snd.fst (bandR (compT h t c).fst (compT h t c).snd.fst (compT h t c).snd.snd.fst (compT h t c).snd.snd.snd p.le b).snd.snd.fst (bandR (compT h t c).fst (compT h t c).snd.fst (compT h t c).snd.snd.fst (compT h t c).snd.snd.snd p.le b).snd.snd.snd s i)
                                    (ite2 (decide (cntE (allL h p t) s i c b ≤ 1))
                                      (some ⟨.one (.bool true), [], []⟩)
                                      (some ⟨.one (.bool false), [], []⟩))
                                    (some ⟨.one (.bool false), [], []⟩))
                                  (some ⟨.one (.bool false), [], []⟩))
                                none)
                              none)
                            none)))))))))
          none)
        none))
    none)) := by kernel_rfl
def U_LayoutPartitions_0 (h : Hd) (p : Pm) (t c s b i x z q n j: Int) (v : List Rc) : LT :=
  (.br (decide (j < n))
    (.br (decide (0 ≤ j ∧ j < (↑(List.length v) : Int)))
      (.br (decide (Int.toNat j < List.length v))
        (.br (has (gR v (Int.toNat j)).fst (gR v (Int.toNat j)).snd.fst (gR v (Int.toNat j)).snd.snd.fst (gR v (Int.toNat j)).snd.snd.snd x z)
          (.leaf Ex.normal [V.one (C.ptr 0 0), V.one (C.ptr 1 0), V.one (C.ptr 2 0), V.one (C.ptr 3 0), .one (.int .i64 (IntKind.wrap .i64 (q + 1))), V.one (C.row 4), .one (.int .i64 n), .one (.int .i64 (IntKind.wrap .i64 (j + 1)))] [some (Blk.box [.int .i64 h.a, .int .i64 h.b, .int .i64 h.c, .int .i64 h.d, .int .i64 h.tw, .int .i64 h.th, C.lst (Sh.pair (Sh.int .i64) (Sh.pair Sh.bool (Sh.pair (Sh.int .i64) (Sh.int .i64)))) h.cs]), some (Blk.box [.int .i64 p.ke, .int .i64 p.le, .int .i64 p.co, .int .i64 p.bx, .int .i64 p.bw, C.lst (Sh.pair (Sh.int .i64) (Sh.int .i64)) p.pr, .int .i64 p.od, .int .i64 p.la, .bool p.m1, .bool p.m2, .bool p.m3, .bool p.m4, .bool p.m5, .bool p.dv, .bool p.sy, .bool p.fe, C.lst (Sh.int .i64) p.st, .int .i64 p.de, .int .i64 p.sf]), some (Blk.box [.int .i64 t, .int .i64 c, .int .i64 s, .int .i64 b, .int .i64 i]), some (Blk.box [.int .i64 x, .int .i64 z]), some (Blk.arr 23 (Sh.pair (Sh.int .i64) (Sh.pair (Sh.int .i64) (Sh.pair (Sh.int .i64) (Sh.int .i64)))) v)])
          (.leaf Ex.normal [V.one (C.ptr 0 0), V.one (C.ptr 1 0), V.one (C.ptr 2 0), V.one (C.ptr 3 0), .one (.int .i64 q), V.one (C.row 4), .one (.int .i64 n), .one (.int .i64 (IntKind.wrap .i64 (j + 1)))] [some (Blk.box [.int .i64 h.a, .int .i64 h.b, .int .i64 h.c, .int .i64 h.d, .int .i64 h.tw, .int .i64 h.th, C.lst (Sh.pair (Sh.int .i64) (Sh.pair Sh.bool (Sh.pair (Sh.int .i64) (Sh.int .i64)))) h.cs]), some (Blk.box [.int .i64 p.ke, .int .i64 p.le, .int .i64 p.co, .int .i64 p.bx, .int .i64 p.bw, C.lst (Sh.pair (Sh.int .i64) (Sh.int .i64)) p.pr, .int .i64 p.od, .int .i64 p.la, .bool p.m1, .bool p.m2, .bool p.m3, .bool p.m4, .bool p.m5, .bool p.dv, .bool p.sy, .bool p.fe, C.lst (Sh.int .i64) p.st, .int .i64 p.de, .int .i64 p.sf]), some (Blk.box [.int .i64 t, .int .i64 c, .int .i64 s, .int .i64 b, .int .i64 i]), some (Blk.box [.int .i64 x, .int .i64 z]), some (Blk.arr 23 (Sh.pair (Sh.int .i64) (Sh.pair (Sh.int .i64) (Sh.pair (Sh.int .i64) (Sh.int .i64)))) v)]))
        .no)
      .no)
    (.leaf (Ex.exit 0) [V.one (C.ptr 0 0), V.one (C.ptr 1 0), V.one (C.ptr 2 0), V.one (C.ptr 3 0), .one (.int .i64 q), V.one (C.row 4)] [some (Blk.box [.int .i64 h.a, .int .i64 h.b, .int .i64 h.c, .int .i64 h.d, .int .i64 h.tw, .int .i64 h.th, C.lst (Sh.pair (Sh.int .i64) (Sh.pair Sh.bool (Sh.pair (Sh.int .i64) (Sh.int .i64)))) h.cs]), some (Blk.box [.int .i64 p.ke, .int .i64 p.le, .int .i64 p.co, .int .i64 p.bx, .int .i64 p.bw, C.lst (Sh.pair (Sh.int .i64) (Sh.int .i64)) p.pr, .int .i64 p.od, .int .i64 p.la, .bool p.m1, .bool p.m2, .bool p.m3, .bool p.m4, .bool p.m5, .bool p.dv, .bool p.sy, .bool p.fe, C.lst (Sh.int .i64) p.st, .int .i64 p.de, .int .i64 p.sf]), some (Blk.box [.int .i64 t, .int .i64 c, .int .i64 s, .int .i64 b, .int .i64 i]), some (Blk.box [.int .i64 x, .int .i64 z]), some (Blk.arr 23 (Sh.pair (Sh.int .i64) (Sh.pair (Sh.int .i64) (Sh.pair (Sh.int .i64) (Sh.int .i64)))) v)]))
def T_LayoutPartitions_0 : List V → List (Option Blk) → LT := fun vs bl => (pO vs fun c' vs => kP 0 0 c' <| pO vs fun c' vs => kP 1 0 c' <| pO vs fun c' vs => kP 2 0 c' <| pO vs fun c' vs => kP 3 0 c' <| pO vs fun c' vs => kI c' fun q => pO vs fun c' vs => kR 4 c' <| pO vs fun c' vs => kI c' fun n => pO vs fun c' vs => kI c' fun j => pE vs <| bB bl fun q' bl => rdHd q' fun h => bB bl fun q' bl => rdPm q' fun p => bB bl fun q' bl => tC q' fun c' q' => kI c' fun t => tC q' fun c' q' => kI c' fun c => tC q' fun c' q' => kI c' fun s => tC q' fun c' q' => kI c' fun b => tC q' fun c' q' => kI c' fun i => tE q' <| bB bl fun q' bl => tC q' fun c' q' => kI c' fun x => tC q' fun c' q' => kI c' fun z => tE q' <| bAR 23 bl fun v bl => bE bl <| some (U_LayoutPartitions_0 h p t c s b i x z q n j v)).getD .no
theorem tu_LayoutPartitions_0 (h : Hd) (p : Pm) (t c s b i x z q n j: Int) (v : List Rc) : T_LayoutPartitions_0 [.one (.ptr 0 0), .one (.ptr 1 0), .one (.ptr 2 0), .one (.ptr 3 0), .one (.int .i64 q), .one (.row 4), .one (.int .i64 n), .one (.int .i64 j)] [some (.box (hdC h)), some (.box (pmC p)), some (.box [.int .i64 t, .int .i64 c, .int .i64 s, .int .i64 b, .int .i64 i]), some (.box [.int .i64 x, .int .i64 z]), some (.arr 23 (.pair (.int .i64) (.pair (.int .i64) (.pair (.int .i64) (.int .i64)))) v)] = U_LayoutPartitions_0 h p t c s b i x z q n j v := by kernel_rfl
theorem b_LayoutPartitions_0 (h : Hd) (p : Pm) (t c s b i x z q n j: Int) (v : List Rc) (Kc : Ex → Option (List V × List (Option Blk)) → Option Out) : exec Try.prog t_LayoutPartitions (annOf []) l_LayoutPartitions 20 0 (loopOf Try.f7 0) (unp 202 [3, 4, 5, 7, 8, 9, 36, 37] [.one (.ptr 0 0), .one (.ptr 1 0), .one (.ptr 2 0), .one (.ptr 3 0), .one (.int .i64 q), .one (.row 4), .one (.int .i64 n), .one (.int .i64 j)] [some (.box (hdC h)), some (.box (pmC p)), some (.box [.int .i64 t, .int .i64 c, .int .i64 s, .int .i64 b, .int .i64 i]), some (.box [.int .i64 x, .int .i64 z]), some (.arr 23 (.pair (.int .i64) (.pair (.int .i64) (.pair (.int .i64) (.int .i64)))) v)]) (endc 0 202 [3, 4, 5, 7, 8, 9, 36, 37] (kxOf [3, 4, 5, 7, 8, 9] [6]) Kc) =
  (T_LayoutPartitions_0 [.one (.ptr 0 0), .one (.ptr 1 0), .one (.ptr 2 0), .one (.ptr 3 0), .one (.int .i64 q), .one (.row 4), .one (.int .i64 n), .one (.int .i64 j)] [some (.box (hdC h)), some (.box (pmC p)), some (.box [.int .i64 t, .int .i64 c, .int .i64 s, .int .i64 b, .int .i64 i]), some (.box [.int .i64 x, .int .i64 z]), some (.arr 23 (.pair (.int .i64) (.pair (.int .i64) (.pair (.int .i64) (.int .i64)))) v)]).runc Kc := by kernel_rfl
def U_LayoutPartitions_1 (p : Pm) (t c s b i x z q e f g o u n j : Int) (v : List Bk) : LT :=
  (.br (decide (j < n))
    (.br (decide (0 ≤ j ∧ j < (↑(List.length v) : Int)))
      (.br (decide (Int.toNat j < List.length v))
        (.br ((gK v (Int.toNat j)).fst != c)
          (.leaf Ex.normal [V.one (C.ptr 0 0), V.one (C.ptr 1 0), V.one (C.ptr 2 0), .one (.int .i64 q), V.one (C.ptr 3 0), .one (.int .i64 u), V.one (C.row 4), .one (.int .i64 n), .one (.int .i64 (IntKind.wrap .i64 (j + 1)))] [some (Blk.box [.int .i64 p.ke, .int .i64 p.le, .int .i64 p.co, .int .i64 p.bx, .int .i64 p.bw, C.lst (Sh.pair (Sh.int .i64) (Sh.int .i64)) p.pr, .int .i64 p.od, .int .i64 p.la, .bool p.m1, .bool p.m2, .bool p.m3, .bool p.m4, .bool p.m5, .bool p.dv, .bool p.sy, .bool p.fe, C.lst (Sh.int .i64) p.st, .int .i64 p.de, .int .i64 p.sf]), some (Blk.box [.int .i64 t, .int .i64 c, .int .i64 s, .int .i64 b, .int .i64 i]), some (Blk.box [.int .i64 x, .int .i64 z]), some (Blk.box [.int .i64 e, .int .i64 f, .int .i64 g, .int .i64 o]), some (Blk.arr 65 (Sh.pair (Sh.int .i64) (Sh.pair (Sh.int .i64) (Sh.pair (Sh.int .i64) (Sh.pair (Sh.int .i64) (Sh.pair (Sh.int .i64) (Sh.pair (Sh.int .i64) (Sh.pair (Sh.int .i64) (Sh.pair (Sh.int .i64) (Sh.int .i64))))))))) v)])
          (.br ((gK v (Int.toNat j)).snd.snd.fst != b)
            (.leaf Ex.normal [V.one (C.ptr 0 0), V.one (C.ptr 1 0), V.one (C.ptr 2 0), .one (.int .i64 q), V.one (C.ptr 3 0), .one (.int .i64 u), V.one (C.row 4), .one (.int .i64 n), .one (.int .i64 (IntKind.wrap .i64 (j + 1)))] [some (Blk.box [.int .i64 p.ke, .int .i64 p.le, .int .i64 p.co, .int .i64 p.bx, .int .i64 p.bw, C.lst (Sh.pair (Sh.int .i64) (Sh.int .i64)) p.pr, .int .i64 p.od, .int .i64 p.la, .bool p.m1, .bool p.m2, .bool p.m3, .bool p.m4, .bool p.m5, .bool p.dv, .bool p.sy, .bool p.fe, C.lst (Sh.int .i64) p.st, .int .i64 p.de, .int .i64 p.sf]), some (Blk.box [.int .i64 t, .int .i64 c, .int .i64 s, .int .i64 b, .int .i64 i]), some (Blk.box [.int .i64 x, .int .i64 z]), some (Blk.box [.int .i64 e, .int .i64 f, .int .i64 g, .int .i64 o]), some (Blk.arr 65 (Sh.pair (Sh.int .i64) (Sh.pair (Sh.int .i64) (Sh.pair (Sh.int .i64) (Sh.pair (Sh.int .i64) (Sh.pair (Sh.int .i64) (Sh.pair (Sh.int .i64) (Sh.pair (Sh.int .i64) (Sh.pair (Sh.int .i64) (Sh.int .i64))))))))) v)])
            (.br (!contains e f g o (gK v (Int.toNat j)).snd.snd.snd.snd.snd.fst (gK v (Int.toNat j)).snd.snd.snd.snd.snd.snd.fst (gK v (Int.toNat j)).snd.snd.snd.snd.snd.snd.snd.fst (gK v (Int.toNat j)).snd.snd.snd.snd.snd.snd.snd.snd)
              (.leaf Ex.ret [.one (.bool false)] [])
              (.br (decide (IntKind.wrap .i64 ((gK v (Int.toNat j)).snd.snd.snd.snd.snd.snd.snd.fst - (gK v (Int.toNat j)).snd.snd.snd.snd.snd.fst) < 1))
                (.leaf Ex.ret [.one (.bool false)] [])
                (.br (decide (IntKind.wrap .i64 ((gK v (Int.toNat j)).snd.snd.snd.snd.snd.snd.snd.snd - (gK v (Int.toNat j)).snd.snd.snd.snd.snd.snd.fst) < 1))
                  (.leaf Ex.ret [.one (.bool false)] [])
                  (.br (decide (0 ≤ p.bx))
                    (.br (decide (IntKind.wrap .i64 ((gK v (Int.toNat j)).snd.snd.snd.snd.snd.snd.snd.fst - (gK v (Int.toNat j)).snd.snd.snd.snd.snd.fst) > IntKind.wrap .i64 (1 * 2 ^ min (Int.toNat p.bx) 64)))
                      (.leaf Ex.ret [.one (.bool false)] [])
                      (.br (decide (0 ≤ p.bw))
                        (.br (decide (IntKind.wrap .i64 ((gK v (Int.toNat j)).snd.snd.snd.snd.snd.snd.snd.snd - (gK v (Int.toNat j)).snd.snd.snd.snd.snd.snd.fst) > IntKind.wrap .i64 (1 * 2 ^ min (Int.toNat p.bw) 64)))
                          (.leaf Ex.ret [.one (.bool false)] [])
                          (.br (has (gK v (Int.toNat j)).snd.snd.snd.snd.snd.fst (gK v (Int.toNat j)).snd.snd.snd.snd.snd.snd.fst (gK v (Int.toNat j)).snd.snd.snd.snd.snd.snd.snd.fst (gK v (Int.toNat j)).snd.snd.snd.snd.snd.snd.snd.snd x z)
                            (.leaf Ex.normal [V.one (C.ptr 0 0), V.one (C.ptr 1 0), V.one (C.ptr 2 0), .one (.int .i64 (IntKind.wrap .i64 (q + 1))), V.one (C.ptr 3 0), .one (.int .i64 (IntKind.wrap .i64 (u + IntKind.wrap .i64 (IntKind.wrap .i64 ((gK v (Int.toNat j)).snd.snd.snd.snd.snd.snd.snd.fst - (gK v (Int.toNat j)).snd.snd.snd.snd.snd.fst) * IntKind.wrap .i64 ((gK v (Int.toNat j)).snd.snd.snd.snd.snd.snd.snd.snd - (gK v (Int.toNat j)).snd.snd.snd.snd.snd.snd.fst))))), V.one (C.row 4), .one (.int .i64 n), .one (.int .i64 (IntKind.wrap .i64 (j + 1)))] [some (Blk.box [.int .i64 p.ke, .int .i64 p.le, .int .i64 p.co, .int .i64 p.bx, .int .i64 p.bw, C.lst (Sh.pair (Sh.int .i64) (Sh.int .i64)) p.pr, .int .i64 p.od, .int .i64 p.la, .bool p.m1, .bool p.m2, .bool p.m3, .bool p.m4, .bool p.m5, .bool p.dv, .bool p.sy, .bool p.fe, C.lst (Sh.int .i64) p.st, .int .i64 p.de, .int .i64 p.sf]), some (Blk.box [.int .i64 t, .int .i64 c, .int .i64 s, .int .i64 b, .int .i64 i]), some (Blk.box [.int .i64 x, .int .i64 z]), some (Blk.box [.int .i64 e, .int .i64 f, .int .i64 g, .int .i64 o]), some (Blk.arr 65 (Sh.pair (Sh.int .i64) (Sh.pair (Sh.int .i64) (Sh.pair (Sh.int .i64) (Sh.pair (Sh.int .i64) (Sh.pair (Sh.int .i64) (Sh.pair (Sh.int .i64) (Sh.pair (Sh.int .i64) (Sh.pair (Sh.int .i64) (Sh.int .i64))))))))) v)])
                            (.leaf Ex.normal [V.one (C.ptr 0 0), V.one (C.ptr 1 0), V.one (C.ptr 2 0), .one (.int .i64 q), V.one (C.ptr 3 0), .one (.int .i64 (IntKind.wrap .i64 (u + IntKind.wrap .i64 (IntKind.wrap .i64 ((gK v (Int.toNat j)).snd.snd.snd.snd.snd.snd.snd.fst - (gK v (Int.toNat j)).snd.snd.snd.snd.snd.fst) * IntKind.wrap .i64 ((gK v (Int.toNat j)).snd.snd.snd.snd.snd.snd.snd.snd - (gK v (Int.toNat j)).snd.snd.snd.snd.snd.snd.fst))))), V.one (C.row 4), .one (.int .i64 n), .one (.int .i64 (IntKind.wrap .i64 (j + 1)))] [some (Blk.box [.int .i64 p.ke, .int .i64 p.le, .int .i64 p.co, .int .i64 p.bx, .int .i64 p.bw, C.lst (Sh.pair (Sh.int .i64) (Sh.int .i64)) p.pr, .int .i64 p.od, .int .i64 p.la, .bool p.m1, .bool p.m2, .bool p.m3, .bool p.m4, .bool p.m5, .bool p.dv, .bool p.sy, .bool p.fe, C.lst (Sh.int .i64) p.st, .int .i64 p.de, .int .i64 p.sf]), some (Blk.box [.int .i64 t, .int .i64 c, .int .i64 s, .int .i64 b, .int .i64 i]), some (Blk.box [.int .i64 x, .int .i64 z]), some (Blk.box [.int .i64 e, .int .i64 f, .int .i64 g, .int .i64 o]), some (Blk.arr 65 (Sh.pair (Sh.int .i64) (Sh.pair (Sh.int .i64) (Sh.pair (Sh.int .i64) (Sh.pair (Sh.int .i64) (Sh.pair (Sh.int .i64) (Sh.pair (Sh.int .i64) (Sh.pair (Sh.int .i64) (Sh.pair (Sh.int .i64) (Sh.int .i64))))))))) v)])))
                        .no))
                    .no))))))
        .no)
      .no)
    (.leaf (Ex.exit 2) [V.one (C.ptr 0 0), .one (.int .i64 q), V.one (C.ptr 1 0), .one (.int .i64 u)] [some (Blk.box [.int .i64 x, .int .i64 z]), some (Blk.box [.int .i64 e, .int .i64 f, .int .i64 g, .int .i64 o])]))
def T_LayoutPartitions_1 : List V → List (Option Blk) → LT := fun vs bl => (pO vs fun c' vs => kP 0 0 c' <| pO vs fun c' vs => kP 1 0 c' <| pO vs fun c' vs => kP 2 0 c' <| pO vs fun c' vs => kI c' fun q => pO vs fun c' vs => kP 3 0 c' <| pO vs fun c' vs => kI c' fun u => pO vs fun c' vs => kR 4 c' <| pO vs fun c' vs => kI c' fun n => pO vs fun c' vs => kI c' fun j => pE vs <| bB bl fun q' bl => rdPm q' fun p => bB bl fun q' bl => tC q' fun c' q' => kI c' fun t => tC q' fun c' q' => kI c' fun c => tC q' fun c' q' => kI c' fun s => tC q' fun c' q' => kI c' fun b => tC q' fun c' q' => kI c' fun i => tE q' <| bB bl fun q' bl => tC q' fun c' q' => kI c' fun x => tC q' fun c' q' => kI c' fun z => tE q' <| bB bl fun q' bl => tC q' fun c' q' => kI c' fun e => tC q' fun c' q' => kI c' fun f => tC q' fun c' q' => kI c' fun g => tC q' fun c' q' => kI c' fun o => tE q' <| bAK 65 bl fun v bl => bE bl <| some (U_LayoutPartitions_1 p t c s b i x z q e f g o u n j v)).getD .no
theorem tu_LayoutPartitions_1 (p : Pm) (t c s b i x z q e f g o u n j : Int) (v : List Bk) : T_LayoutPartitions_1 [.one (.ptr 0 0), .one (.ptr 1 0), .one (.ptr 2 0), .one (.int .i64 q), .one (.ptr 3 0), .one (.int .i64 u), .one (.row 4), .one (.int .i64 n), .one (.int .i64 j)] [some (.box (pmC p)), some (.box [.int .i64 t, .int .i64 c, .int .i64 s, .int .i64 b, .int .i64 i]), some (.box [.int .i64 x, .int .i64 z]), some (.box [.int .i64 e, .int .i64 f, .int .i64 g, .int .i64 o]), some (.arr 65 (.pair (.int .i64) (.pair (.int .i64) (.pair (.int .i64) (.pair (.int .i64) (.pair (.int .i64) (.pair (.int .i64) (.pair (.int .i64) (.pair (.int .i64) (.int .i64))))))))) v)] = U_LayoutPartitions_1 p t c s b i x z q e f g o u n j v := by kernel_rfl
theorem b_LayoutPartitions_1 (p : Pm) (t c s b i x z q e f g o u n j : Int) (v : List Bk) (Kc : Ex → Option (List V × List (Option Blk)) → Option Out) : exec Try.prog t_LayoutPartitions (annOf []) l_LayoutPartitions 20 0 (loopOf Try.f7 1) (unp 202 [4, 5, 7, 8, 11, 12, 112, 113, 114] [.one (.ptr 0 0), .one (.ptr 1 0), .one (.ptr 2 0), .one (.int .i64 q), .one (.ptr 3 0), .one (.int .i64 u), .one (.row 4), .one (.int .i64 n), .one (.int .i64 j)] [some (.box (pmC p)), some (.box [.int .i64 t, .int .i64 c, .int .i64 s, .int .i64 b, .int .i64 i]), some (.box [.int .i64 x, .int .i64 z]), some (.box [.int .i64 e, .int .i64 f, .int .i64 g, .int .i64 o]), some (.arr 65 (.pair (.int .i64) (.pair (.int .i64) (.pair (.int .i64) (.pair (.int .i64) (.pair (.int .i64) (.pair (.int .i64) (.pair (.int .i64) (.pair (.int .i64) (.int .i64))))))))) v)]) (endc 0 202 [4, 5, 7, 8, 11, 12, 112, 113, 114] (kxOf [7, 8, 11, 12] [6]) Kc) =
  (T_LayoutPartitions_1 [.one (.ptr 0 0), .one (.ptr 1 0), .one (.ptr 2 0), .one (.int .i64 q), .one (.ptr 3 0), .one (.int .i64 u), .one (.row 4), .one (.int .i64 n), .one (.int .i64 j)] [some (.box (pmC p)), some (.box [.int .i64 t, .int .i64 c, .int .i64 s, .int .i64 b, .int .i64 i]), some (.box [.int .i64 x, .int .i64 z]), some (.box [.int .i64 e, .int .i64 f, .int .i64 g, .int .i64 o]), some (.arr 65 (.pair (.int .i64) (.pair (.int .i64) (.pair (.int .i64) (.pair (.int .i64) (.pair (.int .i64) (.pair (.int .i64) (.pair (.int .i64) (.pair (.int .i64) (.int .i64))))))))) v)]).runc Kc := by kernel_rfl
end
end Go.Rx.Ch24

