/- Each function, run by the executor: an equation. -/
import Derived.Test.YtmkifbcadobmjaaRG
import Derived.Test.YtmkifbcadobmjaaProg
import Derived.KernelRfl
set_option linter.unnecessarySimpa false
set_option linter.unusedVariables false
set_option linter.unusedSimpArgs false
set_option linter.unusedVariables false
set_option maxRecDepth 100000
set_option maxHeartbeats 4000000
open Go Go.Rx Go.Proofs
namespace Go.Rx.Ch23
noncomputable section
def t_ParamsBounds : FuncId → Option Summ := tabOf [(10, G_awake), (11, G_params_Header), (13, G_few_), (14, G_params_Check), (18, G_params_Planes), (22, G_rect_Cells), (23, G_rect_Empty), (24, G_rect_Contains), (25, G_rect_Area), (26, G_rect_Reduce)]
def l_ParamsBounds : Nat → Option LSumm := ltOf [(8, ⟨0, 115, [2, 3, 5, 6, 39, 40], (kxOf [2, 3, 6] [4]), S_ParamsBounds_0⟩), (15, ⟨0, 115, [2, 3, 6, 67, 68, 69], (kxOf [2, 3, 6] [4]), S_ParamsBounds_1⟩), (26, ⟨0, 115, [3, 100, 101], (kxOf [] [4]), S_ParamsBounds_2⟩)]
theorem e_ParamsBounds (h : Hd) (p : Pm) : funR Try.prog t_ParamsBounds (annOf []) l_ParamsBounds 20 Try.f6 [.agg (hdC h), .agg (pmC p)] [] =
  (ite2 (!few h p)
  (some ⟨.one (.bool true), [], []⟩)
  (ite2 (small (List.length h.cs))
    (ite2 (header h != 0)
      (some ⟨.one (.bool true), [], []⟩)
      (ite2 (decide (h.tw ≤ 4096) && decide (h.th ≤ 4096))
        (ite2 (decide ((↑(List.length (tilesL h.a h.b h.c h.d h.tw h.th)) : Int) < 1))
          (some ⟨.one (.bool false), [], []⟩)
          (ite2 (decide ((↑(List.length (tilesL h.a h.b h.c h.d h.tw h.th)) : Int) > 1024))
            (some ⟨.one (.bool false), [], []⟩)
            (ite2 (k_ParamsBounds_0 h p (tilesL h.a h.b h.c h.d h.tw h.th) 0 (↑(List.length (tilesL h.a h.b h.c h.d h.tw h.th)) : Int) 0)
              (ite2 (List.all (List.range (List.length (tilesL h.a h.b h.c h.d h.tw h.th))) fun k ↦ goodT { a := h.a, b := h.b, c := h.c, d := h.d, tw := h.tw, th := h.th, cs := h.cs } (gR (tilesL h.a h.b h.c h.d h.tw h.th) k))
                (ite2 (k_ParamsBounds_1 h p h.cs (sumA (tilesL h.a h.b h.c h.d h.tw h.th) (List.length (tilesL h.a h.b h.c h.d h.tw h.th))) (↑(List.length h.cs) : Int) 0)
                  (ite2 (p_ParamsBounds_1 h p h.cs (sumA (tilesL h.a h.b h.c h.d h.tw h.th) (List.length (tilesL h.a h.b h.c h.d h.tw h.th))))
                    (ite2 (sumA (tilesL h.a h.b h.c h.d h.tw h.th) (List.length (tilesL h.a h.b h.c h.d h.tw h.th)) != area h.a h.b h.c h.d)
                      (some ⟨.one (.bool false), [], []⟩)
                      (ite2 (small (List.length h.cs) && (small (List.length p.pr) && small (List.length p.st)))
                        (ite2 (checkA h p != 0)
                          (some ⟨.one (.bool true), [], []⟩)
                          (ite2 (k_ParamsBounds_2 p (↑(List.length p.st) : Int) 0)
                            (ite2 (p_ParamsBounds_2 p)
                              (some ⟨.one (.bool true), [], []⟩)
                              (some ⟨.one (.bool false), [], []⟩))
                            none))
                        none))
                    (some ⟨.one (.bool false), [], []⟩))
                  none)
                (some ⟨.one (.bool false), [], []⟩))
              none)))
        none))
    none)) := by kernel_rfl
def U_ParamsBounds_0 (h : Hd) (p : Pm) (t : List Rc) (s n i : Int) : LT :=
  (.br (decide (i < n))
    (.br (decide (0 ≤ i ∧ i < (↑(List.length t) : Int)))
      (.br (decide (Int.toNat i < List.length t))
        (.br (empty (gR t (Int.toNat i)).fst (gR t (Int.toNat i)).snd.fst (gR t (Int.toNat i)).snd.snd.fst (gR t (Int.toNat i)).snd.snd.snd)
          (.leaf Ex.ret [.one (.bool false)] [])
          (.br (decide (0 ≤ i ∧ i < (↑(List.length t) : Int)))
            (.br (decide (Int.toNat i < List.length t))
              (.br (!contains h.a h.b h.c h.d (gR t (Int.toNat i)).fst (gR t (Int.toNat i)).snd.fst (gR t (Int.toNat i)).snd.snd.fst (gR t (Int.toNat i)).snd.snd.snd)
                (.leaf Ex.ret [.one (.bool false)] [])
                (.br (decide (0 ≤ i ∧ i < (↑(List.length t) : Int)))
                  (.br (decide (Int.toNat i < List.length t))
                    (.leaf Ex.normal [V.one (C.ptr 0 0), V.one (C.ptr 1 0), V.one (C.row 2), .one (.int .i64 (IntKind.wrap .i64 (s + area (gR t (Int.toNat i)).fst (gR t (Int.toNat i)).snd.fst (gR t (Int.toNat i)).snd.snd.fst (gR t (Int.toNat i)).snd.snd.snd))), .one (.int .i64 n), .one (.int .i64 (IntKind.wrap .i64 (i + 1)))] [some (Blk.box [.int .i64 h.a, .int .i64 h.b, .int .i64 h.c, .int .i64 h.d, .int .i64 h.tw, .int .i64 h.th, C.lst (Sh.pair (Sh.int .i64) (Sh.pair Sh.bool (Sh.pair (Sh.int .i64) (Sh.int .i64)))) h.cs]), some (Blk.box [.int .i64 p.ke, .int .i64 p.le, .int .i64 p.co, .int .i64 p.bx, .int .i64 p.bw, C.lst (Sh.pair (Sh.int .i64) (Sh.int .i64)) p.pr, .int .i64 p.od, .int .i64 p.la, .bool p.m1, .bool p.m2, .bool p.m3, .bool p.m4, .bool p.m5, .bool p.dv, .bool p.sy, .bool p.fe, C.lst (Sh.int .i64) p.st, .int .i64 p.de, .int .i64 p.sf]), some (Blk.arr 23 (Sh.pair (Sh.int .i64) (Sh.pair (Sh.int .i64) (Sh.pair (Sh.int .i64) (Sh.int .i64)))) t)])
                    .no)
                  .no))
              .no)
            .no))
        .no)
      .no)
    (.leaf (Ex.exit 0) [V.one (C.ptr 0 0), V.one (C.ptr 1 0), .one (.int .i64 s)] [some (Blk.box [.int .i64 h.a, .int .i64 h.b, .int .i64 h.c, .int .i64 h.d, .int .i64 h.tw, .int .i64 h.th, C.lst (Sh.pair (Sh.int .i64) (Sh.pair Sh.bool (Sh.pair (Sh.int .i64) (Sh.int .i64)))) h.cs]), some (Blk.box [.int .i64 p.ke, .int .i64 p.le, .int .i64 p.co, .int .i64 p.bx, .int .i64 p.bw, C.lst (Sh.pair (Sh.int .i64) (Sh.int .i64)) p.pr, .int .i64 p.od, .int .i64 p.la, .bool p.m1, .bool p.m2, .bool p.m3, .bool p.m4, .bool p.m5, .bool p.dv, .bool p.sy, .bool p.fe, C.lst (Sh.int .i64) p.st, .int .i64 p.de, .int .i64 p.sf])]))
def T_ParamsBounds_0 : List V → List (Option Blk) → LT := fun vs bl => (pO vs fun c' vs => kP 0 0 c' <| pO vs fun c' vs => kP 1 0 c' <| pO vs fun c' vs => kR 2 c' <| pO vs fun c' vs => kI c' fun s => pO vs fun c' vs => kI c' fun n => pO vs fun c' vs => kI c' fun i => pE vs <| bB bl fun q' bl => rdHd q' fun h => bB bl fun q' bl => rdPm q' fun p => bAR 23 bl fun t bl => bE bl <| some (U_ParamsBounds_0 h p t s n i)).getD .no
theorem tu_ParamsBounds_0 (h : Hd) (p : Pm) (t : List Rc) (s n i : Int) : T_ParamsBounds_0 [.one (.ptr 0 0), .one (.ptr 1 0), .one (.row 2), .one (.int .i64 s), .one (.int .i64 n), .one (.int .i64 i)] [some (.box (hdC h)), some (.box (pmC p)), some (.arr 23 (.pair (.int .i64) (.pair (.int .i64) (.pair (.int .i64) (.int .i64)))) t)] = U_ParamsBounds_0 h p t s n i := by kernel_rfl
theorem b_ParamsBounds_0 (h : Hd) (p : Pm) (t : List Rc) (s n i : Int) (Kc : Ex → Option (List V × List (Option Blk)) → Option Out) : exec Try.prog t_ParamsBounds (annOf []) l_ParamsBounds 20 0 (loopOf Try.f6 0) (unp 115 [2, 3, 5, 6, 39, 40] [.one (.ptr 0 0), .one (.ptr 1 0), .one (.row 2), .one (.int .i64 s), .one (.int .i64 n), .one (.int .i64 i)] [some (.box (hdC h)), some (.box (pmC p)), some (.arr 23 (.pair (.int .i64) (.pair (.int .i64) (.pair (.int .i64) (.int .i64)))) t)]) (endc 0 115 [2, 3, 5, 6, 39, 40] (kxOf [2, 3, 6] [4]) Kc) =
  (T_ParamsBounds_0 [.one (.ptr 0 0), .one (.ptr 1 0), .one (.row 2), .one (.int .i64 s), .one (.int .i64 n), .one (.int .i64 i)] [some (.box (hdC h)), some (.box (pmC p)), some (.arr 23 (.pair (.int .i64) (.pair (.int .i64) (.pair (.int .i64) (.int .i64)))) t)]).runc Kc := by kernel_rfl
def U_ParamsBounds_1 (h : Hd) (p : Pm) (l : List (Int × Bool × Int × Int)) (s : Int) (n i : Int) : LT :=
  (.br (decide (i < n))
    (.br (decide (0 ≤ i ∧ i < (↑(List.length l) : Int)))
      (.br (decide (area (reduce h.a h.b h.c h.d (gC l (Int.toNat i)).snd.snd.fst (gC l (Int.toNat i)).snd.snd.snd).fst (reduce h.a h.b h.c h.d (gC l (Int.toNat i)).snd.snd.fst (gC l (Int.toNat i)).snd.snd.snd).snd.fst (reduce h.a h.b h.c h.d (gC l (Int.toNat i)).snd.snd.fst (gC l (Int.toNat i)).snd.snd.snd).snd.snd.fst (reduce h.a h.b h.c h.d (gC l (Int.toNat i)).snd.snd.fst (gC l (Int.toNat i)).snd.snd.snd).snd.snd.snd < 1))
        (.leaf Ex.ret [.one (.bool false)] [])
        (.br (decide (area (reduce h.a h.b h.c h.d (gC l (Int.toNat i)).snd.snd.fst (gC l (Int.toNat i)).snd.snd.snd).fst (reduce h.a h.b h.c h.d (gC l (Int.toNat i)).snd.snd.fst (gC l (Int.toNat i)).snd.snd.snd).snd.fst (reduce h.a h.b h.c h.d (gC l (Int.toNat i)).snd.snd.fst (gC l (Int.toNat i)).snd.snd.snd).snd.snd.fst (reduce h.a h.b h.c h.d (gC l (Int.toNat i)).snd.snd.fst (gC l (Int.toNat i)).snd.snd.snd).snd.snd.snd > 1048576))
          (.leaf Ex.ret [.one (.bool false)] [])
          (.leaf Ex.normal [V.one (C.ptr 0 0), V.one (C.ptr 1 0), .one (.int .i64 s), V.one (C.lst (Sh.pair (Sh.int .i64) (Sh.pair Sh.bool (Sh.pair (Sh.int .i64) (Sh.int .i64)))) l), .one (.int .i64 n), .one (.int .i64 (IntKind.wrap .i64 (i + 1)))] [some (Blk.box [.int .i64 h.a, .int .i64 h.b, .int .i64 h.c, .int .i64 h.d, .int .i64 h.tw, .int .i64 h.th, C.lst (Sh.pair (Sh.int .i64) (Sh.pair Sh.bool (Sh.pair (Sh.int .i64) (Sh.int .i64)))) h.cs]), some (Blk.box [.int .i64 p.ke, .int .i64 p.le, .int .i64 p.co, .int .i64 p.bx, .int .i64 p.bw, C.lst (Sh.pair (Sh.int .i64) (Sh.int .i64)) p.pr, .int .i64 p.od, .int .i64 p.la, .bool p.m1, .bool p.m2, .bool p.m3, .bool p.m4, .bool p.m5, .bool p.dv, .bool p.sy, .bool p.fe, C.lst (Sh.int .i64) p.st, .int .i64 p.de, .int .i64 p.sf])])))
      .no)
    (.leaf (Ex.exit 2) [V.one (C.ptr 0 0), V.one (C.ptr 1 0), .one (.int .i64 s)] [some (Blk.box [.int .i64 h.a, .int .i64 h.b, .int .i64 h.c, .int .i64 h.d, .int .i64 h.tw, .int .i64 h.th, C.lst (Sh.pair (Sh.int .i64) (Sh.pair Sh.bool (Sh.pair (Sh.int .i64) (Sh.int .i64)))) h.cs]), some (Blk.box [.int .i64 p.ke, .int .i64 p.le, .int .i64 p.co, .int .i64 p.bx, .int .i64 p.bw, C.lst (Sh.pair (Sh.int .i64) (Sh.int .i64)) p.pr, .int .i64 p.od, .int .i64 p.la, .bool p.m1, .bool p.m2, .bool p.m3, .bool p.m4, .bool p.m5, .bool p.dv, .bool p.sy, .bool p.fe, C.lst (Sh.int .i64) p.st, .int .i64 p.de, .int .i64 p.sf])]))
def T_ParamsBounds_1 : List V → List (Option Blk) → LT := fun vs bl => (pO vs fun c' vs => kP 0 0 c' <| pO vs fun c' vs => kP 1 0 c' <| pO vs fun c' vs => kI c' fun s => pO vs fun c' vs => kLC c' fun l => pO vs fun c' vs => kI c' fun n => pO vs fun c' vs => kI c' fun i => pE vs <| bB bl fun q' bl => rdHd q' fun h => bB bl fun q' bl => rdPm q' fun p => bE bl <| some (U_ParamsBounds_1 h p l s n i)).getD .no
theorem tu_ParamsBounds_1 (h : Hd) (p : Pm) (l : List (Int × Bool × Int × Int)) (s : Int) (n i : Int) : T_ParamsBounds_1 [.one (.ptr 0 0), .one (.ptr 1 0), .one (.int .i64 s), .one (.lst (.pair (.int .i64) (.pair .bool (.pair (.int .i64) (.int .i64)))) l), .one (.int .i64 n), .one (.int .i64 i)] [some (.box (hdC h)), some (.box (pmC p))] = U_ParamsBounds_1 h p l s n i := by kernel_rfl
theorem b_ParamsBounds_1 (h : Hd) (p : Pm) (l : List (Int × Bool × Int × Int)) (s : Int) (n i : Int) (Kc : Ex → Option (List V × List (Option Blk)) → Option Out) : exec Try.prog t_ParamsBounds (annOf []) l_ParamsBounds 20 0 (loopOf Try.f6 1) (unp 115 [2, 3, 6, 67, 68, 69] [.one (.ptr 0 0), .one (.ptr 1 0), .one (.int .i64 s), .one (.lst (.pair (.int .i64) (.pair .bool (.pair (.int .i64) (.int .i64)))) l), .one (.int .i64 n), .one (.int .i64 i)] [some (.box (hdC h)), some (.box (pmC p))]) (endc 0 115 [2, 3, 6, 67, 68, 69] (kxOf [2, 3, 6] [4]) Kc) =
  (T_ParamsBounds_1 [.one (.ptr 0 0), .one (.ptr 1 0), .one (.int .i64 s), .one (.lst (.pair (.int .i64) (.pair .bool (.pair (.int .i64) (.int .i64)))) l), .one (.int .i64 n), .one (.int .i64 i)] [some (.box (hdC h)), some (.box (pmC p))]).runc Kc := by kernel_rfl
def U_ParamsBounds_2 (p : Pm) (n i : Int) : LT :=
  (.br (decide (i < n))
    (.br (decide (planes p i < 1))
      (.leaf Ex.ret [.one (.bool false)] [])
      (.br (decide (planes p i > 60))
        (.leaf Ex.ret [.one (.bool false)] [])
        (.leaf Ex.normal [V.one (C.ptr 0 0), .one (.int .i64 n), .one (.int .i64 (IntKind.wrap .i64 (i + 1)))] [some (Blk.box [.int .i64 p.ke, .int .i64 p.le, .int .i64 p.co, .int .i64 p.bx, .int .i64 p.bw, C.lst (Sh.pair (Sh.int .i64) (Sh.int .i64)) p.pr, .int .i64 p.od, .int .i64 p.la, .bool p.m1, .bool p.m2, .bool p.m3, .bool p.m4, .bool p.m5, .bool p.dv, .bool p.sy, .bool p.fe, C.lst (Sh.int .i64) p.st, .int .i64 p.de, .int .i64 p.sf])])))
    (.leaf (Ex.exit 4) [] []))
def T_ParamsBounds_2 : List V → List (Option Blk) → LT := fun vs bl => (pO vs fun c' vs => kP 0 0 c' <| pO vs fun c' vs => kI c' fun n => pO vs fun c' vs => kI c' fun i => pE vs <| bB bl fun q' bl => rdPm q' fun p => bE bl <| some (U_ParamsBounds_2 p n i)).getD .no
theorem tu_ParamsBounds_2 (p : Pm) (n i : Int) : T_ParamsBounds_2 [.one (.ptr 0 0), .one (.int .i64 n), .one (.int .i64 i)] [some (.box (pmC p))] = U_ParamsBounds_2 p n i := by kernel_rfl
theorem b_ParamsBounds_2 (p : Pm) (n i : Int) (Kc : Ex → Option (List V × List (Option Blk)) → Option Out) : exec Try.prog t_ParamsBounds (annOf []) l_ParamsBounds 20 0 (loopOf Try.f6 2) (unp 115 [3, 100, 101] [.one (.ptr 0 0), .one (.int .i64 n), .one (.int .i64 i)] [some (.box (pmC p))]) (endc 0 115 [3, 100, 101] (kxOf [] [4]) Kc) =
  (T_ParamsBounds_2 [.one (.ptr 0 0), .one (.int .i64 n), .one (.int .i64 i)] [some (.box (pmC p))]).runc Kc := by kernel_rfl
end
end Go.Rx.Ch23
