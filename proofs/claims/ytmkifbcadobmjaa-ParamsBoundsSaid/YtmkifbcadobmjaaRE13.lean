/- Each function, run by the executor: an equation. -/
import Derived.Test.YtmkifbcadobmjaaRG
import Derived.Test.YtmkifbcadobmjaaProg
import Derived.KernelRfl
set_option linter.unnecessarySimpa false
set_option linter.unusedVariables false
set_option linter.unusedSimpArgs false
set_option linter.unusedVariables false
set_option maxRecDepth 100000
set_option maxHeartbeats 4000000
open Go Go.Rx Go.Proofs
namespace Go.Rx.Ch23
noncomputable section
def t_ParamsIgnores : FuncId → Option Summ := tabOf [(10, G_awake), (11, G_params_Header), (13, G_few_), (14, G_params_Check), (27, G_params_Clone)]
def l_ParamsIgnores : Nat → Option LSumm := ltOf [(5, ⟨0, 69, [3, 4, 5, 7, 8, 23, 24], (kxOf [3, 4, 5, 7, 8] [6]), S_ParamsIgnores_0⟩)]
theorem e_ParamsIgnores (h : Hd) (p q : Pm) : funR Try.prog t_ParamsIgnores (annOf []) l_ParamsIgnores 20 Try.f7 [.agg (hdC h), .agg (pmC p), .agg (pmC q)] [] =
  (ite2 (!few h p)
  (some ⟨.one (.bool true), [], []⟩)
  (ite2 (decide (List.length h.cs ≤ 1000000) && decide (List.length p.pr ≤ 1000000) && decide (List.length p.st ≤ 1000000))
    (ite2 (k_ParamsIgnores_0 h p q h.cs p.pr p.st h.a h.b h.c h.d h.tw h.th p.ke p.le p.co p.bx p.bw p.od p.la p.de p.sf p.m1 p.m2 p.m3 p.m4 p.m5 p.dv p.sy p.fe (↑(List.length h.cs) : Int) 0)
      (ite2 (small (List.length (List.map flip1 h.cs)))
        (ite2 (small (List.length h.cs))
          (ite2 (header { a := h.a, b := h.b, c := h.c, d := h.d, tw := h.tw, th := h.th, cs := List.map flip1 h.cs } == header h)
            (ite2 (small (List.length h.cs) && (small (List.length p.pr) && small (List.length p.st)))
              (ite2 (small (List.length h.cs) && (small (List.length p.pr) && small (List.length p.st)))
                (ite2 (checkA h { ke := p.ke, le := p.le, co := p.co, bx := p.bx, bw := p.bw, pr := p.pr, od := p.od, la := p.la, m1 := q.m1, m2 := q.m2, m3 := q.m3, m4 := q.m4, m5 := q.m5, dv := q.dv, sy := q.sy, fe := q.fe, st := p.st, de := p.de, sf := p.sf } == checkA h p)
                  (some ⟨.one (.bool true), [], []⟩)
                  (some ⟨.one (.bool false), [], []⟩))
                none)
              none)
            (some ⟨.one (.bool false), [], []⟩))
          none)
        none)
      none)
    none)) := by kernel_rfl
def U_ParamsIgnores_0 (h : Hd) (p q : Pm) (l : List (Int × Bool × Int × Int)) (t : List (Int × Int)) (u : List Int) (a1 a2 a3 a4 a5 a6 b1 b2 b3 b4 b5 b6 b7 b8 b9 : Int) (c1 c2 c3 c4 c5 c6 c7 c8 : Bool) (n i : Int) : LT :=
  (.br (decide (i < n))
    (.br (decide (0 ≤ i ∧ i < (↑(List.length l) : Int)))
      (.br (decide (Int.toNat i < List.length l))
        (.br (decide (0 ≤ i ∧ i < (↑(List.length l) : Int)))
          (.br (decide (Int.toNat i < List.length l))
            (.leaf Ex.normal [V.one (C.ptr 0 0), V.one (C.ptr 1 0), V.one (C.ptr 2 0), V.one (C.ptr 3 0), V.one (C.ptr 4 0), .one (.int .i64 n), .one (.int .i64 (IntKind.wrap .i64 (i + 1)))] [some (Blk.box [.int .i64 h.a, .int .i64 h.b, .int .i64 h.c, .int .i64 h.d, .int .i64 h.tw, .int .i64 h.th, C.lst (Sh.pair (Sh.int .i64) (Sh.pair Sh.bool (Sh.pair (Sh.int .i64) (Sh.int .i64)))) h.cs]), some (Blk.box [.int .i64 p.ke, .int .i64 p.le, .int .i64 p.co, .int .i64 p.bx, .int .i64 p.bw, C.lst (Sh.pair (Sh.int .i64) (Sh.int .i64)) p.pr, .int .i64 p.od, .int .i64 p.la, .bool p.m1, .bool p.m2, .bool p.m3, .bool p.m4, .bool p.m5, .bool p.dv, .bool p.sy, .bool p.fe, C.lst (Sh.int .i64) p.st, .int .i64 p.de, .int .i64 p.sf]), some (Blk.box [.int .i64 q.ke, .int .i64 q.le, .int .i64 q.co, .int .i64 q.bx, .int .i64 q.bw, C.lst (Sh.pair (Sh.int .i64) (Sh.int .i64)) q.pr, .int .i64 q.od, .int .i64 q.la, .bool q.m1, .bool q.m2, .bool q.m3, .bool q.m4, .bool q.m5, .bool q.dv, .bool q.sy, .bool q.fe, C.lst (Sh.int .i64) q.st, .int .i64 q.de, .int .i64 q.sf]), some (Blk.box [.int .i64 a1, .int .i64 a2, .int .i64 a3, .int .i64 a4, .int .i64 a5, .int .i64 a6, C.row 5]), some (Blk.box [.int .i64 b1, .int .i64 b2, .int .i64 b3, .int .i64 b4, .int .i64 b5, C.row 6, .int .i64 b6, .int .i64 b7, .bool c1, .bool c2, .bool c3, .bool c4, .bool c5, .bool c6, .bool c7, .bool c8, C.row 7, .int .i64 b8, .int .i64 b9]), some (Blk.arr 54 (Sh.pair (Sh.int .i64) (Sh.pair Sh.bool (Sh.pair (Sh.int .i64) (Sh.int .i64)))) (List.set l (Int.toNat i) ((gC l (Int.toNat i)).fst, !(gC l (Int.toNat i)).snd.fst, (gC l (Int.toNat i)).snd.snd.fst, (gC l (Int.toNat i)).snd.snd.snd))), some (Blk.arr 43 (Sh.pair (Sh.int .i64) (Sh.int .i64)) t), some (Blk.arr 3 (Sh.int .i64) u)])
            .no)
          .no)
        .no)
      .no)
    (.leaf (Ex.exit 0) [V.one (C.ptr 0 0), V.one (C.ptr 1 0), V.one (C.ptr 2 0), V.one (C.ptr 3 0), V.one (C.ptr 4 0)] [some (Blk.box [.int .i64 h.a, .int .i64 h.b, .int .i64 h.c, .int .i64 h.d, .int .i64 h.tw, .int .i64 h.th, C.lst (Sh.pair (Sh.int .i64) (Sh.pair Sh.bool (Sh.pair (Sh.int .i64) (Sh.int .i64)))) h.cs]), some (Blk.box [.int .i64 p.ke, .int .i64 p.le, .int .i64 p.co, .int .i64 p.bx, .int .i64 p.bw, C.lst (Sh.pair (Sh.int .i64) (Sh.int .i64)) p.pr, .int .i64 p.od, .int .i64 p.la, .bool p.m1, .bool p.m2, .bool p.m3, .bool p.m4, .bool p.m5, .bool p.dv, .bool p.sy, .bool p.fe, C.lst (Sh.int .i64) p.st, .int .i64 p.de, .int .i64 p.sf]), some (Blk.box [.int .i64 q.ke, .int .i64 q.le, .int .i64 q.co, .int .i64 q.bx, .int .i64 q.bw, C.lst (Sh.pair (Sh.int .i64) (Sh.int .i64)) q.pr, .int .i64 q.od, .int .i64 q.la, .bool q.m1, .bool q.m2, .bool q.m3, .bool q.m4, .bool q.m5, .bool q.dv, .bool q.sy, .bool q.fe, C.lst (Sh.int .i64) q.st, .int .i64 q.de, .int .i64 q.sf]), some (Blk.box [.int .i64 a1, .int .i64 a2, .int .i64 a3, .int .i64 a4, .int .i64 a5, .int .i64 a6, C.row 5]), some (Blk.box [.int .i64 b1, .int .i64 b2, .int .i64 b3, .int .i64 b4, .int .i64 b5, C.row 6, .int .i64 b6, .int .i64 b7, .bool c1, .bool c2, .bool c3, .bool c4, .bool c5, .bool c6, .bool c7, .bool c8, C.row 7, .int .i64 b8, .int .i64 b9]), some (Blk.arr 54 (Sh.pair (Sh.int .i64) (Sh.pair Sh.bool (Sh.pair (Sh.int .i64) (Sh.int .i64)))) l), some (Blk.arr 43 (Sh.pair (Sh.int .i64) (Sh.int .i64)) t), some (Blk.arr 3 (Sh.int .i64) u)]))
def T_ParamsIgnores_0 : List V → List (Option Blk) → LT := fun vs bl => (pO vs fun c' vs => kP 0 0 c' <| pO vs fun c' vs => kP 1 0 c' <| pO vs fun c' vs => kP 2 0 c' <| pO vs fun c' vs => kP 3 0 c' <| pO vs fun c' vs => kP 4 0 c' <| pO vs fun c' vs => kI c' fun n => pO vs fun c' vs => kI c' fun i => pE vs <| bB bl fun q' bl => rdHd q' fun h => bB bl fun q' bl => rdPm q' fun p => bB bl fun q' bl => rdPm q' fun q => bB bl fun q' bl => rdHR 5 q' fun a1 a2 a3 a4 a5 a6 => bB bl fun q' bl => rdPR 6 7 q' fun b1 b2 b3 b4 b5 b6 b7 c1 c2 c3 c4 c5 c6 c7 c8 b8 b9 => bAC 54 bl fun l bl => bAP 43 bl fun t bl => bAI 3 bl fun u bl => bE bl <| some (U_ParamsIgnores_0 h p q l t u a1 a2 a3 a4 a5 a6 b1 b2 b3 b4 b5 b6 b7 b8 b9 c1 c2 c3 c4 c5 c6 c7 c8 n i)).getD .no
theorem tu_ParamsIgnores_0 (h : Hd) (p q : Pm) (l : List (Int × Bool × Int × Int)) (t : List (Int × Int)) (u : List Int) (a1 a2 a3 a4 a5 a6 b1 b2 b3 b4 b5 b6 b7 b8 b9 : Int) (c1 c2 c3 c4 c5 c6 c7 c8 : Bool) (n i : Int) : T_ParamsIgnores_0 [.one (.ptr 0 0), .one (.ptr 1 0), .one (.ptr 2 0), .one (.ptr 3 0), .one (.ptr 4 0), .one (.int .i64 n), .one (.int .i64 i)] [some (.box (hdC h)), some (.box (pmC p)), some (.box (pmC q)), some (.box [.int .i64 a1, .int .i64 a2, .int .i64 a3, .int .i64 a4, .int .i64 a5, .int .i64 a6, .row 5]), some (.box [.int .i64 b1, .int .i64 b2, .int .i64 b3, .int .i64 b4, .int .i64 b5, .row 6, .int .i64 b6, .int .i64 b7, .bool c1, .bool c2, .bool c3, .bool c4, .bool c5, .bool c6, .bool c7, .bool c8, .row 7, .int .i64 b8, .int .i64 b9]), some (.arr 54 (.pair (.int .i64) (.pair .bool (.pair (.int .i64) (.int .i64)))) l), some (.arr 43 (.pair (.int .i64) (.int .i64)) t), some (.arr 3 (.int .i64) u)] = U_ParamsIgnores_0 h p q l t u a1 a2 a3 a4 a5 a6 b1 b2 b3 b4 b5 b6 b7 b8 b9 c1 c2 c3 c4 c5 c6 c7 c8 n i := by kernel_rfl
theorem b_ParamsIgnores_0 (h : Hd) (p q : Pm) (l : List (Int × Bool × Int × Int)) (t : List (Int × Int)) (u : List Int) (a1 a2 a3 a4 a5 a6 b1 b2 b3 b4 b5 b6 b7 b8 b9 : Int) (c1 c2 c3 c4 c5 c6 c7 c8 : Bool) (n i : Int) (Kc : Ex → Option (List V × List (Option Blk)) → Option Out) : exec Try.prog t_ParamsIgnores (annOf []) l_ParamsIgnores 20 0 (loopOf Try.f7 0) (unp 69 [3, 4, 5, 7, 8, 23, 24] [.one (.ptr 0 0), .one (.ptr 1 0), .one (.ptr 2 0), .one (.ptr 3 0), .one (.ptr 4 0), .one (.int .i64 n), .one (.int .i64 i)] [some (.box (hdC h)), some (.box (pmC p)), some (.box (pmC q)), some (.box [.int .i64 a1, .int .i64 a2, .int .i64 a3, .int .i64 a4, .int .i64 a5, .int .i64 a6, .row 5]), some (.box [.int .i64 b1, .int .i64 b2, .int .i64 b3, .int .i64 b4, .int .i64 b5, .row 6, .int .i64 b6, .int .i64 b7, .bool c1, .bool c2, .bool c3, .bool c4, .bool c5, .bool c6, .bool c7, .bool c8, .row 7, .int .i64 b8, .int .i64 b9]), some (.arr 54 (.pair (.int .i64) (.pair .bool (.pair (.int .i64) (.int .i64)))) l), some (.arr 43 (.pair (.int .i64) (.int .i64)) t), some (.arr 3 (.int .i64) u)]) (endc 0 69 [3, 4, 5, 7, 8, 23, 24] (kxOf [3, 4, 5, 7, 8] [6]) Kc) =
  (T_ParamsIgnores_0 [.one (.ptr 0 0), .one (.ptr 1 0), .one (.ptr 2 0), .one (.ptr 3 0), .one (.ptr 4 0), .one (.int .i64 n), .one (.int .i64 i)] [some (.box (hdC h)), some (.box (pmC p)), some (.box (pmC q)), some (.box [.int .i64 a1, .int .i64 a2, .int .i64 a3, .int .i64 a4, .int .i64 a5, .int .i64 a6, .row 5]), some (.box [.int .i64 b1, .int .i64 b2, .int .i64 b3, .int .i64 b4, .int .i64 b5, .row 6, .int .i64 b6, .int .i64 b7, .bool c1, .bool c2, .bool c3, .bool c4, .bool c5, .bool c6, .bool c7, .bool c8, .row 7, .int .i64 b8, .int .i64 b9]), some (.arr 54 (.pair (.int .i64) (.pair .bool (.pair (.int .i64) (.int .i64)))) l), some (.arr 43 (.pair (.int .i64) (.int .i64)) t), some (.arr 3 (.int .i64) u)]).runc Kc := by kernel_rfl
end
end Go.Rx.Ch23
