/- Each function, run by the executor: an equation. -/
import Derived.Test.YtmkifbcadobmjaaRG
import Derived.Test.YtmkifbcadobmjaaProg
import Derived.KernelRfl
set_option linter.unnecessarySimpa false
set_option linter.unusedVariables false
set_option linter.unusedSimpArgs false
set_option linter.unusedVariables false
set_option maxRecDepth 100000
set_option maxHeartbeats 4000000
open Go Go.Rx Go.Proofs
namespace Go.Rx.Ch23
noncomputable section
def t_clI : FuncId → Option Summ := tabOf []
def l_clI : Nat → Option LSumm := ltOf []
def t_clP : FuncId → Option Summ := tabOf []
def l_clP : Nat → Option LSumm := ltOf []
def t_clC : FuncId → Option Summ := tabOf []
def l_clC : Nat → Option LSumm := ltOf []
def t_params_Clone : FuncId → Option Summ := tabOf [(56, G_clC), (57, G_clP), (58, G_clI)]
def l_params_Clone : Nat → Option LSumm := ltOf []
theorem e_params_Clone (h : Hd) (p : Pm) : funR Try.prog t_params_Clone (annOf []) l_params_Clone 20 Try.f27 [.agg (hdC h), .agg (pmC p)] [] =
  (ite2 (decide (List.length h.cs ≤ 1000000))
  (ite2 (decide (List.length p.pr ≤ 1000000))
    (ite2 (decide (List.length p.st ≤ 1000000))
      (some ⟨V.tup [(true, [.int .i64 h.a, .int .i64 h.b, .int .i64 h.c, .int .i64 h.d, .int .i64 h.tw, .int .i64 h.th, C.row 0]), (true, [.int .i64 p.ke, .int .i64 p.le, .int .i64 p.co, .int .i64 p.bx, .int .i64 p.bw, C.row 1, .int .i64 p.od, .int .i64 p.la, .bool p.m1, .bool p.m2, .bool p.m3, .bool p.m4, .bool p.m5, .bool p.dv, .bool p.sy, .bool p.fe, C.row 2, .int .i64 p.de, .int .i64 p.sf])], [], [Blk.arr 54 (Sh.pair (Sh.int .i64) (Sh.pair Sh.bool (Sh.pair (Sh.int .i64) (Sh.int .i64)))) h.cs, Blk.arr 43 (Sh.pair (Sh.int .i64) (Sh.int .i64)) p.pr, Blk.arr 3 (Sh.int .i64) p.st]⟩)
      none)
    none)
  none) := by kernel_rfl
end
end Go.Rx.Ch23
