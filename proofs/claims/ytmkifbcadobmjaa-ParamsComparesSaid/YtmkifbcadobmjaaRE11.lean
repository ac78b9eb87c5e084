/- Each function, run by the executor: an equation. -/
import Derived.Test.YtmkifbcadobmjaaRG
import Derived.Test.YtmkifbcadobmjaaProg
import Derived.KernelRfl
set_option linter.unnecessarySimpa false
set_option linter.unusedVariables false
set_option linter.unusedSimpArgs false
set_option linter.unusedVariables false
set_option maxRecDepth 100000
set_option maxHeartbeats 4000000
open Go Go.Rx Go.Proofs
namespace Go.Rx.Ch23
noncomputable section
def t_awake : FuncId → Option Summ := tabOf [(11, G_params_Header), (14, G_params_Check), (16, G_params_Precinct), (18, G_params_Planes), (20, G_params_Lossless)]
def l_awake : Nat → Option LSumm := ltOf []
theorem e_awake  : funR Try.prog t_awake (annOf []) l_awake 20 Try.f10 [] [] =
  (some ⟨.one (.bool true), [], []⟩) := by kernel_rfl
def t_ParamsHeaders : FuncId → Option Summ := tabOf [(10, G_awake), (11, G_params_Header), (12, G_ref23_Header)]
def l_ParamsHeaders : Nat → Option LSumm := ltOf []
theorem e_ParamsHeaders (h : Hd) : funR Try.prog t_ParamsHeaders (annOf []) l_ParamsHeaders 20 Try.f3 [.agg (hdC h)] [] =
  (ite2 (decide ((↑(List.length h.cs) : Int) > 10))
  (some ⟨.one (.bool true), [], []⟩)
  (ite2 (small (List.length h.cs))
    (ite2 (small (List.length h.cs))
      (ite2 (header h == header h)
        (some ⟨.one (.bool true), [], []⟩)
        (some ⟨.one (.bool false), [], []⟩))
      none)
    none)) := by kernel_rfl
def t_ParamsChecks : FuncId → Option Summ := tabOf [(10, G_awake), (13, G_few_), (14, G_params_Check), (15, G_ref23_Check)]
def l_ParamsChecks : Nat → Option LSumm := ltOf []
theorem e_ParamsChecks (h : Hd) (p : Pm) : funR Try.prog t_ParamsChecks (annOf []) l_ParamsChecks 20 Try.f4 [.agg (hdC h), .agg (pmC p)] [] =
  (ite2 (!few h p)
  (some ⟨.one (.bool true), [], []⟩)
  (ite2 (small (List.length h.cs) && (small (List.length p.pr) && small (List.length p.st)))
    (ite2 (small (List.length h.cs) && (small (List.length p.pr) && small (List.length p.st)))
      (ite2 (checkA h p == checkB h p)
        (some ⟨.one (.bool true), [], []⟩)
        (some ⟨.one (.bool false), [], []⟩))
      none)
    none)) := by kernel_rfl
def t_ParamsNumbers : FuncId → Option Summ := tabOf [(10, G_awake), (13, G_few_), (16, G_params_Precinct), (17, G_ref23_Precinct), (18, G_params_Planes), (19, G_ref23_Planes), (20, G_params_Lossless), (21, G_ref23_Lossless)]
def l_ParamsNumbers : Nat → Option LSumm := ltOf []
theorem e_ParamsNumbers (p : Pm) (r b : Int) : funR Try.prog t_ParamsNumbers (annOf []) l_ParamsNumbers 20 Try.f5 [.agg (pmC p), .one (.int .i64 r), .one (.int .i64 b)] [] =
  (ite2 (!few { a := 0, b := 0, c := 0, d := 0, tw := 0, th := 0, cs := [] } p)
  (some ⟨.one (.bool true), [], []⟩)
  (ite2 ((prec p r).fst == (prec p r).fst && ((prec p r).snd == (prec p r).snd && true))
    (ite2 (planes p b == planes p b)
      (ite2 (small (List.length p.st))
        (ite2 (small (List.length p.st))
          (ite2 (lossless p == lossless p)
            (some ⟨.one (.bool true), [], []⟩)
            (some ⟨.one (.bool false), [], []⟩))
          none)
        none)
      (some ⟨.one (.bool false), [], []⟩))
    (some ⟨.one (.bool false), [], []⟩))) := by kernel_rfl
def t_ParamsCompares : FuncId → Option Summ := tabOf [(10, G_awake), (13, G_few_), (28, G_params_Same), (29, G_ref23_Same)]
def l_ParamsCompares : Nat → Option LSumm := ltOf []
theorem e_ParamsCompares (h1 h2 : Hd) (p1 p2 : Pm) : funR Try.prog t_ParamsCompares (annOf []) l_ParamsCompares 20 Try.f8 [.agg (hdC h1 ++ (hdC h2 ++ (pmC p1 ++ pmC p2)))] [] =
  (ite2 (!few h1 p1)
  (some ⟨.one (.bool true), [], []⟩)
  (ite2 (!few h2 p2)
    (some ⟨.one (.bool true), [], []⟩)
    (ite2 (small (List.length h1.cs) && (small (List.length p1.pr) && small (List.length p1.st)))
      (ite2 (small (List.length h1.cs) && (small (List.length p1.pr) && small (List.length p1.st)))
        (ite2 (sameH h1 h2 == sameH h1 h2)
          (ite2 (sameP p1 p2 == sameP p1 p2)
            (some ⟨.one (.bool true), [], []⟩)
            (some ⟨.one (.bool false), [], []⟩))
          (some ⟨.one (.bool false), [], []⟩))
        none)
      none))) := by kernel_rfl
end
end Go.Rx.Ch23
