/- Each function, run by the executor: an equation. -/
import Derived.Test.YtfobgkchlcbniaaRG
import Derived.Test.YtfobgkchlcbniaaProg
import Derived.KernelRfl
set_option linter.unnecessarySimpa false
set_option linter.unusedVariables false
set_option linter.unusedSimpArgs false
set_option linter.unusedVariables false
set_option maxRecDepth 100000
set_option maxHeartbeats 40000000
open Go Go.Rx Go.Proofs
namespace Go.Rx.Ch05
noncomputable section
def t_awake : FuncId → Option Summ := tabOf [(10, G_dwt_Bands), (14, G_dwt_Split), (17, G_dwt_Merge)]
def l_awake : Nat → Option LSumm := ltOf []
theorem e_awake  : funR Try.prog t_awake (annOf []) l_awake 20 Try.f12 [] [] =
  (some ⟨.one (.bool true), [], []⟩) := by kernel_rfl
def t_DwtBands : FuncId → Option Summ := tabOf [(10, G_dwt_Bands), (11, G_ref05_Bands), (12, G_awake)]
def l_DwtBands : Nat → Option LSumm := ltOf []
theorem e_DwtBands (a b c d : Int) : funR Try.prog t_DwtBands (annOf []) l_DwtBands 20 Try.f3 [.agg [.int .i64 a, .int .i64 b, .int .i64 c, .int .i64 d]] [] =
  (ite2 ((bnd a b c d 0).fst == (bnd a b c d 0).fst && ((bnd a b c d 0).snd.fst == (bnd a b c d 0).snd.fst && ((bnd a b c d 0).snd.snd.fst == (bnd a b c d 0).snd.snd.fst && ((bnd a b c d 0).snd.snd.snd == (bnd a b c d 0).snd.snd.snd && ((bnd a b c d 1).fst == (bnd a b c d 1).fst && ((bnd a b c d 1).snd.fst == (bnd a b c d 1).snd.fst && ((bnd a b c d 1).snd.snd.fst == (bnd a b c d 1).snd.snd.fst && ((bnd a b c d 1).snd.snd.snd == (bnd a b c d 1).snd.snd.snd && ((bnd a b c d 2).fst == (bnd a b c d 2).fst && ((bnd a b c d 2).snd.fst == (bnd a b c d 2).snd.fst && ((bnd a b c d 2).snd.snd.fst == (bnd a b c d 2).snd.snd.fst && ((bnd a b c d 2).snd.snd.snd == (bnd a b c d 2).snd.snd.snd && ((bnd a b c d 3).fst == (bnd a b c d 3).fst && ((bnd a b c d 3).snd.fst == (bnd a b c d 3).snd.fst && ((bnd a b c d 3).snd.snd.fst == (bnd a b c d 3).snd.snd.fst && ((bnd a b c d 3).snd.snd.snd == (bnd a b c d 3).snd.snd.snd && true))))))))))))))))
  (some ⟨.one (.bool true), [], []⟩)
  (some ⟨.one (.bool false), [], []⟩)) := by kernel_rfl
def t_DwtSplits : FuncId → Option Summ := tabOf [(12, G_awake), (13, G_law_few), (14, G_dwt_Split), (15, G_ref05_Split), (16, G_law_same)]
def l_DwtSplits : Nat → Option LSumm := ltOf []
theorem e_DwtSplits (a b c d : Int) (l : List Int) (k : Int) : funR Try.prog t_DwtSplits (annOf []) l_DwtSplits 20 Try.f4 [.agg [.int .i64 a, .int .i64 b, .int .i64 c, .int .i64 d, .lst (.int .i64) l], .one (.int .i64 k)] [] =
  (ite2 (!decide (List.length l ≤ 4000))
  (some ⟨.one (.bool true), [], []⟩)
  (ite2 (small (List.length l))
    (ite2 (small (List.length l))
      (ite2 (small (List.length (spD0 a b c d k l)))
        (ite2 (!samePl (spR a b c d k l 0).fst (spR a b c d k l 0).snd.fst (spR a b c d k l 0).snd.snd.fst (spR a b c d k l 0).snd.snd.snd (spD0 a b c d k l) (spR a b c d k l 0).fst (spR a b c d k l 0).snd.fst (spR a b c d k l 0).snd.snd.fst (spR a b c d k l 0).snd.snd.snd (spD0 a b c d k l))
          (some ⟨.one (.bool false), [], []⟩)
          (ite2 (small (List.length (spD1 a b c d k l)))
            (ite2 (!samePl (spR a b c d k l 1).fst (spR a b c d k l 1).snd.fst (spR a b c d k l 1).snd.snd.fst (spR a b c d k l 1).snd.snd.snd (spD1 a b c d k l) (spR a b c d k l 1).fst (spR a b c d k l 1).snd.fst (spR a b c d k l 1).snd.snd.fst (spR a b c d k l 1).snd.snd.snd (spD1 a b c d k l))
              (some ⟨.one (.bool false), [], []⟩)
              (ite2 (small (List.length (spD2 a b c d k l)))
                (ite2 (!samePl (spR a b c d k l 2).fst (spR a b c d k l 2).snd.fst (spR a b c d k l 2).snd.snd.fst (spR a b c d k l 2).snd.snd.snd (spD2 a b c d k l) (spR a b c d k l 2).fst (spR a b c d k l 2).snd.fst (spR a b c d k l 2).snd.snd.fst (spR a b c d k l 2).snd.snd.snd (spD2 a b c d k l))
                  (some ⟨.one (.bool false), [], []⟩)
                  (ite2 (small (List.length (spD3 a b c d k l)))
                    (ite2 (!samePl (spR a b c d k l 3).fst (spR a b c d k l 3).snd.fst (spR a b c d k l 3).snd.snd.fst (spR a b c d k l 3).snd.snd.snd (spD3 a b c d k l) (spR a b c d k l 3).fst (spR a b c d k l 3).snd.fst (spR a b c d k l 3).snd.snd.fst (spR a b c d k l 3).snd.snd.snd (spD3 a b c d k l))
                      (some ⟨.one (.bool false), [], []⟩)
                      (ite2 (spErr a b c d k l == spErr a b c d k l)
                        (some ⟨.one (.bool true), [], []⟩)
                        (some ⟨.one (.bool false), [], []⟩)))
                    none))
                none))
            none))
        none)
      none)
    none)) := by kernel_rfl
def t_DwtMerges : FuncId → Option Summ := tabOf [(12, G_awake), (13, G_law_few), (16, G_law_same), (17, G_dwt_Merge), (18, G_ref05_Merge)]
def l_DwtMerges : Nat → Option LSumm := ltOf []
theorem e_DwtMerges (a0 b0 c0 d0 : Int) (l0 : List Int) (a1 b1 c1 d1 : Int) (l1 : List Int) (a2 b2 c2 d2 : Int) (l2 : List Int) (a3 b3 c3 d3 : Int) (l3 : List Int) (a b c d k : Int) : funR Try.prog t_DwtMerges (annOf []) l_DwtMerges 20 Try.f5 [.agg [.int .i64 a0, .int .i64 b0, .int .i64 c0, .int .i64 d0, .lst (.int .i64) l0, .int .i64 a1, .int .i64 b1, .int .i64 c1, .int .i64 d1, .lst (.int .i64) l1, .int .i64 a2, .int .i64 b2, .int .i64 c2, .int .i64 d2, .lst (.int .i64) l2, .int .i64 a3, .int .i64 b3, .int .i64 c3, .int .i64 d3, .lst (.int .i64) l3], .agg [.int .i64 a, .int .i64 b, .int .i64 c, .int .i64 d], .one (.int .i64 k)] [] =
  (ite2 (!decide (List.length l0 ≤ 4000))
  (some ⟨.one (.bool true), [], []⟩)
  (ite2 (!decide (List.length l1 ≤ 4000))
    (some ⟨.one (.bool true), [], []⟩)
    (ite2 (!decide (List.length l2 ≤ 4000))
      (some ⟨.one (.bool true), [], []⟩)
      (ite2 (!decide (List.length l3 ≤ 4000))
        (some ⟨.one (.bool true), [], []⟩)
        (ite2 (small (List.length l0) && small (List.length l1) && small (List.length l2) && small (List.length l3))
          (ite2 (small (List.length l0) && small (List.length l1) && small (List.length l2) && small (List.length l3))
            (ite2 (small (List.length (mgL (mgErr a0 b0 c0 d0 a1 b1 c1 d1 a2 b2 c2 d2 a3 b3 c3 d3 a b c d k l0 l1 l2 l3) a b c d k l0 l1 l2 l3)))
              (ite2 (samePl (mgR (mgErr a0 b0 c0 d0 a1 b1 c1 d1 a2 b2 c2 d2 a3 b3 c3 d3 a b c d k l0 l1 l2 l3) a b c d).fst (mgR (mgErr a0 b0 c0 d0 a1 b1 c1 d1 a2 b2 c2 d2 a3 b3 c3 d3 a b c d k l0 l1 l2 l3) a b c d).snd.fst (mgR (mgErr a0 b0 c0 d0 a1 b1 c1 d1 a2 b2 c2 d2 a3 b3 c3 d3 a b c d k l0 l1 l2 l3) a b c d).snd.snd.fst (mgR (mgErr a0 b0 c0 d0 a1 b1 c1 d1 a2 b2 c2 d2 a3 b3 c3 d3 a b c d k l0 l1 l2 l3) a b c d).snd.snd.snd (mgL (mgErr a0 b0 c0 d0 a1 b1 c1 d1 a2 b2 c2 d2 a3 b3 c3 d3 a b c d k l0 l1 l2 l3) a b c d k l0 l1 l2 l3) (mgR (mgErr a0 b0 c0 d0 a1 b1 c1 d1 a2 b2 c2 d2 a3 b3 c3 d3 a b c d k l0 l1 l2 l3) a b c d).fst (mgR (mgErr a0 b0 c0 d0 a1 b1 c1 d1 a2 b2 c2 d2 a3 b3 c3 d3 a b c d k l0 l1 l2 l3) a b c d).snd.fst (mgR (mgErr a0 b0 c0 d0 a1 b1 c1 d1 a2 b2 c2 d2 a3 b3 c3 d3 a b c d k l0 l1 l2 l3) a b c d).snd.snd.fst (mgR (mgErr a0 b0 c0 d0 a1 b1 c1 d1 a2 b2 c2 d2 a3 b3 c3 d3 a b c d k l0 l1 l2 l3) a b c d).snd.snd.snd (mgL (mgErr a0 b0 c0 d0 a1 b1 c1 d1 a2 b2 c2 d2 a3 b3 c3 d3 a b c d k l0 l1 l2 l3) a b c d k l0 l1 l2 l3))
                (ite2 (mgErr a0 b0 c0 d0 a1 b1 c1 d1 a2 b2 c2 d2 a3 b3 c3 d3 a b c d k l0 l1 l2 l3 == mgErr a0 b0 c0 d0 a1 b1 c1 d1 a2 b2 c2 d2 a3 b3 c3 d3 a b c d k l0 l1 l2 l3)
                  (some ⟨.one (.bool true), [], []⟩)
                  (some ⟨.one (.bool false), [], []⟩))
                (some ⟨.one (.bool false), [], []⟩))
              none)
            none)
          none))))) := by kernel_rfl
end
end Go.Rx.Ch05

