/- Each function, run by the executor: an equation. -/
import Derived.Test.YtmkifbcadobmjaaRG
import Derived.Test.YtmkifbcadobmjaaProg
import Derived.KernelRfl
set_option linter.unnecessarySimpa false
set_option linter.unusedVariables false
set_option linter.unusedSimpArgs false
set_option linter.unusedVariables false
set_option maxRecDepth 100000
set_option maxHeartbeats 4000000
open Go Go.Rx Go.Proofs
namespace Go.Rx.Ch23
noncomputable section
def t_few_ : FuncId → Option Summ := tabOf []
def l_few_ : Nat → Option LSumm := ltOf []
theorem e_few_ (h : Hd) (p : Pm) : funR Try.prog t_few_ (annOf []) l_few_ 20 Try.f13 [.agg (hdC h), .agg (pmC p)] [] =
  (ite2 (decide ((↑(List.length h.cs) : Int) ≤ 10))
  (ite2 (decide ((↑(List.length p.st) : Int) ≤ 40))
    (some ⟨.one (.bool (decide ((↑(List.length p.pr) : Int) ≤ 40))), [], []⟩)
    (some ⟨.one (.bool false), [], []⟩))
  (some ⟨.one (.bool false), [], []⟩)) := by kernel_rfl
def t_params_Precinct : FuncId → Option Summ := tabOf []
def l_params_Precinct : Nat → Option LSumm := ltOf []
theorem e_params_Precinct (p : Pm) (r : Int) : funR Try.prog t_params_Precinct (annOf []) l_params_Precinct 20 Try.f16 [.agg (pmC p), .one (.int .i64 r)] [] =
  (ite2 (decide (r < 0))
  (some ⟨.agg [.int .i64 0, .int .i64 0], [], []⟩)
  (ite2 (decide (r > p.le))
    (some ⟨.agg [.int .i64 0, .int .i64 0], [], []⟩)
    (ite2 ((↑(List.length p.pr) : Int) == 0)
      (some ⟨.agg [.int .i64 12, .int .i64 12], [], []⟩)
      (ite2 (decide (r ≥ (↑(List.length p.pr) : Int)))
        (some ⟨.agg [.int .i64 0, .int .i64 0], [], []⟩)
        (ite2 (decide (0 ≤ r ∧ r < (↑(List.length p.pr) : Int)))
          (some ⟨.agg [.int .i64 (gP p.pr (Int.toNat r)).fst, .int .i64 (gP p.pr (Int.toNat r)).snd], [], []⟩)
          none))))) := by kernel_rfl
def t_ref23_Precinct : FuncId → Option Summ := tabOf []
def l_ref23_Precinct : Nat → Option LSumm := ltOf []
theorem e_ref23_Precinct (p : Pm) (r : Int) : funR Try.prog t_ref23_Precinct (annOf []) l_ref23_Precinct 20 Try.f17 [.agg (pmC p), .one (.int .i64 r)] [] =
  (ite2 (decide (r < 0))
  (some ⟨.agg [.int .i64 0, .int .i64 0], [], []⟩)
  (ite2 (decide (r > p.le))
    (some ⟨.agg [.int .i64 0, .int .i64 0], [], []⟩)
    (ite2 ((↑(List.length p.pr) : Int) == 0)
      (some ⟨.agg [.int .i64 12, .int .i64 12], [], []⟩)
      (ite2 (decide (r ≥ (↑(List.length p.pr) : Int)))
        (some ⟨.agg [.int .i64 0, .int .i64 0], [], []⟩)
        (ite2 (decide (0 ≤ r ∧ r < (↑(List.length p.pr) : Int)))
          (some ⟨.agg [.int .i64 (gP p.pr (Int.toNat r)).fst, .int .i64 (gP p.pr (Int.toNat r)).snd], [], []⟩)
          none))))) := by kernel_rfl
def t_ref23_SameHeader : FuncId → Option Summ := tabOf []
def l_ref23_SameHeader : Nat → Option LSumm := ltOf [(4, ⟨0, 52, [2, 3, 5], (kxOf [] [4]), S_ref23_SameHeader_0⟩)]
theorem e_ref23_SameHeader (h1 h2 : Hd) : funR Try.prog t_ref23_SameHeader (annOf []) l_ref23_SameHeader 20 Try.f30 [.agg (hdC h1), .agg (hdC h2)] [] =
  (ite2 (!(h1.a == h2.a && (h1.b == h2.b && (h1.c == h2.c && (h1.d == h2.d && true)))))
  (some ⟨.one (.bool false), [], []⟩)
  (ite2 (h1.tw != h2.tw)
    (some ⟨.one (.bool false), [], []⟩)
    (ite2 (h1.th != h2.th)
      (some ⟨.one (.bool false), [], []⟩)
      (ite2 ((↑(List.length h1.cs) : Int) != (↑(List.length h2.cs) : Int))
        (some ⟨.one (.bool false), [], []⟩)
        (ite2 (k_ref23_SameHeader_0 h1 h2 0)
          (ite2 (p_ref23_SameHeader_0 h1 h2)
            (some ⟨.one (.bool true), [], []⟩)
            (some ⟨.one (.bool false), [], []⟩))
          none))))) := by kernel_rfl
def U_ref23_SameHeader_0 (h1 h2 : Hd) (i : Int) : LT :=
  (.br (decide (i < (↑(List.length h1.cs) : Int)))
    (.br (decide (0 ≤ i ∧ i < (↑(List.length h1.cs) : Int)))
      (.br (decide (0 ≤ i ∧ i < (↑(List.length h2.cs) : Int)))
        (.br (!((gC h1.cs (Int.toNat i)).fst == (gC h2.cs (Int.toNat i)).fst && ((gC h1.cs (Int.toNat i)).snd.fst == (gC h2.cs (Int.toNat i)).snd.fst && ((gC h1.cs (Int.toNat i)).snd.snd.fst == (gC h2.cs (Int.toNat i)).snd.snd.fst && ((gC h1.cs (Int.toNat i)).snd.snd.snd == (gC h2.cs (Int.toNat i)).snd.snd.snd && true)))))
          (.leaf Ex.ret [.one (.bool false)] [])
          (.leaf Ex.normal [V.one (C.ptr 0 0), V.one (C.ptr 1 0), .one (.int .i64 (IntKind.wrap .i64 (i + 1)))] [some (Blk.box [.int .i64 h1.a, .int .i64 h1.b, .int .i64 h1.c, .int .i64 h1.d, .int .i64 h1.tw, .int .i64 h1.th, C.lst (Sh.pair (Sh.int .i64) (Sh.pair Sh.bool (Sh.pair (Sh.int .i64) (Sh.int .i64)))) h1.cs]), some (Blk.box [.int .i64 h2.a, .int .i64 h2.b, .int .i64 h2.c, .int .i64 h2.d, .int .i64 h2.tw, .int .i64 h2.th, C.lst (Sh.pair (Sh.int .i64) (Sh.pair Sh.bool (Sh.pair (Sh.int .i64) (Sh.int .i64)))) h2.cs])]))
        .no)
      .no)
    (.leaf (Ex.exit 0) [] []))
def T_ref23_SameHeader_0 : List V → List (Option Blk) → LT := fun vs bl => (pO vs fun c' vs => kP 0 0 c' <| pO vs fun c' vs => kP 1 0 c' <| pO vs fun c' vs => kI c' fun i => pE vs <| bB bl fun q' bl => rdHd q' fun h1 => bB bl fun q' bl => rdHd q' fun h2 => bE bl <| some (U_ref23_SameHeader_0 h1 h2 i)).getD .no
theorem tu_ref23_SameHeader_0 (h1 h2 : Hd) (i : Int) : T_ref23_SameHeader_0 [.one (.ptr 0 0), .one (.ptr 1 0), .one (.int .i64 i)] [some (.box (hdC h1)), some (.box (hdC h2))] = U_ref23_SameHeader_0 h1 h2 i := by kernel_rfl
theorem b_ref23_SameHeader_0 (h1 h2 : Hd) (i : Int) (Kc : Ex → Option (List V × List (Option Blk)) → Option Out) : exec Try.prog t_ref23_SameHeader (annOf []) l_ref23_SameHeader 20 0 (loopOf Try.f30 0) (unp 52 [2, 3, 5] [.one (.ptr 0 0), .one (.ptr 1 0), .one (.int .i64 i)] [some (.box (hdC h1)), some (.box (hdC h2))]) (endc 0 52 [2, 3, 5] (kxOf [] [4]) Kc) =
  (T_ref23_SameHeader_0 [.one (.ptr 0 0), .one (.ptr 1 0), .one (.int .i64 i)] [some (.box (hdC h1)), some (.box (hdC h2))]).runc Kc := by kernel_rfl
end
end Go.Rx.Ch23
