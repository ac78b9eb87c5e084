/- Each function, run by the executor: an equation. -/
import Derived.Test.YtmkifbcadobmjaaRG
import Derived.Test.YtmkifbcadobmjaaProg
import Derived.KernelRfl
set_option linter.unnecessarySimpa false
set_option linter.unusedVariables false
set_option linter.unusedSimpArgs false
set_option linter.unusedVariables false
set_option maxRecDepth 100000
set_option maxHeartbeats 4000000
open Go Go.Rx Go.Proofs
namespace Go.Rx.Ch23
noncomputable section
def t_params_Lossless : FuncId → Option Summ := tabOf [(53, G_quant_Threshold)]
def l_params_Lossless : Nat → Option LSumm := ltOf [(2, ⟨0, 25, [1, 6, 7, 8], (kxOf [1] [2]), S_params_Lossless_0⟩)]
theorem e_params_Lossless (p : Pm) : funR Try.prog t_params_Lossless (annOf []) l_params_Lossless 20 Try.f20 [.agg (pmC p)] [] =
  (ite2 (k_params_Lossless_0 p p.st (↑(List.length p.st) : Int) 0)
  (ite2 (p_params_Lossless_0 p p.st)
    (ite2 (decide ((↑(List.length p.st) : Int) > 0))
      (some ⟨.one (.bool (qthr 1 p.de == 1)), [], []⟩)
      (some ⟨.one (.bool false), [], []⟩))
    (some ⟨.one (.bool false), [], []⟩))
  none) := by kernel_rfl
def U_params_Lossless_0 (p : Pm) (l : List Int) (n i : Int) : LT :=
  (.br (decide (i < n))
    (.br (decide (0 ≤ i ∧ i < (↑(List.length l) : Int)))
      (.br (gI l (Int.toNat i) != 1)
        (.leaf Ex.ret [.one (.bool false)] [])
        (.leaf Ex.normal [V.one (C.ptr 0 0), V.one (C.lst (Sh.int .i64) l), .one (.int .i64 n), .one (.int .i64 (IntKind.wrap .i64 (i + 1)))] [some (Blk.box [.int .i64 p.ke, .int .i64 p.le, .int .i64 p.co, .int .i64 p.bx, .int .i64 p.bw, C.lst (Sh.pair (Sh.int .i64) (Sh.int .i64)) p.pr, .int .i64 p.od, .int .i64 p.la, .bool p.m1, .bool p.m2, .bool p.m3, .bool p.m4, .bool p.m5, .bool p.dv, .bool p.sy, .bool p.fe, C.lst (Sh.int .i64) p.st, .int .i64 p.de, .int .i64 p.sf])]))
      .no)
    (.leaf (Ex.exit 0) [V.one (C.ptr 0 0)] [some (Blk.box [.int .i64 p.ke, .int .i64 p.le, .int .i64 p.co, .int .i64 p.bx, .int .i64 p.bw, C.lst (Sh.pair (Sh.int .i64) (Sh.int .i64)) p.pr, .int .i64 p.od, .int .i64 p.la, .bool p.m1, .bool p.m2, .bool p.m3, .bool p.m4, .bool p.m5, .bool p.dv, .bool p.sy, .bool p.fe, C.lst (Sh.int .i64) p.st, .int .i64 p.de, .int .i64 p.sf])]))
def T_params_Lossless_0 : List V → List (Option Blk) → LT := fun vs bl => (pO vs fun c' vs => kP 0 0 c' <| pO vs fun c' vs => kLI c' fun l => pO vs fun c' vs => kI c' fun n => pO vs fun c' vs => kI c' fun i => pE vs <| bB bl fun q' bl => rdPm q' fun p => bE bl <| some (U_params_Lossless_0 p l n i)).getD .no
theorem tu_params_Lossless_0 (p : Pm) (l : List Int) (n i : Int) : T_params_Lossless_0 [.one (.ptr 0 0), .one (.lst (.int .i64) l), .one (.int .i64 n), .one (.int .i64 i)] [some (.box (pmC p))] = U_params_Lossless_0 p l n i := by kernel_rfl
theorem b_params_Lossless_0 (p : Pm) (l : List Int) (n i : Int) (Kc : Ex → Option (List V × List (Option Blk)) → Option Out) : exec Try.prog t_params_Lossless (annOf []) l_params_Lossless 20 0 (loopOf Try.f20 0) (unp 25 [1, 6, 7, 8] [.one (.ptr 0 0), .one (.lst (.int .i64) l), .one (.int .i64 n), .one (.int .i64 i)] [some (.box (pmC p))]) (endc 0 25 [1, 6, 7, 8] (kxOf [1] [2]) Kc) =
  (T_params_Lossless_0 [.one (.ptr 0 0), .one (.lst (.int .i64) l), .one (.int .i64 n), .one (.int .i64 i)] [some (.box (pmC p))]).runc Kc := by kernel_rfl
def t_ref23_Lossless : FuncId → Option Summ := tabOf [(54, G_ref08_Threshold)]
def l_ref23_Lossless : Nat → Option LSumm := ltOf [(2, ⟨0, 27, [1, 3], (kxOf [1] [2]), S_ref23_Lossless_0⟩)]
theorem e_ref23_Lossless (p : Pm) : funR Try.prog t_ref23_Lossless (annOf []) l_ref23_Lossless 20 Try.f21 [.agg (pmC p)] [] =
  (ite2 (k_ref23_Lossless_0 p 0)
  (ite2 (p_ref23_Lossless_0 p)
    (ite2 (decide ((↑(List.length p.st) : Int) > 0))
      (some ⟨.one (.bool (qthr 1 p.de == 1)), [], []⟩)
      (some ⟨.one (.bool false), [], []⟩))
    (some ⟨.one (.bool false), [], []⟩))
  none) := by kernel_rfl
def U_ref23_Lossless_0 (p : Pm) (i : Int) : LT :=
  (.br (decide (i < (↑(List.length p.st) : Int)))
    (.br (decide (0 ≤ i ∧ i < (↑(List.length p.st) : Int)))
      (.br (gI p.st (Int.toNat i) != 1)
        (.leaf Ex.ret [.one (.bool false)] [])
        (.leaf Ex.normal [V.one (C.ptr 0 0), .one (.int .i64 (IntKind.wrap .i64 (i + 1)))] [some (Blk.box [.int .i64 p.ke, .int .i64 p.le, .int .i64 p.co, .int .i64 p.bx, .int .i64 p.bw, C.lst (Sh.pair (Sh.int .i64) (Sh.int .i64)) p.pr, .int .i64 p.od, .int .i64 p.la, .bool p.m1, .bool p.m2, .bool p.m3, .bool p.m4, .bool p.m5, .bool p.dv, .bool p.sy, .bool p.fe, C.lst (Sh.int .i64) p.st, .int .i64 p.de, .int .i64 p.sf])]))
      .no)
    (.leaf (Ex.exit 0) [V.one (C.ptr 0 0)] [some (Blk.box [.int .i64 p.ke, .int .i64 p.le, .int .i64 p.co, .int .i64 p.bx, .int .i64 p.bw, C.lst (Sh.pair (Sh.int .i64) (Sh.int .i64)) p.pr, .int .i64 p.od, .int .i64 p.la, .bool p.m1, .bool p.m2, .bool p.m3, .bool p.m4, .bool p.m5, .bool p.dv, .bool p.sy, .bool p.fe, C.lst (Sh.int .i64) p.st, .int .i64 p.de, .int .i64 p.sf])]))
def T_ref23_Lossless_0 : List V → List (Option Blk) → LT := fun vs bl => (pO vs fun c' vs => kP 0 0 c' <| pO vs fun c' vs => kI c' fun i => pE vs <| bB bl fun q' bl => rdPm q' fun p => bE bl <| some (U_ref23_Lossless_0 p i)).getD .no
theorem tu_ref23_Lossless_0 (p : Pm) (i : Int) : T_ref23_Lossless_0 [.one (.ptr 0 0), .one (.int .i64 i)] [some (.box (pmC p))] = U_ref23_Lossless_0 p i := by kernel_rfl
theorem b_ref23_Lossless_0 (p : Pm) (i : Int) (Kc : Ex → Option (List V × List (Option Blk)) → Option Out) : exec Try.prog t_ref23_Lossless (annOf []) l_ref23_Lossless 20 0 (loopOf Try.f21 0) (unp 27 [1, 3] [.one (.ptr 0 0), .one (.int .i64 i)] [some (.box (pmC p))]) (endc 0 27 [1, 3] (kxOf [1] [2]) Kc) =
  (T_ref23_Lossless_0 [.one (.ptr 0 0), .one (.int .i64 i)] [some (.box (pmC p))]).runc Kc := by kernel_rfl
end
end Go.Rx.Ch23
