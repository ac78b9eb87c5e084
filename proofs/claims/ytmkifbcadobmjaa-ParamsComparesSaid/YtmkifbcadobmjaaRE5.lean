/- Each function, run by the executor: an equation. -/
import Derived.Test.YtmkifbcadobmjaaRG
import Derived.Test.YtmkifbcadobmjaaProg
import Derived.KernelRfl
set_option linter.unnecessarySimpa false
set_option linter.unusedVariables false
set_option linter.unusedSimpArgs false
set_option linter.unusedVariables false
set_option maxRecDepth 100000
set_option maxHeartbeats 4000000
open Go Go.Rx Go.Proofs
namespace Go.Rx.Ch23
noncomputable section
def t_params_numbers : FuncId → Option Summ := tabOf [(33, G_params_within)]
def l_params_numbers : Nat → Option LSumm := ltOf [(6, ⟨0, 114, [2, 3, 36, 37, 38], (kxOf [2, 3] [4]), S_params_numbers_0⟩)]
theorem e_params_numbers (h : Hd) (p : Pm) : funR Try.prog t_params_numbers (annOf []) l_params_numbers 20 Try.f42 [.agg (hdC h), .agg (pmC p)] [] =
  (ite2 (!within 0 5 [p.le])
  (some ⟨.one (.bool false), [], []⟩)
  (ite2 (!within 2 6 [p.bx, p.bw])
    (some ⟨.one (.bool false), [], []⟩)
    (ite2 ((↑(List.length p.pr) : Int) != 0)
      (ite2 ((↑(List.length p.pr) : Int) != IntKind.wrap .i64 (p.le + 1))
        (some ⟨.one (.bool false), [], []⟩)
        (ite2 (k_params_numbers_0 h p p.pr (↑(List.length p.pr) : Int) 0)
          (ite2 (p_params_numbers_0 h p p.pr)
            (ite2 (!within 1 16 [p.la])
              (some ⟨.one (.bool false), [], []⟩)
              (ite2 ((↑(List.length p.st) : Int) != IntKind.wrap .i64 (IntKind.wrap .i64 (3 * p.le) + 1))
                (some ⟨.one (.bool false), [], []⟩)
                (ite2 (small (List.length p.st))
                  (ite2 (!within 1 65536 p.st)
                    (some ⟨.one (.bool false), [], []⟩)
                    (ite2 (!within 8 32 [p.de])
                      (some ⟨.one (.bool false), [], []⟩)
                      (ite2 (!within 0 30 [p.sf])
                        (some ⟨.one (.bool false), [], []⟩)
                        (ite2 (p.co == 0)
                          (some ⟨.one (.bool true), [], []⟩)
                          (ite2 (decide ((↑(List.length h.cs) : Int) ≥ 3))
                            (ite2 (decide ((0 : Int) ≤ 0 ∧ 0 < (↑(List.length h.cs) : Int)))
                              (ite2 (decide ((0 : Int) ≤ 1 ∧ 1 < (↑(List.length h.cs) : Int)))
                                (ite2 ((gC h.cs 0).fst == (gC h.cs 1).fst && ((gC h.cs 0).snd.fst == (gC h.cs 1).snd.fst && ((gC h.cs 0).snd.snd.fst == (gC h.cs 1).snd.snd.fst && ((gC h.cs 0).snd.snd.snd == (gC h.cs 1).snd.snd.snd && true))))
                                  (ite2 (decide ((0 : Int) ≤ 0 ∧ 0 < (↑(List.length h.cs) : Int)))
                                    (ite2 (decide ((0 : Int) ≤ 2 ∧ 2 < (↑(List.length h.cs) : Int)))
                                      (some ⟨.one (.bool ((gC h.cs 0).fst == (gC h.cs 2).fst && ((gC h.cs 0).snd.fst == (gC h.cs 2).snd.fst && ((gC h.cs 0).snd.snd.fst == (gC h.cs 2).snd.snd.fst && ((gC h.cs 0).snd.snd.snd == (gC h.cs 2).snd.snd.snd && true))))), [], []⟩)
                                      none)
                                    none)
                                  (some ⟨.one (.bool false), [], []⟩))
                                none)
                              none)
                            (some ⟨.one (.bool false), [], []⟩))))))
                  none)))
            (some ⟨.one (.bool false), [], []⟩))
          none))
      (ite2 (k_params_numbers_0 h p p.pr (↑(List.length p.pr) : Int) 0)
        (ite2 (p_params_numbers_0 h p p.pr)
          (ite2 (!within 1 16 [p.la])
            (some ⟨.one (.bool false), [], []⟩)
            (ite2 ((↑(List.length p.st) : Int) != IntKind.wrap .i64 (IntKind.wrap .i64 (3 * p.le) + 1))
              (some ⟨.one (.bool false), [], []⟩)
              (ite2 (small (List.length p.st))
                (ite2 (!within 1 65536 p.st)
                  (some ⟨.one (.bool false), [], []⟩)
                  (ite2 (!within 8 32 [p.de])
                    (some ⟨.one (.bool false), [], []⟩)
                    (ite2 (!within 0 30 [p.sf])
                      (some ⟨.one (.bool false), [], []⟩)
                      (ite2 (p.co == 0)
                        (some ⟨.one (.bool true), [], []⟩)
                        (ite2 (decide ((↑(List.length h.cs) : Int) ≥ 3))
                          (ite2 (decide ((0 : Int) ≤ 0 ∧ 0 < (↑(List.length h.cs) : Int)))
                            (ite2 (decide ((0 : Int) ≤ 1 ∧ 1 < (↑(List.length h.cs) : Int)))
                              (ite2 ((gC h.cs 0).fst == (gC h.cs 1).fst && ((gC h.cs 0).snd.fst == (gC h.cs 1).snd.fst && ((gC h.cs 0).snd.snd.fst == (gC h.cs 1).snd.snd.fst && ((gC h.cs 0).snd.snd.snd == (gC h.cs 1).snd.snd.snd && true))))
                                (ite2 (decide ((0 : Int) ≤ 0 ∧ 0 < (↑(List.length h.cs) : Int)))
                                  (ite2 (decide ((0 : Int) ≤ 2 ∧ 2 < (↑(List.length h.cs) : Int)))
                                    (some ⟨.one (.bool ((gC h.cs 0).fst == (gC h.cs 2).fst && ((gC h.cs 0).snd.fst == (gC h.cs 2).snd.fst && ((gC h.cs 0).snd.snd.fst == (gC h.cs 2).snd.snd.fst && ((gC h.cs 0).snd.snd.snd == (gC h.cs 2).snd.snd.snd && true))))), [], []⟩)
                                    none)
                                  none)
                                (some ⟨.one (.bool false), [], []⟩))
                              none)
                            none)
                          (some ⟨.one (.bool false), [], []⟩))))))
                none)))
          (some ⟨.one (.bool false), [], []⟩))
        none)))) := by kernel_rfl
def U_params_numbers_0 (h : Hd) (p : Pm) (l : List (Int × Int)) (n i : Int) : LT :=
  (.br (decide (i < n))
    (.br (decide (0 ≤ i ∧ i < (↑(List.length l) : Int)))
      (.br (!within (if 1 < i then 1 else i) 12 [(gP l (Int.toNat i)).fst, (gP l (Int.toNat i)).snd])
        (.leaf Ex.ret [.one (.bool false)] [])
        (.leaf Ex.normal [V.one (C.ptr 0 0), V.one (C.ptr 1 0), V.one (C.lst (Sh.pair (Sh.int .i64) (Sh.int .i64)) l), .one (.int .i64 n), .one (.int .i64 (IntKind.wrap .i64 (i + 1)))] [some (Blk.box [.int .i64 h.a, .int .i64 h.b, .int .i64 h.c, .int .i64 h.d, .int .i64 h.tw, .int .i64 h.th, C.lst (Sh.pair (Sh.int .i64) (Sh.pair Sh.bool (Sh.pair (Sh.int .i64) (Sh.int .i64)))) h.cs]), some (Blk.box [.int .i64 p.ke, .int .i64 p.le, .int .i64 p.co, .int .i64 p.bx, .int .i64 p.bw, C.lst (Sh.pair (Sh.int .i64) (Sh.int .i64)) p.pr, .int .i64 p.od, .int .i64 p.la, .bool p.m1, .bool p.m2, .bool p.m3, .bool p.m4, .bool p.m5, .bool p.dv, .bool p.sy, .bool p.fe, C.lst (Sh.int .i64) p.st, .int .i64 p.de, .int .i64 p.sf])]))
      .no)
    (.leaf (Ex.exit 0) [V.one (C.ptr 0 0), V.one (C.ptr 1 0)] [some (Blk.box [.int .i64 h.a, .int .i64 h.b, .int .i64 h.c, .int .i64 h.d, .int .i64 h.tw, .int .i64 h.th, C.lst (Sh.pair (Sh.int .i64) (Sh.pair Sh.bool (Sh.pair (Sh.int .i64) (Sh.int .i64)))) h.cs]), some (Blk.box [.int .i64 p.ke, .int .i64 p.le, .int .i64 p.co, .int .i64 p.bx, .int .i64 p.bw, C.lst (Sh.pair (Sh.int .i64) (Sh.int .i64)) p.pr, .int .i64 p.od, .int .i64 p.la, .bool p.m1, .bool p.m2, .bool p.m3, .bool p.m4, .bool p.m5, .bool p.dv, .bool p.sy, .bool p.fe, C.lst (Sh.int .i64) p.st, .int .i64 p.de, .int .i64 p.sf])]))
def T_params_numbers_0 : List V → List (Option Blk) → LT := fun vs bl => (pO vs fun c' vs => kP 0 0 c' <| pO vs fun c' vs => kP 1 0 c' <| pO vs fun c' vs => kLP c' fun l => pO vs fun c' vs => kI c' fun n => pO vs fun c' vs => kI c' fun i => pE vs <| bB bl fun q' bl => rdHd q' fun h => bB bl fun q' bl => rdPm q' fun p => bE bl <| some (U_params_numbers_0 h p l n i)).getD .no
theorem tu_params_numbers_0 (h : Hd) (p : Pm) (l : List (Int × Int)) (n i : Int) : T_params_numbers_0 [.one (.ptr 0 0), .one (.ptr 1 0), .one (.lst (.pair (.int .i64) (.int .i64)) l), .one (.int .i64 n), .one (.int .i64 i)] [some (.box (hdC h)), some (.box (pmC p))] = U_params_numbers_0 h p l n i := by kernel_rfl
theorem b_params_numbers_0 (h : Hd) (p : Pm) (l : List (Int × Int)) (n i : Int) (Kc : Ex → Option (List V × List (Option Blk)) → Option Out) : exec Try.prog t_params_numbers (annOf []) l_params_numbers 20 0 (loopOf Try.f42 0) (unp 114 [2, 3, 36, 37, 38] [.one (.ptr 0 0), .one (.ptr 1 0), .one (.lst (.pair (.int .i64) (.int .i64)) l), .one (.int .i64 n), .one (.int .i64 i)] [some (.box (hdC h)), some (.box (pmC p))]) (endc 0 114 [2, 3, 36, 37, 38] (kxOf [2, 3] [4]) Kc) =
  (T_params_numbers_0 [.one (.ptr 0 0), .one (.ptr 1 0), .one (.lst (.pair (.int .i64) (.int .i64)) l), .one (.int .i64 n), .one (.int .i64 i)] [some (.box (hdC h)), some (.box (pmC p))]).runc Kc := by kernel_rfl
def t_ref23_numbers : FuncId → Option Summ := tabOf [(38, G_ref23_in)]
def l_ref23_numbers : Nat → Option LSumm := ltOf [(4, ⟨0, 103, [1, 3], (kxOf [1] [2]), S_ref23_numbers_0⟩), (13, ⟨0, 103, [1, 4], (kxOf [] [2]), S_ref23_numbers_1⟩)]
theorem e_ref23_numbers (p : Pm) : funR Try.prog t_ref23_numbers (annOf []) l_ref23_numbers 20 Try.f45 [.agg (pmC p)] [] =
  (ite2 (!inr 0 5 p.le)
  (some ⟨.one (.bool false), [], []⟩)
  (ite2 (!inr 2 6 p.bx)
    (some ⟨.one (.bool false), [], []⟩)
    (ite2 (!inr 2 6 p.bw)
      (some ⟨.one (.bool false), [], []⟩)
      (ite2 (!inr 1 16 p.la)
        (some ⟨.one (.bool false), [], []⟩)
        (ite2 (!inr 8 32 p.de)
          (some ⟨.one (.bool false), [], []⟩)
          (ite2 (!inr 0 30 p.sf)
            (some ⟨.one (.bool false), [], []⟩)
            (ite2 ((↑(List.length p.st) : Int) != IntKind.wrap .i64 (IntKind.wrap .i64 (3 * p.le) + 1))
              (some ⟨.one (.bool false), [], []⟩)
              (ite2 (k_ref23_numbers_0 p 0)
                (ite2 (p_ref23_numbers_0 p)
                  (ite2 ((↑(List.length p.pr) : Int) == 0)
                    (some ⟨.one (.bool true), [], []⟩)
                    (ite2 ((↑(List.length p.pr) : Int) != IntKind.wrap .i64 (p.le + 1))
                      (some ⟨.one (.bool false), [], []⟩)
                      (ite2 (k_ref23_numbers_1 p 0)
                        (ite2 (p_ref23_numbers_1 p)
                          (some ⟨.one (.bool true), [], []⟩)
                          (some ⟨.one (.bool false), [], []⟩))
                        none)))
                  (some ⟨.one (.bool false), [], []⟩))
                none)))))))) := by kernel_rfl
def U_ref23_numbers_0 (p : Pm) (i : Int) : LT :=
  (.br (decide (i < (↑(List.length p.st) : Int)))
    (.br (decide (0 ≤ i ∧ i < (↑(List.length p.st) : Int)))
      (.br (!inr 1 65536 (gI p.st (Int.toNat i)))
        (.leaf Ex.ret [.one (.bool false)] [])
        (.leaf Ex.normal [V.one (C.ptr 0 0), .one (.int .i64 (IntKind.wrap .i64 (i + 1)))] [some (Blk.box [.int .i64 p.ke, .int .i64 p.le, .int .i64 p.co, .int .i64 p.bx, .int .i64 p.bw, C.lst (Sh.pair (Sh.int .i64) (Sh.int .i64)) p.pr, .int .i64 p.od, .int .i64 p.la, .bool p.m1, .bool p.m2, .bool p.m3, .bool p.m4, .bool p.m5, .bool p.dv, .bool p.sy, .bool p.fe, C.lst (Sh.int .i64) p.st, .int .i64 p.de, .int .i64 p.sf])]))
      .no)
    (.leaf (Ex.exit 0) [V.one (C.ptr 0 0)] [some (Blk.box [.int .i64 p.ke, .int .i64 p.le, .int .i64 p.co, .int .i64 p.bx, .int .i64 p.bw, C.lst (Sh.pair (Sh.int .i64) (Sh.int .i64)) p.pr, .int .i64 p.od, .int .i64 p.la, .bool p.m1, .bool p.m2, .bool p.m3, .bool p.m4, .bool p.m5, .bool p.dv, .bool p.sy, .bool p.fe, C.lst (Sh.int .i64) p.st, .int .i64 p.de, .int .i64 p.sf])]))
def T_ref23_numbers_0 : List V → List (Option Blk) → LT := fun vs bl => (pO vs fun c' vs => kP 0 0 c' <| pO vs fun c' vs => kI c' fun i => pE vs <| bB bl fun q' bl => rdPm q' fun p => bE bl <| some (U_ref23_numbers_0 p i)).getD .no
theorem tu_ref23_numbers_0 (p : Pm) (i : Int) : T_ref23_numbers_0 [.one (.ptr 0 0), .one (.int .i64 i)] [some (.box (pmC p))] = U_ref23_numbers_0 p i := by kernel_rfl
theorem b_ref23_numbers_0 (p : Pm) (i : Int) (Kc : Ex → Option (List V × List (Option Blk)) → Option Out) : exec Try.prog t_ref23_numbers (annOf []) l_ref23_numbers 20 0 (loopOf Try.f45 0) (unp 103 [1, 3] [.one (.ptr 0 0), .one (.int .i64 i)] [some (.box (pmC p))]) (endc 0 103 [1, 3] (kxOf [1] [2]) Kc) =
  (T_ref23_numbers_0 [.one (.ptr 0 0), .one (.int .i64 i)] [some (.box (pmC p))]).runc Kc := by kernel_rfl
def U_ref23_numbers_1 (p : Pm) (i : Int) : LT :=
  (.br (decide (i < (↑(List.length p.pr) : Int)))
    (.br (decide (0 ≤ i ∧ i < (↑(List.length p.pr) : Int)))
      (.br (!inr (if 1 < i then 1 else i) 12 (gP p.pr (Int.toNat i)).fst)
        (.leaf Ex.ret [.one (.bool false)] [])
        (.br (decide (0 ≤ i ∧ i < (↑(List.length p.pr) : Int)))
          (.br (!inr (if 1 < i then 1 else i) 12 (gP p.pr (Int.toNat i)).snd)
            (.leaf Ex.ret [.one (.bool false)] [])
            (.leaf Ex.normal [V.one (C.ptr 0 0), .one (.int .i64 (IntKind.wrap .i64 (i + 1)))] [some (Blk.box [.int .i64 p.ke, .int .i64 p.le, .int .i64 p.co, .int .i64 p.bx, .int .i64 p.bw, C.lst (Sh.pair (Sh.int .i64) (Sh.int .i64)) p.pr, .int .i64 p.od, .int .i64 p.la, .bool p.m1, .bool p.m2, .bool p.m3, .bool p.m4, .bool p.m5, .bool p.dv, .bool p.sy, .bool p.fe, C.lst (Sh.int .i64) p.st, .int .i64 p.de, .int .i64 p.sf])]))
          .no))
      .no)
    (.leaf (Ex.exit 2) [] []))
def T_ref23_numbers_1 : List V → List (Option Blk) → LT := fun vs bl => (pO vs fun c' vs => kP 0 0 c' <| pO vs fun c' vs => kI c' fun i => pE vs <| bB bl fun q' bl => rdPm q' fun p => bE bl <| some (U_ref23_numbers_1 p i)).getD .no
theorem tu_ref23_numbers_1 (p : Pm) (i : Int) : T_ref23_numbers_1 [.one (.ptr 0 0), .one (.int .i64 i)] [some (.box (pmC p))] = U_ref23_numbers_1 p i := by kernel_rfl
theorem b_ref23_numbers_1 (p : Pm) (i : Int) (Kc : Ex → Option (List V × List (Option Blk)) → Option Out) : exec Try.prog t_ref23_numbers (annOf []) l_ref23_numbers 20 0 (loopOf Try.f45 1) (unp 103 [1, 4] [.one (.ptr 0 0), .one (.int .i64 i)] [some (.box (pmC p))]) (endc 0 103 [1, 4] (kxOf [] [2]) Kc) =
  (T_ref23_numbers_1 [.one (.ptr 0 0), .one (.int .i64 i)] [some (.box (pmC p))]).runc Kc := by kernel_rfl
end
end Go.Rx.Ch23
