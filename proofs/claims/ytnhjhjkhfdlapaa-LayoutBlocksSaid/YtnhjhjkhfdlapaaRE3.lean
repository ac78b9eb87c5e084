/- Each function, run by the executor: an equation. -/
import Derived.Test.YtnhjhjkhfdlapaaRG
import Derived.Test.YtnhjhjkhfdlapaaProg
import Derived.KernelRfl
set_option linter.unnecessarySimpa false
set_option linter.unusedVariables false
set_option linter.unusedSimpArgs false
set_option linter.unusedVariables false
set_option maxRecDepth 100000
set_option maxHeartbeats 4000000
open Go Go.Rx Go.Proofs
namespace Go.Rx.Ch24
noncomputable section
def t_lay_All : FuncId → Option Summ := tabOf [(14, G_lay_Resolution), (39, G_lay_exists), (48, G_lay_precinct), (50, G_lay_join)]
def l_lay_All : Nat → Option LSumm := ltOf [(5, ⟨0, 62, [2, 3, 4, 7, 21, 22], (kxOf [7] [6]), S_lay_All_0⟩), (8, ⟨0, 62, [2, 3, 4, 7, 8, 9, 21, 22], (kxOf [2, 3, 4, 7, 21, 22] [6]), S_lay_All_1⟩), (12, ⟨0, 62, [2, 3, 4, 7, 8, 9, 21, 22, 43, 44], (kxOf [2, 3, 4, 7, 8, 9, 21, 22] [6]), S_lay_All_2⟩)]
theorem e_lay_All (h : Hd) (p : Pm) (t : Int) : funR Try.prog t_lay_All (annOf []) l_lay_All 20 Try.f23 [.agg (hdC h), .agg (pmC p), .one (.int .i64 t)] [] =
  (ite2 (small (List.length h.cs) && (small (List.length p.pr) && small (List.length p.st)))
  (ite2 (!existsB h p t 0)
    (some ⟨V.one (C.row 0), [], [Blk.arr 65 (Sh.pair (Sh.int .i64) (Sh.pair (Sh.int .i64) (Sh.pair (Sh.int .i64) (Sh.pair (Sh.int .i64) (Sh.pair (Sh.int .i64) (Sh.pair (Sh.int .i64) (Sh.pair (Sh.int .i64) (Sh.pair (Sh.int .i64) (Sh.int .i64))))))))) ([] : List (Int × Int × Int × Int × Int × Int × Int × Int × Int))]⟩)
    (ite2 (k_lay_All_0 h p t (↑(List.length h.cs) : Int) 0 [])
      (ite2 (small (List.length (cmps h p t (List.length h.cs))) && decide (List.length (List.flatten (cmps h p t (List.length h.cs))) ≤ 1900000000000))
        (some ⟨V.one (C.row 0), [], [Blk.arr 65 (Sh.pair (Sh.int .i64) (Sh.pair (Sh.int .i64) (Sh.pair (Sh.int .i64) (Sh.pair (Sh.int .i64) (Sh.pair (Sh.int .i64) (Sh.pair (Sh.int .i64) (Sh.pair (Sh.int .i64) (Sh.pair (Sh.int .i64) (Sh.int .i64))))))))) (List.flatten (cmps h p t (List.length h.cs)))]⟩)
        none)
      none))
  none) := by kernel_rfl
def U_lay_All_0 (h : Hd) (p : Pm) (t n j : Int) (u : List (List Bk)) : LT :=
  (.br (decide (j < n))
    (.br (k_lay_All_1 h p t j 0 n j u)
      (.leaf Ex.normal [.one (.int .i64 t), V.one (C.ptr 0 0), V.one (C.ptr 1 0), V.one (C.row 2), .one (.int .i64 n), .one (.int .i64 (IntKind.wrap .i64 (j + 1)))] [some (Blk.box [.int .i64 h.a, .int .i64 h.b, .int .i64 h.c, .int .i64 h.d, .int .i64 h.tw, .int .i64 h.th, C.lst (Sh.pair (Sh.int .i64) (Sh.pair Sh.bool (Sh.pair (Sh.int .i64) (Sh.int .i64)))) h.cs]), some (Blk.box [.int .i64 p.ke, .int .i64 p.le, .int .i64 p.co, .int .i64 p.bx, .int .i64 p.bw, C.lst (Sh.pair (Sh.int .i64) (Sh.int .i64)) p.pr, .int .i64 p.od, .int .i64 p.la, .bool p.m1, .bool p.m2, .bool p.m3, .bool p.m4, .bool p.m5, .bool p.dv, .bool p.sy, .bool p.fe, C.lst (Sh.int .i64) p.st, .int .i64 p.de, .int .i64 p.sf]), some (Blk.arr 53 (Sh.sl (Sh.pair (Sh.int .i64) (Sh.pair (Sh.int .i64) (Sh.pair (Sh.int .i64) (Sh.pair (Sh.int .i64) (Sh.pair (Sh.int .i64) (Sh.pair (Sh.int .i64) (Sh.pair (Sh.int .i64) (Sh.pair (Sh.int .i64) (Sh.int .i64)))))))))) (u ++ rss (compT h t j) p j (Int.toNat (p.le + 1))))])
      .no)
    (.leaf (Ex.exit 0) [V.one (C.row 0)] [some (Blk.arr 53 (Sh.sl (Sh.pair (Sh.int .i64) (Sh.pair (Sh.int .i64) (Sh.pair (Sh.int .i64) (Sh.pair (Sh.int .i64) (Sh.pair (Sh.int .i64) (Sh.pair (Sh.int .i64) (Sh.pair (Sh.int .i64) (Sh.pair (Sh.int .i64) (Sh.int .i64)))))))))) u)]))
def T_lay_All_0 : List V → List (Option Blk) → LT := fun vs bl => (pO vs fun c' vs => kI c' fun t => pO vs fun c' vs => kP 0 0 c' <| pO vs fun c' vs => kP 1 0 c' <| pO vs fun c' vs => kR 2 c' <| pO vs fun c' vs => kI c' fun n => pO vs fun c' vs => kI c' fun j => pE vs <| bB bl fun q' bl => rdHd q' fun h => bB bl fun q' bl => rdPm q' fun p => bAM 53 bl fun u bl => bE bl <| some (U_lay_All_0 h p t n j u)).getD .no
theorem tu_lay_All_0 (h : Hd) (p : Pm) (t n j : Int) (u : List (List Bk)) : T_lay_All_0 [.one (.int .i64 t), .one (.ptr 0 0), .one (.ptr 1 0), .one (.row 2), .one (.int .i64 n), .one (.int .i64 j)] [some (.box (hdC h)), some (.box (pmC p)), some (.arr 53 (.sl (.pair (.int .i64) (.pair (.int .i64) (.pair (.int .i64) (.pair (.int .i64) (.pair (.int .i64) (.pair (.int .i64) (.pair (.int .i64) (.pair (.int .i64) (.int .i64)))))))))) u)] = U_lay_All_0 h p t n j u := by kernel_rfl
theorem b_lay_All_0 (h : Hd) (p : Pm) (t n j : Int) (u : List (List Bk)) (Kc : Ex → Option (List V × List (Option Blk)) → Option Out) : exec Try.prog t_lay_All (annOf []) l_lay_All 20 0 (loopOf Try.f23 0) (unp 62 [2, 3, 4, 7, 21, 22] [.one (.int .i64 t), .one (.ptr 0 0), .one (.ptr 1 0), .one (.row 2), .one (.int .i64 n), .one (.int .i64 j)] [some (.box (hdC h)), some (.box (pmC p)), some (.arr 53 (.sl (.pair (.int .i64) (.pair (.int .i64) (.pair (.int .i64) (.pair (.int .i64) (.pair (.int .i64) (.pair (.int .i64) (.pair (.int .i64) (.pair (.int .i64) (.int .i64)))))))))) u)]) (endc 0 62 [2, 3, 4, 7, 21, 22] (kxOf [7] [6]) Kc) =
  (T_lay_All_0 [.one (.int .i64 t), .one (.ptr 0 0), .one (.ptr 1 0), .one (.row 2), .one (.int .i64 n), .one (.int .i64 j)] [some (.box (hdC h)), some (.box (pmC p)), some (.arr 53 (.sl (.pair (.int .i64) (.pair (.int .i64) (.pair (.int .i64) (.pair (.int .i64) (.pair (.int .i64) (.pair (.int .i64) (.pair (.int .i64) (.pair (.int .i64) (.int .i64)))))))))) u)]).runc Kc := by kernel_rfl
def U_lay_All_1 (h : Hd) (p : Pm) (t m s n j : Int) (u : List (List Bk)) : LT :=
  (.br (decide (s ≤ p.le))
    (.br (small (List.length h.cs) && (small (List.length p.pr) && small (List.length p.st)))
      (.br (k_lay_All_2 h p t m s n j (IntKind.wrap .i64 ((resM h p t m s).fst * (resM h p t m s).snd)) 0 u)
        (.leaf Ex.normal [.one (.int .i64 t), V.one (C.ptr 0 0), V.one (C.ptr 1 0), V.one (C.row 2), .one (.int .i64 m), .one (.int .i64 (IntKind.wrap .i64 (s + 1))), .one (.int .i64 n), .one (.int .i64 j)] [some (Blk.box [.int .i64 h.a, .int .i64 h.b, .int .i64 h.c, .int .i64 h.d, .int .i64 h.tw, .int .i64 h.th, C.lst (Sh.pair (Sh.int .i64) (Sh.pair Sh.bool (Sh.pair (Sh.int .i64) (Sh.int .i64)))) h.cs]), some (Blk.box [.int .i64 p.ke, .int .i64 p.le, .int .i64 p.co, .int .i64 p.bx, .int .i64 p.bw, C.lst (Sh.pair (Sh.int .i64) (Sh.int .i64)) p.pr, .int .i64 p.od, .int .i64 p.la, .bool p.m1, .bool p.m2, .bool p.m3, .bool p.m4, .bool p.m5, .bool p.dv, .bool p.sy, .bool p.fe, C.lst (Sh.int .i64) p.st, .int .i64 p.de, .int .i64 p.sf]), some (Blk.arr 53 (Sh.sl (Sh.pair (Sh.int .i64) (Sh.pair (Sh.int .i64) (Sh.pair (Sh.int .i64) (Sh.pair (Sh.int .i64) (Sh.pair (Sh.int .i64) (Sh.pair (Sh.int .i64) (Sh.pair (Sh.int .i64) (Sh.pair (Sh.int .i64) (Sh.int .i64)))))))))) (u ++ pcs (compT h t m) p m s (Int.toNat (IntKind.wrap .i64 ((resM h p t m s).fst * (resM h p t m s).snd)))))])
        .no)
      .no)
    (.leaf (Ex.exit 2) [.one (.int .i64 t), V.one (C.ptr 0 0), V.one (C.ptr 1 0), V.one (C.row 2), .one (.int .i64 n), .one (.int .i64 j)] [some (Blk.box [.int .i64 h.a, .int .i64 h.b, .int .i64 h.c, .int .i64 h.d, .int .i64 h.tw, .int .i64 h.th, C.lst (Sh.pair (Sh.int .i64) (Sh.pair Sh.bool (Sh.pair (Sh.int .i64) (Sh.int .i64)))) h.cs]), some (Blk.box [.int .i64 p.ke, .int .i64 p.le, .int .i64 p.co, .int .i64 p.bx, .int .i64 p.bw, C.lst (Sh.pair (Sh.int .i64) (Sh.int .i64)) p.pr, .int .i64 p.od, .int .i64 p.la, .bool p.m1, .bool p.m2, .bool p.m3, .bool p.m4, .bool p.m5, .bool p.dv, .bool p.sy, .bool p.fe, C.lst (Sh.int .i64) p.st, .int .i64 p.de, .int .i64 p.sf]), some (Blk.arr 53 (Sh.sl (Sh.pair (Sh.int .i64) (Sh.pair (Sh.int .i64) (Sh.pair (Sh.int .i64) (Sh.pair (Sh.int .i64) (Sh.pair (Sh.int .i64) (Sh.pair (Sh.int .i64) (Sh.pair (Sh.int .i64) (Sh.pair (Sh.int .i64) (Sh.int .i64)))))))))) u)]))
def T_lay_All_1 : List V → List (Option Blk) → LT := fun vs bl => (pO vs fun c' vs => kI c' fun t => pO vs fun c' vs => kP 0 0 c' <| pO vs fun c' vs => kP 1 0 c' <| pO vs fun c' vs => kR 2 c' <| pO vs fun c' vs => kI c' fun m => pO vs fun c' vs => kI c' fun s => pO vs fun c' vs => kI c' fun n => pO vs fun c' vs => kI c' fun j => pE vs <| bB bl fun q' bl => rdHd q' fun h => bB bl fun q' bl => rdPm q' fun p => bAM 53 bl fun u bl => bE bl <| some (U_lay_All_1 h p t m s n j u)).getD .no
theorem tu_lay_All_1 (h : Hd) (p : Pm) (t m s n j : Int) (u : List (List Bk)) : T_lay_All_1 [.one (.int .i64 t), .one (.ptr 0 0), .one (.ptr 1 0), .one (.row 2), .one (.int .i64 m), .one (.int .i64 s), .one (.int .i64 n), .one (.int .i64 j)] [some (.box (hdC h)), some (.box (pmC p)), some (.arr 53 (.sl (.pair (.int .i64) (.pair (.int .i64) (.pair (.int .i64) (.pair (.int .i64) (.pair (.int .i64) (.pair (.int .i64) (.pair (.int .i64) (.pair (.int .i64) (.int .i64)))))))))) u)] = U_lay_All_1 h p t m s n j u := by kernel_rfl
theorem b_lay_All_1 (h : Hd) (p : Pm) (t m s n j : Int) (u : List (List Bk)) (Kc : Ex → Option (List V × List (Option Blk)) → Option Out) : exec Try.prog t_lay_All (annOf []) l_lay_All 20 0 (loopOf Try.f23 1) (unp 62 [2, 3, 4, 7, 8, 9, 21, 22] [.one (.int .i64 t), .one (.ptr 0 0), .one (.ptr 1 0), .one (.row 2), .one (.int .i64 m), .one (.int .i64 s), .one (.int .i64 n), .one (.int .i64 j)] [some (.box (hdC h)), some (.box (pmC p)), some (.arr 53 (.sl (.pair (.int .i64) (.pair (.int .i64) (.pair (.int .i64) (.pair (.int .i64) (.pair (.int .i64) (.pair (.int .i64) (.pair (.int .i64) (.pair (.int .i64) (.int .i64)))))))))) u)]) (endc 0 62 [2, 3, 4, 7, 8, 9, 21, 22] (kxOf [2, 3, 4, 7, 21, 22] [6]) Kc) =
  (T_lay_All_1 [.one (.int .i64 t), .one (.ptr 0 0), .one (.ptr 1 0), .one (.row 2), .one (.int .i64 m), .one (.int .i64 s), .one (.int .i64 n), .one (.int .i64 j)] [some (.box (hdC h)), some (.box (pmC p)), some (.arr 53 (.sl (.pair (.int .i64) (.pair (.int .i64) (.pair (.int .i64) (.pair (.int .i64) (.pair (.int .i64) (.pair (.int .i64) (.pair (.int .i64) (.pair (.int .i64) (.int .i64)))))))))) u)]).runc Kc := by kernel_rfl
def U_lay_All_2 (h : Hd) (p : Pm) (t m s n j w i : Int) (u : List (List Bk)) : LT :=
  (.br (decide (i < w))
    (.br (small (List.length h.cs) && (small (List.length p.pr) && small (List.length p.st)) && existsB h p t m)
      (.br (decide ((List.length u + List.length [pcL (compT h t m) p m s i]) * 25 ≤ 140737488355328))
        (.leaf Ex.normal [.one (.int .i64 t), V.one (C.ptr 0 0), V.one (C.ptr 1 0), V.one (C.row 2), .one (.int .i64 m), .one (.int .i64 s), .one (.int .i64 n), .one (.int .i64 j), .one (.int .i64 w), .one (.int .i64 (IntKind.wrap .i64 (i + 1)))] [some (Blk.box [.int .i64 h.a, .int .i64 h.b, .int .i64 h.c, .int .i64 h.d, .int .i64 h.tw, .int .i64 h.th, C.lst (Sh.pair (Sh.int .i64) (Sh.pair Sh.bool (Sh.pair (Sh.int .i64) (Sh.int .i64)))) h.cs]), some (Blk.box [.int .i64 p.ke, .int .i64 p.le, .int .i64 p.co, .int .i64 p.bx, .int .i64 p.bw, C.lst (Sh.pair (Sh.int .i64) (Sh.int .i64)) p.pr, .int .i64 p.od, .int .i64 p.la, .bool p.m1, .bool p.m2, .bool p.m3, .bool p.m4, .bool p.m5, .bool p.dv, .bool p.sy, .bool p.fe, C.lst (Sh.int .i64) p.st, .int .i64 p.de, .int .i64 p.sf]), some (Blk.arr 53 (Sh.sl (Sh.pair (Sh.int .i64) (Sh.pair (Sh.int .i64) (Sh.pair (Sh.int .i64) (Sh.pair (Sh.int .i64) (Sh.pair (Sh.int .i64) (Sh.pair (Sh.int .i64) (Sh.pair (Sh.int .i64) (Sh.pair (Sh.int .i64) (Sh.int .i64)))))))))) (u ++ [pcL (compT h t m) p m s i]))])
        .no)
      .no)
    (.leaf (Ex.exit 4) [.one (.int .i64 t), V.one (C.ptr 0 0), V.one (C.ptr 1 0), V.one (C.row 2), .one (.int .i64 m), .one (.int .i64 s), .one (.int .i64 n), .one (.int .i64 j)] [some (Blk.box [.int .i64 h.a, .int .i64 h.b, .int .i64 h.c, .int .i64 h.d, .int .i64 h.tw, .int .i64 h.th, C.lst (Sh.pair (Sh.int .i64) (Sh.pair Sh.bool (Sh.pair (Sh.int .i64) (Sh.int .i64)))) h.cs]), some (Blk.box [.int .i64 p.ke, .int .i64 p.le, .int .i64 p.co, .int .i64 p.bx, .int .i64 p.bw, C.lst (Sh.pair (Sh.int .i64) (Sh.int .i64)) p.pr, .int .i64 p.od, .int .i64 p.la, .bool p.m1, .bool p.m2, .bool p.m3, .bool p.m4, .bool p.m5, .bool p.dv, .bool p.sy, .bool p.fe, C.lst (Sh.int .i64) p.st, .int .i64 p.de, .int .i64 p.sf]), some (Blk.arr 53 (Sh.sl (Sh.pair (Sh.int .i64) (Sh.pair (Sh.int .i64) (Sh.pair (Sh.int .i64) (Sh.pair (Sh.int .i64) (Sh.pair (Sh.int .i64) (Sh.pair (Sh.int .i64) (Sh.pair (Sh.int .i64) (Sh.pair (Sh.int .i64) (Sh.int .i64)))))))))) u)]))
def T_lay_All_2 : List V → List (Option Blk) → LT := fun vs bl => (pO vs fun c' vs => kI c' fun t => pO vs fun c' vs => kP 0 0 c' <| pO vs fun c' vs => kP 1 0 c' <| pO vs fun c' vs => kR 2 c' <| pO vs fun c' vs => kI c' fun m => pO vs fun c' vs => kI c' fun s => pO vs fun c' vs => kI c' fun n => pO vs fun c' vs => kI c' fun j => pO vs fun c' vs => kI c' fun w => pO vs fun c' vs => kI c' fun i => pE vs <| bB bl fun q' bl => rdHd q' fun h => bB bl fun q' bl => rdPm q' fun p => bAM 53 bl fun u bl => bE bl <| some (U_lay_All_2 h p t m s n j w i u)).getD .no
theorem tu_lay_All_2 (h : Hd) (p : Pm) (t m s n j w i : Int) (u : List (List Bk)) : T_lay_All_2 [.one (.int .i64 t), .one (.ptr 0 0), .one (.ptr 1 0), .one (.row 2), .one (.int .i64 m), .one (.int .i64 s), .one (.int .i64 n), .one (.int .i64 j), .one (.int .i64 w), .one (.int .i64 i)] [some (.box (hdC h)), some (.box (pmC p)), some (.arr 53 (.sl (.pair (.int .i64) (.pair (.int .i64) (.pair (.int .i64) (.pair (.int .i64) (.pair (.int .i64) (.pair (.int .i64) (.pair (.int .i64) (.pair (.int .i64) (.int .i64)))))))))) u)] = U_lay_All_2 h p t m s n j w i u := by kernel_rfl
theorem b_lay_All_2 (h : Hd) (p : Pm) (t m s n j w i : Int) (u : List (List Bk)) (Kc : Ex → Option (List V × List (Option Blk)) → Option Out) : exec Try.prog t_lay_All (annOf []) l_lay_All 20 0 (loopOf Try.f23 2) (unp 62 [2, 3, 4, 7, 8, 9, 21, 22, 43, 44] [.one (.int .i64 t), .one (.ptr 0 0), .one (.ptr 1 0), .one (.row 2), .one (.int .i64 m), .one (.int .i64 s), .one (.int .i64 n), .one (.int .i64 j), .one (.int .i64 w), .one (.int .i64 i)] [some (.box (hdC h)), some (.box (pmC p)), some (.arr 53 (.sl (.pair (.int .i64) (.pair (.int .i64) (.pair (.int .i64) (.pair (.int .i64) (.pair (.int .i64) (.pair (.int .i64) (.pair (.int .i64) (.pair (.int .i64) (.int .i64)))))))))) u)]) (endc 0 62 [2, 3, 4, 7, 8, 9, 21, 22, 43, 44] (kxOf [2, 3, 4, 7, 8, 9, 21, 22] [6]) Kc) =
  (T_lay_All_2 [.one (.int .i64 t), .one (.ptr 0 0), .one (.ptr 1 0), .one (.row 2), .one (.int .i64 m), .one (.int .i64 s), .one (.int .i64 n), .one (.int .i64 j), .one (.int .i64 w), .one (.int .i64 i)] [some (.box (hdC h)), some (.box (pmC p)), some (.arr 53 (.sl (.pair (.int .i64) (.pair (.int .i64) (.pair (.int .i64) (.pair (.int .i64) (.pair (.int .i64) (.pair (.int .i64) (.pair (.int .i64) (.pair (.int .i64) (.int .i64)))))))))) u)]).runc Kc := by kernel_rfl
end
end Go.Rx.Ch24

set_option linter.unusedVariables false
set_option maxRecDepth 100000
set_option maxHeartbeats 4000000
open Go Go.Rx Go.Proofs
namespace Go.Rx.Ch24
noncomputable section
def t_ref24_All : FuncId → Option Summ := tabOf [(13, G_ref24_Component), (43, G_ref24_exists), (44, G_ref24_resolution), (49, G_ref24_inPrecinct)]
def l_ref24_All : Nat → Option LSumm := ltOf [(5, ⟨0, 63, [2, 3, 4, 7, 8], (kxOf [7] [6]), S_ref24_All_0⟩), (9, ⟨0, 63, [2, 3, 4, 7, 8, 9, 10], (kxOf [2, 3, 4, 7, 8] [6]), S_ref24_All_1⟩), (13, ⟨0, 63, [2, 3, 4, 7, 8, 9, 10, 12, 13, 14], (kxOf [2, 3, 4, 7, 8, 9, 10] [6]), S_ref24_All_2⟩)]
theorem e_ref24_All (h : Hd) (p : Pm) (t : Int) : funR Try.prog t_ref24_All (annOf []) l_ref24_All 20 Try.f24 [.agg (hdC h), .agg (pmC p), .one (.int .i64 t)] [] =
  (ite2 (small (List.length h.cs) && (small (List.length p.pr) && small (List.length p.st)))
  (ite2 (!existsB h p t 0)
    (some ⟨V.one (C.row 0), [], [Blk.arr 65 (Sh.pair (Sh.int .i64) (Sh.pair (Sh.int .i64) (Sh.pair (Sh.int .i64) (Sh.pair (Sh.int .i64) (Sh.pair (Sh.int .i64) (Sh.pair (Sh.int .i64) (Sh.pair (Sh.int .i64) (Sh.pair (Sh.int .i64) (Sh.int .i64))))))))) ([] : List (Int × Int × Int × Int × Int × Int × Int × Int × Int))]⟩)
    (ite2 (k_ref24_All_0 h p t 0 [])
      (some ⟨V.one (C.row 0), [], [Blk.arr 65 (Sh.pair (Sh.int .i64) (Sh.pair (Sh.int .i64) (Sh.pair (Sh.int .i64) (Sh.pair (Sh.int .i64) (Sh.pair (Sh.int .i64) (Sh.pair (Sh.int .i64) (Sh.pair (Sh.int .i64) (Sh.pair (Sh.int .i64) (Sh.int .i64))))))))) (List.flatten (cmps h p t (List.length h.cs)))]⟩)
      none))
  none) := by kernel_rfl
def U_ref24_All_0 (h : Hd) (p : Pm) (t j : Int) (v : List Bk) : LT :=
  (.br (decide (j < (↑(List.length h.cs) : Int)))
    (.br (small (List.length h.cs))
      (.br (k_ref24_All_1 h p t j (compT h t j).fst (compT h t j).snd.fst (compT h t j).snd.snd.fst (compT h t j).snd.snd.snd 0 v)
        (.leaf Ex.normal [.one (.int .i64 t), V.one (C.ptr 0 0), V.one (C.ptr 1 0), V.one (C.row 2), .one (.int .i64 (IntKind.wrap .i64 (j + 1)))] [some (Blk.box [.int .i64 h.a, .int .i64 h.b, .int .i64 h.c, .int .i64 h.d, .int .i64 h.tw, .int .i64 h.th, C.lst (Sh.pair (Sh.int .i64) (Sh.pair Sh.bool (Sh.pair (Sh.int .i64) (Sh.int .i64)))) h.cs]), some (Blk.box [.int .i64 p.ke, .int .i64 p.le, .int .i64 p.co, .int .i64 p.bx, .int .i64 p.bw, C.lst (Sh.pair (Sh.int .i64) (Sh.int .i64)) p.pr, .int .i64 p.od, .int .i64 p.la, .bool p.m1, .bool p.m2, .bool p.m3, .bool p.m4, .bool p.m5, .bool p.dv, .bool p.sy, .bool p.fe, C.lst (Sh.int .i64) p.st, .int .i64 p.de, .int .i64 p.sf]), some (Blk.arr 65 (Sh.pair (Sh.int .i64) (Sh.pair (Sh.int .i64) (Sh.pair (Sh.int .i64) (Sh.pair (Sh.int .i64) (Sh.pair (Sh.int .i64) (Sh.pair (Sh.int .i64) (Sh.pair (Sh.int .i64) (Sh.pair (Sh.int .i64) (Sh.int .i64))))))))) (v ++ List.flatten (rss ((compT h t j).fst, (compT h t j).snd.fst, (compT h t j).snd.snd.fst, (compT h t j).snd.snd.snd) p j (Int.toNat (p.le + 1)))))])
        .no)
      .no)
    (.leaf (Ex.exit 0) [V.one (C.row 0)] [some (Blk.arr 65 (Sh.pair (Sh.int .i64) (Sh.pair (Sh.int .i64) (Sh.pair (Sh.int .i64) (Sh.pair (Sh.int .i64) (Sh.pair (Sh.int .i64) (Sh.pair (Sh.int .i64) (Sh.pair (Sh.int .i64) (Sh.pair (Sh.int .i64) (Sh.int .i64))))))))) v)]))
def T_ref24_All_0 : List V → List (Option Blk) → LT := fun vs bl => (pO vs fun c' vs => kI c' fun t => pO vs fun c' vs => kP 0 0 c' <| pO vs fun c' vs => kP 1 0 c' <| pO vs fun c' vs => kR 2 c' <| pO vs fun c' vs => kI c' fun j => pE vs <| bB bl fun q' bl => rdHd q' fun h => bB bl fun q' bl => rdPm q' fun p => bAK 65 bl fun v bl => bE bl <| some (U_ref24_All_0 h p t j v)).getD .no
theorem tu_ref24_All_0 (h : Hd) (p : Pm) (t j : Int) (v : List Bk) : T_ref24_All_0 [.one (.int .i64 t), .one (.ptr 0 0), .one (.ptr 1 0), .one (.row 2), .one (.int .i64 j)] [some (.box (hdC h)), some (.box (pmC p)), some (.arr 65 (.pair (.int .i64) (.pair (.int .i64) (.pair (.int .i64) (.pair (.int .i64) (.pair (.int .i64) (.pair (.int .i64) (.pair (.int .i64) (.pair (.int .i64) (.int .i64))))))))) v)] = U_ref24_All_0 h p t j v := by kernel_rfl
theorem b_ref24_All_0 (h : Hd) (p : Pm) (t j : Int) (v : List Bk) (Kc : Ex → Option (List V × List (Option Blk)) → Option Out) : exec Try.prog t_ref24_All (annOf []) l_ref24_All 20 0 (loopOf Try.f24 0) (unp 63 [2, 3, 4, 7, 8] [.one (.int .i64 t), .one (.ptr 0 0), .one (.ptr 1 0), .one (.row 2), .one (.int .i64 j)] [some (.box (hdC h)), some (.box (pmC p)), some (.arr 65 (.pair (.int .i64) (.pair (.int .i64) (.pair (.int .i64) (.pair (.int .i64) (.pair (.int .i64) (.pair (.int .i64) (.pair (.int .i64) (.pair (.int .i64) (.int .i64))))))))) v)]) (endc 0 63 [2, 3, 4, 7, 8] (kxOf [7] [6]) Kc) =
  (T_ref24_All_0 [.one (.int .i64 t), .one (.ptr 0 0), .one (.ptr 1 0), .one (.row 2), .one (.int .i64 j)] [some (.box (hdC h)), some (.box (pmC p)), some (.arr 65 (.pair (.int .i64) (.pair (.int .i64) (.pair (.int .i64) (.pair (.int .i64) (.pair (.int .i64) (.pair (.int .i64) (.pair (.int .i64) (.pair (.int .i64) (.int .i64))))))))) v)]).runc Kc := by kernel_rfl
def U_ref24_All_1 (h : Hd) (p : Pm) (t j a c d e s : Int) (v : List Bk) : LT :=
  (.br (decide (s ≤ p.le))
    (.br (k_ref24_All_2 h p t j a c d e s (rsN (a, c, d, e) p s).fst (rsN (a, c, d, e) p s).snd 0 v)
      (.leaf Ex.normal [.one (.int .i64 t), V.one (C.ptr 0 0), V.one (C.ptr 1 0), V.one (C.row 2), .one (.int .i64 j), V.one (C.ptr 3 0), .one (.int .i64 (IntKind.wrap .i64 (s + 1)))] [some (Blk.box [.int .i64 h.a, .int .i64 h.b, .int .i64 h.c, .int .i64 h.d, .int .i64 h.tw, .int .i64 h.th, C.lst (Sh.pair (Sh.int .i64) (Sh.pair Sh.bool (Sh.pair (Sh.int .i64) (Sh.int .i64)))) h.cs]), some (Blk.box [.int .i64 p.ke, .int .i64 p.le, .int .i64 p.co, .int .i64 p.bx, .int .i64 p.bw, C.lst (Sh.pair (Sh.int .i64) (Sh.int .i64)) p.pr, .int .i64 p.od, .int .i64 p.la, .bool p.m1, .bool p.m2, .bool p.m3, .bool p.m4, .bool p.m5, .bool p.dv, .bool p.sy, .bool p.fe, C.lst (Sh.int .i64) p.st, .int .i64 p.de, .int .i64 p.sf]), some (Blk.arr 65 (Sh.pair (Sh.int .i64) (Sh.pair (Sh.int .i64) (Sh.pair (Sh.int .i64) (Sh.pair (Sh.int .i64) (Sh.pair (Sh.int .i64) (Sh.pair (Sh.int .i64) (Sh.pair (Sh.int .i64) (Sh.pair (Sh.int .i64) (Sh.int .i64))))))))) (v ++ List.flatten (pcs (a, c, d, e) p j s (Int.toNat ((rsN (a, c, d, e) p s).fst * (rsN (a, c, d, e) p s).snd))))), some (Blk.box [.int .i64 a, .int .i64 c, .int .i64 d, .int .i64 e])])
      .no)
    (.leaf (Ex.exit 2) [.one (.int .i64 t), V.one (C.ptr 0 0), V.one (C.ptr 1 0), V.one (C.row 2), .one (.int .i64 j)] [some (Blk.box [.int .i64 h.a, .int .i64 h.b, .int .i64 h.c, .int .i64 h.d, .int .i64 h.tw, .int .i64 h.th, C.lst (Sh.pair (Sh.int .i64) (Sh.pair Sh.bool (Sh.pair (Sh.int .i64) (Sh.int .i64)))) h.cs]), some (Blk.box [.int .i64 p.ke, .int .i64 p.le, .int .i64 p.co, .int .i64 p.bx, .int .i64 p.bw, C.lst (Sh.pair (Sh.int .i64) (Sh.int .i64)) p.pr, .int .i64 p.od, .int .i64 p.la, .bool p.m1, .bool p.m2, .bool p.m3, .bool p.m4, .bool p.m5, .bool p.dv, .bool p.sy, .bool p.fe, C.lst (Sh.int .i64) p.st, .int .i64 p.de, .int .i64 p.sf]), some (Blk.arr 65 (Sh.pair (Sh.int .i64) (Sh.pair (Sh.int .i64) (Sh.pair (Sh.int .i64) (Sh.pair (Sh.int .i64) (Sh.pair (Sh.int .i64) (Sh.pair (Sh.int .i64) (Sh.pair (Sh.int .i64) (Sh.pair (Sh.int .i64) (Sh.int .i64))))))))) v)]))
def T_ref24_All_1 : List V → List (Option Blk) → LT := fun vs bl => (pO vs fun c' vs => kI c' fun t => pO vs fun c' vs => kP 0 0 c' <| pO vs fun c' vs => kP 1 0 c' <| pO vs fun c' vs => kR 2 c' <| pO vs fun c' vs => kI c' fun j => pO vs fun c' vs => kP 3 0 c' <| pO vs fun c' vs => kI c' fun s => pE vs <| bB bl fun q' bl => rdHd q' fun h => bB bl fun q' bl => rdPm q' fun p => bAK 65 bl fun v bl => bB bl fun q' bl => tC q' fun c' q' => kI c' fun a => tC q' fun c' q' => kI c' fun c => tC q' fun c' q' => kI c' fun d => tC q' fun c' q' => kI c' fun e => tE q' <| bE bl <| some (U_ref24_All_1 h p t j a c d e s v)).getD .no
theorem tu_ref24_All_1 (h : Hd) (p : Pm) (t j a c d e s : Int) (v : List Bk) : T_ref24_All_1 [.one (.int .i64 t), .one (.ptr 0 0), .one (.ptr 1 0), .one (.row 2), .one (.int .i64 j), .one (.ptr 3 0), .one (.int .i64 s)] [some (.box (hdC h)), some (.box (pmC p)), some (.arr 65 (.pair (.int .i64) (.pair (.int .i64) (.pair (.int .i64) (.pair (.int .i64) (.pair (.int .i64) (.pair (.int .i64) (.pair (.int .i64) (.pair (.int .i64) (.int .i64))))))))) v), some (.box [.int .i64 a, .int .i64 c, .int .i64 d, .int .i64 e])] = U_ref24_All_1 h p t j a c d e s v := by kernel_rfl
theorem b_ref24_All_1 (h : Hd) (p : Pm) (t j a c d e s : Int) (v : List Bk) (Kc : Ex → Option (List V × List (Option Blk)) → Option Out) : exec Try.prog t_ref24_All (annOf []) l_ref24_All 20 0 (loopOf Try.f24 1) (unp 63 [2, 3, 4, 7, 8, 9, 10] [.one (.int .i64 t), .one (.ptr 0 0), .one (.ptr 1 0), .one (.row 2), .one (.int .i64 j), .one (.ptr 3 0), .one (.int .i64 s)] [some (.box (hdC h)), some (.box (pmC p)), some (.arr 65 (.pair (.int .i64) (.pair (.int .i64) (.pair (.int .i64) (.pair (.int .i64) (.pair (.int .i64) (.pair (.int .i64) (.pair (.int .i64) (.pair (.int .i64) (.int .i64))))))))) v), some (.box [.int .i64 a, .int .i64 c, .int .i64 d, .int .i64 e])]) (endc 0 63 [2, 3, 4, 7, 8, 9, 10] (kxOf [2, 3, 4, 7, 8] [6]) Kc) =
  (T_ref24_All_1 [.one (.int .i64 t), .one (.ptr 0 0), .one (.ptr 1 0), .one (.row 2), .one (.int .i64 j), .one (.ptr 3 0), .one (.int .i64 s)] [some (.box (hdC h)), some (.box (pmC p)), some (.arr 65 (.pair (.int .i64) (.pair (.int .i64) (.pair (.int .i64) (.pair (.int .i64) (.pair (.int .i64) (.pair (.int .i64) (.pair (.int .i64) (.pair (.int .i64) (.int .i64))))))))) v), some (.box [.int .i64 a, .int .i64 c, .int .i64 d, .int .i64 e])]).runc Kc := by kernel_rfl
def U_ref24_All_2 (h : Hd) (p : Pm) (t j a c d e s x z i : Int) (v : List Bk) : LT :=
  (.br (decide (i < IntKind.wrap .i64 (x * z)))
    (.br (nums p && inr 0 p.le s)
      (.br (decide ((List.length v + List.length (pcL (a, c, d, e) p j s i)) * 73 ≤ 140737488355328))
        (.leaf Ex.normal [.one (.int .i64 t), V.one (C.ptr 0 0), V.one (C.ptr 1 0), V.one (C.row 2), .one (.int .i64 j), V.one (C.ptr 3 0), .one (.int .i64 s), .one (.int .i64 x), .one (.int .i64 z), .one (.int .i64 (IntKind.wrap .i64 (i + 1)))] [some (Blk.box [.int .i64 h.a, .int .i64 h.b, .int .i64 h.c, .int .i64 h.d, .int .i64 h.tw, .int .i64 h.th, C.lst (Sh.pair (Sh.int .i64) (Sh.pair Sh.bool (Sh.pair (Sh.int .i64) (Sh.int .i64)))) h.cs]), some (Blk.box [.int .i64 p.ke, .int .i64 p.le, .int .i64 p.co, .int .i64 p.bx, .int .i64 p.bw, C.lst (Sh.pair (Sh.int .i64) (Sh.int .i64)) p.pr, .int .i64 p.od, .int .i64 p.la, .bool p.m1, .bool p.m2, .bool p.m3, .bool p.m4, .bool p.m5, .bool p.dv, .bool p.sy, .bool p.fe, C.lst (Sh.int .i64) p.st, .int .i64 p.de, .int .i64 p.sf]), some (Blk.arr 65 (Sh.pair (Sh.int .i64) (Sh.pair (Sh.int .i64) (Sh.pair (Sh.int .i64) (Sh.pair (Sh.int .i64) (Sh.pair (Sh.int .i64) (Sh.pair (Sh.int .i64) (Sh.pair (Sh.int .i64) (Sh.pair (Sh.int .i64) (Sh.int .i64))))))))) (v ++ pcL (a, c, d, e) p j s i)), some (Blk.box [.int .i64 a, .int .i64 c, .int .i64 d, .int .i64 e])])
        .no)
      .no)
    (.leaf (Ex.exit 4) [.one (.int .i64 t), V.one (C.ptr 0 0), V.one (C.ptr 1 0), V.one (C.row 2), .one (.int .i64 j), V.one (C.ptr 3 0), .one (.int .i64 s)] [some (Blk.box [.int .i64 h.a, .int .i64 h.b, .int .i64 h.c, .int .i64 h.d, .int .i64 h.tw, .int .i64 h.th, C.lst (Sh.pair (Sh.int .i64) (Sh.pair Sh.bool (Sh.pair (Sh.int .i64) (Sh.int .i64)))) h.cs]), some (Blk.box [.int .i64 p.ke, .int .i64 p.le, .int .i64 p.co, .int .i64 p.bx, .int .i64 p.bw, C.lst (Sh.pair (Sh.int .i64) (Sh.int .i64)) p.pr, .int .i64 p.od, .int .i64 p.la, .bool p.m1, .bool p.m2, .bool p.m3, .bool p.m4, .bool p.m5, .bool p.dv, .bool p.sy, .bool p.fe, C.lst (Sh.int .i64) p.st, .int .i64 p.de, .int .i64 p.sf]), some (Blk.arr 65 (Sh.pair (Sh.int .i64) (Sh.pair (Sh.int .i64) (Sh.pair (Sh.int .i64) (Sh.pair (Sh.int .i64) (Sh.pair (Sh.int .i64) (Sh.pair (Sh.int .i64) (Sh.pair (Sh.int .i64) (Sh.pair (Sh.int .i64) (Sh.int .i64))))))))) v), some (Blk.box [.int .i64 a, .int .i64 c, .int .i64 d, .int .i64 e])]))
def T_ref24_All_2 : List V → List (Option Blk) → LT := fun vs bl => (pO vs fun c' vs => kI c' fun t => pO vs fun c' vs => kP 0 0 c' <| pO vs fun c' vs => kP 1 0 c' <| pO vs fun c' vs => kR 2 c' <| pO vs fun c' vs => kI c' fun j => pO vs fun c' vs => kP 3 0 c' <| pO vs fun c' vs => kI c' fun s => pO vs fun c' vs => kI c' fun x => pO vs fun c' vs => kI c' fun z => pO vs fun c' vs => kI c' fun i => pE vs <| bB bl fun q' bl => rdHd q' fun h => bB bl fun q' bl => rdPm q' fun p => bAK 65 bl fun v bl => bB bl fun q' bl => tC q' fun c' q' => kI c' fun a => tC q' fun c' q' => kI c' fun c => tC q' fun c' q' => kI c' fun d => tC q' fun c' q' => kI c' fun e => tE q' <| bE bl <| some (U_ref24_All_2 h p t j a c d e s x z i v)).getD .no
theorem tu_ref24_All_2 (h : Hd) (p : Pm) (t j a c d e s x z i : Int) (v : List Bk) : T_ref24_All_2 [.one (.int .i64 t), .one (.ptr 0 0), .one (.ptr 1 0), .one (.row 2), .one (.int .i64 j), .one (.ptr 3 0), .one (.int .i64 s), .one (.int .i64 x), .one (.int .i64 z), .one (.int .i64 i)] [some (.box (hdC h)), some (.box (pmC p)), some (.arr 65 (.pair (.int .i64) (.pair (.int .i64) (.pair (.int .i64) (.pair (.int .i64) (.pair (.int .i64) (.pair (.int .i64) (.pair (.int .i64) (.pair (.int .i64) (.int .i64))))))))) v), some (.box [.int .i64 a, .int .i64 c, .int .i64 d, .int .i64 e])] = U_ref24_All_2 h p t j a c d e s x z i v := by kernel_rfl
theorem b_ref24_All_2 (h : Hd) (p : Pm) (t j a c d e s x z i : Int) (v : List Bk) (Kc : Ex → Option (List V × List (Option Blk)) → Option Out) : exec Try.prog t_ref24_All (annOf []) l_ref24_All 20 0 (loopOf Try.f24 2) (unp 63 [2, 3, 4, 7, 8, 9, 10, 12, 13, 14] [.one (.int .i64 t), .one (.ptr 0 0), .one (.ptr 1 0), .one (.row 2), .one (.int .i64 j), .one (.ptr 3 0), .one (.int .i64 s), .one (.int .i64 x), .one (.int .i64 z), .one (.int .i64 i)] [some (.box (hdC h)), some (.box (pmC p)), some (.arr 65 (.pair (.int .i64) (.pair (.int .i64) (.pair (.int .i64) (.pair (.int .i64) (.pair (.int .i64) (.pair (.int .i64) (.pair (.int .i64) (.pair (.int .i64) (.int .i64))))))))) v), some (.box [.int .i64 a, .int .i64 c, .int .i64 d, .int .i64 e])]) (endc 0 63 [2, 3, 4, 7, 8, 9, 10, 12, 13, 14] (kxOf [2, 3, 4, 7, 8, 9, 10] [6]) Kc) =
  (T_ref24_All_2 [.one (.int .i64 t), .one (.ptr 0 0), .one (.ptr 1 0), .one (.row 2), .one (.int .i64 j), .one (.ptr 3 0), .one (.int .i64 s), .one (.int .i64 x), .one (.int .i64 z), .one (.int .i64 i)] [some (.box (hdC h)), some (.box (pmC p)), some (.arr 65 (.pair (.int .i64) (.pair (.int .i64) (.pair (.int .i64) (.pair (.int .i64) (.pair (.int .i64) (.pair (.int .i64) (.pair (.int .i64) (.pair (.int .i64) (.int .i64))))))))) v), some (.box [.int .i64 a, .int .i64 c, .int .i64 d, .int .i64 e])]).runc Kc := by kernel_rfl
end
end Go.Rx.Ch24

set_option linter.unusedVariables false
set_option maxRecDepth 100000
set_option maxHeartbeats 4000000
open Go Go.Rx Go.Proofs
namespace Go.Rx.Ch24
noncomputable section
def t_law_area : FuncId → Option Summ := tabOf []
def l_law_area : Nat → Option LSumm := ltOf []
theorem e_law_area (a b c d : Int) : funR Try.prog t_law_area (annOf []) l_law_area 20 Try.f31 [.agg [.int .i64 a, .int .i64 b, .int .i64 c, .int .i64 d]] [] =
  (ite2 (decide (a < 0))
  (some ⟨.one (.int .i64 0), [], []⟩)
  (ite2 (decide (a > 4096))
    (some ⟨.one (.int .i64 0), [], []⟩)
    (ite2 (decide (b < 0))
      (some ⟨.one (.int .i64 0), [], []⟩)
      (ite2 (decide (b > 4096))
        (some ⟨.one (.int .i64 0), [], []⟩)
        (ite2 (decide (c < 0))
          (some ⟨.one (.int .i64 0), [], []⟩)
          (ite2 (decide (c > 4096))
            (some ⟨.one (.int .i64 0), [], []⟩)
            (ite2 (decide (d < 0))
              (some ⟨.one (.int .i64 0), [], []⟩)
              (ite2 (decide (d > 4096))
                (some ⟨.one (.int .i64 0), [], []⟩)
                (some ⟨.one (.int .i64 (IntKind.wrap .i64 ((if IntKind.wrap .i64 (c - a) > 0 then IntKind.wrap .i64 (c - a) else 0) * if IntKind.wrap .i64 (d - b) > 0 then IntKind.wrap .i64 (d - b) else 0))), [], []⟩))))))))) := by kernel_rfl
def t_law_small : FuncId → Option Summ := tabOf [(31, G_law_area)]
def l_law_small : Nat → Option LSumm := ltOf []
theorem e_law_small (h : Hd) (p : Pm) : funR Try.prog t_law_small (annOf []) l_law_small 20 Try.f8 [.agg (hdC h), .agg (pmC p)] [] =
  (ite2 (decide ((↑(List.length h.cs) : Int) ≤ 10))
  (ite2 (decide (area4 h.a h.b h.c h.d ≤ 1600))
    (ite2 (decide ((↑(List.length p.st) : Int) ≤ 40))
      (some ⟨.one (.bool (decide ((↑(List.length p.pr) : Int) ≤ 40))), [], []⟩)
      (some ⟨.one (.bool false), [], []⟩))
    (some ⟨.one (.bool false), [], []⟩))
  (some ⟨.one (.bool false), [], []⟩)) := by kernel_rfl
def t_law_example : FuncId → Option Summ := tabOf []
def l_law_example : Nat → Option LSumm := ltOf []
theorem e_law_example  : funR Try.prog t_law_example (annOf []) l_law_example 20 Try.f32 [] [] =
  (some ⟨V.tup [(true, [.int .i64 0, .int .i64 0, .int .i64 16, .int .i64 16, .int .i64 16, .int .i64 16, C.row 0]), (true, [.int .i64 2, .int .i64 1, .int .i64 0, .int .i64 2, .int .i64 2, C.row 1, .int .i64 1, .int .i64 3, .bool false, .bool false, .bool false, .bool false, .bool false, .bool false, .bool false, .bool false, C.row 2, .int .i64 16, .int .i64 0])], [], [Blk.arr 73 (Sh.pair (Sh.int .i64) (Sh.pair Sh.bool (Sh.pair (Sh.int .i64) (Sh.int .i64)))) ([(8, false, 1, 1)] : List (Int × Bool × Int × Int)), Blk.arr 61 (Sh.pair (Sh.int .i64) (Sh.int .i64)) ([(3, 3), (3, 3)] : List (Int × Int)), Blk.arr 3 (Sh.int .i64) ([1, 1, 1, 1] : List (Int))]⟩) := by kernel_rfl
def t_awake : FuncId → Option Summ := tabOf [(10, G_lay_Tiles), (12, G_lay_Component), (14, G_lay_Resolution), (16, G_lay_Packets), (18, G_lay_Grid), (21, G_lay_Blocks), (23, G_lay_All), (32, G_law_example)]
def l_awake : Nat → Option LSumm := ltOf []
theorem e_awake  : funR Try.prog t_awake (annOf []) l_awake 20 Try.f9 [] [] =
  (some ⟨.one (.bool true), [], []⟩) := by kernel_rfl
end
end Go.Rx.Ch24

set_option linter.unusedVariables false
set_option maxRecDepth 100000
set_option maxHeartbeats 4000000
open Go Go.Rx Go.Proofs
namespace Go.Rx.Ch24
noncomputable section
def t_LayoutGrids : FuncId → Option Summ := tabOf [(8, G_law_small), (9, G_awake), (14, G_lay_Resolution), (15, G_ref24_Resolution), (16, G_lay_Packets), (17, G_ref24_Packets), (18, G_lay_Grid), (19, G_ref24_Grid)]
def l_LayoutGrids : Nat → Option LSumm := ltOf []
theorem e_LayoutGrids (h : Hd) (p : Pm) (t k s b i : Int) : funR Try.prog t_LayoutGrids (annOf []) l_LayoutGrids 20 Try.f4 [.agg (hdC h), .agg (pmC p), .agg [.int .i64 t, .int .i64 k, .int .i64 s, .int .i64 b, .int .i64 i]] [] =
  (ite2 (!smallB h p)
  (some ⟨.one (.bool true), [], []⟩)
  (ite2 (small (List.length h.cs) && (small (List.length p.pr) && small (List.length p.st)))
    (ite2 (small (List.length h.cs) && (small (List.length p.pr) && small (List.length p.st)))
      (ite2 (!((resS h p t k s).fst == (resS h p t k s).fst && ((resS h p t k s).snd.fst == (resS h p t k s).snd.fst && ((resS h p t k s).snd.snd.fst == (resS h p t k s).snd.snd.fst && ((resS h p t k s).snd.snd.snd == (resS h p t k s).snd.snd.snd && true)))))
        (some ⟨.one (.bool false), [], []⟩)
        (ite2 ((resM h p t k s).fst != (resM h p t k s).fst)
          (some ⟨.one (.bool false), [], []⟩)
          (ite2 ((resM h p t k s).snd != (resM h p t k s).snd)
            (some ⟨.one (.bool false), [], []⟩)
            (ite2 (small (List.length h.cs) && (small (List.length p.pr) && small (List.length p.st)))
              (ite2 (small (List.length h.cs) && (small (List.length p.pr) && small (List.length p.st)))
                (ite2 (pkN h p t != pkN h p t)
                  (some ⟨.one (.bool false), [], []⟩)
                  (ite2 (small (List.length h.cs) && (small (List.length p.pr) && small (List.length p.st)))
                    (ite2 (small (List.length h.cs) && (small (List.length p.pr) && small (List.length p.st)))
                      (ite2 ((gridN h p t k b i).fst == (gridN h p t k b i).fst)
                        (ite2 ((gridN h p t k b i).snd == (gridN h p t k b i).snd)
                          (some ⟨.one (.bool true), [], []⟩)
                          (some ⟨.one (.bool false), [], []⟩))
                        (some ⟨.one (.bool false), [], []⟩))
                      none)
                    none))
                none)
              none))))
      none)
    none)) := by kernel_rfl
def t_LayoutBlocks : FuncId → Option Summ := tabOf [(8, G_law_small), (9, G_awake), (20, G_ref24_SameBlocks), (21, G_lay_Blocks), (22, G_ref24_Blocks), (23, G_lay_All), (24, G_ref24_All)]
def l_LayoutBlocks : Nat → Option LSumm := ltOf []
theorem e_LayoutBlocks (h : Hd) (p : Pm) (t k s b i : Int) : funR Try.prog t_LayoutBlocks (annOf []) l_LayoutBlocks 20 Try.f5 [.agg (hdC h), .agg (pmC p), .agg [.int .i64 t, .int .i64 k, .int .i64 s, .int .i64 b, .int .i64 i]] [] =
  (ite2 (!smallB h p)
  (some ⟨.one (.bool true), [], []⟩)
  (ite2 (small (List.length h.cs) && (small (List.length p.pr) && small (List.length p.st)))
    (ite2 (small (List.length h.cs) && (small (List.length p.pr) && small (List.length p.st)))
      (ite2 (small (List.length (blocksL h p t k s i)))
        (ite2 (!decide (blocksL h p t k s i = blocksL h p t k s i))
          (some ⟨.one (.bool false), [], []⟩)
          (ite2 (small (List.length h.cs) && (small (List.length p.pr) && small (List.length p.st)))
            (ite2 (small (List.length h.cs) && (small (List.length p.pr) && small (List.length p.st)))
              (ite2 (small (List.length (allL h p t)))
                (ite2 (decide (allL h p t = allL h p t))
                  (some ⟨.one (.bool true), [], []⟩)
                  (some ⟨.one (.bool false), [], []⟩))
                none)
              none)
            none))
        none)
      none)
    none)) := by kernel_rfl
def t_LayoutTiles : FuncId → Option Summ := tabOf [(8, G_law_small), (9, G_awake), (10, G_lay_Tiles), (11, G_ref24_Tiles), (12, G_lay_Component), (13, G_ref24_Component)]
def l_LayoutTiles : Nat → Option LSumm := ltOf [(7, ⟨0, 51, [1, 2, 3, 7, 8, 25, 26], (kxOf [1, 2, 3] [6]), S_LayoutTiles_0⟩)]
theorem e_LayoutTiles (h : Hd) (t c : Int) : funR Try.prog t_LayoutTiles (annOf []) l_LayoutTiles 20 Try.f3 [.agg (hdC h), .one (.int .i64 t), .one (.int .i64 c)] [] =
  (ite2 (!smallB h { ke := 0, le := 0, co := 0, bx := 0, bw := 0, pr := [], od := 0, la := 0, m1 := false, m2 := false, m3 := false, m4 := false, m5 := false, dv := false, sy := false, fe := false, st := [], de := 0, sf := 0 })
  (some ⟨.one (.bool true), [], []⟩)
  (ite2 (small (List.length h.cs))
    (ite2 (small (List.length h.cs))
      (ite2 ((↑(List.length (tilesH h)) : Int) != (↑(List.length (tilesH h)) : Int))
        (some ⟨.one (.bool false), [], []⟩)
        (ite2 (k_LayoutTiles_0 h t c (tilesH h) (tilesH h) (↑(List.length (tilesH h)) : Int) 0)
          (ite2 (p_LayoutTiles_0 h t c (tilesH h) (tilesH h))
            (ite2 (small (List.length h.cs))
              (ite2 (small (List.length h.cs))
                (ite2 ((compT h t c).fst == (compT h t c).fst && ((compT h t c).snd.fst == (compT h t c).snd.fst && ((compT h t c).snd.snd.fst == (compT h t c).snd.snd.fst && ((compT h t c).snd.snd.snd == (compT h t c).snd.snd.snd && true))))
                  (some ⟨.one (.bool true), [], []⟩)
                  (some ⟨.one (.bool false), [], []⟩))
                none)
              none)
            (some ⟨.one (.bool false), [], []⟩))
          none))
      none)
    none)) := by kernel_rfl
def U_LayoutTiles_0 (h : Hd) (t c : Int) (v u : List Rc) (n i : Int) : LT :=
  (.br (decide (i < n))
    (.br (decide (0 ≤ i ∧ i < (↑(List.length v) : Int)))
      (.br (decide (Int.toNat i < List.length v))
        (.br (decide (0 ≤ i ∧ i < (↑(List.length u) : Int)))
          (.br (decide (Int.toNat i < List.length u))
            (.br (!((gR v (Int.toNat i)).fst == (gR u (Int.toNat i)).fst && ((gR v (Int.toNat i)).snd.fst == (gR u (Int.toNat i)).snd.fst && ((gR v (Int.toNat i)).snd.snd.fst == (gR u (Int.toNat i)).snd.snd.fst && ((gR v (Int.toNat i)).snd.snd.snd == (gR u (Int.toNat i)).snd.snd.snd && true)))))
              (.leaf Ex.ret [.one (.bool false)] [])
              (.leaf Ex.normal [.one (.int .i64 t), .one (.int .i64 c), V.one (C.ptr 0 0), V.one (C.row 1), V.one (C.row 2), .one (.int .i64 n), .one (.int .i64 (IntKind.wrap .i64 (i + 1)))] [some (Blk.box [.int .i64 h.a, .int .i64 h.b, .int .i64 h.c, .int .i64 h.d, .int .i64 h.tw, .int .i64 h.th, C.lst (Sh.pair (Sh.int .i64) (Sh.pair Sh.bool (Sh.pair (Sh.int .i64) (Sh.int .i64)))) h.cs]), some (Blk.arr 23 (Sh.pair (Sh.int .i64) (Sh.pair (Sh.int .i64) (Sh.pair (Sh.int .i64) (Sh.int .i64)))) v), some (Blk.arr 23 (Sh.pair (Sh.int .i64) (Sh.pair (Sh.int .i64) (Sh.pair (Sh.int .i64) (Sh.int .i64)))) u)]))
            .no)
          .no)
        .no)
      .no)
    (.leaf (Ex.exit 0) [.one (.int .i64 t), .one (.int .i64 c), V.one (C.ptr 0 0)] [some (Blk.box [.int .i64 h.a, .int .i64 h.b, .int .i64 h.c, .int .i64 h.d, .int .i64 h.tw, .int .i64 h.th, C.lst (Sh.pair (Sh.int .i64) (Sh.pair Sh.bool (Sh.pair (Sh.int .i64) (Sh.int .i64)))) h.cs])]))
def T_LayoutTiles_0 : List V → List (Option Blk) → LT := fun vs bl => (pO vs fun c' vs => kI c' fun t => pO vs fun c' vs => kI c' fun c => pO vs fun c' vs => kP 0 0 c' <| pO vs fun c' vs => kR 1 c' <| pO vs fun c' vs => kR 2 c' <| pO vs fun c' vs => kI c' fun n => pO vs fun c' vs => kI c' fun i => pE vs <| bB bl fun q' bl => rdHd q' fun h => bAR 23 bl fun v bl => bAR 23 bl fun u bl => bE bl <| some (U_LayoutTiles_0 h t c v u n i)).getD .no
theorem tu_LayoutTiles_0 (h : Hd) (t c : Int) (v u : List Rc) (n i : Int) : T_LayoutTiles_0 [.one (.int .i64 t), .one (.int .i64 c), .one (.ptr 0 0), .one (.row 1), .one (.row 2), .one (.int .i64 n), .one (.int .i64 i)] [some (.box (hdC h)), some (.arr 23 (.pair (.int .i64) (.pair (.int .i64) (.pair (.int .i64) (.int .i64)))) v), some (.arr 23 (.pair (.int .i64) (.pair (.int .i64) (.pair (.int .i64) (.int .i64)))) u)] = U_LayoutTiles_0 h t c v u n i := by kernel_rfl
theorem b_LayoutTiles_0 (h : Hd) (t c : Int) (v u : List Rc) (n i : Int) (Kc : Ex → Option (List V × List (Option Blk)) → Option Out) : exec Try.prog t_LayoutTiles (annOf []) l_LayoutTiles 20 0 (loopOf Try.f3 0) (unp 51 [1, 2, 3, 7, 8, 25, 26] [.one (.int .i64 t), .one (.int .i64 c), .one (.ptr 0 0), .one (.row 1), .one (.row 2), .one (.int .i64 n), .one (.int .i64 i)] [some (.box (hdC h)), some (.arr 23 (.pair (.int .i64) (.pair (.int .i64) (.pair (.int .i64) (.int .i64)))) v), some (.arr 23 (.pair (.int .i64) (.pair (.int .i64) (.pair (.int .i64) (.int .i64)))) u)]) (endc 0 51 [1, 2, 3, 7, 8, 25, 26] (kxOf [1, 2, 3] [6]) Kc) =
  (T_LayoutTiles_0 [.one (.int .i64 t), .one (.int .i64 c), .one (.ptr 0 0), .one (.row 1), .one (.row 2), .one (.int .i64 n), .one (.int .i64 i)] [some (.box (hdC h)), some (.arr 23 (.pair (.int .i64) (.pair (.int .i64) (.pair (.int .i64) (.int .i64)))) v), some (.arr 23 (.pair (.int .i64) (.pair (.int .i64) (.pair (.int .i64) (.int .i64)))) u)]).runc Kc := by kernel_rfl
end
end Go.Rx.Ch24

