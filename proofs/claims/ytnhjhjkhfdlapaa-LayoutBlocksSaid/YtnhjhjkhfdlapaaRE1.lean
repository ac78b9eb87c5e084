/- Each function, run by the executor: an equation. -/
import Derived.Test.YtnhjhjkhfdlapaaRG
import Derived.Test.YtnhjhjkhfdlapaaProg
import Derived.KernelRfl
set_option linter.unnecessarySimpa false
set_option linter.unusedVariables false
set_option linter.unusedSimpArgs false
set_option linter.unusedVariables false
set_option maxRecDepth 100000
set_option maxHeartbeats 4000000
open Go Go.Rx Go.Proofs
namespace Go.Rx.Ch24
noncomputable section
def t_tileFits : FuncId → Option Summ := tabOf [(26, G_pyr_Indices), (28, G_pyr_Band), (37, G_rect_Reduce), (40, G_pyr_Resolution), (41, G_params_Precinct), (84, G_params_cells)]
def l_tileFits : Nat → Option LSumm := ltOf [(3, ⟨0, 92, [4, 5, 7, 16, 17, 18], (kxOf [7] [6]), S_tileFits_0⟩), (7, ⟨0, 92, [4, 5, 7, 10, 11, 16, 17, 18], (kxOf [4, 5, 7, 16, 17, 18] [6]), S_tileFits_1⟩), (14, ⟨0, 92, [4, 5, 7, 10, 11, 12, 16, 17, 18, 65, 66, 67], (kxOf [4, 5, 7, 10, 11, 16, 17, 18] [6]), S_tileFits_2⟩)]
theorem e_tileFits (h : Hd) (p : Pm) (a b c d : Int) : funR Try.prog t_tileFits (annOf []) l_tileFits 20 Try.f53 [.agg (hdC h), .agg (pmC p), .agg [.int .i64 a, .int .i64 b, .int .i64 c, .int .i64 d]] [] =
  (ite2 (k_tileFits_0 p h.cs a b c d 0 (↑(List.length h.cs) : Int) 0)
  (ite2 (compsOK (a, b, c, d) p h.cs)
    (some ⟨.one (.bool (decide (packs (a, b, c, d) p h.cs ≤ 65536))), [], []⟩)
    (some ⟨.one (.bool false), [], []⟩))
  none) := by kernel_rfl
def U_tileFits_0 (p : Pm) (l : List (Int × Bool × Int × Int)) (a b c d s n i : Int) : LT :=
  (.br (decide (i < n))
    (.br (decide (0 ≤ i ∧ i < (↑(List.length l) : Int)))
      (.br (k_tileFits_1 p l a b c d (reduce a b c d (gC l (Int.toNat i)).snd.snd.fst (gC l (Int.toNat i)).snd.snd.snd).fst (reduce a b c d (gC l (Int.toNat i)).snd.snd.fst (gC l (Int.toNat i)).snd.snd.snd).snd.fst (reduce a b c d (gC l (Int.toNat i)).snd.snd.fst (gC l (Int.toNat i)).snd.snd.snd).snd.snd.fst (reduce a b c d (gC l (Int.toNat i)).snd.snd.fst (gC l (Int.toNat i)).snd.snd.snd).snd.snd.snd s n i 0)
        (.br (compOK ((reduce a b c d (gC l (Int.toNat i)).snd.snd.fst (gC l (Int.toNat i)).snd.snd.snd).fst, (reduce a b c d (gC l (Int.toNat i)).snd.snd.fst (gC l (Int.toNat i)).snd.snd.snd).snd.fst, (reduce a b c d (gC l (Int.toNat i)).snd.snd.fst (gC l (Int.toNat i)).snd.snd.snd).snd.snd.fst, (reduce a b c d (gC l (Int.toNat i)).snd.snd.fst (gC l (Int.toNat i)).snd.snd.snd).snd.snd.snd) p)
          (.leaf Ex.normal [V.one (C.ptr 0 0), V.one (C.ptr 1 0), .one (.int .i64 (s + p.la * compN ((reduce a b c d (gC l (Int.toNat i)).snd.snd.fst (gC l (Int.toNat i)).snd.snd.snd).fst, (reduce a b c d (gC l (Int.toNat i)).snd.snd.fst (gC l (Int.toNat i)).snd.snd.snd).snd.fst, (reduce a b c d (gC l (Int.toNat i)).snd.snd.fst (gC l (Int.toNat i)).snd.snd.snd).snd.snd.fst, (reduce a b c d (gC l (Int.toNat i)).snd.snd.fst (gC l (Int.toNat i)).snd.snd.snd).snd.snd.snd) p)), V.one (C.lst (Sh.pair (Sh.int .i64) (Sh.pair Sh.bool (Sh.pair (Sh.int .i64) (Sh.int .i64)))) l), .one (.int .i64 n), .one (.int .i64 (IntKind.wrap .i64 (i + 1)))] [some (Blk.box [.int .i64 p.ke, .int .i64 p.le, .int .i64 p.co, .int .i64 p.bx, .int .i64 p.bw, C.lst (Sh.pair (Sh.int .i64) (Sh.int .i64)) p.pr, .int .i64 p.od, .int .i64 p.la, .bool p.m1, .bool p.m2, .bool p.m3, .bool p.m4, .bool p.m5, .bool p.dv, .bool p.sy, .bool p.fe, C.lst (Sh.int .i64) p.st, .int .i64 p.de, .int .i64 p.sf]), some (Blk.box [.int .i64 a, .int .i64 b, .int .i64 c, .int .i64 d])])
          (.leaf Ex.ret [.one (.bool false)] []))
        .no)
      .no)
    (.leaf (Ex.exit 0) [.one (.int .i64 s)] []))
def T_tileFits_0 : List V → List (Option Blk) → LT := fun vs bl => (pO vs fun c' vs => kP 0 0 c' <| pO vs fun c' vs => kP 1 0 c' <| pO vs fun c' vs => kI c' fun s => pO vs fun c' vs => kLC c' fun l => pO vs fun c' vs => kI c' fun n => pO vs fun c' vs => kI c' fun i => pE vs <| bB bl fun q' bl => rdPm q' fun p => bB bl fun q' bl => tC q' fun c' q' => kI c' fun a => tC q' fun c' q' => kI c' fun b => tC q' fun c' q' => kI c' fun c => tC q' fun c' q' => kI c' fun d => tE q' <| bE bl <| some (U_tileFits_0 p l a b c d s n i)).getD .no
theorem tu_tileFits_0 (p : Pm) (l : List (Int × Bool × Int × Int)) (a b c d s n i : Int) : T_tileFits_0 [.one (.ptr 0 0), .one (.ptr 1 0), .one (.int .i64 s), .one (.lst (.pair (.int .i64) (.pair .bool (.pair (.int .i64) (.int .i64)))) l), .one (.int .i64 n), .one (.int .i64 i)] [some (.box (pmC p)), some (.box [.int .i64 a, .int .i64 b, .int .i64 c, .int .i64 d])] = U_tileFits_0 p l a b c d s n i := by kernel_rfl
theorem b_tileFits_0 (p : Pm) (l : List (Int × Bool × Int × Int)) (a b c d s n i : Int) (Kc : Ex → Option (List V × List (Option Blk)) → Option Out) : exec Try.prog t_tileFits (annOf []) l_tileFits 20 0 (loopOf Try.f53 0) (unp 92 [4, 5, 7, 16, 17, 18] [.one (.ptr 0 0), .one (.ptr 1 0), .one (.int .i64 s), .one (.lst (.pair (.int .i64) (.pair .bool (.pair (.int .i64) (.int .i64)))) l), .one (.int .i64 n), .one (.int .i64 i)] [some (.box (pmC p)), some (.box [.int .i64 a, .int .i64 b, .int .i64 c, .int .i64 d])]) (endc 0 92 [4, 5, 7, 16, 17, 18] (kxOf [7] [6]) Kc) =
  (T_tileFits_0 [.one (.ptr 0 0), .one (.ptr 1 0), .one (.int .i64 s), .one (.lst (.pair (.int .i64) (.pair .bool (.pair (.int .i64) (.int .i64)))) l), .one (.int .i64 n), .one (.int .i64 i)] [some (.box (pmC p)), some (.box [.int .i64 a, .int .i64 b, .int .i64 c, .int .i64 d])]).runc Kc := by kernel_rfl
def U_tileFits_1 (p : Pm) (l : List (Int × Bool × Int × Int)) (a b c d e f g o s n i res : Int) : LT :=
  (.br (decide (res ≤ p.le))
    (.br (inr 0 12 (prec p res).fst && inr 0 12 (prec p res).snd)
      (.br (decide (res > 0))
        (.br (k_tileFits_2 p l (idxs p.le res) a b c d e f g o (IntKind.wrap .i64 ((prec p res).fst - 1)) (IntKind.wrap .i64 ((prec p res).snd - 1)) (IntKind.wrap .i64 (s + IntKind.wrap .i64 (cellsN (resR e f g o p.le res).fst (resR e f g o p.le res).snd.fst (resR e f g o p.le res).snd.snd.fst (resR e f g o p.le res).snd.snd.snd (prec p res).fst (prec p res).snd * p.la))) n i res (↑(List.length (idxs p.le res)) : Int) 0)
          (.br (p_tileFits_2 p l (idxs p.le res) a b c d e f g o (IntKind.wrap .i64 ((prec p res).fst - 1)) (IntKind.wrap .i64 ((prec p res).snd - 1)) (IntKind.wrap .i64 (s + IntKind.wrap .i64 (cellsN (resR e f g o p.le res).fst (resR e f g o p.le res).snd.fst (resR e f g o p.le res).snd.snd.fst (resR e f g o p.le res).snd.snd.snd (prec p res).fst (prec p res).snd * p.la))) n i res)
            (.leaf Ex.normal [V.one (C.ptr 0 0), V.one (C.ptr 1 0), .one (.int .i64 (IntKind.wrap .i64 (s + IntKind.wrap .i64 (cellsN (resR e f g o p.le res).fst (resR e f g o p.le res).snd.fst (resR e f g o p.le res).snd.snd.fst (resR e f g o p.le res).snd.snd.snd (prec p res).fst (prec p res).snd * p.la)))), V.one (C.ptr 2 0), .one (.int .i64 (IntKind.wrap .i64 (res + 1))), V.one (C.lst (Sh.pair (Sh.int .i64) (Sh.pair Sh.bool (Sh.pair (Sh.int .i64) (Sh.int .i64)))) l), .one (.int .i64 n), .one (.int .i64 i)] [some (Blk.box [.int .i64 p.ke, .int .i64 p.le, .int .i64 p.co, .int .i64 p.bx, .int .i64 p.bw, C.lst (Sh.pair (Sh.int .i64) (Sh.int .i64)) p.pr, .int .i64 p.od, .int .i64 p.la, .bool p.m1, .bool p.m2, .bool p.m3, .bool p.m4, .bool p.m5, .bool p.dv, .bool p.sy, .bool p.fe, C.lst (Sh.int .i64) p.st, .int .i64 p.de, .int .i64 p.sf]), some (Blk.box [.int .i64 a, .int .i64 b, .int .i64 c, .int .i64 d]), some (Blk.box [.int .i64 e, .int .i64 f, .int .i64 g, .int .i64 o])])
            (.leaf Ex.ret [.one (.bool false)] []))
          .no)
        (.br (k_tileFits_2 p l (idxs p.le res) a b c d e f g o (prec p res).fst (prec p res).snd (IntKind.wrap .i64 (s + IntKind.wrap .i64 (cellsN (resR e f g o p.le res).fst (resR e f g o p.le res).snd.fst (resR e f g o p.le res).snd.snd.fst (resR e f g o p.le res).snd.snd.snd (prec p res).fst (prec p res).snd * p.la))) n i res (↑(List.length (idxs p.le res)) : Int) 0)
          (.br (p_tileFits_2 p l (idxs p.le res) a b c d e f g o (prec p res).fst (prec p res).snd (IntKind.wrap .i64 (s + IntKind.wrap .i64 (cellsN (resR e f g o p.le res).fst (resR e f g o p.le res).snd.fst (resR e f g o p.le res).snd.snd.fst (resR e f g o p.le res).snd.snd.snd (prec p res).fst (prec p res).snd * p.la))) n i res)
            (.leaf Ex.normal [V.one (C.ptr 0 0), V.one (C.ptr 1 0), .one (.int .i64 (IntKind.wrap .i64 (s + IntKind.wrap .i64 (cellsN (resR e f g o p.le res).fst (resR e f g o p.le res).snd.fst (resR e f g o p.le res).snd.snd.fst (resR e f g o p.le res).snd.snd.snd (prec p res).fst (prec p res).snd * p.la)))), V.one (C.ptr 2 0), .one (.int .i64 (IntKind.wrap .i64 (res + 1))), V.one (C.lst (Sh.pair (Sh.int .i64) (Sh.pair Sh.bool (Sh.pair (Sh.int .i64) (Sh.int .i64)))) l), .one (.int .i64 n), .one (.int .i64 i)] [some (Blk.box [.int .i64 p.ke, .int .i64 p.le, .int .i64 p.co, .int .i64 p.bx, .int .i64 p.bw, C.lst (Sh.pair (Sh.int .i64) (Sh.int .i64)) p.pr, .int .i64 p.od, .int .i64 p.la, .bool p.m1, .bool p.m2, .bool p.m3, .bool p.m4, .bool p.m5, .bool p.dv, .bool p.sy, .bool p.fe, C.lst (Sh.int .i64) p.st, .int .i64 p.de, .int .i64 p.sf]), some (Blk.box [.int .i64 a, .int .i64 b, .int .i64 c, .int .i64 d]), some (Blk.box [.int .i64 e, .int .i64 f, .int .i64 g, .int .i64 o])])
            (.leaf Ex.ret [.one (.bool false)] []))
          .no))
      .no)
    (.leaf (Ex.exit 2) [V.one (C.ptr 0 0), V.one (C.ptr 1 0), .one (.int .i64 s), V.one (C.lst (Sh.pair (Sh.int .i64) (Sh.pair Sh.bool (Sh.pair (Sh.int .i64) (Sh.int .i64)))) l), .one (.int .i64 n), .one (.int .i64 i)] [some (Blk.box [.int .i64 p.ke, .int .i64 p.le, .int .i64 p.co, .int .i64 p.bx, .int .i64 p.bw, C.lst (Sh.pair (Sh.int .i64) (Sh.int .i64)) p.pr, .int .i64 p.od, .int .i64 p.la, .bool p.m1, .bool p.m2, .bool p.m3, .bool p.m4, .bool p.m5, .bool p.dv, .bool p.sy, .bool p.fe, C.lst (Sh.int .i64) p.st, .int .i64 p.de, .int .i64 p.sf]), some (Blk.box [.int .i64 a, .int .i64 b, .int .i64 c, .int .i64 d])]))
def T_tileFits_1 : List V → List (Option Blk) → LT := fun vs bl => (pO vs fun c' vs => kP 0 0 c' <| pO vs fun c' vs => kP 1 0 c' <| pO vs fun c' vs => kI c' fun s => pO vs fun c' vs => kP 2 0 c' <| pO vs fun c' vs => kI c' fun res => pO vs fun c' vs => kLC c' fun l => pO vs fun c' vs => kI c' fun n => pO vs fun c' vs => kI c' fun i => pE vs <| bB bl fun q' bl => rdPm q' fun p => bB bl fun q' bl => tC q' fun c' q' => kI c' fun a => tC q' fun c' q' => kI c' fun b => tC q' fun c' q' => kI c' fun c => tC q' fun c' q' => kI c' fun d => tE q' <| bB bl fun q' bl => tC q' fun c' q' => kI c' fun e => tC q' fun c' q' => kI c' fun f => tC q' fun c' q' => kI c' fun g => tC q' fun c' q' => kI c' fun o => tE q' <| bE bl <| some (U_tileFits_1 p l a b c d e f g o s n i res)).getD .no
theorem tu_tileFits_1 (p : Pm) (l : List (Int × Bool × Int × Int)) (a b c d e f g o s n i res : Int) : T_tileFits_1 [.one (.ptr 0 0), .one (.ptr 1 0), .one (.int .i64 s), .one (.ptr 2 0), .one (.int .i64 res), .one (.lst (.pair (.int .i64) (.pair .bool (.pair (.int .i64) (.int .i64)))) l), .one (.int .i64 n), .one (.int .i64 i)] [some (.box (pmC p)), some (.box [.int .i64 a, .int .i64 b, .int .i64 c, .int .i64 d]), some (.box [.int .i64 e, .int .i64 f, .int .i64 g, .int .i64 o])] = U_tileFits_1 p l a b c d e f g o s n i res := by kernel_rfl
theorem b_tileFits_1 (p : Pm) (l : List (Int × Bool × Int × Int)) (a b c d e f g o s n i res : Int) (Kc : Ex → Option (List V × List (Option Blk)) → Option Out) : exec Try.prog t_tileFits (annOf []) l_tileFits 20 0 (loopOf Try.f53 1) (unp 92 [4, 5, 7, 10, 11, 16, 17, 18] [.one (.ptr 0 0), .one (.ptr 1 0), .one (.int .i64 s), .one (.ptr 2 0), .one (.int .i64 res), .one (.lst (.pair (.int .i64) (.pair .bool (.pair (.int .i64) (.int .i64)))) l), .one (.int .i64 n), .one (.int .i64 i)] [some (.box (pmC p)), some (.box [.int .i64 a, .int .i64 b, .int .i64 c, .int .i64 d]), some (.box [.int .i64 e, .int .i64 f, .int .i64 g, .int .i64 o])]) (endc 0 92 [4, 5, 7, 10, 11, 16, 17, 18] (kxOf [4, 5, 7, 16, 17, 18] [6]) Kc) =
  (T_tileFits_1 [.one (.ptr 0 0), .one (.ptr 1 0), .one (.int .i64 s), .one (.ptr 2 0), .one (.int .i64 res), .one (.lst (.pair (.int .i64) (.pair .bool (.pair (.int .i64) (.int .i64)))) l), .one (.int .i64 n), .one (.int .i64 i)] [some (.box (pmC p)), some (.box [.int .i64 a, .int .i64 b, .int .i64 c, .int .i64 d]), some (.box [.int .i64 e, .int .i64 f, .int .i64 g, .int .i64 o])]).runc Kc := by kernel_rfl
def U_tileFits_2 (p : Pm) (l : List (Int × Bool × Int × Int)) (t : List Int) (a b c d e f g o x y s m u res : Int) (n i : Int) : LT :=
  (.br (decide (i < n))
    (.br (decide (0 ≤ i ∧ i < (↑(List.length t) : Int)))
      (.br (decide (Int.toNat i < List.length t))
        (.br (inr 0 12 (if x < p.bx then x else p.bx) && inr 0 12 (if y < p.bw then y else p.bw))
          (.br (decide (cellsN (bandR e f g o p.le (gI t (Int.toNat i))).fst (bandR e f g o p.le (gI t (Int.toNat i))).snd.fst (bandR e f g o p.le (gI t (Int.toNat i))).snd.snd.fst (bandR e f g o p.le (gI t (Int.toNat i))).snd.snd.snd (if x < p.bx then x else p.bx) (if y < p.bw then y else p.bw) > 65536))
            (.leaf Ex.ret [.one (.bool false)] [])
            (.leaf Ex.normal [V.one (C.ptr 0 0), V.one (C.ptr 1 0), .one (.int .i64 s), V.one (C.ptr 2 0), .one (.int .i64 res), V.one (C.ptr 3 0), V.one (C.lst (Sh.pair (Sh.int .i64) (Sh.pair Sh.bool (Sh.pair (Sh.int .i64) (Sh.int .i64)))) l), .one (.int .i64 m), .one (.int .i64 u), V.one (C.row 4), .one (.int .i64 n), .one (.int .i64 (IntKind.wrap .i64 (i + 1)))] [some (Blk.box [.int .i64 p.ke, .int .i64 p.le, .int .i64 p.co, .int .i64 p.bx, .int .i64 p.bw, C.lst (Sh.pair (Sh.int .i64) (Sh.int .i64)) p.pr, .int .i64 p.od, .int .i64 p.la, .bool p.m1, .bool p.m2, .bool p.m3, .bool p.m4, .bool p.m5, .bool p.dv, .bool p.sy, .bool p.fe, C.lst (Sh.int .i64) p.st, .int .i64 p.de, .int .i64 p.sf]), some (Blk.box [.int .i64 a, .int .i64 b, .int .i64 c, .int .i64 d]), some (Blk.box [.int .i64 e, .int .i64 f, .int .i64 g, .int .i64 o]), some (Blk.box [.int .i64 x, .int .i64 y]), some (Blk.arr 3 (Sh.int .i64) t)]))
          .no)
        .no)
      .no)
    (.leaf (Ex.exit 4) [V.one (C.ptr 0 0), V.one (C.ptr 1 0), .one (.int .i64 s), V.one (C.ptr 2 0), .one (.int .i64 res), V.one (C.lst (Sh.pair (Sh.int .i64) (Sh.pair Sh.bool (Sh.pair (Sh.int .i64) (Sh.int .i64)))) l), .one (.int .i64 m), .one (.int .i64 u)] [some (Blk.box [.int .i64 p.ke, .int .i64 p.le, .int .i64 p.co, .int .i64 p.bx, .int .i64 p.bw, C.lst (Sh.pair (Sh.int .i64) (Sh.int .i64)) p.pr, .int .i64 p.od, .int .i64 p.la, .bool p.m1, .bool p.m2, .bool p.m3, .bool p.m4, .bool p.m5, .bool p.dv, .bool p.sy, .bool p.fe, C.lst (Sh.int .i64) p.st, .int .i64 p.de, .int .i64 p.sf]), some (Blk.box [.int .i64 a, .int .i64 b, .int .i64 c, .int .i64 d]), some (Blk.box [.int .i64 e, .int .i64 f, .int .i64 g, .int .i64 o])]))
def T_tileFits_2 : List V → List (Option Blk) → LT := fun vs bl => (pO vs fun c' vs => kP 0 0 c' <| pO vs fun c' vs => kP 1 0 c' <| pO vs fun c' vs => kI c' fun s => pO vs fun c' vs => kP 2 0 c' <| pO vs fun c' vs => kI c' fun res => pO vs fun c' vs => kP 3 0 c' <| pO vs fun c' vs => kLC c' fun l => pO vs fun c' vs => kI c' fun m => pO vs fun c' vs => kI c' fun u => pO vs fun c' vs => kR 4 c' <| pO vs fun c' vs => kI c' fun n => pO vs fun c' vs => kI c' fun i => pE vs <| bB bl fun q' bl => rdPm q' fun p => bB bl fun q' bl => tC q' fun c' q' => kI c' fun a => tC q' fun c' q' => kI c' fun b => tC q' fun c' q' => kI c' fun c => tC q' fun c' q' => kI c' fun d => tE q' <| bB bl fun q' bl => tC q' fun c' q' => kI c' fun e => tC q' fun c' q' => kI c' fun f => tC q' fun c' q' => kI c' fun g => tC q' fun c' q' => kI c' fun o => tE q' <| bB bl fun q' bl => tC q' fun c' q' => kI c' fun x => tC q' fun c' q' => kI c' fun y => tE q' <| bAI 3 bl fun t bl => bE bl <| some (U_tileFits_2 p l t a b c d e f g o x y s m u res n i)).getD .no
theorem tu_tileFits_2 (p : Pm) (l : List (Int × Bool × Int × Int)) (t : List Int) (a b c d e f g o x y s m u res : Int) (n i : Int) : T_tileFits_2 [.one (.ptr 0 0), .one (.ptr 1 0), .one (.int .i64 s), .one (.ptr 2 0), .one (.int .i64 res), .one (.ptr 3 0), .one (.lst (.pair (.int .i64) (.pair .bool (.pair (.int .i64) (.int .i64)))) l), .one (.int .i64 m), .one (.int .i64 u), .one (.row 4), .one (.int .i64 n), .one (.int .i64 i)] [some (.box (pmC p)), some (.box [.int .i64 a, .int .i64 b, .int .i64 c, .int .i64 d]), some (.box [.int .i64 e, .int .i64 f, .int .i64 g, .int .i64 o]), some (.box [.int .i64 x, .int .i64 y]), some (.arr 3 (.int .i64) t)] = U_tileFits_2 p l t a b c d e f g o x y s m u res n i := by kernel_rfl
theorem b_tileFits_2 (p : Pm) (l : List (Int × Bool × Int × Int)) (t : List Int) (a b c d e f g o x y s m u res : Int) (n i : Int) (Kc : Ex → Option (List V × List (Option Blk)) → Option Out) : exec Try.prog t_tileFits (annOf []) l_tileFits 20 0 (loopOf Try.f53 2) (unp 92 [4, 5, 7, 10, 11, 12, 16, 17, 18, 65, 66, 67] [.one (.ptr 0 0), .one (.ptr 1 0), .one (.int .i64 s), .one (.ptr 2 0), .one (.int .i64 res), .one (.ptr 3 0), .one (.lst (.pair (.int .i64) (.pair .bool (.pair (.int .i64) (.int .i64)))) l), .one (.int .i64 m), .one (.int .i64 u), .one (.row 4), .one (.int .i64 n), .one (.int .i64 i)] [some (.box (pmC p)), some (.box [.int .i64 a, .int .i64 b, .int .i64 c, .int .i64 d]), some (.box [.int .i64 e, .int .i64 f, .int .i64 g, .int .i64 o]), some (.box [.int .i64 x, .int .i64 y]), some (.arr 3 (.int .i64) t)]) (endc 0 92 [4, 5, 7, 10, 11, 12, 16, 17, 18, 65, 66, 67] (kxOf [4, 5, 7, 10, 11, 16, 17, 18] [6]) Kc) =
  (T_tileFits_2 [.one (.ptr 0 0), .one (.ptr 1 0), .one (.int .i64 s), .one (.ptr 2 0), .one (.int .i64 res), .one (.ptr 3 0), .one (.lst (.pair (.int .i64) (.pair .bool (.pair (.int .i64) (.int .i64)))) l), .one (.int .i64 m), .one (.int .i64 u), .one (.row 4), .one (.int .i64 n), .one (.int .i64 i)] [some (.box (pmC p)), some (.box [.int .i64 a, .int .i64 b, .int .i64 c, .int .i64 d]), some (.box [.int .i64 e, .int .i64 f, .int .i64 g, .int .i64 o]), some (.box [.int .i64 x, .int .i64 y]), some (.arr 3 (.int .i64) t)]).runc Kc := by kernel_rfl
def t_ref23_Packets : FuncId → Option Summ := tabOf [(38, G_ref01_Reduce), (72, G_ref06_Resolution), (73, G_ref23_Precinct), (75, G_ref23_Grid)]
def l_ref23_Packets : Nat → Option LSumm := ltOf [(3, ⟨0, 58, [3, 4, 5, 7, 8], (kxOf [4, 7] [6]), S_ref23_Packets_0⟩), (7, ⟨0, 58, [3, 4, 5, 7, 8, 9, 10], (kxOf [3, 4, 5, 7, 8] [6]), S_ref23_Packets_1⟩)]
theorem e_ref23_Packets (h : Hd) (p : Pm) (a b c d : Int) : funR Try.prog t_ref23_Packets (annOf []) l_ref23_Packets 20 Try.f45 [.agg (hdC h), .agg (pmC p), .agg [.int .i64 a, .int .i64 b, .int .i64 c, .int .i64 d]] [] =
  (ite2 (k_ref23_Packets_0 h p a b c d 0 0)
  (some ⟨.one (.int .i64 (IntKind.wrap .i64 (totN (a, b, c, d) p h.cs (List.length h.cs) * p.la))), [], []⟩)
  none) := by kernel_rfl
def U_ref23_Packets_0 (h : Hd) (p : Pm) (a b c d s i : Int) : LT :=
  (.br (decide (i < (↑(List.length h.cs) : Int)))
    (.br (decide (0 ≤ i ∧ i < (↑(List.length h.cs) : Int)))
      (.br (decide (0 ≤ i ∧ i < (↑(List.length h.cs) : Int)))
        (.br (k_ref23_Packets_1 h p a b c d (reduce a b c d (gC h.cs (Int.toNat i)).snd.snd.fst (gC h.cs (Int.toNat i)).snd.snd.snd).fst (reduce a b c d (gC h.cs (Int.toNat i)).snd.snd.fst (gC h.cs (Int.toNat i)).snd.snd.snd).snd.fst (reduce a b c d (gC h.cs (Int.toNat i)).snd.snd.fst (gC h.cs (Int.toNat i)).snd.snd.snd).snd.snd.fst (reduce a b c d (gC h.cs (Int.toNat i)).snd.snd.fst (gC h.cs (Int.toNat i)).snd.snd.snd).snd.snd.snd s i 0)
          (.leaf Ex.normal [V.one (C.ptr 0 0), V.one (C.ptr 1 0), V.one (C.ptr 2 0), .one (.int .i64 (s + compN ((reduce a b c d (gC h.cs (Int.toNat i)).snd.snd.fst (gC h.cs (Int.toNat i)).snd.snd.snd).fst, (reduce a b c d (gC h.cs (Int.toNat i)).snd.snd.fst (gC h.cs (Int.toNat i)).snd.snd.snd).snd.fst, (reduce a b c d (gC h.cs (Int.toNat i)).snd.snd.fst (gC h.cs (Int.toNat i)).snd.snd.snd).snd.snd.fst, (reduce a b c d (gC h.cs (Int.toNat i)).snd.snd.fst (gC h.cs (Int.toNat i)).snd.snd.snd).snd.snd.snd) p)), .one (.int .i64 (IntKind.wrap .i64 (i + 1)))] [some (Blk.box [.int .i64 h.a, .int .i64 h.b, .int .i64 h.c, .int .i64 h.d, .int .i64 h.tw, .int .i64 h.th, C.lst (Sh.pair (Sh.int .i64) (Sh.pair Sh.bool (Sh.pair (Sh.int .i64) (Sh.int .i64)))) h.cs]), some (Blk.box [.int .i64 p.ke, .int .i64 p.le, .int .i64 p.co, .int .i64 p.bx, .int .i64 p.bw, C.lst (Sh.pair (Sh.int .i64) (Sh.int .i64)) p.pr, .int .i64 p.od, .int .i64 p.la, .bool p.m1, .bool p.m2, .bool p.m3, .bool p.m4, .bool p.m5, .bool p.dv, .bool p.sy, .bool p.fe, C.lst (Sh.int .i64) p.st, .int .i64 p.de, .int .i64 p.sf]), some (Blk.box [.int .i64 a, .int .i64 b, .int .i64 c, .int .i64 d])])
          .no)
        .no)
      .no)
    (.leaf (Ex.exit 0) [V.one (C.ptr 0 0), .one (.int .i64 s)] [some (Blk.box [.int .i64 p.ke, .int .i64 p.le, .int .i64 p.co, .int .i64 p.bx, .int .i64 p.bw, C.lst (Sh.pair (Sh.int .i64) (Sh.int .i64)) p.pr, .int .i64 p.od, .int .i64 p.la, .bool p.m1, .bool p.m2, .bool p.m3, .bool p.m4, .bool p.m5, .bool p.dv, .bool p.sy, .bool p.fe, C.lst (Sh.int .i64) p.st, .int .i64 p.de, .int .i64 p.sf])]))
def T_ref23_Packets_0 : List V → List (Option Blk) → LT := fun vs bl => (pO vs fun c' vs => kP 0 0 c' <| pO vs fun c' vs => kP 1 0 c' <| pO vs fun c' vs => kP 2 0 c' <| pO vs fun c' vs => kI c' fun s => pO vs fun c' vs => kI c' fun i => pE vs <| bB bl fun q' bl => rdHd q' fun h => bB bl fun q' bl => rdPm q' fun p => bB bl fun q' bl => tC q' fun c' q' => kI c' fun a => tC q' fun c' q' => kI c' fun b => tC q' fun c' q' => kI c' fun c => tC q' fun c' q' => kI c' fun d => tE q' <| bE bl <| some (U_ref23_Packets_0 h p a b c d s i)).getD .no
theorem tu_ref23_Packets_0 (h : Hd) (p : Pm) (a b c d s i : Int) : T_ref23_Packets_0 [.one (.ptr 0 0), .one (.ptr 1 0), .one (.ptr 2 0), .one (.int .i64 s), .one (.int .i64 i)] [some (.box (hdC h)), some (.box (pmC p)), some (.box [.int .i64 a, .int .i64 b, .int .i64 c, .int .i64 d])] = U_ref23_Packets_0 h p a b c d s i := by kernel_rfl
theorem b_ref23_Packets_0 (h : Hd) (p : Pm) (a b c d s i : Int) (Kc : Ex → Option (List V × List (Option Blk)) → Option Out) : exec Try.prog t_ref23_Packets (annOf []) l_ref23_Packets 20 0 (loopOf Try.f45 0) (unp 58 [3, 4, 5, 7, 8] [.one (.ptr 0 0), .one (.ptr 1 0), .one (.ptr 2 0), .one (.int .i64 s), .one (.int .i64 i)] [some (.box (hdC h)), some (.box (pmC p)), some (.box [.int .i64 a, .int .i64 b, .int .i64 c, .int .i64 d])]) (endc 0 58 [3, 4, 5, 7, 8] (kxOf [4, 7] [6]) Kc) =
  (T_ref23_Packets_0 [.one (.ptr 0 0), .one (.ptr 1 0), .one (.ptr 2 0), .one (.int .i64 s), .one (.int .i64 i)] [some (.box (hdC h)), some (.box (pmC p)), some (.box [.int .i64 a, .int .i64 b, .int .i64 c, .int .i64 d])]).runc Kc := by kernel_rfl
def U_ref23_Packets_1 (h : Hd) (p : Pm) (a b c d e f g o s i res : Int) : LT :=
  (.br (decide (res ≤ p.le))
    (.br (inr 0 12 (prec p res).fst && inr 0 12 (prec p res).snd)
      (.leaf Ex.normal [V.one (C.ptr 0 0), V.one (C.ptr 1 0), V.one (C.ptr 2 0), .one (.int .i64 (IntKind.wrap .i64 (s + cellsN (resR e f g o p.le res).fst (resR e f g o p.le res).snd.fst (resR e f g o p.le res).snd.snd.fst (resR e f g o p.le res).snd.snd.snd (prec p res).fst (prec p res).snd))), .one (.int .i64 i), V.one (C.ptr 3 0), .one (.int .i64 (IntKind.wrap .i64 (res + 1)))] [some (Blk.box [.int .i64 h.a, .int .i64 h.b, .int .i64 h.c, .int .i64 h.d, .int .i64 h.tw, .int .i64 h.th, C.lst (Sh.pair (Sh.int .i64) (Sh.pair Sh.bool (Sh.pair (Sh.int .i64) (Sh.int .i64)))) h.cs]), some (Blk.box [.int .i64 p.ke, .int .i64 p.le, .int .i64 p.co, .int .i64 p.bx, .int .i64 p.bw, C.lst (Sh.pair (Sh.int .i64) (Sh.int .i64)) p.pr, .int .i64 p.od, .int .i64 p.la, .bool p.m1, .bool p.m2, .bool p.m3, .bool p.m4, .bool p.m5, .bool p.dv, .bool p.sy, .bool p.fe, C.lst (Sh.int .i64) p.st, .int .i64 p.de, .int .i64 p.sf]), some (Blk.box [.int .i64 a, .int .i64 b, .int .i64 c, .int .i64 d]), some (Blk.box [.int .i64 e, .int .i64 f, .int .i64 g, .int .i64 o])])
      .no)
    (.leaf (Ex.exit 2) [V.one (C.ptr 0 0), V.one (C.ptr 1 0), V.one (C.ptr 2 0), .one (.int .i64 s), .one (.int .i64 i)] [some (Blk.box [.int .i64 h.a, .int .i64 h.b, .int .i64 h.c, .int .i64 h.d, .int .i64 h.tw, .int .i64 h.th, C.lst (Sh.pair (Sh.int .i64) (Sh.pair Sh.bool (Sh.pair (Sh.int .i64) (Sh.int .i64)))) h.cs]), some (Blk.box [.int .i64 p.ke, .int .i64 p.le, .int .i64 p.co, .int .i64 p.bx, .int .i64 p.bw, C.lst (Sh.pair (Sh.int .i64) (Sh.int .i64)) p.pr, .int .i64 p.od, .int .i64 p.la, .bool p.m1, .bool p.m2, .bool p.m3, .bool p.m4, .bool p.m5, .bool p.dv, .bool p.sy, .bool p.fe, C.lst (Sh.int .i64) p.st, .int .i64 p.de, .int .i64 p.sf]), some (Blk.box [.int .i64 a, .int .i64 b, .int .i64 c, .int .i64 d])]))
def T_ref23_Packets_1 : List V → List (Option Blk) → LT := fun vs bl => (pO vs fun c' vs => kP 0 0 c' <| pO vs fun c' vs => kP 1 0 c' <| pO vs fun c' vs => kP 2 0 c' <| pO vs fun c' vs => kI c' fun s => pO vs fun c' vs => kI c' fun i => pO vs fun c' vs => kP 3 0 c' <| pO vs fun c' vs => kI c' fun res => pE vs <| bB bl fun q' bl => rdHd q' fun h => bB bl fun q' bl => rdPm q' fun p => bB bl fun q' bl => tC q' fun c' q' => kI c' fun a => tC q' fun c' q' => kI c' fun b => tC q' fun c' q' => kI c' fun c => tC q' fun c' q' => kI c' fun d => tE q' <| bB bl fun q' bl => tC q' fun c' q' => kI c' fun e => tC q' fun c' q' => kI c' fun f => tC q' fun c' q' => kI c' fun g => tC q' fun c' q' => kI c' fun o => tE q' <| bE bl <| some (U_ref23_Packets_1 h p a b c d e f g o s i res)).getD .no
theorem tu_ref23_Packets_1 (h : Hd) (p : Pm) (a b c d e f g o s i res : Int) : T_ref23_Packets_1 [.one (.ptr 0 0), .one (.ptr 1 0), .one (.ptr 2 0), .one (.int .i64 s), .one (.int .i64 i), .one (.ptr 3 0), .one (.int .i64 res)] [some (.box (hdC h)), some (.box (pmC p)), some (.box [.int .i64 a, .int .i64 b, .int .i64 c, .int .i64 d]), some (.box [.int .i64 e, .int .i64 f, .int .i64 g, .int .i64 o])] = U_ref23_Packets_1 h p a b c d e f g o s i res := by kernel_rfl
theorem b_ref23_Packets_1 (h : Hd) (p : Pm) (a b c d e f g o s i res : Int) (Kc : Ex → Option (List V × List (Option Blk)) → Option Out) : exec Try.prog t_ref23_Packets (annOf []) l_ref23_Packets 20 0 (loopOf Try.f45 1) (unp 58 [3, 4, 5, 7, 8, 9, 10] [.one (.ptr 0 0), .one (.ptr 1 0), .one (.ptr 2 0), .one (.int .i64 s), .one (.int .i64 i), .one (.ptr 3 0), .one (.int .i64 res)] [some (.box (hdC h)), some (.box (pmC p)), some (.box [.int .i64 a, .int .i64 b, .int .i64 c, .int .i64 d]), some (.box [.int .i64 e, .int .i64 f, .int .i64 g, .int .i64 o])]) (endc 0 58 [3, 4, 5, 7, 8, 9, 10] (kxOf [3, 4, 5, 7, 8] [6]) Kc) =
  (T_ref23_Packets_1 [.one (.ptr 0 0), .one (.ptr 1 0), .one (.ptr 2 0), .one (.int .i64 s), .one (.int .i64 i), .one (.ptr 3 0), .one (.int .i64 res)] [some (.box (hdC h)), some (.box (pmC p)), some (.box [.int .i64 a, .int .i64 b, .int .i64 c, .int .i64 d]), some (.box [.int .i64 e, .int .i64 f, .int .i64 g, .int .i64 o])]).runc Kc := by kernel_rfl
def t_ref23_Blocks : FuncId → Option Summ := tabOf [(38, G_ref01_Reduce), (73, G_ref23_Precinct), (75, G_ref23_Grid), (80, G_ref06_Band)]
def l_ref23_Blocks : Nat → Option LSumm := ltOf [(3, ⟨0, 72, [3, 4, 5, 7, 8], (kxOf [7] [6]), S_ref23_Blocks_0⟩), (7, ⟨0, 72, [3, 4, 5, 7, 8, 9, 10], (kxOf [3, 4, 5, 7, 8] [6]), S_ref23_Blocks_1⟩)]
theorem e_ref23_Blocks (h : Hd) (p : Pm) (a b c d : Int) : funR Try.prog t_ref23_Blocks (annOf []) l_ref23_Blocks 20 Try.f90 [.agg (hdC h), .agg (pmC p), .agg [.int .i64 a, .int .i64 b, .int .i64 c, .int .i64 d]] [] =
  (ite2 (k_ref23_Blocks_0 h p a b c d 0 0)
  (some ⟨.one (.int .i64 (blks (a, b, c, d) p h.cs)), [], []⟩)
  none) := by kernel_rfl
def U_ref23_Blocks_0 (h : Hd) (p : Pm) (a b c d s i : Int) : LT :=
  (.br (decide (i < (↑(List.length h.cs) : Int)))
    (.br (decide (0 ≤ i ∧ i < (↑(List.length h.cs) : Int)))
      (.br (decide (0 ≤ i ∧ i < (↑(List.length h.cs) : Int)))
        (.br (k_ref23_Blocks_1 h p a b c d (reduce a b c d (gC h.cs (Int.toNat i)).snd.snd.fst (gC h.cs (Int.toNat i)).snd.snd.snd).fst (reduce a b c d (gC h.cs (Int.toNat i)).snd.snd.fst (gC h.cs (Int.toNat i)).snd.snd.snd).snd.fst (reduce a b c d (gC h.cs (Int.toNat i)).snd.snd.fst (gC h.cs (Int.toNat i)).snd.snd.snd).snd.snd.fst (reduce a b c d (gC h.cs (Int.toNat i)).snd.snd.fst (gC h.cs (Int.toNat i)).snd.snd.snd).snd.snd.snd s i 0)
          (.leaf Ex.normal [V.one (C.ptr 0 0), V.one (C.ptr 1 0), V.one (C.ptr 2 0), .one (.int .i64 (compB ((reduce a b c d (gC h.cs (Int.toNat i)).snd.snd.fst (gC h.cs (Int.toNat i)).snd.snd.snd).fst, (reduce a b c d (gC h.cs (Int.toNat i)).snd.snd.fst (gC h.cs (Int.toNat i)).snd.snd.snd).snd.fst, (reduce a b c d (gC h.cs (Int.toNat i)).snd.snd.fst (gC h.cs (Int.toNat i)).snd.snd.snd).snd.snd.fst, (reduce a b c d (gC h.cs (Int.toNat i)).snd.snd.fst (gC h.cs (Int.toNat i)).snd.snd.snd).snd.snd.snd) p s)), .one (.int .i64 (IntKind.wrap .i64 (i + 1)))] [some (Blk.box [.int .i64 h.a, .int .i64 h.b, .int .i64 h.c, .int .i64 h.d, .int .i64 h.tw, .int .i64 h.th, C.lst (Sh.pair (Sh.int .i64) (Sh.pair Sh.bool (Sh.pair (Sh.int .i64) (Sh.int .i64)))) h.cs]), some (Blk.box [.int .i64 p.ke, .int .i64 p.le, .int .i64 p.co, .int .i64 p.bx, .int .i64 p.bw, C.lst (Sh.pair (Sh.int .i64) (Sh.int .i64)) p.pr, .int .i64 p.od, .int .i64 p.la, .bool p.m1, .bool p.m2, .bool p.m3, .bool p.m4, .bool p.m5, .bool p.dv, .bool p.sy, .bool p.fe, C.lst (Sh.int .i64) p.st, .int .i64 p.de, .int .i64 p.sf]), some (Blk.box [.int .i64 a, .int .i64 b, .int .i64 c, .int .i64 d])])
          .no)
        .no)
      .no)
    (.leaf (Ex.exit 0) [.one (.int .i64 s)] []))
def T_ref23_Blocks_0 : List V → List (Option Blk) → LT := fun vs bl => (pO vs fun c' vs => kP 0 0 c' <| pO vs fun c' vs => kP 1 0 c' <| pO vs fun c' vs => kP 2 0 c' <| pO vs fun c' vs => kI c' fun s => pO vs fun c' vs => kI c' fun i => pE vs <| bB bl fun q' bl => rdHd q' fun h => bB bl fun q' bl => rdPm q' fun p => bB bl fun q' bl => tC q' fun c' q' => kI c' fun a => tC q' fun c' q' => kI c' fun b => tC q' fun c' q' => kI c' fun c => tC q' fun c' q' => kI c' fun d => tE q' <| bE bl <| some (U_ref23_Blocks_0 h p a b c d s i)).getD .no
theorem tu_ref23_Blocks_0 (h : Hd) (p : Pm) (a b c d s i : Int) : T_ref23_Blocks_0 [.one (.ptr 0 0), .one (.ptr 1 0), .one (.ptr 2 0), .one (.int .i64 s), .one (.int .i64 i)] [some (.box (hdC h)), some (.box (pmC p)), some (.box [.int .i64 a, .int .i64 b, .int .i64 c, .int .i64 d])] = U_ref23_Blocks_0 h p a b c d s i := by kernel_rfl
theorem b_ref23_Blocks_0 (h : Hd) (p : Pm) (a b c d s i : Int) (Kc : Ex → Option (List V × List (Option Blk)) → Option Out) : exec Try.prog t_ref23_Blocks (annOf []) l_ref23_Blocks 20 0 (loopOf Try.f90 0) (unp 72 [3, 4, 5, 7, 8] [.one (.ptr 0 0), .one (.ptr 1 0), .one (.ptr 2 0), .one (.int .i64 s), .one (.int .i64 i)] [some (.box (hdC h)), some (.box (pmC p)), some (.box [.int .i64 a, .int .i64 b, .int .i64 c, .int .i64 d])]) (endc 0 72 [3, 4, 5, 7, 8] (kxOf [7] [6]) Kc) =
  (T_ref23_Blocks_0 [.one (.ptr 0 0), .one (.ptr 1 0), .one (.ptr 2 0), .one (.int .i64 s), .one (.int .i64 i)] [some (.box (hdC h)), some (.box (pmC p)), some (.box [.int .i64 a, .int .i64 b, .int .i64 c, .int .i64 d])]).runc Kc := by kernel_rfl
def U_ref23_Blocks_1 (h : Hd) (p : Pm) (a b c d e f g o s i q : Int) : LT :=
  (.br (decide (q ≤ IntKind.wrap .i64 (3 * p.le)))
    (.br (inr 0 12 (if IntKind.wrap .i64 ((prec p (IntKind.wrap .i64 (Int.tdiv (IntKind.wrap .i64 (q + 2)) 3))).fst - if 1 < IntKind.wrap .i64 (Int.tdiv (IntKind.wrap .i64 (q + 2)) 3) then 1 else IntKind.wrap .i64 (Int.tdiv (IntKind.wrap .i64 (q + 2)) 3)) < p.bx then IntKind.wrap .i64 ((prec p (IntKind.wrap .i64 (Int.tdiv (IntKind.wrap .i64 (q + 2)) 3))).fst - if 1 < IntKind.wrap .i64 (Int.tdiv (IntKind.wrap .i64 (q + 2)) 3) then 1 else IntKind.wrap .i64 (Int.tdiv (IntKind.wrap .i64 (q + 2)) 3)) else p.bx) && inr 0 12 (if IntKind.wrap .i64 ((prec p (IntKind.wrap .i64 (Int.tdiv (IntKind.wrap .i64 (q + 2)) 3))).snd - if 1 < IntKind.wrap .i64 (Int.tdiv (IntKind.wrap .i64 (q + 2)) 3) then 1 else IntKind.wrap .i64 (Int.tdiv (IntKind.wrap .i64 (q + 2)) 3)) < p.bw then IntKind.wrap .i64 ((prec p (IntKind.wrap .i64 (Int.tdiv (IntKind.wrap .i64 (q + 2)) 3))).snd - if 1 < IntKind.wrap .i64 (Int.tdiv (IntKind.wrap .i64 (q + 2)) 3) then 1 else IntKind.wrap .i64 (Int.tdiv (IntKind.wrap .i64 (q + 2)) 3)) else p.bw))
      (.leaf Ex.normal [V.one (C.ptr 0 0), V.one (C.ptr 1 0), V.one (C.ptr 2 0), .one (.int .i64 (if cellsN (bandR e f g o p.le q).fst (bandR e f g o p.le q).snd.fst (bandR e f g o p.le q).snd.snd.fst (bandR e f g o p.le q).snd.snd.snd (if IntKind.wrap .i64 ((prec p (IntKind.wrap .i64 (Int.tdiv (IntKind.wrap .i64 (q + 2)) 3))).fst - if 1 < IntKind.wrap .i64 (Int.tdiv (IntKind.wrap .i64 (q + 2)) 3) then 1 else IntKind.wrap .i64 (Int.tdiv (IntKind.wrap .i64 (q + 2)) 3)) < p.bx then IntKind.wrap .i64 ((prec p (IntKind.wrap .i64 (Int.tdiv (IntKind.wrap .i64 (q + 2)) 3))).fst - if 1 < IntKind.wrap .i64 (Int.tdiv (IntKind.wrap .i64 (q + 2)) 3) then 1 else IntKind.wrap .i64 (Int.tdiv (IntKind.wrap .i64 (q + 2)) 3)) else p.bx) (if IntKind.wrap .i64 ((prec p (IntKind.wrap .i64 (Int.tdiv (IntKind.wrap .i64 (q + 2)) 3))).snd - if 1 < IntKind.wrap .i64 (Int.tdiv (IntKind.wrap .i64 (q + 2)) 3) then 1 else IntKind.wrap .i64 (Int.tdiv (IntKind.wrap .i64 (q + 2)) 3)) < p.bw then IntKind.wrap .i64 ((prec p (IntKind.wrap .i64 (Int.tdiv (IntKind.wrap .i64 (q + 2)) 3))).snd - if 1 < IntKind.wrap .i64 (Int.tdiv (IntKind.wrap .i64 (q + 2)) 3) then 1 else IntKind.wrap .i64 (Int.tdiv (IntKind.wrap .i64 (q + 2)) 3)) else p.bw) > s then cellsN (bandR e f g o p.le q).fst (bandR e f g o p.le q).snd.fst (bandR e f g o p.le q).snd.snd.fst (bandR e f g o p.le q).snd.snd.snd (if IntKind.wrap .i64 ((prec p (IntKind.wrap .i64 (Int.tdiv (IntKind.wrap .i64 (q + 2)) 3))).fst - if 1 < IntKind.wrap .i64 (Int.tdiv (IntKind.wrap .i64 (q + 2)) 3) then 1 else IntKind.wrap .i64 (Int.tdiv (IntKind.wrap .i64 (q + 2)) 3)) < p.bx then IntKind.wrap .i64 ((prec p (IntKind.wrap .i64 (Int.tdiv (IntKind.wrap .i64 (q + 2)) 3))).fst - if 1 < IntKind.wrap .i64 (Int.tdiv (IntKind.wrap .i64 (q + 2)) 3) then 1 else IntKind.wrap .i64 (Int.tdiv (IntKind.wrap .i64 (q + 2)) 3)) else p.bx) (if IntKind.wrap .i64 ((prec p (IntKind.wrap .i64 (Int.tdiv (IntKind.wrap .i64 (q + 2)) 3))).snd - if 1 < IntKind.wrap .i64 (Int.tdiv (IntKind.wrap .i64 (q + 2)) 3) then 1 else IntKind.wrap .i64 (Int.tdiv (IntKind.wrap .i64 (q + 2)) 3)) < p.bw then IntKind.wrap .i64 ((prec p (IntKind.wrap .i64 (Int.tdiv (IntKind.wrap .i64 (q + 2)) 3))).snd - if 1 < IntKind.wrap .i64 (Int.tdiv (IntKind.wrap .i64 (q + 2)) 3) then 1 else IntKind.wrap .i64 (Int.tdiv (IntKind.wrap .i64 (q + 2)) 3)) else p.bw) else s)), .one (.int .i64 i), V.one (C.ptr 3 0), .one (.int .i64 (IntKind.wrap .i64 (q + 1)))] [some (Blk.box [.int .i64 h.a, .int .i64 h.b, .int .i64 h.c, .int .i64 h.d, .int .i64 h.tw, .int .i64 h.th, C.lst (Sh.pair (Sh.int .i64) (Sh.pair Sh.bool (Sh.pair (Sh.int .i64) (Sh.int .i64)))) h.cs]), some (Blk.box [.int .i64 p.ke, .int .i64 p.le, .int .i64 p.co, .int .i64 p.bx, .int .i64 p.bw, C.lst (Sh.pair (Sh.int .i64) (Sh.int .i64)) p.pr, .int .i64 p.od, .int .i64 p.la, .bool p.m1, .bool p.m2, .bool p.m3, .bool p.m4, .bool p.m5, .bool p.dv, .bool p.sy, .bool p.fe, C.lst (Sh.int .i64) p.st, .int .i64 p.de, .int .i64 p.sf]), some (Blk.box [.int .i64 a, .int .i64 b, .int .i64 c, .int .i64 d]), some (Blk.box [.int .i64 e, .int .i64 f, .int .i64 g, .int .i64 o])])
      .no)
    (.leaf (Ex.exit 2) [V.one (C.ptr 0 0), V.one (C.ptr 1 0), V.one (C.ptr 2 0), .one (.int .i64 s), .one (.int .i64 i)] [some (Blk.box [.int .i64 h.a, .int .i64 h.b, .int .i64 h.c, .int .i64 h.d, .int .i64 h.tw, .int .i64 h.th, C.lst (Sh.pair (Sh.int .i64) (Sh.pair Sh.bool (Sh.pair (Sh.int .i64) (Sh.int .i64)))) h.cs]), some (Blk.box [.int .i64 p.ke, .int .i64 p.le, .int .i64 p.co, .int .i64 p.bx, .int .i64 p.bw, C.lst (Sh.pair (Sh.int .i64) (Sh.int .i64)) p.pr, .int .i64 p.od, .int .i64 p.la, .bool p.m1, .bool p.m2, .bool p.m3, .bool p.m4, .bool p.m5, .bool p.dv, .bool p.sy, .bool p.fe, C.lst (Sh.int .i64) p.st, .int .i64 p.de, .int .i64 p.sf]), some (Blk.box [.int .i64 a, .int .i64 b, .int .i64 c, .int .i64 d])]))
def T_ref23_Blocks_1 : List V → List (Option Blk) → LT := fun vs bl => (pO vs fun c' vs => kP 0 0 c' <| pO vs fun c' vs => kP 1 0 c' <| pO vs fun c' vs => kP 2 0 c' <| pO vs fun c' vs => kI c' fun s => pO vs fun c' vs => kI c' fun i => pO vs fun c' vs => kP 3 0 c' <| pO vs fun c' vs => kI c' fun q => pE vs <| bB bl fun q' bl => rdHd q' fun h => bB bl fun q' bl => rdPm q' fun p => bB bl fun q' bl => tC q' fun c' q' => kI c' fun a => tC q' fun c' q' => kI c' fun b => tC q' fun c' q' => kI c' fun c => tC q' fun c' q' => kI c' fun d => tE q' <| bB bl fun q' bl => tC q' fun c' q' => kI c' fun e => tC q' fun c' q' => kI c' fun f => tC q' fun c' q' => kI c' fun g => tC q' fun c' q' => kI c' fun o => tE q' <| bE bl <| some (U_ref23_Blocks_1 h p a b c d e f g o s i q)).getD .no
theorem tu_ref23_Blocks_1 (h : Hd) (p : Pm) (a b c d e f g o s i q : Int) : T_ref23_Blocks_1 [.one (.ptr 0 0), .one (.ptr 1 0), .one (.ptr 2 0), .one (.int .i64 s), .one (.int .i64 i), .one (.ptr 3 0), .one (.int .i64 q)] [some (.box (hdC h)), some (.box (pmC p)), some (.box [.int .i64 a, .int .i64 b, .int .i64 c, .int .i64 d]), some (.box [.int .i64 e, .int .i64 f, .int .i64 g, .int .i64 o])] = U_ref23_Blocks_1 h p a b c d e f g o s i q := by kernel_rfl
theorem b_ref23_Blocks_1 (h : Hd) (p : Pm) (a b c d e f g o s i q : Int) (Kc : Ex → Option (List V × List (Option Blk)) → Option Out) : exec Try.prog t_ref23_Blocks (annOf []) l_ref23_Blocks 20 0 (loopOf Try.f90 1) (unp 72 [3, 4, 5, 7, 8, 9, 10] [.one (.ptr 0 0), .one (.ptr 1 0), .one (.ptr 2 0), .one (.int .i64 s), .one (.int .i64 i), .one (.ptr 3 0), .one (.int .i64 q)] [some (.box (hdC h)), some (.box (pmC p)), some (.box [.int .i64 a, .int .i64 b, .int .i64 c, .int .i64 d]), some (.box [.int .i64 e, .int .i64 f, .int .i64 g, .int .i64 o])]) (endc 0 72 [3, 4, 5, 7, 8, 9, 10] (kxOf [3, 4, 5, 7, 8] [6]) Kc) =
  (T_ref23_Blocks_1 [.one (.ptr 0 0), .one (.ptr 1 0), .one (.ptr 2 0), .one (.int .i64 s), .one (.int .i64 i), .one (.ptr 3 0), .one (.int .i64 q)] [some (.box (hdC h)), some (.box (pmC p)), some (.box [.int .i64 a, .int .i64 b, .int .i64 c, .int .i64 d]), some (.box [.int .i64 e, .int .i64 f, .int .i64 g, .int .i64 o])]).runc Kc := by kernel_rfl
end
end Go.Rx.Ch24

set_option linter.unusedVariables false
set_option maxRecDepth 100000
set_option maxHeartbeats 4000000
open Go Go.Rx Go.Proofs
namespace Go.Rx.Ch24
noncomputable section
def t_params_Check : FuncId → Option Summ := tabOf [(33, G_params_Header), (34, G_rect_Cells), (51, G_params_within), (52, G_params_numbers), (53, G_tileFits)]
def l_params_Check : Nat → Option LSumm := ltOf [(9, ⟨0, 54, [2, 3, 42, 43, 44], (kxOf [] [4]), S_params_Check_0⟩)]
theorem e_params_Check (h : Hd) (p : Pm) : funR Try.prog t_params_Check (annOf []) l_params_Check 20 Try.f25 [.agg (hdC h), .agg (pmC p)] [] =
  (ite2 (small (List.length h.cs))
  (ite2 (header h != 0)
    (some ⟨.one (.int .i64 (header h)), [], []⟩)
    (ite2 (!within 1 3 [p.ke])
      (some ⟨.one (.int .i64 3), [], []⟩)
      (ite2 (!within 0 2 [p.co])
        (some ⟨.one (.int .i64 3), [], []⟩)
        (ite2 (!within 1 5 [p.od])
          (some ⟨.one (.int .i64 3), [], []⟩)
          (ite2 (small (List.length p.pr) && small (List.length p.st))
            (ite2 (!(nums p && colors h p))
              (some ⟨.one (.int .i64 13), [], []⟩)
              (ite2 (decide (h.tw ≤ 4096) && decide (h.th ≤ 4096))
                (ite2 (k_params_Check_0 h p (tilesL h.a h.b h.c h.d h.tw h.th) (↑(List.length (tilesL h.a h.b h.c h.d h.tw h.th)) : Int) 0)
                  (ite2 (p_params_Check_0 h p (tilesL h.a h.b h.c h.d h.tw h.th))
                    (some ⟨.one (.int .i64 0), [], []⟩)
                    (some ⟨.one (.int .i64 5), [], []⟩))
                  none)
                none))
            none)))))
  none) := by kernel_rfl
def U_params_Check_0 (h : Hd) (p : Pm) (t : List Rc) (n i : Int) : LT :=
  (.br (decide (i < n))
    (.br (decide (0 ≤ i ∧ i < (↑(List.length t) : Int)))
      (.br (decide (Int.toNat i < List.length t))
        (.br (nums p && valid (gR t (Int.toNat i)).fst (gR t (Int.toNat i)).snd.fst (gR t (Int.toNat i)).snd.snd.fst (gR t (Int.toNat i)).snd.snd.snd && small (List.length h.cs) && decide (List.length h.cs ≤ 4))
          (.br (!fits ((gR t (Int.toNat i)).fst, (gR t (Int.toNat i)).snd.fst, (gR t (Int.toNat i)).snd.snd.fst, (gR t (Int.toNat i)).snd.snd.snd) p h.cs)
            (.leaf Ex.ret [.one (.int .i64 5)] [])
            (.leaf Ex.normal [V.one (C.ptr 0 0), V.one (C.ptr 1 0), V.one (C.row 2), .one (.int .i64 n), .one (.int .i64 (IntKind.wrap .i64 (i + 1)))] [some (Blk.box [.int .i64 h.a, .int .i64 h.b, .int .i64 h.c, .int .i64 h.d, .int .i64 h.tw, .int .i64 h.th, C.lst (Sh.pair (Sh.int .i64) (Sh.pair Sh.bool (Sh.pair (Sh.int .i64) (Sh.int .i64)))) h.cs]), some (Blk.box [.int .i64 p.ke, .int .i64 p.le, .int .i64 p.co, .int .i64 p.bx, .int .i64 p.bw, C.lst (Sh.pair (Sh.int .i64) (Sh.int .i64)) p.pr, .int .i64 p.od, .int .i64 p.la, .bool p.m1, .bool p.m2, .bool p.m3, .bool p.m4, .bool p.m5, .bool p.dv, .bool p.sy, .bool p.fe, C.lst (Sh.int .i64) p.st, .int .i64 p.de, .int .i64 p.sf]), some (Blk.arr 23 (Sh.pair (Sh.int .i64) (Sh.pair (Sh.int .i64) (Sh.pair (Sh.int .i64) (Sh.int .i64)))) t)]))
          .no)
        .no)
      .no)
    (.leaf (Ex.exit 0) [] []))
def T_params_Check_0 : List V → List (Option Blk) → LT := fun vs bl => (pO vs fun c' vs => kP 0 0 c' <| pO vs fun c' vs => kP 1 0 c' <| pO vs fun c' vs => kR 2 c' <| pO vs fun c' vs => kI c' fun n => pO vs fun c' vs => kI c' fun i => pE vs <| bB bl fun q' bl => rdHd q' fun h => bB bl fun q' bl => rdPm q' fun p => bAR 23 bl fun t bl => bE bl <| some (U_params_Check_0 h p t n i)).getD .no
theorem tu_params_Check_0 (h : Hd) (p : Pm) (t : List Rc) (n i : Int) : T_params_Check_0 [.one (.ptr 0 0), .one (.ptr 1 0), .one (.row 2), .one (.int .i64 n), .one (.int .i64 i)] [some (.box (hdC h)), some (.box (pmC p)), some (.arr 23 (.pair (.int .i64) (.pair (.int .i64) (.pair (.int .i64) (.int .i64)))) t)] = U_params_Check_0 h p t n i := by kernel_rfl
theorem b_params_Check_0 (h : Hd) (p : Pm) (t : List Rc) (n i : Int) (Kc : Ex → Option (List V × List (Option Blk)) → Option Out) : exec Try.prog t_params_Check (annOf []) l_params_Check 20 0 (loopOf Try.f25 0) (unp 54 [2, 3, 42, 43, 44] [.one (.ptr 0 0), .one (.ptr 1 0), .one (.row 2), .one (.int .i64 n), .one (.int .i64 i)] [some (.box (hdC h)), some (.box (pmC p)), some (.arr 23 (.pair (.int .i64) (.pair (.int .i64) (.pair (.int .i64) (.int .i64)))) t)]) (endc 0 54 [2, 3, 42, 43, 44] (kxOf [] [4]) Kc) =
  (T_params_Check_0 [.one (.ptr 0 0), .one (.ptr 1 0), .one (.row 2), .one (.int .i64 n), .one (.int .i64 i)] [some (.box (hdC h)), some (.box (pmC p)), some (.arr 23 (.pair (.int .i64) (.pair (.int .i64) (.pair (.int .i64) (.int .i64)))) t)]).runc Kc := by kernel_rfl
def t_ref23_Check : FuncId → Option Summ := tabOf [(35, G_ref23_Header), (36, G_ref01_Cells), (45, G_ref23_Packets), (88, G_ref23_kinds), (89, G_ref23_numbers), (90, G_ref23_Blocks)]
def l_ref23_Check : Nat → Option LSumm := ltOf [(13, ⟨0, 79, [2, 3, 6, 7], (kxOf [] [4]), S_ref23_Check_0⟩)]
theorem e_ref23_Check (h : Hd) (p : Pm) : funR Try.prog t_ref23_Check (annOf []) l_ref23_Check 20 Try.f71 [.agg (hdC h), .agg (pmC p)] [] =
  (ite2 (small (List.length h.cs))
  (ite2 (header h != 0)
    (some ⟨.one (.int .i64 (header h)), [], []⟩)
    (ite2 (!kinds p)
      (some ⟨.one (.int .i64 3), [], []⟩)
      (ite2 (small (List.length p.pr) && small (List.length p.st))
        (ite2 (!nums p)
          (some ⟨.one (.int .i64 13), [], []⟩)
          (ite2 (p.co != 0)
            (ite2 (decide ((↑(List.length h.cs) : Int) < 3))
              (some ⟨.one (.int .i64 13), [], []⟩)
              (ite2 (decide ((0 : Int) ≤ 0 ∧ 0 < (↑(List.length h.cs) : Int)))
                (ite2 (decide ((0 : Int) ≤ 1 ∧ 1 < (↑(List.length h.cs) : Int)))
                  (ite2 (!((gC h.cs 0).fst == (gC h.cs 1).fst && ((gC h.cs 0).snd.fst == (gC h.cs 1).snd.fst && ((gC h.cs 0).snd.snd.fst == (gC h.cs 1).snd.snd.fst && ((gC h.cs 0).snd.snd.snd == (gC h.cs 1).snd.snd.snd && true)))))
                    (some ⟨.one (.int .i64 13), [], []⟩)
                    (ite2 (decide ((0 : Int) ≤ 0 ∧ 0 < (↑(List.length h.cs) : Int)))
                      (ite2 (decide ((0 : Int) ≤ 2 ∧ 2 < (↑(List.length h.cs) : Int)))
                        (ite2 (!((gC h.cs 0).fst == (gC h.cs 2).fst && ((gC h.cs 0).snd.fst == (gC h.cs 2).snd.fst && ((gC h.cs 0).snd.snd.fst == (gC h.cs 2).snd.snd.fst && ((gC h.cs 0).snd.snd.snd == (gC h.cs 2).snd.snd.snd && true)))))
                          (some ⟨.one (.int .i64 13), [], []⟩)
                          (ite2 (decide (h.tw ≤ 4096) && decide (h.th ≤ 4096))
                            (ite2 (k_ref23_Check_0 h p (tilesL h.a h.b h.c h.d h.tw h.th) 0)
                              (ite2 (p_ref23_Check_0 h p (tilesL h.a h.b h.c h.d h.tw h.th))
                                (some ⟨.one (.int .i64 0), [], []⟩)
                                (some ⟨.one (.int .i64 5), [], []⟩))
                              none)
                            none))
                        none)
                      none))
                  none)
                none))
            (ite2 (decide (h.tw ≤ 4096) && decide (h.th ≤ 4096))
              (ite2 (k_ref23_Check_0 h p (tilesL h.a h.b h.c h.d h.tw h.th) 0)
                (ite2 (p_ref23_Check_0 h p (tilesL h.a h.b h.c h.d h.tw h.th))
                  (some ⟨.one (.int .i64 0), [], []⟩)
                  (some ⟨.one (.int .i64 5), [], []⟩))
                none)
              none)))
        none)))
  none) := by kernel_rfl
def U_ref23_Check_0 (h : Hd) (p : Pm) (t : List Rc) (i : Int) : LT :=
  (.br (decide (i < (↑(List.length t) : Int)))
    (.br (decide (0 ≤ i ∧ i < (↑(List.length t) : Int)))
      (.br (decide (Int.toNat i < List.length t))
        (.br (nums p && valid (gR t (Int.toNat i)).fst (gR t (Int.toNat i)).snd.fst (gR t (Int.toNat i)).snd.snd.fst (gR t (Int.toNat i)).snd.snd.snd && decide (List.length h.cs ≤ 4))
          (.br (decide (packs ((gR t (Int.toNat i)).fst, (gR t (Int.toNat i)).snd.fst, (gR t (Int.toNat i)).snd.snd.fst, (gR t (Int.toNat i)).snd.snd.snd) p h.cs > 65536))
            (.leaf Ex.ret [.one (.int .i64 5)] [])
            (.br (decide (0 ≤ i ∧ i < (↑(List.length t) : Int)))
              (.br (decide (Int.toNat i < List.length t))
                (.br (nums p && valid (gR t (Int.toNat i)).fst (gR t (Int.toNat i)).snd.fst (gR t (Int.toNat i)).snd.snd.fst (gR t (Int.toNat i)).snd.snd.snd && decide (List.length h.cs ≤ 4))
                  (.br (decide (blks ((gR t (Int.toNat i)).fst, (gR t (Int.toNat i)).snd.fst, (gR t (Int.toNat i)).snd.snd.fst, (gR t (Int.toNat i)).snd.snd.snd) p h.cs > 65536))
                    (.leaf Ex.ret [.one (.int .i64 5)] [])
                    (.leaf Ex.normal [V.one (C.ptr 0 0), V.one (C.ptr 1 0), V.one (C.row 2), .one (.int .i64 (IntKind.wrap .i64 (i + 1)))] [some (Blk.box [.int .i64 h.a, .int .i64 h.b, .int .i64 h.c, .int .i64 h.d, .int .i64 h.tw, .int .i64 h.th, C.lst (Sh.pair (Sh.int .i64) (Sh.pair Sh.bool (Sh.pair (Sh.int .i64) (Sh.int .i64)))) h.cs]), some (Blk.box [.int .i64 p.ke, .int .i64 p.le, .int .i64 p.co, .int .i64 p.bx, .int .i64 p.bw, C.lst (Sh.pair (Sh.int .i64) (Sh.int .i64)) p.pr, .int .i64 p.od, .int .i64 p.la, .bool p.m1, .bool p.m2, .bool p.m3, .bool p.m4, .bool p.m5, .bool p.dv, .bool p.sy, .bool p.fe, C.lst (Sh.int .i64) p.st, .int .i64 p.de, .int .i64 p.sf]), some (Blk.arr 23 (Sh.pair (Sh.int .i64) (Sh.pair (Sh.int .i64) (Sh.pair (Sh.int .i64) (Sh.int .i64)))) t)]))
                  .no)
                .no)
              .no))
          .no)
        .no)
      .no)
    (.leaf (Ex.exit 0) [] []))
def T_ref23_Check_0 : List V → List (Option Blk) → LT := fun vs bl => (pO vs fun c' vs => kP 0 0 c' <| pO vs fun c' vs => kP 1 0 c' <| pO vs fun c' vs => kR 2 c' <| pO vs fun c' vs => kI c' fun i => pE vs <| bB bl fun q' bl => rdHd q' fun h => bB bl fun q' bl => rdPm q' fun p => bAR 23 bl fun t bl => bE bl <| some (U_ref23_Check_0 h p t i)).getD .no
theorem tu_ref23_Check_0 (h : Hd) (p : Pm) (t : List Rc) (i : Int) : T_ref23_Check_0 [.one (.ptr 0 0), .one (.ptr 1 0), .one (.row 2), .one (.int .i64 i)] [some (.box (hdC h)), some (.box (pmC p)), some (.arr 23 (.pair (.int .i64) (.pair (.int .i64) (.pair (.int .i64) (.int .i64)))) t)] = U_ref23_Check_0 h p t i := by kernel_rfl
theorem b_ref23_Check_0 (h : Hd) (p : Pm) (t : List Rc) (i : Int) (Kc : Ex → Option (List V × List (Option Blk)) → Option Out) : exec Try.prog t_ref23_Check (annOf []) l_ref23_Check 20 0 (loopOf Try.f71 0) (unp 79 [2, 3, 6, 7] [.one (.ptr 0 0), .one (.ptr 1 0), .one (.row 2), .one (.int .i64 i)] [some (.box (hdC h)), some (.box (pmC p)), some (.arr 23 (.pair (.int .i64) (.pair (.int .i64) (.pair (.int .i64) (.int .i64)))) t)]) (endc 0 79 [2, 3, 6, 7] (kxOf [] [4]) Kc) =
  (T_ref23_Check_0 [.one (.ptr 0 0), .one (.ptr 1 0), .one (.row 2), .one (.int .i64 i)] [some (.box (hdC h)), some (.box (pmC p)), some (.arr 23 (.pair (.int .i64) (.pair (.int .i64) (.pair (.int .i64) (.int .i64)))) t)]).runc Kc := by kernel_rfl
end
end Go.Rx.Ch24

set_option linter.unusedVariables false
set_option maxRecDepth 100000
set_option maxHeartbeats 4000000
open Go Go.Rx Go.Proofs
namespace Go.Rx.Ch24
noncomputable section
def t_pa_exponents : FuncId → Option Summ := tabOf []
def l_pa_exponents : Nat → Option LSumm := ltOf []
theorem e_pa_exponents (a b m : Int) : funR Try.prog t_pa_exponents (annOf []) l_pa_exponents 20 Try.f86 [.one (.int .i64 a), .one (.int .i64 b), .one (.int .i64 m)] [] =
  (ite2 (decide (a ≥ 0))
  (ite2 (decide (a ≤ m))
    (ite2 (decide (b ≥ 0))
      (some ⟨.one (.bool (decide (b ≤ m))), [], []⟩)
      (some ⟨.one (.bool false), [], []⟩))
    (some ⟨.one (.bool false), [], []⟩))
  (some ⟨.one (.bool false), [], []⟩)) := by kernel_rfl
def t_pa_span : FuncId → Option Summ := tabOf []
def l_pa_span : Nat → Option LSumm := ltOf []
theorem e_pa_span (f t e : Int) : funR Try.prog t_pa_span (annOf []) l_pa_span 20 Try.f87 [.one (.int .i64 f), .one (.int .i64 t), .one (.int .i64 e)] [] =
  (ite2 (decide (0 ≤ IntKind.wrap IntKind.u64 e))
  (ite2 (decide (0 ≤ IntKind.wrap IntKind.u64 e))
    (some ⟨V.tup [(false, [.int .i64 (Int.fdiv f (2 ^ min (Int.toNat (IntKind.wrap IntKind.u64 e)) 64))]), (false, [.int .i64 (IntKind.wrap .i64 (IntKind.wrap .i64 (Int.fdiv (IntKind.wrap .i64 (t - 1)) (2 ^ min (Int.toNat (IntKind.wrap IntKind.u64 e)) 64) - Int.fdiv f (2 ^ min (Int.toNat (IntKind.wrap IntKind.u64 e)) 64)) + 1))])], [], []⟩)
    none)
  none) := by kernel_rfl
def t_pa_cell : FuncId → Option Summ := tabOf []
def l_pa_cell : Nat → Option LSumm := ltOf []
theorem e_pa_cell (c r a b : Int) : funR Try.prog t_pa_cell (annOf []) l_pa_cell 20 Try.f93 [.one (.int .i64 c), .one (.int .i64 r), .one (.int .i64 a), .one (.int .i64 b)] [] =
  (ite2 (decide (0 ≤ IntKind.wrap IntKind.u64 a))
  (ite2 (decide (0 ≤ IntKind.wrap IntKind.u64 b))
    (ite2 (decide (0 ≤ IntKind.wrap IntKind.u64 a))
      (ite2 (decide (0 ≤ IntKind.wrap IntKind.u64 b))
        (some ⟨.agg [.int .i64 (IntKind.wrap .i64 (c * 2 ^ min (Int.toNat (IntKind.wrap IntKind.u64 a)) 64)), .int .i64 (IntKind.wrap .i64 (r * 2 ^ min (Int.toNat (IntKind.wrap IntKind.u64 b)) 64)), .int .i64 (IntKind.wrap .i64 (IntKind.wrap .i64 (c + 1) * 2 ^ min (Int.toNat (IntKind.wrap IntKind.u64 a)) 64)), .int .i64 (IntKind.wrap .i64 (IntKind.wrap .i64 (r + 1) * 2 ^ min (Int.toNat (IntKind.wrap IntKind.u64 b)) 64))], [], []⟩)
        none)
      none)
    none)
  none) := by kernel_rfl
def t_ref22_cell : FuncId → Option Summ := tabOf []
def l_ref22_cell : Nat → Option LSumm := ltOf []
theorem e_ref22_cell (c r a b : Int) : funR Try.prog t_ref22_cell (annOf []) l_ref22_cell 20 Try.f95 [.one (.int .i64 c), .one (.int .i64 r), .one (.int .i64 a), .one (.int .i64 b)] [] =
  (ite2 (decide (0 ≤ IntKind.wrap IntKind.u64 a))
  (ite2 (decide (0 ≤ IntKind.wrap IntKind.u64 b))
    (some ⟨.agg [.int .i64 (IntKind.wrap .i64 (c * IntKind.wrap .i64 (1 * 2 ^ min (Int.toNat (IntKind.wrap IntKind.u64 a)) 64))), .int .i64 (IntKind.wrap .i64 (r * IntKind.wrap .i64 (1 * 2 ^ min (Int.toNat (IntKind.wrap IntKind.u64 b)) 64))), .int .i64 (IntKind.wrap .i64 (IntKind.wrap .i64 (c + 1) * IntKind.wrap .i64 (1 * 2 ^ min (Int.toNat (IntKind.wrap IntKind.u64 a)) 64))), .int .i64 (IntKind.wrap .i64 (IntKind.wrap .i64 (r + 1) * IntKind.wrap .i64 (1 * 2 ^ min (Int.toNat (IntKind.wrap IntKind.u64 b)) 64)))], [], []⟩)
    none)
  none) := by kernel_rfl
def t_pa_grid : FuncId → Option Summ := tabOf [(56, G_rect_Valid), (58, G_rect_Empty), (86, G_pa_exponents), (87, G_pa_span)]
def l_pa_grid : Nat → Option LSumm := ltOf []
theorem e_pa_grid (a b c d x y m : Int) : funR Try.prog t_pa_grid (annOf []) l_pa_grid 20 Try.f70 [.agg [.int .i64 a, .int .i64 b, .int .i64 c, .int .i64 d], .one (.int .i64 x), .one (.int .i64 y), .one (.int .i64 m)] [] =
  (ite2 (!valid a b c d)
  (some ⟨V.tup [(false, [.int .i64 0]), (false, [.int .i64 0]), (false, [.int .i64 0]), (false, [.int .i64 0])], [], []⟩)
  (ite2 (empty a b c d)
    (some ⟨V.tup [(false, [.int .i64 0]), (false, [.int .i64 0]), (false, [.int .i64 0]), (false, [.int .i64 0])], [], []⟩)
    (ite2 (!(inr 0 m x && inr 0 m y))
      (some ⟨V.tup [(false, [.int .i64 0]), (false, [.int .i64 0]), (false, [.int .i64 0]), (false, [.int .i64 0])], [], []⟩)
      (ite2 (inr 0 4096 a && inr 0 4096 c && inr 0 12 x)
        (ite2 (inr 0 4096 b && inr 0 4096 d && inr 0 12 y)
          (ite2 (decide (IntKind.wrap .i64 (spN a c x * spN b d y) > 65536))
            (some ⟨V.tup [(false, [.int .i64 0]), (false, [.int .i64 0]), (false, [.int .i64 0]), (false, [.int .i64 0])], [], []⟩)
            (some ⟨V.tup [(false, [.int .i64 (a / pw x)]), (false, [.int .i64 (b / pw y)]), (false, [.int .i64 (spN a c x)]), (false, [.int .i64 (spN b d y)])], [], []⟩))
          none)
        none)))) := by kernel_rfl
def t_ref22_Precincts : FuncId → Option Summ := tabOf [(62, G_ref01_Valid), (63, G_ref01_Empty), (67, G_ref01_FloorDiv), (68, G_ref01_CeilDiv)]
def l_ref22_Precincts : Nat → Option LSumm := ltOf []
theorem e_ref22_Precincts (a b c d x y : Int) : funR Try.prog t_ref22_Precincts (annOf []) l_ref22_Precincts 20 Try.f74 [.agg [.int .i64 a, .int .i64 b, .int .i64 c, .int .i64 d], .one (.int .i64 x), .one (.int .i64 y)] [] =
  (ite2 (!valid a b c d)
  (some ⟨V.tup [(false, [.int .i64 0]), (false, [.int .i64 0])], [], []⟩)
  (ite2 (empty a b c d)
    (some ⟨V.tup [(false, [.int .i64 0]), (false, [.int .i64 0])], [], []⟩)
    (ite2 (decide (x < 0))
      (some ⟨V.tup [(false, [.int .i64 0]), (false, [.int .i64 0])], [], []⟩)
      (ite2 (decide (x > 12))
        (some ⟨V.tup [(false, [.int .i64 0]), (false, [.int .i64 0])], [], []⟩)
        (ite2 (decide (y < 0))
          (some ⟨V.tup [(false, [.int .i64 0]), (false, [.int .i64 0])], [], []⟩)
          (ite2 (decide (y > 12))
            (some ⟨V.tup [(false, [.int .i64 0]), (false, [.int .i64 0])], [], []⟩)
            (ite2 (decide (0 ≤ IntKind.wrap IntKind.u64 x))
              (ite2 (decide (0 ≤ IntKind.wrap IntKind.u64 y))
                (ite2 (decide (IntKind.wrap .i64 (IntKind.wrap .i64 (cdiv c (IntKind.wrap .i64 (1 * 2 ^ min (Int.toNat (IntKind.wrap IntKind.u64 x)) 64)) - fdiv a (IntKind.wrap .i64 (1 * 2 ^ min (Int.toNat (IntKind.wrap IntKind.u64 x)) 64))) * IntKind.wrap .i64 (cdiv d (IntKind.wrap .i64 (1 * 2 ^ min (Int.toNat (IntKind.wrap IntKind.u64 y)) 64)) - fdiv b (IntKind.wrap .i64 (1 * 2 ^ min (Int.toNat (IntKind.wrap IntKind.u64 y)) 64)))) > 65536))
                  (some ⟨V.tup [(false, [.int .i64 0]), (false, [.int .i64 0])], [], []⟩)
                  (some ⟨V.tup [(false, [.int .i64 (IntKind.wrap .i64 (cdiv c (IntKind.wrap .i64 (1 * 2 ^ min (Int.toNat (IntKind.wrap IntKind.u64 x)) 64)) - fdiv a (IntKind.wrap .i64 (1 * 2 ^ min (Int.toNat (IntKind.wrap IntKind.u64 x)) 64))))]), (false, [.int .i64 (IntKind.wrap .i64 (cdiv d (IntKind.wrap .i64 (1 * 2 ^ min (Int.toNat (IntKind.wrap IntKind.u64 y)) 64)) - fdiv b (IntKind.wrap .i64 (1 * 2 ^ min (Int.toNat (IntKind.wrap IntKind.u64 y)) 64))))])], [], []⟩))
                none)
              none))))))) := by kernel_rfl
def t_pa_Precincts : FuncId → Option Summ := tabOf [(70, G_pa_grid)]
def l_pa_Precincts : Nat → Option LSumm := ltOf []
theorem e_pa_Precincts (a b c d x y : Int) : funR Try.prog t_pa_Precincts (annOf []) l_pa_Precincts 20 Try.f42 [.agg [.int .i64 a, .int .i64 b, .int .i64 c, .int .i64 d], .one (.int .i64 x), .one (.int .i64 y)] [] =
  (some ⟨V.tup [(false, [.int .i64 (gridS a b c d x y 12).snd.snd.fst]), (false, [.int .i64 (gridS a b c d x y 12).snd.snd.snd])], [], []⟩) := by kernel_rfl
def t_pa_place : FuncId → Option Summ := tabOf [(70, G_pa_grid)]
def l_pa_place : Nat → Option LSumm := ltOf []
theorem e_pa_place (a b c d x y i : Int) : funR Try.prog t_pa_place (annOf []) l_pa_place 20 Try.f92 [.agg [.int .i64 a, .int .i64 b, .int .i64 c, .int .i64 d], .one (.int .i64 x), .one (.int .i64 y), .one (.int .i64 i)] [] =
  (ite2 (decide (i < 0))
  (some ⟨V.tup [(false, [.int .i64 0]), (false, [.int .i64 0]), (false, [.bool false])], [], []⟩)
  (ite2 (decide (i ≥ IntKind.wrap .i64 ((gridS a b c d x y 12).snd.snd.fst * (gridS a b c d x y 12).snd.snd.snd)))
    (some ⟨V.tup [(false, [.int .i64 0]), (false, [.int .i64 0]), (false, [.bool false])], [], []⟩)
    (ite2 (!decide ((gridS a b c d x y 12).snd.snd.fst = 0))
      (ite2 (!decide ((gridS a b c d x y 12).snd.snd.fst = 0))
        (some ⟨V.tup [(false, [.int .i64 (IntKind.wrap .i64 ((gridS a b c d x y 12).fst + Int.tmod i (gridS a b c d x y 12).snd.snd.fst))]), (false, [.int .i64 (IntKind.wrap .i64 ((gridS a b c d x y 12).snd.fst + IntKind.wrap .i64 (Int.tdiv i (gridS a b c d x y 12).snd.snd.fst)))]), (false, [.bool true])], [], []⟩)
        none)
      none))) := by kernel_rfl
def t_ref22_place : FuncId → Option Summ := tabOf [(67, G_ref01_FloorDiv), (74, G_ref22_Precincts)]
def l_ref22_place : Nat → Option LSumm := ltOf []
theorem e_ref22_place (a b c d x y i : Int) : funR Try.prog t_ref22_place (annOf []) l_ref22_place 20 Try.f94 [.agg [.int .i64 a, .int .i64 b, .int .i64 c, .int .i64 d], .one (.int .i64 x), .one (.int .i64 y), .one (.int .i64 i)] [] =
  (ite2 (decide (i < 0))
  (some ⟨V.tup [(false, [.int .i64 0]), (false, [.int .i64 0]), (false, [.bool false])], [], []⟩)
  (ite2 (decide (i ≥ IntKind.wrap .i64 ((precN a b c d x y).fst * (precN a b c d x y).snd)))
    (some ⟨V.tup [(false, [.int .i64 0]), (false, [.int .i64 0]), (false, [.bool false])], [], []⟩)
    (ite2 (decide (0 ≤ IntKind.wrap IntKind.u64 x))
      (ite2 (!decide ((precN a b c d x y).fst = 0))
        (ite2 (decide (0 ≤ IntKind.wrap IntKind.u64 y))
          (ite2 (!decide ((precN a b c d x y).fst = 0))
            (some ⟨V.tup [(false, [.int .i64 (IntKind.wrap .i64 (fdiv a (IntKind.wrap .i64 (1 * 2 ^ min (Int.toNat (IntKind.wrap IntKind.u64 x)) 64)) + Int.tmod i (precN a b c d x y).fst))]), (false, [.int .i64 (IntKind.wrap .i64 (fdiv b (IntKind.wrap .i64 (1 * 2 ^ min (Int.toNat (IntKind.wrap IntKind.u64 y)) 64)) + IntKind.wrap .i64 (Int.tdiv i (precN a b c d x y).fst)))]), (false, [.bool true])], [], []⟩)
            none)
          none)
        none)
      none))) := by kernel_rfl
def t_pa_InBand : FuncId → Option Summ := tabOf [(56, G_rect_Valid), (59, G_rect_Intersect), (92, G_pa_place), (93, G_pa_cell)]
def l_pa_InBand : Nat → Option LSumm := ltOf []
theorem e_pa_InBand (a b c d e f g q o x y i : Int) : funR Try.prog t_pa_InBand (annOf []) l_pa_InBand 20 Try.f76 [.agg [.int .i64 a, .int .i64 b, .int .i64 c, .int .i64 d], .agg [.int .i64 e, .int .i64 f, .int .i64 g, .int .i64 q], .one (.int .i64 o), .one (.int .i64 x), .one (.int .i64 y), .one (.int .i64 i)] [] =
  (ite2 (!plcOk a b c d x y i)
  (some ⟨V.tup [(true, [.int .i64 0, .int .i64 0, .int .i64 0, .int .i64 0]), (false, [.bool false])], [], []⟩)
  (ite2 (!valid e f g q)
    (some ⟨V.tup [(true, [.int .i64 0, .int .i64 0, .int .i64 0, .int .i64 0]), (false, [.bool false])], [], []⟩)
    (ite2 (decide (o < 0))
      (some ⟨V.tup [(true, [.int .i64 0, .int .i64 0, .int .i64 0, .int .i64 0]), (false, [.bool false])], [], []⟩)
      (ite2 (decide (o > 3))
        (some ⟨V.tup [(true, [.int .i64 0, .int .i64 0, .int .i64 0, .int .i64 0]), (false, [.bool false])], [], []⟩)
        (ite2 (o != 0)
          (ite2 (x == 0)
            (some ⟨V.tup [(true, [.int .i64 0, .int .i64 0, .int .i64 0, .int .i64 0]), (false, [.bool false])], [], []⟩)
            (ite2 (y == 0)
              (some ⟨V.tup [(true, [.int .i64 0, .int .i64 0, .int .i64 0, .int .i64 0]), (false, [.bool false])], [], []⟩)
              (ite2 (inr 0 4096 (plcC a b c d x y i) && inr 0 4096 (plcR a b c d x y i) && inr 0 12 (IntKind.wrap .i64 (x - 1)) && inr 0 12 (IntKind.wrap .i64 (y - 1)))
                (ite2 ((inter e f g q (plcC a b c d x y i * pw (IntKind.wrap .i64 (x - 1))) (plcR a b c d x y i * pw (IntKind.wrap .i64 (y - 1))) ((plcC a b c d x y i + 1) * pw (IntKind.wrap .i64 (x - 1))) ((plcR a b c d x y i + 1) * pw (IntKind.wrap .i64 (y - 1)))).fst == 0 && ((inter e f g q (plcC a b c d x y i * pw (IntKind.wrap .i64 (x - 1))) (plcR a b c d x y i * pw (IntKind.wrap .i64 (y - 1))) ((plcC a b c d x y i + 1) * pw (IntKind.wrap .i64 (x - 1))) ((plcR a b c d x y i + 1) * pw (IntKind.wrap .i64 (y - 1)))).snd.fst == 0 && ((inter e f g q (plcC a b c d x y i * pw (IntKind.wrap .i64 (x - 1))) (plcR a b c d x y i * pw (IntKind.wrap .i64 (y - 1))) ((plcC a b c d x y i + 1) * pw (IntKind.wrap .i64 (x - 1))) ((plcR a b c d x y i + 1) * pw (IntKind.wrap .i64 (y - 1)))).snd.snd.fst == 0 && ((inter e f g q (plcC a b c d x y i * pw (IntKind.wrap .i64 (x - 1))) (plcR a b c d x y i * pw (IntKind.wrap .i64 (y - 1))) ((plcC a b c d x y i + 1) * pw (IntKind.wrap .i64 (x - 1))) ((plcR a b c d x y i + 1) * pw (IntKind.wrap .i64 (y - 1)))).snd.snd.snd == 0 && true))))
                  (some ⟨V.tup [(true, [.int .i64 0, .int .i64 0, .int .i64 0, .int .i64 0]), (false, [.bool true])], [], []⟩)
                  (some ⟨V.tup [(true, [.int .i64 (inter e f g q (plcC a b c d x y i * pw (IntKind.wrap .i64 (x - 1))) (plcR a b c d x y i * pw (IntKind.wrap .i64 (y - 1))) ((plcC a b c d x y i + 1) * pw (IntKind.wrap .i64 (x - 1))) ((plcR a b c d x y i + 1) * pw (IntKind.wrap .i64 (y - 1)))).fst, .int .i64 (inter e f g q (plcC a b c d x y i * pw (IntKind.wrap .i64 (x - 1))) (plcR a b c d x y i * pw (IntKind.wrap .i64 (y - 1))) ((plcC a b c d x y i + 1) * pw (IntKind.wrap .i64 (x - 1))) ((plcR a b c d x y i + 1) * pw (IntKind.wrap .i64 (y - 1)))).snd.fst, .int .i64 (inter e f g q (plcC a b c d x y i * pw (IntKind.wrap .i64 (x - 1))) (plcR a b c d x y i * pw (IntKind.wrap .i64 (y - 1))) ((plcC a b c d x y i + 1) * pw (IntKind.wrap .i64 (x - 1))) ((plcR a b c d x y i + 1) * pw (IntKind.wrap .i64 (y - 1)))).snd.snd.fst, .int .i64 (inter e f g q (plcC a b c d x y i * pw (IntKind.wrap .i64 (x - 1))) (plcR a b c d x y i * pw (IntKind.wrap .i64 (y - 1))) ((plcC a b c d x y i + 1) * pw (IntKind.wrap .i64 (x - 1))) ((plcR a b c d x y i + 1) * pw (IntKind.wrap .i64 (y - 1)))).snd.snd.snd]), (false, [.bool true])], [], []⟩))
                none)))
          (ite2 (inr 0 4096 (plcC a b c d x y i) && inr 0 4096 (plcR a b c d x y i) && inr 0 12 x && inr 0 12 y)
            (ite2 ((inter e f g q (plcC a b c d x y i * pw x) (plcR a b c d x y i * pw y) ((plcC a b c d x y i + 1) * pw x) ((plcR a b c d x y i + 1) * pw y)).fst == 0 && ((inter e f g q (plcC a b c d x y i * pw x) (plcR a b c d x y i * pw y) ((plcC a b c d x y i + 1) * pw x) ((plcR a b c d x y i + 1) * pw y)).snd.fst == 0 && ((inter e f g q (plcC a b c d x y i * pw x) (plcR a b c d x y i * pw y) ((plcC a b c d x y i + 1) * pw x) ((plcR a b c d x y i + 1) * pw y)).snd.snd.fst == 0 && ((inter e f g q (plcC a b c d x y i * pw x) (plcR a b c d x y i * pw y) ((plcC a b c d x y i + 1) * pw x) ((plcR a b c d x y i + 1) * pw y)).snd.snd.snd == 0 && true))))
              (some ⟨V.tup [(true, [.int .i64 0, .int .i64 0, .int .i64 0, .int .i64 0]), (false, [.bool true])], [], []⟩)
              (some ⟨V.tup [(true, [.int .i64 (inter e f g q (plcC a b c d x y i * pw x) (plcR a b c d x y i * pw y) ((plcC a b c d x y i + 1) * pw x) ((plcR a b c d x y i + 1) * pw y)).fst, .int .i64 (inter e f g q (plcC a b c d x y i * pw x) (plcR a b c d x y i * pw y) ((plcC a b c d x y i + 1) * pw x) ((plcR a b c d x y i + 1) * pw y)).snd.fst, .int .i64 (inter e f g q (plcC a b c d x y i * pw x) (plcR a b c d x y i * pw y) ((plcC a b c d x y i + 1) * pw x) ((plcR a b c d x y i + 1) * pw y)).snd.snd.fst, .int .i64 (inter e f g q (plcC a b c d x y i * pw x) (plcR a b c d x y i * pw y) ((plcC a b c d x y i + 1) * pw x) ((plcR a b c d x y i + 1) * pw y)).snd.snd.snd]), (false, [.bool true])], [], []⟩))
            none)))))) := by kernel_rfl
def t_ref22_InBand : FuncId → Option Summ := tabOf [(62, G_ref01_Valid), (69, G_ref01_Intersect), (94, G_ref22_place), (95, G_ref22_cell)]
def l_ref22_InBand : Nat → Option LSumm := ltOf []
theorem e_ref22_InBand (a b c d e f g q o x y i : Int) : funR Try.prog t_ref22_InBand (annOf []) l_ref22_InBand 20 Try.f79 [.agg [.int .i64 a, .int .i64 b, .int .i64 c, .int .i64 d], .agg [.int .i64 e, .int .i64 f, .int .i64 g, .int .i64 q], .one (.int .i64 o), .one (.int .i64 x), .one (.int .i64 y), .one (.int .i64 i)] [] =
  (ite2 (!plcOk a b c d x y i)
  (some ⟨V.tup [(true, [.int .i64 0, .int .i64 0, .int .i64 0, .int .i64 0]), (false, [.bool false])], [], []⟩)
  (ite2 (!valid e f g q)
    (some ⟨V.tup [(true, [.int .i64 0, .int .i64 0, .int .i64 0, .int .i64 0]), (false, [.bool false])], [], []⟩)
    (ite2 (decide (o < 0))
      (some ⟨V.tup [(true, [.int .i64 0, .int .i64 0, .int .i64 0, .int .i64 0]), (false, [.bool false])], [], []⟩)
      (ite2 (decide (o > 3))
        (some ⟨V.tup [(true, [.int .i64 0, .int .i64 0, .int .i64 0, .int .i64 0]), (false, [.bool false])], [], []⟩)
        (ite2 (o == 0)
          (ite2 (inr 0 4096 (plcC a b c d x y i) && inr 0 4096 (plcR a b c d x y i) && inr 0 12 x && inr 0 12 y)
            (some ⟨V.tup [(true, [.int .i64 (inter e f g q (plcC a b c d x y i * pw x) (plcR a b c d x y i * pw y) ((plcC a b c d x y i + 1) * pw x) ((plcR a b c d x y i + 1) * pw y)).fst, .int .i64 (inter e f g q (plcC a b c d x y i * pw x) (plcR a b c d x y i * pw y) ((plcC a b c d x y i + 1) * pw x) ((plcR a b c d x y i + 1) * pw y)).snd.fst, .int .i64 (inter e f g q (plcC a b c d x y i * pw x) (plcR a b c d x y i * pw y) ((plcC a b c d x y i + 1) * pw x) ((plcR a b c d x y i + 1) * pw y)).snd.snd.fst, .int .i64 (inter e f g q (plcC a b c d x y i * pw x) (plcR a b c d x y i * pw y) ((plcC a b c d x y i + 1) * pw x) ((plcR a b c d x y i + 1) * pw y)).snd.snd.snd]), (false, [.bool true])], [], []⟩)
            none)
          (ite2 (x == 0)
            (some ⟨V.tup [(true, [.int .i64 0, .int .i64 0, .int .i64 0, .int .i64 0]), (false, [.bool false])], [], []⟩)
            (ite2 (y == 0)
              (some ⟨V.tup [(true, [.int .i64 0, .int .i64 0, .int .i64 0, .int .i64 0]), (false, [.bool false])], [], []⟩)
              (ite2 (inr 0 4096 (plcC a b c d x y i) && inr 0 4096 (plcR a b c d x y i) && inr 0 12 (IntKind.wrap .i64 (x - 1)) && inr 0 12 (IntKind.wrap .i64 (y - 1)))
                (some ⟨V.tup [(true, [.int .i64 (inter e f g q (plcC a b c d x y i * pw (IntKind.wrap .i64 (x - 1))) (plcR a b c d x y i * pw (IntKind.wrap .i64 (y - 1))) ((plcC a b c d x y i + 1) * pw (IntKind.wrap .i64 (x - 1))) ((plcR a b c d x y i + 1) * pw (IntKind.wrap .i64 (y - 1)))).fst, .int .i64 (inter e f g q (plcC a b c d x y i * pw (IntKind.wrap .i64 (x - 1))) (plcR a b c d x y i * pw (IntKind.wrap .i64 (y - 1))) ((plcC a b c d x y i + 1) * pw (IntKind.wrap .i64 (x - 1))) ((plcR a b c d x y i + 1) * pw (IntKind.wrap .i64 (y - 1)))).snd.fst, .int .i64 (inter e f g q (plcC a b c d x y i * pw (IntKind.wrap .i64 (x - 1))) (plcR a b c d x y i * pw (IntKind.wrap .i64 (y - 1))) ((plcC a b c d x y i + 1) * pw (IntKind.wrap .i64 (x - 1))) ((plcR a b c d x y i + 1) * pw (IntKind.wrap .i64 (y - 1)))).snd.snd.fst, .int .i64 (inter e f g q (plcC a b c d x y i * pw (IntKind.wrap .i64 (x - 1))) (plcR a b c d x y i * pw (IntKind.wrap .i64 (y - 1))) ((plcC a b c d x y i + 1) * pw (IntKind.wrap .i64 (x - 1))) ((plcR a b c d x y i + 1) * pw (IntKind.wrap .i64 (y - 1)))).snd.snd.snd]), (false, [.bool true])], [], []⟩)
                none)))))))) := by kernel_rfl
def t_ref22_Precinct : FuncId → Option Summ := tabOf [(69, G_ref01_Intersect), (94, G_ref22_place), (95, G_ref22_cell)]
def l_ref22_Precinct : Nat → Option LSumm := ltOf []
theorem e_ref22_Precinct (a b c d x y i : Int) : funR Try.prog t_ref22_Precinct (annOf []) l_ref22_Precinct 20 Try.f97 [.agg [.int .i64 a, .int .i64 b, .int .i64 c, .int .i64 d], .one (.int .i64 x), .one (.int .i64 y), .one (.int .i64 i)] [] =
  (ite2 (!plcOk a b c d x y i)
  (some ⟨V.tup [(true, [.int .i64 0, .int .i64 0, .int .i64 0, .int .i64 0]), (false, [.bool false])], [], []⟩)
  (ite2 (inr 0 4096 (plcC a b c d x y i) && inr 0 4096 (plcR a b c d x y i) && inr 0 12 x && inr 0 12 y)
    (some ⟨V.tup [(true, [.int .i64 (inter a b c d (plcC a b c d x y i * pw x) (plcR a b c d x y i * pw y) ((plcC a b c d x y i + 1) * pw x) ((plcR a b c d x y i + 1) * pw y)).fst, .int .i64 (inter a b c d (plcC a b c d x y i * pw x) (plcR a b c d x y i * pw y) ((plcC a b c d x y i + 1) * pw x) ((plcR a b c d x y i + 1) * pw y)).snd.fst, .int .i64 (inter a b c d (plcC a b c d x y i * pw x) (plcR a b c d x y i * pw y) ((plcC a b c d x y i + 1) * pw x) ((plcR a b c d x y i + 1) * pw y)).snd.snd.fst, .int .i64 (inter a b c d (plcC a b c d x y i * pw x) (plcR a b c d x y i * pw y) ((plcC a b c d x y i + 1) * pw x) ((plcR a b c d x y i + 1) * pw y)).snd.snd.snd]), (false, [.bool true])], [], []⟩)
    none)) := by kernel_rfl
end
end Go.Rx.Ch24

set_option linter.unusedVariables false
set_option maxRecDepth 100000
set_option maxHeartbeats 4000000
open Go Go.Rx Go.Proofs
namespace Go.Rx.Ch24
noncomputable section
def t_pa_Blocks : FuncId → Option Summ := tabOf [(59, G_rect_Intersect), (70, G_pa_grid), (93, G_pa_cell)]
def l_pa_Blocks : Nat → Option LSumm := ltOf [(3, ⟨0, 49, [1, 2, 3, 6, 7, 8, 9, 10, 22, 23], (kxOf [6, 7, 8] [6, 7, 8]), S_pa_Blocks_0⟩), (6, ⟨0, 49, [1, 2, 3, 6, 7, 8, 9, 10, 11, 22, 23, 26, 27], (kxOf [1, 2, 3, 6, 7, 8, 9, 10, 22, 23] [6, 7, 8]), S_pa_Blocks_1⟩)]
theorem e_pa_Blocks (a b c d x y : Int) : funR Try.prog t_pa_Blocks (annOf []) l_pa_Blocks 20 Try.f77 [.agg [.int .i64 a, .int .i64 b, .int .i64 c, .int .i64 d], .one (.int .i64 x), .one (.int .i64 y)] [] =
  (ite2 (k_pa_Blocks_0 a b c d x y (gridS a b c d x y 6).snd.snd.fst (gridS a b c d x y 6).snd.snd.snd (gridS a b c d x y 6).fst (gridS a b c d x y 6).snd.fst (gridS a b c d x y 6).snd.snd.snd 0 [])
  (some ⟨V.tup [(false, [.int .i64 (gridS a b c d x y 6).snd.snd.fst]), (false, [.int .i64 (gridS a b c d x y 6).snd.snd.snd]), (false, [C.row 0])], [], [Blk.arr 23 (Sh.pair (Sh.int .i64) (Sh.pair (Sh.int .i64) (Sh.pair (Sh.int .i64) (Sh.int .i64)))) ([] ++ blkGrid a b c d x y (gridS a b c d x y 6).fst (Int.toNat (gridS a b c d x y 6).snd.snd.fst) (Int.toNat ((gridS a b c d x y 6).snd.snd.snd - 0)) ((gridS a b c d x y 6).snd.fst + 0))]⟩)
  none) := by kernel_rfl
def U_pa_Blocks_0 (a b c d x y m n h l u i : Int) (t : List Rc) : LT :=
  (.br (decide (i < u))
    (.br (k_pa_Blocks_1 a b c d x y m n h l i u i m 0 t)
      (.leaf Ex.normal [.one (.int .i64 x), .one (.int .i64 y), V.one (C.ptr 0 0), .one (.int .i64 m), .one (.int .i64 n), V.one (C.row 1), .one (.int .i64 h), .one (.int .i64 l), .one (.int .i64 u), .one (.int .i64 (IntKind.wrap .i64 (i + 1)))] [some (Blk.box [.int .i64 a, .int .i64 b, .int .i64 c, .int .i64 d]), some (Blk.arr 23 (Sh.pair (Sh.int .i64) (Sh.pair (Sh.int .i64) (Sh.pair (Sh.int .i64) (Sh.int .i64)))) (t ++ blkRow a b c d x y (l + i) (Int.toNat (m - 0)) (h + 0)))])
      .no)
    (.leaf (Ex.exit 0) [.one (.int .i64 m), .one (.int .i64 n), V.one (C.row 0)] [some (Blk.arr 23 (Sh.pair (Sh.int .i64) (Sh.pair (Sh.int .i64) (Sh.pair (Sh.int .i64) (Sh.int .i64)))) t)]))
def T_pa_Blocks_0 : List V → List (Option Blk) → LT := fun vs bl => (pO vs fun c' vs => kI c' fun x => pO vs fun c' vs => kI c' fun y => pO vs fun c' vs => kP 0 0 c' <| pO vs fun c' vs => kI c' fun m => pO vs fun c' vs => kI c' fun n => pO vs fun c' vs => kR 1 c' <| pO vs fun c' vs => kI c' fun h => pO vs fun c' vs => kI c' fun l => pO vs fun c' vs => kI c' fun u => pO vs fun c' vs => kI c' fun i => pE vs <| bB bl fun q' bl => tC q' fun c' q' => kI c' fun a => tC q' fun c' q' => kI c' fun b => tC q' fun c' q' => kI c' fun c => tC q' fun c' q' => kI c' fun d => tE q' <| bAR 23 bl fun t bl => bE bl <| some (U_pa_Blocks_0 a b c d x y m n h l u i t)).getD .no
theorem tu_pa_Blocks_0 (a b c d x y m n h l u i : Int) (t : List Rc) : T_pa_Blocks_0 [.one (.int .i64 x), .one (.int .i64 y), .one (.ptr 0 0), .one (.int .i64 m), .one (.int .i64 n), .one (.row 1), .one (.int .i64 h), .one (.int .i64 l), .one (.int .i64 u), .one (.int .i64 i)] [some (.box [.int .i64 a, .int .i64 b, .int .i64 c, .int .i64 d]), some (.arr 23 (.pair (.int .i64) (.pair (.int .i64) (.pair (.int .i64) (.int .i64)))) t)] = U_pa_Blocks_0 a b c d x y m n h l u i t := by kernel_rfl
theorem b_pa_Blocks_0 (a b c d x y m n h l u i : Int) (t : List Rc) (Kc : Ex → Option (List V × List (Option Blk)) → Option Out) : exec Try.prog t_pa_Blocks (annOf []) l_pa_Blocks 20 0 (loopOf Try.f77 0) (unp 49 [1, 2, 3, 6, 7, 8, 9, 10, 22, 23] [.one (.int .i64 x), .one (.int .i64 y), .one (.ptr 0 0), .one (.int .i64 m), .one (.int .i64 n), .one (.row 1), .one (.int .i64 h), .one (.int .i64 l), .one (.int .i64 u), .one (.int .i64 i)] [some (.box [.int .i64 a, .int .i64 b, .int .i64 c, .int .i64 d]), some (.arr 23 (.pair (.int .i64) (.pair (.int .i64) (.pair (.int .i64) (.int .i64)))) t)]) (endc 0 49 [1, 2, 3, 6, 7, 8, 9, 10, 22, 23] (kxOf [6, 7, 8] [6, 7, 8]) Kc) =
  (T_pa_Blocks_0 [.one (.int .i64 x), .one (.int .i64 y), .one (.ptr 0 0), .one (.int .i64 m), .one (.int .i64 n), .one (.row 1), .one (.int .i64 h), .one (.int .i64 l), .one (.int .i64 u), .one (.int .i64 i)] [some (.box [.int .i64 a, .int .i64 b, .int .i64 c, .int .i64 d]), some (.arr 23 (.pair (.int .i64) (.pair (.int .i64) (.pair (.int .i64) (.int .i64)))) t)]).runc Kc := by kernel_rfl
def U_pa_Blocks_1 (a b c d x y m n h l s u v g q : Int) (t : List Rc) : LT :=
  (.br (decide (q < g))
    (.br (inr 0 4096 (IntKind.wrap .i64 (h + q)) && inr 0 4096 (IntKind.wrap .i64 (l + s)) && inr 0 12 x && inr 0 12 y)
      (.br (decide ((List.length t + List.length [((inter a b c d (IntKind.wrap .i64 (h + q) * pw x) (IntKind.wrap .i64 (l + s) * pw y) ((IntKind.wrap .i64 (h + q) + 1) * pw x) ((IntKind.wrap .i64 (l + s) + 1) * pw y)).fst, (inter a b c d (IntKind.wrap .i64 (h + q) * pw x) (IntKind.wrap .i64 (l + s) * pw y) ((IntKind.wrap .i64 (h + q) + 1) * pw x) ((IntKind.wrap .i64 (l + s) + 1) * pw y)).snd.fst, (inter a b c d (IntKind.wrap .i64 (h + q) * pw x) (IntKind.wrap .i64 (l + s) * pw y) ((IntKind.wrap .i64 (h + q) + 1) * pw x) ((IntKind.wrap .i64 (l + s) + 1) * pw y)).snd.snd.fst, (inter a b c d (IntKind.wrap .i64 (h + q) * pw x) (IntKind.wrap .i64 (l + s) * pw y) ((IntKind.wrap .i64 (h + q) + 1) * pw x) ((IntKind.wrap .i64 (l + s) + 1) * pw y)).snd.snd.snd)]) * 33 ≤ 140737488355328))
        (.leaf Ex.normal [.one (.int .i64 x), .one (.int .i64 y), V.one (C.ptr 0 0), .one (.int .i64 m), .one (.int .i64 n), V.one (C.row 1), .one (.int .i64 h), .one (.int .i64 l), .one (.int .i64 s), .one (.int .i64 u), .one (.int .i64 v), .one (.int .i64 g), .one (.int .i64 (IntKind.wrap .i64 (q + 1)))] [some (Blk.box [.int .i64 a, .int .i64 b, .int .i64 c, .int .i64 d]), some (Blk.arr 23 (Sh.pair (Sh.int .i64) (Sh.pair (Sh.int .i64) (Sh.pair (Sh.int .i64) (Sh.int .i64)))) (t ++ [((inter a b c d (IntKind.wrap .i64 (h + q) * pw x) (IntKind.wrap .i64 (l + s) * pw y) ((IntKind.wrap .i64 (h + q) + 1) * pw x) ((IntKind.wrap .i64 (l + s) + 1) * pw y)).fst, (inter a b c d (IntKind.wrap .i64 (h + q) * pw x) (IntKind.wrap .i64 (l + s) * pw y) ((IntKind.wrap .i64 (h + q) + 1) * pw x) ((IntKind.wrap .i64 (l + s) + 1) * pw y)).snd.fst, (inter a b c d (IntKind.wrap .i64 (h + q) * pw x) (IntKind.wrap .i64 (l + s) * pw y) ((IntKind.wrap .i64 (h + q) + 1) * pw x) ((IntKind.wrap .i64 (l + s) + 1) * pw y)).snd.snd.fst, (inter a b c d (IntKind.wrap .i64 (h + q) * pw x) (IntKind.wrap .i64 (l + s) * pw y) ((IntKind.wrap .i64 (h + q) + 1) * pw x) ((IntKind.wrap .i64 (l + s) + 1) * pw y)).snd.snd.snd)]))])
        .no)
      .no)
    (.leaf (Ex.exit 2) [.one (.int .i64 x), .one (.int .i64 y), V.one (C.ptr 0 0), .one (.int .i64 m), .one (.int .i64 n), V.one (C.row 1), .one (.int .i64 h), .one (.int .i64 l), .one (.int .i64 u), .one (.int .i64 v)] [some (Blk.box [.int .i64 a, .int .i64 b, .int .i64 c, .int .i64 d]), some (Blk.arr 23 (Sh.pair (Sh.int .i64) (Sh.pair (Sh.int .i64) (Sh.pair (Sh.int .i64) (Sh.int .i64)))) t)]))
def T_pa_Blocks_1 : List V → List (Option Blk) → LT := fun vs bl => (pO vs fun c' vs => kI c' fun x => pO vs fun c' vs => kI c' fun y => pO vs fun c' vs => kP 0 0 c' <| pO vs fun c' vs => kI c' fun m => pO vs fun c' vs => kI c' fun n => pO vs fun c' vs => kR 1 c' <| pO vs fun c' vs => kI c' fun h => pO vs fun c' vs => kI c' fun l => pO vs fun c' vs => kI c' fun s => pO vs fun c' vs => kI c' fun u => pO vs fun c' vs => kI c' fun v => pO vs fun c' vs => kI c' fun g => pO vs fun c' vs => kI c' fun q => pE vs <| bB bl fun q' bl => tC q' fun c' q' => kI c' fun a => tC q' fun c' q' => kI c' fun b => tC q' fun c' q' => kI c' fun c => tC q' fun c' q' => kI c' fun d => tE q' <| bAR 23 bl fun t bl => bE bl <| some (U_pa_Blocks_1 a b c d x y m n h l s u v g q t)).getD .no
theorem tu_pa_Blocks_1 (a b c d x y m n h l s u v g q : Int) (t : List Rc) : T_pa_Blocks_1 [.one (.int .i64 x), .one (.int .i64 y), .one (.ptr 0 0), .one (.int .i64 m), .one (.int .i64 n), .one (.row 1), .one (.int .i64 h), .one (.int .i64 l), .one (.int .i64 s), .one (.int .i64 u), .one (.int .i64 v), .one (.int .i64 g), .one (.int .i64 q)] [some (.box [.int .i64 a, .int .i64 b, .int .i64 c, .int .i64 d]), some (.arr 23 (.pair (.int .i64) (.pair (.int .i64) (.pair (.int .i64) (.int .i64)))) t)] = U_pa_Blocks_1 a b c d x y m n h l s u v g q t := by kernel_rfl
theorem b_pa_Blocks_1 (a b c d x y m n h l s u v g q : Int) (t : List Rc) (Kc : Ex → Option (List V × List (Option Blk)) → Option Out) : exec Try.prog t_pa_Blocks (annOf []) l_pa_Blocks 20 0 (loopOf Try.f77 1) (unp 49 [1, 2, 3, 6, 7, 8, 9, 10, 11, 22, 23, 26, 27] [.one (.int .i64 x), .one (.int .i64 y), .one (.ptr 0 0), .one (.int .i64 m), .one (.int .i64 n), .one (.row 1), .one (.int .i64 h), .one (.int .i64 l), .one (.int .i64 s), .one (.int .i64 u), .one (.int .i64 v), .one (.int .i64 g), .one (.int .i64 q)] [some (.box [.int .i64 a, .int .i64 b, .int .i64 c, .int .i64 d]), some (.arr 23 (.pair (.int .i64) (.pair (.int .i64) (.pair (.int .i64) (.int .i64)))) t)]) (endc 0 49 [1, 2, 3, 6, 7, 8, 9, 10, 11, 22, 23, 26, 27] (kxOf [1, 2, 3, 6, 7, 8, 9, 10, 22, 23] [6, 7, 8]) Kc) =
  (T_pa_Blocks_1 [.one (.int .i64 x), .one (.int .i64 y), .one (.ptr 0 0), .one (.int .i64 m), .one (.int .i64 n), .one (.row 1), .one (.int .i64 h), .one (.int .i64 l), .one (.int .i64 s), .one (.int .i64 u), .one (.int .i64 v), .one (.int .i64 g), .one (.int .i64 q)] [some (.box [.int .i64 a, .int .i64 b, .int .i64 c, .int .i64 d]), some (.arr 23 (.pair (.int .i64) (.pair (.int .i64) (.pair (.int .i64) (.int .i64)))) t)]).runc Kc := by kernel_rfl
end
end Go.Rx.Ch24

set_option linter.unusedVariables false
set_option maxRecDepth 100000
set_option maxHeartbeats 4000000
open Go Go.Rx Go.Proofs
namespace Go.Rx.Ch24
noncomputable section
def t_lay_Tiles : FuncId → Option Summ := tabOf [(33, G_params_Header), (34, G_rect_Cells)]
def l_lay_Tiles : Nat → Option LSumm := ltOf []
theorem e_lay_Tiles (h : Hd) : funR Try.prog t_lay_Tiles (annOf []) l_lay_Tiles 20 Try.f10 [.agg (hdC h)] [] =
  (ite2 (small (List.length h.cs))
  (ite2 (header h != 0)
    (some ⟨V.one (C.row 0), [], [Blk.arr 23 (Sh.pair (Sh.int .i64) (Sh.pair (Sh.int .i64) (Sh.pair (Sh.int .i64) (Sh.int .i64)))) ([] : List (Int × Int × Int × Int))]⟩)
    (ite2 (decide (h.tw ≤ 4096) && decide (h.th ≤ 4096))
      (some ⟨V.one (C.row 0), [], [Blk.arr 23 (Sh.pair (Sh.int .i64) (Sh.pair (Sh.int .i64) (Sh.pair (Sh.int .i64) (Sh.int .i64)))) (tilesL h.a h.b h.c h.d h.tw h.th)]⟩)
      none))
  none) := by kernel_rfl
def t_ref24_Tiles : FuncId → Option Summ := tabOf [(35, G_ref23_Header), (36, G_ref01_Cells)]
def l_ref24_Tiles : Nat → Option LSumm := ltOf []
theorem e_ref24_Tiles (h : Hd) : funR Try.prog t_ref24_Tiles (annOf []) l_ref24_Tiles 20 Try.f11 [.agg (hdC h)] [] =
  (ite2 (small (List.length h.cs))
  (ite2 (header h != 0)
    (some ⟨V.one (C.row 0), [], [Blk.arr 23 (Sh.pair (Sh.int .i64) (Sh.pair (Sh.int .i64) (Sh.pair (Sh.int .i64) (Sh.int .i64)))) ([] : List (Int × Int × Int × Int))]⟩)
    (ite2 (decide (h.tw ≤ 4096) && decide (h.th ≤ 4096))
      (some ⟨V.one (C.row 0), [], [Blk.arr 23 (Sh.pair (Sh.int .i64) (Sh.pair (Sh.int .i64) (Sh.pair (Sh.int .i64) (Sh.int .i64)))) (tilesL h.a h.b h.c h.d h.tw h.th)]⟩)
      none))
  none) := by kernel_rfl
end
end Go.Rx.Ch24

set_option linter.unusedVariables false
set_option maxRecDepth 100000
set_option maxHeartbeats 4000000
open Go Go.Rx Go.Proofs
namespace Go.Rx.Ch24
noncomputable section
def t_ref22_Blocks : FuncId → Option Summ := tabOf [(74, G_ref22_Precincts), (97, G_ref22_Precinct)]
def l_ref22_Blocks : Nat → Option LSumm := ltOf [(5, ⟨0, 55, [1, 2, 3, 6, 7, 8, 9], (kxOf [6, 7, 8] [6, 7, 8]), S_ref22_Blocks_0⟩)]
theorem e_ref22_Blocks (a b c d x y : Int) : funR Try.prog t_ref22_Blocks (annOf []) l_ref22_Blocks 20 Try.f81 [.agg [.int .i64 a, .int .i64 b, .int .i64 c, .int .i64 d], .one (.int .i64 x), .one (.int .i64 y)] [] =
  (ite2 (decide (x < 0))
  (some ⟨V.tup [(false, [.int .i64 0]), (false, [.int .i64 0]), (false, [C.row 0])], [], [Blk.arr 23 (Sh.pair (Sh.int .i64) (Sh.pair (Sh.int .i64) (Sh.pair (Sh.int .i64) (Sh.int .i64)))) ([] : List (Int × Int × Int × Int))]⟩)
  (ite2 (decide (x > 6))
    (some ⟨V.tup [(false, [.int .i64 0]), (false, [.int .i64 0]), (false, [C.row 0])], [], [Blk.arr 23 (Sh.pair (Sh.int .i64) (Sh.pair (Sh.int .i64) (Sh.pair (Sh.int .i64) (Sh.int .i64)))) ([] : List (Int × Int × Int × Int))]⟩)
    (ite2 (decide (y < 0))
      (some ⟨V.tup [(false, [.int .i64 0]), (false, [.int .i64 0]), (false, [C.row 0])], [], [Blk.arr 23 (Sh.pair (Sh.int .i64) (Sh.pair (Sh.int .i64) (Sh.pair (Sh.int .i64) (Sh.int .i64)))) ([] : List (Int × Int × Int × Int))]⟩)
      (ite2 (decide (y > 6))
        (some ⟨V.tup [(false, [.int .i64 0]), (false, [.int .i64 0]), (false, [C.row 0])], [], [Blk.arr 23 (Sh.pair (Sh.int .i64) (Sh.pair (Sh.int .i64) (Sh.pair (Sh.int .i64) (Sh.int .i64)))) ([] : List (Int × Int × Int × Int))]⟩)
        (ite2 (k_ref22_Blocks_0 a b c d x y (precN a b c d x y).fst (precN a b c d x y).snd 0 [])
          (some ⟨V.tup [(false, [.int .i64 (precN a b c d x y).fst]), (false, [.int .i64 (precN a b c d x y).snd]), (false, [C.row 0])], [], [Blk.arr 23 (Sh.pair (Sh.int .i64) (Sh.pair (Sh.int .i64) (Sh.pair (Sh.int .i64) (Sh.int .i64)))) (blkI a b c d x y)]⟩)
          none))))) := by kernel_rfl
def U_ref22_Blocks_0 (a b c d x y m n i : Int) (t : List Rc) : LT :=
  (.br (decide (i < IntKind.wrap .i64 (m * n)))
    (.br (decide ((List.length t + List.length [((if plcOk a b c d x y i = true then interR (a, b, c, d) (cellT (plcC a b c d x y i) (plcR a b c d x y i) x y) else (0, 0, 0, 0)).fst, (if plcOk a b c d x y i = true then interR (a, b, c, d) (cellT (plcC a b c d x y i) (plcR a b c d x y i) x y) else (0, 0, 0, 0)).snd.fst, (if plcOk a b c d x y i = true then interR (a, b, c, d) (cellT (plcC a b c d x y i) (plcR a b c d x y i) x y) else (0, 0, 0, 0)).snd.snd.fst, (if plcOk a b c d x y i = true then interR (a, b, c, d) (cellT (plcC a b c d x y i) (plcR a b c d x y i) x y) else (0, 0, 0, 0)).snd.snd.snd)]) * 33 ≤ 140737488355328))
      (.leaf Ex.normal [.one (.int .i64 x), .one (.int .i64 y), V.one (C.ptr 0 0), .one (.int .i64 m), .one (.int .i64 n), V.one (C.row 1), .one (.int .i64 (IntKind.wrap .i64 (i + 1)))] [some (Blk.box [.int .i64 a, .int .i64 b, .int .i64 c, .int .i64 d]), some (Blk.arr 23 (Sh.pair (Sh.int .i64) (Sh.pair (Sh.int .i64) (Sh.pair (Sh.int .i64) (Sh.int .i64)))) (t ++ [((if plcOk a b c d x y i = true then interR (a, b, c, d) (cellT (plcC a b c d x y i) (plcR a b c d x y i) x y) else (0, 0, 0, 0)).fst, (if plcOk a b c d x y i = true then interR (a, b, c, d) (cellT (plcC a b c d x y i) (plcR a b c d x y i) x y) else (0, 0, 0, 0)).snd.fst, (if plcOk a b c d x y i = true then interR (a, b, c, d) (cellT (plcC a b c d x y i) (plcR a b c d x y i) x y) else (0, 0, 0, 0)).snd.snd.fst, (if plcOk a b c d x y i = true then interR (a, b, c, d) (cellT (plcC a b c d x y i) (plcR a b c d x y i) x y) else (0, 0, 0, 0)).snd.snd.snd)]))])
      .no)
    (.leaf (Ex.exit 0) [.one (.int .i64 m), .one (.int .i64 n), V.one (C.row 0)] [some (Blk.arr 23 (Sh.pair (Sh.int .i64) (Sh.pair (Sh.int .i64) (Sh.pair (Sh.int .i64) (Sh.int .i64)))) t)]))
def T_ref22_Blocks_0 : List V → List (Option Blk) → LT := fun vs bl => (pO vs fun c' vs => kI c' fun x => pO vs fun c' vs => kI c' fun y => pO vs fun c' vs => kP 0 0 c' <| pO vs fun c' vs => kI c' fun m => pO vs fun c' vs => kI c' fun n => pO vs fun c' vs => kR 1 c' <| pO vs fun c' vs => kI c' fun i => pE vs <| bB bl fun q' bl => tC q' fun c' q' => kI c' fun a => tC q' fun c' q' => kI c' fun b => tC q' fun c' q' => kI c' fun c => tC q' fun c' q' => kI c' fun d => tE q' <| bAR 23 bl fun t bl => bE bl <| some (U_ref22_Blocks_0 a b c d x y m n i t)).getD .no
theorem tu_ref22_Blocks_0 (a b c d x y m n i : Int) (t : List Rc) : T_ref22_Blocks_0 [.one (.int .i64 x), .one (.int .i64 y), .one (.ptr 0 0), .one (.int .i64 m), .one (.int .i64 n), .one (.row 1), .one (.int .i64 i)] [some (.box [.int .i64 a, .int .i64 b, .int .i64 c, .int .i64 d]), some (.arr 23 (.pair (.int .i64) (.pair (.int .i64) (.pair (.int .i64) (.int .i64)))) t)] = U_ref22_Blocks_0 a b c d x y m n i t := by kernel_rfl
theorem b_ref22_Blocks_0 (a b c d x y m n i : Int) (t : List Rc) (Kc : Ex → Option (List V × List (Option Blk)) → Option Out) : exec Try.prog t_ref22_Blocks (annOf []) l_ref22_Blocks 20 0 (loopOf Try.f81 0) (unp 55 [1, 2, 3, 6, 7, 8, 9] [.one (.int .i64 x), .one (.int .i64 y), .one (.ptr 0 0), .one (.int .i64 m), .one (.int .i64 n), .one (.row 1), .one (.int .i64 i)] [some (.box [.int .i64 a, .int .i64 b, .int .i64 c, .int .i64 d]), some (.arr 23 (.pair (.int .i64) (.pair (.int .i64) (.pair (.int .i64) (.int .i64)))) t)]) (endc 0 55 [1, 2, 3, 6, 7, 8, 9] (kxOf [6, 7, 8] [6, 7, 8]) Kc) =
  (T_ref22_Blocks_0 [.one (.int .i64 x), .one (.int .i64 y), .one (.ptr 0 0), .one (.int .i64 m), .one (.int .i64 n), .one (.row 1), .one (.int .i64 i)] [some (.box [.int .i64 a, .int .i64 b, .int .i64 c, .int .i64 d]), some (.arr 23 (.pair (.int .i64) (.pair (.int .i64) (.pair (.int .i64) (.int .i64)))) t)]).runc Kc := by kernel_rfl
end
end Go.Rx.Ch24

set_option linter.unusedVariables false
set_option maxRecDepth 100000
set_option maxHeartbeats 4000000
open Go Go.Rx Go.Proofs
namespace Go.Rx.Ch24
noncomputable section
def t_lay_Component : FuncId → Option Summ := tabOf [(10, G_lay_Tiles), (37, G_rect_Reduce)]
def l_lay_Component : Nat → Option LSumm := ltOf []
theorem e_lay_Component (h : Hd) (t k : Int) : funR Try.prog t_lay_Component (annOf []) l_lay_Component 20 Try.f12 [.agg (hdC h), .one (.int .i64 t), .one (.int .i64 k)] [] =
  (ite2 (small (List.length h.cs))
  (ite2 (decide (t < 0))
    (some ⟨.agg [.int .i64 0, .int .i64 0, .int .i64 0, .int .i64 0], [], []⟩)
    (ite2 (decide (t ≥ (↑(List.length (tilesH h)) : Int)))
      (some ⟨.agg [.int .i64 0, .int .i64 0, .int .i64 0, .int .i64 0], [], []⟩)
      (ite2 (decide (k < 0))
        (some ⟨.agg [.int .i64 0, .int .i64 0, .int .i64 0, .int .i64 0], [], []⟩)
        (ite2 (decide (k ≥ (↑(List.length h.cs) : Int)))
          (some ⟨.agg [.int .i64 0, .int .i64 0, .int .i64 0, .int .i64 0], [], []⟩)
          (ite2 (decide (0 ≤ k ∧ k < (↑(List.length h.cs) : Int)))
            (ite2 (decide (0 ≤ t ∧ t < (↑(List.length (tilesH h)) : Int)))
              (ite2 (decide (Int.toNat t < List.length (tilesH h)))
                (some ⟨.agg [.int .i64 (reduce (gR (tilesH h) (Int.toNat t)).fst (gR (tilesH h) (Int.toNat t)).snd.fst (gR (tilesH h) (Int.toNat t)).snd.snd.fst (gR (tilesH h) (Int.toNat t)).snd.snd.snd (gC h.cs (Int.toNat k)).snd.snd.fst (gC h.cs (Int.toNat k)).snd.snd.snd).fst, .int .i64 (reduce (gR (tilesH h) (Int.toNat t)).fst (gR (tilesH h) (Int.toNat t)).snd.fst (gR (tilesH h) (Int.toNat t)).snd.snd.fst (gR (tilesH h) (Int.toNat t)).snd.snd.snd (gC h.cs (Int.toNat k)).snd.snd.fst (gC h.cs (Int.toNat k)).snd.snd.snd).snd.fst, .int .i64 (reduce (gR (tilesH h) (Int.toNat t)).fst (gR (tilesH h) (Int.toNat t)).snd.fst (gR (tilesH h) (Int.toNat t)).snd.snd.fst (gR (tilesH h) (Int.toNat t)).snd.snd.snd (gC h.cs (Int.toNat k)).snd.snd.fst (gC h.cs (Int.toNat k)).snd.snd.snd).snd.snd.fst, .int .i64 (reduce (gR (tilesH h) (Int.toNat t)).fst (gR (tilesH h) (Int.toNat t)).snd.fst (gR (tilesH h) (Int.toNat t)).snd.snd.fst (gR (tilesH h) (Int.toNat t)).snd.snd.snd (gC h.cs (Int.toNat k)).snd.snd.fst (gC h.cs (Int.toNat k)).snd.snd.snd).snd.snd.snd], [], []⟩)
                none)
              none)
            none)))))
  none) := by kernel_rfl
def t_lay_exists : FuncId → Option Summ := tabOf [(10, G_lay_Tiles), (25, G_params_Check)]
def l_lay_exists : Nat → Option LSumm := ltOf []
theorem e_lay_exists (h : Hd) (p : Pm) (t k : Int) : funR Try.prog t_lay_exists (annOf []) l_lay_exists 20 Try.f39 [.agg (hdC h), .agg (pmC p), .one (.int .i64 t), .one (.int .i64 k)] [] =
  (ite2 (small (List.length h.cs) && (small (List.length p.pr) && small (List.length p.st)))
  (ite2 (checkA h p == 0)
    (ite2 (decide (t ≥ 0))
      (ite2 (small (List.length h.cs))
        (ite2 (decide (t < (↑(List.length (tilesH h)) : Int)))
          (ite2 (decide (k ≥ 0))
            (some ⟨.one (.bool (decide (k < (↑(List.length h.cs) : Int)))), [], []⟩)
            (some ⟨.one (.bool false), [], []⟩))
          (some ⟨.one (.bool false), [], []⟩))
        none)
      (some ⟨.one (.bool false), [], []⟩))
    (some ⟨.one (.bool false), [], []⟩))
  none) := by kernel_rfl
def t_lay_Resolution : FuncId → Option Summ := tabOf [(12, G_lay_Component), (39, G_lay_exists), (40, G_pyr_Resolution), (41, G_params_Precinct), (42, G_pa_Precincts)]
def l_lay_Resolution : Nat → Option LSumm := ltOf []
theorem e_lay_Resolution (h : Hd) (p : Pm) (t k s : Int) : funR Try.prog t_lay_Resolution (annOf []) l_lay_Resolution 20 Try.f14 [.agg (hdC h), .agg (pmC p), .one (.int .i64 t), .one (.int .i64 k), .one (.int .i64 s)] [] =
  (ite2 (small (List.length h.cs) && (small (List.length p.pr) && small (List.length p.st)))
  (ite2 (!existsB h p t k)
    (some ⟨V.tup [(true, [.int .i64 0, .int .i64 0, .int .i64 0, .int .i64 0]), (false, [.int .i64 0]), (false, [.int .i64 0])], [], []⟩)
    (ite2 (decide (s < 0))
      (some ⟨V.tup [(true, [.int .i64 0, .int .i64 0, .int .i64 0, .int .i64 0]), (false, [.int .i64 0]), (false, [.int .i64 0])], [], []⟩)
      (ite2 (decide (s > p.le))
        (some ⟨V.tup [(true, [.int .i64 0, .int .i64 0, .int .i64 0, .int .i64 0]), (false, [.int .i64 0]), (false, [.int .i64 0])], [], []⟩)
        (ite2 (small (List.length h.cs))
          (some ⟨V.tup [(true, [.int .i64 (resR (compT h t k).fst (compT h t k).snd.fst (compT h t k).snd.snd.fst (compT h t k).snd.snd.snd p.le s).fst, .int .i64 (resR (compT h t k).fst (compT h t k).snd.fst (compT h t k).snd.snd.fst (compT h t k).snd.snd.snd p.le s).snd.fst, .int .i64 (resR (compT h t k).fst (compT h t k).snd.fst (compT h t k).snd.snd.fst (compT h t k).snd.snd.snd p.le s).snd.snd.fst, .int .i64 (resR (compT h t k).fst (compT h t k).snd.fst (compT h t k).snd.snd.fst (compT h t k).snd.snd.snd p.le s).snd.snd.snd]), (false, [.int .i64 (precN (resR (compT h t k).fst (compT h t k).snd.fst (compT h t k).snd.snd.fst (compT h t k).snd.snd.snd p.le s).fst (resR (compT h t k).fst (compT h t k).snd.fst (compT h t k).snd.snd.fst (compT h t k).snd.snd.snd p.le s).snd.fst (resR (compT h t k).fst (compT h t k).snd.fst (compT h t k).snd.snd.fst (compT h t k).snd.snd.snd p.le s).snd.snd.fst (resR (compT h t k).fst (compT h t k).snd.fst (compT h t k).snd.snd.fst (compT h t k).snd.snd.snd p.le s).snd.snd.snd (prec p s).fst (prec p s).snd).fst]), (false, [.int .i64 (precN (resR (compT h t k).fst (compT h t k).snd.fst (compT h t k).snd.snd.fst (compT h t k).snd.snd.snd p.le s).fst (resR (compT h t k).fst (compT h t k).snd.fst (compT h t k).snd.snd.fst (compT h t k).snd.snd.snd p.le s).snd.fst (resR (compT h t k).fst (compT h t k).snd.fst (compT h t k).snd.snd.fst (compT h t k).snd.snd.snd p.le s).snd.snd.fst (resR (compT h t k).fst (compT h t k).snd.fst (compT h t k).snd.snd.fst (compT h t k).snd.snd.snd p.le s).snd.snd.snd (prec p s).fst (prec p s).snd).snd])], [], []⟩)
          none))))
  none) := by kernel_rfl
def t_ref24_Component : FuncId → Option Summ := tabOf [(11, G_ref24_Tiles), (38, G_ref01_Reduce)]
def l_ref24_Component : Nat → Option LSumm := ltOf []
theorem e_ref24_Component (h : Hd) (t k : Int) : funR Try.prog t_ref24_Component (annOf []) l_ref24_Component 20 Try.f13 [.agg (hdC h), .one (.int .i64 t), .one (.int .i64 k)] [] =
  (ite2 (small (List.length h.cs))
  (ite2 (decide (t < 0))
    (some ⟨.agg [.int .i64 0, .int .i64 0, .int .i64 0, .int .i64 0], [], []⟩)
    (ite2 (decide (t ≥ (↑(List.length (tilesH h)) : Int)))
      (some ⟨.agg [.int .i64 0, .int .i64 0, .int .i64 0, .int .i64 0], [], []⟩)
      (ite2 (decide (k < 0))
        (some ⟨.agg [.int .i64 0, .int .i64 0, .int .i64 0, .int .i64 0], [], []⟩)
        (ite2 (decide (k ≥ (↑(List.length h.cs) : Int)))
          (some ⟨.agg [.int .i64 0, .int .i64 0, .int .i64 0, .int .i64 0], [], []⟩)
          (ite2 (decide (0 ≤ t ∧ t < (↑(List.length (tilesH h)) : Int)))
            (ite2 (decide (Int.toNat t < List.length (tilesH h)))
              (ite2 (decide (0 ≤ k ∧ k < (↑(List.length h.cs) : Int)))
                (ite2 (decide (0 ≤ k ∧ k < (↑(List.length h.cs) : Int)))
                  (some ⟨.agg [.int .i64 (reduce (gR (tilesH h) (Int.toNat t)).fst (gR (tilesH h) (Int.toNat t)).snd.fst (gR (tilesH h) (Int.toNat t)).snd.snd.fst (gR (tilesH h) (Int.toNat t)).snd.snd.snd (gC h.cs (Int.toNat k)).snd.snd.fst (gC h.cs (Int.toNat k)).snd.snd.snd).fst, .int .i64 (reduce (gR (tilesH h) (Int.toNat t)).fst (gR (tilesH h) (Int.toNat t)).snd.fst (gR (tilesH h) (Int.toNat t)).snd.snd.fst (gR (tilesH h) (Int.toNat t)).snd.snd.snd (gC h.cs (Int.toNat k)).snd.snd.fst (gC h.cs (Int.toNat k)).snd.snd.snd).snd.fst, .int .i64 (reduce (gR (tilesH h) (Int.toNat t)).fst (gR (tilesH h) (Int.toNat t)).snd.fst (gR (tilesH h) (Int.toNat t)).snd.snd.fst (gR (tilesH h) (Int.toNat t)).snd.snd.snd (gC h.cs (Int.toNat k)).snd.snd.fst (gC h.cs (Int.toNat k)).snd.snd.snd).snd.snd.fst, .int .i64 (reduce (gR (tilesH h) (Int.toNat t)).fst (gR (tilesH h) (Int.toNat t)).snd.fst (gR (tilesH h) (Int.toNat t)).snd.snd.fst (gR (tilesH h) (Int.toNat t)).snd.snd.snd (gC h.cs (Int.toNat k)).snd.snd.fst (gC h.cs (Int.toNat k)).snd.snd.snd).snd.snd.snd], [], []⟩)
                  none)
                none)
              none)
            none)))))
  none) := by kernel_rfl
def t_ref24_resolution : FuncId → Option Summ := tabOf [(72, G_ref06_Resolution), (73, G_ref23_Precinct), (74, G_ref22_Precincts)]
def l_ref24_resolution : Nat → Option LSumm := ltOf []
theorem e_ref24_resolution (a b c d s : Int) (p : Pm) : funR Try.prog t_ref24_resolution (annOf []) l_ref24_resolution 20 Try.f44 [.agg [.int .i64 a, .int .i64 b, .int .i64 c, .int .i64 d], .agg (pmC p), .one (.int .i64 s)] [] =
  (some ⟨V.tup [(true, [.int .i64 (resR a b c d p.le s).fst, .int .i64 (resR a b c d p.le s).snd.fst, .int .i64 (resR a b c d p.le s).snd.snd.fst, .int .i64 (resR a b c d p.le s).snd.snd.snd]), (false, [.int .i64 (precN (resR a b c d p.le s).fst (resR a b c d p.le s).snd.fst (resR a b c d p.le s).snd.snd.fst (resR a b c d p.le s).snd.snd.snd (prec p s).fst (prec p s).snd).fst]), (false, [.int .i64 (precN (resR a b c d p.le s).fst (resR a b c d p.le s).snd.fst (resR a b c d p.le s).snd.snd.fst (resR a b c d p.le s).snd.snd.snd (prec p s).fst (prec p s).snd).snd])], [], []⟩) := by kernel_rfl
def t_ref24_exists : FuncId → Option Summ := tabOf [(11, G_ref24_Tiles), (71, G_ref23_Check)]
def l_ref24_exists : Nat → Option LSumm := ltOf []
theorem e_ref24_exists (h : Hd) (p : Pm) (t k : Int) : funR Try.prog t_ref24_exists (annOf []) l_ref24_exists 20 Try.f43 [.agg (hdC h), .agg (pmC p), .one (.int .i64 t), .one (.int .i64 k)] [] =
  (ite2 (small (List.length h.cs) && (small (List.length p.pr) && small (List.length p.st)))
  (ite2 (checkB h p == 0)
    (ite2 (decide (t ≥ 0))
      (ite2 (small (List.length h.cs))
        (ite2 (decide (t < (↑(List.length (tilesH h)) : Int)))
          (ite2 (decide (k ≥ 0))
            (some ⟨.one (.bool (decide (k < (↑(List.length h.cs) : Int)))), [], []⟩)
            (some ⟨.one (.bool false), [], []⟩))
          (some ⟨.one (.bool false), [], []⟩))
        none)
      (some ⟨.one (.bool false), [], []⟩))
    (some ⟨.one (.bool false), [], []⟩))
  none) := by kernel_rfl
def t_ref24_Resolution : FuncId → Option Summ := tabOf [(13, G_ref24_Component), (43, G_ref24_exists), (44, G_ref24_resolution)]
def l_ref24_Resolution : Nat → Option LSumm := ltOf []
theorem e_ref24_Resolution (h : Hd) (p : Pm) (t k s : Int) : funR Try.prog t_ref24_Resolution (annOf []) l_ref24_Resolution 20 Try.f15 [.agg (hdC h), .agg (pmC p), .one (.int .i64 t), .one (.int .i64 k), .one (.int .i64 s)] [] =
  (ite2 (small (List.length h.cs) && (small (List.length p.pr) && small (List.length p.st)))
  (ite2 (!existsB h p t k)
    (some ⟨V.tup [(true, [.int .i64 0, .int .i64 0, .int .i64 0, .int .i64 0]), (false, [.int .i64 0]), (false, [.int .i64 0])], [], []⟩)
    (ite2 (decide (s < 0))
      (some ⟨V.tup [(true, [.int .i64 0, .int .i64 0, .int .i64 0, .int .i64 0]), (false, [.int .i64 0]), (false, [.int .i64 0])], [], []⟩)
      (ite2 (decide (s > p.le))
        (some ⟨V.tup [(true, [.int .i64 0, .int .i64 0, .int .i64 0, .int .i64 0]), (false, [.int .i64 0]), (false, [.int .i64 0])], [], []⟩)
        (ite2 (small (List.length h.cs))
          (some ⟨V.tup [(true, [.int .i64 (rsR ((compT h t k).fst, (compT h t k).snd.fst, (compT h t k).snd.snd.fst, (compT h t k).snd.snd.snd) p s).fst, .int .i64 (rsR ((compT h t k).fst, (compT h t k).snd.fst, (compT h t k).snd.snd.fst, (compT h t k).snd.snd.snd) p s).snd.fst, .int .i64 (rsR ((compT h t k).fst, (compT h t k).snd.fst, (compT h t k).snd.snd.fst, (compT h t k).snd.snd.snd) p s).snd.snd.fst, .int .i64 (rsR ((compT h t k).fst, (compT h t k).snd.fst, (compT h t k).snd.snd.fst, (compT h t k).snd.snd.snd) p s).snd.snd.snd]), (false, [.int .i64 (rsN ((compT h t k).fst, (compT h t k).snd.fst, (compT h t k).snd.snd.fst, (compT h t k).snd.snd.snd) p s).fst]), (false, [.int .i64 (rsN ((compT h t k).fst, (compT h t k).snd.fst, (compT h t k).snd.snd.fst, (compT h t k).snd.snd.snd) p s).snd])], [], []⟩)
          none))))
  none) := by kernel_rfl
end
end Go.Rx.Ch24

