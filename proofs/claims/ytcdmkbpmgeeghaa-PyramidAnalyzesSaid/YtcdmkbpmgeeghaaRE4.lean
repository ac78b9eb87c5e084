/- Each function, run by the executor: an equation. -/
import Derived.Test.YtcdmkbpmgeeghaaRG
import Derived.Test.YtcdmkbpmgeeghaaProg
import Derived.KernelRfl
set_option linter.unnecessarySimpa false
set_option linter.unusedVariables false
set_option linter.unusedSimpArgs false
set_option linter.unusedVariables false
set_option maxRecDepth 100000
set_option maxHeartbeats 40000000
open Go Go.Rx Go.Proofs
namespace Go.Rx.Ch06
noncomputable section
def t_law_same : FuncId → Option Summ := tabOf []
def l_law_same : Nat → Option LSumm := ltOf [(4, ⟨0, 38, [2, 3, 22, 23], (kxOf [] [4]), S_law_same_0⟩)]
theorem e_law_same (a b c d a1 b1 c1 d1 : Int) (l m : List Int) : funR Try.prog t_law_same (annOf []) l_law_same 20 Try.f32 [.agg [.int .i64 a, .int .i64 b, .int .i64 c, .int .i64 d, .lst (.int .i64) l], .agg [.int .i64 a1, .int .i64 b1, .int .i64 c1, .int .i64 d1, .lst (.int .i64) m]] [] =
  (ite2 (!(a == a1 && (b == b1 && (c == c1 && (d == d1 && true)))))
  (some ⟨.one (.bool false), [], []⟩)
  (ite2 ((↑(List.length l) : Int) != (↑(List.length m) : Int))
    (some ⟨.one (.bool false), [], []⟩)
    (ite2 (k_law_same_0 a b c d a1 b1 c1 d1 l m (↑(List.length l) : Int) 0)
      (ite2 (p_law_same_0 a b c d a1 b1 c1 d1 l m)
        (some ⟨.one (.bool true), [], []⟩)
        (some ⟨.one (.bool false), [], []⟩))
      none))) := by kernel_rfl
def U_law_same_0 (a b c d a1 b1 c1 d1 : Int) (l m : List Int) (n i : Int) : LT :=
  (.br (decide (i < n))
    (.br (decide (0 ≤ i ∧ i < (↑(List.length l) : Int)))
      (.br (decide (0 ≤ i ∧ i < (↑(List.length m) : Int)))
        (.br (gI l (Int.toNat i) != gI m (Int.toNat i))
          (.leaf Ex.ret [.one (.bool false)] [])
          (.leaf Ex.normal [V.one (C.ptr 0 0), V.one (C.ptr 1 0), .one (.int .i64 n), .one (.int .i64 (IntKind.wrap .i64 (i + 1)))] [some (Blk.box [.int .i64 a, .int .i64 b, .int .i64 c, .int .i64 d, C.lst (Sh.int .i64) l]), some (Blk.box [.int .i64 a1, .int .i64 b1, .int .i64 c1, .int .i64 d1, C.lst (Sh.int .i64) m])]))
        .no)
      .no)
    (.leaf (Ex.exit 0) [] []))
def T_law_same_0 : List V → List (Option Blk) → LT := fun vs bl => (pO vs fun c' vs => kP 0 0 c' <| pO vs fun c' vs => kP 1 0 c' <| pO vs fun c' vs => kI c' fun n => pO vs fun c' vs => kI c' fun i => pE vs <| bB bl fun q' bl => tC q' fun c' q' => kI c' fun a => tC q' fun c' q' => kI c' fun b => tC q' fun c' q' => kI c' fun c => tC q' fun c' q' => kI c' fun d => tC q' fun c' q' => kLI c' fun l => tE q' <| bB bl fun q' bl => tC q' fun c' q' => kI c' fun a1 => tC q' fun c' q' => kI c' fun b1 => tC q' fun c' q' => kI c' fun c1 => tC q' fun c' q' => kI c' fun d1 => tC q' fun c' q' => kLI c' fun m => tE q' <| bE bl <| some (U_law_same_0 a b c d a1 b1 c1 d1 l m n i)).getD .no
theorem tu_law_same_0 (a b c d a1 b1 c1 d1 : Int) (l m : List Int) (n i : Int) : T_law_same_0 [.one (.ptr 0 0), .one (.ptr 1 0), .one (.int .i64 n), .one (.int .i64 i)] [some (.box [.int .i64 a, .int .i64 b, .int .i64 c, .int .i64 d, .lst (.int .i64) l]), some (.box [.int .i64 a1, .int .i64 b1, .int .i64 c1, .int .i64 d1, .lst (.int .i64) m])] = U_law_same_0 a b c d a1 b1 c1 d1 l m n i := by kernel_rfl
theorem b_law_same_0 (a b c d a1 b1 c1 d1 : Int) (l m : List Int) (n i : Int) (Kc : Ex → Option (List V × List (Option Blk)) → Option Out) : exec Try.prog t_law_same (annOf []) l_law_same 20 0 (loopOf Try.f32 0) (unp 38 [2, 3, 22, 23] [.one (.ptr 0 0), .one (.ptr 1 0), .one (.int .i64 n), .one (.int .i64 i)] [some (.box [.int .i64 a, .int .i64 b, .int .i64 c, .int .i64 d, .lst (.int .i64) l]), some (.box [.int .i64 a1, .int .i64 b1, .int .i64 c1, .int .i64 d1, .lst (.int .i64) m])]) (endc 0 38 [2, 3, 22, 23] (kxOf [] [4]) Kc) =
  (T_law_same_0 [.one (.ptr 0 0), .one (.ptr 1 0), .one (.int .i64 n), .one (.int .i64 i)] [some (.box [.int .i64 a, .int .i64 b, .int .i64 c, .int .i64 d, .lst (.int .i64) l]), some (.box [.int .i64 a1, .int .i64 b1, .int .i64 c1, .int .i64 d1, .lst (.int .i64) m])]).runc Kc := by kernel_rfl
end
end Go.Rx.Ch06

set_option linter.unusedVariables false
set_option maxRecDepth 100000
set_option maxHeartbeats 40000000
open Go Go.Rx Go.Proofs
namespace Go.Rx.Ch06
noncomputable section
def t_law_sameAll : FuncId → Option Summ := tabOf [(32, G_law_same)]
def l_law_sameAll : Nat → Option LSumm := ltOf [(4, ⟨0, 27, [0, 1, 12, 13], (kxOf [] [4]), S_law_sameAll_0⟩)]
theorem e_law_sameAll (l m : List (Rc × List Int)) : funR Try.prog t_law_sameAll (annOf []) l_law_sameAll 20 Try.f20 [.one (.lst (.pair (.pair (.int .i64) (.pair (.int .i64) (.pair (.int .i64) (.int .i64)))) (.sl (.int .i64))) l), .one (.lst (.pair (.pair (.int .i64) (.pair (.int .i64) (.pair (.int .i64) (.int .i64)))) (.sl (.int .i64))) m)] [] =
  (ite2 ((↑(List.length l) : Int) != (↑(List.length m) : Int))
  (some ⟨.one (.bool false), [], []⟩)
  (ite2 (k_law_sameAll_0 l m (↑(List.length l) : Int) 0)
    (ite2 (p_law_sameAll_0 l m)
      (some ⟨.one (.bool true), [], []⟩)
      (some ⟨.one (.bool false), [], []⟩))
    none)) := by kernel_rfl
def U_law_sameAll_0 (l m : List (Rc × List Int)) (n i : Int) : LT :=
  (.br (decide (i < n))
    (.br (decide (0 ≤ i ∧ i < (↑(List.length l) : Int)))
      (.br (decide (0 ≤ i ∧ i < (↑(List.length m) : Int)))
        (.br (small (List.length (gN l (Int.toNat i)).snd))
          (.br (!samePl (gN l (Int.toNat i)).fst.fst (gN l (Int.toNat i)).fst.snd.fst (gN l (Int.toNat i)).fst.snd.snd.fst (gN l (Int.toNat i)).fst.snd.snd.snd (gN l (Int.toNat i)).snd (gN m (Int.toNat i)).fst.fst (gN m (Int.toNat i)).fst.snd.fst (gN m (Int.toNat i)).fst.snd.snd.fst (gN m (Int.toNat i)).fst.snd.snd.snd (gN m (Int.toNat i)).snd)
            (.leaf Ex.ret [.one (.bool false)] [])
            (.leaf Ex.normal [V.one (C.lst (Sh.pair (Sh.pair (Sh.int .i64) (Sh.pair (Sh.int .i64) (Sh.pair (Sh.int .i64) (Sh.int .i64)))) (Sh.sl (Sh.int .i64))) l), V.one (C.lst (Sh.pair (Sh.pair (Sh.int .i64) (Sh.pair (Sh.int .i64) (Sh.pair (Sh.int .i64) (Sh.int .i64)))) (Sh.sl (Sh.int .i64))) m), .one (.int .i64 n), .one (.int .i64 (IntKind.wrap .i64 (i + 1)))] []))
          .no)
        .no)
      .no)
    (.leaf (Ex.exit 0) [] []))
def T_law_sameAll_0 : List V → List (Option Blk) → LT := fun vs bl => (pO vs fun c' vs => kLN c' fun l => pO vs fun c' vs => kLN c' fun m => pO vs fun c' vs => kI c' fun n => pO vs fun c' vs => kI c' fun i => pE vs <| bE bl <| some (U_law_sameAll_0 l m n i)).getD .no
theorem tu_law_sameAll_0 (l m : List (Rc × List Int)) (n i : Int) : T_law_sameAll_0 [.one (.lst (.pair (.pair (.int .i64) (.pair (.int .i64) (.pair (.int .i64) (.int .i64)))) (.sl (.int .i64))) l), .one (.lst (.pair (.pair (.int .i64) (.pair (.int .i64) (.pair (.int .i64) (.int .i64)))) (.sl (.int .i64))) m), .one (.int .i64 n), .one (.int .i64 i)] [] = U_law_sameAll_0 l m n i := by kernel_rfl
theorem b_law_sameAll_0 (l m : List (Rc × List Int)) (n i : Int) (Kc : Ex → Option (List V × List (Option Blk)) → Option Out) : exec Try.prog t_law_sameAll (annOf []) l_law_sameAll 20 0 (loopOf Try.f20 0) (unp 27 [0, 1, 12, 13] [.one (.lst (.pair (.pair (.int .i64) (.pair (.int .i64) (.pair (.int .i64) (.int .i64)))) (.sl (.int .i64))) l), .one (.lst (.pair (.pair (.int .i64) (.pair (.int .i64) (.pair (.int .i64) (.int .i64)))) (.sl (.int .i64))) m), .one (.int .i64 n), .one (.int .i64 i)] []) (endc 0 27 [0, 1, 12, 13] (kxOf [] [4]) Kc) =
  (T_law_sameAll_0 [.one (.lst (.pair (.pair (.int .i64) (.pair (.int .i64) (.pair (.int .i64) (.int .i64)))) (.sl (.int .i64))) l), .one (.lst (.pair (.pair (.int .i64) (.pair (.int .i64) (.pair (.int .i64) (.int .i64)))) (.sl (.int .i64))) m), .one (.int .i64 n), .one (.int .i64 i)] []).runc Kc := by kernel_rfl
def t_awake : FuncId → Option Summ := tabOf [(11, G_pyr_Place), (13, G_pyr_Count), (15, G_pyr_Indices), (18, G_pyr_Analyze), (21, G_pyr_Need), (23, G_pyr_Bound), (25, G_pyr_Resolution)]
def l_awake : Nat → Option LSumm := ltOf []
theorem e_awake  : funR Try.prog t_awake (annOf []) l_awake 20 Try.f17 [] [] =
  (some ⟨.one (.bool true), [], []⟩) := by kernel_rfl
end
end Go.Rx.Ch06

set_option linter.unusedVariables false
set_option maxRecDepth 100000
set_option maxHeartbeats 40000000
open Go Go.Rx Go.Proofs
namespace Go.Rx.Ch06
noncomputable section
def t_PyramidNeeded : FuncId → Option Summ := tabOf [(17, G_awake), (21, G_pyr_Need), (22, G_ref06_Need)]
def l_PyramidNeeded : Nat → Option LSumm := ltOf [(6, ⟨0, 51, [5, 6, 36, 37], (kxOf [] [4]), S_PyramidNeeded_0⟩)]
theorem e_PyramidNeeded (a b c d e f g h n r k : Int) : funR Try.prog t_PyramidNeeded (annOf []) l_PyramidNeeded 20 Try.f5 [.agg [.int .i64 a, .int .i64 b, .int .i64 c, .int .i64 d, .int .i64 e, .int .i64 f, .int .i64 g, .int .i64 h], .agg [.int .i64 n, .int .i64 r, .int .i64 k]] [] =
  (ite2 ((↑(List.length (ndF a b c d n r e f g h k)) : Int) != (↑(List.length (ndF a b c d n r e f g h k)) : Int))
  (some ⟨.one (.bool false), [], []⟩)
  (ite2 (k_PyramidNeeded_0 (ndF a b c d n r e f g h k) (ndF a b c d n r e f g h k) (↑(List.length (ndF a b c d n r e f g h k)) : Int) 0)
    (ite2 (p_PyramidNeeded_0 (ndF a b c d n r e f g h k) (ndF a b c d n r e f g h k))
      (some ⟨.one (.bool true), [], []⟩)
      (some ⟨.one (.bool false), [], []⟩))
    none)) := by kernel_rfl
def U_PyramidNeeded_0 (v u : List (Int × Int × Int × Int)) (n i : Int) : LT :=
  (.br (decide (i < n))
    (.br (decide (0 ≤ i ∧ i < (↑(List.length v) : Int)))
      (.br (decide (Int.toNat i < List.length v))
        (.br (decide (0 ≤ i ∧ i < (↑(List.length u) : Int)))
          (.br (decide (Int.toNat i < List.length u))
            (.br (!((gR v (Int.toNat i)).fst == (gR u (Int.toNat i)).fst && ((gR v (Int.toNat i)).snd.fst == (gR u (Int.toNat i)).snd.fst && ((gR v (Int.toNat i)).snd.snd.fst == (gR u (Int.toNat i)).snd.snd.fst && ((gR v (Int.toNat i)).snd.snd.snd == (gR u (Int.toNat i)).snd.snd.snd && true)))))
              (.leaf Ex.ret [.one (.bool false)] [])
              (.leaf Ex.normal [V.one (C.row 0), V.one (C.row 1), .one (.int .i64 n), .one (.int .i64 (IntKind.wrap .i64 (i + 1)))] [some (Blk.arr 31 (Sh.pair (Sh.int .i64) (Sh.pair (Sh.int .i64) (Sh.pair (Sh.int .i64) (Sh.int .i64)))) v), some (Blk.arr 31 (Sh.pair (Sh.int .i64) (Sh.pair (Sh.int .i64) (Sh.pair (Sh.int .i64) (Sh.int .i64)))) u)]))
            .no)
          .no)
        .no)
      .no)
    (.leaf (Ex.exit 0) [] []))
def T_PyramidNeeded_0 : List V → List (Option Blk) → LT := fun vs bl => (pO vs fun c' vs => kR 0 c' <| pO vs fun c' vs => kR 1 c' <| pO vs fun c' vs => kI c' fun n => pO vs fun c' vs => kI c' fun i => pE vs <| bAR 31 bl fun v bl => bAR 31 bl fun u bl => bE bl <| some (U_PyramidNeeded_0 v u n i)).getD .no
theorem tu_PyramidNeeded_0 (v u : List (Int × Int × Int × Int)) (n i : Int) : T_PyramidNeeded_0 [.one (.row 0), .one (.row 1), .one (.int .i64 n), .one (.int .i64 i)] [some (.arr 31 (.pair (.int .i64) (.pair (.int .i64) (.pair (.int .i64) (.int .i64)))) v), some (.arr 31 (.pair (.int .i64) (.pair (.int .i64) (.pair (.int .i64) (.int .i64)))) u)] = U_PyramidNeeded_0 v u n i := by kernel_rfl
theorem b_PyramidNeeded_0 (v u : List (Int × Int × Int × Int)) (n i : Int) (Kc : Ex → Option (List V × List (Option Blk)) → Option Out) : exec Try.prog t_PyramidNeeded (annOf []) l_PyramidNeeded 20 0 (loopOf Try.f5 0) (unp 51 [5, 6, 36, 37] [.one (.row 0), .one (.row 1), .one (.int .i64 n), .one (.int .i64 i)] [some (.arr 31 (.pair (.int .i64) (.pair (.int .i64) (.pair (.int .i64) (.int .i64)))) v), some (.arr 31 (.pair (.int .i64) (.pair (.int .i64) (.pair (.int .i64) (.int .i64)))) u)]) (endc 0 51 [5, 6, 36, 37] (kxOf [] [4]) Kc) =
  (T_PyramidNeeded_0 [.one (.row 0), .one (.row 1), .one (.int .i64 n), .one (.int .i64 i)] [some (.arr 31 (.pair (.int .i64) (.pair (.int .i64) (.pair (.int .i64) (.int .i64)))) v), some (.arr 31 (.pair (.int .i64) (.pair (.int .i64) (.pair (.int .i64) (.int .i64)))) u)]).runc Kc := by kernel_rfl
def t_PyramidAnalyzes : FuncId → Option Summ := tabOf [(17, G_awake), (18, G_pyr_Analyze), (19, G_ref06_Analyze), (20, G_law_sameAll)]
def l_PyramidAnalyzes : Nat → Option LSumm := ltOf []
theorem e_PyramidAnalyzes (a b c d : Int) (l : List Int) (n k : Int) : funR Try.prog t_PyramidAnalyzes (annOf []) l_PyramidAnalyzes 20 Try.f4 [.agg [.int .i64 a, .int .i64 b, .int .i64 c, .int .i64 d, .lst (.int .i64) l], .one (.int .i64 n), .one (.int .i64 k)] [] =
  (ite2 (decide ((↑(List.length l) : Int) > 4000))
  (some ⟨.one (.bool true), [], []⟩)
  (ite2 (small (List.length l))
    (ite2 (small (List.length l))
      (ite2 (decide (anF a b c d n k l = anF a b c d n k l) && small (List.length (anF a b c d n k l)) && smAll (anF a b c d n k l))
        (ite2 (anErr a b c d n k l == anErr a b c d n k l)
          (some ⟨.one (.bool true), [], []⟩)
          (some ⟨.one (.bool false), [], []⟩))
        none)
      none)
    none)) := by kernel_rfl
end
end Go.Rx.Ch06

set_option linter.unusedVariables false
set_option maxRecDepth 100000
set_option maxHeartbeats 40000000
open Go Go.Rx Go.Proofs
namespace Go.Rx.Ch06
noncomputable section
end
end Go.Rx.Ch06

