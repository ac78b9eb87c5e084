/- Each function, run by the executor: an equation. -/
import Derived.Test.YtjbgacjgnhnecaaRG
import Derived.Test.YtjbgacjgnhnecaaProg
import Derived.KernelRfl
set_option linter.unnecessarySimpa false
set_option linter.unusedVariables false
set_option maxRecDepth 100000
set_option maxHeartbeats 40000000
open Go Go.Rx Go.Proofs
namespace Go.Rx.Ch30
noncomputable section
def t_law_large : FuncId → Option Summ := tabOf []
def l_law_large : Nat → Option LSumm := ltOf []
theorem e_law_large (u : List Int) (a b c d : Int) (m : List (Int × Int × Int × Int)) : funR Try.prog t_law_large (annOf []) l_law_large 20 Try.f14 [.agg [.lst (.int .i64) u, .int .i64 a, .int .i64 b, .int .i64 c, .int .i64 d, .lst (.pair (.int .i64) (.pair (.int .i64) (.pair (.int .i64) (.int .i64)))) m]] [] =
  (ite2 (decide ((↑(List.length u) : Int) > 500))
  (some ⟨.one (.bool true), [], []⟩)
  (some ⟨.one (.bool (decide ((↑(List.length m) : Int) > 40))), [], []⟩)) := by kernel_rfl
def t_law_same : FuncId → Option Summ := tabOf []
def l_law_same : Nat → Option LSumm := ltOf [(4, ⟨0, 26, [0, 1, 12, 13], (kxOf [] [4]), S_law_same_0⟩)]
theorem e_law_same (l m : List Int) : funR Try.prog t_law_same (annOf []) l_law_same 20 Try.f17 [.one (.lst (.int .i64) l), .one (.lst (.int .i64) m)] [] =
  (ite2 ((↑(List.length l) : Int) != (↑(List.length m) : Int))
  (some ⟨.one (.bool false), [], []⟩)
  (ite2 (k_law_same_0 l m (↑(List.length l) : Int) 0)
   (ite2 (p_law_same_0 l m)
    (some ⟨.one (.bool true), [], []⟩)
    (some ⟨.one (.bool false), [], []⟩))
   none)) := by kernel_rfl
def U_law_same_0 (l m : List Int) (n i : Int) : LT :=
  (.br (decide (i < n))
    (.br (decide (0 ≤ i ∧ i < (↑(List.length l) : Int)))
     (.br (decide (0 ≤ i ∧ i < (↑(List.length m) : Int)))
      (.br (gI l (Int.toNat i) != gI m (Int.toNat i))
       (.leaf Ex.ret [.one (.bool false)] [])
       (.leaf Ex.normal [.one (.lst (.int .i64) l), .one (.lst (.int .i64) m), .one (.int .i64 n), .one (.int .i64 (IntKind.wrap .i64 (i + 1)))] []))
      .no)
     .no)
    (.leaf (Ex.exit 0) [] []))
def T_law_same_0 : TT := fun vs bl => (D_law_same_0 vs bl fun l m n i => some (U_law_same_0 l m n i)).getD .no
theorem tu_law_same_0 (l m : List Int) (n i : Int) : T_law_same_0 [.one (.lst (.int .i64) l), .one (.lst (.int .i64) m), .one (.int .i64 n), .one (.int .i64 i)] [] = U_law_same_0 l m n i := by kernel_rfl
theorem b_law_same_0 (l m : List Int) (n i : Int) (Kc : KT) : exec Try.prog t_law_same (annOf []) l_law_same 20 0 (loopOf Try.f17 0) (unp 26 [0, 1, 12, 13] [.one (.lst (.int .i64) l), .one (.lst (.int .i64) m), .one (.int .i64 n), .one (.int .i64 i)] []) (endc 0 26 [0, 1, 12, 13] (kxOf [] [4]) Kc) =
  (U_law_same_0 l m n i).runc Kc := by kernel_rfl
def t_quant_Unscale : FuncId → Option Summ := tabOf []
def l_quant_Unscale : Nat → Option LSumm := ltOf []
theorem e_quant_Unscale (v m s : Int) : funR Try.prog t_quant_Unscale (annOf []) l_quant_Unscale 20 Try.f20 [.one (.int .i64 v), .one (.int .i64 m), .one (.int .i64 s)] [] =
  (ite2 (decide (s < 1))
  (some ⟨.tup [(false, [.int .i64 v]), (false, [.int .i64 m])], [], []⟩)
  (ite2 (decide (s > 30))
   (some ⟨.tup [(false, [.int .i64 v]), (false, [.int .i64 m])], [], []⟩)
   (ite2 (decide (m < 0))
    (some ⟨.tup [(false, [.int .i64 v]), (false, [.int .i64 m])], [], []⟩)
    (ite2 (decide (m > 60))
     (some ⟨.tup [(false, [.int .i64 v]), (false, [.int .i64 m])], [], []⟩)
     (ite2 (decide (0 ≤ s))
      (ite2 (!decide (IntKind.wrap .i64 (1 * 2 ^ min (Int.toNat s) 64) = 0))
       (ite2 (IntKind.wrap .i64 (Int.tdiv v (IntKind.wrap .i64 (1 * 2 ^ min (Int.toNat s) 64))) != 0)
        (ite2 (decide (0 ≤ s))
         (ite2 (!decide (IntKind.wrap .i64 (1 * 2 ^ min (Int.toNat s) 64) = 0))
          (some ⟨.tup [(false, [.int .i64 (IntKind.wrap .i64 (Int.tdiv v (IntKind.wrap .i64 (1 * 2 ^ min (Int.toNat s) 64))))]), (false, [.int .i64 (if IntKind.wrap .i64 (m - s) > 0 then IntKind.wrap .i64 (m - s) else 0)])], [], []⟩)
          none)
         none)
        (some ⟨.tup [(false, [.int .i64 v]), (false, [.int .i64 (if s < m then s else m)])], [], []⟩))
       none)
      none))))) := by kernel_rfl
def t_awake : FuncId → Option Summ := tabOf [(9, G_roi_Valid), (12, G_roi_Band), (15, G_roi_Scale), (17, G_law_same), (18, G_roi_Fits)]
def l_awake : Nat → Option LSumm := ltOf []
theorem e_awake  : funR Try.prog t_awake (annOf []) l_awake 20 Try.f8 [] [] =
  (some ⟨.one (.bool true), [], []⟩) := by kernel_rfl
def t_RoiValidates : FuncId → Option Summ := tabOf [(8, G_awake), (9, G_roi_Valid), (10, G_ref30_Valid)]
def l_RoiValidates : Nat → Option LSumm := ltOf []
theorem e_RoiValidates (l : List (Int × Int × Int × Int)) : funR Try.prog t_RoiValidates (annOf []) l_RoiValidates 20 Try.f3 [.one (.lst (.pair (.int .i64) (.pair (.int .i64) (.pair (.int .i64) (.int .i64)))) l)] [] =
  (ite2 (decide ((↑(List.length l) : Int) > 40))
  (some ⟨.one (.bool true), [], []⟩)
  (ite2 (rgErr l == rgErr l)
   (some ⟨.one (.bool true), [], []⟩)
   (some ⟨.one (.bool false), [], []⟩))) := by kernel_rfl
def t_RoiScales : FuncId → Option Summ := tabOf [(8, G_awake), (14, G_law_large), (15, G_roi_Scale), (16, G_ref30_Scale), (17, G_law_same), (18, G_roi_Fits), (19, G_ref30_Fits)]
def l_RoiScales : Nat → Option LSumm := ltOf []
theorem e_RoiScales (u : List Int) (a b c d : Int) (m : List (Int × Int × Int × Int)) (s : Int) : funR Try.prog t_RoiScales (annOf []) l_RoiScales 20 Try.f5 [.agg [.lst (.int .i64) u, .int .i64 a, .int .i64 b, .int .i64 c, .int .i64 d, .lst (.pair (.int .i64) (.pair (.int .i64) (.pair (.int .i64) (.int .i64)))) m], .one (.int .i64 s)] [] =
  (ite2 (largeB u m)
  (some ⟨.one (.bool true), [], []⟩)
  (ite2 (small (List.length m) && small (List.length u))
   (ite2 (small (List.length m) && small (List.length u))
    (ite2 (small (List.length (scL u a b c d m s)))
     (ite2 (decide (scL u a b c d m s = scL u a b c d m s))
      (ite2 (scErr u a b c d m s == scErr u a b c d m s)
       (ite2 (small (List.length m))
        (ite2 (small (List.length m))
         (ite2 (ftB u a b c d m s == ftB u a b c d m s)
          (some ⟨.one (.bool true), [], []⟩)
          (some ⟨.one (.bool false), [], []⟩))
         none)
        none)
       (some ⟨.one (.bool false), [], []⟩))
      (some ⟨.one (.bool false), [], []⟩))
     none)
    none)
   none)) := by kernel_rfl
def t_RoiRestores : FuncId → Option Summ := tabOf [(8, G_awake), (14, G_law_large), (15, G_roi_Scale), (20, G_quant_Unscale), (21, G_rect_Has)]
def l_RoiRestores : Nat → Option LSumm := ltOf [(10, ⟨0, 144, [1, 2, 5, 7, 60, 61], (kxOf [] [4]), S_RoiRestores_0⟩), (17, ⟨0, 144, [1, 2, 5, 7, 8, 11, 60, 61, 85, 86, 87], (kxOf [1, 2, 5, 7, 8, 11, 60, 61] [4]), S_RoiRestores_1⟩)]
theorem e_RoiRestores (u : List Int) (a b c d : Int) (m : List (Int × Int × Int × Int)) (s : Int) : funR Try.prog t_RoiRestores (annOf []) l_RoiRestores 20 Try.f6 [.agg [.lst (.int .i64) u, .int .i64 a, .int .i64 b, .int .i64 c, .int .i64 d, .lst (.pair (.int .i64) (.pair (.int .i64) (.pair (.int .i64) (.int .i64)))) m], .one (.int .i64 s)] [] =
  (ite2 (largeB u m)
  (some ⟨.one (.bool true), [], []⟩)
  (ite2 (small (List.length m) && small (List.length u))
   (ite2 (scErr u a b c d m s != 0)
    (ite2 ((↑(List.length (scL u a b c d m s)) : Int) == 0)
     (some ⟨.one (.bool true), [], []⟩)
     (some ⟨.one (.bool false), [], []⟩))
    (ite2 ((↑(List.length (scL u a b c d m s)) : Int) != (↑(List.length u) : Int))
     (some ⟨.one (.bool false), [], []⟩)
     (ite2 (decide ((↑(List.length (scL u a b c d m s)) : Int) > 0))
      (ite2 (decide (IntKind.wrap .i64 (c - a) < 1))
       (some ⟨.one (.bool false), [], []⟩)
       (ite2 (k_RoiRestores_0 a b c d s (IntKind.wrap .i64 (c - a)) (↑(List.length (scL u a b c d m s)) : Int) 0 m u (scL u a b c d m s))
        (some ⟨.one (.bool true), [], []⟩)
        none))
      (ite2 (k_RoiRestores_0 a b c d s (IntKind.wrap .i64 (c - a)) (↑(List.length (scL u a b c d m s)) : Int) 0 m u (scL u a b c d m s))
       (some ⟨.one (.bool true), [], []⟩)
       none))))
   none)) := by kernel_rfl
def U_RoiRestores_0 (a b c d s w n i : Int) (m : List (Int × Int × Int × Int)) (u v : List Int) : LT :=
  let z1_ := IntKind.wrap .i64 (i + 1); let z2_ := Int.toNat i < List.length v; (.br (decide (i < n))
    (.br (decide (0 ≤ i ∧ i < (↑(List.length v) : Int)))
     (.br (decide z2_)
      (.br (i64B (gI v (Int.toNat i)) && true)
       (.br (decide (0 ≤ i ∧ i < (↑(List.length u) : Int)))
        (.br (unsV (gI v (Int.toNat i)) s != gI u (Int.toNat i))
         (.leaf Ex.ret [.one (.bool false)] [])
         (.br (unsM (gI v (Int.toNat i)) 0 s != 0)
          (.leaf Ex.ret [.one (.bool false)] [])
          (.br (k_RoiRestores_1 a b c d s w i n i (↑(List.length m) : Int) 0 false m m u v)
           (.br (decide (0 ≤ i ∧ i < (↑(List.length v) : Int)))
            (.br (decide z2_)
             (.br (decide (0 ≤ s))
              (.br (decide (gI v (Int.toNat i) ≥ IntKind.wrap .i64 (1 * 2 ^ min (Int.toNat s) 64)))
               (.br (decide (s > 0))
                (.br (decide (0 ≤ i ∧ i < (↑(List.length v) : Int)))
                 (.br (decide z2_)
                  (.br (gI v (Int.toNat i) != 0)
                   (.br (!mskB (mxI a c i) (myI a b c i) m == true)
                    (.leaf Ex.ret [.one (.bool false)] [])
                    (.leaf Ex.normal [.one (.int .i64 s), .one (.ptr 0 0), .one (.row 1), .one (.int .i64 w), .one (.int .i64 n), .one (.int .i64 z1_)] [some (.box [.lst (.int .i64) u, .int .i64 a, .int .i64 b, .int .i64 c, .int .i64 d, .lst (.pair (.int .i64) (Sh.pair (Sh.int .i64) (Sh.pair (Sh.int .i64) (Sh.int .i64)))) m]), some (.arr 3 (.int .i64) v)]))
                   (.leaf Ex.normal [.one (.int .i64 s), .one (.ptr 0 0), .one (.row 1), .one (.int .i64 w), .one (.int .i64 n), .one (.int .i64 z1_)] [some (.box [.lst (.int .i64) u, .int .i64 a, .int .i64 b, .int .i64 c, .int .i64 d, .lst (.pair (.int .i64) (Sh.pair (Sh.int .i64) (Sh.pair (Sh.int .i64) (Sh.int .i64)))) m]), some (.arr 3 (.int .i64) v)]))
                  .no)
                 .no)
                (.leaf Ex.normal [.one (.int .i64 s), .one (.ptr 0 0), .one (.row 1), .one (.int .i64 w), .one (.int .i64 n), .one (.int .i64 z1_)] [some (.box [.lst (.int .i64) u, .int .i64 a, .int .i64 b, .int .i64 c, .int .i64 d, .lst (.pair (.int .i64) (Sh.pair (Sh.int .i64) (Sh.pair (Sh.int .i64) (Sh.int .i64)))) m]), some (.arr 3 (.int .i64) v)]))
               (.br (decide (0 ≤ i ∧ i < (↑(List.length v) : Int)))
                (.br (decide z2_)
                 (.br (decide (0 ≤ s))
                  (.br (decide (s > 0))
                   (.br (decide (0 ≤ i ∧ i < (↑(List.length v) : Int)))
                    (.br (decide z2_)
                     (.br (gI v (Int.toNat i) != 0)
                      (.br (!mskB (mxI a c i) (myI a b c i) m == decide (gI v (Int.toNat i) ≤ IntKind.wrap .i64 (-1 * 2 ^ min (Int.toNat s) 64)))
                       (.leaf Ex.ret [.one (.bool false)] [])
                       (.leaf Ex.normal [.one (.int .i64 s), .one (.ptr 0 0), .one (.row 1), .one (.int .i64 w), .one (.int .i64 n), .one (.int .i64 z1_)] [some (.box [.lst (.int .i64) u, .int .i64 a, .int .i64 b, .int .i64 c, .int .i64 d, .lst (.pair (.int .i64) (Sh.pair (Sh.int .i64) (Sh.pair (Sh.int .i64) (Sh.int .i64)))) m]), some (.arr 3 (.int .i64) v)]))
                      (.leaf Ex.normal [.one (.int .i64 s), .one (.ptr 0 0), .one (.row 1), .one (.int .i64 w), .one (.int .i64 n), .one (.int .i64 z1_)] [some (.box [.lst (.int .i64) u, .int .i64 a, .int .i64 b, .int .i64 c, .int .i64 d, .lst (.pair (.int .i64) (Sh.pair (Sh.int .i64) (Sh.pair (Sh.int .i64) (Sh.int .i64)))) m]), some (.arr 3 (.int .i64) v)]))
                     .no)
                    .no)
                   (.leaf Ex.normal [.one (.int .i64 s), .one (.ptr 0 0), .one (.row 1), .one (.int .i64 w), .one (.int .i64 n), .one (.int .i64 z1_)] [some (.box [.lst (.int .i64) u, .int .i64 a, .int .i64 b, .int .i64 c, .int .i64 d, .lst (.pair (.int .i64) (Sh.pair (Sh.int .i64) (Sh.pair (Sh.int .i64) (Sh.int .i64)))) m]), some (.arr 3 (.int .i64) v)]))
                  .no)
                 .no)
                .no))
              .no)
             .no)
            .no)
           .no)))
        .no)
       .no)
      .no)
     .no)
    (.leaf (Ex.exit 0) [] []))
def T_RoiRestores_0 : TT := fun vs bl => (D_RoiRestores_0 vs bl fun a b c d s w n i m u v => some (U_RoiRestores_0 a b c d s w n i m u v)).getD .no
theorem tu_RoiRestores_0 (a b c d s w n i : Int) (m : List (Int × Int × Int × Int)) (u v : List Int) : T_RoiRestores_0 [.one (.int .i64 s), .one (.ptr 0 0), .one (.row 1), .one (.int .i64 w), .one (.int .i64 n), .one (.int .i64 i)] [some (.box [.lst (.int .i64) u, .int .i64 a, .int .i64 b, .int .i64 c, .int .i64 d, .lst (.pair (.int .i64) (.pair (.int .i64) (.pair (.int .i64) (.int .i64)))) m]), some (.arr 3 (.int .i64) v)] = U_RoiRestores_0 a b c d s w n i m u v := by kernel_rfl
theorem b_RoiRestores_0 (a b c d s w n i : Int) (m : List (Int × Int × Int × Int)) (u v : List Int) (Kc : KT) : exec Try.prog t_RoiRestores (annOf []) l_RoiRestores 20 0 (loopOf Try.f6 0) (unp 144 [1, 2, 5, 7, 60, 61] [.one (.int .i64 s), .one (.ptr 0 0), .one (.row 1), .one (.int .i64 w), .one (.int .i64 n), .one (.int .i64 i)] [some (.box [.lst (.int .i64) u, .int .i64 a, .int .i64 b, .int .i64 c, .int .i64 d, .lst (.pair (.int .i64) (.pair (.int .i64) (.pair (.int .i64) (.int .i64)))) m]), some (.arr 3 (.int .i64) v)]) (endc 0 144 [1, 2, 5, 7, 60, 61] (kxOf [] [4]) Kc) =
  (U_RoiRestores_0 a b c d s w n i m u v).runc Kc := by kernel_rfl
def U_RoiRestores_1 (a b c d s w i n x n2 j : Int) (e : Bool) (q m : List (Int × Int × Int × Int)) (u v : List Int) : LT :=
  (.br (decide (j < n2))
    (.br (decide (0 ≤ j ∧ j < (↑(List.length q) : Int)))
     (.br (e)
      (.leaf Ex.normal [.one (.int .i64 s), .one (.ptr 0 0), .one (.row 1), .one (.int .i64 w), .one (.int .i64 i), .one (.bool true), .one (.int .i64 n), .one (.int .i64 x), .one (.lst (.pair (.int .i64) (Sh.pair (Sh.int .i64) (Sh.pair (Sh.int .i64) (Sh.int .i64)))) q), .one (.int .i64 n2), .one (.int .i64 (IntKind.wrap .i64 (j + 1)))] [some (.box [.lst (.int .i64) u, .int .i64 a, .int .i64 b, .int .i64 c, .int .i64 d, .lst (.pair (.int .i64) (Sh.pair (Sh.int .i64) (Sh.pair (Sh.int .i64) (Sh.int .i64)))) m]), some (.arr 3 (.int .i64) v)])
      (.br (!decide (w = 0))
       (.br (!decide (w = 0))
        (.leaf Ex.normal [.one (.int .i64 s), .one (.ptr 0 0), .one (.row 1), .one (.int .i64 w), .one (.int .i64 i), .one (.bool (has (gR q (Int.toNat j)).1 (gR q (Int.toNat j)).2.1 (gR q (Int.toNat j)).2.2.1 (gR q (Int.toNat j)).2.2.2 (IntKind.wrap .i64 (a + Int.tmod i w)) (IntKind.wrap .i64 (b + IntKind.wrap .i64 (Int.tdiv i w))))), .one (.int .i64 n), .one (.int .i64 x), .one (.lst (.pair (.int .i64) (Sh.pair (Sh.int .i64) (Sh.pair (Sh.int .i64) (Sh.int .i64)))) q), .one (.int .i64 n2), .one (.int .i64 (IntKind.wrap .i64 (j + 1)))] [some (.box [.lst (.int .i64) u, .int .i64 a, .int .i64 b, .int .i64 c, .int .i64 d, .lst (.pair (.int .i64) (Sh.pair (Sh.int .i64) (Sh.pair (Sh.int .i64) (Sh.int .i64)))) m]), some (.arr 3 (.int .i64) v)])
        .no)
       .no))
     .no)
    (.leaf (Ex.exit 2) [.one (.int .i64 s), .one (.ptr 0 0), .one (.row 1), .one (.int .i64 w), .one (.int .i64 i), .one (.bool e), .one (.int .i64 n), .one (.int .i64 x)] [some (.box [.lst (.int .i64) u, .int .i64 a, .int .i64 b, .int .i64 c, .int .i64 d, .lst (.pair (.int .i64) (Sh.pair (Sh.int .i64) (Sh.pair (Sh.int .i64) (Sh.int .i64)))) m]), some (.arr 3 (.int .i64) v)]))
def T_RoiRestores_1 : TT := fun vs bl => (D_RoiRestores_1 vs bl fun a b c d s w i n x n2 j e q m u v => some (U_RoiRestores_1 a b c d s w i n x n2 j e q m u v)).getD .no
theorem tu_RoiRestores_1 (a b c d s w i n x n2 j : Int) (e : Bool) (q m : List (Int × Int × Int × Int)) (u v : List Int) : T_RoiRestores_1 [.one (.int .i64 s), .one (.ptr 0 0), .one (.row 1), .one (.int .i64 w), .one (.int .i64 i), .one (.bool e), .one (.int .i64 n), .one (.int .i64 x), .one (.lst (.pair (.int .i64) (.pair (.int .i64) (.pair (.int .i64) (.int .i64)))) q), .one (.int .i64 n2), .one (.int .i64 j)] [some (.box [.lst (.int .i64) u, .int .i64 a, .int .i64 b, .int .i64 c, .int .i64 d, .lst (.pair (.int .i64) (.pair (.int .i64) (.pair (.int .i64) (.int .i64)))) m]), some (.arr 3 (.int .i64) v)] = U_RoiRestores_1 a b c d s w i n x n2 j e q m u v := by kernel_rfl
theorem b_RoiRestores_1 (a b c d s w i n x n2 j : Int) (e : Bool) (q m : List (Int × Int × Int × Int)) (u v : List Int) (Kc : KT) : exec Try.prog t_RoiRestores (annOf []) l_RoiRestores 20 0 (loopOf Try.f6 1) (unp 144 [1, 2, 5, 7, 8, 11, 60, 61, 85, 86, 87] [.one (.int .i64 s), .one (.ptr 0 0), .one (.row 1), .one (.int .i64 w), .one (.int .i64 i), .one (.bool e), .one (.int .i64 n), .one (.int .i64 x), .one (.lst (.pair (.int .i64) (.pair (.int .i64) (.pair (.int .i64) (.int .i64)))) q), .one (.int .i64 n2), .one (.int .i64 j)] [some (.box [.lst (.int .i64) u, .int .i64 a, .int .i64 b, .int .i64 c, .int .i64 d, .lst (.pair (.int .i64) (.pair (.int .i64) (.pair (.int .i64) (.int .i64)))) m]), some (.arr 3 (.int .i64) v)]) (endc 0 144 [1, 2, 5, 7, 8, 11, 60, 61, 85, 86, 87] (kxOf [1, 2, 5, 7, 8, 11, 60, 61] [4]) Kc) =
  (U_RoiRestores_1 a b c d s w i n x n2 j e q m u v).runc Kc := by kernel_rfl
end
end Go.Rx.Ch30
