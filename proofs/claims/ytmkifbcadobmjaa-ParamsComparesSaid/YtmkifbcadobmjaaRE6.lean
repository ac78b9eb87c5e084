/- Each function, run by the executor: an equation. -/
import Derived.Test.YtmkifbcadobmjaaRG
import Derived.Test.YtmkifbcadobmjaaProg
import Derived.KernelRfl
set_option linter.unnecessarySimpa false
set_option linter.unusedVariables false
set_option linter.unusedSimpArgs false
set_option linter.unusedVariables false
set_option maxRecDepth 100000
set_option maxHeartbeats 4000000
open Go Go.Rx Go.Proofs
namespace Go.Rx.Ch23
noncomputable section
def t_qlimit : FuncId → Option Summ := tabOf []
def l_qlimit : Nat → Option LSumm := ltOf []
theorem e_qlimit (a b c : Int) : funR Try.prog t_qlimit (annOf []) l_qlimit 20 Try.f82 [.one (.int .i64 a), .one (.int .i64 b), .one (.int .i64 c)] [] =
  (some ⟨.one (.int .i64 (if c < if b > a then b else a then c else if b > a then b else a)), [], []⟩) := by kernel_rfl
def t_ref08_limit : FuncId → Option Summ := tabOf []
def l_ref08_limit : Nat → Option LSumm := ltOf []
theorem e_ref08_limit (a b : Int) : funR Try.prog t_ref08_limit (annOf []) l_ref08_limit 20 Try.f83 [.one (.int .i64 a), .one (.int .i64 b)] [] =
  (some ⟨.one (.int .i64 (if b < if IntKind.wrap .i64 (0 - b) > a then IntKind.wrap .i64 (0 - b) else a then b else if IntKind.wrap .i64 (0 - b) > a then IntKind.wrap .i64 (0 - b) else a)), [], []⟩) := by kernel_rfl
def t_quant_Quantize : FuncId → Option Summ := tabOf [(49, G_quant_Valid), (53, G_quant_Threshold), (82, G_qlimit)]
def l_quant_Quantize : Nat → Option LSumm := ltOf []
theorem e_quant_Quantize (c a b : Int) : funR Try.prog t_quant_Quantize (annOf []) l_quant_Quantize 20 Try.f73 [.one (.int .i64 c), .one (.int .i64 a), .one (.int .i64 b)] [] =
  (ite2 (!qvalid a b)
  (some ⟨.one (.int .i64 0), [], []⟩)
  (ite2 (decide (min (max c (-281474976710656)) 281474976710656 ≥ qthr a b))
    (ite2 (!decide (a = 0))
      (some ⟨.one (.int .i64 (IntKind.wrap .i64 (1 + IntKind.wrap .i64 (Int.tdiv (IntKind.wrap .i64 (min (max c (-281474976710656)) 281474976710656 - qthr a b)) a)))), [], []⟩)
      none)
    (ite2 (decide (min (max c (-281474976710656)) 281474976710656 ≤ IntKind.wrap .i64 (0 - qthr a b)))
      (ite2 (!decide (a = 0))
        (some ⟨.one (.int .i64 (IntKind.wrap .i64 (-1 - IntKind.wrap .i64 (Int.tdiv (IntKind.wrap .i64 (IntKind.wrap .i64 (0 - min (max c (-281474976710656)) 281474976710656) - qthr a b)) a)))), [], []⟩)
        none)
      (some ⟨.one (.int .i64 0), [], []⟩)))) := by kernel_rfl
def t_ref08_Quantize : FuncId → Option Summ := tabOf [(54, G_ref08_Threshold), (63, G_ref01_FloorDiv), (83, G_ref08_limit)]
def l_ref08_Quantize : Nat → Option LSumm := ltOf []
theorem e_ref08_Quantize (c a b : Int) : funR Try.prog t_ref08_Quantize (annOf []) l_ref08_Quantize 20 Try.f75 [.one (.int .i64 c), .one (.int .i64 a), .one (.int .i64 b)] [] =
  (ite2 (qthr a b == 0)
  (some ⟨.one (.int .i64 0), [], []⟩)
  (ite2 (decide (min (max c (-281474976710656)) 281474976710656 < 0))
    none
    (ite2 (decide (min (max c (-281474976710656)) 281474976710656 < qthr a b))
      (some ⟨.one (.int .i64 0), [], []⟩)
      (some ⟨.one (.int .i64 (IntKind.wrap .i64 (1 + fdiv (IntKind.wrap .i64 (min (max c (-281474976710656)) 281474976710656 - qthr a b)) a))), [], []⟩)))) := by kernel_rfl
def t_Len64 : FuncId → Option Summ := tabOf []
def l_Len64 : Nat → Option LSumm := ltOf []
theorem e_Len64 (x : Int) : funR Try.prog t_Len64 (annOf []) l_Len64 20 Try.f72 [.one (.int .u64 x)] [] =
  (ite2 (decide (x ≥ 4294967296))
  (ite2 (decide (Int.fdiv x 4294967296 ≥ 65536))
    (ite2 (decide (Int.fdiv (Int.fdiv x 4294967296) 65536 ≥ 256))
      (ite2 (decide (0 ≤ IntKind.wrap IntKind.u8 (Int.fdiv (Int.fdiv (Int.fdiv x 4294967296) 65536) 256) ∧ IntKind.wrap IntKind.u8 (Int.fdiv (Int.fdiv (Int.fdiv x 4294967296) 65536) 256) < 256))
        (some ⟨.one (.int .i64 (IntKind.wrap .i64 (56 + IntKind.wrap .i64 (↑(List.getD len8 (Int.toNat (IntKind.wrap IntKind.u8 (Int.fdiv (Int.fdiv (Int.fdiv x 4294967296) 65536) 256))) 0).1.1.1 : Int)))), [], []⟩)
        none)
      (ite2 (decide (0 ≤ IntKind.wrap IntKind.u8 (Int.fdiv (Int.fdiv x 4294967296) 65536) ∧ IntKind.wrap IntKind.u8 (Int.fdiv (Int.fdiv x 4294967296) 65536) < 256))
        (some ⟨.one (.int .i64 (IntKind.wrap .i64 (48 + IntKind.wrap .i64 (↑(List.getD len8 (Int.toNat (IntKind.wrap IntKind.u8 (Int.fdiv (Int.fdiv x 4294967296) 65536))) 0).1.1.1 : Int)))), [], []⟩)
        none))
    (ite2 (decide (Int.fdiv x 4294967296 ≥ 256))
      (ite2 (decide (0 ≤ IntKind.wrap IntKind.u8 (Int.fdiv (Int.fdiv x 4294967296) 256) ∧ IntKind.wrap IntKind.u8 (Int.fdiv (Int.fdiv x 4294967296) 256) < 256))
        (some ⟨.one (.int .i64 (IntKind.wrap .i64 (40 + IntKind.wrap .i64 (↑(List.getD len8 (Int.toNat (IntKind.wrap IntKind.u8 (Int.fdiv (Int.fdiv x 4294967296) 256))) 0).1.1.1 : Int)))), [], []⟩)
        none)
      (ite2 (decide (0 ≤ IntKind.wrap IntKind.u8 (Int.fdiv x 4294967296) ∧ IntKind.wrap IntKind.u8 (Int.fdiv x 4294967296) < 256))
        (some ⟨.one (.int .i64 (IntKind.wrap .i64 (32 + IntKind.wrap .i64 (↑(List.getD len8 (Int.toNat (IntKind.wrap IntKind.u8 (Int.fdiv x 4294967296))) 0).1.1.1 : Int)))), [], []⟩)
        none)))
  (ite2 (decide (x ≥ 65536))
    (ite2 (decide (Int.fdiv x 65536 ≥ 256))
      (ite2 (decide (0 ≤ IntKind.wrap IntKind.u8 (Int.fdiv (Int.fdiv x 65536) 256) ∧ IntKind.wrap IntKind.u8 (Int.fdiv (Int.fdiv x 65536) 256) < 256))
        (some ⟨.one (.int .i64 (IntKind.wrap .i64 (24 + IntKind.wrap .i64 (↑(List.getD len8 (Int.toNat (IntKind.wrap IntKind.u8 (Int.fdiv (Int.fdiv x 65536) 256))) 0).1.1.1 : Int)))), [], []⟩)
        none)
      (ite2 (decide (0 ≤ IntKind.wrap IntKind.u8 (Int.fdiv x 65536) ∧ IntKind.wrap IntKind.u8 (Int.fdiv x 65536) < 256))
        (some ⟨.one (.int .i64 (IntKind.wrap .i64 (16 + IntKind.wrap .i64 (↑(List.getD len8 (Int.toNat (IntKind.wrap IntKind.u8 (Int.fdiv x 65536))) 0).1.1.1 : Int)))), [], []⟩)
        none))
    (ite2 (decide (x ≥ 256))
      (ite2 (decide (0 ≤ IntKind.wrap IntKind.u8 (Int.fdiv x 256) ∧ IntKind.wrap IntKind.u8 (Int.fdiv x 256) < 256))
        (some ⟨.one (.int .i64 (IntKind.wrap .i64 (8 + IntKind.wrap .i64 (↑(List.getD len8 (Int.toNat (IntKind.wrap IntKind.u8 (Int.fdiv x 256))) 0).1.1.1 : Int)))), [], []⟩)
        none)
      (ite2 (decide (0 ≤ IntKind.wrap IntKind.u8 x ∧ IntKind.wrap IntKind.u8 x < 256))
        (some ⟨.one (.int .i64 (IntKind.wrap .i64 (0 + IntKind.wrap .i64 (↑(List.getD len8 (Int.toNat (IntKind.wrap IntKind.u8 x)) 0).1.1.1 : Int)))), [], []⟩)
        none)))) := by kernel_rfl
def t_ref08_Digits : FuncId → Option Summ := tabOf [(63, G_ref01_FloorDiv)]
def l_ref08_Digits : Nat → Option LSumm := ltOf [(3, ⟨0, 13, [3, 4], (kxOf [3] [2]), S_ref08_Digits_0⟩)]
theorem e_ref08_Digits (x : Int) : funR Try.prog t_ref08_Digits (annOf []) l_ref08_Digits 20 Try.f74 [.one (.int .i64 x)] [] =
  (ite2 (k_ref08_Digits_0 0 x)
  (some ⟨.one (.int .i64 (0 + digs x)), [], []⟩)
  none) := by kernel_rfl
def U_ref08_Digits_0 (n x : Int) : LT :=
  (.br (decide (x > 0))
    (.leaf Ex.normal [.one (.int .i64 (IntKind.wrap .i64 (n + 1))), .one (.int .i64 (fdiv x 2))] [])
    (.leaf (Ex.exit 0) [.one (.int .i64 n)] []))
def T_ref08_Digits_0 : List V → List (Option Blk) → LT := fun vs bl => (pO vs fun c' vs => kI c' fun n => pO vs fun c' vs => kI c' fun x => pE vs <| bE bl <| some (U_ref08_Digits_0 n x)).getD .no
theorem tu_ref08_Digits_0 (n x : Int) : T_ref08_Digits_0 [.one (.int .i64 n), .one (.int .i64 x)] [] = U_ref08_Digits_0 n x := by kernel_rfl
theorem b_ref08_Digits_0 (n x : Int) (Kc : Ex → Option (List V × List (Option Blk)) → Option Out) : exec Try.prog t_ref08_Digits (annOf []) l_ref08_Digits 20 0 (loopOf Try.f74 0) (unp 13 [3, 4] [.one (.int .i64 n), .one (.int .i64 x)] []) (endc 0 13 [3, 4] (kxOf [3] [2]) Kc) =
  (T_ref08_Digits_0 [.one (.int .i64 n), .one (.int .i64 x)] []).runc Kc := by kernel_rfl
def t_quant_Planes : FuncId → Option Summ := tabOf [(49, G_quant_Valid), (72, G_Len64), (73, G_quant_Quantize)]
def l_quant_Planes : Nat → Option LSumm := ltOf []
theorem e_quant_Planes (c a b : Int) : funR Try.prog t_quant_Planes (annOf []) l_quant_Planes 20 Try.f50 [.one (.int .i64 c), .one (.int .i64 a), .one (.int .i64 b)] [] =
  (ite2 (decide (c < 0))
  (some ⟨.one (.int .i64 0), [], []⟩)
  (ite2 (!qvalid a b)
    (some ⟨.one (.int .i64 0), [], []⟩)
    (ite2 (decide (0 ≤ c))
      (ite2 (decide (0 ≤ IntKind.wrap IntKind.u64 (quantz c a b)) && decide (IntKind.wrap IntKind.u64 (quantz c a b) < 9223372036854775808))
        (some ⟨.one (.int .i64 (digs (IntKind.wrap IntKind.u64 (quantz c a b)))), [], []⟩)
        none)
      none))) := by kernel_rfl
def t_ref08_Planes : FuncId → Option Summ := tabOf [(51, G_ref08_Valid), (74, G_ref08_Digits), (75, G_ref08_Quantize)]
def l_ref08_Planes : Nat → Option LSumm := ltOf []
theorem e_ref08_Planes (c a b : Int) : funR Try.prog t_ref08_Planes (annOf []) l_ref08_Planes 20 Try.f52 [.one (.int .i64 c), .one (.int .i64 a), .one (.int .i64 b)] [] =
  (ite2 (!qvalid a b)
  (some ⟨.one (.int .i64 0), [], []⟩)
  (ite2 (decide (c < 0))
    (some ⟨.one (.int .i64 0), [], []⟩)
    (ite2 (decide (0 ≤ c))
      (ite2 (decide (0 ≤ quantz c a b) && decide (quantz c a b < 9223372036854775808))
        (some ⟨.one (.int .i64 (digs (quantz c a b))), [], []⟩)
        none)
      none))) := by kernel_rfl
def t_params_Planes : FuncId → Option Summ := tabOf [(33, G_params_within), (49, G_quant_Valid), (50, G_quant_Planes)]
def l_params_Planes : Nat → Option LSumm := ltOf []
theorem e_params_Planes (p : Pm) (i : Int) : funR Try.prog t_params_Planes (annOf []) l_params_Planes 20 Try.f18 [.agg (pmC p), .one (.int .i64 i)] [] =
  (ite2 (decide (i < 0))
  (some ⟨.one (.int .i64 0), [], []⟩)
  (ite2 (decide (i ≥ (↑(List.length p.st) : Int)))
    (some ⟨.one (.int .i64 0), [], []⟩)
    (ite2 (decide (0 ≤ i ∧ i < (↑(List.length p.st) : Int)))
      (ite2 (!qvalid (gI p.st (Int.toNat i)) p.de)
        (some ⟨.one (.int .i64 0), [], []⟩)
        (ite2 (!within 0 30 [p.sf])
          (some ⟨.one (.int .i64 0), [], []⟩)
          (ite2 (decide (0 ≤ i ∧ i < (↑(List.length p.st) : Int)))
            (some ⟨.one (.int .i64 (IntKind.wrap .i64 (planesQ 268435455 (gI p.st (Int.toNat i)) p.de + p.sf))), [], []⟩)
            none)))
      none))) := by kernel_rfl
def t_ref23_Planes : FuncId → Option Summ := tabOf [(38, G_ref23_in), (51, G_ref08_Valid), (52, G_ref08_Planes)]
def l_ref23_Planes : Nat → Option LSumm := ltOf []
theorem e_ref23_Planes (p : Pm) (i : Int) : funR Try.prog t_ref23_Planes (annOf []) l_ref23_Planes 20 Try.f19 [.agg (pmC p), .one (.int .i64 i)] [] =
  (ite2 (decide (i < 0))
  (some ⟨.one (.int .i64 0), [], []⟩)
  (ite2 (decide (i ≥ (↑(List.length p.st) : Int)))
    (some ⟨.one (.int .i64 0), [], []⟩)
    (ite2 (!inr 0 30 p.sf)
      (some ⟨.one (.int .i64 0), [], []⟩)
      (ite2 (decide (0 ≤ i ∧ i < (↑(List.length p.st) : Int)))
        (ite2 (!qvalid (gI p.st (Int.toNat i)) p.de)
          (some ⟨.one (.int .i64 0), [], []⟩)
          (ite2 (decide (0 ≤ i ∧ i < (↑(List.length p.st) : Int)))
            (some ⟨.one (.int .i64 (IntKind.wrap .i64 (planesQ 268435455 (gI p.st (Int.toNat i)) p.de + p.sf))), [], []⟩)
            none))
        none)))) := by kernel_rfl
end
end Go.Rx.Ch23
