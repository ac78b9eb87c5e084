/- What the functions that the laws reach return, in closed form, and their summaries. -/
import Derived.Test.YtmkifbcadobmjaaRxD
set_option linter.unnecessarySimpa false
set_option linter.unusedVariables false
set_option linter.unusedSimpArgs false
set_option linter.unusedVariables false
namespace Go.Rx.Ch23
open Go.Rx
abbrev w (n : Int) : Int := IntKind.wrap .i64 n
def empty (a b c d : Int) : Bool := decide (a ≥ c) || decide (b ≥ d)
def valid (a b c d : Int) : Bool := decide (0 ≤ a) && decide (a ≤ c) && decide (c ≤ 4096) && decide (0 ≤ b) && decide (b ≤ d) && decide (d ≤ 4096)
def cdiv (a b : Int) : Int := if b < 1 then 0 else if Int.tmod a b > 0 then w (w (Int.tdiv a b) + 1) else w (Int.tdiv a b)
def fdiv (a b : Int) : Int := if b < 1 then 0 else if Int.tmod a b < 0 then w (w (Int.tdiv a b) - 1) else w (Int.tdiv a b)
def area (a b c d : Int) : Int := if valid a b c d then w (w (c - a) * w (d - b)) else 0
abbrev Rc := Int × Int × Int × Int
def reduce (a b c d x y : Int) : Rc := if !valid a b c d || decide (x < 1) || decide (x > 4096) || decide (y < 1) || decide (y > 4096) then (0, 0, 0, 0) else (cdiv a x, cdiv b y, cdiv c x, cdiv d y)
def inter (a b c d e f g h : Int) : Rc := if empty (max a e) (max b f) (min c g) (min d h) then (0, 0, 0, 0) else (max a e, max b f, min c g, min d h)
def contains (a b c d e f g h : Int) : Bool := empty e f g h || decide (inter a b c d e f g h = (e, f, g, h))

def H_rect_Empty (a b c d : Int) : Option (Bool × Out) := some (true, ⟨.one (.bool (empty a b c d)), [], []⟩)
def G_rect_Empty : Summ := fun args lent => pA args fun q' args => tC q' fun c' q' => kI c' fun a => tC q' fun c' q' => kI c' fun b => tC q' fun c' q' => kI c' fun c => tC q' fun c' q' => kI c' fun d => tE q' <| pE args <| nE lent <| H_rect_Empty a b c d
def H_rect_Valid (a b c d : Int) : Option (Bool × Out) := some (true, ⟨.one (.bool (valid a b c d)), [], []⟩)
def G_rect_Valid : Summ := fun args lent => pA args fun q' args => tC q' fun c' q' => kI c' fun a => tC q' fun c' q' => kI c' fun b => tC q' fun c' q' => kI c' fun c => tC q' fun c' q' => kI c' fun d => tE q' <| pE args <| nE lent <| H_rect_Valid a b c d
def H_rect_CeilDiv (a b : Int) : Option (Bool × Out) := some (true, ⟨.one (.int .i64 (cdiv a b)), [], []⟩)
def G_rect_CeilDiv : Summ := fun args lent => pO args fun c' args => kI c' fun a => pO args fun c' args => kI c' fun b => pE args <| nE lent <| H_rect_CeilDiv a b
def H_rect_FloorDiv (a b : Int) : Option (Bool × Out) := some (true, ⟨.one (.int .i64 (fdiv a b)), [], []⟩)
def G_rect_FloorDiv : Summ := fun args lent => pO args fun c' args => kI c' fun a => pO args fun c' args => kI c' fun b => pE args <| nE lent <| H_rect_FloorDiv a b
def H_rect_Area (a b c d : Int) : Option (Bool × Out) := some (true, ⟨.one (.int .i64 (area a b c d)), [], []⟩)
def G_rect_Area : Summ := fun args lent => pA args fun q' args => tC q' fun c' q' => kI c' fun a => tC q' fun c' q' => kI c' fun b => tC q' fun c' q' => kI c' fun c => tC q' fun c' q' => kI c' fun d => tE q' <| pE args <| nE lent <| H_rect_Area a b c d
def H_rect_Reduce (a b c d x y : Int) : Option (Bool × Out) := some (true, ⟨.agg [.int .i64 ((reduce a b c d x y).1), .int .i64 ((reduce a b c d x y).2.1), .int .i64 ((reduce a b c d x y).2.2.1), .int .i64 ((reduce a b c d x y).2.2.2)], [], []⟩)
def G_rect_Reduce : Summ := fun args lent => pA args fun q' args => tC q' fun c' q' => kI c' fun a => tC q' fun c' q' => kI c' fun b => tC q' fun c' q' => kI c' fun c => tC q' fun c' q' => kI c' fun d => tE q' <| pO args fun c' args => kI c' fun x => pO args fun c' args => kI c' fun y => pE args <| nE lent <| H_rect_Reduce a b c d x y
def H_rect_Intersect (a b c d e f g h : Int) : Option (Bool × Out) := some (true, ⟨.agg [.int .i64 ((inter a b c d e f g h).1), .int .i64 ((inter a b c d e f g h).2.1), .int .i64 ((inter a b c d e f g h).2.2.1), .int .i64 ((inter a b c d e f g h).2.2.2)], [], []⟩)
def G_rect_Intersect : Summ := fun args lent => pA args fun q' args => tC q' fun c' q' => kI c' fun a => tC q' fun c' q' => kI c' fun b => tC q' fun c' q' => kI c' fun c => tC q' fun c' q' => kI c' fun d => tE q' <| pA args fun q' args => tC q' fun c' q' => kI c' fun e => tC q' fun c' q' => kI c' fun f => tC q' fun c' q' => kI c' fun g => tC q' fun c' q' => kI c' fun h => tE q' <| pE args <| nE lent <| H_rect_Intersect a b c d e f g h
def H_ref01_Empty (a b c d : Int) : Option (Bool × Out) := some (true, ⟨.one (.bool (empty a b c d)), [], []⟩)
def G_ref01_Empty : Summ := fun args lent => pA args fun q' args => tC q' fun c' q' => kI c' fun a => tC q' fun c' q' => kI c' fun b => tC q' fun c' q' => kI c' fun c => tC q' fun c' q' => kI c' fun d => tE q' <| pE args <| nE lent <| H_ref01_Empty a b c d
def H_ref01_Valid (a b c d : Int) : Option (Bool × Out) := some (true, ⟨.one (.bool (valid a b c d)), [], []⟩)
def G_ref01_Valid : Summ := fun args lent => pA args fun q' args => tC q' fun c' q' => kI c' fun a => tC q' fun c' q' => kI c' fun b => tC q' fun c' q' => kI c' fun c => tC q' fun c' q' => kI c' fun d => tE q' <| pE args <| nE lent <| H_ref01_Valid a b c d
def H_ref01_CeilDiv (a b : Int) : Option (Bool × Out) := some (true, ⟨.one (.int .i64 (cdiv a b)), [], []⟩)
def G_ref01_CeilDiv : Summ := fun args lent => pO args fun c' args => kI c' fun a => pO args fun c' args => kI c' fun b => pE args <| nE lent <| H_ref01_CeilDiv a b
def H_ref01_FloorDiv (a b : Int) : Option (Bool × Out) := some (true, ⟨.one (.int .i64 (fdiv a b)), [], []⟩)
def G_ref01_FloorDiv : Summ := fun args lent => pO args fun c' args => kI c' fun a => pO args fun c' args => kI c' fun b => pE args <| nE lent <| H_ref01_FloorDiv a b
def H_ref01_Area (a b c d : Int) : Option (Bool × Out) := some (true, ⟨.one (.int .i64 (area a b c d)), [], []⟩)
def G_ref01_Area : Summ := fun args lent => pA args fun q' args => tC q' fun c' q' => kI c' fun a => tC q' fun c' q' => kI c' fun b => tC q' fun c' q' => kI c' fun c => tC q' fun c' q' => kI c' fun d => tE q' <| pE args <| nE lent <| H_ref01_Area a b c d
def H_ref01_Reduce (a b c d x y : Int) : Option (Bool × Out) := some (true, ⟨.agg [.int .i64 ((reduce a b c d x y).1), .int .i64 ((reduce a b c d x y).2.1), .int .i64 ((reduce a b c d x y).2.2.1), .int .i64 ((reduce a b c d x y).2.2.2)], [], []⟩)
def G_ref01_Reduce : Summ := fun args lent => pA args fun q' args => tC q' fun c' q' => kI c' fun a => tC q' fun c' q' => kI c' fun b => tC q' fun c' q' => kI c' fun c => tC q' fun c' q' => kI c' fun d => tE q' <| pO args fun c' args => kI c' fun x => pO args fun c' args => kI c' fun y => pE args <| nE lent <| H_ref01_Reduce a b c d x y
def H_ref01_Intersect (a b c d e f g h : Int) : Option (Bool × Out) := some (true, ⟨.agg [.int .i64 ((inter a b c d e f g h).1), .int .i64 ((inter a b c d e f g h).2.1), .int .i64 ((inter a b c d e f g h).2.2.1), .int .i64 ((inter a b c d e f g h).2.2.2)], [], []⟩)
def G_ref01_Intersect : Summ := fun args lent => pA args fun q' args => tC q' fun c' q' => kI c' fun a => tC q' fun c' q' => kI c' fun b => tC q' fun c' q' => kI c' fun c => tC q' fun c' q' => kI c' fun d => tE q' <| pA args fun q' args => tC q' fun c' q' => kI c' fun e => tC q' fun c' q' => kI c' fun f => tC q' fun c' q' => kI c' fun g => tC q' fun c' q' => kI c' fun h => tE q' <| pE args <| nE lent <| H_ref01_Intersect a b c d e f g h
def H_rect_Contains (a b c d e f g h : Int) : Option (Bool × Out) := some (true, ⟨.one (.bool (contains a b c d e f g h)), [], []⟩)
def G_rect_Contains : Summ := fun args lent => pA args fun q' args => tC q' fun c' q' => kI c' fun a => tC q' fun c' q' => kI c' fun b => tC q' fun c' q' => kI c' fun c => tC q' fun c' q' => kI c' fun d => tE q' <| pA args fun q' args => tC q' fun c' q' => kI c' fun e => tC q' fun c' q' => kI c' fun f => tC q' fun c' q' => kI c' fun g => tC q' fun c' q' => kI c' fun h => tE q' <| pE args <| nE lent <| H_rect_Contains a b c d e f g h
abbrev iS : Sh := .int .i64
abbrev cS : Sh := .pair (.int .i64) (.pair .bool (.pair (.int .i64) (.int .i64)))
abbrev pS : Sh := .pair (.int .i64) (.int .i64)
def inr (a b x : Int) : Bool := decide (a ≤ x) && decide (x ≤ b)
def within (a b : Int) (l : List Int) : Bool := l.all (inr a b)

def p_params_within_0 (a b : Int) (l : List Int) : Bool := l.all (inr a b)
def c_params_within_0 (a b : Int) (l : List Int) : LT := .br (p_params_within_0 a b l) (.leaf (.exit 0) [] []) (.leaf .ret [.one (.bool false)] [])
def k_params_within_0 (a b : Int) (l : List Int) (n i : Int) : Bool := decide (i = 0) && decide (n = (l.length : Int)) && small (l.length) && true
def S_params_within_0 : List V → List (Option Blk) → Option (Bool × LT) := fun vs bl => pO vs fun c' vs => kI c' fun a => pO vs fun c' vs => kI c' fun b => pO vs fun c' vs => kLI c' fun l => pO vs fun c' vs => kI c' fun n => pO vs fun c' vs => kI c' fun i => pE vs <| bE bl <| some (k_params_within_0 a b l n i, c_params_within_0 a b l)
def H_params_within (a b : Int) (l : List Int) : Option (Bool × Out) := some (small l.length, ⟨.one (.bool (within a b l)), [], []⟩)
def G_params_within : Summ := fun args lent => pO args fun c' args => kI c' fun a => pO args fun c' args => kI c' fun b => pO args fun c' args => kLI c' fun l => pE args <| nE lent <| H_params_within a b l
def qvalid (a b : Int) : Bool := inr 1 65536 a && inr 8 32 b
def qthr (a b : Int) : Int := if qvalid a b then max 1 (a * b / 16) else 0
def H_quant_Valid (a b : Int) : Option (Bool × Out) := some (true, ⟨.one (.bool (qvalid a b)), [], []⟩)
def G_quant_Valid : Summ := fun args lent => pO args fun c' args => kI c' fun a => pO args fun c' args => kI c' fun b => pE args <| nE lent <| H_quant_Valid a b
def H_ref08_Valid (a b : Int) : Option (Bool × Out) := some (true, ⟨.one (.bool (qvalid a b)), [], []⟩)
def G_ref08_Valid : Summ := fun args lent => pO args fun c' args => kI c' fun a => pO args fun c' args => kI c' fun b => pE args <| nE lent <| H_ref08_Valid a b
def H_quant_Threshold (a b : Int) : Option (Bool × Out) := some (true, ⟨.one (.int .i64 (qthr a b)), [], []⟩)
def G_quant_Threshold : Summ := fun args lent => pO args fun c' args => kI c' fun a => pO args fun c' args => kI c' fun b => pE args <| nE lent <| H_quant_Threshold a b
def H_ref08_Threshold (a b : Int) : Option (Bool × Out) := some (true, ⟨.one (.int .i64 (qthr a b)), [], []⟩)
def G_ref08_Threshold : Summ := fun args lent => pO args fun c' args => kI c' fun a => pO args fun c' args => kI c' fun b => pE args <| nE lent <| H_ref08_Threshold a b
def p_eqI_0 (l m : List Int) : Bool := (List.range l.length).all (fun j => gI l j == gI m j)
def c_eqI_0 (l m : List Int) : LT := .br (p_eqI_0 l m) (.leaf (.exit 0) [] []) (.leaf .ret [.one (.bool false)] [])
def k_eqI_0 (l m : List Int) (n i : Int) : Bool := decide (i = 0) && decide (n = (l.length : Int)) && small (l.length) && decide (l.length = m.length)
def S_eqI_0 : List V → List (Option Blk) → Option (Bool × LT) := fun vs bl => pO vs fun c' vs => kLI c' fun l => pO vs fun c' vs => kLI c' fun m => pO vs fun c' vs => kI c' fun n => pO vs fun c' vs => kI c' fun i => pE vs <| bE bl <| some (k_eqI_0 l m n i, c_eqI_0 l m)
def H_eqI (l m : List Int) : Option (Bool × Out) := some (small l.length, ⟨.one (.bool (decide (l = m))), [], []⟩)
def G_eqI : Summ := fun args lent => pO args fun c' args => kLI c' fun l => pO args fun c' args => kLI c' fun m => pE args <| nE lent <| H_eqI l m
def p_eqP_0 (l m : List (Int × Int)) : Bool := (List.range l.length).all (fun j => gP l j == gP m j)
def c_eqP_0 (l m : List (Int × Int)) : LT := .br (p_eqP_0 l m) (.leaf (.exit 0) [] []) (.leaf .ret [.one (.bool false)] [])
def k_eqP_0 (l m : List (Int × Int)) (n i : Int) : Bool := decide (i = 0) && decide (n = (l.length : Int)) && small (l.length) && decide (l.length = m.length)
def S_eqP_0 : List V → List (Option Blk) → Option (Bool × LT) := fun vs bl => pO vs fun c' vs => kLP c' fun l => pO vs fun c' vs => kLP c' fun m => pO vs fun c' vs => kI c' fun n => pO vs fun c' vs => kI c' fun i => pE vs <| bE bl <| some (k_eqP_0 l m n i, c_eqP_0 l m)
def H_eqP (l m : List (Int × Int)) : Option (Bool × Out) := some (small l.length, ⟨.one (.bool (decide (l = m))), [], []⟩)
def G_eqP : Summ := fun args lent => pO args fun c' args => kLP c' fun l => pO args fun c' args => kLP c' fun m => pE args <| nE lent <| H_eqP l m
def p_eqC_0 (l m : List (Int × Bool × Int × Int)) : Bool := (List.range l.length).all (fun j => gC l j == gC m j)
def c_eqC_0 (l m : List (Int × Bool × Int × Int)) : LT := .br (p_eqC_0 l m) (.leaf (.exit 0) [] []) (.leaf .ret [.one (.bool false)] [])
def k_eqC_0 (l m : List (Int × Bool × Int × Int)) (n i : Int) : Bool := decide (i = 0) && decide (n = (l.length : Int)) && small (l.length) && decide (l.length = m.length)
def S_eqC_0 : List V → List (Option Blk) → Option (Bool × LT) := fun vs bl => pO vs fun c' vs => kLC c' fun l => pO vs fun c' vs => kLC c' fun m => pO vs fun c' vs => kI c' fun n => pO vs fun c' vs => kI c' fun i => pE vs <| bE bl <| some (k_eqC_0 l m n i, c_eqC_0 l m)
def H_eqC (l m : List (Int × Bool × Int × Int)) : Option (Bool × Out) := some (small l.length, ⟨.one (.bool (decide (l = m))), [], []⟩)
def G_eqC : Summ := fun args lent => pO args fun c' args => kLC c' fun l => pO args fun c' args => kLC c' fun m => pE args <| nE lent <| H_eqC l m
end Go.Rx.Ch23

set_option linter.unusedVariables false
namespace Go.Rx.Ch23
open Go.Rx
def sameH (x y : Hd) : Bool := decide (x.a = y.a ∧ x.b = y.b ∧ x.c = y.c ∧ x.d = y.d ∧ x.tw = y.tw ∧ x.th = y.th ∧ x.cs = y.cs)
def sameP (x y : Pm) : Bool := decide (x.ke = y.ke ∧ x.le = y.le ∧ x.co = y.co ∧ x.bx = y.bx ∧ x.bw = y.bw ∧ x.od = y.od ∧ x.la = y.la ∧ (x.m1 = y.m1 ∧ x.m2 = y.m2 ∧ x.m3 = y.m3 ∧ x.m4 = y.m4 ∧ x.m5 = y.m5) ∧ x.dv = y.dv ∧ x.sy = y.sy ∧ x.fe = y.fe ∧ x.de = y.de ∧ x.sf = y.sf ∧ x.pr = y.pr ∧ x.st = y.st)
def few (h : Hd) (p : Pm) : Bool := decide (h.cs.length ≤ 10) && decide (p.st.length ≤ 40) && decide (p.pr.length ≤ 40)
def prec (p : Pm) (r : Int) : Int × Int := if r < 0 ∨ p.le < r then (0, 0) else if p.pr.length = 0 then (12, 12) else if r ≥ p.pr.length then (0, 0) else gP p.pr r.toNat
def H_few_ (h : Hd) (p : Pm) : Option (Bool × Out) := some (true, ⟨.one (.bool (few h p)), [], []⟩)
def G_few_ : Summ := fun args lent => pA args fun q' args => rdHd q' fun h => pA args fun q' args => rdPm q' fun p => pE args <| nE lent <| H_few_ h p
def H_params_Precinct (p : Pm) (r : Int) : Option (Bool × Out) := some (true, ⟨.agg [.int .i64 ((prec p r).1), .int .i64 ((prec p r).2)], [], []⟩)
def G_params_Precinct : Summ := fun args lent => pA args fun q' args => rdPm q' fun p => pO args fun c' args => kI c' fun r => pE args <| nE lent <| H_params_Precinct p r
def H_ref23_Precinct (p : Pm) (r : Int) : Option (Bool × Out) := some (true, ⟨.agg [.int .i64 ((prec p r).1), .int .i64 ((prec p r).2)], [], []⟩)
def G_ref23_Precinct : Summ := fun args lent => pA args fun q' args => rdPm q' fun p => pO args fun c' args => kI c' fun r => pE args <| nE lent <| H_ref23_Precinct p r
def p_ref23_SameHeader_0 (h1 h2 : Hd) : Bool := (List.range h1.cs.length).all (fun j => gC h1.cs j == gC h2.cs j)
def c_ref23_SameHeader_0 (h1 h2 : Hd) : LT := .br (p_ref23_SameHeader_0 h1 h2) (.leaf (.exit 0) [] []) (.leaf .ret [.one (.bool false)] [])
def k_ref23_SameHeader_0 (h1 h2 : Hd) (i : Int) : Bool := decide (i = 0) && small (h1.cs.length) && decide (h1.cs.length = h2.cs.length)
def S_ref23_SameHeader_0 : List V → List (Option Blk) → Option (Bool × LT) := fun vs bl => pO vs fun c' vs => kP 0 0 c' <| pO vs fun c' vs => kP 1 0 c' <| pO vs fun c' vs => kI c' fun i => pE vs <| bB bl fun q' bl => rdHd q' fun h1 => bB bl fun q' bl => rdHd q' fun h2 => bE bl <| some (k_ref23_SameHeader_0 h1 h2 i, c_ref23_SameHeader_0 h1 h2)
def H_ref23_SameHeader (h1 h2 : Hd) : Option (Bool × Out) := some (small h1.cs.length, ⟨.one (.bool (sameH h1 h2)), [], []⟩)
def G_ref23_SameHeader : Summ := fun args lent => pA args fun q' args => rdHd q' fun h1 => pA args fun q' args => rdHd q' fun h2 => pE args <| nE lent <| H_ref23_SameHeader h1 h2
end Go.Rx.Ch23

set_option linter.unusedVariables false
namespace Go.Rx.Ch23
open Go.Rx
def p_ref23_SameParams_0 (p1 p2 : Pm) : Bool := (List.range p1.pr.length).all (fun j => gP p1.pr j == gP p2.pr j)
def c_ref23_SameParams_0 (p1 p2 : Pm) : LT := .br (p_ref23_SameParams_0 p1 p2) (.leaf (.exit 0) [.one (.ptr 0 0), .one (.ptr 1 0)] [some (.box (pmC p1)), some (.box (pmC p2))]) (.leaf .ret [.one (.bool false)] [])
def k_ref23_SameParams_0 (p1 p2 : Pm) (i : Int) : Bool := decide (i = 0) && small (p1.pr.length) && decide (p1.pr.length = p2.pr.length)
def S_ref23_SameParams_0 : List V → List (Option Blk) → Option (Bool × LT) := fun vs bl => pO vs fun c' vs => kP 0 0 c' <| pO vs fun c' vs => kP 1 0 c' <| pO vs fun c' vs => kI c' fun i => pE vs <| bB bl fun q' bl => rdPm q' fun p1 => bB bl fun q' bl => rdPm q' fun p2 => bE bl <| some (k_ref23_SameParams_0 p1 p2 i, c_ref23_SameParams_0 p1 p2)
def p_ref23_SameParams_1 (p1 p2 : Pm) : Bool := (List.range p1.st.length).all (fun j => gI p1.st j == gI p2.st j)
def c_ref23_SameParams_1 (p1 p2 : Pm) : LT := .br (p_ref23_SameParams_1 p1 p2) (.leaf (.exit 2) [] []) (.leaf .ret [.one (.bool false)] [])
def k_ref23_SameParams_1 (p1 p2 : Pm) (i : Int) : Bool := decide (i = 0) && small (p1.st.length) && decide (p1.st.length = p2.st.length)
def S_ref23_SameParams_1 : List V → List (Option Blk) → Option (Bool × LT) := fun vs bl => pO vs fun c' vs => kP 0 0 c' <| pO vs fun c' vs => kP 1 0 c' <| pO vs fun c' vs => kI c' fun i => pE vs <| bB bl fun q' bl => rdPm q' fun p1 => bB bl fun q' bl => rdPm q' fun p2 => bE bl <| some (k_ref23_SameParams_1 p1 p2 i, c_ref23_SameParams_1 p1 p2)
def H_ref23_SameParams (p1 p2 : Pm) : Option (Bool × Out) := some ((small p1.pr.length && small p1.st.length), ⟨.one (.bool (sameP p1 p2)), [], []⟩)
def G_ref23_SameParams : Summ := fun args lent => pA args fun q' args => rdPm q' fun p1 => pA args fun q' args => rdPm q' fun p2 => pE args <| nE lent <| H_ref23_SameParams p1 p2
def H_ref23_Same (h1 h2 : Hd) (p1 p2 : Pm) : Option (Bool × Out) := some ((small h1.cs.length && (small p1.pr.length && small p1.st.length)), ⟨.tup [(false, [.bool (sameH h1 h2)]), (false, [.bool (sameP p1 p2)])], [], []⟩)
def G_ref23_Same : Summ := fun args lent => pA args fun q' args => rdHd q' fun h1 => pA args fun q' args => rdHd q' fun h2 => pA args fun q' args => rdPm q' fun p1 => pA args fun q' args => rdPm q' fun p2 => pE args <| nE lent <| H_ref23_Same h1 h2 p1 p2
def H_params_Same (h1 h2 : Hd) (p1 p2 : Pm) : Option (Bool × Out) := some ((small h1.cs.length && (small p1.pr.length && small p1.st.length)), ⟨.tup [(false, [.bool (sameH h1 h2)]), (false, [.bool (sameP p1 p2)])], [], []⟩)
def G_params_Same : Summ := fun args lent => pA args fun q' args => rdHd q' fun h1 => pA args fun q' args => rdHd q' fun h2 => pA args fun q' args => rdPm q' fun p1 => pA args fun q' args => rdPm q' fun p2 => pE args <| nE lent <| H_params_Same h1 h2 p1 p2
end Go.Rx.Ch23

set_option linter.unusedVariables false
namespace Go.Rx.Ch23
open Go.Rx
def lossless (p : Pm) : Bool := p.st.all (fun x => x == 1) && (decide (0 < p.st.length) && decide (qthr 1 p.de = 1))
def p_params_Lossless_0 (p : Pm) (l : List Int) : Bool := l.all (fun x => x == 1)
def c_params_Lossless_0 (p : Pm) (l : List Int) : LT := .br (p_params_Lossless_0 p l) (.leaf (.exit 0) [.one (.ptr 0 0)] [some (.box (pmC p))]) (.leaf .ret [.one (.bool false)] [])
def k_params_Lossless_0 (p : Pm) (l : List Int) (n i : Int) : Bool := decide (i = 0) && decide (n = (l.length : Int)) && small (l.length) && true
def S_params_Lossless_0 : List V → List (Option Blk) → Option (Bool × LT) := fun vs bl => pO vs fun c' vs => kP 0 0 c' <| pO vs fun c' vs => kLI c' fun l => pO vs fun c' vs => kI c' fun n => pO vs fun c' vs => kI c' fun i => pE vs <| bB bl fun q' bl => rdPm q' fun p => bE bl <| some (k_params_Lossless_0 p l n i, c_params_Lossless_0 p l)
def H_params_Lossless (p : Pm) : Option (Bool × Out) := some (small p.st.length, ⟨.one (.bool (lossless p)), [], []⟩)
def G_params_Lossless : Summ := fun args lent => pA args fun q' args => rdPm q' fun p => pE args <| nE lent <| H_params_Lossless p
def p_ref23_Lossless_0 (p : Pm) : Bool := (List.range p.st.length).all (fun j => gI p.st j == 1)
def c_ref23_Lossless_0 (p : Pm) : LT := .br (p_ref23_Lossless_0 p) (.leaf (.exit 0) [.one (.ptr 0 0)] [some (.box (pmC p))]) (.leaf .ret [.one (.bool false)] [])
def k_ref23_Lossless_0 (p : Pm) (i : Int) : Bool := decide (i = 0) && small (p.st.length) && true
def S_ref23_Lossless_0 : List V → List (Option Blk) → Option (Bool × LT) := fun vs bl => pO vs fun c' vs => kP 0 0 c' <| pO vs fun c' vs => kI c' fun i => pE vs <| bB bl fun q' bl => rdPm q' fun p => bE bl <| some (k_ref23_Lossless_0 p i, c_ref23_Lossless_0 p)
def H_ref23_Lossless (p : Pm) : Option (Bool × Out) := some (small p.st.length, ⟨.one (.bool (lossless p)), [], []⟩)
def G_ref23_Lossless : Summ := fun args lent => pA args fun q' args => rdPm q' fun p => pE args <| nE lent <| H_ref23_Lossless p
end Go.Rx.Ch23

set_option linter.unusedVariables false
namespace Go.Rx.Ch23
open Go.Rx
def kinds (p : Pm) : Bool := inr 1 3 p.ke && inr 0 2 p.co && inr 1 5 p.od
def emptyR (r : Rc) : Bool := empty r.1 r.2.1 r.2.2.1 r.2.2.2
def areaR (r : Rc) : Int := area r.1 r.2.1 r.2.2.1 r.2.2.2
def redH (h : Hd) (c : Int × Bool × Int × Int) : Rc := reduce h.a h.b h.c h.d c.2.2.1 c.2.2.2
def okC (h : Hd) (c : Int × Bool × Int × Int) : Bool := inr 1 16 c.1 && inr 1 4 c.2.2.1 && inr 1 4 c.2.2.2 && !emptyR (redH h c)
def smC (h : Hd) (c : Int × Bool × Int × Int) : Bool := decide (areaR (redH h c) ≤ 1048576)
def tiles (h : Hd) : Int := w (w (cdiv h.c h.tw - fdiv h.a h.tw) * w (cdiv h.d h.th - fdiv h.b h.th))
def header (h : Hd) : Int := if !valid h.a h.b h.c h.d || empty h.a h.b h.c h.d || !inr 1 4096 h.tw || !inr 1 4096 h.th || !inr 1 4 h.cs.length || !h.cs.all (okC h) then 12 else if tiles h > 1024 || !h.cs.all (smC h) then 5 else 0
def H_ref23_kinds (p : Pm) : Option (Bool × Out) := some (true, ⟨.one (.bool (kinds p)), [], []⟩)
def G_ref23_kinds : Summ := fun args lent => pA args fun q' args => rdPm q' fun p => pE args <| nE lent <| H_ref23_kinds p
def H_ref23_in (a b c : Int) : Option (Bool × Out) := some (true, ⟨.one (.bool (inr b c a)), [], []⟩)
def G_ref23_in : Summ := fun args lent => pO args fun c' args => kI c' fun a => pO args fun c' args => kI c' fun b => pO args fun c' args => kI c' fun c => pE args <| nE lent <| H_ref23_in a b c
def H_ref23_tiles (h : Hd) : Option (Bool × Out) := some (true, ⟨.one (.int .i64 (tiles h)), [], []⟩)
def G_ref23_tiles : Summ := fun args lent => pA args fun q' args => rdHd q' fun h => pE args <| nE lent <| H_ref23_tiles h
def p_params_Header_0 (h : Hd) (l : List (Int × Bool × Int × Int)) : Bool := l.all (okC h)
def c_params_Header_0 (h : Hd) (l : List (Int × Bool × Int × Int)) : LT := .br (p_params_Header_0 h l) (.leaf (.exit 0) [.one (.ptr 0 0)] [some (.box (hdC h))]) (.leaf .ret [.one (.int .i64 12)] [])
def k_params_Header_0 (h : Hd) (l : List (Int × Bool × Int × Int)) (n i : Int) : Bool := decide (i = 0) && decide (n = (l.length : Int)) && small (l.length) && true
def S_params_Header_0 : List V → List (Option Blk) → Option (Bool × LT) := fun vs bl => pO vs fun c' vs => kP 0 0 c' <| pO vs fun c' vs => kLC c' fun l => pO vs fun c' vs => kI c' fun n => pO vs fun c' vs => kI c' fun i => pE vs <| bB bl fun q' bl => rdHd q' fun h => bE bl <| some (k_params_Header_0 h l n i, c_params_Header_0 h l)
def p_params_Header_1 (h : Hd) (l : List (Int × Bool × Int × Int)) : Bool := l.all (smC h)
def c_params_Header_1 (h : Hd) (l : List (Int × Bool × Int × Int)) : LT := .br (p_params_Header_1 h l) (.leaf (.exit 2) [] []) (.leaf .ret [.one (.int .i64 5)] [])
def k_params_Header_1 (h : Hd) (l : List (Int × Bool × Int × Int)) (n i : Int) : Bool := decide (i = 0) && decide (n = (l.length : Int)) && small (l.length) && true
def S_params_Header_1 : List V → List (Option Blk) → Option (Bool × LT) := fun vs bl => pO vs fun c' vs => kP 0 0 c' <| pO vs fun c' vs => kLC c' fun l => pO vs fun c' vs => kI c' fun n => pO vs fun c' vs => kI c' fun i => pE vs <| bB bl fun q' bl => rdHd q' fun h => bE bl <| some (k_params_Header_1 h l n i, c_params_Header_1 h l)
def H_params_Header (h : Hd) : Option (Bool × Out) := some (small h.cs.length, ⟨.one (.int .i64 (header h)), [], []⟩)
def G_params_Header : Summ := fun args lent => pA args fun q' args => rdHd q' fun h => pE args <| nE lent <| H_params_Header h
def p_ref23_Header_0 (h : Hd) : Bool := (List.range h.cs.length).all (fun j => okC h (gC h.cs j))
def c_ref23_Header_0 (h : Hd) : LT := .br (p_ref23_Header_0 h) (.leaf (.exit 0) [.one (.ptr 0 0)] [some (.box (hdC h))]) (.leaf .ret [.one (.int .i64 12)] [])
def k_ref23_Header_0 (h : Hd) (i : Int) : Bool := decide (i = 0) && small (h.cs.length) && true
def S_ref23_Header_0 : List V → List (Option Blk) → Option (Bool × LT) := fun vs bl => pO vs fun c' vs => kP 0 0 c' <| pO vs fun c' vs => kI c' fun i => pE vs <| bB bl fun q' bl => rdHd q' fun h => bE bl <| some (k_ref23_Header_0 h i, c_ref23_Header_0 h)
def p_ref23_Header_1 (h : Hd) : Bool := (List.range h.cs.length).all (fun j => smC h (gC h.cs j))
def c_ref23_Header_1 (h : Hd) : LT := .br (p_ref23_Header_1 h) (.leaf (.exit 2) [] []) (.leaf .ret [.one (.int .i64 5)] [])
def k_ref23_Header_1 (h : Hd) (i : Int) : Bool := decide (i = 0) && small (h.cs.length) && true
def S_ref23_Header_1 : List V → List (Option Blk) → Option (Bool × LT) := fun vs bl => pO vs fun c' vs => kP 0 0 c' <| pO vs fun c' vs => kI c' fun i => pE vs <| bB bl fun q' bl => rdHd q' fun h => bE bl <| some (k_ref23_Header_1 h i, c_ref23_Header_1 h)
def H_ref23_Header (h : Hd) : Option (Bool × Out) := some (small h.cs.length, ⟨.one (.int .i64 (header h)), [], []⟩)
def G_ref23_Header : Summ := fun args lent => pA args fun q' args => rdHd q' fun h => pE args <| nE lent <| H_ref23_Header h
end Go.Rx.Ch23

set_option linter.unusedVariables false
namespace Go.Rx.Ch23
open Go.Rx
def pmin (i : Nat) : Int := if 1 < (i : Int) then 1 else i
def prq (p : Pm) (i : Nat) : Bool := inr (pmin i) 12 (gP p.pr i).1 && inr (pmin i) 12 (gP p.pr i).2
def precs (p : Pm) : Bool := (List.range p.pr.length).all (prq p)
def nums (p : Pm) : Bool := inr 0 5 p.le && inr 2 6 p.bx && inr 2 6 p.bw && (decide (p.pr.length = 0) || decide ((p.pr.length : Int) = p.le + 1)) && precs p && inr 1 16 p.la && decide ((p.st.length : Int) = 3 * p.le + 1) && p.st.all (inr 1 65536) && inr 8 32 p.de && inr 0 30 p.sf
def colors (h : Hd) (p : Pm) : Bool := decide (p.co = 0) || decide (3 ≤ h.cs.length) && decide (gC h.cs 0 = gC h.cs 1) && decide (gC h.cs 0 = gC h.cs 2)
def p_params_numbers_0 (h : Hd) (p : Pm) (l : List (Int × Int)) : Bool := (List.range l.length).all (prq p)
def c_params_numbers_0 (h : Hd) (p : Pm) (l : List (Int × Int)) : LT := .br (p_params_numbers_0 h p l) (.leaf (.exit 0) [.one (.ptr 0 0), .one (.ptr 1 0)] [some (.box (hdC h)), some (.box (pmC p))]) (.leaf .ret [.one (.bool false)] [])
def k_params_numbers_0 (h : Hd) (p : Pm) (l : List (Int × Int)) (n i : Int) : Bool := decide (i = 0) && decide (n = (l.length : Int)) && small (l.length) && decide (l = p.pr)
def S_params_numbers_0 : List V → List (Option Blk) → Option (Bool × LT) := fun vs bl => pO vs fun c' vs => kP 0 0 c' <| pO vs fun c' vs => kP 1 0 c' <| pO vs fun c' vs => kLP c' fun l => pO vs fun c' vs => kI c' fun n => pO vs fun c' vs => kI c' fun i => pE vs <| bB bl fun q' bl => rdHd q' fun h => bB bl fun q' bl => rdPm q' fun p => bE bl <| some (k_params_numbers_0 h p l n i, c_params_numbers_0 h p l)
def H_params_numbers (h : Hd) (p : Pm) : Option (Bool × Out) := some ((small p.pr.length && small p.st.length), ⟨.one (.bool (nums p && colors h p)), [], []⟩)
def G_params_numbers : Summ := fun args lent => pA args fun q' args => rdHd q' fun h => pA args fun q' args => rdPm q' fun p => pE args <| nE lent <| H_params_numbers h p
def p_ref23_numbers_0 (p : Pm) : Bool := (List.range p.st.length).all (fun j => inr 1 65536 (gI p.st j))
def c_ref23_numbers_0 (p : Pm) : LT := .br (p_ref23_numbers_0 p) (.leaf (.exit 0) [.one (.ptr 0 0)] [some (.box (pmC p))]) (.leaf .ret [.one (.bool false)] [])
def k_ref23_numbers_0 (p : Pm) (i : Int) : Bool := decide (i = 0) && small (p.st.length) && true
def S_ref23_numbers_0 : List V → List (Option Blk) → Option (Bool × LT) := fun vs bl => pO vs fun c' vs => kP 0 0 c' <| pO vs fun c' vs => kI c' fun i => pE vs <| bB bl fun q' bl => rdPm q' fun p => bE bl <| some (k_ref23_numbers_0 p i, c_ref23_numbers_0 p)
def p_ref23_numbers_1 (p : Pm) : Bool := (List.range p.pr.length).all (prq p)
def c_ref23_numbers_1 (p : Pm) : LT := .br (p_ref23_numbers_1 p) (.leaf (.exit 2) [] []) (.leaf .ret [.one (.bool false)] [])
def k_ref23_numbers_1 (p : Pm) (i : Int) : Bool := decide (i = 0) && small (p.pr.length) && true
def S_ref23_numbers_1 : List V → List (Option Blk) → Option (Bool × LT) := fun vs bl => pO vs fun c' vs => kP 0 0 c' <| pO vs fun c' vs => kI c' fun i => pE vs <| bB bl fun q' bl => rdPm q' fun p => bE bl <| some (k_ref23_numbers_1 p i, c_ref23_numbers_1 p)
def H_ref23_numbers (p : Pm) : Option (Bool × Out) := some ((small p.pr.length && small p.st.length), ⟨.one (.bool (nums p)), [], []⟩)
def G_ref23_numbers : Summ := fun args lent => pA args fun q' args => rdPm q' fun p => pE args <| nE lent <| H_ref23_numbers p
end Go.Rx.Ch23

set_option linter.unusedVariables false
namespace Go.Rx.Ch23
open Go.Rx
def len8 : List UInt8 := [0, 1, 2, 2, 3, 3, 3, 3, 4, 4, 4, 4, 4, 4, 4, 4, 5, 5, 5, 5, 5, 5, 5, 5, 5, 5, 5, 5, 5, 5, 5, 5, 6, 6, 6, 6, 6, 6, 6, 6, 6, 6, 6, 6, 6, 6, 6, 6, 6, 6, 6, 6, 6, 6, 6, 6, 6, 6, 6, 6, 6, 6, 6, 6, 7, 7, 7, 7, 7, 7, 7, 7, 7, 7, 7, 7, 7, 7, 7, 7, 7, 7, 7, 7, 7, 7, 7, 7, 7, 7, 7, 7, 7, 7, 7, 7, 7, 7, 7, 7, 7, 7, 7, 7, 7, 7, 7, 7, 7, 7, 7, 7, 7, 7, 7, 7, 7, 7, 7, 7, 7, 7, 7, 7, 7, 7, 7, 7, 8, 8, 8, 8, 8, 8, 8, 8, 8, 8, 8, 8, 8, 8, 8, 8, 8, 8, 8, 8, 8, 8, 8, 8, 8, 8, 8, 8, 8, 8, 8, 8, 8, 8, 8, 8, 8, 8, 8, 8, 8, 8, 8, 8, 8, 8, 8, 8, 8, 8, 8, 8, 8, 8, 8, 8, 8, 8, 8, 8, 8, 8, 8, 8, 8, 8, 8, 8, 8, 8, 8, 8, 8, 8, 8, 8, 8, 8, 8, 8, 8, 8, 8, 8, 8, 8, 8, 8, 8, 8, 8, 8, 8, 8, 8, 8, 8, 8, 8, 8, 8, 8, 8, 8, 8, 8, 8, 8, 8, 8, 8, 8, 8, 8, 8, 8, 8, 8, 8, 8, 8, 8, 8, 8, 8, 8, 8, 8]
def quantz (c a b : Int) : Int := if qvalid a b then (if min c 281474976710656 ≥ qthr a b then 1 + (min c 281474976710656 - qthr a b) / a else 0) else 0
def digsN : Nat → Int → Int
  | 0, _ => 0
  | n + 1, x => if x ≤ 0 then 0 else 1 + digsN n (x / 2)
def digs (x : Int) : Int := digsN 63 x
def planesQ (c a b : Int) : Int := if c < 0 || !qvalid a b then 0 else digs (quantz c a b)
def H_qlimit (a b c : Int) : Option (Bool × Out) := some (true, ⟨.one (.int .i64 (min (max a b) c)), [], []⟩)
def G_qlimit : Summ := fun args lent => pO args fun c' args => kI c' fun a => pO args fun c' args => kI c' fun b => pO args fun c' args => kI c' fun c => pE args <| nE lent <| H_qlimit a b c
def H_ref08_limit (a b : Int) : Option (Bool × Out) := some (true, ⟨.one (.int .i64 (min (max a (w (0 - b))) b)), [], []⟩)
def G_ref08_limit : Summ := fun args lent => pO args fun c' args => kI c' fun a => pO args fun c' args => kI c' fun b => pE args <| nE lent <| H_ref08_limit a b
def H_quant_Quantize (c a b : Int) : Option (Bool × Out) := some (decide (0 ≤ c), ⟨.one (.int .i64 (quantz c a b)), [], []⟩)
def G_quant_Quantize : Summ := fun args lent => pO args fun c' args => kI c' fun c => pO args fun c' args => kI c' fun a => pO args fun c' args => kI c' fun b => pE args <| nE lent <| H_quant_Quantize c a b
def H_ref08_Quantize (c a b : Int) : Option (Bool × Out) := some (decide (0 ≤ c), ⟨.one (.int .i64 (quantz c a b)), [], []⟩)
def G_ref08_Quantize : Summ := fun args lent => pO args fun c' args => kI c' fun c => pO args fun c' args => kI c' fun a => pO args fun c' args => kI c' fun b => pE args <| nE lent <| H_ref08_Quantize c a b
def H_Len64 (x : Int) : Option (Bool × Out) := some ((decide (0 ≤ x) && decide (x < 9223372036854775808)), ⟨.one (.int .i64 (digs x)), [], []⟩)
def G_Len64 : Summ := fun args lent => pO args fun c' args => kK .u64 c' fun x => pE args <| nE lent <| H_Len64 x
def c_ref08_Digits_0 (n x : Int) : LT := .leaf (.exit 0) [.one (.int .i64 (n + digs x))] []
def k_ref08_Digits_0 (n x : Int) : Bool := decide (n = 0) && (decide (0 ≤ x) && decide (x < 9223372036854775808))
def S_ref08_Digits_0 : List V → List (Option Blk) → Option (Bool × LT) := fun vs bl => pO vs fun c' vs => kI c' fun n => pO vs fun c' vs => kI c' fun x => pE vs <| bE bl <| some (k_ref08_Digits_0 n x, c_ref08_Digits_0 n x)
def H_ref08_Digits (x : Int) : Option (Bool × Out) := some ((decide (0 ≤ x) && decide (x < 9223372036854775808)), ⟨.one (.int .i64 (digs x)), [], []⟩)
def G_ref08_Digits : Summ := fun args lent => pO args fun c' args => kI c' fun x => pE args <| nE lent <| H_ref08_Digits x
def H_quant_Planes (c a b : Int) : Option (Bool × Out) := some (true, ⟨.one (.int .i64 (planesQ c a b)), [], []⟩)
def G_quant_Planes : Summ := fun args lent => pO args fun c' args => kI c' fun c => pO args fun c' args => kI c' fun a => pO args fun c' args => kI c' fun b => pE args <| nE lent <| H_quant_Planes c a b
def H_ref08_Planes (c a b : Int) : Option (Bool × Out) := some (true, ⟨.one (.int .i64 (planesQ c a b)), [], []⟩)
def G_ref08_Planes : Summ := fun args lent => pO args fun c' args => kI c' fun c => pO args fun c' args => kI c' fun a => pO args fun c' args => kI c' fun b => pE args <| nE lent <| H_ref08_Planes c a b
def planes (p : Pm) (i : Int) : Int := if i < 0 ∨ i ≥ p.st.length ∨ qvalid (gI p.st i.toNat) p.de = false ∨ inr 0 30 p.sf = false then 0 else w (planesQ 268435455 (gI p.st i.toNat) p.de + p.sf)
def H_params_Planes (p : Pm) (i : Int) : Option (Bool × Out) := some (true, ⟨.one (.int .i64 (planes p i)), [], []⟩)
def G_params_Planes : Summ := fun args lent => pA args fun q' args => rdPm q' fun p => pO args fun c' args => kI c' fun i => pE args <| nE lent <| H_params_Planes p i
def H_ref23_Planes (p : Pm) (i : Int) : Option (Bool × Out) := some (true, ⟨.one (.int .i64 (planes p i)), [], []⟩)
def G_ref23_Planes : Summ := fun args lent => pA args fun q' args => rdPm q' fun p => pO args fun c' args => kI c' fun i => pE args <| nE lent <| H_ref23_Planes p i
end Go.Rx.Ch23

set_option linter.unusedVariables false
namespace Go.Rx.Ch23
open Go.Rx
def count (n : Int) : Int := if inr 0 5 n then 3 * n + 1 else 0
def plOk (i n : Int) : Bool := decide (0 ≤ i) && decide (i < count n)
def plLv (i n : Int) : Int := if plOk i n then (if i = 0 then n else n - (i + 2) / 3 + 1) else 0
def plOr (i n : Int) : Int := if plOk i n then (if i = 0 then 0 else i - 3 * ((i + 2) / 3) + 3) else 0
def idxs (n r : Int) : List Int := if inr 0 5 n && inr 0 n r then (if r = 0 then [0] else [3 * r - 2, 3 * r - 1, 3 * r]) else []
def pw (k : Int) : Int := 2 ^ k.toNat
def resR (a b c d n r : Int) : Rc := if inr 0 5 n && inr 0 n r then reduce a b c d (pw (n - r)) (pw (n - r)) else (0, 0, 0, 0)
def bnd (a b c d : Int) (o : Int) : Rc := if valid a b c d then ((a + (1 - o % 2)) / 2, (b + (1 - o / 2)) / 2, (c + (1 - o % 2)) / 2, (d + (1 - o / 2)) / 2) else (0, 0, 0, 0)
def bndR (r : Rc) (o : Int) : Rc := bnd r.1 r.2.1 r.2.2.1 r.2.2.2 o
def bandR (a b c d n i : Int) : Rc := if plOk i n && valid a b c d then (if i = 0 then resR a b c d n 0 else bndR (resR a b c d n (n - plLv i n + 1)) (plOr i n)) else (0, 0, 0, 0)
def half (n : Int) (b : Bool) : Int := if b then n / 2 else (n + 1) / 2
def cellsN (a b c d x y : Int) : Int := if empty a b c d then 0 else w (w (cdiv c (pw x) - fdiv a (pw x)) * w (cdiv d (pw y) - fdiv b (pw y)))
def H_pyr_validLevels (n : Int) : Option (Bool × Out) := some (true, ⟨.one (.bool (inr 0 5 n)), [], []⟩)
def G_pyr_validLevels : Summ := fun args lent => pO args fun c' args => kI c' fun n => pE args <| nE lent <| H_pyr_validLevels n
def H_pyr_Count (n : Int) : Option (Bool × Out) := some (true, ⟨.one (.int .i64 (count n)), [], []⟩)
def G_pyr_Count : Summ := fun args lent => pO args fun c' args => kI c' fun n => pE args <| nE lent <| H_pyr_Count n
def H_pyr_Place (i n : Int) : Option (Bool × Out) := some (true, ⟨.tup [(false, [.int .i64 (plLv i n)]), (false, [.int .i64 (plOr i n)]), (false, [.bool (plOk i n)])], [], []⟩)
def G_pyr_Place : Summ := fun args lent => pO args fun c' args => kI c' fun i => pO args fun c' args => kI c' fun n => pE args <| nE lent <| H_pyr_Place i n
def H_pyr_Indices (n r : Int) : Option (Bool × Out) := some (true, ⟨.one (.row 0), [], [.arr 3 (.int .i64) (idxs n r)]⟩)
def G_pyr_Indices : Summ := fun args lent => pO args fun c' args => kI c' fun n => pO args fun c' args => kI c' fun r => pE args <| nE lent <| H_pyr_Indices n r
def H_pyr_Resolution (a b c d n r : Int) : Option (Bool × Out) := some (true, ⟨.agg [.int .i64 ((resR a b c d n r).1), .int .i64 ((resR a b c d n r).2.1), .int .i64 ((resR a b c d n r).2.2.1), .int .i64 ((resR a b c d n r).2.2.2)], [], []⟩)
def G_pyr_Resolution : Summ := fun args lent => pA args fun q' args => tC q' fun c' q' => kI c' fun a => tC q' fun c' q' => kI c' fun b => tC q' fun c' q' => kI c' fun c => tC q' fun c' q' => kI c' fun d => tE q' <| pO args fun c' args => kI c' fun n => pO args fun c' args => kI c' fun r => pE args <| nE lent <| H_pyr_Resolution a b c d n r
def H_ref06_Count (n : Int) : Option (Bool × Out) := some (true, ⟨.one (.int .i64 (count n)), [], []⟩)
def G_ref06_Count : Summ := fun args lent => pO args fun c' args => kI c' fun n => pE args <| nE lent <| H_ref06_Count n
def H_ref06_Place (i n : Int) : Option (Bool × Out) := some (true, ⟨.tup [(false, [.int .i64 (plLv i n)]), (false, [.int .i64 (plOr i n)]), (false, [.bool (plOk i n)])], [], []⟩)
def G_ref06_Place : Summ := fun args lent => pO args fun c' args => kI c' fun i => pO args fun c' args => kI c' fun n => pE args <| nE lent <| H_ref06_Place i n
def c_ref06_Resolution_0 (n m i a b c d e f g o : Int) : LT := .leaf (.exit 0) [.one (.ptr 0 0), .one (.ptr 1 0), .one (.int .i64 (pw (n - i)))] [some (.box [.int .i64 a, .int .i64 b, .int .i64 c, .int .i64 d]), some (.box [.int .i64 e, .int .i64 f, .int .i64 g, .int .i64 o])]
def k_ref06_Resolution_0 (n m i a b c d e f g o : Int) : Bool := decide (m = 1) && (inr 0 5 n && inr 0 n i)
def S_ref06_Resolution_0 : List V → List (Option Blk) → Option (Bool × LT) := fun vs bl => pO vs fun c' vs => kI c' fun n => pO vs fun c' vs => kP 0 0 c' <| pO vs fun c' vs => kP 1 0 c' <| pO vs fun c' vs => kI c' fun m => pO vs fun c' vs => kI c' fun i => pE vs <| bB bl fun q' bl => tC q' fun c' q' => kI c' fun a => tC q' fun c' q' => kI c' fun b => tC q' fun c' q' => kI c' fun c => tC q' fun c' q' => kI c' fun d => tE q' <| bB bl fun q' bl => tC q' fun c' q' => kI c' fun e => tC q' fun c' q' => kI c' fun f => tC q' fun c' q' => kI c' fun g => tC q' fun c' q' => kI c' fun o => tE q' <| bE bl <| some (k_ref06_Resolution_0 n m i a b c d e f g o, c_ref06_Resolution_0 n m i a b c d e f g o)
def H_ref06_Resolution (a b c d n r : Int) : Option (Bool × Out) := some (true, ⟨.agg [.int .i64 ((resR a b c d n r).1), .int .i64 ((resR a b c d n r).2.1), .int .i64 ((resR a b c d n r).2.2.1), .int .i64 ((resR a b c d n r).2.2.2)], [], []⟩)
def G_ref06_Resolution : Summ := fun args lent => pA args fun q' args => tC q' fun c' q' => kI c' fun a => tC q' fun c' q' => kI c' fun b => tC q' fun c' q' => kI c' fun c => tC q' fun c' q' => kI c' fun d => tE q' <| pO args fun c' args => kI c' fun n => pO args fun c' args => kI c' fun r => pE args <| nE lent <| H_ref06_Resolution a b c d n r
def H_dwt_Bands (a b c d : Int) : Option (Bool × Out) := some (true, ⟨.agg [.int .i64 ((bnd a b c d 0).1), .int .i64 ((bnd a b c d 0).2.1), .int .i64 ((bnd a b c d 0).2.2.1), .int .i64 ((bnd a b c d 0).2.2.2), .int .i64 ((bnd a b c d 1).1), .int .i64 ((bnd a b c d 1).2.1), .int .i64 ((bnd a b c d 1).2.2.1), .int .i64 ((bnd a b c d 1).2.2.2), .int .i64 ((bnd a b c d 2).1), .int .i64 ((bnd a b c d 2).2.1), .int .i64 ((bnd a b c d 2).2.2.1), .int .i64 ((bnd a b c d 2).2.2.2), .int .i64 ((bnd a b c d 3).1), .int .i64 ((bnd a b c d 3).2.1), .int .i64 ((bnd a b c d 3).2.2.1), .int .i64 ((bnd a b c d 3).2.2.2)], [], []⟩)
def G_dwt_Bands : Summ := fun args lent => pA args fun q' args => tC q' fun c' q' => kI c' fun a => tC q' fun c' q' => kI c' fun b => tC q' fun c' q' => kI c' fun c => tC q' fun c' q' => kI c' fun d => tE q' <| pE args <| nE lent <| H_dwt_Bands a b c d
def H_ref05_half (n : Int) (b : Bool) : Option (Bool × Out) := some (inr 0 4096 n, ⟨.one (.int .i64 (half n b)), [], []⟩)
def G_ref05_half : Summ := fun args lent => pO args fun c' args => kI c' fun n => pO args fun c' args => kB c' fun b => pE args <| nE lent <| H_ref05_half n b
def H_ref05_Bands (a b c d : Int) : Option (Bool × Out) := some (true, ⟨.agg [.int .i64 ((bnd a b c d 0).1), .int .i64 ((bnd a b c d 0).2.1), .int .i64 ((bnd a b c d 0).2.2.1), .int .i64 ((bnd a b c d 0).2.2.2), .int .i64 ((bnd a b c d 1).1), .int .i64 ((bnd a b c d 1).2.1), .int .i64 ((bnd a b c d 1).2.2.1), .int .i64 ((bnd a b c d 1).2.2.2), .int .i64 ((bnd a b c d 2).1), .int .i64 ((bnd a b c d 2).2.1), .int .i64 ((bnd a b c d 2).2.2.1), .int .i64 ((bnd a b c d 2).2.2.2), .int .i64 ((bnd a b c d 3).1), .int .i64 ((bnd a b c d 3).2.1), .int .i64 ((bnd a b c d 3).2.2.1), .int .i64 ((bnd a b c d 3).2.2.2)], [], []⟩)
def G_ref05_Bands : Summ := fun args lent => pA args fun q' args => tC q' fun c' q' => kI c' fun a => tC q' fun c' q' => kI c' fun b => tC q' fun c' q' => kI c' fun c => tC q' fun c' q' => kI c' fun d => tE q' <| pE args <| nE lent <| H_ref05_Bands a b c d
def H_pyr_Band (a b c d n i : Int) : Option (Bool × Out) := some (true, ⟨.agg [.int .i64 ((bandR a b c d n i).1), .int .i64 ((bandR a b c d n i).2.1), .int .i64 ((bandR a b c d n i).2.2.1), .int .i64 ((bandR a b c d n i).2.2.2)], [], []⟩)
def G_pyr_Band : Summ := fun args lent => pA args fun q' args => tC q' fun c' q' => kI c' fun a => tC q' fun c' q' => kI c' fun b => tC q' fun c' q' => kI c' fun c => tC q' fun c' q' => kI c' fun d => tE q' <| pO args fun c' args => kI c' fun n => pO args fun c' args => kI c' fun i => pE args <| nE lent <| H_pyr_Band a b c d n i
def H_ref06_Band (a b c d n i : Int) : Option (Bool × Out) := some (true, ⟨.agg [.int .i64 ((bandR a b c d n i).1), .int .i64 ((bandR a b c d n i).2.1), .int .i64 ((bandR a b c d n i).2.2.1), .int .i64 ((bandR a b c d n i).2.2.2)], [], []⟩)
def G_ref06_Band : Summ := fun args lent => pA args fun q' args => tC q' fun c' q' => kI c' fun a => tC q' fun c' q' => kI c' fun b => tC q' fun c' q' => kI c' fun c => tC q' fun c' q' => kI c' fun d => tE q' <| pO args fun c' args => kI c' fun n => pO args fun c' args => kI c' fun i => pE args <| nE lent <| H_ref06_Band a b c d n i
def H_params_cells (a b c d x y : Int) : Option (Bool × Out) := some ((inr 0 12 x && inr 0 12 y), ⟨.one (.int .i64 (cellsN a b c d x y)), [], []⟩)
def G_params_cells : Summ := fun args lent => pA args fun q' args => tC q' fun c' q' => kI c' fun a => tC q' fun c' q' => kI c' fun b => tC q' fun c' q' => kI c' fun c => tC q' fun c' q' => kI c' fun d => tE q' <| pO args fun c' args => kI c' fun x => pO args fun c' args => kI c' fun y => pE args <| nE lent <| H_params_cells a b c d x y
def H_ref23_Grid (a b c d x y : Int) : Option (Bool × Out) := some ((inr 0 12 x && inr 0 12 y), ⟨.one (.int .i64 (cellsN a b c d x y)), [], []⟩)
def G_ref23_Grid : Summ := fun args lent => pA args fun q' args => tC q' fun c' q' => kI c' fun a => tC q' fun c' q' => kI c' fun b => tC q' fun c' q' => kI c' fun c => tC q' fun c' q' => kI c' fun d => tE q' <| pO args fun c' args => kI c' fun x => pO args fun c' args => kI c' fun y => pE args <| nE lent <| H_ref23_Grid a b c d x y
end Go.Rx.Ch23

set_option linter.unusedVariables false
namespace Go.Rx.Ch23
open Go.Rx
def cellsOk (a b c d w h : Int) : Bool := valid a b c d && (decide (1 ≤ w) && decide (w ≤ 4096)) && (decide (1 ≤ h) && decide (h ≤ 4096))
def tileR (a b c d w h i j : Int) : Rc := inter a b c d (i * w) (j * h) ((i + 1) * w) ((j + 1) * h)
def rowL (a b c d w h j : Int) : Nat → Int → List Rc
  | 0, _ => []
  | n + 1, i => tileR a b c d w h i j :: rowL a b c d w h j n (i + 1)
def gridL (a b c d w h l : Int) (m : Nat) : Nat → Int → List Rc
  | 0, _ => []
  | n + 1, j => rowL a b c d w h j m l ++ gridL a b c d w h l m n (j + 1)
def tilesL (a b c d w h : Int) : List Rc := if !valid a b c d || empty a b c d || decide (w < 1) || decide (h < 1) then [] else if (cdiv c w - fdiv a w) * (cdiv d h - fdiv b h) > 65536 then [] else gridL a b c d w h (fdiv a w) (cdiv c w - fdiv a w).toNat (cdiv d h - fdiv b h).toNat (fdiv b h)
def c_rect_Cells_0 (a b c d w h l g u j : Int) (t : List Rc) : LT := .leaf (.exit 0) [.one (.row 0)] [some (.arr 23 (.pair (.int .i64) (.pair (.int .i64) (.pair (.int .i64) (.int .i64)))) (t ++ gridL a b c d w h l (g - l).toNat (u - j).toNat j))]
def k_rect_Cells_0 (a b c d w h l g u j : Int) (t : List Rc) : Bool := cellsOk a b c d w h && (decide (0 ≤ l) && decide (l ≤ g) && decide (g ≤ 4096)) && (decide (0 ≤ j) && decide (j ≤ u) && decide (u ≤ 4096)) && decide ((t.length : Int) + 4096 * (u - j) ≤ 68719476736)
def S_rect_Cells_0 : List V → List (Option Blk) → Option (Bool × LT) := fun vs bl => pO vs fun c' vs => kI c' fun w => pO vs fun c' vs => kI c' fun h => pO vs fun c' vs => kP 0 0 c' <| pO vs fun c' vs => kI c' fun l => pO vs fun c' vs => kI c' fun g => pO vs fun c' vs => kI c' fun u => pO vs fun c' vs => kR 1 c' <| pO vs fun c' vs => kI c' fun j => pE vs <| bB bl fun q' bl => tC q' fun c' q' => kI c' fun a => tC q' fun c' q' => kI c' fun b => tC q' fun c' q' => kI c' fun c => tC q' fun c' q' => kI c' fun d => tE q' <| bAR 23 bl fun t bl => bE bl <| some (k_rect_Cells_0 a b c d w h l g u j t, c_rect_Cells_0 a b c d w h l g u j t)
def c_rect_Cells_1 (a b c d w h l g u j i : Int) (t : List Rc) : LT := .leaf (.exit 2) [.one (.int .i64 w), .one (.int .i64 h), .one (.ptr 0 0), .one (.int .i64 l), .one (.int .i64 g), .one (.int .i64 u), .one (.row 1), .one (.int .i64 j)] [some (.box [.int .i64 a, .int .i64 b, .int .i64 c, .int .i64 d]), some (.arr 23 (.pair (.int .i64) (.pair (.int .i64) (.pair (.int .i64) (.int .i64)))) (t ++ rowL a b c d w h j (g - i).toNat i))]
def k_rect_Cells_1 (a b c d w h l g u j i : Int) (t : List Rc) : Bool := cellsOk a b c d w h && (decide (0 ≤ i) && decide (i ≤ g) && decide (g ≤ 4096)) && (decide (0 ≤ j) && decide (j ≤ 4096)) && decide ((t.length : Int) + (g - i) ≤ 68719476736)
def S_rect_Cells_1 : List V → List (Option Blk) → Option (Bool × LT) := fun vs bl => pO vs fun c' vs => kI c' fun w => pO vs fun c' vs => kI c' fun h => pO vs fun c' vs => kP 0 0 c' <| pO vs fun c' vs => kI c' fun l => pO vs fun c' vs => kI c' fun g => pO vs fun c' vs => kI c' fun u => pO vs fun c' vs => kR 1 c' <| pO vs fun c' vs => kI c' fun j => pO vs fun c' vs => kI c' fun i => pE vs <| bB bl fun q' bl => tC q' fun c' q' => kI c' fun a => tC q' fun c' q' => kI c' fun b => tC q' fun c' q' => kI c' fun c => tC q' fun c' q' => kI c' fun d => tE q' <| bAR 23 bl fun t bl => bE bl <| some (k_rect_Cells_1 a b c d w h l g u j i t, c_rect_Cells_1 a b c d w h l g u j i t)
def H_rect_Cells (a b c d w h : Int) : Option (Bool × Out) := some ((decide (w ≤ 4096) && decide (h ≤ 4096)), ⟨.one (.row 0), [], [.arr 23 (.pair (.int .i64) (.pair (.int .i64) (.pair (.int .i64) (.int .i64)))) (tilesL a b c d w h)]⟩)
def G_rect_Cells : Summ := fun args lent => pA args fun q' args => tC q' fun c' q' => kI c' fun a => tC q' fun c' q' => kI c' fun b => tC q' fun c' q' => kI c' fun c => tC q' fun c' q' => kI c' fun d => tE q' <| pO args fun c' args => kI c' fun w => pO args fun c' args => kI c' fun h => pE args <| nE lent <| H_rect_Cells a b c d w h
def c_ref01_Cells_0 (a b c d w h l g u j : Int) (t : List Rc) : LT := .leaf (.exit 0) [.one (.row 0)] [some (.arr 23 (.pair (.int .i64) (.pair (.int .i64) (.pair (.int .i64) (.int .i64)))) (t ++ gridL a b c d w h l (g - l).toNat (u - j).toNat j))]
def k_ref01_Cells_0 (a b c d w h l g u j : Int) (t : List Rc) : Bool := cellsOk a b c d w h && (decide (0 ≤ l) && decide (l ≤ g) && decide (g ≤ 4096)) && (decide (0 ≤ j) && decide (j ≤ u) && decide (u ≤ 4096)) && decide ((t.length : Int) + 4096 * (u - j) ≤ 68719476736)
def S_ref01_Cells_0 : List V → List (Option Blk) → Option (Bool × LT) := fun vs bl => pO vs fun c' vs => kI c' fun w => pO vs fun c' vs => kI c' fun h => pO vs fun c' vs => kP 0 0 c' <| pO vs fun c' vs => kI c' fun l => pO vs fun c' vs => kI c' fun g => pO vs fun c' vs => kI c' fun u => pO vs fun c' vs => kR 1 c' <| pO vs fun c' vs => kI c' fun j => pE vs <| bB bl fun q' bl => tC q' fun c' q' => kI c' fun a => tC q' fun c' q' => kI c' fun b => tC q' fun c' q' => kI c' fun c => tC q' fun c' q' => kI c' fun d => tE q' <| bAR 23 bl fun t bl => bE bl <| some (k_ref01_Cells_0 a b c d w h l g u j t, c_ref01_Cells_0 a b c d w h l g u j t)
def c_ref01_Cells_1 (a b c d w h l g u j i : Int) (t : List Rc) : LT := .leaf (.exit 2) [.one (.int .i64 w), .one (.int .i64 h), .one (.ptr 0 0), .one (.int .i64 l), .one (.int .i64 g), .one (.int .i64 u), .one (.row 1), .one (.int .i64 j)] [some (.box [.int .i64 a, .int .i64 b, .int .i64 c, .int .i64 d]), some (.arr 23 (.pair (.int .i64) (.pair (.int .i64) (.pair (.int .i64) (.int .i64)))) (t ++ rowL a b c d w h j (g - i).toNat i))]
def k_ref01_Cells_1 (a b c d w h l g u j i : Int) (t : List Rc) : Bool := cellsOk a b c d w h && (decide (0 ≤ i) && decide (i ≤ g) && decide (g ≤ 4096)) && (decide (0 ≤ j) && decide (j ≤ 4096)) && decide ((t.length : Int) + (g - i) ≤ 68719476736)
def S_ref01_Cells_1 : List V → List (Option Blk) → Option (Bool × LT) := fun vs bl => pO vs fun c' vs => kI c' fun w => pO vs fun c' vs => kI c' fun h => pO vs fun c' vs => kP 0 0 c' <| pO vs fun c' vs => kI c' fun l => pO vs fun c' vs => kI c' fun g => pO vs fun c' vs => kI c' fun u => pO vs fun c' vs => kR 1 c' <| pO vs fun c' vs => kI c' fun j => pO vs fun c' vs => kI c' fun i => pE vs <| bB bl fun q' bl => tC q' fun c' q' => kI c' fun a => tC q' fun c' q' => kI c' fun b => tC q' fun c' q' => kI c' fun c => tC q' fun c' q' => kI c' fun d => tE q' <| bAR 23 bl fun t bl => bE bl <| some (k_ref01_Cells_1 a b c d w h l g u j i t, c_ref01_Cells_1 a b c d w h l g u j i t)
def H_ref01_Cells (a b c d w h : Int) : Option (Bool × Out) := some ((decide (w ≤ 4096) && decide (h ≤ 4096)), ⟨.one (.row 0), [], [.arr 23 (.pair (.int .i64) (.pair (.int .i64) (.pair (.int .i64) (.int .i64)))) (tilesL a b c d w h)]⟩)
def G_ref01_Cells : Summ := fun args lent => pA args fun q' args => tC q' fun c' q' => kI c' fun a => tC q' fun c' q' => kI c' fun b => tC q' fun c' q' => kI c' fun c => tC q' fun c' q' => kI c' fun d => tE q' <| pO args fun c' args => kI c' fun w => pO args fun c' args => kI c' fun h => pE args <| nE lent <| H_ref01_Cells a b c d w h
end Go.Rx.Ch23

set_option linter.unusedVariables false
namespace Go.Rx.Ch23
open Go.Rx
def validR (r : Rc) : Bool := valid r.1 r.2.1 r.2.2.1 r.2.2.2
def cellsR (r : Rc) (x y : Int) : Int := cellsN r.1 r.2.1 r.2.2.1 r.2.2.2 x y
def bX (p : Pm) (res : Int) : Int := min p.bx ((prec p res).1 - (if res > 0 then 1 else 0))
def bY (p : Pm) (res : Int) : Int := min p.bw ((prec p res).2 - (if res > 0 then 1 else 0))
def bandC (r : Rc) (p : Pm) (res k : Int) : Int := cellsR (bandR r.1 r.2.1 r.2.2.1 r.2.2.2 p.le k) (bX p res) (bY p res)
def resOK (r : Rc) (p : Pm) (res : Int) : Bool := (idxs p.le res).all fun k => decide (bandC r p res k ≤ 65536)
def resN (r : Rc) (p : Pm) (res : Int) : Int := cellsR (resR r.1 r.2.1 r.2.2.1 r.2.2.2 p.le res) (prec p res).1 (prec p res).2
def sumN (r : Rc) (p : Pm) : Nat → Int
  | 0 => 0
  | k + 1 => sumN r p k + resN r p k
def compOK (r : Rc) (p : Pm) : Bool := (List.range (p.le + 1).toNat).all fun k => resOK r p k
def compN (r : Rc) (p : Pm) : Int := sumN r p (p.le + 1).toNat
def redT (t : Rc) (c : Int × Bool × Int × Int) : Rc := reduce t.1 t.2.1 t.2.2.1 t.2.2.2 c.2.2.1 c.2.2.2
def totN (t : Rc) (p : Pm) (l : List (Int × Bool × Int × Int)) : Nat → Int
  | 0 => 0
  | k + 1 => totN t p l k + compN (redT t (gC l k)) p
def compsOK (t : Rc) (p : Pm) (l : List (Int × Bool × Int × Int)) : Bool := (List.range l.length).all fun k => compOK (redT t (gC l k)) p
def packs (t : Rc) (p : Pm) (l : List (Int × Bool × Int × Int)) : Int := p.la * totN t p l l.length
def fits (t : Rc) (p : Pm) (l : List (Int × Bool × Int × Int)) : Bool := compsOK t p l && decide (packs t p l ≤ 65536)
def maxF (f : Nat → Int) : Nat → Int → Int
  | 0, s => s
  | k + 1, s => max (maxF f k s) (f k)
def bandB (r : Rc) (p : Pm) (k : Nat) : Int := bandC r p (((k : Int) + 2) / 3) k
def compB (r : Rc) (p : Pm) (s : Int) : Int := maxF (bandB r p) (3 * p.le + 1).toNat s
def blksN (t : Rc) (p : Pm) (l : List (Int × Bool × Int × Int)) : Nat → Int
  | 0 => 0
  | k + 1 => compB (redT t (gC l k)) p (blksN t p l k)
def blks (t : Rc) (p : Pm) (l : List (Int × Bool × Int × Int)) : Int := blksN t p l l.length
def c_tileFits_0 (p : Pm) (l : List (Int × Bool × Int × Int)) (a b c d s n i : Int) : LT := .br (compsOK (a, b, c, d) p l) (.leaf (.exit 0) [.one (.int .i64 (packs (a, b, c, d) p l))] []) (.leaf .ret [.one (.bool false)] [])
def k_tileFits_0 (p : Pm) (l : List (Int × Bool × Int × Int)) (a b c d s n i : Int) : Bool := nums p && valid a b c d && decide (s = 0) && decide (i = 0) && decide (n = (l.length : Int)) && decide (l.length ≤ 4)
def S_tileFits_0 : List V → List (Option Blk) → Option (Bool × LT) := fun vs bl => pO vs fun c' vs => kP 0 0 c' <| pO vs fun c' vs => kP 1 0 c' <| pO vs fun c' vs => kI c' fun s => pO vs fun c' vs => kLC c' fun l => pO vs fun c' vs => kI c' fun n => pO vs fun c' vs => kI c' fun i => pE vs <| bB bl fun q' bl => rdPm q' fun p => bB bl fun q' bl => tC q' fun c' q' => kI c' fun a => tC q' fun c' q' => kI c' fun b => tC q' fun c' q' => kI c' fun c => tC q' fun c' q' => kI c' fun d => tE q' <| bE bl <| some (k_tileFits_0 p l a b c d s n i, c_tileFits_0 p l a b c d s n i)
def c_tileFits_1 (p : Pm) (l : List (Int × Bool × Int × Int)) (a b c d e f g o s n i res : Int) : LT := .br (compOK (e, f, g, o) p) (.leaf (.exit 2) [.one (.ptr 0 0), .one (.ptr 1 0), .one (.int .i64 (s + p.la * compN (e, f, g, o) p)), .one (.lst (.pair (.int .i64) (.pair .bool (.pair (.int .i64) (.int .i64)))) l), .one (.int .i64 n), .one (.int .i64 i)] [some (.box (pmC p)), some (.box [.int .i64 a, .int .i64 b, .int .i64 c, .int .i64 d])]) (.leaf .ret [.one (.bool false)] [])
def k_tileFits_1 (p : Pm) (l : List (Int × Bool × Int × Int)) (a b c d e f g o s n i res : Int) : Bool := nums p && valid e f g o && (decide (0 ≤ s) && decide (s ≤ 1099511627776)) && decide (res = 0)
def S_tileFits_1 : List V → List (Option Blk) → Option (Bool × LT) := fun vs bl => pO vs fun c' vs => kP 0 0 c' <| pO vs fun c' vs => kP 1 0 c' <| pO vs fun c' vs => kI c' fun s => pO vs fun c' vs => kP 2 0 c' <| pO vs fun c' vs => kI c' fun res => pO vs fun c' vs => kLC c' fun l => pO vs fun c' vs => kI c' fun n => pO vs fun c' vs => kI c' fun i => pE vs <| bB bl fun q' bl => rdPm q' fun p => bB bl fun q' bl => tC q' fun c' q' => kI c' fun a => tC q' fun c' q' => kI c' fun b => tC q' fun c' q' => kI c' fun c => tC q' fun c' q' => kI c' fun d => tE q' <| bB bl fun q' bl => tC q' fun c' q' => kI c' fun e => tC q' fun c' q' => kI c' fun f => tC q' fun c' q' => kI c' fun g => tC q' fun c' q' => kI c' fun o => tE q' <| bE bl <| some (k_tileFits_1 p l a b c d e f g o s n i res, c_tileFits_1 p l a b c d e f g o s n i res)
def p_tileFits_2 (p : Pm) (l : List (Int × Bool × Int × Int)) (t : List Int) (a b c d e f g o x y s m u res : Int) : Bool := t.all (fun k => decide (cellsR (bandR e f g o p.le k) (min p.bx x) (min p.bw y) ≤ 65536))
def c_tileFits_2 (p : Pm) (l : List (Int × Bool × Int × Int)) (t : List Int) (a b c d e f g o x y s m u res : Int) : LT := .br (p_tileFits_2 p l t a b c d e f g o x y s m u res) (.leaf (.exit 4) [.one (.ptr 0 0), .one (.ptr 1 0), .one (.int .i64 s), .one (.ptr 2 0), .one (.int .i64 res), .one (.lst (.pair (.int .i64) (.pair .bool (.pair (.int .i64) (.int .i64)))) l), .one (.int .i64 m), .one (.int .i64 u)] [some (.box (pmC p)), some (.box [.int .i64 a, .int .i64 b, .int .i64 c, .int .i64 d]), some (.box [.int .i64 e, .int .i64 f, .int .i64 g, .int .i64 o])]) (.leaf .ret [.one (.bool false)] [])
def k_tileFits_2 (p : Pm) (l : List (Int × Bool × Int × Int)) (t : List Int) (a b c d e f g o x y s m u res : Int) (n i : Int) : Bool := decide (i = 0) && decide (n = (t.length : Int)) && small (t.length) && inr 0 12 (min p.bx x) && inr 0 12 (min p.bw y)
def S_tileFits_2 : List V → List (Option Blk) → Option (Bool × LT) := fun vs bl => pO vs fun c' vs => kP 0 0 c' <| pO vs fun c' vs => kP 1 0 c' <| pO vs fun c' vs => kI c' fun s => pO vs fun c' vs => kP 2 0 c' <| pO vs fun c' vs => kI c' fun res => pO vs fun c' vs => kP 3 0 c' <| pO vs fun c' vs => kLC c' fun l => pO vs fun c' vs => kI c' fun m => pO vs fun c' vs => kI c' fun u => pO vs fun c' vs => kR 4 c' <| pO vs fun c' vs => kI c' fun n => pO vs fun c' vs => kI c' fun i => pE vs <| bB bl fun q' bl => rdPm q' fun p => bB bl fun q' bl => tC q' fun c' q' => kI c' fun a => tC q' fun c' q' => kI c' fun b => tC q' fun c' q' => kI c' fun c => tC q' fun c' q' => kI c' fun d => tE q' <| bB bl fun q' bl => tC q' fun c' q' => kI c' fun e => tC q' fun c' q' => kI c' fun f => tC q' fun c' q' => kI c' fun g => tC q' fun c' q' => kI c' fun o => tE q' <| bB bl fun q' bl => tC q' fun c' q' => kI c' fun x => tC q' fun c' q' => kI c' fun y => tE q' <| bAI 3 bl fun t bl => bE bl <| some (k_tileFits_2 p l t a b c d e f g o x y s m u res n i, c_tileFits_2 p l t a b c d e f g o x y s m u res)
def H_tileFits (h : Hd) (p : Pm) (a b c d : Int) : Option (Bool × Out) := some ((nums p && valid a b c d && small h.cs.length && decide (h.cs.length ≤ 4)), ⟨.one (.bool (fits (a, b, c, d) p h.cs)), [], []⟩)
def G_tileFits : Summ := fun args lent => pA args fun q' args => rdHd q' fun h => pA args fun q' args => rdPm q' fun p => pA args fun q' args => tC q' fun c' q' => kI c' fun a => tC q' fun c' q' => kI c' fun b => tC q' fun c' q' => kI c' fun c => tC q' fun c' q' => kI c' fun d => tE q' <| pE args <| nE lent <| H_tileFits h p a b c d
def c_ref23_Packets_0 (h : Hd) (p : Pm) (a b c d s i : Int) : LT := .leaf (.exit 0) [.one (.ptr 0 0), .one (.int .i64 (totN (a, b, c, d) p h.cs h.cs.length))] [some (.box (pmC p))]
def k_ref23_Packets_0 (h : Hd) (p : Pm) (a b c d s i : Int) : Bool := nums p && valid a b c d && decide (s = 0) && decide (i = 0) && decide (h.cs.length ≤ 4)
def S_ref23_Packets_0 : List V → List (Option Blk) → Option (Bool × LT) := fun vs bl => pO vs fun c' vs => kP 0 0 c' <| pO vs fun c' vs => kP 1 0 c' <| pO vs fun c' vs => kP 2 0 c' <| pO vs fun c' vs => kI c' fun s => pO vs fun c' vs => kI c' fun i => pE vs <| bB bl fun q' bl => rdHd q' fun h => bB bl fun q' bl => rdPm q' fun p => bB bl fun q' bl => tC q' fun c' q' => kI c' fun a => tC q' fun c' q' => kI c' fun b => tC q' fun c' q' => kI c' fun c => tC q' fun c' q' => kI c' fun d => tE q' <| bE bl <| some (k_ref23_Packets_0 h p a b c d s i, c_ref23_Packets_0 h p a b c d s i)
def c_ref23_Packets_1 (h : Hd) (p : Pm) (a b c d e f g o s i res : Int) : LT := .leaf (.exit 2) [.one (.ptr 0 0), .one (.ptr 1 0), .one (.ptr 2 0), .one (.int .i64 (s + compN (e, f, g, o) p)), .one (.int .i64 i)] [some (.box (hdC h)), some (.box (pmC p)), some (.box [.int .i64 a, .int .i64 b, .int .i64 c, .int .i64 d])]
def k_ref23_Packets_1 (h : Hd) (p : Pm) (a b c d e f g o s i res : Int) : Bool := nums p && valid e f g o && (decide (0 ≤ s) && decide (s ≤ 1099511627776)) && decide (res = 0)
def S_ref23_Packets_1 : List V → List (Option Blk) → Option (Bool × LT) := fun vs bl => pO vs fun c' vs => kP 0 0 c' <| pO vs fun c' vs => kP 1 0 c' <| pO vs fun c' vs => kP 2 0 c' <| pO vs fun c' vs => kI c' fun s => pO vs fun c' vs => kI c' fun i => pO vs fun c' vs => kP 3 0 c' <| pO vs fun c' vs => kI c' fun res => pE vs <| bB bl fun q' bl => rdHd q' fun h => bB bl fun q' bl => rdPm q' fun p => bB bl fun q' bl => tC q' fun c' q' => kI c' fun a => tC q' fun c' q' => kI c' fun b => tC q' fun c' q' => kI c' fun c => tC q' fun c' q' => kI c' fun d => tE q' <| bB bl fun q' bl => tC q' fun c' q' => kI c' fun e => tC q' fun c' q' => kI c' fun f => tC q' fun c' q' => kI c' fun g => tC q' fun c' q' => kI c' fun o => tE q' <| bE bl <| some (k_ref23_Packets_1 h p a b c d e f g o s i res, c_ref23_Packets_1 h p a b c d e f g o s i res)
def H_ref23_Packets (h : Hd) (p : Pm) (a b c d : Int) : Option (Bool × Out) := some ((nums p && valid a b c d && decide (h.cs.length ≤ 4)), ⟨.one (.int .i64 (packs (a, b, c, d) p h.cs)), [], []⟩)
def G_ref23_Packets : Summ := fun args lent => pA args fun q' args => rdHd q' fun h => pA args fun q' args => rdPm q' fun p => pA args fun q' args => tC q' fun c' q' => kI c' fun a => tC q' fun c' q' => kI c' fun b => tC q' fun c' q' => kI c' fun c => tC q' fun c' q' => kI c' fun d => tE q' <| pE args <| nE lent <| H_ref23_Packets h p a b c d
def c_ref23_Blocks_0 (h : Hd) (p : Pm) (a b c d s i : Int) : LT := .leaf (.exit 0) [.one (.int .i64 (blks (a, b, c, d) p h.cs))] []
def k_ref23_Blocks_0 (h : Hd) (p : Pm) (a b c d s i : Int) : Bool := nums p && valid a b c d && decide (s = 0) && decide (i = 0) && decide (h.cs.length ≤ 4)
def S_ref23_Blocks_0 : List V → List (Option Blk) → Option (Bool × LT) := fun vs bl => pO vs fun c' vs => kP 0 0 c' <| pO vs fun c' vs => kP 1 0 c' <| pO vs fun c' vs => kP 2 0 c' <| pO vs fun c' vs => kI c' fun s => pO vs fun c' vs => kI c' fun i => pE vs <| bB bl fun q' bl => rdHd q' fun h => bB bl fun q' bl => rdPm q' fun p => bB bl fun q' bl => tC q' fun c' q' => kI c' fun a => tC q' fun c' q' => kI c' fun b => tC q' fun c' q' => kI c' fun c => tC q' fun c' q' => kI c' fun d => tE q' <| bE bl <| some (k_ref23_Blocks_0 h p a b c d s i, c_ref23_Blocks_0 h p a b c d s i)
def c_ref23_Blocks_1 (h : Hd) (p : Pm) (a b c d e f g o s i q : Int) : LT := .leaf (.exit 2) [.one (.ptr 0 0), .one (.ptr 1 0), .one (.ptr 2 0), .one (.int .i64 (compB (e, f, g, o) p s)), .one (.int .i64 i)] [some (.box (hdC h)), some (.box (pmC p)), some (.box [.int .i64 a, .int .i64 b, .int .i64 c, .int .i64 d])]
def k_ref23_Blocks_1 (h : Hd) (p : Pm) (a b c d e f g o s i q : Int) : Bool := nums p && valid e f g o && decide (q = 0)
def S_ref23_Blocks_1 : List V → List (Option Blk) → Option (Bool × LT) := fun vs bl => pO vs fun c' vs => kP 0 0 c' <| pO vs fun c' vs => kP 1 0 c' <| pO vs fun c' vs => kP 2 0 c' <| pO vs fun c' vs => kI c' fun s => pO vs fun c' vs => kI c' fun i => pO vs fun c' vs => kP 3 0 c' <| pO vs fun c' vs => kI c' fun q => pE vs <| bB bl fun q' bl => rdHd q' fun h => bB bl fun q' bl => rdPm q' fun p => bB bl fun q' bl => tC q' fun c' q' => kI c' fun a => tC q' fun c' q' => kI c' fun b => tC q' fun c' q' => kI c' fun c => tC q' fun c' q' => kI c' fun d => tE q' <| bB bl fun q' bl => tC q' fun c' q' => kI c' fun e => tC q' fun c' q' => kI c' fun f => tC q' fun c' q' => kI c' fun g => tC q' fun c' q' => kI c' fun o => tE q' <| bE bl <| some (k_ref23_Blocks_1 h p a b c d e f g o s i q, c_ref23_Blocks_1 h p a b c d e f g o s i q)
def H_ref23_Blocks (h : Hd) (p : Pm) (a b c d : Int) : Option (Bool × Out) := some ((nums p && valid a b c d && decide (h.cs.length ≤ 4)), ⟨.one (.int .i64 (blks (a, b, c, d) p h.cs)), [], []⟩)
def G_ref23_Blocks : Summ := fun args lent => pA args fun q' args => rdHd q' fun h => pA args fun q' args => rdPm q' fun p => pA args fun q' args => tC q' fun c' q' => kI c' fun a => tC q' fun c' q' => kI c' fun b => tC q' fun c' q' => kI c' fun c => tC q' fun c' q' => kI c' fun d => tE q' <| pE args <| nE lent <| H_ref23_Blocks h p a b c d
end Go.Rx.Ch23

set_option linter.unusedVariables false
namespace Go.Rx.Ch23
open Go.Rx
def checkA (h : Hd) (p : Pm) : Int := if header h ≠ 0 then header h else if !kinds p then 3 else if !(nums p && colors h p) then 13 else if (tilesL h.a h.b h.c h.d h.tw h.th).all (fun r => fits r p h.cs) then 0 else 5
def fitsB (r : Rc) (p : Pm) (l : List (Int × Bool × Int × Int)) : Bool := decide (packs r p l ≤ 65536) && decide (blks r p l ≤ 65536)
def checkB (h : Hd) (p : Pm) : Int := if header h ≠ 0 then header h else if !kinds p then 3 else if !nums p then 13 else if !colors h p then 13 else if (tilesL h.a h.b h.c h.d h.tw h.th).all (fun r => fitsB r p h.cs) then 0 else 5
def p_params_Check_0 (h : Hd) (p : Pm) (t : List Rc) : Bool := t.all (fun r => fits r p h.cs)
def c_params_Check_0 (h : Hd) (p : Pm) (t : List Rc) : LT := .br (p_params_Check_0 h p t) (.leaf (.exit 0) [] []) (.leaf .ret [.one (.int .i64 5)] [])
def k_params_Check_0 (h : Hd) (p : Pm) (t : List Rc) (n i : Int) : Bool := decide (i = 0) && decide (n = (t.length : Int)) && small (t.length) && nums p && t.all validR && decide (h.cs.length ≤ 4)
def S_params_Check_0 : List V → List (Option Blk) → Option (Bool × LT) := fun vs bl => pO vs fun c' vs => kP 0 0 c' <| pO vs fun c' vs => kP 1 0 c' <| pO vs fun c' vs => kR 2 c' <| pO vs fun c' vs => kI c' fun n => pO vs fun c' vs => kI c' fun i => pE vs <| bB bl fun q' bl => rdHd q' fun h => bB bl fun q' bl => rdPm q' fun p => bAR 23 bl fun t bl => bE bl <| some (k_params_Check_0 h p t n i, c_params_Check_0 h p t)
def H_params_Check (h : Hd) (p : Pm) : Option (Bool × Out) := some ((small h.cs.length && (small p.pr.length && small p.st.length)), ⟨.one (.int .i64 (checkA h p)), [], []⟩)
def G_params_Check : Summ := fun args lent => pA args fun q' args => rdHd q' fun h => pA args fun q' args => rdPm q' fun p => pE args <| nE lent <| H_params_Check h p
def p_ref23_Check_0 (h : Hd) (p : Pm) (t : List Rc) : Bool := (List.range t.length).all (fun j => fitsB (gR t j) p h.cs)
def c_ref23_Check_0 (h : Hd) (p : Pm) (t : List Rc) : LT := .br (p_ref23_Check_0 h p t) (.leaf (.exit 0) [] []) (.leaf .ret [.one (.int .i64 5)] [])
def k_ref23_Check_0 (h : Hd) (p : Pm) (t : List Rc) (i : Int) : Bool := decide (i = 0) && small (t.length) && nums p && t.all validR && decide (h.cs.length ≤ 4)
def S_ref23_Check_0 : List V → List (Option Blk) → Option (Bool × LT) := fun vs bl => pO vs fun c' vs => kP 0 0 c' <| pO vs fun c' vs => kP 1 0 c' <| pO vs fun c' vs => kR 2 c' <| pO vs fun c' vs => kI c' fun i => pE vs <| bB bl fun q' bl => rdHd q' fun h => bB bl fun q' bl => rdPm q' fun p => bAR 23 bl fun t bl => bE bl <| some (k_ref23_Check_0 h p t i, c_ref23_Check_0 h p t)
def H_ref23_Check (h : Hd) (p : Pm) : Option (Bool × Out) := some ((small h.cs.length && (small p.pr.length && small p.st.length)), ⟨.one (.int .i64 (checkB h p)), [], []⟩)
def G_ref23_Check : Summ := fun args lent => pA args fun q' args => rdHd q' fun h => pA args fun q' args => rdPm q' fun p => pE args <| nE lent <| H_ref23_Check h p
end Go.Rx.Ch23

set_option linter.unusedVariables false
namespace Go.Rx.Ch23
open Go.Rx
def rdHd' {α : Type} (q : List C) (K : Hd → List C → Option α) : Option α := tC q fun c' q => kI c' fun a => tC q fun c' q => kI c' fun b => tC q fun c' q => kI c' fun c => tC q fun c' q => kI c' fun d => tC q fun c' q => kI c' fun tw => tC q fun c' q => kI c' fun th => tC q fun c' q => kLC c' fun cs => K ⟨a, b, c, d, tw, th, cs⟩ q
theorem rdHd'_s {α : Type} {q : List C} {K : Hd → List C → Option α} {r : α} (y0 : rdHd' q K = some r) : ∃ x t, q = hdC x ++ t ∧ K x t = some r := by
  unfold rdHd' at y0
  obtain ⟨c', q', rfl, y1⟩ := tC_s y0
  obtain ⟨a, rfl, y2⟩ := kI_s y1
  obtain ⟨c', q', rfl, y3⟩ := tC_s y2
  obtain ⟨b, rfl, y4⟩ := kI_s y3
  obtain ⟨c', q', rfl, y5⟩ := tC_s y4
  obtain ⟨c, rfl, y6⟩ := kI_s y5
  obtain ⟨c', q', rfl, y7⟩ := tC_s y6
  obtain ⟨d, rfl, y8⟩ := kI_s y7
  obtain ⟨c', q', rfl, y9⟩ := tC_s y8
  obtain ⟨tw, rfl, y10⟩ := kI_s y9
  obtain ⟨c', q', rfl, y11⟩ := tC_s y10
  obtain ⟨th, rfl, y12⟩ := kI_s y11
  obtain ⟨c', q', rfl, y13⟩ := tC_s y12
  obtain ⟨cs, rfl, y14⟩ := kLC_s y13
  exact ⟨_, _, rfl, y14⟩
def rdPm' {α : Type} (q : List C) (K : Pm → List C → Option α) : Option α := tC q fun c' q => kI c' fun ke => tC q fun c' q => kI c' fun le => tC q fun c' q => kI c' fun co => tC q fun c' q => kI c' fun bx => tC q fun c' q => kI c' fun bw => tC q fun c' q => kLP c' fun pr => tC q fun c' q => kI c' fun od => tC q fun c' q => kI c' fun la => tC q fun c' q => kB c' fun m1 => tC q fun c' q => kB c' fun m2 => tC q fun c' q => kB c' fun m3 => tC q fun c' q => kB c' fun m4 => tC q fun c' q => kB c' fun m5 => tC q fun c' q => kB c' fun dv => tC q fun c' q => kB c' fun sy => tC q fun c' q => kB c' fun fe => tC q fun c' q => kLI c' fun st => tC q fun c' q => kI c' fun de => tC q fun c' q => kI c' fun sf => K ⟨ke, le, co, bx, bw, pr, od, la, m1, m2, m3, m4, m5, dv, sy, fe, st, de, sf⟩ q
theorem rdPm'_s {α : Type} {q : List C} {K : Pm → List C → Option α} {r : α} (y0 : rdPm' q K = some r) : ∃ x t, q = pmC x ++ t ∧ K x t = some r := by
  unfold rdPm' at y0
  obtain ⟨c', q', rfl, y1⟩ := tC_s y0
  obtain ⟨ke, rfl, y2⟩ := kI_s y1
  obtain ⟨c', q', rfl, y3⟩ := tC_s y2
  obtain ⟨le, rfl, y4⟩ := kI_s y3
  obtain ⟨c', q', rfl, y5⟩ := tC_s y4
  obtain ⟨co, rfl, y6⟩ := kI_s y5
  obtain ⟨c', q', rfl, y7⟩ := tC_s y6
  obtain ⟨bx, rfl, y8⟩ := kI_s y7
  obtain ⟨c', q', rfl, y9⟩ := tC_s y8
  obtain ⟨bw, rfl, y10⟩ := kI_s y9
  obtain ⟨c', q', rfl, y11⟩ := tC_s y10
  obtain ⟨pr, rfl, y12⟩ := kLP_s y11
  obtain ⟨c', q', rfl, y13⟩ := tC_s y12
  obtain ⟨od, rfl, y14⟩ := kI_s y13
  obtain ⟨c', q', rfl, y15⟩ := tC_s y14
  obtain ⟨la, rfl, y16⟩ := kI_s y15
  obtain ⟨c', q', rfl, y17⟩ := tC_s y16
  obtain ⟨m1, rfl, y18⟩ := kB_s y17
  obtain ⟨c', q', rfl, y19⟩ := tC_s y18
  obtain ⟨m2, rfl, y20⟩ := kB_s y19
  obtain ⟨c', q', rfl, y21⟩ := tC_s y20
  obtain ⟨m3, rfl, y22⟩ := kB_s y21
  obtain ⟨c', q', rfl, y23⟩ := tC_s y22
  obtain ⟨m4, rfl, y24⟩ := kB_s y23
  obtain ⟨c', q', rfl, y25⟩ := tC_s y24
  obtain ⟨m5, rfl, y26⟩ := kB_s y25
  obtain ⟨c', q', rfl, y27⟩ := tC_s y26
  obtain ⟨dv, rfl, y28⟩ := kB_s y27
  obtain ⟨c', q', rfl, y29⟩ := tC_s y28
  obtain ⟨sy, rfl, y30⟩ := kB_s y29
  obtain ⟨c', q', rfl, y31⟩ := tC_s y30
  obtain ⟨fe, rfl, y32⟩ := kB_s y31
  obtain ⟨c', q', rfl, y33⟩ := tC_s y32
  obtain ⟨st, rfl, y34⟩ := kLI_s y33
  obtain ⟨c', q', rfl, y35⟩ := tC_s y34
  obtain ⟨de, rfl, y36⟩ := kI_s y35
  obtain ⟨c', q', rfl, y37⟩ := tC_s y36
  obtain ⟨sf, rfl, y38⟩ := kI_s y37
  exact ⟨_, _, rfl, y38⟩

def H_awake  : Option (Bool × Out) := some (true, ⟨.one (.bool true), [], []⟩)
def G_awake : Summ := fun args lent => pE args <| nE lent <| H_awake 
def ok_ParamsHeaders (h : Hd) : Bool := true
def H_ParamsHeaders (h : Hd) : Option (Bool × Out) := some (ok_ParamsHeaders h, ⟨.one (.bool true), [], []⟩)
def G_ParamsHeaders : Summ := fun args lent => pA args fun q' args => rdHd q' fun h => pE args <| nE lent <| H_ParamsHeaders h
def ok_ParamsChecks (h : Hd) (p : Pm) : Bool := true
def H_ParamsChecks (h : Hd) (p : Pm) : Option (Bool × Out) := some (ok_ParamsChecks h p, ⟨.one (.bool true), [], []⟩)
def G_ParamsChecks : Summ := fun args lent => pA args fun q' args => rdHd q' fun h => pA args fun q' args => rdPm q' fun p => pE args <| nE lent <| H_ParamsChecks h p
def ok_ParamsNumbers (p : Pm) (r b : Int) : Bool := true
def H_ParamsNumbers (p : Pm) (r b : Int) : Option (Bool × Out) := some (ok_ParamsNumbers p r b, ⟨.one (.bool true), [], []⟩)
def G_ParamsNumbers : Summ := fun args lent => pA args fun q' args => rdPm q' fun p => pO args fun c' args => kI c' fun r => pO args fun c' args => kI c' fun b => pE args <| nE lent <| H_ParamsNumbers p r b
def ok_ParamsCompares (h1 h2 : Hd) (p1 p2 : Pm) : Bool := true
def H_ParamsCompares (h1 h2 : Hd) (p1 p2 : Pm) : Option (Bool × Out) := some (ok_ParamsCompares h1 h2 p1 p2, ⟨.one (.bool true), [], []⟩)
def G_ParamsCompares : Summ := fun args lent => pA args fun q' args => rdHd' q' fun h1 q' => rdHd' q' fun h2 q' => rdPm' q' fun p1 q' => rdPm q' fun p2 => pE args <| nE lent <| H_ParamsCompares h1 h2 p1 p2
end Go.Rx.Ch23

set_option linter.unusedVariables false
namespace Go.Rx.Ch23
open Go.Rx
def H_clI (l : List Int) : Option (Bool × Out) := some (decide (l.length ≤ 1000000), ⟨.one (.row 0), [], [.arr 3 (.int .i64) l]⟩)
def G_clI : Summ := fun args lent => pO args fun c' args => kLI c' fun l => pE args <| nE lent <| H_clI l
def H_clP (l : List (Int × Int)) : Option (Bool × Out) := some (decide (l.length ≤ 1000000), ⟨.one (.row 0), [], [.arr 43 (.pair (.int .i64) (.int .i64)) l]⟩)
def G_clP : Summ := fun args lent => pO args fun c' args => kLP c' fun l => pE args <| nE lent <| H_clP l
def H_clC (l : List (Int × Bool × Int × Int)) : Option (Bool × Out) := some (decide (l.length ≤ 1000000), ⟨.one (.row 0), [], [.arr 54 (.pair (.int .i64) (.pair .bool (.pair (.int .i64) (.int .i64)))) l]⟩)
def G_clC : Summ := fun args lent => pO args fun c' args => kLC c' fun l => pE args <| nE lent <| H_clC l
def H_params_Clone (h : Hd) (p : Pm) : Option (Bool × Out) := some ((decide (h.cs.length ≤ 1000000) && decide (p.pr.length ≤ 1000000) && decide (p.st.length ≤ 1000000)), ⟨.tup [(true, [.int .i64 h.a, .int .i64 h.b, .int .i64 h.c, .int .i64 h.d, .int .i64 h.tw, .int .i64 h.th, .row 0]), (true, [.int .i64 p.ke, .int .i64 p.le, .int .i64 p.co, .int .i64 p.bx, .int .i64 p.bw, .row 1, .int .i64 p.od, .int .i64 p.la, .bool p.m1, .bool p.m2, .bool p.m3, .bool p.m4, .bool p.m5, .bool p.dv, .bool p.sy, .bool p.fe, .row 2, .int .i64 p.de, .int .i64 p.sf])], [], [.arr 54 (.pair (.int .i64) (.pair .bool (.pair (.int .i64) (.int .i64)))) h.cs, .arr 43 (.pair (.int .i64) (.int .i64)) p.pr, .arr 3 (.int .i64) p.st]⟩)
def G_params_Clone : Summ := fun args lent => pA args fun q' args => rdHd q' fun h => pA args fun q' args => rdPm q' fun p => pE args <| nE lent <| H_params_Clone h p
end Go.Rx.Ch23

set_option linter.unusedVariables false
namespace Go.Rx.Ch23
open Go.Rx
def rdHR {α : Type} (r0 : Nat) (q : List C) (K : Int → Int → Int → Int → Int → Int → Option α) : Option α := tC q fun c' q => kI c' fun a => tC q fun c' q => kI c' fun b => tC q fun c' q => kI c' fun c => tC q fun c' q => kI c' fun d => tC q fun c' q => kI c' fun tw => tC q fun c' q => kI c' fun th => tC q fun c' q => kR r0 c' <| tE q <| K a b c d tw th
theorem rdHR_s {α : Type} {r0 : Nat} {q : List C} {K : Int → Int → Int → Int → Int → Int → Option α} {r : α} (y0 : rdHR r0 q K = some r) : ∃ a b c d tw th, q = [.int .i64 a, .int .i64 b, .int .i64 c, .int .i64 d, .int .i64 tw, .int .i64 th, .row r0] ∧ K a b c d tw th = some r := by
  unfold rdHR at y0
  obtain ⟨c', q', rfl, y1⟩ := tC_s y0
  obtain ⟨a, rfl, y2⟩ := kI_s y1
  obtain ⟨c', q', rfl, y3⟩ := tC_s y2
  obtain ⟨b, rfl, y4⟩ := kI_s y3
  obtain ⟨c', q', rfl, y5⟩ := tC_s y4
  obtain ⟨c, rfl, y6⟩ := kI_s y5
  obtain ⟨c', q', rfl, y7⟩ := tC_s y6
  obtain ⟨d, rfl, y8⟩ := kI_s y7
  obtain ⟨c', q', rfl, y9⟩ := tC_s y8
  obtain ⟨tw, rfl, y10⟩ := kI_s y9
  obtain ⟨c', q', rfl, y11⟩ := tC_s y10
  obtain ⟨th, rfl, y12⟩ := kI_s y11
  obtain ⟨c', q', rfl, y13⟩ := tC_s y12
  obtain ⟨rfl, y14⟩ := kR_s y13
  obtain ⟨rfl, y15⟩ := tE_s y14
  exact ⟨a, b, c, d, tw, th, rfl, y15⟩
def rdPR {α : Type} (r0 r1 : Nat) (q : List C) (K : Int → Int → Int → Int → Int → Int → Int → Bool → Bool → Bool → Bool → Bool → Bool → Bool → Bool → Int → Int → Option α) : Option α := tC q fun c' q => kI c' fun ke => tC q fun c' q => kI c' fun le => tC q fun c' q => kI c' fun co => tC q fun c' q => kI c' fun bx => tC q fun c' q => kI c' fun bw => tC q fun c' q => kR r0 c' <| tC q fun c' q => kI c' fun od => tC q fun c' q => kI c' fun la => tC q fun c' q => kB c' fun m1 => tC q fun c' q => kB c' fun m2 => tC q fun c' q => kB c' fun m3 => tC q fun c' q => kB c' fun m4 => tC q fun c' q => kB c' fun m5 => tC q fun c' q => kB c' fun dv => tC q fun c' q => kB c' fun sy => tC q fun c' q => kB c' fun fe => tC q fun c' q => kR r1 c' <| tC q fun c' q => kI c' fun de => tC q fun c' q => kI c' fun sf => tE q <| K ke le co bx bw od la m1 m2 m3 m4 m5 dv sy fe de sf
theorem rdPR_s {α : Type} {r0 r1 : Nat} {q : List C} {K : Int → Int → Int → Int → Int → Int → Int → Bool → Bool → Bool → Bool → Bool → Bool → Bool → Bool → Int → Int → Option α} {r : α} (y0 : rdPR r0 r1 q K = some r) : ∃ ke le co bx bw od la m1 m2 m3 m4 m5 dv sy fe de sf, q = [.int .i64 ke, .int .i64 le, .int .i64 co, .int .i64 bx, .int .i64 bw, .row r0, .int .i64 od, .int .i64 la, .bool m1, .bool m2, .bool m3, .bool m4, .bool m5, .bool dv, .bool sy, .bool fe, .row r1, .int .i64 de, .int .i64 sf] ∧ K ke le co bx bw od la m1 m2 m3 m4 m5 dv sy fe de sf = some r := by
  unfold rdPR at y0
  obtain ⟨c', q', rfl, y1⟩ := tC_s y0
  obtain ⟨ke, rfl, y2⟩ := kI_s y1
  obtain ⟨c', q', rfl, y3⟩ := tC_s y2
  obtain ⟨le, rfl, y4⟩ := kI_s y3
  obtain ⟨c', q', rfl, y5⟩ := tC_s y4
  obtain ⟨co, rfl, y6⟩ := kI_s y5
  obtain ⟨c', q', rfl, y7⟩ := tC_s y6
  obtain ⟨bx, rfl, y8⟩ := kI_s y7
  obtain ⟨c', q', rfl, y9⟩ := tC_s y8
  obtain ⟨bw, rfl, y10⟩ := kI_s y9
  obtain ⟨c', q', rfl, y11⟩ := tC_s y10
  obtain ⟨rfl, y12⟩ := kR_s y11
  obtain ⟨c', q', rfl, y13⟩ := tC_s y12
  obtain ⟨od, rfl, y14⟩ := kI_s y13
  obtain ⟨c', q', rfl, y15⟩ := tC_s y14
  obtain ⟨la, rfl, y16⟩ := kI_s y15
  obtain ⟨c', q', rfl, y17⟩ := tC_s y16
  obtain ⟨m1, rfl, y18⟩ := kB_s y17
  obtain ⟨c', q', rfl, y19⟩ := tC_s y18
  obtain ⟨m2, rfl, y20⟩ := kB_s y19
  obtain ⟨c', q', rfl, y21⟩ := tC_s y20
  obtain ⟨m3, rfl, y22⟩ := kB_s y21
  obtain ⟨c', q', rfl, y23⟩ := tC_s y22
  obtain ⟨m4, rfl, y24⟩ := kB_s y23
  obtain ⟨c', q', rfl, y25⟩ := tC_s y24
  obtain ⟨m5, rfl, y26⟩ := kB_s y25
  obtain ⟨c', q', rfl, y27⟩ := tC_s y26
  obtain ⟨dv, rfl, y28⟩ := kB_s y27
  obtain ⟨c', q', rfl, y29⟩ := tC_s y28
  obtain ⟨sy, rfl, y30⟩ := kB_s y29
  obtain ⟨c', q', rfl, y31⟩ := tC_s y30
  obtain ⟨fe, rfl, y32⟩ := kB_s y31
  obtain ⟨c', q', rfl, y33⟩ := tC_s y32
  obtain ⟨rfl, y34⟩ := kR_s y33
  obtain ⟨c', q', rfl, y35⟩ := tC_s y34
  obtain ⟨de, rfl, y36⟩ := kI_s y35
  obtain ⟨c', q', rfl, y37⟩ := tC_s y36
  obtain ⟨sf, rfl, y38⟩ := kI_s y37
  obtain ⟨rfl, y39⟩ := tE_s y38
  exact ⟨ke, le, co, bx, bw, od, la, m1, m2, m3, m4, m5, dv, sy, fe, de, sf, rfl, y39⟩
def bAC {α : Type} (e : TypeId) (l : List (Option Blk)) (K : List (Int × Bool × Int × Int) → List (Option Blk) → Option α) : Option α := match l with | some (.arr e' (.pair (.int .i64) (.pair .bool (.pair (.int .i64) (.int .i64)))) x) :: r => (match Nat.beq e' e with | true => K x r | false => none) | _ => none
theorem bAC_s {α : Type} {r : α} {e : TypeId} {l : List (Option Blk)} {K} (h : bAC e l K = some r) : ∃ (x : List (Int × Bool × Int × Int)) (t : List (Option Blk)), l = some (.arr e (.pair (.int .i64) (.pair .bool (.pair (.int .i64) (.int .i64)))) x) :: t ∧ K x t = some r := by
  unfold bAC at h; split at h
  · split at h
    · rename_i hb; exact ⟨_, _, by rw [beq_of hb], h⟩
    · cases h
  · cases h
def flip1 (c : Int × Bool × Int × Int) : Int × Bool × Int × Int := (c.1, !c.2.1, c.2.2.1, c.2.2.2)
def ok_ParamsIgnores (h : Hd) (p q : Pm) : Bool := true
def c_ParamsIgnores_0 (h : Hd) (p q : Pm) (l : List (Int × Bool × Int × Int)) (t : List (Int × Int)) (u : List Int) (a1 a2 a3 a4 a5 a6 b1 b2 b3 b4 b5 b6 b7 b8 b9 : Int) (c1 c2 c3 c4 c5 c6 c7 c8 : Bool) (n i : Int) : LT := LT.leaf (.exit 0) [.one (.ptr 0 0), .one (.ptr 1 0), .one (.ptr 2 0), .one (.ptr 3 0), .one (.ptr 4 0)] [some (.box (hdC h)), some (.box (pmC p)), some (.box (pmC q)), some (.box [.int .i64 a1, .int .i64 a2, .int .i64 a3, .int .i64 a4, .int .i64 a5, .int .i64 a6, .row 5]), some (.box [.int .i64 b1, .int .i64 b2, .int .i64 b3, .int .i64 b4, .int .i64 b5, .row 6, .int .i64 b6, .int .i64 b7, .bool c1, .bool c2, .bool c3, .bool c4, .bool c5, .bool c6, .bool c7, .bool c8, .row 7, .int .i64 b8, .int .i64 b9]), some (.arr 54 (.pair (.int .i64) (.pair .bool (.pair (.int .i64) (.int .i64)))) (l.map flip1)), some (.arr 43 (.pair (.int .i64) (.int .i64)) t), some (.arr 3 (.int .i64) u)]
def k_ParamsIgnores_0 (h : Hd) (p q : Pm) (l : List (Int × Bool × Int × Int)) (t : List (Int × Int)) (u : List Int) (a1 a2 a3 a4 a5 a6 b1 b2 b3 b4 b5 b6 b7 b8 b9 : Int) (c1 c2 c3 c4 c5 c6 c7 c8 : Bool) (n i : Int) : Bool := decide (n = (l.length : Int)) && decide (i = 0) && decide (l.length ≤ 1000)
def S_ParamsIgnores_0 : List V → List (Option Blk) → Option (Bool × LT) := fun vs bl => pO vs fun c' vs => kP 0 0 c' <| pO vs fun c' vs => kP 1 0 c' <| pO vs fun c' vs => kP 2 0 c' <| pO vs fun c' vs => kP 3 0 c' <| pO vs fun c' vs => kP 4 0 c' <| pO vs fun c' vs => kI c' fun n => pO vs fun c' vs => kI c' fun i => pE vs <| bB bl fun q' bl => rdHd q' fun h => bB bl fun q' bl => rdPm q' fun p => bB bl fun q' bl => rdPm q' fun q => bB bl fun q' bl => rdHR 5 q' fun a1 a2 a3 a4 a5 a6 => bB bl fun q' bl => rdPR 6 7 q' fun b1 b2 b3 b4 b5 b6 b7 c1 c2 c3 c4 c5 c6 c7 c8 b8 b9 => bAC 54 bl fun l bl => bAP 43 bl fun t bl => bAI 3 bl fun u bl => bE bl <| some (k_ParamsIgnores_0 h p q l t u a1 a2 a3 a4 a5 a6 b1 b2 b3 b4 b5 b6 b7 b8 b9 c1 c2 c3 c4 c5 c6 c7 c8 n i, c_ParamsIgnores_0 h p q l t u a1 a2 a3 a4 a5 a6 b1 b2 b3 b4 b5 b6 b7 b8 b9 c1 c2 c3 c4 c5 c6 c7 c8 n i)
def H_ParamsIgnores (h : Hd) (p q : Pm) : Option (Bool × Out) := some (ok_ParamsIgnores h p q, ⟨.one (.bool true), [], []⟩)
def G_ParamsIgnores : Summ := fun args lent => pA args fun q' args => rdHd q' fun h => pA args fun q' args => rdPm q' fun p => pA args fun q' args => rdPm q' fun q => pE args <| nE lent <| H_ParamsIgnores h p q
end Go.Rx.Ch23

set_option linter.unusedVariables false
namespace Go.Rx.Ch23
open Go.Rx
def incC (c : Int × Bool × Int × Int) : Int × Bool × Int × Int := (c.1, c.2.1, w (c.2.2.1 + 1), c.2.2.2)
def inc1 (x : Int) : Int := w (x + 1)
def incY (x : Int × Int) : Int × Int := (x.1, w (x.2 + 1))
def ok_ParamsClones (h : Hd) (p : Pm) : Bool := true
def c_ParamsClones_0 (h : Hd) (p : Pm) (l : List (Int × Bool × Int × Int)) (t : List (Int × Int)) (u : List Int) (l2 : List (Int × Bool × Int × Int)) (t2 : List (Int × Int)) (u2 : List Int) (a1 a2 a3 a4 a5 a6 b1 b2 b3 b4 b5 b6 b7 b8 b9 d1 d2 d3 d4 d5 d6 e1 e2 e3 e4 e5 e6 e7 e8 e9 : Int) (c1 c2 c3 c4 c5 c6 c7 c8 f1 f2 f3 f4 f5 f6 f7 f8 : Bool) (n i : Int) : LT := LT.leaf (.exit 0) [.one (.ptr 0 0), .one (.ptr 1 0), .one (.ptr 2 0), .one (.ptr 3 0), .one (.ptr 4 0)] [some (.box (hdC h)), some (.box (pmC p)), some (.box [.int .i64 b1, .int .i64 b2, .int .i64 b3, .int .i64 b4, .int .i64 b5, .row 5, .int .i64 b6, .int .i64 b7, .bool c1, .bool c2, .bool c3, .bool c4, .bool c5, .bool c6, .bool c7, .bool c8, .row 6, .int .i64 b8, .int .i64 b9]), some (.box [.int .i64 d1, .int .i64 d2, .int .i64 d3, .int .i64 d4, .int .i64 d5, .int .i64 d6, .row 7]), some (.box [.int .i64 e1, .int .i64 e2, .int .i64 e3, .int .i64 e4, .int .i64 e5, .row 8, .int .i64 e6, .int .i64 e7, .bool f1, .bool f2, .bool f3, .bool f4, .bool f5, .bool f6, .bool f7, .bool f8, .row 9, .int .i64 e8, .int .i64 e9]), some (.arr 43 (.pair (.int .i64) (.int .i64)) t), some (.arr 3 (.int .i64) u), some (.arr 54 (.pair (.int .i64) (.pair .bool (.pair (.int .i64) (.int .i64)))) l2), some (.arr 43 (.pair (.int .i64) (.int .i64)) t2), some (.arr 3 (.int .i64) u2)]
def k_ParamsClones_0 (h : Hd) (p : Pm) (l : List (Int × Bool × Int × Int)) (t : List (Int × Int)) (u : List Int) (l2 : List (Int × Bool × Int × Int)) (t2 : List (Int × Int)) (u2 : List Int) (a1 a2 a3 a4 a5 a6 b1 b2 b3 b4 b5 b6 b7 b8 b9 d1 d2 d3 d4 d5 d6 e1 e2 e3 e4 e5 e6 e7 e8 e9 : Int) (c1 c2 c3 c4 c5 c6 c7 c8 f1 f2 f3 f4 f5 f6 f7 f8 : Bool) (n i : Int) : Bool := decide (n = (l.length : Int)) && decide (i = 0) && decide (l.length ≤ 1000)
def S_ParamsClones_0 : List V → List (Option Blk) → Option (Bool × LT) := fun vs bl => pO vs fun c' vs => kP 0 0 c' <| pO vs fun c' vs => kP 1 0 c' <| pO vs fun c' vs => kP 2 0 c' <| pO vs fun c' vs => kP 3 0 c' <| pO vs fun c' vs => kP 4 0 c' <| pO vs fun c' vs => kP 5 0 c' <| pO vs fun c' vs => kI c' fun n => pO vs fun c' vs => kI c' fun i => pE vs <| bB bl fun q' bl => rdHd q' fun h => bB bl fun q' bl => rdPm q' fun p => bB bl fun q' bl => rdHR 6 q' fun a1 a2 a3 a4 a5 a6 => bB bl fun q' bl => rdPR 7 8 q' fun b1 b2 b3 b4 b5 b6 b7 c1 c2 c3 c4 c5 c6 c7 c8 b8 b9 => bB bl fun q' bl => rdHR 9 q' fun d1 d2 d3 d4 d5 d6 => bB bl fun q' bl => rdPR 10 11 q' fun e1 e2 e3 e4 e5 e6 e7 f1 f2 f3 f4 f5 f6 f7 f8 e8 e9 => bAC 54 bl fun l bl => bAP 43 bl fun t bl => bAI 3 bl fun u bl => bAC 54 bl fun l2 bl => bAP 43 bl fun t2 bl => bAI 3 bl fun u2 bl => bE bl <| some (k_ParamsClones_0 h p l t u l2 t2 u2 a1 a2 a3 a4 a5 a6 b1 b2 b3 b4 b5 b6 b7 b8 b9 d1 d2 d3 d4 d5 d6 e1 e2 e3 e4 e5 e6 e7 e8 e9 c1 c2 c3 c4 c5 c6 c7 c8 f1 f2 f3 f4 f5 f6 f7 f8 n i, c_ParamsClones_0 h p l t u l2 t2 u2 a1 a2 a3 a4 a5 a6 b1 b2 b3 b4 b5 b6 b7 b8 b9 d1 d2 d3 d4 d5 d6 e1 e2 e3 e4 e5 e6 e7 e8 e9 c1 c2 c3 c4 c5 c6 c7 c8 f1 f2 f3 f4 f5 f6 f7 f8 n i)
def c_ParamsClones_1 (h : Hd) (p : Pm) (t : List (Int × Int)) (u : List Int) (l2 : List (Int × Bool × Int × Int)) (t2 : List (Int × Int)) (u2 : List Int) (b1 b2 b3 b4 b5 b6 b7 b8 b9 d1 d2 d3 d4 d5 d6 e1 e2 e3 e4 e5 e6 e7 e8 e9 : Int) (c1 c2 c3 c4 c5 c6 c7 c8 f1 f2 f3 f4 f5 f6 f7 f8 : Bool) (n i : Int) : LT := LT.leaf (.exit 2) [.one (.ptr 0 0), .one (.ptr 1 0), .one (.ptr 2 0), .one (.ptr 3 0), .one (.ptr 4 0)] [some (.box (hdC h)), some (.box (pmC p)), some (.box [.int .i64 b1, .int .i64 b2, .int .i64 b3, .int .i64 b4, .int .i64 b5, .row 5, .int .i64 b6, .int .i64 b7, .bool c1, .bool c2, .bool c3, .bool c4, .bool c5, .bool c6, .bool c7, .bool c8, .row 6, .int .i64 b8, .int .i64 b9]), some (.box [.int .i64 d1, .int .i64 d2, .int .i64 d3, .int .i64 d4, .int .i64 d5, .int .i64 d6, .row 7]), some (.box [.int .i64 e1, .int .i64 e2, .int .i64 e3, .int .i64 e4, .int .i64 e5, .row 8, .int .i64 e6, .int .i64 e7, .bool f1, .bool f2, .bool f3, .bool f4, .bool f5, .bool f6, .bool f7, .bool f8, .row 9, .int .i64 e8, .int .i64 e9]), some (.arr 43 (.pair (.int .i64) (.int .i64)) t), some (.arr 3 (.int .i64) (u.map inc1)), some (.arr 54 (.pair (.int .i64) (.pair .bool (.pair (.int .i64) (.int .i64)))) l2), some (.arr 43 (.pair (.int .i64) (.int .i64)) t2), some (.arr 3 (.int .i64) u2)]
def k_ParamsClones_1 (h : Hd) (p : Pm) (t : List (Int × Int)) (u : List Int) (l2 : List (Int × Bool × Int × Int)) (t2 : List (Int × Int)) (u2 : List Int) (b1 b2 b3 b4 b5 b6 b7 b8 b9 d1 d2 d3 d4 d5 d6 e1 e2 e3 e4 e5 e6 e7 e8 e9 : Int) (c1 c2 c3 c4 c5 c6 c7 c8 f1 f2 f3 f4 f5 f6 f7 f8 : Bool) (n i : Int) : Bool := decide (n = (u.length : Int)) && decide (i = 0) && decide (u.length ≤ 1000)
def S_ParamsClones_1 : List V → List (Option Blk) → Option (Bool × LT) := fun vs bl => pO vs fun c' vs => kP 0 0 c' <| pO vs fun c' vs => kP 1 0 c' <| pO vs fun c' vs => kP 2 0 c' <| pO vs fun c' vs => kP 3 0 c' <| pO vs fun c' vs => kP 4 0 c' <| pO vs fun c' vs => kI c' fun n => pO vs fun c' vs => kI c' fun i => pE vs <| bB bl fun q' bl => rdHd q' fun h => bB bl fun q' bl => rdPm q' fun p => bB bl fun q' bl => rdPR 5 6 q' fun b1 b2 b3 b4 b5 b6 b7 c1 c2 c3 c4 c5 c6 c7 c8 b8 b9 => bB bl fun q' bl => rdHR 7 q' fun d1 d2 d3 d4 d5 d6 => bB bl fun q' bl => rdPR 8 9 q' fun e1 e2 e3 e4 e5 e6 e7 f1 f2 f3 f4 f5 f6 f7 f8 e8 e9 => bAP 43 bl fun t bl => bAI 3 bl fun u bl => bAC 54 bl fun l2 bl => bAP 43 bl fun t2 bl => bAI 3 bl fun u2 bl => bE bl <| some (k_ParamsClones_1 h p t u l2 t2 u2 b1 b2 b3 b4 b5 b6 b7 b8 b9 d1 d2 d3 d4 d5 d6 e1 e2 e3 e4 e5 e6 e7 e8 e9 c1 c2 c3 c4 c5 c6 c7 c8 f1 f2 f3 f4 f5 f6 f7 f8 n i, c_ParamsClones_1 h p t u l2 t2 u2 b1 b2 b3 b4 b5 b6 b7 b8 b9 d1 d2 d3 d4 d5 d6 e1 e2 e3 e4 e5 e6 e7 e8 e9 c1 c2 c3 c4 c5 c6 c7 c8 f1 f2 f3 f4 f5 f6 f7 f8 n i)
def c_ParamsClones_2 (h : Hd) (p : Pm) (t : List (Int × Int)) (u : List Int) (l2 : List (Int × Bool × Int × Int)) (t2 : List (Int × Int)) (u2 : List Int) (b1 b2 b3 b4 b5 b6 b7 b8 b9 d1 d2 d3 d4 d5 d6 e1 e2 e3 e4 e5 e6 e7 e8 e9 : Int) (c1 c2 c3 c4 c5 c6 c7 c8 f1 f2 f3 f4 f5 f6 f7 f8 : Bool) (n i : Int) : LT := LT.leaf (.exit 4) [.one (.ptr 0 0), .one (.ptr 1 0), .one (.ptr 2 0), .one (.ptr 3 0)] [some (.box (hdC h)), some (.box (pmC p)), some (.box [.int .i64 d1, .int .i64 d2, .int .i64 d3, .int .i64 d4, .int .i64 d5, .int .i64 d6, .row 4]), some (.box [.int .i64 e1, .int .i64 e2, .int .i64 e3, .int .i64 e4, .int .i64 e5, .row 5, .int .i64 e6, .int .i64 e7, .bool f1, .bool f2, .bool f3, .bool f4, .bool f5, .bool f6, .bool f7, .bool f8, .row 6, .int .i64 e8, .int .i64 e9]), some (.arr 54 (.pair (.int .i64) (.pair .bool (.pair (.int .i64) (.int .i64)))) l2), some (.arr 43 (.pair (.int .i64) (.int .i64)) t2), some (.arr 3 (.int .i64) u2)]
def k_ParamsClones_2 (h : Hd) (p : Pm) (t : List (Int × Int)) (u : List Int) (l2 : List (Int × Bool × Int × Int)) (t2 : List (Int × Int)) (u2 : List Int) (b1 b2 b3 b4 b5 b6 b7 b8 b9 d1 d2 d3 d4 d5 d6 e1 e2 e3 e4 e5 e6 e7 e8 e9 : Int) (c1 c2 c3 c4 c5 c6 c7 c8 f1 f2 f3 f4 f5 f6 f7 f8 : Bool) (n i : Int) : Bool := decide (n = (t.length : Int)) && decide (i = 0) && decide (t.length ≤ 1000)
def S_ParamsClones_2 : List V → List (Option Blk) → Option (Bool × LT) := fun vs bl => pO vs fun c' vs => kP 0 0 c' <| pO vs fun c' vs => kP 1 0 c' <| pO vs fun c' vs => kP 2 0 c' <| pO vs fun c' vs => kP 3 0 c' <| pO vs fun c' vs => kP 4 0 c' <| pO vs fun c' vs => kI c' fun n => pO vs fun c' vs => kI c' fun i => pE vs <| bB bl fun q' bl => rdHd q' fun h => bB bl fun q' bl => rdPm q' fun p => bB bl fun q' bl => rdPR 5 6 q' fun b1 b2 b3 b4 b5 b6 b7 c1 c2 c3 c4 c5 c6 c7 c8 b8 b9 => bB bl fun q' bl => rdHR 7 q' fun d1 d2 d3 d4 d5 d6 => bB bl fun q' bl => rdPR 8 9 q' fun e1 e2 e3 e4 e5 e6 e7 f1 f2 f3 f4 f5 f6 f7 f8 e8 e9 => bAP 43 bl fun t bl => bAI 3 bl fun u bl => bAC 54 bl fun l2 bl => bAP 43 bl fun t2 bl => bAI 3 bl fun u2 bl => bE bl <| some (k_ParamsClones_2 h p t u l2 t2 u2 b1 b2 b3 b4 b5 b6 b7 b8 b9 d1 d2 d3 d4 d5 d6 e1 e2 e3 e4 e5 e6 e7 e8 e9 c1 c2 c3 c4 c5 c6 c7 c8 f1 f2 f3 f4 f5 f6 f7 f8 n i, c_ParamsClones_2 h p t u l2 t2 u2 b1 b2 b3 b4 b5 b6 b7 b8 b9 d1 d2 d3 d4 d5 d6 e1 e2 e3 e4 e5 e6 e7 e8 e9 c1 c2 c3 c4 c5 c6 c7 c8 f1 f2 f3 f4 f5 f6 f7 f8 n i)
def H_ParamsClones (h : Hd) (p : Pm) : Option (Bool × Out) := some (ok_ParamsClones h p, ⟨.one (.bool true), [], []⟩)
def G_ParamsClones : Summ := fun args lent => pA args fun q' args => rdHd q' fun h => pA args fun q' args => rdPm q' fun p => pE args <| nE lent <| H_ParamsClones h p
end Go.Rx.Ch23

set_option linter.unusedVariables false
namespace Go.Rx.Ch23
open Go.Rx
def sumL : List Rc → Int
  | [] => 0
  | x :: l => areaR x + sumL l
def sumA (l : List Rc) : Nat → Int
  | 0 => 0
  | k + 1 => w (sumA l k + areaR (gR l k))
def goodT (h : Hd) (r : Rc) : Bool := !emptyR r && contains h.a h.b h.c h.d r.1 r.2.1 r.2.2.1 r.2.2.2
def goodC (h : Hd) (c : Int × Bool × Int × Int) : Bool := decide (1 ≤ areaR (redH h c)) && decide (areaR (redH h c) ≤ 1048576)
def goodS (p : Pm) (i : Nat) : Bool := decide (1 ≤ planes p i) && decide (planes p i ≤ 60)
def ok_ParamsBounds (h : Hd) (p : Pm) : Bool := true
def c_ParamsBounds_0 (h : Hd) (p : Pm) (t : List Rc) (s n i : Int) : LT := .br ((List.range t.length).all fun k => goodT h (gR t k)) (LT.leaf (.exit 0) [.one (.ptr 0 0), .one (.ptr 1 0), .one (.int .i64 (sumA t t.length))] [some (.box (hdC h)), some (.box (pmC p))]) (.leaf .ret [.one (.bool false)] [])
def k_ParamsBounds_0 (h : Hd) (p : Pm) (t : List Rc) (s n i : Int) : Bool := decide (n = (t.length : Int)) && decide (i = 0) && decide (s = 0) && small t.length
def S_ParamsBounds_0 : List V → List (Option Blk) → Option (Bool × LT) := fun vs bl => pO vs fun c' vs => kP 0 0 c' <| pO vs fun c' vs => kP 1 0 c' <| pO vs fun c' vs => kR 2 c' <| pO vs fun c' vs => kI c' fun s => pO vs fun c' vs => kI c' fun n => pO vs fun c' vs => kI c' fun i => pE vs <| bB bl fun q' bl => rdHd q' fun h => bB bl fun q' bl => rdPm q' fun p => bAR 23 bl fun t bl => bE bl <| some (k_ParamsBounds_0 h p t s n i, c_ParamsBounds_0 h p t s n i)
def p_ParamsBounds_1 (h : Hd) (p : Pm) (l : List (Int × Bool × Int × Int)) (s : Int) : Bool := l.all (goodC h)
def c_ParamsBounds_1 (h : Hd) (p : Pm) (l : List (Int × Bool × Int × Int)) (s : Int) : LT := .br (p_ParamsBounds_1 h p l s) (.leaf (.exit 2) [.one (.ptr 0 0), .one (.ptr 1 0), .one (.int .i64 s)] [some (.box (hdC h)), some (.box (pmC p))]) (.leaf .ret [.one (.bool false)] [])
def k_ParamsBounds_1 (h : Hd) (p : Pm) (l : List (Int × Bool × Int × Int)) (s : Int) (n i : Int) : Bool := decide (i = 0) && decide (n = (l.length : Int)) && small (l.length) && true
def S_ParamsBounds_1 : List V → List (Option Blk) → Option (Bool × LT) := fun vs bl => pO vs fun c' vs => kP 0 0 c' <| pO vs fun c' vs => kP 1 0 c' <| pO vs fun c' vs => kI c' fun s => pO vs fun c' vs => kLC c' fun l => pO vs fun c' vs => kI c' fun n => pO vs fun c' vs => kI c' fun i => pE vs <| bB bl fun q' bl => rdHd q' fun h => bB bl fun q' bl => rdPm q' fun p => bE bl <| some (k_ParamsBounds_1 h p l s n i, c_ParamsBounds_1 h p l s)
def p_ParamsBounds_2 (p : Pm) : Bool := (List.range p.st.length).all (goodS p)
def c_ParamsBounds_2 (p : Pm) : LT := .br (p_ParamsBounds_2 p) (.leaf (.exit 4) [] []) (.leaf .ret [.one (.bool false)] [])
def k_ParamsBounds_2 (p : Pm) (n i : Int) : Bool := decide (i = 0) && decide (n = (p.st.length : Int)) && small (p.st.length) && true
def S_ParamsBounds_2 : List V → List (Option Blk) → Option (Bool × LT) := fun vs bl => pO vs fun c' vs => kP 0 0 c' <| pO vs fun c' vs => kI c' fun n => pO vs fun c' vs => kI c' fun i => pE vs <| bB bl fun q' bl => rdPm q' fun p => bE bl <| some (k_ParamsBounds_2 p n i, c_ParamsBounds_2 p)
def H_ParamsBounds (h : Hd) (p : Pm) : Option (Bool × Out) := some (ok_ParamsBounds h p, ⟨.one (.bool true), [], []⟩)
def G_ParamsBounds : Summ := fun args lent => pA args fun q' args => rdHd q' fun h => pA args fun q' args => rdPm q' fun p => pE args <| nE lent <| H_ParamsBounds h p
end Go.Rx.Ch23

