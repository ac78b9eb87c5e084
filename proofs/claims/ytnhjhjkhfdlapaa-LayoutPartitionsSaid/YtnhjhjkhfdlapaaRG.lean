/- What the functions that the laws reach return, in closed form, and their summaries. -/
import Derived.Test.YtnhjhjkhfdlapaaRxD
set_option linter.unnecessarySimpa false
set_option linter.unusedVariables false
set_option linter.unusedSimpArgs false
set_option linter.unusedVariables false
namespace Go.Rx.Ch24
open Go.Rx
abbrev w (n : Int) : Int := IntKind.wrap .i64 n
def empty (a b c d : Int) : Bool := decide (a ≥ c) || decide (b ≥ d)
def valid (a b c d : Int) : Bool := decide (0 ≤ a) && decide (a ≤ c) && decide (c ≤ 4096) && decide (0 ≤ b) && decide (b ≤ d) && decide (d ≤ 4096)
def cdiv (a b : Int) : Int := if b < 1 then 0 else if Int.tmod a b > 0 then w (w (Int.tdiv a b) + 1) else w (Int.tdiv a b)
def fdiv (a b : Int) : Int := if b < 1 then 0 else if Int.tmod a b < 0 then w (w (Int.tdiv a b) - 1) else w (Int.tdiv a b)
def area (a b c d : Int) : Int := if valid a b c d then w (w (c - a) * w (d - b)) else 0
abbrev Rc := Int × Int × Int × Int
def reduce (a b c d x y : Int) : Rc := if !valid a b c d || decide (x < 1) || decide (x > 4096) || decide (y < 1) || decide (y > 4096) then (0, 0, 0, 0) else (cdiv a x, cdiv b y, cdiv c x, cdiv d y)
def inter (a b c d e f g h : Int) : Rc := if empty (max a e) (max b f) (min c g) (min d h) then (0, 0, 0, 0) else (max a e, max b f, min c g, min d h)
def contains (a b c d e f g h : Int) : Bool := empty e f g h || decide (inter a b c d e f g h = (e, f, g, h))

def H_rect_Empty (a b c d : Int) : Option (Bool × Out) := some (true, ⟨.one (.bool (empty a b c d)), [], []⟩)
def G_rect_Empty : Summ := fun args lent => pA args fun q' args => tC q' fun c' q' => kI c' fun a => tC q' fun c' q' => kI c' fun b => tC q' fun c' q' => kI c' fun c => tC q' fun c' q' => kI c' fun d => tE q' <| pE args <| nE lent <| H_rect_Empty a b c d
def H_rect_Valid (a b c d : Int) : Option (Bool × Out) := some (true, ⟨.one (.bool (valid a b c d)), [], []⟩)
def G_rect_Valid : Summ := fun args lent => pA args fun q' args => tC q' fun c' q' => kI c' fun a => tC q' fun c' q' => kI c' fun b => tC q' fun c' q' => kI c' fun c => tC q' fun c' q' => kI c' fun d => tE q' <| pE args <| nE lent <| H_rect_Valid a b c d
def H_rect_CeilDiv (a b : Int) : Option (Bool × Out) := some (true, ⟨.one (.int .i64 (cdiv a b)), [], []⟩)
def G_rect_CeilDiv : Summ := fun args lent => pO args fun c' args => kI c' fun a => pO args fun c' args => kI c' fun b => pE args <| nE lent <| H_rect_CeilDiv a b
def H_rect_FloorDiv (a b : Int) : Option (Bool × Out) := some (true, ⟨.one (.int .i64 (fdiv a b)), [], []⟩)
def G_rect_FloorDiv : Summ := fun args lent => pO args fun c' args => kI c' fun a => pO args fun c' args => kI c' fun b => pE args <| nE lent <| H_rect_FloorDiv a b
def H_rect_Area (a b c d : Int) : Option (Bool × Out) := some (true, ⟨.one (.int .i64 (area a b c d)), [], []⟩)
def G_rect_Area : Summ := fun args lent => pA args fun q' args => tC q' fun c' q' => kI c' fun a => tC q' fun c' q' => kI c' fun b => tC q' fun c' q' => kI c' fun c => tC q' fun c' q' => kI c' fun d => tE q' <| pE args <| nE lent <| H_rect_Area a b c d
def H_rect_Reduce (a b c d x y : Int) : Option (Bool × Out) := some (true, ⟨.agg [.int .i64 ((reduce a b c d x y).1), .int .i64 ((reduce a b c d x y).2.1), .int .i64 ((reduce a b c d x y).2.2.1), .int .i64 ((reduce a b c d x y).2.2.2)], [], []⟩)
def G_rect_Reduce : Summ := fun args lent => pA args fun q' args => tC q' fun c' q' => kI c' fun a => tC q' fun c' q' => kI c' fun b => tC q' fun c' q' => kI c' fun c => tC q' fun c' q' => kI c' fun d => tE q' <| pO args fun c' args => kI c' fun x => pO args fun c' args => kI c' fun y => pE args <| nE lent <| H_rect_Reduce a b c d x y
def H_rect_Intersect (a b c d e f g h : Int) : Option (Bool × Out) := some (true, ⟨.agg [.int .i64 ((inter a b c d e f g h).1), .int .i64 ((inter a b c d e f g h).2.1), .int .i64 ((inter a b c d e f g h).2.2.1), .int .i64 ((inter a b c d e f g h).2.2.2)], [], []⟩)
def G_rect_Intersect : Summ := fun args lent => pA args fun q' args => tC q' fun c' q' => kI c' fun a => tC q' fun c' q' => kI c' fun b => tC q' fun c' q' => kI c' fun c => tC q' fun c' q' => kI c' fun d => tE q' <| pA args fun q' args => tC q' fun c' q' => kI c' fun e => tC q' fun c' q' => kI c' fun f => tC q' fun c' q' => kI c' fun g => tC q' fun c' q' => kI c' fun h => tE q' <| pE args <| nE lent <| H_rect_Intersect a b c d e f g h
def H_rect_Contains (a b c d e f g h : Int) : Option (Bool × Out) := some (true, ⟨.one (.bool (contains a b c d e f g h)), [], []⟩)
def G_rect_Contains : Summ := fun args lent => pA args fun q' args => tC q' fun c' q' => kI c' fun a => tC q' fun c' q' => kI c' fun b => tC q' fun c' q' => kI c' fun c => tC q' fun c' q' => kI c' fun d => tE q' <| pA args fun q' args => tC q' fun c' q' => kI c' fun e => tC q' fun c' q' => kI c' fun f => tC q' fun c' q' => kI c' fun g => tC q' fun c' q' => kI c' fun h => tE q' <| pE args <| nE lent <| H_rect_Contains a b c d e f g h
def inr (a b x : Int) : Bool := decide (a ≤ x) && decide (x ≤ b)
def within (a b : Int) (l : List Int) : Bool := l.all (inr a b)

def p_params_within_0 (a b : Int) (l : List Int) : Bool := l.all (inr a b)
def c_params_within_0 (a b : Int) (l : List Int) : LT := .br (p_params_within_0 a b l) (.leaf (.exit 0) [] []) (.leaf .ret [.one (.bool false)] [])
def k_params_within_0 (a b : Int) (l : List Int) (n i : Int) : Bool := decide (i = 0) && decide (n = (l.length : Int)) && small (l.length) && true
def S_params_within_0 : List V → List (Option Blk) → Option (Bool × LT) := fun vs bl => pO vs fun c' vs => kI c' fun a => pO vs fun c' vs => kI c' fun b => pO vs fun c' vs => kLI c' fun l => pO vs fun c' vs => kI c' fun n => pO vs fun c' vs => kI c' fun i => pE vs <| bE bl <| some (k_params_within_0 a b l n i, c_params_within_0 a b l)
def H_params_within (a b : Int) (l : List Int) : Option (Bool × Out) := some (small l.length, ⟨.one (.bool (within a b l)), [], []⟩)
def G_params_within : Summ := fun args lent => pO args fun c' args => kI c' fun a => pO args fun c' args => kI c' fun b => pO args fun c' args => kLI c' fun l => pE args <| nE lent <| H_params_within a b l
end Go.Rx.Ch24

set_option linter.unusedVariables false
namespace Go.Rx.Ch24
open Go.Rx
def prec (p : Pm) (r : Int) : Int × Int := if r < 0 ∨ p.le < r then (0, 0) else if p.pr.length = 0 then (12, 12) else if r ≥ p.pr.length then (0, 0) else gP p.pr r.toNat
def H_params_Precinct (p : Pm) (r : Int) : Option (Bool × Out) := some (true, ⟨.agg [.int .i64 ((prec p r).1), .int .i64 ((prec p r).2)], [], []⟩)
def G_params_Precinct : Summ := fun args lent => pA args fun q' args => rdPm q' fun p => pO args fun c' args => kI c' fun r => pE args <| nE lent <| H_params_Precinct p r
end Go.Rx.Ch24

set_option linter.unusedVariables false
namespace Go.Rx.Ch24
open Go.Rx
end Go.Rx.Ch24

set_option linter.unusedVariables false
namespace Go.Rx.Ch24
open Go.Rx
end Go.Rx.Ch24

set_option linter.unusedVariables false
namespace Go.Rx.Ch24
open Go.Rx
def kinds (p : Pm) : Bool := inr 1 3 p.ke && inr 0 2 p.co && inr 1 5 p.od
def emptyR (r : Rc) : Bool := empty r.1 r.2.1 r.2.2.1 r.2.2.2
def areaR (r : Rc) : Int := area r.1 r.2.1 r.2.2.1 r.2.2.2
def redH (h : Hd) (c : Int × Bool × Int × Int) : Rc := reduce h.a h.b h.c h.d c.2.2.1 c.2.2.2
def okC (h : Hd) (c : Int × Bool × Int × Int) : Bool := inr 1 16 c.1 && inr 1 4 c.2.2.1 && inr 1 4 c.2.2.2 && !emptyR (redH h c)
def smC (h : Hd) (c : Int × Bool × Int × Int) : Bool := decide (areaR (redH h c) ≤ 1048576)
def tiles (h : Hd) : Int := w (w (cdiv h.c h.tw - fdiv h.a h.tw) * w (cdiv h.d h.th - fdiv h.b h.th))
def header (h : Hd) : Int := if !valid h.a h.b h.c h.d || empty h.a h.b h.c h.d || !inr 1 4096 h.tw || !inr 1 4096 h.th || !inr 1 4 h.cs.length || !h.cs.all (okC h) then 12 else if tiles h > 1024 || !h.cs.all (smC h) then 5 else 0
def p_params_Header_0 (h : Hd) (l : List (Int × Bool × Int × Int)) : Bool := l.all (okC h)
def c_params_Header_0 (h : Hd) (l : List (Int × Bool × Int × Int)) : LT := .br (p_params_Header_0 h l) (.leaf (.exit 0) [.one (.ptr 0 0)] [some (.box (hdC h))]) (.leaf .ret [.one (.int .i64 12)] [])
def k_params_Header_0 (h : Hd) (l : List (Int × Bool × Int × Int)) (n i : Int) : Bool := decide (i = 0) && decide (n = (l.length : Int)) && small (l.length) && true
def S_params_Header_0 : List V → List (Option Blk) → Option (Bool × LT) := fun vs bl => pO vs fun c' vs => kP 0 0 c' <| pO vs fun c' vs => kLC c' fun l => pO vs fun c' vs => kI c' fun n => pO vs fun c' vs => kI c' fun i => pE vs <| bB bl fun q' bl => rdHd q' fun h => bE bl <| some (k_params_Header_0 h l n i, c_params_Header_0 h l)
def p_params_Header_1 (h : Hd) (l : List (Int × Bool × Int × Int)) : Bool := l.all (smC h)
def c_params_Header_1 (h : Hd) (l : List (Int × Bool × Int × Int)) : LT := .br (p_params_Header_1 h l) (.leaf (.exit 2) [] []) (.leaf .ret [.one (.int .i64 5)] [])
def k_params_Header_1 (h : Hd) (l : List (Int × Bool × Int × Int)) (n i : Int) : Bool := decide (i = 0) && decide (n = (l.length : Int)) && small (l.length) && true
def S_params_Header_1 : List V → List (Option Blk) → Option (Bool × LT) := fun vs bl => pO vs fun c' vs => kP 0 0 c' <| pO vs fun c' vs => kLC c' fun l => pO vs fun c' vs => kI c' fun n => pO vs fun c' vs => kI c' fun i => pE vs <| bB bl fun q' bl => rdHd q' fun h => bE bl <| some (k_params_Header_1 h l n i, c_params_Header_1 h l)
def H_params_Header (h : Hd) : Option (Bool × Out) := some (small h.cs.length, ⟨.one (.int .i64 (header h)), [], []⟩)
def G_params_Header : Summ := fun args lent => pA args fun q' args => rdHd q' fun h => pE args <| nE lent <| H_params_Header h
end Go.Rx.Ch24

set_option linter.unusedVariables false
namespace Go.Rx.Ch24
open Go.Rx
def pmin (i : Nat) : Int := if 1 < (i : Int) then 1 else i
def prq (p : Pm) (i : Nat) : Bool := inr (pmin i) 12 (gP p.pr i).1 && inr (pmin i) 12 (gP p.pr i).2
def precs (p : Pm) : Bool := (List.range p.pr.length).all (prq p)
def nums (p : Pm) : Bool := inr 0 5 p.le && inr 2 6 p.bx && inr 2 6 p.bw && (decide (p.pr.length = 0) || decide ((p.pr.length : Int) = p.le + 1)) && precs p && inr 1 16 p.la && decide ((p.st.length : Int) = 3 * p.le + 1) && p.st.all (inr 1 65536) && inr 8 32 p.de && inr 0 30 p.sf
def colors (h : Hd) (p : Pm) : Bool := decide (p.co = 0) || decide (3 ≤ h.cs.length) && decide (gC h.cs 0 = gC h.cs 1) && decide (gC h.cs 0 = gC h.cs 2)
def p_params_numbers_0 (h : Hd) (p : Pm) (l : List (Int × Int)) : Bool := (List.range l.length).all (prq p)
def c_params_numbers_0 (h : Hd) (p : Pm) (l : List (Int × Int)) : LT := .br (p_params_numbers_0 h p l) (.leaf (.exit 0) [.one (.ptr 0 0), .one (.ptr 1 0)] [some (.box (hdC h)), some (.box (pmC p))]) (.leaf .ret [.one (.bool false)] [])
def k_params_numbers_0 (h : Hd) (p : Pm) (l : List (Int × Int)) (n i : Int) : Bool := decide (i = 0) && decide (n = (l.length : Int)) && small (l.length) && decide (l = p.pr)
def S_params_numbers_0 : List V → List (Option Blk) → Option (Bool × LT) := fun vs bl => pO vs fun c' vs => kP 0 0 c' <| pO vs fun c' vs => kP 1 0 c' <| pO vs fun c' vs => kLP c' fun l => pO vs fun c' vs => kI c' fun n => pO vs fun c' vs => kI c' fun i => pE vs <| bB bl fun q' bl => rdHd q' fun h => bB bl fun q' bl => rdPm q' fun p => bE bl <| some (k_params_numbers_0 h p l n i, c_params_numbers_0 h p l)
def H_params_numbers (h : Hd) (p : Pm) : Option (Bool × Out) := some ((small p.pr.length && small p.st.length), ⟨.one (.bool (nums p && colors h p)), [], []⟩)
def G_params_numbers : Summ := fun args lent => pA args fun q' args => rdHd q' fun h => pA args fun q' args => rdPm q' fun p => pE args <| nE lent <| H_params_numbers h p
end Go.Rx.Ch24

set_option linter.unusedVariables false
namespace Go.Rx.Ch24
open Go.Rx
end Go.Rx.Ch24

set_option linter.unusedVariables false
namespace Go.Rx.Ch24
open Go.Rx
def count (n : Int) : Int := if inr 0 5 n then 3 * n + 1 else 0
def plOk (i n : Int) : Bool := decide (0 ≤ i) && decide (i < count n)
def plLv (i n : Int) : Int := if plOk i n then (if i = 0 then n else n - (i + 2) / 3 + 1) else 0
def plOr (i n : Int) : Int := if plOk i n then (if i = 0 then 0 else i - 3 * ((i + 2) / 3) + 3) else 0
def idxs (n r : Int) : List Int := if inr 0 5 n && inr 0 n r then (if r = 0 then [0] else [3 * r - 2, 3 * r - 1, 3 * r]) else []
def pw (k : Int) : Int := 2 ^ k.toNat
def resR (a b c d n r : Int) : Rc := if inr 0 5 n && inr 0 n r then reduce a b c d (pw (n - r)) (pw (n - r)) else (0, 0, 0, 0)
def bnd (a b c d : Int) (o : Int) : Rc := if valid a b c d then ((a + (1 - o % 2)) / 2, (b + (1 - o / 2)) / 2, (c + (1 - o % 2)) / 2, (d + (1 - o / 2)) / 2) else (0, 0, 0, 0)
def bndR (r : Rc) (o : Int) : Rc := bnd r.1 r.2.1 r.2.2.1 r.2.2.2 o
def bandR (a b c d n i : Int) : Rc := if plOk i n && valid a b c d then (if i = 0 then resR a b c d n 0 else bndR (resR a b c d n (n - plLv i n + 1)) (plOr i n)) else (0, 0, 0, 0)
def cellsN (a b c d x y : Int) : Int := if empty a b c d then 0 else w (w (cdiv c (pw x) - fdiv a (pw x)) * w (cdiv d (pw y) - fdiv b (pw y)))
def H_pyr_validLevels (n : Int) : Option (Bool × Out) := some (true, ⟨.one (.bool (inr 0 5 n)), [], []⟩)
def G_pyr_validLevels : Summ := fun args lent => pO args fun c' args => kI c' fun n => pE args <| nE lent <| H_pyr_validLevels n
def H_pyr_Count (n : Int) : Option (Bool × Out) := some (true, ⟨.one (.int .i64 (count n)), [], []⟩)
def G_pyr_Count : Summ := fun args lent => pO args fun c' args => kI c' fun n => pE args <| nE lent <| H_pyr_Count n
def H_pyr_Place (i n : Int) : Option (Bool × Out) := some (true, ⟨.tup [(false, [.int .i64 (plLv i n)]), (false, [.int .i64 (plOr i n)]), (false, [.bool (plOk i n)])], [], []⟩)
def G_pyr_Place : Summ := fun args lent => pO args fun c' args => kI c' fun i => pO args fun c' args => kI c' fun n => pE args <| nE lent <| H_pyr_Place i n
def H_pyr_Indices (n r : Int) : Option (Bool × Out) := some (true, ⟨.one (.row 0), [], [.arr 3 (.int .i64) (idxs n r)]⟩)
def G_pyr_Indices : Summ := fun args lent => pO args fun c' args => kI c' fun n => pO args fun c' args => kI c' fun r => pE args <| nE lent <| H_pyr_Indices n r
def H_pyr_Resolution (a b c d n r : Int) : Option (Bool × Out) := some (true, ⟨.agg [.int .i64 ((resR a b c d n r).1), .int .i64 ((resR a b c d n r).2.1), .int .i64 ((resR a b c d n r).2.2.1), .int .i64 ((resR a b c d n r).2.2.2)], [], []⟩)
def G_pyr_Resolution : Summ := fun args lent => pA args fun q' args => tC q' fun c' q' => kI c' fun a => tC q' fun c' q' => kI c' fun b => tC q' fun c' q' => kI c' fun c => tC q' fun c' q' => kI c' fun d => tE q' <| pO args fun c' args => kI c' fun n => pO args fun c' args => kI c' fun r => pE args <| nE lent <| H_pyr_Resolution a b c d n r
def H_dwt_Bands (a b c d : Int) : Option (Bool × Out) := some (true, ⟨.agg [.int .i64 ((bnd a b c d 0).1), .int .i64 ((bnd a b c d 0).2.1), .int .i64 ((bnd a b c d 0).2.2.1), .int .i64 ((bnd a b c d 0).2.2.2), .int .i64 ((bnd a b c d 1).1), .int .i64 ((bnd a b c d 1).2.1), .int .i64 ((bnd a b c d 1).2.2.1), .int .i64 ((bnd a b c d 1).2.2.2), .int .i64 ((bnd a b c d 2).1), .int .i64 ((bnd a b c d 2).2.1), .int .i64 ((bnd a b c d 2).2.2.1), .int .i64 ((bnd a b c d 2).2.2.2), .int .i64 ((bnd a b c d 3).1), .int .i64 ((bnd a b c d 3).2.1), .int .i64 ((bnd a b c d 3).2.2.1), .int .i64 ((bnd a b c d 3).2.2.2)], [], []⟩)
def G_dwt_Bands : Summ := fun args lent => pA args fun q' args => tC q' fun c' q' => kI c' fun a => tC q' fun c' q' => kI c' fun b => tC q' fun c' q' => kI c' fun c => tC q' fun c' q' => kI c' fun d => tE q' <| pE args <| nE lent <| H_dwt_Bands a b c d
def H_pyr_Band (a b c d n i : Int) : Option (Bool × Out) := some (true, ⟨.agg [.int .i64 ((bandR a b c d n i).1), .int .i64 ((bandR a b c d n i).2.1), .int .i64 ((bandR a b c d n i).2.2.1), .int .i64 ((bandR a b c d n i).2.2.2)], [], []⟩)
def G_pyr_Band : Summ := fun args lent => pA args fun q' args => tC q' fun c' q' => kI c' fun a => tC q' fun c' q' => kI c' fun b => tC q' fun c' q' => kI c' fun c => tC q' fun c' q' => kI c' fun d => tE q' <| pO args fun c' args => kI c' fun n => pO args fun c' args => kI c' fun i => pE args <| nE lent <| H_pyr_Band a b c d n i
def H_params_cells (a b c d x y : Int) : Option (Bool × Out) := some ((inr 0 12 x && inr 0 12 y), ⟨.one (.int .i64 (cellsN a b c d x y)), [], []⟩)
def G_params_cells : Summ := fun args lent => pA args fun q' args => tC q' fun c' q' => kI c' fun a => tC q' fun c' q' => kI c' fun b => tC q' fun c' q' => kI c' fun c => tC q' fun c' q' => kI c' fun d => tE q' <| pO args fun c' args => kI c' fun x => pO args fun c' args => kI c' fun y => pE args <| nE lent <| H_params_cells a b c d x y
end Go.Rx.Ch24

set_option linter.unusedVariables false
namespace Go.Rx.Ch24
open Go.Rx
def cellsOk (a b c d w h : Int) : Bool := valid a b c d && (decide (1 ≤ w) && decide (w ≤ 4096)) && (decide (1 ≤ h) && decide (h ≤ 4096))
def tileR (a b c d w h i j : Int) : Rc := inter a b c d (i * w) (j * h) ((i + 1) * w) ((j + 1) * h)
def rowL (a b c d w h j : Int) : Nat → Int → List Rc
  | 0, _ => []
  | n + 1, i => tileR a b c d w h i j :: rowL a b c d w h j n (i + 1)
def gridL (a b c d w h l : Int) (m : Nat) : Nat → Int → List Rc
  | 0, _ => []
  | n + 1, j => rowL a b c d w h j m l ++ gridL a b c d w h l m n (j + 1)
def tilesL (a b c d w h : Int) : List Rc := if !valid a b c d || empty a b c d || decide (w < 1) || decide (h < 1) then [] else if (cdiv c w - fdiv a w) * (cdiv d h - fdiv b h) > 65536 then [] else gridL a b c d w h (fdiv a w) (cdiv c w - fdiv a w).toNat (cdiv d h - fdiv b h).toNat (fdiv b h)
def c_rect_Cells_0 (a b c d w h l g u j : Int) (t : List Rc) : LT := .leaf (.exit 0) [.one (.row 0)] [some (.arr 23 (.pair (.int .i64) (.pair (.int .i64) (.pair (.int .i64) (.int .i64)))) (t ++ gridL a b c d w h l (g - l).toNat (u - j).toNat j))]
def k_rect_Cells_0 (a b c d w h l g u j : Int) (t : List Rc) : Bool := cellsOk a b c d w h && (decide (0 ≤ l) && decide (l ≤ g) && decide (g ≤ 4096)) && (decide (0 ≤ j) && decide (j ≤ u) && decide (u ≤ 4096)) && decide ((t.length : Int) + 4096 * (u - j) ≤ 68719476736)
def S_rect_Cells_0 : List V → List (Option Blk) → Option (Bool × LT) := fun vs bl => pO vs fun c' vs => kI c' fun w => pO vs fun c' vs => kI c' fun h => pO vs fun c' vs => kP 0 0 c' <| pO vs fun c' vs => kI c' fun l => pO vs fun c' vs => kI c' fun g => pO vs fun c' vs => kI c' fun u => pO vs fun c' vs => kR 1 c' <| pO vs fun c' vs => kI c' fun j => pE vs <| bB bl fun q' bl => tC q' fun c' q' => kI c' fun a => tC q' fun c' q' => kI c' fun b => tC q' fun c' q' => kI c' fun c => tC q' fun c' q' => kI c' fun d => tE q' <| bAR 23 bl fun t bl => bE bl <| some (k_rect_Cells_0 a b c d w h l g u j t, c_rect_Cells_0 a b c d w h l g u j t)
def c_rect_Cells_1 (a b c d w h l g u j i : Int) (t : List Rc) : LT := .leaf (.exit 2) [.one (.int .i64 w), .one (.int .i64 h), .one (.ptr 0 0), .one (.int .i64 l), .one (.int .i64 g), .one (.int .i64 u), .one (.row 1), .one (.int .i64 j)] [some (.box [.int .i64 a, .int .i64 b, .int .i64 c, .int .i64 d]), some (.arr 23 (.pair (.int .i64) (.pair (.int .i64) (.pair (.int .i64) (.int .i64)))) (t ++ rowL a b c d w h j (g - i).toNat i))]
def k_rect_Cells_1 (a b c d w h l g u j i : Int) (t : List Rc) : Bool := cellsOk a b c d w h && (decide (0 ≤ i) && decide (i ≤ g) && decide (g ≤ 4096)) && (decide (0 ≤ j) && decide (j ≤ 4096)) && decide ((t.length : Int) + (g - i) ≤ 68719476736)
def S_rect_Cells_1 : List V → List (Option Blk) → Option (Bool × LT) := fun vs bl => pO vs fun c' vs => kI c' fun w => pO vs fun c' vs => kI c' fun h => pO vs fun c' vs => kP 0 0 c' <| pO vs fun c' vs => kI c' fun l => pO vs fun c' vs => kI c' fun g => pO vs fun c' vs => kI c' fun u => pO vs fun c' vs => kR 1 c' <| pO vs fun c' vs => kI c' fun j => pO vs fun c' vs => kI c' fun i => pE vs <| bB bl fun q' bl => tC q' fun c' q' => kI c' fun a => tC q' fun c' q' => kI c' fun b => tC q' fun c' q' => kI c' fun c => tC q' fun c' q' => kI c' fun d => tE q' <| bAR 23 bl fun t bl => bE bl <| some (k_rect_Cells_1 a b c d w h l g u j i t, c_rect_Cells_1 a b c d w h l g u j i t)
def H_rect_Cells (a b c d w h : Int) : Option (Bool × Out) := some ((decide (w ≤ 4096) && decide (h ≤ 4096)), ⟨.one (.row 0), [], [.arr 23 (.pair (.int .i64) (.pair (.int .i64) (.pair (.int .i64) (.int .i64)))) (tilesL a b c d w h)]⟩)
def G_rect_Cells : Summ := fun args lent => pA args fun q' args => tC q' fun c' q' => kI c' fun a => tC q' fun c' q' => kI c' fun b => tC q' fun c' q' => kI c' fun c => tC q' fun c' q' => kI c' fun d => tE q' <| pO args fun c' args => kI c' fun w => pO args fun c' args => kI c' fun h => pE args <| nE lent <| H_rect_Cells a b c d w h
end Go.Rx.Ch24

set_option linter.unusedVariables false
namespace Go.Rx.Ch24
open Go.Rx
def validR (r : Rc) : Bool := valid r.1 r.2.1 r.2.2.1 r.2.2.2
def cellsR (r : Rc) (x y : Int) : Int := cellsN r.1 r.2.1 r.2.2.1 r.2.2.2 x y
def bX (p : Pm) (res : Int) : Int := min p.bx ((prec p res).1 - (if res > 0 then 1 else 0))
def bY (p : Pm) (res : Int) : Int := min p.bw ((prec p res).2 - (if res > 0 then 1 else 0))
def bandC (r : Rc) (p : Pm) (res k : Int) : Int := cellsR (bandR r.1 r.2.1 r.2.2.1 r.2.2.2 p.le k) (bX p res) (bY p res)
def resOK (r : Rc) (p : Pm) (res : Int) : Bool := (idxs p.le res).all fun k => decide (bandC r p res k ≤ 65536)
def resN (r : Rc) (p : Pm) (res : Int) : Int := cellsR (resR r.1 r.2.1 r.2.2.1 r.2.2.2 p.le res) (prec p res).1 (prec p res).2
def sumN (r : Rc) (p : Pm) : Nat → Int
  | 0 => 0
  | k + 1 => sumN r p k + resN r p k
def compOK (r : Rc) (p : Pm) : Bool := (List.range (p.le + 1).toNat).all fun k => resOK r p k
def compN (r : Rc) (p : Pm) : Int := sumN r p (p.le + 1).toNat
def redT (t : Rc) (c : Int × Bool × Int × Int) : Rc := reduce t.1 t.2.1 t.2.2.1 t.2.2.2 c.2.2.1 c.2.2.2
def totN (t : Rc) (p : Pm) (l : List (Int × Bool × Int × Int)) : Nat → Int
  | 0 => 0
  | k + 1 => totN t p l k + compN (redT t (gC l k)) p
def compsOK (t : Rc) (p : Pm) (l : List (Int × Bool × Int × Int)) : Bool := (List.range l.length).all fun k => compOK (redT t (gC l k)) p
def packs (t : Rc) (p : Pm) (l : List (Int × Bool × Int × Int)) : Int := p.la * totN t p l l.length
def fits (t : Rc) (p : Pm) (l : List (Int × Bool × Int × Int)) : Bool := compsOK t p l && decide (packs t p l ≤ 65536)
def maxF (f : Nat → Int) : Nat → Int → Int
  | 0, s => s
  | k + 1, s => max (maxF f k s) (f k)
def bandB (r : Rc) (p : Pm) (k : Nat) : Int := bandC r p (((k : Int) + 2) / 3) k
def compB (r : Rc) (p : Pm) (s : Int) : Int := maxF (bandB r p) (3 * p.le + 1).toNat s
def blksN (t : Rc) (p : Pm) (l : List (Int × Bool × Int × Int)) : Nat → Int
  | 0 => 0
  | k + 1 => compB (redT t (gC l k)) p (blksN t p l k)
def blks (t : Rc) (p : Pm) (l : List (Int × Bool × Int × Int)) : Int := blksN t p l l.length
def c_tileFits_0 (p : Pm) (l : List (Int × Bool × Int × Int)) (a b c d s n i : Int) : LT := .br (compsOK (a, b, c, d) p l) (.leaf (.exit 0) [.one (.int .i64 (packs (a, b, c, d) p l))] []) (.leaf .ret [.one (.bool false)] [])
def k_tileFits_0 (p : Pm) (l : List (Int × Bool × Int × Int)) (a b c d s n i : Int) : Bool := nums p && valid a b c d && decide (s = 0) && decide (i = 0) && decide (n = (l.length : Int)) && decide (l.length ≤ 4)
def S_tileFits_0 : List V → List (Option Blk) → Option (Bool × LT) := fun vs bl => pO vs fun c' vs => kP 0 0 c' <| pO vs fun c' vs => kP 1 0 c' <| pO vs fun c' vs => kI c' fun s => pO vs fun c' vs => kLC c' fun l => pO vs fun c' vs => kI c' fun n => pO vs fun c' vs => kI c' fun i => pE vs <| bB bl fun q' bl => rdPm q' fun p => bB bl fun q' bl => tC q' fun c' q' => kI c' fun a => tC q' fun c' q' => kI c' fun b => tC q' fun c' q' => kI c' fun c => tC q' fun c' q' => kI c' fun d => tE q' <| bE bl <| some (k_tileFits_0 p l a b c d s n i, c_tileFits_0 p l a b c d s n i)
def c_tileFits_1 (p : Pm) (l : List (Int × Bool × Int × Int)) (a b c d e f g o s n i res : Int) : LT := .br (compOK (e, f, g, o) p) (.leaf (.exit 2) [.one (.ptr 0 0), .one (.ptr 1 0), .one (.int .i64 (s + p.la * compN (e, f, g, o) p)), .one (.lst (.pair (.int .i64) (.pair .bool (.pair (.int .i64) (.int .i64)))) l), .one (.int .i64 n), .one (.int .i64 i)] [some (.box (pmC p)), some (.box [.int .i64 a, .int .i64 b, .int .i64 c, .int .i64 d])]) (.leaf .ret [.one (.bool false)] [])
def k_tileFits_1 (p : Pm) (l : List (Int × Bool × Int × Int)) (a b c d e f g o s n i res : Int) : Bool := nums p && valid e f g o && (decide (0 ≤ s) && decide (s ≤ 1099511627776)) && decide (res = 0)
def S_tileFits_1 : List V → List (Option Blk) → Option (Bool × LT) := fun vs bl => pO vs fun c' vs => kP 0 0 c' <| pO vs fun c' vs => kP 1 0 c' <| pO vs fun c' vs => kI c' fun s => pO vs fun c' vs => kP 2 0 c' <| pO vs fun c' vs => kI c' fun res => pO vs fun c' vs => kLC c' fun l => pO vs fun c' vs => kI c' fun n => pO vs fun c' vs => kI c' fun i => pE vs <| bB bl fun q' bl => rdPm q' fun p => bB bl fun q' bl => tC q' fun c' q' => kI c' fun a => tC q' fun c' q' => kI c' fun b => tC q' fun c' q' => kI c' fun c => tC q' fun c' q' => kI c' fun d => tE q' <| bB bl fun q' bl => tC q' fun c' q' => kI c' fun e => tC q' fun c' q' => kI c' fun f => tC q' fun c' q' => kI c' fun g => tC q' fun c' q' => kI c' fun o => tE q' <| bE bl <| some (k_tileFits_1 p l a b c d e f g o s n i res, c_tileFits_1 p l a b c d e f g o s n i res)
def p_tileFits_2 (p : Pm) (l : List (Int × Bool × Int × Int)) (t : List Int) (a b c d e f g o x y s m u res : Int) : Bool := t.all (fun k => decide (cellsR (bandR e f g o p.le k) (min p.bx x) (min p.bw y) ≤ 65536))
def c_tileFits_2 (p : Pm) (l : List (Int × Bool × Int × Int)) (t : List Int) (a b c d e f g o x y s m u res : Int) : LT := .br (p_tileFits_2 p l t a b c d e f g o x y s m u res) (.leaf (.exit 4) [.one (.ptr 0 0), .one (.ptr 1 0), .one (.int .i64 s), .one (.ptr 2 0), .one (.int .i64 res), .one (.lst (.pair (.int .i64) (.pair .bool (.pair (.int .i64) (.int .i64)))) l), .one (.int .i64 m), .one (.int .i64 u)] [some (.box (pmC p)), some (.box [.int .i64 a, .int .i64 b, .int .i64 c, .int .i64 d]), some (.box [.int .i64 e, .int .i64 f, .int .i64 g, .int .i64 o])]) (.leaf .ret [.one (.bool false)] [])
def k_tileFits_2 (p : Pm) (l : List (Int × Bool × Int × Int)) (t : List Int) (a b c d e f g o x y s m u res : Int) (n i : Int) : Bool := decide (i = 0) && decide (n = (t.length : Int)) && small (t.length) && inr 0 12 (min p.bx x) && inr 0 12 (min p.bw y)
def S_tileFits_2 : List V → List (Option Blk) → Option (Bool × LT) := fun vs bl => pO vs fun c' vs => kP 0 0 c' <| pO vs fun c' vs => kP 1 0 c' <| pO vs fun c' vs => kI c' fun s => pO vs fun c' vs => kP 2 0 c' <| pO vs fun c' vs => kI c' fun res => pO vs fun c' vs => kP 3 0 c' <| pO vs fun c' vs => kLC c' fun l => pO vs fun c' vs => kI c' fun m => pO vs fun c' vs => kI c' fun u => pO vs fun c' vs => kR 4 c' <| pO vs fun c' vs => kI c' fun n => pO vs fun c' vs => kI c' fun i => pE vs <| bB bl fun q' bl => rdPm q' fun p => bB bl fun q' bl => tC q' fun c' q' => kI c' fun a => tC q' fun c' q' => kI c' fun b => tC q' fun c' q' => kI c' fun c => tC q' fun c' q' => kI c' fun d => tE q' <| bB bl fun q' bl => tC q' fun c' q' => kI c' fun e => tC q' fun c' q' => kI c' fun f => tC q' fun c' q' => kI c' fun g => tC q' fun c' q' => kI c' fun o => tE q' <| bB bl fun q' bl => tC q' fun c' q' => kI c' fun x => tC q' fun c' q' => kI c' fun y => tE q' <| bAI 3 bl fun t bl => bE bl <| some (k_tileFits_2 p l t a b c d e f g o x y s m u res n i, c_tileFits_2 p l t a b c d e f g o x y s m u res)
def H_tileFits (h : Hd) (p : Pm) (a b c d : Int) : Option (Bool × Out) := some ((nums p && valid a b c d && small h.cs.length && decide (h.cs.length ≤ 4)), ⟨.one (.bool (fits (a, b, c, d) p h.cs)), [], []⟩)
def G_tileFits : Summ := fun args lent => pA args fun q' args => rdHd q' fun h => pA args fun q' args => rdPm q' fun p => pA args fun q' args => tC q' fun c' q' => kI c' fun a => tC q' fun c' q' => kI c' fun b => tC q' fun c' q' => kI c' fun c => tC q' fun c' q' => kI c' fun d => tE q' <| pE args <| nE lent <| H_tileFits h p a b c d
end Go.Rx.Ch24

set_option linter.unusedVariables false
namespace Go.Rx.Ch24
open Go.Rx
def checkA (h : Hd) (p : Pm) : Int := if header h ≠ 0 then header h else if !kinds p then 3 else if !(nums p && colors h p) then 13 else if (tilesL h.a h.b h.c h.d h.tw h.th).all (fun r => fits r p h.cs) then 0 else 5
def fitsB (r : Rc) (p : Pm) (l : List (Int × Bool × Int × Int)) : Bool := decide (packs r p l ≤ 65536) && decide (blks r p l ≤ 65536)
def checkB (h : Hd) (p : Pm) : Int := if header h ≠ 0 then header h else if !kinds p then 3 else if !nums p then 13 else if !colors h p then 13 else if (tilesL h.a h.b h.c h.d h.tw h.th).all (fun r => fitsB r p h.cs) then 0 else 5
def p_params_Check_0 (h : Hd) (p : Pm) (t : List Rc) : Bool := t.all (fun r => fits r p h.cs)
def c_params_Check_0 (h : Hd) (p : Pm) (t : List Rc) : LT := .br (p_params_Check_0 h p t) (.leaf (.exit 0) [] []) (.leaf .ret [.one (.int .i64 5)] [])
def k_params_Check_0 (h : Hd) (p : Pm) (t : List Rc) (n i : Int) : Bool := decide (i = 0) && decide (n = (t.length : Int)) && small (t.length) && nums p && t.all validR && decide (h.cs.length ≤ 4)
def S_params_Check_0 : List V → List (Option Blk) → Option (Bool × LT) := fun vs bl => pO vs fun c' vs => kP 0 0 c' <| pO vs fun c' vs => kP 1 0 c' <| pO vs fun c' vs => kR 2 c' <| pO vs fun c' vs => kI c' fun n => pO vs fun c' vs => kI c' fun i => pE vs <| bB bl fun q' bl => rdHd q' fun h => bB bl fun q' bl => rdPm q' fun p => bAR 23 bl fun t bl => bE bl <| some (k_params_Check_0 h p t n i, c_params_Check_0 h p t)
def H_params_Check (h : Hd) (p : Pm) : Option (Bool × Out) := some ((small h.cs.length && (small p.pr.length && small p.st.length)), ⟨.one (.int .i64 (checkA h p)), [], []⟩)
def G_params_Check : Summ := fun args lent => pA args fun q' args => rdHd q' fun h => pA args fun q' args => rdPm q' fun p => pE args <| nE lent <| H_params_Check h p
end Go.Rx.Ch24

set_option linter.unusedVariables false
namespace Go.Rx.Ch24
open Go.Rx
def has (a b c d x y : Int) : Bool := decide (a ≤ x) && decide (x < c) && decide (b ≤ y) && decide (y < d)
def spN (f t e : Int) : Int := (t - 1) / pw e - f / pw e + 1
def prN (a c x : Int) : Int := cdiv c (pw x) - fdiv a (pw x)
def gridS (a b c d x y m : Int) : Rc := if !valid a b c d || empty a b c d || !(inr 0 m x && inr 0 m y) then (0, 0, 0, 0) else if prN a c x * prN b d y > 65536 then (0, 0, 0, 0) else (fdiv a (pw x), fdiv b (pw y), prN a c x, prN b d y)
def precN (a b c d x y : Int) : Int × Int := ((gridS a b c d x y 12).2.2.1, (gridS a b c d x y 12).2.2.2)
def H_rect_Has (a b c d x y : Int) : Option (Bool × Out) := some (true, ⟨.one (.bool (has a b c d x y)), [], []⟩)
def G_rect_Has : Summ := fun args lent => pA args fun q' args => tC q' fun c' q' => kI c' fun a => tC q' fun c' q' => kI c' fun b => tC q' fun c' q' => kI c' fun c => tC q' fun c' q' => kI c' fun d => tE q' <| pA args fun q' args => tC q' fun c' q' => kI c' fun x => tC q' fun c' q' => kI c' fun y => tE q' <| pE args <| nE lent <| H_rect_Has a b c d x y
def H_pa_exponents (a b m : Int) : Option (Bool × Out) := some (true, ⟨.one (.bool (inr 0 m a && inr 0 m b)), [], []⟩)
def G_pa_exponents : Summ := fun args lent => pO args fun c' args => kI c' fun a => pO args fun c' args => kI c' fun b => pO args fun c' args => kI c' fun m => pE args <| nE lent <| H_pa_exponents a b m
def H_pa_span (f t e : Int) : Option (Bool × Out) := some ((inr 0 4096 f && inr 0 4096 t && inr 0 12 e), ⟨.tup [(false, [.int .i64 (f / pw e)]), (false, [.int .i64 (spN f t e)])], [], []⟩)
def G_pa_span : Summ := fun args lent => pO args fun c' args => kI c' fun f => pO args fun c' args => kI c' fun t => pO args fun c' args => kI c' fun e => pE args <| nE lent <| H_pa_span f t e
def H_pa_cell (c r a b : Int) : Option (Bool × Out) := some ((inr 0 4096 c && inr 0 4096 r && inr 0 12 a && inr 0 12 b), ⟨.agg [.int .i64 (((c * pw a, r * pw b, (c + 1) * pw a, (r + 1) * pw b)).1), .int .i64 (((c * pw a, r * pw b, (c + 1) * pw a, (r + 1) * pw b)).2.1), .int .i64 (((c * pw a, r * pw b, (c + 1) * pw a, (r + 1) * pw b)).2.2.1), .int .i64 (((c * pw a, r * pw b, (c + 1) * pw a, (r + 1) * pw b)).2.2.2)], [], []⟩)
def G_pa_cell : Summ := fun args lent => pO args fun c' args => kI c' fun c => pO args fun c' args => kI c' fun r => pO args fun c' args => kI c' fun a => pO args fun c' args => kI c' fun b => pE args <| nE lent <| H_pa_cell c r a b
def H_pa_grid (a b c d x y m : Int) : Option (Bool × Out) := some (decide (m ≤ 12), ⟨.tup [(false, [.int .i64 ((gridS a b c d x y m).1)]), (false, [.int .i64 ((gridS a b c d x y m).2.1)]), (false, [.int .i64 ((gridS a b c d x y m).2.2.1)]), (false, [.int .i64 ((gridS a b c d x y m).2.2.2)])], [], []⟩)
def G_pa_grid : Summ := fun args lent => pA args fun q' args => tC q' fun c' q' => kI c' fun a => tC q' fun c' q' => kI c' fun b => tC q' fun c' q' => kI c' fun c => tC q' fun c' q' => kI c' fun d => tE q' <| pO args fun c' args => kI c' fun x => pO args fun c' args => kI c' fun y => pO args fun c' args => kI c' fun m => pE args <| nE lent <| H_pa_grid a b c d x y m
def H_pa_Precincts (a b c d x y : Int) : Option (Bool × Out) := some (true, ⟨.tup [(false, [.int .i64 ((precN a b c d x y).1)]), (false, [.int .i64 ((precN a b c d x y).2)])], [], []⟩)
def G_pa_Precincts : Summ := fun args lent => pA args fun q' args => tC q' fun c' q' => kI c' fun a => tC q' fun c' q' => kI c' fun b => tC q' fun c' q' => kI c' fun c => tC q' fun c' q' => kI c' fun d => tE q' <| pO args fun c' args => kI c' fun x => pO args fun c' args => kI c' fun y => pE args <| nE lent <| H_pa_Precincts a b c d x y
def plcOk (a b c d x y i : Int) : Bool := decide (0 ≤ i) && decide (i < (precN a b c d x y).1 * (precN a b c d x y).2)
def plcC (a b c d x y i : Int) : Int := if plcOk a b c d x y i then fdiv a (pw x) + i % (precN a b c d x y).1 else 0
def plcR (a b c d x y i : Int) : Int := if plcOk a b c d x y i then fdiv b (pw y) + i / (precN a b c d x y).1 else 0
def H_pa_place (a b c d x y i : Int) : Option (Bool × Out) := some (true, ⟨.tup [(false, [.int .i64 (plcC a b c d x y i)]), (false, [.int .i64 (plcR a b c d x y i)]), (false, [.bool (plcOk a b c d x y i)])], [], []⟩)
def G_pa_place : Summ := fun args lent => pA args fun q' args => tC q' fun c' q' => kI c' fun a => tC q' fun c' q' => kI c' fun b => tC q' fun c' q' => kI c' fun c => tC q' fun c' q' => kI c' fun d => tE q' <| pO args fun c' args => kI c' fun x => pO args fun c' args => kI c' fun y => pO args fun c' args => kI c' fun i => pE args <| nE lent <| H_pa_place a b c d x y i
def cellT (c r x y : Int) : Rc := (c * pw x, r * pw y, (c + 1) * pw x, (r + 1) * pw y)
def interR (r s : Rc) : Rc := inter r.1 r.2.1 r.2.2.1 r.2.2.2 s.1 s.2.1 s.2.2.1 s.2.2.2
def inbOk (a b c d e f g q o x y i : Int) : Bool := plcOk a b c d x y i && valid e f g q && inr 0 3 o && (decide (o = 0) || decide (x ≠ 0) && decide (y ≠ 0))
def inbR (a b c d e f g q o x y i : Int) : Rc := if inbOk a b c d e f g q o x y i then interR (e, f, g, q) (cellT (plcC a b c d x y i) (plcR a b c d x y i) (if o = 0 then x else x - 1) (if o = 0 then y else y - 1)) else (0, 0, 0, 0)
def H_pa_InBand (a b c d e f g q o x y i : Int) : Option (Bool × Out) := some (true, ⟨.tup [(true, [.int .i64 ((inbR a b c d e f g q o x y i).1), .int .i64 ((inbR a b c d e f g q o x y i).2.1), .int .i64 ((inbR a b c d e f g q o x y i).2.2.1), .int .i64 ((inbR a b c d e f g q o x y i).2.2.2)]), (false, [.bool (inbOk a b c d e f g q o x y i)])], [], []⟩)
def G_pa_InBand : Summ := fun args lent => pA args fun q' args => tC q' fun c' q' => kI c' fun a => tC q' fun c' q' => kI c' fun b => tC q' fun c' q' => kI c' fun c => tC q' fun c' q' => kI c' fun d => tE q' <| pA args fun q' args => tC q' fun c' q' => kI c' fun e => tC q' fun c' q' => kI c' fun f => tC q' fun c' q' => kI c' fun g => tC q' fun c' q' => kI c' fun q => tE q' <| pO args fun c' args => kI c' fun o => pO args fun c' args => kI c' fun x => pO args fun c' args => kI c' fun y => pO args fun c' args => kI c' fun i => pE args <| nE lent <| H_pa_InBand a b c d e f g q o x y i
end Go.Rx.Ch24

set_option linter.unusedVariables false
namespace Go.Rx.Ch24
open Go.Rx
def blkRow (a b c d x y r : Int) : Nat → Int → List Rc
  | 0, _ => []
  | n + 1, k => interR (a, b, c, d) (cellT k r x y) :: blkRow a b c d x y r n (k + 1)
def blkGrid (a b c d x y k0 : Int) (m : Nat) : Nat → Int → List Rc
  | 0, _ => []
  | n + 1, r => blkRow a b c d x y r m k0 ++ blkGrid a b c d x y k0 m n (r + 1)
def blkL (a b c d x y : Int) : List Rc := blkGrid a b c d x y (gridS a b c d x y 6).1 (gridS a b c d x y 6).2.2.1.toNat (gridS a b c d x y 6).2.2.2.toNat (gridS a b c d x y 6).2.1
def c_pa_Blocks_0 (a b c d x y m n h l u i : Int) (t : List Rc) : LT := .leaf (.exit 0) [.one (.int .i64 m), .one (.int .i64 n), .one (.row 0)] [some (.arr 23 (.pair (.int .i64) (.pair (.int .i64) (.pair (.int .i64) (.int .i64)))) (t ++ blkGrid a b c d x y h m.toNat (u - i).toNat (l + i)))]
def k_pa_Blocks_0 (a b c d x y m n h l u i : Int) (t : List Rc) : Bool := (inr 0 12 x && inr 0 12 y) && (decide (0 ≤ h) && decide (h + m ≤ 4096) && decide (0 ≤ m)) && (decide (0 ≤ l) && decide (l + u ≤ 4096)) && (decide (0 ≤ i) && decide (i ≤ u)) && decide ((t.length : Int) + 4096 * (u - i) ≤ 68719476736)
def S_pa_Blocks_0 : List V → List (Option Blk) → Option (Bool × LT) := fun vs bl => pO vs fun c' vs => kI c' fun x => pO vs fun c' vs => kI c' fun y => pO vs fun c' vs => kP 0 0 c' <| pO vs fun c' vs => kI c' fun m => pO vs fun c' vs => kI c' fun n => pO vs fun c' vs => kR 1 c' <| pO vs fun c' vs => kI c' fun h => pO vs fun c' vs => kI c' fun l => pO vs fun c' vs => kI c' fun u => pO vs fun c' vs => kI c' fun i => pE vs <| bB bl fun q' bl => tC q' fun c' q' => kI c' fun a => tC q' fun c' q' => kI c' fun b => tC q' fun c' q' => kI c' fun c => tC q' fun c' q' => kI c' fun d => tE q' <| bAR 23 bl fun t bl => bE bl <| some (k_pa_Blocks_0 a b c d x y m n h l u i t, c_pa_Blocks_0 a b c d x y m n h l u i t)
def c_pa_Blocks_1 (a b c d x y m n h l s u v g q : Int) (t : List Rc) : LT := .leaf (.exit 2) [.one (.int .i64 x), .one (.int .i64 y), .one (.ptr 0 0), .one (.int .i64 m), .one (.int .i64 n), .one (.row 1), .one (.int .i64 h), .one (.int .i64 l), .one (.int .i64 u), .one (.int .i64 v)] [some (.box [.int .i64 a, .int .i64 b, .int .i64 c, .int .i64 d]), some (.arr 23 (.pair (.int .i64) (.pair (.int .i64) (.pair (.int .i64) (.int .i64)))) (t ++ blkRow a b c d x y (l + s) (g - q).toNat (h + q)))]
def k_pa_Blocks_1 (a b c d x y m n h l s u v g q : Int) (t : List Rc) : Bool := (inr 0 12 x && inr 0 12 y) && (decide (0 ≤ h) && decide (h + g ≤ 4096)) && (decide (0 ≤ l + s) && decide (l + s ≤ 4096)) && (decide (0 ≤ q) && decide (q ≤ g)) && decide ((t.length : Int) + (g - q) ≤ 68719476736)
def S_pa_Blocks_1 : List V → List (Option Blk) → Option (Bool × LT) := fun vs bl => pO vs fun c' vs => kI c' fun x => pO vs fun c' vs => kI c' fun y => pO vs fun c' vs => kP 0 0 c' <| pO vs fun c' vs => kI c' fun m => pO vs fun c' vs => kI c' fun n => pO vs fun c' vs => kR 1 c' <| pO vs fun c' vs => kI c' fun h => pO vs fun c' vs => kI c' fun l => pO vs fun c' vs => kI c' fun s => pO vs fun c' vs => kI c' fun u => pO vs fun c' vs => kI c' fun v => pO vs fun c' vs => kI c' fun g => pO vs fun c' vs => kI c' fun q => pE vs <| bB bl fun q' bl => tC q' fun c' q' => kI c' fun a => tC q' fun c' q' => kI c' fun b => tC q' fun c' q' => kI c' fun c => tC q' fun c' q' => kI c' fun d => tE q' <| bAR 23 bl fun t bl => bE bl <| some (k_pa_Blocks_1 a b c d x y m n h l s u v g q t, c_pa_Blocks_1 a b c d x y m n h l s u v g q t)
def H_pa_Blocks (a b c d x y : Int) : Option (Bool × Out) := some ((inr 0 12 x && inr 0 12 y), ⟨.tup [(false, [.int .i64 (gridS a b c d x y 6).2.2.1]), (false, [.int .i64 (gridS a b c d x y 6).2.2.2]), (false, [.row 0])], [], [.arr 23 (.pair (.int .i64) (.pair (.int .i64) (.pair (.int .i64) (.int .i64)))) (blkL a b c d x y)]⟩)
def G_pa_Blocks : Summ := fun args lent => pA args fun q' args => tC q' fun c' q' => kI c' fun a => tC q' fun c' q' => kI c' fun b => tC q' fun c' q' => kI c' fun c => tC q' fun c' q' => kI c' fun d => tE q' <| pO args fun c' args => kI c' fun x => pO args fun c' args => kI c' fun y => pE args <| nE lent <| H_pa_Blocks a b c d x y
end Go.Rx.Ch24

set_option linter.unusedVariables false
namespace Go.Rx.Ch24
open Go.Rx
def tilesH (h : Hd) : List Rc := if header h ≠ 0 then [] else tilesL h.a h.b h.c h.d h.tw h.th
def compT (h : Hd) (t k : Int) : Rc := if t < 0 ∨ t ≥ (tilesH h).length ∨ k < 0 ∨ k ≥ h.cs.length then (0, 0, 0, 0) else redT (gR (tilesH h) t.toNat) (gC h.cs k.toNat)
def H_lay_Tiles (h : Hd) : Option (Bool × Out) := some (small h.cs.length, ⟨.one (.row 0), [], [.arr 23 (.pair (.int .i64) (.pair (.int .i64) (.pair (.int .i64) (.int .i64)))) (tilesH h)]⟩)
def G_lay_Tiles : Summ := fun args lent => pA args fun q' args => rdHd q' fun h => pE args <| nE lent <| H_lay_Tiles h
end Go.Rx.Ch24

set_option linter.unusedVariables false
namespace Go.Rx.Ch24
open Go.Rx
end Go.Rx.Ch24

set_option linter.unusedVariables false
namespace Go.Rx.Ch24
open Go.Rx
def existsB (h : Hd) (p : Pm) (t k : Int) : Bool := decide (checkA h p = 0) && decide (0 ≤ t) && decide (t < (tilesH h).length) && decide (0 ≤ k) && decide (k < h.cs.length)
def rsR (r : Rc) (p : Pm) (s : Int) : Rc := resR r.1 r.2.1 r.2.2.1 r.2.2.2 p.le s
def rsN (r : Rc) (p : Pm) (s : Int) : Int × Int := precN (rsR r p s).1 (rsR r p s).2.1 (rsR r p s).2.2.1 (rsR r p s).2.2.2 (prec p s).1 (prec p s).2
def resS (h : Hd) (p : Pm) (t k s : Int) : Rc := if existsB h p t k && inr 0 p.le s then rsR (compT h t k) p s else (0, 0, 0, 0)
def resM (h : Hd) (p : Pm) (t k s : Int) : Int × Int := if existsB h p t k && inr 0 p.le s then rsN (compT h t k) p s else (0, 0)
def H_lay_Component (h : Hd) (t k : Int) : Option (Bool × Out) := some (small h.cs.length, ⟨.agg [.int .i64 ((compT h t k).1), .int .i64 ((compT h t k).2.1), .int .i64 ((compT h t k).2.2.1), .int .i64 ((compT h t k).2.2.2)], [], []⟩)
def G_lay_Component : Summ := fun args lent => pA args fun q' args => rdHd q' fun h => pO args fun c' args => kI c' fun t => pO args fun c' args => kI c' fun k => pE args <| nE lent <| H_lay_Component h t k
def H_lay_exists (h : Hd) (p : Pm) (t k : Int) : Option (Bool × Out) := some ((small h.cs.length && (small p.pr.length && small p.st.length)), ⟨.one (.bool (existsB h p t k)), [], []⟩)
def G_lay_exists : Summ := fun args lent => pA args fun q' args => rdHd q' fun h => pA args fun q' args => rdPm q' fun p => pO args fun c' args => kI c' fun t => pO args fun c' args => kI c' fun k => pE args <| nE lent <| H_lay_exists h p t k
def H_lay_Resolution (h : Hd) (p : Pm) (t k s : Int) : Option (Bool × Out) := some ((small h.cs.length && (small p.pr.length && small p.st.length)), ⟨.tup [(true, [.int .i64 ((resS h p t k s).1), .int .i64 ((resS h p t k s).2.1), .int .i64 ((resS h p t k s).2.2.1), .int .i64 ((resS h p t k s).2.2.2)]), (false, [.int .i64 ((resM h p t k s).1)]), (false, [.int .i64 ((resM h p t k s).2)])], [], []⟩)
def G_lay_Resolution : Summ := fun args lent => pA args fun q' args => rdHd q' fun h => pA args fun q' args => rdPm q' fun p => pO args fun c' args => kI c' fun t => pO args fun c' args => kI c' fun k => pO args fun c' args => kI c' fun s => pE args <| nE lent <| H_lay_Resolution h p t k s
end Go.Rx.Ch24

set_option linter.unusedVariables false
namespace Go.Rx.Ch24
open Go.Rx
def inO (r : Rc) (p : Pm) (b i : Int) : Bool := inbOk (rsR r p ((b + 2) / 3)).1 (rsR r p ((b + 2) / 3)).2.1 (rsR r p ((b + 2) / 3)).2.2.1 (rsR r p ((b + 2) / 3)).2.2.2 (bandR r.1 r.2.1 r.2.2.1 r.2.2.2 p.le b).1 (bandR r.1 r.2.1 r.2.2.1 r.2.2.2 p.le b).2.1 (bandR r.1 r.2.1 r.2.2.1 r.2.2.2 p.le b).2.2.1 (bandR r.1 r.2.1 r.2.2.1 r.2.2.2 p.le b).2.2.2 (plOr b p.le) (prec p ((b + 2) / 3)).1 (prec p ((b + 2) / 3)).2 i
def inT (r : Rc) (p : Pm) (b i : Int) : Rc := inbR (rsR r p ((b + 2) / 3)).1 (rsR r p ((b + 2) / 3)).2.1 (rsR r p ((b + 2) / 3)).2.2.1 (rsR r p ((b + 2) / 3)).2.2.2 (bandR r.1 r.2.1 r.2.2.1 r.2.2.2 p.le b).1 (bandR r.1 r.2.1 r.2.2.1 r.2.2.2 p.le b).2.1 (bandR r.1 r.2.1 r.2.2.1 r.2.2.2 p.le b).2.2.1 (bandR r.1 r.2.1 r.2.2.1 r.2.2.2 p.le b).2.2.2 (plOr b p.le) (prec p ((b + 2) / 3)).1 (prec p ((b + 2) / 3)).2 i
def fndOk (r : Rc) (p : Pm) (b i : Int) : Bool := plOk b p.le && inO r p b i
def fndG (r : Rc) (p : Pm) (b i : Int) : Int × Int × Int × Int := gridS (inT r p b i).1 (inT r p b i).2.1 (inT r p b i).2.2.1 (inT r p b i).2.2.2 (bX p ((b + 2) / 3)) (bY p ((b + 2) / 3)) 6
def fndN (r : Rc) (p : Pm) (b i : Int) : Int × Int := if fndOk r p b i then (fndG r p b i).2.2 else (0, 0)
def fndL (r : Rc) (p : Pm) (b i : Int) : List Rc := if fndOk r p b i then blkL (inT r p b i).1 (inT r p b i).2.1 (inT r p b i).2.2.1 (inT r p b i).2.2.2 (bX p ((b + 2) / 3)) (bY p ((b + 2) / 3)) else []
def gridN (h : Hd) (p : Pm) (t k b i : Int) : Int × Int := if existsB h p t k then fndN (compT h t k) p b i else (0, 0)
def H_lay_find (h : Hd) (p : Pm) (t k b i : Int) : Option (Bool × Out) := some ((small h.cs.length && (small p.pr.length && small p.st.length) && existsB h p t k), ⟨.agg [.int .i64 (fndN (compT h t k) p b i).1, .int .i64 (fndN (compT h t k) p b i).2, .row 0], [], [.arr 23 (.pair (.int .i64) (.pair (.int .i64) (.pair (.int .i64) (.int .i64)))) (fndL (compT h t k) p b i)]⟩)
def G_lay_find : Summ := fun args lent => pA args fun q' args => rdHd q' fun h => pA args fun q' args => rdPm q' fun p => pO args fun c' args => kI c' fun t => pO args fun c' args => kI c' fun k => pO args fun c' args => kI c' fun b => pO args fun c' args => kI c' fun i => pE args <| nE lent <| H_lay_find h p t k b i
def H_lay_Grid (h : Hd) (p : Pm) (t k b i : Int) : Option (Bool × Out) := some ((small h.cs.length && (small p.pr.length && small p.st.length)), ⟨.tup [(false, [.int .i64 (gridN h p t k b i).1]), (false, [.int .i64 (gridN h p t k b i).2])], [], []⟩)
def G_lay_Grid : Summ := fun args lent => pA args fun q' args => rdHd q' fun h => pA args fun q' args => rdPm q' fun p => pO args fun c' args => kI c' fun t => pO args fun c' args => kI c' fun k => pO args fun c' args => kI c' fun b => pO args fun c' args => kI c' fun i => pE args <| nE lent <| H_lay_Grid h p t k b i
end Go.Rx.Ch24

set_option linter.unusedVariables false
namespace Go.Rx.Ch24
open Go.Rx
abbrev Bk := Int × Int × Int × Int × Int × Int × Int × Int × Int
def kF {α : Type} (f : FuncId) (l : List Nat) (c : C) (x : Option α) : Option α := match c with | .fn g m => (match decide (g = f), decide (m = l) with | true, true => x | _, _ => none) | _ => none
theorem kF_s {α : Type} {r : α} {f : FuncId} {l : List Nat} {c : C} {x : Option α} (h : kF f l c x = some r) : c = .fn f l ∧ x = some r := by
  unfold kF at h
  split at h
  · split at h
    · rename_i h1 h2; exact ⟨by rw [of_decide_eq_true h1, of_decide_eq_true h2], h⟩
    · cases h
  · cases h
def bkT (k s b i : Int) (l : List Rc) (n : Nat) : List Bk := (List.range n).map fun (j : Nat) => (k, s, b, i, (j : Int), gR l j)
def bkL (k s b i : Int) (l : List Rc) : List Bk := bkT k s b i l l.length
def pcU (r : Rc) (p : Pm) (k s i : Int) : List (List Bk) := (idxs p.le s).map fun b => bkL k s b i (fndL r p b i)
def pcL (r : Rc) (p : Pm) (k s i : Int) : List Bk := (pcU r p k s i).flatten
def blocksL (h : Hd) (p : Pm) (t k s i : Int) : List Bk := if existsB h p t k then pcL (compT h t k) p k s i else []
def catT (u : List (List Bk)) (j : Nat) : List Bk := (u.take j).flatten
def c_lay_join_0 (u : List (List Bk)) (t : List Bk) (n i : Int) : LT := .leaf (.exit 0) [.one (.row 0)] [some (.arr 65 (.pair (.int .i64) (.pair (.int .i64) (.pair (.int .i64) (.pair (.int .i64) (.pair (.int .i64) (.pair (.int .i64) (.pair (.int .i64) (.pair (.int .i64) (.int .i64))))))))) u.flatten)]
def k_lay_join_0 (u : List (List Bk)) (t : List Bk) (n i : Int) : Bool := decide (n = (u.length : Int)) && decide (i = 0) && decide (t = []) && small u.length && decide (u.flatten.length ≤ 1900000000000)
def S_lay_join_0 : List V → List (Option Blk) → Option (Bool × LT) := fun vs bl => pO vs fun c' vs => kR 0 c' <| pO vs fun c' vs => kLM c' fun u => pO vs fun c' vs => kI c' fun n => pO vs fun c' vs => kI c' fun i => pE vs <| bAK 65 bl fun t bl => bE bl <| some (k_lay_join_0 u t n i, c_lay_join_0 u t n i)
def H_lay_join (u : List (List Bk)) : Option (Bool × Out) := some ((small u.length && decide (u.flatten.length ≤ 1900000000000)), ⟨.one (.row 0), [], [.arr 65 (.pair (.int .i64) (.pair (.int .i64) (.pair (.int .i64) (.pair (.int .i64) (.pair (.int .i64) (.pair (.int .i64) (.pair (.int .i64) (.pair (.int .i64) (.int .i64))))))))) u.flatten]⟩)
def G_lay_join : Summ := fun args lent => pO args fun c' args => kLM c' fun u => pE args <| nE lent <| H_lay_join u
def c_lay_of_0 (h : Hd) (p : Pm) (t m s i y b n j : Int) (v : List Bk) (l : List Rc) : LT := .leaf (.exit 0) [.one (.row 4)] [some (.box (hdC h)), some (.box (pmC p)), some (.box [.int .i64 t]), some (.box [.int .i64 m, .int .i64 s, .int .i64 i, .int .i64 y]), some (.arr 65 (.pair (.int .i64) (.pair (.int .i64) (.pair (.int .i64) (.pair (.int .i64) (.pair (.int .i64) (.pair (.int .i64) (.pair (.int .i64) (.pair (.int .i64) (.int .i64))))))))) (bkL m s b i l))]
def k_lay_of_0 (h : Hd) (p : Pm) (t m s i y b n j : Int) (v : List Bk) (l : List Rc) : Bool := decide (n = (l.length : Int)) && decide (j = 0) && decide (v = []) && decide (l.length ≤ 65536)
def S_lay_of_0 : List V → List (Option Blk) → Option (Bool × LT) := fun vs bl => pO vs fun c' vs => kI c' fun b => pO vs fun c' vs => kP 3 0 c' <| pO vs fun c' vs => kR 4 c' <| pO vs fun c' vs => kR 5 c' <| pO vs fun c' vs => kI c' fun n => pO vs fun c' vs => kI c' fun j => pE vs <| bB bl fun q' bl => rdHd q' fun h => bB bl fun q' bl => rdPm q' fun p => bB bl fun q' bl => tC q' fun c' q' => kI c' fun t => tE q' <| bB bl fun q' bl => tC q' fun c' q' => kI c' fun m => tC q' fun c' q' => kI c' fun s => tC q' fun c' q' => kI c' fun i => tC q' fun c' q' => kI c' fun y => tE q' <| bAK 65 bl fun v bl => bAR 23 bl fun l bl => bE bl <| some (k_lay_of_0 h p t m s i y b n j v l, c_lay_of_0 h p t m s i y b n j v l)
def H_lay_of (h : Hd) (p : Pm) (t m s i y b : Int) : Option (Bool × Out) := some ((small h.cs.length && (small p.pr.length && small p.st.length) && existsB h p t m), ⟨.one (.row 4), [some (.box (hdC h)), some (.box (pmC p)), some (.box [.int .i64 t]), some (.box [.int .i64 m, .int .i64 s, .int .i64 i, .int .i64 y])], [.arr 65 (.pair (.int .i64) (.pair (.int .i64) (.pair (.int .i64) (.pair (.int .i64) (.pair (.int .i64) (.pair (.int .i64) (.pair (.int .i64) (.pair (.int .i64) (.int .i64))))))))) (bkL m s b i (fndL (compT h t m) p b i))]⟩)
def G_lay_of : Summ := fun args lent => pO args fun c' args => kI c' fun b => pO args fun c' args => kP 0 0 c' <| pO args fun c' args => kP 1 0 c' <| pO args fun c' args => kP 2 0 c' <| pO args fun c' args => kP 3 0 c' <| pE args <| nB lent fun q' lent => rdHd q' fun h => nB lent fun q' lent => rdPm q' fun p => nB lent fun q' lent => tC q' fun c' q' => kI c' fun t => tE q' <| nB lent fun q' lent => tC q' fun c' q' => kI c' fun m => tC q' fun c' q' => kI c' fun s => tC q' fun c' q' => kI c' fun i => tC q' fun c' q' => kI c' fun y => tE q' <| nE lent <| H_lay_of h p t m s i y b
end Go.Rx.Ch24

set_option linter.unusedVariables false
namespace Go.Rx.Ch24
open Go.Rx
def ofT (r : Rc) (p : Pm) (m s i : Int) (l : List Int) (j : Nat) : List (List Bk) := (List.range j).map fun q => bkL m s (gI l q) i (fndL r p (gI l q) i)
def c_lay_precinct_0 (h : Hd) (p : Pm) (t m s i y n j : Int) (u : List (List Bk)) (l : List Int) : LT := .leaf (.exit 0) [.one (.row 0)] [some (.arr 53 (.sl (.pair (.int .i64) (.pair (.int .i64) (.pair (.int .i64) (.pair (.int .i64) (.pair (.int .i64) (.pair (.int .i64) (.pair (.int .i64) (.pair (.int .i64) (.int .i64)))))))))) (ofT (compT h t m) p m s i l l.length))]
def k_lay_precinct_0 (h : Hd) (p : Pm) (t m s i y n j : Int) (u : List (List Bk)) (l : List Int) : Bool := decide (n = (l.length : Int)) && decide (j = 0) && decide (u = []) && decide (l.length ≤ 3) && (small h.cs.length && (small p.pr.length && small p.st.length) && existsB h p t m)
def S_lay_precinct_0 : List V → List (Option Blk) → Option (Bool × LT) := fun vs bl => pO vs fun c' vs => kF 82 [0, 1, 2, 3] c' <| pO vs fun c' vs => kR 4 c' <| pO vs fun c' vs => kR 5 c' <| pO vs fun c' vs => kI c' fun n => pO vs fun c' vs => kI c' fun j => pE vs <| bB bl fun q' bl => rdHd q' fun h => bB bl fun q' bl => rdPm q' fun p => bB bl fun q' bl => tC q' fun c' q' => kI c' fun t => tE q' <| bB bl fun q' bl => tC q' fun c' q' => kI c' fun m => tC q' fun c' q' => kI c' fun s => tC q' fun c' q' => kI c' fun i => tC q' fun c' q' => kI c' fun y => tE q' <| bAM 53 bl fun u bl => bAI 3 bl fun l bl => bE bl <| some (k_lay_precinct_0 h p t m s i y n j u l, c_lay_precinct_0 h p t m s i y n j u l)
def H_lay_precinct (h : Hd) (p : Pm) (t m s i y : Int) : Option (Bool × Out) := some ((small h.cs.length && (small p.pr.length && small p.st.length) && existsB h p t m), ⟨.one (.row 0), [], [.arr 65 (.pair (.int .i64) (.pair (.int .i64) (.pair (.int .i64) (.pair (.int .i64) (.pair (.int .i64) (.pair (.int .i64) (.pair (.int .i64) (.pair (.int .i64) (.int .i64))))))))) (pcL (compT h t m) p m s i)]⟩)
def G_lay_precinct : Summ := fun args lent => pA args fun q' args => rdHd q' fun h => pA args fun q' args => rdPm q' fun p => pO args fun c' args => kI c' fun t => pA args fun q' args => tC q' fun c' q' => kI c' fun m => tC q' fun c' q' => kI c' fun s => tC q' fun c' q' => kI c' fun i => tC q' fun c' q' => kI c' fun y => tE q' <| pE args <| nE lent <| H_lay_precinct h p t m s i y
end Go.Rx.Ch24

set_option linter.unusedVariables false
namespace Go.Rx.Ch24
open Go.Rx
instance dec4 : DecidableEq (Int × Int × Int × Int) := inferInstance
instance dec5 : DecidableEq (Int × Int × Int × Int × Int) := inferInstance
instance dec6 : DecidableEq (Int × Int × Int × Int × Int × Int) := inferInstance
instance dec7 : DecidableEq (Int × Int × Int × Int × Int × Int × Int) := inferInstance
instance dec8 : DecidableEq (Int × Int × Int × Int × Int × Int × Int × Int) := inferInstance
instance dec9 : DecidableEq (Int × Int × Int × Int × Int × Int × Int × Int × Int) := inferInstance
def rsK (r : Rc) (p : Pm) (s : Int) : Nat := ((rsN r p s).1 * (rsN r p s).2).toNat
def pcs (r : Rc) (p : Pm) (m s : Int) (n : Nat) : List (List Bk) := (List.range n).map fun (i : Nat) => pcL r p m s i
def rss (r : Rc) (p : Pm) (m : Int) (n : Nat) : List (List Bk) := (List.range n).flatMap fun (s : Nat) => pcs r p m s (rsK r p s)
def cmps (h : Hd) (p : Pm) (t : Int) (n : Nat) : List (List Bk) := (List.range n).flatMap fun (m : Nat) => rss (compT h t m) p m (p.le + 1).toNat
def allU (h : Hd) (p : Pm) (t : Int) : List (List Bk) := if existsB h p t 0 then cmps h p t h.cs.length else []
def allL (h : Hd) (p : Pm) (t : Int) : List Bk := (allU h p t).flatten
def pkN (h : Hd) (p : Pm) (t : Int) : Int := if existsB h p t 0 then packs (gR (tilesH h) t.toNat) p h.cs else 0
def H_lay_Blocks (h : Hd) (p : Pm) (t m s i y : Int) : Option (Bool × Out) := some ((small h.cs.length && (small p.pr.length && small p.st.length)), ⟨.one (.row 0), [], [.arr 65 (.pair (.int .i64) (.pair (.int .i64) (.pair (.int .i64) (.pair (.int .i64) (.pair (.int .i64) (.pair (.int .i64) (.pair (.int .i64) (.pair (.int .i64) (.int .i64))))))))) (blocksL h p t m s i)]⟩)
def G_lay_Blocks : Summ := fun args lent => pA args fun q' args => rdHd q' fun h => pA args fun q' args => rdPm q' fun p => pO args fun c' args => kI c' fun t => pA args fun q' args => tC q' fun c' q' => kI c' fun m => tC q' fun c' q' => kI c' fun s => tC q' fun c' q' => kI c' fun i => tC q' fun c' q' => kI c' fun y => tE q' <| pE args <| nE lent <| H_lay_Blocks h p t m s i y
def c_lay_Packets_0 (h : Hd) (p : Pm) (t a n j : Int) : LT := .leaf (.exit 0) [.one (.ptr 0 0), .one (.int .i64 (totN (gR (tilesH h) t.toNat) p h.cs h.cs.length))] [some (.box (pmC p))]
def k_lay_Packets_0 (h : Hd) (p : Pm) (t a n j : Int) : Bool := decide (a = 0) && decide (n = (h.cs.length : Int)) && decide (j = 0) && (small h.cs.length && (small p.pr.length && small p.st.length) && existsB h p t 0)
def S_lay_Packets_0 : List V → List (Option Blk) → Option (Bool × LT) := fun vs bl => pO vs fun c' vs => kI c' fun t => pO vs fun c' vs => kP 0 0 c' <| pO vs fun c' vs => kP 1 0 c' <| pO vs fun c' vs => kI c' fun a => pO vs fun c' vs => kI c' fun n => pO vs fun c' vs => kI c' fun j => pE vs <| bB bl fun q' bl => rdHd q' fun h => bB bl fun q' bl => rdPm q' fun p => bE bl <| some (k_lay_Packets_0 h p t a n j, c_lay_Packets_0 h p t a n j)
def c_lay_Packets_1 (h : Hd) (p : Pm) (t a m s n j : Int) : LT := .leaf (.exit 2) [.one (.int .i64 t), .one (.ptr 0 0), .one (.ptr 1 0), .one (.int .i64 (a + compN (compT h t m) p)), .one (.int .i64 n), .one (.int .i64 j)] [some (.box (hdC h)), some (.box (pmC p))]
def k_lay_Packets_1 (h : Hd) (p : Pm) (t a m s n j : Int) : Bool := decide (s = 0) && (decide (0 ≤ a) && decide (a ≤ 1099511627776)) && (small h.cs.length && (small p.pr.length && small p.st.length) && existsB h p t m)
def S_lay_Packets_1 : List V → List (Option Blk) → Option (Bool × LT) := fun vs bl => pO vs fun c' vs => kI c' fun t => pO vs fun c' vs => kP 0 0 c' <| pO vs fun c' vs => kP 1 0 c' <| pO vs fun c' vs => kI c' fun a => pO vs fun c' vs => kI c' fun m => pO vs fun c' vs => kI c' fun s => pO vs fun c' vs => kI c' fun n => pO vs fun c' vs => kI c' fun j => pE vs <| bB bl fun q' bl => rdHd q' fun h => bB bl fun q' bl => rdPm q' fun p => bE bl <| some (k_lay_Packets_1 h p t a m s n j, c_lay_Packets_1 h p t a m s n j)
def H_lay_Packets (h : Hd) (p : Pm) (t : Int) : Option (Bool × Out) := some ((small h.cs.length && (small p.pr.length && small p.st.length)), ⟨.one (.int .i64 (pkN h p t)), [], []⟩)
def G_lay_Packets : Summ := fun args lent => pA args fun q' args => rdHd q' fun h => pA args fun q' args => rdPm q' fun p => pO args fun c' args => kI c' fun t => pE args <| nE lent <| H_lay_Packets h p t
end Go.Rx.Ch24

set_option linter.unusedVariables false
namespace Go.Rx.Ch24
open Go.Rx
def c_lay_All_0 (h : Hd) (p : Pm) (t n j : Int) (u : List (List Bk)) : LT := .leaf (.exit 0) [.one (.row 0)] [some (.arr 53 (.sl (.pair (.int .i64) (.pair (.int .i64) (.pair (.int .i64) (.pair (.int .i64) (.pair (.int .i64) (.pair (.int .i64) (.pair (.int .i64) (.pair (.int .i64) (.int .i64)))))))))) (cmps h p t h.cs.length))]
def k_lay_All_0 (h : Hd) (p : Pm) (t n j : Int) (u : List (List Bk)) : Bool := decide (n = (h.cs.length : Int)) && decide (j = 0) && decide (u = []) && (small h.cs.length && (small p.pr.length && small p.st.length) && existsB h p t 0)
def S_lay_All_0 : List V → List (Option Blk) → Option (Bool × LT) := fun vs bl => pO vs fun c' vs => kI c' fun t => pO vs fun c' vs => kP 0 0 c' <| pO vs fun c' vs => kP 1 0 c' <| pO vs fun c' vs => kR 2 c' <| pO vs fun c' vs => kI c' fun n => pO vs fun c' vs => kI c' fun j => pE vs <| bB bl fun q' bl => rdHd q' fun h => bB bl fun q' bl => rdPm q' fun p => bAM 53 bl fun u bl => bE bl <| some (k_lay_All_0 h p t n j u, c_lay_All_0 h p t n j u)
def c_lay_All_1 (h : Hd) (p : Pm) (t m s n j : Int) (u : List (List Bk)) : LT := .leaf (.exit 2) [.one (.int .i64 t), .one (.ptr 0 0), .one (.ptr 1 0), .one (.row 2), .one (.int .i64 n), .one (.int .i64 j)] [some (.box (hdC h)), some (.box (pmC p)), some (.arr 53 (.sl (.pair (.int .i64) (.pair (.int .i64) (.pair (.int .i64) (.pair (.int .i64) (.pair (.int .i64) (.pair (.int .i64) (.pair (.int .i64) (.pair (.int .i64) (.int .i64)))))))))) (u ++ rss (compT h t m) p m (p.le + 1).toNat))]
def k_lay_All_1 (h : Hd) (p : Pm) (t m s n j : Int) (u : List (List Bk)) : Bool := decide (s = 0) && decide (u.length + 393216 ≤ 2000000) && (small h.cs.length && (small p.pr.length && small p.st.length) && existsB h p t m)
def S_lay_All_1 : List V → List (Option Blk) → Option (Bool × LT) := fun vs bl => pO vs fun c' vs => kI c' fun t => pO vs fun c' vs => kP 0 0 c' <| pO vs fun c' vs => kP 1 0 c' <| pO vs fun c' vs => kR 2 c' <| pO vs fun c' vs => kI c' fun m => pO vs fun c' vs => kI c' fun s => pO vs fun c' vs => kI c' fun n => pO vs fun c' vs => kI c' fun j => pE vs <| bB bl fun q' bl => rdHd q' fun h => bB bl fun q' bl => rdPm q' fun p => bAM 53 bl fun u bl => bE bl <| some (k_lay_All_1 h p t m s n j u, c_lay_All_1 h p t m s n j u)
def c_lay_All_2 (h : Hd) (p : Pm) (t m s n j w i : Int) (u : List (List Bk)) : LT := .leaf (.exit 4) [.one (.int .i64 t), .one (.ptr 0 0), .one (.ptr 1 0), .one (.row 2), .one (.int .i64 m), .one (.int .i64 s), .one (.int .i64 n), .one (.int .i64 j)] [some (.box (hdC h)), some (.box (pmC p)), some (.arr 53 (.sl (.pair (.int .i64) (.pair (.int .i64) (.pair (.int .i64) (.pair (.int .i64) (.pair (.int .i64) (.pair (.int .i64) (.pair (.int .i64) (.pair (.int .i64) (.int .i64)))))))))) (u ++ pcs (compT h t m) p m s w.toNat))]
def k_lay_All_2 (h : Hd) (p : Pm) (t m s n j w i : Int) (u : List (List Bk)) : Bool := decide (i = 0) && (decide (0 ≤ w) && decide (w ≤ 65536)) && decide (u.length + 65536 ≤ 2000000) && (small h.cs.length && (small p.pr.length && small p.st.length) && existsB h p t m)
def S_lay_All_2 : List V → List (Option Blk) → Option (Bool × LT) := fun vs bl => pO vs fun c' vs => kI c' fun t => pO vs fun c' vs => kP 0 0 c' <| pO vs fun c' vs => kP 1 0 c' <| pO vs fun c' vs => kR 2 c' <| pO vs fun c' vs => kI c' fun m => pO vs fun c' vs => kI c' fun s => pO vs fun c' vs => kI c' fun n => pO vs fun c' vs => kI c' fun j => pO vs fun c' vs => kI c' fun w => pO vs fun c' vs => kI c' fun i => pE vs <| bB bl fun q' bl => rdHd q' fun h => bB bl fun q' bl => rdPm q' fun p => bAM 53 bl fun u bl => bE bl <| some (k_lay_All_2 h p t m s n j w i u, c_lay_All_2 h p t m s n j w i u)
def H_lay_All (h : Hd) (p : Pm) (t : Int) : Option (Bool × Out) := some ((small h.cs.length && (small p.pr.length && small p.st.length)), ⟨.one (.row 0), [], [.arr 65 (.pair (.int .i64) (.pair (.int .i64) (.pair (.int .i64) (.pair (.int .i64) (.pair (.int .i64) (.pair (.int .i64) (.pair (.int .i64) (.pair (.int .i64) (.int .i64))))))))) (allL h p t)]⟩)
def G_lay_All : Summ := fun args lent => pA args fun q' args => rdHd q' fun h => pA args fun q' args => rdPm q' fun p => pO args fun c' args => kI c' fun t => pE args <| nE lent <| H_lay_All h p t
end Go.Rx.Ch24

set_option linter.unusedVariables false
namespace Go.Rx.Ch24
open Go.Rx
end Go.Rx.Ch24

set_option linter.unusedVariables false
namespace Go.Rx.Ch24
open Go.Rx
def area4 (a b c d : Int) : Int := if inr 0 4096 a && inr 0 4096 b && inr 0 4096 c && inr 0 4096 d then max 0 (c - a) * max 0 (d - b) else 0
def smallB (h : Hd) (p : Pm) : Bool := decide (h.cs.length ≤ 10) && decide (area4 h.a h.b h.c h.d ≤ 1600) && decide (p.st.length ≤ 40) && decide (p.pr.length ≤ 40)
def H_law_area (a b c d : Int) : Option (Bool × Out) := some (true, ⟨.one (.int .i64 (area4 a b c d)), [], []⟩)
def G_law_area : Summ := fun args lent => pA args fun q' args => tC q' fun c' q' => kI c' fun a => tC q' fun c' q' => kI c' fun b => tC q' fun c' q' => kI c' fun c => tC q' fun c' q' => kI c' fun d => tE q' <| pE args <| nE lent <| H_law_area a b c d
def H_law_small (h : Hd) (p : Pm) : Option (Bool × Out) := some (true, ⟨.one (.bool (smallB h p)), [], []⟩)
def G_law_small : Summ := fun args lent => pA args fun q' args => rdHd q' fun h => pA args fun q' args => rdPm q' fun p => pE args <| nE lent <| H_law_small h p
def exCs : List (Int × Bool × Int × Int) := [(8, false, 1, 1)]
def exPr : List (Int × Int) := [(3, 3), (3, 3)]
def exSt : List Int := [1, 1, 1, 1]
def H_law_example  : Option (Bool × Out) := some (true, ⟨.tup [(true, [.int .i64 0, .int .i64 0, .int .i64 16, .int .i64 16, .int .i64 16, .int .i64 16, .row 0]), (true, [.int .i64 2, .int .i64 1, .int .i64 0, .int .i64 2, .int .i64 2, .row 1, .int .i64 1, .int .i64 3, .bool false, .bool false, .bool false, .bool false, .bool false, .bool false, .bool false, .bool false, .row 2, .int .i64 16, .int .i64 0])], [], [.arr 73 (.pair (.int .i64) (.pair .bool (.pair (.int .i64) (.int .i64)))) exCs, .arr 61 (.pair (.int .i64) (.int .i64)) exPr, .arr 3 (.int .i64) exSt]⟩)
def G_law_example : Summ := fun args lent => pE args <| nE lent <| H_law_example 
def H_awake  : Option (Bool × Out) := some (true, ⟨.one (.bool true), [], []⟩)
def G_awake : Summ := fun args lent => pE args <| nE lent <| H_awake 
end Go.Rx.Ch24

set_option linter.unusedVariables false
namespace Go.Rx.Ch24
open Go.Rx
end Go.Rx.Ch24

set_option linter.unusedVariables false
namespace Go.Rx.Ch24
open Go.Rx
end Go.Rx.Ch24

set_option linter.unusedVariables false
namespace Go.Rx.Ch24
open Go.Rx
def sumTo (f : Nat → Int) : Nat → Int
  | 0 => 0
  | n + 1 => sumTo f n + f n
def sumM {α : Type} (f : α → Int) : List α → Int
  | [] => 0
  | x :: l => f x + sumM f l
def ind (x y : Int) (r : Rc) : Int := if has r.1 r.2.1 r.2.2.1 r.2.2.2 x y then 1 else 0
def wh (r : Rc) : Int := (r.2.2.1 - r.1) * (r.2.2.2 - r.2.1)
def wgt (M : Rc → Int) (c b : Int) (e : Bk) : Int := if e.1 = c ∧ e.2.2.1 = b then M e.2.2.2.2.2 else 0
def cntT (v : List Rc) (x z : Int) : Int := sumTo (fun j => ind x z (gR v j)) v.length
def cntE (v : List Bk) (x z c b : Int) : Int := sumTo (fun j => wgt (ind x z) c b (gK v j)) v.length
def sumE (v : List Bk) (c b : Int) : Int := sumTo (fun j => wgt wh c b (gK v j)) v.length
def goodR (B : Rc) (p : Pm) (g : Rc) : Bool := contains B.1 B.2.1 B.2.2.1 B.2.2.2 g.1 g.2.1 g.2.2.1 g.2.2.2 && decide (1 ≤ g.2.2.1 - g.1) && decide (1 ≤ g.2.2.2 - g.2.1) && decide (g.2.2.1 - g.1 ≤ pw p.bx) && decide (g.2.2.2 - g.2.1 ≤ pw p.bw)
def goodE (B : Rc) (p : Pm) (c b : Int) (e : Bk) : Bool := !(decide (e.1 = c) && decide (e.2.2.1 = b)) || goodR B p e.2.2.2.2.2
def ok_LayoutPartitions (h : Hd) (p : Pm) (t c s b i : Int) : Bool := true
def c_LayoutPartitions_0 (h : Hd) (p : Pm) (t c s b i x z q n j: Int) (v : List Rc) : LT := .leaf (.exit 0) [.one (.ptr 0 0), .one (.ptr 1 0), .one (.ptr 2 0), .one (.ptr 3 0), .one (.int .i64 (cntT v x z)), .one (.row 4)] [some (.box (hdC h)), some (.box (pmC p)), some (.box [.int .i64 t, .int .i64 c, .int .i64 s, .int .i64 b, .int .i64 i]), some (.box [.int .i64 x, .int .i64 z]), some (.arr 23 (.pair (.int .i64) (.pair (.int .i64) (.pair (.int .i64) (.int .i64)))) v)]
def k_LayoutPartitions_0 (h : Hd) (p : Pm) (t c s b i x z q n j: Int) (v : List Rc) : Bool := decide (q = 0) && decide (n = (v.length : Int)) && decide (j = 0) && decide (v.length ≤ 65536)
def S_LayoutPartitions_0 : List V → List (Option Blk) → Option (Bool × LT) := fun vs bl => pO vs fun c' vs => kP 0 0 c' <| pO vs fun c' vs => kP 1 0 c' <| pO vs fun c' vs => kP 2 0 c' <| pO vs fun c' vs => kP 3 0 c' <| pO vs fun c' vs => kI c' fun q => pO vs fun c' vs => kR 4 c' <| pO vs fun c' vs => kI c' fun n => pO vs fun c' vs => kI c' fun j => pE vs <| bB bl fun q' bl => rdHd q' fun h => bB bl fun q' bl => rdPm q' fun p => bB bl fun q' bl => tC q' fun c' q' => kI c' fun t => tC q' fun c' q' => kI c' fun c => tC q' fun c' q' => kI c' fun s => tC q' fun c' q' => kI c' fun b => tC q' fun c' q' => kI c' fun i => tE q' <| bB bl fun q' bl => tC q' fun c' q' => kI c' fun x => tC q' fun c' q' => kI c' fun z => tE q' <| bAR 23 bl fun v bl => bE bl <| some (k_LayoutPartitions_0 h p t c s b i x z q n j v, c_LayoutPartitions_0 h p t c s b i x z q n j v)
def c_LayoutPartitions_1 (p : Pm) (t c s b i x z q e f g o u n j : Int) (v : List Bk) : LT := .leaf (.exit 2) [.one (.ptr 0 0), .one (.int .i64 (cntE v x z c b)), .one (.ptr 1 0), .one (.int .i64 (sumE v c b))] [some (.box [.int .i64 x, .int .i64 z]), some (.box [.int .i64 e, .int .i64 f, .int .i64 g, .int .i64 o])]
def k_LayoutPartitions_1 (p : Pm) (t c s b i x z q e f g o u n j : Int) (v : List Bk) : Bool := decide (q = 0) && decide (u = 0) && decide (n = (v.length : Int)) && decide (j = 0) && nums p && valid e f g o && v.all (goodE (e, f, g, o) p c b) && decide (v.length ≤ 400000000000)
def S_LayoutPartitions_1 : List V → List (Option Blk) → Option (Bool × LT) := fun vs bl => pO vs fun c' vs => kP 0 0 c' <| pO vs fun c' vs => kP 1 0 c' <| pO vs fun c' vs => kP 2 0 c' <| pO vs fun c' vs => kI c' fun q => pO vs fun c' vs => kP 3 0 c' <| pO vs fun c' vs => kI c' fun u => pO vs fun c' vs => kR 4 c' <| pO vs fun c' vs => kI c' fun n => pO vs fun c' vs => kI c' fun j => pE vs <| bB bl fun q' bl => rdPm q' fun p => bB bl fun q' bl => tC q' fun c' q' => kI c' fun t => tC q' fun c' q' => kI c' fun c => tC q' fun c' q' => kI c' fun s => tC q' fun c' q' => kI c' fun b => tC q' fun c' q' => kI c' fun i => tE q' <| bB bl fun q' bl => tC q' fun c' q' => kI c' fun x => tC q' fun c' q' => kI c' fun z => tE q' <| bB bl fun q' bl => tC q' fun c' q' => kI c' fun e => tC q' fun c' q' => kI c' fun f => tC q' fun c' q' => kI c' fun g => tC q' fun c' q' => kI c' fun o => tE q' <| bAK 65 bl fun v bl => bE bl <| some (k_LayoutPartitions_1 p t c s b i x z q e f g o u n j v, c_LayoutPartitions_1 p t c s b i x z q e f g o u n j v)
def H_LayoutPartitions (h : Hd) (p : Pm) (t c s b i : Int) : Option (Bool × Out) := some (ok_LayoutPartitions h p t c s b i, ⟨.one (.bool true), [], []⟩)
def G_LayoutPartitions : Summ := fun args lent => pA args fun q' args => rdHd q' fun h => pA args fun q' args => rdPm q' fun p => pA args fun q' args => tC q' fun c' q' => kI c' fun t => tC q' fun c' q' => kI c' fun c => tC q' fun c' q' => kI c' fun s => tC q' fun c' q' => kI c' fun b => tC q' fun c' q' => kI c' fun i => tE q' <| pE args <| nE lent <| H_LayoutPartitions h p t c s b i
end Go.Rx.Ch24

