/- What the functions that the laws reach return, in closed form, and their summaries. -/
import Derived.Test.YtjbgacjgnhnecaaRxD
set_option linter.unnecessarySimpa false
set_option linter.unusedVariables false
namespace Go.Rx.Ch30
open Go.Rx
abbrev w (n : Int) : Int := IntKind.wrap .i64 n
def empty (a b c d : Int) : Bool := decide (a ≥ c) || decide (b ≥ d)
def valid (a b c d : Int) : Bool := decide (0 ≤ a) && decide (a ≤ c) && decide (c ≤ 4096) && decide (0 ≤ b) && decide (b ≤ d) && decide (d ≤ 4096)
def cdiv (a b : Int) : Int := if b < 1 then 0 else if Int.tmod a b > 0 then w (w (Int.tdiv a b) + 1) else w (Int.tdiv a b)
def fdiv (a b : Int) : Int := if b < 1 then 0 else if Int.tmod a b < 0 then w (w (Int.tdiv a b) - 1) else w (Int.tdiv a b)
def area (a b c d : Int) : Int := if valid a b c d then w (w (c - a) * w (d - b)) else 0
abbrev Rc := Int × Int × Int × Int
def reduce (a b c d x y : Int) : Rc := if !valid a b c d || decide (x < 1) || decide (x > 4096) || decide (y < 1) || decide (y > 4096) then (0, 0, 0, 0) else (cdiv a x, cdiv b y, cdiv c x, cdiv d y)
def inter (a b c d e f g h : Int) : Rc := if empty (max a e) (max b f) (min c g) (min d h) then (0, 0, 0, 0) else (max a e, max b f, min c g, min d h)
def H_rect_Empty (a b c d : Int) : Option (Bool × Out) := some (true, ⟨.one (.bool (empty a b c d)), [], []⟩)
def G_rect_Empty : Summ := fun args lent => pA args fun q' args => t4 q' fun a b c d q' => tE q' <| pE args <| nE lent <| H_rect_Empty a b c d
def H_rect_Valid (a b c d : Int) : Option (Bool × Out) := some (true, ⟨.one (.bool (valid a b c d)), [], []⟩)
def G_rect_Valid : Summ := fun args lent => pA args fun q' args => t4 q' fun a b c d q' => tE q' <| pE args <| nE lent <| H_rect_Valid a b c d
def H_rect_CeilDiv (a b : Int) : Option (Bool × Out) := some (true, ⟨.one (.int .i64 (cdiv a b)), [], []⟩)
def G_rect_CeilDiv : Summ := fun args lent => pI args fun a args => pI args fun b args => pE args <| nE lent <| H_rect_CeilDiv a b
def H_rect_FloorDiv (a b : Int) : Option (Bool × Out) := some (true, ⟨.one (.int .i64 (fdiv a b)), [], []⟩)
def G_rect_FloorDiv : Summ := fun args lent => pI args fun a args => pI args fun b args => pE args <| nE lent <| H_rect_FloorDiv a b
def H_rect_Area (a b c d : Int) : Option (Bool × Out) := some (true, ⟨.one (.int .i64 (area a b c d)), [], []⟩)
def G_rect_Area : Summ := fun args lent => pA args fun q' args => t4 q' fun a b c d q' => tE q' <| pE args <| nE lent <| H_rect_Area a b c d
def H_rect_Reduce (a b c d x y : Int) : Option (Bool × Out) := some (true, ⟨.agg [.int .i64 ((reduce a b c d x y).1), .int .i64 ((reduce a b c d x y).2.1), .int .i64 ((reduce a b c d x y).2.2.1), .int .i64 ((reduce a b c d x y).2.2.2)], [], []⟩)
def G_rect_Reduce : Summ := fun args lent => pA args fun q' args => t4 q' fun a b c d q' => tE q' <| pI args fun x args => pI args fun y args => pE args <| nE lent <| H_rect_Reduce a b c d x y
def H_rect_Intersect (a b c d e f g h : Int) : Option (Bool × Out) := some (true, ⟨.agg [.int .i64 ((inter a b c d e f g h).1), .int .i64 ((inter a b c d e f g h).2.1), .int .i64 ((inter a b c d e f g h).2.2.1), .int .i64 ((inter a b c d e f g h).2.2.2)], [], []⟩)
def G_rect_Intersect : Summ := fun args lent => pA args fun q' args => t4 q' fun a b c d q' => tE q' <| pA args fun q' args => t4 q' fun e f g h q' => tE q' <| pE args <| nE lent <| H_rect_Intersect a b c d e f g h
def H_ref01_Empty (a b c d : Int) : Option (Bool × Out) := some (true, ⟨.one (.bool (empty a b c d)), [], []⟩)
def G_ref01_Empty : Summ := fun args lent => pA args fun q' args => t4 q' fun a b c d q' => tE q' <| pE args <| nE lent <| H_ref01_Empty a b c d
def H_ref01_Valid (a b c d : Int) : Option (Bool × Out) := some (true, ⟨.one (.bool (valid a b c d)), [], []⟩)
def G_ref01_Valid : Summ := fun args lent => pA args fun q' args => t4 q' fun a b c d q' => tE q' <| pE args <| nE lent <| H_ref01_Valid a b c d
def H_ref01_Area (a b c d : Int) : Option (Bool × Out) := some (true, ⟨.one (.int .i64 (area a b c d)), [], []⟩)
def G_ref01_Area : Summ := fun args lent => pA args fun q' args => t4 q' fun a b c d q' => tE q' <| pE args <| nE lent <| H_ref01_Area a b c d
def inr (a b x : Int) : Bool := decide (a ≤ x) && decide (x ≤ b)
def within (a b : Int) (l : List Int) : Bool := l.all (inr a b)
def p_params_within_0 (a b : Int) (l : List Int) : Bool := l.all (inr a b)
def c_params_within_0 (a b : Int) (l : List Int) : LT := .br (p_params_within_0 a b l) (.leaf (.exit 0) [] []) (.leaf .ret [.one (.bool false)] [])
def k_params_within_0 (a b : Int) (l : List Int) (n i : Int) : Bool := decide (i = 0) && decide (n = (l.length : Int)) && small (l.length) && true
def D_params_within_0 {α : Type} (vs : List V) (bl : List (Option Blk)) (K : Int → Int → (List Int) → Int → Int → Option α) : Option α := pI vs fun a vs => pI vs fun b vs => pO vs fun c' vs => kLI c' fun l => pI vs fun n vs => pI vs fun i vs => pE vs <| bE bl <| K a b l n i
def S_params_within_0 : ST := fun vs bl => D_params_within_0 vs bl fun a b l n i => some (k_params_within_0 a b l n i, c_params_within_0 a b l)
def H_params_within (a b : Int) (l : List Int) : Option (Bool × Out) := some (small l.length, ⟨.one (.bool (within a b l)), [], []⟩)
def G_params_within : Summ := fun args lent => pI args fun a args => pI args fun b args => pO args fun c' args => kLI c' fun l => pE args <| nE lent <| H_params_within a b l
def prec (p : Pm) (r : Int) : Int × Int := if r < 0 ∨ p.le < r then (0, 0) else if p.pr.length = 0 then (12, 12) else if r ≥ p.pr.length then (0, 0) else gP p.pr r.toNat
def H_params_Precinct (p : Pm) (r : Int) : Option (Bool × Out) := some (true, ⟨.agg [.int .i64 ((prec p r).1), .int .i64 ((prec p r).2)], [], []⟩)
def G_params_Precinct : Summ := fun args lent => pA args fun q' args => rdPm q' fun p => pI args fun r args => pE args <| nE lent <| H_params_Precinct p r


def kinds (p : Pm) : Bool := inr 1 3 p.ke && inr 0 2 p.co && inr 1 5 p.od
def emptyR (r : Rc) : Bool := empty r.1 r.2.1 r.2.2.1 r.2.2.2
def areaR (r : Rc) : Int := area r.1 r.2.1 r.2.2.1 r.2.2.2
def redH (h : Hd) (c : Int × Bool × Int × Int) : Rc := reduce h.a h.b h.c h.d c.2.2.1 c.2.2.2
def okC (h : Hd) (c : Int × Bool × Int × Int) : Bool := inr 1 16 c.1 && inr 1 4 c.2.2.1 && inr 1 4 c.2.2.2 && !emptyR (redH h c)
def smC (h : Hd) (c : Int × Bool × Int × Int) : Bool := decide (areaR (redH h c) ≤ 1048576)
def tiles (h : Hd) : Int := w (w (cdiv h.c h.tw - fdiv h.a h.tw) * w (cdiv h.d h.th - fdiv h.b h.th))
def header (h : Hd) : Int := if !valid h.a h.b h.c h.d || empty h.a h.b h.c h.d || !inr 1 4096 h.tw || !inr 1 4096 h.th || !inr 1 4 h.cs.length || !h.cs.all (okC h) then 12 else if tiles h > 1024 || !h.cs.all (smC h) then 5 else 0
def p_params_Header_0 (h : Hd) (l : List (Int × Bool × Int × Int)) : Bool := l.all (okC h)
def c_params_Header_0 (h : Hd) (l : List (Int × Bool × Int × Int)) : LT := .br (p_params_Header_0 h l) (.leaf (.exit 0) [.one (.ptr 0 0)] [some (.box (hdC h))]) (.leaf .ret [.one (.int .i64 12)] [])
def k_params_Header_0 (h : Hd) (l : List (Int × Bool × Int × Int)) (n i : Int) : Bool := decide (i = 0) && decide (n = (l.length : Int)) && small (l.length) && true
def D_params_Header_0 {α : Type} (vs : List V) (bl : List (Option Blk)) (K : Hd → (List (Int × Bool × Int × Int)) → Int → Int → Option α) : Option α := pP 0 0 vs fun vs => pO vs fun c' vs => kLC c' fun l => pI vs fun n vs => pI vs fun i vs => pE vs <| bB bl fun q' bl => rdHd q' fun h => bE bl <| K h l n i
def S_params_Header_0 : ST := fun vs bl => D_params_Header_0 vs bl fun h l n i => some (k_params_Header_0 h l n i, c_params_Header_0 h l)
def p_params_Header_1 (h : Hd) (l : List (Int × Bool × Int × Int)) : Bool := l.all (smC h)
def c_params_Header_1 (h : Hd) (l : List (Int × Bool × Int × Int)) : LT := .br (p_params_Header_1 h l) (.leaf (.exit 2) [] []) (.leaf .ret [.one (.int .i64 5)] [])
def k_params_Header_1 (h : Hd) (l : List (Int × Bool × Int × Int)) (n i : Int) : Bool := decide (i = 0) && decide (n = (l.length : Int)) && small (l.length) && true
def D_params_Header_1 {α : Type} (vs : List V) (bl : List (Option Blk)) (K : Hd → (List (Int × Bool × Int × Int)) → Int → Int → Option α) : Option α := pP 0 0 vs fun vs => pO vs fun c' vs => kLC c' fun l => pI vs fun n vs => pI vs fun i vs => pE vs <| bB bl fun q' bl => rdHd q' fun h => bE bl <| K h l n i
def S_params_Header_1 : ST := fun vs bl => D_params_Header_1 vs bl fun h l n i => some (k_params_Header_1 h l n i, c_params_Header_1 h l)
def H_params_Header (h : Hd) : Option (Bool × Out) := some (small h.cs.length, ⟨.one (.int .i64 (header h)), [], []⟩)
def G_params_Header : Summ := fun args lent => pA args fun q' args => rdHd q' fun h => pE args <| nE lent <| H_params_Header h
def pmin (i : Nat) : Int := if 1 < (i : Int) then 1 else i
def prq (p : Pm) (i : Nat) : Bool := inr (pmin i) 12 (gP p.pr i).1 && inr (pmin i) 12 (gP p.pr i).2
def precs (p : Pm) : Bool := (List.range p.pr.length).all (prq p)
def nums (p : Pm) : Bool := inr 0 5 p.le && inr 2 6 p.bx && inr 2 6 p.bw && (decide (p.pr.length = 0) || decide ((p.pr.length : Int) = p.le + 1)) && precs p && inr 1 16 p.la && decide ((p.st.length : Int) = 3 * p.le + 1) && p.st.all (inr 1 65536) && inr 8 32 p.de && inr 0 30 p.sf
def colors (h : Hd) (p : Pm) : Bool := decide (p.co = 0) || decide (3 ≤ h.cs.length) && decide (gC h.cs 0 = gC h.cs 1) && decide (gC h.cs 0 = gC h.cs 2)
def p_params_numbers_0 (h : Hd) (p : Pm) (l : List (Int × Int)) : Bool := (List.range l.length).all (prq p)
def c_params_numbers_0 (h : Hd) (p : Pm) (l : List (Int × Int)) : LT := .br (p_params_numbers_0 h p l) (.leaf (.exit 0) [.one (.ptr 0 0), .one (.ptr 1 0)] [some (.box (hdC h)), some (.box (pmC p))]) (.leaf .ret [.one (.bool false)] [])
def k_params_numbers_0 (h : Hd) (p : Pm) (l : List (Int × Int)) (n i : Int) : Bool := decide (i = 0) && decide (n = (l.length : Int)) && small (l.length) && decide (l = p.pr)
def D_params_numbers_0 {α : Type} (vs : List V) (bl : List (Option Blk)) (K : Hd → Pm → (List (Int × Int)) → Int → Int → Option α) : Option α := pP 0 0 vs fun vs => pP 1 0 vs fun vs => pO vs fun c' vs => kLP c' fun l => pI vs fun n vs => pI vs fun i vs => pE vs <| bB bl fun q' bl => rdHd q' fun h => bB bl fun q' bl => rdPm q' fun p => bE bl <| K h p l n i
def S_params_numbers_0 : ST := fun vs bl => D_params_numbers_0 vs bl fun h p l n i => some (k_params_numbers_0 h p l n i, c_params_numbers_0 h p l)
def H_params_numbers (h : Hd) (p : Pm) : Option (Bool × Out) := some ((small p.pr.length && small p.st.length), ⟨.one (.bool (nums p && colors h p)), [], []⟩)
def G_params_numbers : Summ := fun args lent => pA args fun q' args => rdHd q' fun h => pA args fun q' args => rdPm q' fun p => pE args <| nE lent <| H_params_numbers h p

def count (n : Int) : Int := if inr 0 5 n then 3 * n + 1 else 0
def plOk (i n : Int) : Bool := decide (0 ≤ i) && decide (i < count n)
def plLv (i n : Int) : Int := if plOk i n then (if i = 0 then n else n - (i + 2) / 3 + 1) else 0
def plOr (i n : Int) : Int := if plOk i n then (if i = 0 then 0 else i - 3 * ((i + 2) / 3) + 3) else 0
def idxs (n r : Int) : List Int := if inr 0 5 n && inr 0 n r then (if r = 0 then [0] else [3 * r - 2, 3 * r - 1, 3 * r]) else []
def pw (k : Int) : Int := 2 ^ k.toNat
def resR (a b c d n r : Int) : Rc := if inr 0 5 n && inr 0 n r then reduce a b c d (pw (n - r)) (pw (n - r)) else (0, 0, 0, 0)
def bnd (a b c d : Int) (o : Int) : Rc := if valid a b c d then ((a + (1 - o % 2)) / 2, (b + (1 - o / 2)) / 2, (c + (1 - o % 2)) / 2, (d + (1 - o / 2)) / 2) else (0, 0, 0, 0)
def bndR (r : Rc) (o : Int) : Rc := bnd r.1 r.2.1 r.2.2.1 r.2.2.2 o
def bandR (a b c d n i : Int) : Rc := if plOk i n && valid a b c d then (if i = 0 then resR a b c d n 0 else bndR (resR a b c d n (n - plLv i n + 1)) (plOr i n)) else (0, 0, 0, 0)
def cellsN (a b c d x y : Int) : Int := if empty a b c d then 0 else w (w (cdiv c (pw x) - fdiv a (pw x)) * w (cdiv d (pw y) - fdiv b (pw y)))
def H_pyr_validLevels (n : Int) : Option (Bool × Out) := some (true, ⟨.one (.bool (inr 0 5 n)), [], []⟩)
def G_pyr_validLevels : Summ := fun args lent => pI args fun n args => pE args <| nE lent <| H_pyr_validLevels n
def H_pyr_Count (n : Int) : Option (Bool × Out) := some (true, ⟨.one (.int .i64 (count n)), [], []⟩)
def G_pyr_Count : Summ := fun args lent => pI args fun n args => pE args <| nE lent <| H_pyr_Count n
def H_pyr_Place (i n : Int) : Option (Bool × Out) := some (true, ⟨.tup [(false, [.int .i64 (plLv i n)]), (false, [.int .i64 (plOr i n)]), (false, [.bool (plOk i n)])], [], []⟩)
def G_pyr_Place : Summ := fun args lent => pI args fun i args => pI args fun n args => pE args <| nE lent <| H_pyr_Place i n
def H_pyr_Indices (n r : Int) : Option (Bool × Out) := some (true, ⟨.one (.row 0), [], [.arr 3 (.int .i64) (idxs n r)]⟩)
def G_pyr_Indices : Summ := fun args lent => pI args fun n args => pI args fun r args => pE args <| nE lent <| H_pyr_Indices n r
def H_pyr_Resolution (a b c d n r : Int) : Option (Bool × Out) := some (true, ⟨.agg [.int .i64 ((resR a b c d n r).1), .int .i64 ((resR a b c d n r).2.1), .int .i64 ((resR a b c d n r).2.2.1), .int .i64 ((resR a b c d n r).2.2.2)], [], []⟩)
def G_pyr_Resolution : Summ := fun args lent => pA args fun q' args => t4 q' fun a b c d q' => tE q' <| pI args fun n args => pI args fun r args => pE args <| nE lent <| H_pyr_Resolution a b c d n r
def H_dwt_Bands (a b c d : Int) : Option (Bool × Out) := some (true, ⟨.agg [.int .i64 ((bnd a b c d 0).1), .int .i64 ((bnd a b c d 0).2.1), .int .i64 ((bnd a b c d 0).2.2.1), .int .i64 ((bnd a b c d 0).2.2.2), .int .i64 ((bnd a b c d 1).1), .int .i64 ((bnd a b c d 1).2.1), .int .i64 ((bnd a b c d 1).2.2.1), .int .i64 ((bnd a b c d 1).2.2.2), .int .i64 ((bnd a b c d 2).1), .int .i64 ((bnd a b c d 2).2.1), .int .i64 ((bnd a b c d 2).2.2.1), .int .i64 ((bnd a b c d 2).2.2.2), .int .i64 ((bnd a b c d 3).1), .int .i64 ((bnd a b c d 3).2.1), .int .i64 ((bnd a b c d 3).2.2.1), .int .i64 ((bnd a b c d 3).2.2.2)], [], []⟩)
def G_dwt_Bands : Summ := fun args lent => pA args fun q' args => t4 q' fun a b c d q' => tE q' <| pE args <| nE lent <| H_dwt_Bands a b c d
def H_pyr_Band (a b c d n i : Int) : Option (Bool × Out) := some (true, ⟨.agg [.int .i64 ((bandR a b c d n i).1), .int .i64 ((bandR a b c d n i).2.1), .int .i64 ((bandR a b c d n i).2.2.1), .int .i64 ((bandR a b c d n i).2.2.2)], [], []⟩)
def G_pyr_Band : Summ := fun args lent => pA args fun q' args => t4 q' fun a b c d q' => tE q' <| pI args fun n args => pI args fun i args => pE args <| nE lent <| H_pyr_Band a b c d n i
def H_params_cells (a b c d x y : Int) : Option (Bool × Out) := some ((inr 0 12 x && inr 0 12 y), ⟨.one (.int .i64 (cellsN a b c d x y)), [], []⟩)
def G_params_cells : Summ := fun args lent => pA args fun q' args => t4 q' fun a b c d q' => tE q' <| pI args fun x args => pI args fun y args => pE args <| nE lent <| H_params_cells a b c d x y
def cellsOk (a b c d w h : Int) : Bool := valid a b c d && (decide (1 ≤ w) && decide (w ≤ 4096)) && (decide (1 ≤ h) && decide (h ≤ 4096))
def tileR (a b c d w h i j : Int) : Rc := inter a b c d (i * w) (j * h) ((i + 1) * w) ((j + 1) * h)
def rowL (a b c d w h j : Int) : Nat → Int → List Rc
  | 0, _ => []
  | n + 1, i => tileR a b c d w h i j :: rowL a b c d w h j n (i + 1)
def gridL (a b c d w h l : Int) (m : Nat) : Nat → Int → List Rc
  | 0, _ => []
  | n + 1, j => rowL a b c d w h j m l ++ gridL a b c d w h l m n (j + 1)
def tilesL (a b c d w h : Int) : List Rc := if !valid a b c d || empty a b c d || decide (w < 1) || decide (h < 1) then [] else if (cdiv c w - fdiv a w) * (cdiv d h - fdiv b h) > 65536 then [] else gridL a b c d w h (fdiv a w) (cdiv c w - fdiv a w).toNat (cdiv d h - fdiv b h).toNat (fdiv b h)
def c_rect_Cells_0 (a b c d w h l g u j : Int) (t : List Rc) : LT := .leaf (.exit 0) [.one (.row 0)] [some (.arr 28 (.pair (.int .i64) (.pair (.int .i64) (.pair (.int .i64) (.int .i64)))) (t ++ gridL a b c d w h l (g - l).toNat (u - j).toNat j))]
def k_rect_Cells_0 (a b c d w h l g u j : Int) (t : List Rc) : Bool := cellsOk a b c d w h && (decide (0 ≤ l) && decide (l ≤ g) && decide (g ≤ 4096)) && (decide (0 ≤ j) && decide (j ≤ u) && decide (u ≤ 4096)) && decide ((t.length : Int) + 4096 * (u - j) ≤ 68719476736)
def D_rect_Cells_0 {α : Type} (vs : List V) (bl : List (Option Blk)) (K : Int → Int → Int → Int → Int → Int → Int → Int → Int → Int → (List Rc) → Option α) : Option α := pI vs fun w vs => pI vs fun h vs => pP 0 0 vs fun vs => pI vs fun l vs => pI vs fun g vs => pI vs fun u vs => pO vs fun c' vs => kR 1 c' <| pI vs fun j vs => pE vs <| bB bl fun q' bl => t4 q' fun a b c d q' => tE q' <| bAR 28 bl fun t bl => bE bl <| K a b c d w h l g u j t
def S_rect_Cells_0 : ST := fun vs bl => D_rect_Cells_0 vs bl fun a b c d w h l g u j t => some (k_rect_Cells_0 a b c d w h l g u j t, c_rect_Cells_0 a b c d w h l g u j t)
def c_rect_Cells_1 (a b c d w h l g u j i : Int) (t : List Rc) : LT := .leaf (.exit 2) [.one (.int .i64 w), .one (.int .i64 h), .one (.ptr 0 0), .one (.int .i64 l), .one (.int .i64 g), .one (.int .i64 u), .one (.row 1), .one (.int .i64 j)] [some (.box [.int .i64 a, .int .i64 b, .int .i64 c, .int .i64 d]), some (.arr 28 (.pair (.int .i64) (.pair (.int .i64) (.pair (.int .i64) (.int .i64)))) (t ++ rowL a b c d w h j (g - i).toNat i))]
def k_rect_Cells_1 (a b c d w h l g u j i : Int) (t : List Rc) : Bool := cellsOk a b c d w h && (decide (0 ≤ i) && decide (i ≤ g) && decide (g ≤ 4096)) && (decide (0 ≤ j) && decide (j ≤ 4096)) && decide ((t.length : Int) + (g - i) ≤ 68719476736)
def D_rect_Cells_1 {α : Type} (vs : List V) (bl : List (Option Blk)) (K : Int → Int → Int → Int → Int → Int → Int → Int → Int → Int → Int → (List Rc) → Option α) : Option α := pI vs fun w vs => pI vs fun h vs => pP 0 0 vs fun vs => pI vs fun l vs => pI vs fun g vs => pI vs fun u vs => pO vs fun c' vs => kR 1 c' <| pI vs fun j vs => pI vs fun i vs => pE vs <| bB bl fun q' bl => t4 q' fun a b c d q' => tE q' <| bAR 28 bl fun t bl => bE bl <| K a b c d w h l g u j i t
def S_rect_Cells_1 : ST := fun vs bl => D_rect_Cells_1 vs bl fun a b c d w h l g u j i t => some (k_rect_Cells_1 a b c d w h l g u j i t, c_rect_Cells_1 a b c d w h l g u j i t)
def H_rect_Cells (a b c d w h : Int) : Option (Bool × Out) := some ((decide (w ≤ 4096) && decide (h ≤ 4096)), ⟨.one (.row 0), [], [.arr 28 (.pair (.int .i64) (.pair (.int .i64) (.pair (.int .i64) (.int .i64)))) (tilesL a b c d w h)]⟩)
def G_rect_Cells : Summ := fun args lent => pA args fun q' args => t4 q' fun a b c d q' => tE q' <| pI args fun w args => pI args fun h args => pE args <| nE lent <| H_rect_Cells a b c d w h
def validR (r : Rc) : Bool := valid r.1 r.2.1 r.2.2.1 r.2.2.2
def cellsR (r : Rc) (x y : Int) : Int := cellsN r.1 r.2.1 r.2.2.1 r.2.2.2 x y
def bX (p : Pm) (res : Int) : Int := min p.bx ((prec p res).1 - (if res > 0 then 1 else 0))
def bY (p : Pm) (res : Int) : Int := min p.bw ((prec p res).2 - (if res > 0 then 1 else 0))
def bandC (r : Rc) (p : Pm) (res k : Int) : Int := cellsR (bandR r.1 r.2.1 r.2.2.1 r.2.2.2 p.le k) (bX p res) (bY p res)
def resOK (r : Rc) (p : Pm) (res : Int) : Bool := (idxs p.le res).all fun k => decide (bandC r p res k ≤ 65536)
def resN (r : Rc) (p : Pm) (res : Int) : Int := cellsR (resR r.1 r.2.1 r.2.2.1 r.2.2.2 p.le res) (prec p res).1 (prec p res).2
def sumN (r : Rc) (p : Pm) : Nat → Int
  | 0 => 0
  | k + 1 => sumN r p k + resN r p k
def compOK (r : Rc) (p : Pm) : Bool := (List.range (p.le + 1).toNat).all fun k => resOK r p k
def compN (r : Rc) (p : Pm) : Int := sumN r p (p.le + 1).toNat
def redT (t : Rc) (c : Int × Bool × Int × Int) : Rc := reduce t.1 t.2.1 t.2.2.1 t.2.2.2 c.2.2.1 c.2.2.2
def totN (t : Rc) (p : Pm) (l : List (Int × Bool × Int × Int)) : Nat → Int
  | 0 => 0
  | k + 1 => totN t p l k + compN (redT t (gC l k)) p
def compsOK (t : Rc) (p : Pm) (l : List (Int × Bool × Int × Int)) : Bool := (List.range l.length).all fun k => compOK (redT t (gC l k)) p
def packs (t : Rc) (p : Pm) (l : List (Int × Bool × Int × Int)) : Int := p.la * totN t p l l.length
def fits (t : Rc) (p : Pm) (l : List (Int × Bool × Int × Int)) : Bool := compsOK t p l && decide (packs t p l ≤ 65536)
def c_tileFits_0 (p : Pm) (l : List (Int × Bool × Int × Int)) (a b c d s n i : Int) : LT := .br (compsOK (a, b, c, d) p l) (.leaf (.exit 0) [.one (.int .i64 (packs (a, b, c, d) p l))] []) (.leaf .ret [.one (.bool false)] [])
def k_tileFits_0 (p : Pm) (l : List (Int × Bool × Int × Int)) (a b c d s n i : Int) : Bool := nums p && valid a b c d && decide (s = 0) && decide (i = 0) && decide (n = (l.length : Int)) && decide (l.length ≤ 4)
def D_tileFits_0 {α : Type} (vs : List V) (bl : List (Option Blk)) (K : Pm → (List (Int × Bool × Int × Int)) → Int → Int → Int → Int → Int → Int → Int → Option α) : Option α := pP 0 0 vs fun vs => pP 1 0 vs fun vs => pI vs fun s vs => pO vs fun c' vs => kLC c' fun l => pI vs fun n vs => pI vs fun i vs => pE vs <| bB bl fun q' bl => rdPm q' fun p => bB bl fun q' bl => t4 q' fun a b c d q' => tE q' <| bE bl <| K p l a b c d s n i
def S_tileFits_0 : ST := fun vs bl => D_tileFits_0 vs bl fun p l a b c d s n i => some (k_tileFits_0 p l a b c d s n i, c_tileFits_0 p l a b c d s n i)
def c_tileFits_1 (p : Pm) (l : List (Int × Bool × Int × Int)) (a b c d e f g o s n i res : Int) : LT := .br (compOK (e, f, g, o) p) (.leaf (.exit 2) [.one (.ptr 0 0), .one (.ptr 1 0), .one (.int .i64 (s + p.la * compN (e, f, g, o) p)), .one (.lst (.pair (.int .i64) (.pair .bool (.pair (.int .i64) (.int .i64)))) l), .one (.int .i64 n), .one (.int .i64 i)] [some (.box (pmC p)), some (.box [.int .i64 a, .int .i64 b, .int .i64 c, .int .i64 d])]) (.leaf .ret [.one (.bool false)] [])
def k_tileFits_1 (p : Pm) (l : List (Int × Bool × Int × Int)) (a b c d e f g o s n i res : Int) : Bool := nums p && valid e f g o && (decide (0 ≤ s) && decide (s ≤ 1099511627776)) && decide (res = 0)
def D_tileFits_1 {α : Type} (vs : List V) (bl : List (Option Blk)) (K : Pm → (List (Int × Bool × Int × Int)) → Int → Int → Int → Int → Int → Int → Int → Int → Int → Int → Int → Int → Option α) : Option α := pP 0 0 vs fun vs => pP 1 0 vs fun vs => pI vs fun s vs => pP 2 0 vs fun vs => pI vs fun res vs => pO vs fun c' vs => kLC c' fun l => pI vs fun n vs => pI vs fun i vs => pE vs <| bB bl fun q' bl => rdPm q' fun p => bB bl fun q' bl => t4 q' fun a b c d q' => tE q' <| bB bl fun q' bl => t4 q' fun e f g o q' => tE q' <| bE bl <| K p l a b c d e f g o s n i res
def S_tileFits_1 : ST := fun vs bl => D_tileFits_1 vs bl fun p l a b c d e f g o s n i res => some (k_tileFits_1 p l a b c d e f g o s n i res, c_tileFits_1 p l a b c d e f g o s n i res)
def p_tileFits_2 (p : Pm) (l : List (Int × Bool × Int × Int)) (t : List Int) (a b c d e f g o x y s m u res : Int) : Bool := t.all (fun k => decide (cellsR (bandR e f g o p.le k) (min p.bx x) (min p.bw y) ≤ 65536))
def c_tileFits_2 (p : Pm) (l : List (Int × Bool × Int × Int)) (t : List Int) (a b c d e f g o x y s m u res : Int) : LT := .br (p_tileFits_2 p l t a b c d e f g o x y s m u res) (.leaf (.exit 4) [.one (.ptr 0 0), .one (.ptr 1 0), .one (.int .i64 s), .one (.ptr 2 0), .one (.int .i64 res), .one (.lst (.pair (.int .i64) (.pair .bool (.pair (.int .i64) (.int .i64)))) l), .one (.int .i64 m), .one (.int .i64 u)] [some (.box (pmC p)), some (.box [.int .i64 a, .int .i64 b, .int .i64 c, .int .i64 d]), some (.box [.int .i64 e, .int .i64 f, .int .i64 g, .int .i64 o])]) (.leaf .ret [.one (.bool false)] [])
def k_tileFits_2 (p : Pm) (l : List (Int × Bool × Int × Int)) (t : List Int) (a b c d e f g o x y s m u res : Int) (n i : Int) : Bool := decide (i = 0) && decide (n = (t.length : Int)) && small (t.length) && inr 0 12 (min p.bx x) && inr 0 12 (min p.bw y)
def D_tileFits_2 {α : Type} (vs : List V) (bl : List (Option Blk)) (K : Pm → (List (Int × Bool × Int × Int)) → (List Int) → Int → Int → Int → Int → Int → Int → Int → Int → Int → Int → Int → Int → Int → Int → Int → Int → Option α) : Option α := pP 0 0 vs fun vs => pP 1 0 vs fun vs => pI vs fun s vs => pP 2 0 vs fun vs => pI vs fun res vs => pP 3 0 vs fun vs => pO vs fun c' vs => kLC c' fun l => pI vs fun m vs => pI vs fun u vs => pO vs fun c' vs => kR 4 c' <| pI vs fun n vs => pI vs fun i vs => pE vs <| bB bl fun q' bl => rdPm q' fun p => bB bl fun q' bl => t4 q' fun a b c d q' => tE q' <| bB bl fun q' bl => t4 q' fun e f g o q' => tE q' <| bB bl fun q' bl => tI q' fun x q' => tI q' fun y q' => tE q' <| bAI 3 bl fun t bl => bE bl <| K p l t a b c d e f g o x y s m u res n i
def S_tileFits_2 : ST := fun vs bl => D_tileFits_2 vs bl fun p l t a b c d e f g o x y s m u res n i => some (k_tileFits_2 p l t a b c d e f g o x y s m u res n i, c_tileFits_2 p l t a b c d e f g o x y s m u res)
def H_tileFits (h : Hd) (p : Pm) (a b c d : Int) : Option (Bool × Out) := some ((nums p && valid a b c d && small h.cs.length && decide (h.cs.length ≤ 4)), ⟨.one (.bool (fits (a, b, c, d) p h.cs)), [], []⟩)
def G_tileFits : Summ := fun args lent => pA args fun q' args => rdHd q' fun h => pA args fun q' args => rdPm q' fun p => pA args fun q' args => t4 q' fun a b c d q' => tE q' <| pE args <| nE lent <| H_tileFits h p a b c d
def checkA (h : Hd) (p : Pm) : Int := if header h ≠ 0 then header h else if !kinds p then 3 else if !(nums p && colors h p) then 13 else if (tilesL h.a h.b h.c h.d h.tw h.th).all (fun r => fits r p h.cs) then 0 else 5
def p_params_Check_0 (h : Hd) (p : Pm) (t : List Rc) : Bool := t.all (fun r => fits r p h.cs)
def c_params_Check_0 (h : Hd) (p : Pm) (t : List Rc) : LT := .br (p_params_Check_0 h p t) (.leaf (.exit 0) [] []) (.leaf .ret [.one (.int .i64 5)] [])
def k_params_Check_0 (h : Hd) (p : Pm) (t : List Rc) (n i : Int) : Bool := decide (i = 0) && decide (n = (t.length : Int)) && small (t.length) && nums p && t.all validR && decide (h.cs.length ≤ 4)
def D_params_Check_0 {α : Type} (vs : List V) (bl : List (Option Blk)) (K : Hd → Pm → (List Rc) → Int → Int → Option α) : Option α := pP 0 0 vs fun vs => pP 1 0 vs fun vs => pO vs fun c' vs => kR 2 c' <| pI vs fun n vs => pI vs fun i vs => pE vs <| bB bl fun q' bl => rdHd q' fun h => bB bl fun q' bl => rdPm q' fun p => bAR 28 bl fun t bl => bE bl <| K h p t n i
def S_params_Check_0 : ST := fun vs bl => D_params_Check_0 vs bl fun h p t n i => some (k_params_Check_0 h p t n i, c_params_Check_0 h p t)
def H_params_Check (h : Hd) (p : Pm) : Option (Bool × Out) := some ((small h.cs.length && (small p.pr.length && small p.st.length)), ⟨.one (.int .i64 (checkA h p)), [], []⟩)
def G_params_Check : Summ := fun args lent => pA args fun q' args => rdHd q' fun h => pA args fun q' args => rdPm q' fun p => pE args <| nE lent <| H_params_Check h p
def has (a b c d x y : Int) : Bool := decide (a ≤ x) && decide (x < c) && decide (b ≤ y) && decide (y < d)
def H_rect_Has (a b c d x y : Int) : Option (Bool × Out) := some (true, ⟨.one (.bool (has a b c d x y)), [], []⟩)
def G_rect_Has : Summ := fun args lent => pA args fun q' args => t4 q' fun a b c d q' => tE q' <| pA args fun q' args => tI q' fun x q' => tI q' fun y q' => tE q' <| pE args <| nE lent <| H_rect_Has a b c d x y

def tilesH (h : Hd) : List Rc := if header h ≠ 0 then [] else tilesL h.a h.b h.c h.d h.tw h.th
def compT (h : Hd) (t k : Int) : Rc := if t < 0 ∨ t ≥ (tilesH h).length ∨ k < 0 ∨ k ≥ h.cs.length then (0, 0, 0, 0) else redT (gR (tilesH h) t.toNat) (gC h.cs k.toNat)
def H_lay_Tiles (h : Hd) : Option (Bool × Out) := some (small h.cs.length, ⟨.one (.row 0), [], [.arr 28 (.pair (.int .i64) (.pair (.int .i64) (.pair (.int .i64) (.int .i64)))) (tilesH h)]⟩)
def G_lay_Tiles : Summ := fun args lent => pA args fun q' args => rdHd q' fun h => pE args <| nE lent <| H_lay_Tiles h

def existsB (h : Hd) (p : Pm) (t k : Int) : Bool := decide (checkA h p = 0) && decide (0 ≤ t) && decide (t < (tilesH h).length) && decide (0 ≤ k) && decide (k < h.cs.length)
def H_lay_Component (h : Hd) (t k : Int) : Option (Bool × Out) := some (small h.cs.length, ⟨.agg [.int .i64 ((compT h t k).1), .int .i64 ((compT h t k).2.1), .int .i64 ((compT h t k).2.2.1), .int .i64 ((compT h t k).2.2.2)], [], []⟩)
def G_lay_Component : Summ := fun args lent => pA args fun q' args => rdHd q' fun h => pI args fun t args => pI args fun k args => pE args <| nE lent <| H_lay_Component h t k
def rd (l : List Int) (i : Int) : Int := l[i.toNat]?.getD 0
theorem rd_nat (xs : List Int) (i : Nat) (h : i < xs.length) : rd xs (i : Int) = xs[i] := by simp [rd, h]
def mok (i lo hi : Int) : Prop := lo < hi ∧ -281474976710656 ≤ i ∧ i ≤ 281474976710656 ∧ -281474976710656 ≤ lo ∧ lo ≤ 281474976710656 ∧ -281474976710656 ≤ hi ∧ hi ≤ 281474976710656
instance (i lo hi : Int) : Decidable (mok i lo hi) := by unfold mok; infer_instance
def cok (s n : Int) : Prop := 0 ≤ s ∧ s ≤ 4096 ∧ 0 ≤ n ∧ n ≤ 4096
instance (s n : Int) : Decidable (cok s n) := by unfold cok; infer_instance
def sok (xs : List Int) (s : Int) : Prop := 0 ≤ s ∧ s ≤ 4096 ∧ xs.length ≤ 4096
instance (xs : List Int) (s : Int) : Decidable (sok xs s) := by unfold sok; infer_instance
def jok (e o : List Int) (s : Int) : Prop := 0 ≤ s ∧ s ≤ 4096 ∧ e.length + o.length ≤ 4096
instance (e o : List Int) (s : Int) : Decidable (jok e o s) := by unfold jok; infer_instance
def mr (n i : Int) : Int := if i % (2 * (n - 1)) ≥ n then 2 * (n - 1) - i % (2 * (n - 1)) else i % (2 * (n - 1))
theorem mr_in {n : Int} (i : Int) (hn : 2 ≤ n) : 0 ≤ mr n i ∧ mr n i < n := by
  unfold mr
  have h0 := Int.emod_nonneg i (show 2 * (n - 1) ≠ 0 by omega)
  have h1 := Int.emod_lt_of_pos i (show 0 < 2 * (n - 1) by omega)
  generalize i % (2 * (n - 1)) = r at h0 h1
  split <;> omega
def at_ (l : List Int) (i : Int) : Int := rd l (mr l.length i)
theorem rd_out (l : List Int) (i : Nat) (h : l.length ≤ i) : rd l (i : Int) = 0 := by simp [rd, List.getElem?_eq_none h]
def Bd (b : Int) (l : List Int) : Prop := ∀ q : Nat, -b ≤ rd l q ∧ rd l q ≤ b
theorem Bd.at {b : Int} {l : List Int} (h : Bd b l) (i : Int) (hn : 2 ≤ l.length) : -b ≤ at_ l i ∧ at_ l i ≤ b := by
  unfold at_
  have h1 := mr_in (n := l.length) i (by omega)
  obtain ⟨q, hq⟩ := Int.eq_ofNat_of_zero_le h1.1
  rw [hq]; exact h q
theorem Bd.mono {b c : Int} {l : List Int} (h : Bd b l) (hc : b ≤ c) : Bd c l := fun q => by have := h q; omega
theorem Bd.of_mem {b : Int} {l : List Int} (h0 : 0 ≤ b) (h : ∀ x ∈ l, -b ≤ x ∧ x ≤ b) : Bd b l := fun q => by
  by_cases hq : q < l.length
  · rw [rd_nat l q hq]; exact h _ (List.getElem_mem hq)
  · rw [rd_out l q (by omega)]; omega
def fit (b : Int) (l : List Int) : Prop := ∀ x ∈ l, -b ≤ x ∧ x ≤ b
instance (b : Int) (l : List Int) : Decidable (fit b l) := by unfold fit; infer_instance
def hb (b kk : Int) : Int := if 0 ≤ b ∧ b ≤ 281474976710656 ∧ 1 ≤ kk ∧ kk ≤ 3 then (if kk = 3 then b + (20 * b + 8) / 16 else 2 * b) else 0

def fitB (b : Int) (l : List Int) : Bool := l.all (inr (-b) b)
def marg (k : Int) : Int := if inr 1 2 k then 2 else if k = 3 then 4 else 0
def H_lift_Margin (k : Int) : Option (Bool × Out) := some (true, ⟨.one (.int .i64 (marg k)), [], []⟩)
def G_lift_Margin : Summ := fun args lent => pI args fun k args => pE args <| nE lent <| H_lift_Margin k






def bw (a b c d o : Int) : Nat := ((bnd a b c d o).2.2.1 - (bnd a b c d o).1).toNat




def ndI (a b c d n m res : Int) (w : Rc) (j : Nat) : Rc := inter (w.1 - m) (w.2.1 - m) (w.2.2.1 + m) (w.2.2.2 + m) (resR a b c d n (res - j)).1 (resR a b c d n (res - j)).2.1 (resR a b c d n (res - j)).2.2.1 (resR a b c d n (res - j)).2.2.2
def ndW (a b c d n m res : Int) (w : Rc) : Nat → Rc
  | 0 => w
  | j + 1 => bndR (ndI a b c d n m res (ndW a b c d n m res w j) j) 0
def ndAt (a b c d n m res : Int) (w : Rc) (i : Nat) : Rc := if i = 0 then ndW a b c d n m res w res.toNat else if ((i + 2 : Nat) : Int) / 3 ≤ res then bndR (ndI a b c d n m res (ndW a b c d n m res w (res - (i + 2 : Nat) / 3).toNat) (res - (i + 2 : Nat) / 3).toNat) (i - 3 * ((i + 2 : Nat) / 3) + 3) else (0, 0, 0, 0)
def ndG (a b c d n m res : Int) (w : Rc) (j : Nat) (i : Nat) : Rc := if 1 ≤ i ∧ ((i + 2 : Nat) : Int) / 3 ≤ res ∧ res - (i + 2 : Nat) / 3 < (j : Int) then ndAt a b c d n m res w i else (0, 0, 0, 0)
def ndL (a b c d n m res : Int) (w : Rc) (j : Nat) : List Rc := (List.range (3 * n + 1).toNat).map (ndG a b c d n m res w j)
def ndOk (a b c d n r k : Int) : Bool := valid a b c d && inr 0 5 n && inr 0 n r && inr 1 3 k
def ndIn (a b c d n r e f g h : Int) : Rc := inter e f g h (resR a b c d n r).1 (resR a b c d n r).2.1 (resR a b c d n r).2.2.1 (resR a b c d n r).2.2.2
def ndF (a b c d n r e f g h k : Int) : List Rc := if ndOk a b c d n r k then (if empty (ndIn a b c d n r e f g h).1 (ndIn a b c d n r e f g h).2.1 (ndIn a b c d n r e f g h).2.2.1 (ndIn a b c d n r e f g h).2.2.2 then List.replicate (count n).toNat (0, 0, 0, 0) else (ndL a b c d n (marg k) r (ndIn a b c d n r e f g h) r.toNat).set 0 (ndW a b c d n (marg k) r (ndIn a b c d n r e f g h) r.toNat)) else []
def c_pyr_Need_0 (a b c d n m w0 w1 w2 w3 t : Int) (v : List (Int × Int × Int × Int)) : LT := .leaf (.exit 0) [.one (.row 0), .one (.ptr 1 0)] [some (.arr 28 (.pair (.int .i64) (.pair (.int .i64) (.pair (.int .i64) (.int .i64)))) (ndL a b c d n m t (w0, w1, w2, w3) t.toNat)), some (.box [.int .i64 ((ndW a b c d n m t (w0, w1, w2, w3) t.toNat).1), .int .i64 ((ndW a b c d n m t (w0, w1, w2, w3) t.toNat).2.1), .int .i64 ((ndW a b c d n m t (w0, w1, w2, w3) t.toNat).2.2.1), .int .i64 ((ndW a b c d n m t (w0, w1, w2, w3) t.toNat).2.2.2)])]
def k_pyr_Need_0 (a b c d n m w0 w1 w2 w3 t : Int) (v : List (Int × Int × Int × Int)) : Bool := inr 0 5 n && inr 0 n t && inr 0 4 m && valid w0 w1 w2 w3 && decide (v = List.replicate (3 * n + 1).toNat (0, 0, 0, 0))
def D_pyr_Need_0 {α : Type} (vs : List V) (bl : List (Option Blk)) (K : Int → Int → Int → Int → Int → Int → Int → Int → Int → Int → Int → (List (Int × Int × Int × Int)) → Option α) : Option α := pI vs fun n vs => pP 0 0 vs fun vs => pI vs fun m vs => pO vs fun c' vs => kR 1 c' <| pP 2 0 vs fun vs => pI vs fun t vs => pE vs <| bB bl fun q' bl => t4 q' fun a b c d q' => tE q' <| bAR 28 bl fun v bl => bB bl fun q' bl => t4 q' fun w0 w1 w2 w3 q' => tE q' <| bE bl <| K a b c d n m w0 w1 w2 w3 t v
def S_pyr_Need_0 : ST := fun vs bl => D_pyr_Need_0 vs bl fun a b c d n m w0 w1 w2 w3 t v => some (k_pyr_Need_0 a b c d n m w0 w1 w2 w3 t v, c_pyr_Need_0 a b c d n m w0 w1 w2 w3 t v)
def H_pyr_Need (a b c d n r e f g h k : Int) : Option (Bool × Out) := some (true, ⟨.one (.row 0), [], [.arr 28 (.pair (.int .i64) (.pair (.int .i64) (.pair (.int .i64) (.int .i64)))) (ndF a b c d n r e f g h k)]⟩)
def G_pyr_Need : Summ := fun args lent => pA args fun q' args => t4 q' fun a b c d q' => tE q' <| pI args fun n args => pI args fun r args => pA args fun q' args => t4 q' fun e f g h q' => tE q' <| pI args fun k args => pE args <| nE lent <| H_pyr_Need a b c d n r e f g h k






def rgOk (r : Rc) : Bool := valid r.1 r.2.1 r.2.2.1 r.2.2.2 && !empty r.1 r.2.1 r.2.2.1 r.2.2.2
def rgErr (l : List Rc) : Int := if decide ((l.length : Int) > 8) then 5 else if l.all rgOk then 0 else 2
def mskB (x y : Int) (m : List Rc) : Bool := !m.all fun q => !has q.1 q.2.1 q.2.2.1 q.2.2.2 x y
def mxI (a c i : Int) : Int := a + Int.tmod i (c - a)
def myI (a b c i : Int) : Int := b + Int.tdiv i (c - a)
def p_roi_Valid_0 (l : List (Int × Int × Int × Int)) : Bool := l.all (rgOk)
def c_roi_Valid_0 (l : List (Int × Int × Int × Int)) : LT := .br (p_roi_Valid_0 l) (.leaf (.exit 0) [] []) (.leaf .ret [.one (.int .i64 2)] [])
def k_roi_Valid_0 (l : List (Int × Int × Int × Int)) (n i : Int) : Bool := decide (i = 0) && decide (n = (l.length : Int)) && small (l.length) && true
def D_roi_Valid_0 {α : Type} (vs : List V) (bl : List (Option Blk)) (K : (List (Int × Int × Int × Int)) → Int → Int → Option α) : Option α := pO vs fun c' vs => kLR c' fun l => pI vs fun n vs => pI vs fun i vs => pE vs <| bE bl <| K l n i
def S_roi_Valid_0 : ST := fun vs bl => D_roi_Valid_0 vs bl fun l n i => some (k_roi_Valid_0 l n i, c_roi_Valid_0 l)
def H_roi_Valid (l : List (Int × Int × Int × Int)) : Option (Bool × Out) := some (true, ⟨.one (.int .i64 (rgErr l)), [], []⟩)
def G_roi_Valid : Summ := fun args lent => pO args fun c' args => kLR c' fun l => pE args <| nE lent <| H_roi_Valid l
def p_ref30_Valid_0 (l : List (Int × Int × Int × Int)) : Bool := l.all (rgOk)
def c_ref30_Valid_0 (l : List (Int × Int × Int × Int)) : LT := .br (p_ref30_Valid_0 l) (.leaf (.exit 0) [] []) (.leaf .ret [.one (.int .i64 2)] [])
def k_ref30_Valid_0 (l : List (Int × Int × Int × Int)) (i : Int) : Bool := decide (i = 0) && small (l.length) && true
def D_ref30_Valid_0 {α : Type} (vs : List V) (bl : List (Option Blk)) (K : (List (Int × Int × Int × Int)) → Int → Option α) : Option α := pO vs fun c' vs => kLR c' fun l => pI vs fun i vs => pE vs <| bE bl <| K l i
def S_ref30_Valid_0 : ST := fun vs bl => D_ref30_Valid_0 vs bl fun l i => some (k_ref30_Valid_0 l i, c_ref30_Valid_0 l)
def H_ref30_Valid (l : List (Int × Int × Int × Int)) : Option (Bool × Out) := some (true, ⟨.one (.int .i64 (rgErr l)), [], []⟩)
def G_ref30_Valid : Summ := fun args lent => pO args fun c' args => kLR c' fun l => pE args <| nE lent <| H_ref30_Valid l
def H_ref01_Has (a b c d x y : Int) : Option (Bool × Out) := some (true, ⟨.one (.bool (has a b c d x y)), [], []⟩)
def G_ref01_Has : Summ := fun args lent => pA args fun q' args => t4 q' fun a b c d q' => tE q' <| pA args fun q' args => tI q' fun x q' => tI q' fun y q' => tE q' <| pE args <| nE lent <| H_ref01_Has a b c d x y
def p_ref30_Masked_0 (x y : Int) (m : List (Int × Int × Int × Int)) : Bool := m.all (fun q => !has q.1 q.2.1 q.2.2.1 q.2.2.2 x y)
def c_ref30_Masked_0 (x y : Int) (m : List (Int × Int × Int × Int)) : LT := .br (p_ref30_Masked_0 x y m) (.leaf (.exit 0) [] []) (.leaf .ret [.one (.bool true)] [])
def k_ref30_Masked_0 (x y : Int) (m : List (Int × Int × Int × Int)) (i : Int) : Bool := decide (i = 0) && small (m.length) && true
def D_ref30_Masked_0 {α : Type} (vs : List V) (bl : List (Option Blk)) (K : Int → Int → (List (Int × Int × Int × Int)) → Int → Option α) : Option α := pI vs fun x vs => pI vs fun y vs => pO vs fun c' vs => kLR c' fun m => pI vs fun i vs => pE vs <| bE bl <| K x y m i
def S_ref30_Masked_0 : ST := fun vs bl => D_ref30_Masked_0 vs bl fun x y m i => some (k_ref30_Masked_0 x y m i, c_ref30_Masked_0 x y m)
def H_ref30_Masked (x y : Int) (m : List (Int × Int × Int × Int)) : Option (Bool × Out) := some (small m.length, ⟨.one (.bool (mskB x y m)), [], []⟩)
def G_ref30_Masked : Summ := fun args lent => pI args fun x args => pI args fun y args => pO args fun c' args => kLR c' fun m => pE args <| nE lent <| H_ref30_Masked x y m
def p_roi_masked_0 (x y : Int) (m : List (Int × Int × Int × Int)) : Bool := m.all (fun q => !has q.1 q.2.1 q.2.2.1 q.2.2.2 x y)
def c_roi_masked_0 (x y : Int) (m : List (Int × Int × Int × Int)) : LT := .br (p_roi_masked_0 x y m) (.leaf (.exit 0) [] []) (.leaf .ret [.one (.bool true)] [])
def k_roi_masked_0 (x y : Int) (m : List (Int × Int × Int × Int)) (n i : Int) : Bool := decide (i = 0) && decide (n = (m.length : Int)) && small (m.length) && true
def D_roi_masked_0 {α : Type} (vs : List V) (bl : List (Option Blk)) (K : Int → Int → (List (Int × Int × Int × Int)) → Int → Int → Option α) : Option α := pP 0 0 vs fun vs => pO vs fun c' vs => kLR c' fun m => pI vs fun n vs => pI vs fun i vs => pE vs <| bB bl fun q' bl => tI q' fun x q' => tI q' fun y q' => tE q' <| bE bl <| K x y m n i
def S_roi_masked_0 : ST := fun vs bl => D_roi_masked_0 vs bl fun x y m n i => some (k_roi_masked_0 x y m n i, c_roi_masked_0 x y m)
def H_roi_masked (i a b c d : Int) (m : List (Int × Int × Int × Int)) : Option (Bool × Out) := some ((small m.length && valid a b c d && decide (a < c) && decide (0 ≤ i) && decide (i < 16777217)), ⟨.one (.bool (mskB (mxI a c i) (myI a b c i) m)), [], []⟩)
def G_roi_masked : Summ := fun args lent => pI args fun i args => pA args fun q' args => t4 q' fun a b c d q' => tE q' <| pO args fun c' args => kLR c' fun m => pE args <| nE lent <| H_roi_masked i a b c d m
def fitP (u : List Int) (a b c : Int) (m : List Rc) (s : Int) (i : Nat) : Bool := !(decide (s > 0) && (decide (gI u i ≥ pw s) || decide (gI u i ≤ -pw s)) && !mskB (mxI a c i) (myI a b c i) m)
def ftB (u : List Int) (a b c d : Int) (m : List Rc) (s : Int) : Bool := valid a b c d && inr 0 30 s && decide ((u.length : Int) = area a b c d) && (List.range u.length).all (fitP u a b c m s)
def scP (u : List Int) (a b c : Int) (m : List Rc) (s : Int) (i : Nat) : Int := if mskB (mxI a c i) (myI a b c i) m then gI u i * pw s else gI u i
def scErr (u : List Int) (a b c d : Int) (m : List Rc) (s : Int) : Int := if !valid a b c d || !inr 0 30 s then 2 else if !decide ((u.length : Int) = area a b c d) then 4 else if !fitB 268435456 u then 2 else if !(List.range u.length).all (fitP u a b c m s) then 13 else 0
def scR (f : Nat → Int) (j : Nat) : List Int := (List.range j).map f
def scM (u : List Int) (f : Nat → Int) : List Int := (List.range u.length).map f
def scL (u : List Int) (a b c d : Int) (m : List Rc) (s : Int) : List Int := if scErr u a b c d m s = 0 then scM u (scP u a b c m s) else []
def c_roi_Fits_0 (a b c d s t n i : Int) (m : List (Int × Int × Int × Int)) (u : List Int) : LT := .br ((List.range u.length).all (fitP u a b c m s)) (.leaf (.exit 0) [] []) (.leaf .ret [.one (.bool false)] [])
def k_roi_Fits_0 (a b c d s t n i : Int) (m : List (Int × Int × Int × Int)) (u : List Int) : Bool := decide (i = 0) && decide (n = (u.length : Int)) && decide (t = pw s) && small m.length && valid a b c d && inr 0 30 s && decide ((u.length : Int) = area a b c d)
def D_roi_Fits_0 {α : Type} (vs : List V) (bl : List (Option Blk)) (K : Int → Int → Int → Int → Int → Int → Int → Int → (List (Int × Int × Int × Int)) → (List Int) → Option α) : Option α := pO vs fun c' vs => kLR c' fun m => pI vs fun s vs => pP 0 0 vs fun vs => pI vs fun t vs => pO vs fun c' vs => kLI c' fun u => pI vs fun n vs => pI vs fun i vs => pE vs <| bB bl fun q' bl => t4 q' fun a b c d q' => tE q' <| bE bl <| K a b c d s t n i m u
def S_roi_Fits_0 : ST := fun vs bl => D_roi_Fits_0 vs bl fun a b c d s t n i m u => some (k_roi_Fits_0 a b c d s t n i m u, c_roi_Fits_0 a b c d s t n i m u)
def H_roi_Fits (u : List Int) (a b c d : Int) (m : List (Int × Int × Int × Int)) (s : Int) : Option (Bool × Out) := some (small m.length, ⟨.one (.bool (ftB u a b c d m s)), [], []⟩)
def G_roi_Fits : Summ := fun args lent => pO args fun c' args => kLI c' fun u => pA args fun q' args => t4 q' fun a b c d q' => tE q' <| pO args fun c' args => kLR c' fun m => pI args fun s args => pE args <| nE lent <| H_roi_Fits u a b c d m s
def c_ref30_Fits_0 (a b c d s t i : Int) (m : List (Int × Int × Int × Int)) (u : List Int) : LT := .br ((List.range u.length).all (fitP u a b c m s)) (.leaf (.exit 0) [] []) (.leaf .ret [.one (.bool false)] [])
def k_ref30_Fits_0 (a b c d s t i : Int) (m : List (Int × Int × Int × Int)) (u : List Int) : Bool := decide (i = 0) && decide (t = c - a) && small m.length && valid a b c d && inr 0 30 s && decide ((u.length : Int) = area a b c d)
def D_ref30_Fits_0 {α : Type} (vs : List V) (bl : List (Option Blk)) (K : Int → Int → Int → Int → Int → Int → Int → (List (Int × Int × Int × Int)) → (List Int) → Option α) : Option α := pO vs fun c' vs => kLI c' fun u => pO vs fun c' vs => kLR c' fun m => pI vs fun s vs => pP 0 0 vs fun vs => pI vs fun t vs => pI vs fun i vs => pE vs <| bB bl fun q' bl => t4 q' fun a b c d q' => tE q' <| bE bl <| K a b c d s t i m u
def S_ref30_Fits_0 : ST := fun vs bl => D_ref30_Fits_0 vs bl fun a b c d s t i m u => some (k_ref30_Fits_0 a b c d s t i m u, c_ref30_Fits_0 a b c d s t i m u)
def H_ref30_Fits (u : List Int) (a b c d : Int) (m : List (Int × Int × Int × Int)) (s : Int) : Option (Bool × Out) := some (small m.length, ⟨.one (.bool (ftB u a b c d m s)), [], []⟩)
def G_ref30_Fits : Summ := fun args lent => pO args fun c' args => kLI c' fun u => pA args fun q' args => t4 q' fun a b c d q' => tE q' <| pO args fun c' args => kLR c' fun m => pI args fun s args => pE args <| nE lent <| H_ref30_Fits u a b c d m s
def scT (u : List Int) (f : Nat → Int) (j : Nat) : List Int := (List.range u.length).map fun i => if i < j then f i else gI u i
def p_roi_Scale_0 (a b c d s : Int) (m : List (Int × Int × Int × Int)) (u v : List Int) : Bool := v.all (inr (-268435456) 268435456)
def c_roi_Scale_0 (a b c d s : Int) (m : List (Int × Int × Int × Int)) (u v : List Int) : LT := .br (p_roi_Scale_0 a b c d s m u v) (.leaf (.exit 0) [.one (.lst (.int .i64) u), .one (.lst (.pair (.int .i64) (.pair (.int .i64) (.pair (.int .i64) (.int .i64)))) m), .one (.int .i64 s), .one (.ptr 0 0)] [some (.box [.int .i64 a, .int .i64 b, .int .i64 c, .int .i64 d])]) (.leaf .ret [.one (.row 0), .one (.int .i64 2)] [some (.arr 3 (.int .i64) ([] : List Int))])
def k_roi_Scale_0 (a b c d s : Int) (m : List (Int × Int × Int × Int)) (u v : List Int) (n i : Int) : Bool := decide (i = 0) && decide (n = (v.length : Int)) && small (v.length) && true
def D_roi_Scale_0 {α : Type} (vs : List V) (bl : List (Option Blk)) (K : Int → Int → Int → Int → Int → (List (Int × Int × Int × Int)) → (List Int) → (List Int) → Int → Int → Option α) : Option α := pO vs fun c' vs => kLI c' fun u => pO vs fun c' vs => kLR c' fun m => pI vs fun s vs => pP 0 0 vs fun vs => pO vs fun c' vs => kLI c' fun v => pI vs fun n vs => pI vs fun i vs => pE vs <| bB bl fun q' bl => t4 q' fun a b c d q' => tE q' <| bE bl <| K a b c d s m u v n i
def S_roi_Scale_0 : ST := fun vs bl => D_roi_Scale_0 vs bl fun a b c d s m u v n i => some (k_roi_Scale_0 a b c d s m u v n i, c_roi_Scale_0 a b c d s m u v)
def c_roi_Scale_1 (a b c d s n i : Int) (m : List (Int × Int × Int × Int)) (u : List Int) : LT := .leaf (.exit 2) [.one (.row 0)] [some (.arr 3 (.int .i64) (scM u (scP u a b c m s)))]
def k_roi_Scale_1 (a b c d s n i : Int) (m : List (Int × Int × Int × Int)) (u : List Int) : Bool := decide (i = 0) && decide (n = (u.length : Int)) && small m.length && valid a b c d && inr 0 30 s && decide ((u.length : Int) = area a b c d) && fitB 268435456 u
def D_roi_Scale_1 {α : Type} (vs : List V) (bl : List (Option Blk)) (K : Int → Int → Int → Int → Int → Int → Int → (List (Int × Int × Int × Int)) → (List Int) → Option α) : Option α := pO vs fun c' vs => kLR c' fun m => pI vs fun s vs => pP 0 0 vs fun vs => pO vs fun c' vs => kR 1 c' <| pI vs fun n vs => pI vs fun i vs => pE vs <| bB bl fun q' bl => t4 q' fun a b c d q' => tE q' <| bAI 3 bl fun u bl => bE bl <| K a b c d s n i m u
def S_roi_Scale_1 : ST := fun vs bl => D_roi_Scale_1 vs bl fun a b c d s n i m u => some (k_roi_Scale_1 a b c d s n i m u, c_roi_Scale_1 a b c d s n i m u)
def H_roi_Scale (u : List Int) (a b c d : Int) (m : List (Int × Int × Int × Int)) (s : Int) : Option (Bool × Out) := some ((small m.length && small u.length), ⟨.tup [(false, [.row 0]), (false, [.int .i64 (scErr u a b c d m s)])], [], [.arr 3 (.int .i64) (scL u a b c d m s)]⟩)
def G_roi_Scale : Summ := fun args lent => pO args fun c' args => kLI c' fun u => pA args fun q' args => t4 q' fun a b c d q' => tE q' <| pO args fun c' args => kLR c' fun m => pI args fun s args => pE args <| nE lent <| H_roi_Scale u a b c d m s
def p_ref30_Scale_0 (a b c d s : Int) (m : List (Int × Int × Int × Int)) (u : List Int) : Bool := u.all (inr (-268435456) 268435456)
def c_ref30_Scale_0 (a b c d s : Int) (m : List (Int × Int × Int × Int)) (u : List Int) : LT := .br (p_ref30_Scale_0 a b c d s m u) (.leaf (.exit 0) [.one (.lst (.int .i64) u), .one (.lst (.pair (.int .i64) (.pair (.int .i64) (.pair (.int .i64) (.int .i64)))) m), .one (.int .i64 s), .one (.ptr 0 0)] [some (.box [.int .i64 a, .int .i64 b, .int .i64 c, .int .i64 d])]) (.leaf .ret [.one (.row 0), .one (.int .i64 2)] [some (.arr 3 (.int .i64) ([] : List Int))])
def k_ref30_Scale_0 (a b c d s : Int) (m : List (Int × Int × Int × Int)) (u : List Int) (i : Int) : Bool := decide (i = 0) && small (u.length) && true
def D_ref30_Scale_0 {α : Type} (vs : List V) (bl : List (Option Blk)) (K : Int → Int → Int → Int → Int → (List (Int × Int × Int × Int)) → (List Int) → Int → Option α) : Option α := pO vs fun c' vs => kLI c' fun u => pO vs fun c' vs => kLR c' fun m => pI vs fun s vs => pP 0 0 vs fun vs => pI vs fun i vs => pE vs <| bB bl fun q' bl => t4 q' fun a b c d q' => tE q' <| bE bl <| K a b c d s m u i
def S_ref30_Scale_0 : ST := fun vs bl => D_ref30_Scale_0 vs bl fun a b c d s m u i => some (k_ref30_Scale_0 a b c d s m u i, c_ref30_Scale_0 a b c d s m u)
def c_ref30_Scale_1 (a b c d s n i : Int) (m : List (Int × Int × Int × Int)) (u v : List Int) : LT := .leaf (.exit 2) [.one (.row 0)] [some (.arr 3 (.int .i64) (scM u (scP u a b c m s)))]
def k_ref30_Scale_1 (a b c d s n i : Int) (m : List (Int × Int × Int × Int)) (u v : List Int) : Bool := decide (i = 0) && decide (n = c - a) && decide (v = []) && small m.length && valid a b c d && inr 0 30 s && decide ((u.length : Int) = area a b c d) && fitB 268435456 u && small u.length
def D_ref30_Scale_1 {α : Type} (vs : List V) (bl : List (Option Blk)) (K : Int → Int → Int → Int → Int → Int → Int → (List (Int × Int × Int × Int)) → (List Int) → (List Int) → Option α) : Option α := pO vs fun c' vs => kLI c' fun u => pO vs fun c' vs => kLR c' fun m => pI vs fun s vs => pP 0 0 vs fun vs => pI vs fun n vs => pO vs fun c' vs => kR 1 c' <| pI vs fun i vs => pE vs <| bB bl fun q' bl => t4 q' fun a b c d q' => tE q' <| bAI 3 bl fun v bl => bE bl <| K a b c d s n i m u v
def S_ref30_Scale_1 : ST := fun vs bl => D_ref30_Scale_1 vs bl fun a b c d s n i m u v => some (k_ref30_Scale_1 a b c d s n i m u v, c_ref30_Scale_1 a b c d s n i m u v)
def H_ref30_Scale (u : List Int) (a b c d : Int) (m : List (Int × Int × Int × Int)) (s : Int) : Option (Bool × Out) := some ((small m.length && small u.length), ⟨.tup [(false, [.row 0]), (false, [.int .i64 (scErr u a b c d m s)])], [], [.arr 3 (.int .i64) (scL u a b c d m s)]⟩)
def G_ref30_Scale : Summ := fun args lent => pO args fun c' args => kLI c' fun u => pA args fun q' args => t4 q' fun a b c d q' => tE q' <| pO args fun c' args => kLR c' fun m => pI args fun s args => pE args <| nE lent <| H_ref30_Scale u a b c d m s
def roiW (h : Hd) (t k : Int) (q : Rc) : Rc := redT (inter q.1 q.2.1 q.2.2.1 q.2.2.2 (gR (tilesH h) t.toNat).1 (gR (tilesH h) t.toNat).2.1 (gR (tilesH h) t.toNat).2.2.1 (gR (tilesH h) t.toNat).2.2.2) (gC h.cs k.toNat)
def roiN (h : Hd) (p : Pm) (t k : Int) (q : Rc) : List Rc := ndF (compT h t k).1 (compT h t k).2.1 (compT h t k).2.2.1 (compT h t k).2.2.2 p.le p.le (roiW h t k q).1 (roiW h t k q).2.1 (roiW h t k q).2.2.1 (roiW h t k q).2.2.2 p.ke
def roiG (h : Hd) (p : Pm) (t k b : Int) (q : Rc) : Rc := gR (roiN h p t k q) b.toNat
def roiM (h : Hd) (p : Pm) (t k b : Int) (l : List Rc) : List Rc := (l.map (roiG h p t k b)).filter fun r => !empty r.1 r.2.1 r.2.2.1 r.2.2.2
def roiOk (h : Hd) (p : Pm) (t k b : Int) (l : List Rc) : Bool := existsB h p t k && (decide (0 ≤ b) && decide (b < count p.le)) && decide (rgErr l = 0)
def H_roi_demand (b : Bool) : Option (Bool × Out) := some (b, ⟨.tup [], [], []⟩)
def G_roi_demand : Summ := fun args lent => pO args fun c' args => kB c' fun b => pE args <| nE lent <| H_roi_demand b
def c_roi_collect_0 (h : Hd) (p : Pm) (t k b n i c0 c2 c3 : Int) (c1 : Bool) (l u v : List (Int × Int × Int × Int)) : LT := .leaf (.exit 0) [.one (.row 0)] [some (.arr 28 (.pair (.int .i64) (.pair (.int .i64) (.pair (.int .i64) (.int .i64)))) (roiM h p t k b l))]
def k_roi_collect_0 (h : Hd) (p : Pm) (t k b n i c0 c2 c3 : Int) (c1 : Bool) (l u v : List (Int × Int × Int × Int)) : Bool := decide (i = 0) && decide (v = []) && decide (n = (l.length : Int)) && decide (u = tilesH h) && decide ((c0, c1, c2, c3) = gC h.cs k.toNat) && roiOk h p t k b l && small h.cs.length
def D_roi_collect_0 {α : Type} (vs : List V) (bl : List (Option Blk)) (K : Hd → Pm → Int → Int → Int → Int → Int → Int → Int → Int → Bool → (List (Int × Int × Int × Int)) → (List (Int × Int × Int × Int)) → (List (Int × Int × Int × Int)) → Option α) : Option α := pI vs fun t vs => pI vs fun k vs => pI vs fun b vs => pP 0 0 vs fun vs => pP 1 0 vs fun vs => pO vs fun c' vs => kR 2 c' <| pP 3 0 vs fun vs => pO vs fun c' vs => kR 4 c' <| pO vs fun c' vs => kLR c' fun l => pI vs fun n vs => pI vs fun i vs => pE vs <| bB bl fun q' bl => rdHd q' fun h => bB bl fun q' bl => rdPm q' fun p => bAR 28 bl fun u bl => bB bl fun q' bl => tI q' fun c0 q' => tC q' fun c' q' => kB c' fun c1 => tI q' fun c2 q' => tI q' fun c3 q' => tE q' <| bAR 28 bl fun v bl => bE bl <| K h p t k b n i c0 c2 c3 c1 l u v
def S_roi_collect_0 : ST := fun vs bl => D_roi_collect_0 vs bl fun h p t k b n i c0 c2 c3 c1 l u v => some (k_roi_collect_0 h p t k b n i c0 c2 c3 c1 l u v, c_roi_collect_0 h p t k b n i c0 c2 c3 c1 l u v)
def H_roi_collect (h : Hd) (p : Pm) (t k b : Int) (l : List (Int × Int × Int × Int)) : Option (Bool × Out) := some ((roiOk h p t k b l && small l.length && (small h.cs.length && (small p.pr.length && small p.st.length))), ⟨.one (.row 0), [], [.arr 28 (.pair (.int .i64) (.pair (.int .i64) (.pair (.int .i64) (.int .i64)))) (roiM h p t k b l)]⟩)
def G_roi_collect : Summ := fun args lent => pA args fun q' args => rdHd q' fun h => pA args fun q' args => rdPm q' fun p => pI args fun t args => pI args fun k args => pI args fun b args => pO args fun c' args => kLR c' fun l => pE args <| nE lent <| H_roi_collect h p t k b l
def H_roi_Band (h : Hd) (p : Pm) (t k b : Int) (l : List (Int × Int × Int × Int)) : Option (Bool × Out) := some ((roiOk h p t k b l && small l.length && (small h.cs.length && (small p.pr.length && small p.st.length))), ⟨.one (.row 0), [], [.arr 28 (.pair (.int .i64) (.pair (.int .i64) (.pair (.int .i64) (.int .i64)))) (roiM h p t k b l)]⟩)
def G_roi_Band : Summ := fun args lent => pA args fun q' args => rdHd q' fun h => pA args fun q' args => rdPm q' fun p => pI args fun t args => pI args fun k args => pI args fun b args => pO args fun c' args => kLR c' fun l => pE args <| nE lent <| H_roi_Band h p t k b l
def i64B (x : Int) : Bool := inr (-9223372036854775808) 9223372036854775807 x
def largeB (u : List Int) (m : List Rc) : Bool := decide ((u.length : Int) > 500) || decide ((m.length : Int) > 40)
def unsV (v s : Int) : Int := if s < 1 ∨ s > 30 then v else if Int.tdiv v (pw s) = 0 then v else Int.tdiv v (pw s)
def unsM (v m s : Int) : Int := if s < 1 ∨ s > 30 then m else if Int.tdiv v (pw s) = 0 then min m s else max 0 (m - s)
def H_law_large (u : List Int) (a b c d : Int) (m : List (Int × Int × Int × Int)) : Option (Bool × Out) := some (true, ⟨.one (.bool (largeB u m)), [], []⟩)
def G_law_large : Summ := fun args lent => pA args fun q' args => tC q' fun c' q' => kLI c' fun u => t4 q' fun a b c d q' => tC q' fun c' q' => kLR c' fun m => tE q' <| pE args <| nE lent <| H_law_large u a b c d m
def p_law_same_0 (l m : List Int) : Bool := (List.range l.length).all (fun j => gI l j == gI m j)
def c_law_same_0 (l m : List Int) : LT := .br (p_law_same_0 l m) (.leaf (.exit 0) [] []) (.leaf .ret [.one (.bool false)] [])
def k_law_same_0 (l m : List Int) (n i : Int) : Bool := decide (i = 0) && decide (n = (l.length : Int)) && small (l.length) && decide (l.length = m.length)
def D_law_same_0 {α : Type} (vs : List V) (bl : List (Option Blk)) (K : (List Int) → (List Int) → Int → Int → Option α) : Option α := pO vs fun c' vs => kLI c' fun l => pO vs fun c' vs => kLI c' fun m => pI vs fun n vs => pI vs fun i vs => pE vs <| bE bl <| K l m n i
def S_law_same_0 : ST := fun vs bl => D_law_same_0 vs bl fun l m n i => some (k_law_same_0 l m n i, c_law_same_0 l m)
def H_law_same (l m : List Int) : Option (Bool × Out) := some (small l.length, ⟨.one (.bool (decide (l = m))), [], []⟩)
def G_law_same : Summ := fun args lent => pO args fun c' args => kLI c' fun l => pO args fun c' args => kLI c' fun m => pE args <| nE lent <| H_law_same l m
def H_quant_Unscale (v m s : Int) : Option (Bool × Out) := some ((i64B v && inr 0 60 m), ⟨.tup [(false, [.int .i64 (unsV v s)]), (false, [.int .i64 (unsM v m s)])], [], []⟩)
def G_quant_Unscale : Summ := fun args lent => pI args fun v args => pI args fun m args => pI args fun s args => pE args <| nE lent <| H_quant_Unscale v m s
def H_awake  : Option (Bool × Out) := some (true, ⟨.one (.bool true), [], []⟩)
def G_awake : Summ := fun args lent => pE args <| nE lent <| H_awake 
def ok_RoiValidates (l : List (Int × Int × Int × Int)) : Bool := true
def H_RoiValidates (l : List (Int × Int × Int × Int)) : Option (Bool × Out) := some (ok_RoiValidates l, ⟨.one (.bool true), [], []⟩)
def G_RoiValidates : Summ := fun args lent => pO args fun c' args => kLR c' fun l => pE args <| nE lent <| H_RoiValidates l
def ok_RoiScales (u : List Int) (a b c d : Int) (m : List (Int × Int × Int × Int)) (s : Int) : Bool := true
def H_RoiScales (u : List Int) (a b c d : Int) (m : List (Int × Int × Int × Int)) (s : Int) : Option (Bool × Out) := some (ok_RoiScales u a b c d m s, ⟨.one (.bool true), [], []⟩)
def G_RoiScales : Summ := fun args lent => pA args fun q' args => tC q' fun c' q' => kLI c' fun u => t4 q' fun a b c d q' => tC q' fun c' q' => kLR c' fun m => tE q' <| pI args fun s args => pE args <| nE lent <| H_RoiScales u a b c d m s
def ok_RoiRestores (u : List Int) (a b c d : Int) (m : List (Int × Int × Int × Int)) (s : Int) : Bool := true
def c_RoiRestores_0 (a b c d s w n i : Int) (m : List (Int × Int × Int × Int)) (u v : List Int) : LT := .leaf (.exit 0) [] []
def k_RoiRestores_0 (a b c d s w n i : Int) (m : List (Int × Int × Int × Int)) (u v : List Int) : Bool := decide (i = 0) && decide (w = c - a) && decide (n = (u.length : Int)) && decide (v = scL u a b c d m s) && decide (scErr u a b c d m s = 0) && small m.length
def D_RoiRestores_0 {α : Type} (vs : List V) (bl : List (Option Blk)) (K : Int → Int → Int → Int → Int → Int → Int → Int → (List (Int × Int × Int × Int)) → (List Int) → (List Int) → Option α) : Option α := pI vs fun s vs => pP 0 0 vs fun vs => pO vs fun c' vs => kR 1 c' <| pI vs fun w vs => pI vs fun n vs => pI vs fun i vs => pE vs <| bB bl fun q' bl => tC q' fun c' q' => kLI c' fun u => t4 q' fun a b c d q' => tC q' fun c' q' => kLR c' fun m => tE q' <| bAI 3 bl fun v bl => bE bl <| K a b c d s w n i m u v
def S_RoiRestores_0 : ST := fun vs bl => D_RoiRestores_0 vs bl fun a b c d s w n i m u v => some (k_RoiRestores_0 a b c d s w n i m u v, c_RoiRestores_0 a b c d s w n i m u v)
def c_RoiRestores_1 (a b c d s w i n x n2 j : Int) (e : Bool) (q m : List (Int × Int × Int × Int)) (u v : List Int) : LT := .leaf (.exit 2) [.one (.int .i64 s), .one (.ptr 0 0), .one (.row 1), .one (.int .i64 w), .one (.int .i64 i), .one (.bool (mskB (mxI a c i) (myI a b c i) m)), .one (.int .i64 n), .one (.int .i64 x)] [some (.box [.lst (.int .i64) u, .int .i64 a, .int .i64 b, .int .i64 c, .int .i64 d, .lst (.pair (.int .i64) (.pair (.int .i64) (.pair (.int .i64) (.int .i64)))) m]), some (.arr 3 (.int .i64) v)]
def k_RoiRestores_1 (a b c d s w i n x n2 j : Int) (e : Bool) (q m : List (Int × Int × Int × Int)) (u v : List Int) : Bool := decide (j = 0) && decide (e = false) && decide (w = c - a) && decide (n2 = (m.length : Int)) && decide (m = q) && small m.length && valid a b c d && decide (a < c) && decide (0 ≤ i) && decide (i < 16777217)
def D_RoiRestores_1 {α : Type} (vs : List V) (bl : List (Option Blk)) (K : Int → Int → Int → Int → Int → Int → Int → Int → Int → Int → Int → Bool → (List (Int × Int × Int × Int)) → (List (Int × Int × Int × Int)) → (List Int) → (List Int) → Option α) : Option α := pI vs fun s vs => pP 0 0 vs fun vs => pO vs fun c' vs => kR 1 c' <| pI vs fun w vs => pI vs fun i vs => pO vs fun c' vs => kB c' fun e => pI vs fun n vs => pI vs fun x vs => pO vs fun c' vs => kLR c' fun q => pI vs fun n2 vs => pI vs fun j vs => pE vs <| bB bl fun q' bl => tC q' fun c' q' => kLI c' fun u => t4 q' fun a b c d q' => tC q' fun c' q' => kLR c' fun m => tE q' <| bAI 3 bl fun v bl => bE bl <| K a b c d s w i n x n2 j e q m u v
def S_RoiRestores_1 : ST := fun vs bl => D_RoiRestores_1 vs bl fun a b c d s w i n x n2 j e q m u v => some (k_RoiRestores_1 a b c d s w i n x n2 j e q m u v, c_RoiRestores_1 a b c d s w i n x n2 j e q m u v)
def H_RoiRestores (u : List Int) (a b c d : Int) (m : List (Int × Int × Int × Int)) (s : Int) : Option (Bool × Out) := some (ok_RoiRestores u a b c d m s, ⟨.one (.bool true), [], []⟩)
def G_RoiRestores : Summ := fun args lent => pA args fun q' args => tC q' fun c' q' => kLI c' fun u => t4 q' fun a b c d q' => tC q' fun c' q' => kLR c' fun m => tE q' <| pI args fun s args => pE args <| nE lent <| H_RoiRestores u a b c d m s
end Go.Rx.Ch30
