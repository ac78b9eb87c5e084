/- What the functions that the laws reach return, in closed form, and their summaries. -/
import Derived.Test.YtcdmkbpmgeeghaaRxD
set_option linter.unnecessarySimpa false
set_option linter.unusedVariables false
namespace Go.Rx.Ch06
open Go.Rx
abbrev w (n : Int) : Int := IntKind.wrap .i64 n
def empty (a b c d : Int) : Bool := decide (a ≥ c) || decide (b ≥ d)
def valid (a b c d : Int) : Bool := decide (0 ≤ a) && decide (a ≤ c) && decide (c ≤ 4096) && decide (0 ≤ b) && decide (b ≤ d) && decide (d ≤ 4096)
def cdiv (a b : Int) : Int := if b < 1 then 0 else if Int.tmod a b > 0 then w (w (Int.tdiv a b) + 1) else w (Int.tdiv a b)
def fdiv (a b : Int) : Int := if b < 1 then 0 else if Int.tmod a b < 0 then w (w (Int.tdiv a b) - 1) else w (Int.tdiv a b)
def area (a b c d : Int) : Int := if valid a b c d then w (w (c - a) * w (d - b)) else 0
abbrev Rc := Int × Int × Int × Int
def reduce (a b c d x y : Int) : Rc := if !valid a b c d || decide (x < 1) || decide (x > 4096) || decide (y < 1) || decide (y > 4096) then (0, 0, 0, 0) else (cdiv a x, cdiv b y, cdiv c x, cdiv d y)
def inter (a b c d e f g h : Int) : Rc := if empty (max a e) (max b f) (min c g) (min d h) then (0, 0, 0, 0) else (max a e, max b f, min c g, min d h)
def contains (a b c d e f g h : Int) : Bool := empty e f g h || decide (inter a b c d e f g h = (e, f, g, h))
def H_rect_Empty (a b c d : Int) : Option (Bool × Out) := some (true, ⟨.one (.bool (empty a b c d)), [], []⟩)
def G_rect_Empty : Summ := fun args lent => pA args fun q' args => t4 q' fun a b c d q' => tE q' <| pE args <| nE lent <| H_rect_Empty a b c d
def H_rect_Valid (a b c d : Int) : Option (Bool × Out) := some (true, ⟨.one (.bool (valid a b c d)), [], []⟩)
def G_rect_Valid : Summ := fun args lent => pA args fun q' args => t4 q' fun a b c d q' => tE q' <| pE args <| nE lent <| H_rect_Valid a b c d
def H_rect_CeilDiv (a b : Int) : Option (Bool × Out) := some (true, ⟨.one (.int .i64 (cdiv a b)), [], []⟩)
def G_rect_CeilDiv : Summ := fun args lent => pI args fun a args => pI args fun b args => pE args <| nE lent <| H_rect_CeilDiv a b
def H_rect_Area (a b c d : Int) : Option (Bool × Out) := some (true, ⟨.one (.int .i64 (area a b c d)), [], []⟩)
def G_rect_Area : Summ := fun args lent => pA args fun q' args => t4 q' fun a b c d q' => tE q' <| pE args <| nE lent <| H_rect_Area a b c d
def H_rect_Reduce (a b c d x y : Int) : Option (Bool × Out) := some (true, ⟨.agg [.int .i64 ((reduce a b c d x y).1), .int .i64 ((reduce a b c d x y).2.1), .int .i64 ((reduce a b c d x y).2.2.1), .int .i64 ((reduce a b c d x y).2.2.2)], [], []⟩)
def G_rect_Reduce : Summ := fun args lent => pA args fun q' args => t4 q' fun a b c d q' => tE q' <| pI args fun x args => pI args fun y args => pE args <| nE lent <| H_rect_Reduce a b c d x y
def H_rect_Intersect (a b c d e f g h : Int) : Option (Bool × Out) := some (true, ⟨.agg [.int .i64 ((inter a b c d e f g h).1), .int .i64 ((inter a b c d e f g h).2.1), .int .i64 ((inter a b c d e f g h).2.2.1), .int .i64 ((inter a b c d e f g h).2.2.2)], [], []⟩)
def G_rect_Intersect : Summ := fun args lent => pA args fun q' args => t4 q' fun a b c d q' => tE q' <| pA args fun q' args => t4 q' fun e f g h q' => tE q' <| pE args <| nE lent <| H_rect_Intersect a b c d e f g h
def H_rect_Contains (a b c d e f g h : Int) : Option (Bool × Out) := some (true, ⟨.one (.bool (contains a b c d e f g h)), [], []⟩)
def G_rect_Contains : Summ := fun args lent => pA args fun q' args => t4 q' fun a b c d q' => tE q' <| pA args fun q' args => t4 q' fun e f g h q' => tE q' <| pE args <| nE lent <| H_rect_Contains a b c d e f g h
def inr (a b x : Int) : Bool := decide (a ≤ x) && decide (x ≤ b)



def areaR (r : Rc) : Int := area r.1 r.2.1 r.2.2.1 r.2.2.2


def count (n : Int) : Int := if inr 0 5 n then 3 * n + 1 else 0
def plOk (i n : Int) : Bool := decide (0 ≤ i) && decide (i < count n)
def plLv (i n : Int) : Int := if plOk i n then (if i = 0 then n else n - (i + 2) / 3 + 1) else 0
def plOr (i n : Int) : Int := if plOk i n then (if i = 0 then 0 else i - 3 * ((i + 2) / 3) + 3) else 0
def idxs (n r : Int) : List Int := if inr 0 5 n && inr 0 n r then (if r = 0 then [0] else [3 * r - 2, 3 * r - 1, 3 * r]) else []
def pw (k : Int) : Int := 2 ^ k.toNat
def resR (a b c d n r : Int) : Rc := if inr 0 5 n && inr 0 n r then reduce a b c d (pw (n - r)) (pw (n - r)) else (0, 0, 0, 0)
def bnd (a b c d : Int) (o : Int) : Rc := if valid a b c d then ((a + (1 - o % 2)) / 2, (b + (1 - o / 2)) / 2, (c + (1 - o % 2)) / 2, (d + (1 - o / 2)) / 2) else (0, 0, 0, 0)
def bndR (r : Rc) (o : Int) : Rc := bnd r.1 r.2.1 r.2.2.1 r.2.2.2 o
def bandR (a b c d n i : Int) : Rc := if plOk i n && valid a b c d then (if i = 0 then resR a b c d n 0 else bndR (resR a b c d n (n - plLv i n + 1)) (plOr i n)) else (0, 0, 0, 0)
def H_pyr_validLevels (n : Int) : Option (Bool × Out) := some (true, ⟨.one (.bool (inr 0 5 n)), [], []⟩)
def G_pyr_validLevels : Summ := fun args lent => pI args fun n args => pE args <| nE lent <| H_pyr_validLevels n
def H_pyr_Count (n : Int) : Option (Bool × Out) := some (true, ⟨.one (.int .i64 (count n)), [], []⟩)
def G_pyr_Count : Summ := fun args lent => pI args fun n args => pE args <| nE lent <| H_pyr_Count n
def H_pyr_Place (i n : Int) : Option (Bool × Out) := some (true, ⟨.tup [(false, [.int .i64 (plLv i n)]), (false, [.int .i64 (plOr i n)]), (false, [.bool (plOk i n)])], [], []⟩)
def G_pyr_Place : Summ := fun args lent => pI args fun i args => pI args fun n args => pE args <| nE lent <| H_pyr_Place i n
def H_pyr_Indices (n r : Int) : Option (Bool × Out) := some (true, ⟨.one (.row 0), [], [.arr 3 (.int .i64) (idxs n r)]⟩)
def G_pyr_Indices : Summ := fun args lent => pI args fun n args => pI args fun r args => pE args <| nE lent <| H_pyr_Indices n r
def H_pyr_Resolution (a b c d n r : Int) : Option (Bool × Out) := some (true, ⟨.agg [.int .i64 ((resR a b c d n r).1), .int .i64 ((resR a b c d n r).2.1), .int .i64 ((resR a b c d n r).2.2.1), .int .i64 ((resR a b c d n r).2.2.2)], [], []⟩)
def G_pyr_Resolution : Summ := fun args lent => pA args fun q' args => t4 q' fun a b c d q' => tE q' <| pI args fun n args => pI args fun r args => pE args <| nE lent <| H_pyr_Resolution a b c d n r
def H_dwt_Bands (a b c d : Int) : Option (Bool × Out) := some (true, ⟨.agg [.int .i64 ((bnd a b c d 0).1), .int .i64 ((bnd a b c d 0).2.1), .int .i64 ((bnd a b c d 0).2.2.1), .int .i64 ((bnd a b c d 0).2.2.2), .int .i64 ((bnd a b c d 1).1), .int .i64 ((bnd a b c d 1).2.1), .int .i64 ((bnd a b c d 1).2.2.1), .int .i64 ((bnd a b c d 1).2.2.2), .int .i64 ((bnd a b c d 2).1), .int .i64 ((bnd a b c d 2).2.1), .int .i64 ((bnd a b c d 2).2.2.1), .int .i64 ((bnd a b c d 2).2.2.2), .int .i64 ((bnd a b c d 3).1), .int .i64 ((bnd a b c d 3).2.1), .int .i64 ((bnd a b c d 3).2.2.1), .int .i64 ((bnd a b c d 3).2.2.2)], [], []⟩)
def G_dwt_Bands : Summ := fun args lent => pA args fun q' args => t4 q' fun a b c d q' => tE q' <| pE args <| nE lent <| H_dwt_Bands a b c d
def rd (l : List Int) (i : Int) : Int := l[i.toNat]?.getD 0
theorem rd_nat (xs : List Int) (i : Nat) (h : i < xs.length) : rd xs (i : Int) = xs[i] := by simp [rd, h]
def mok (i lo hi : Int) : Prop := lo < hi ∧ -281474976710656 ≤ i ∧ i ≤ 281474976710656 ∧ -281474976710656 ≤ lo ∧ lo ≤ 281474976710656 ∧ -281474976710656 ≤ hi ∧ hi ≤ 281474976710656
instance (i lo hi : Int) : Decidable (mok i lo hi) := by unfold mok; infer_instance
def cok (s n : Int) : Prop := 0 ≤ s ∧ s ≤ 4096 ∧ 0 ≤ n ∧ n ≤ 4096
instance (s n : Int) : Decidable (cok s n) := by unfold cok; infer_instance
def cev (s n : Int) : Int := (s + n + 1) / 2 - (s + 1) / 2
def cnt (s n : Int) : Int × Int := if cok s n then (cev s n, n - cev s n) else (0, 0)
def evs : Int → List Int → List Int
  | _, [] => []
  | s, x :: xs => if s % 2 = 0 then x :: evs (s + 1) xs else evs (s + 1) xs
def ods : Int → List Int → List Int
  | _, [] => []
  | s, x :: xs => if s % 2 = 0 then ods (s + 1) xs else x :: ods (s + 1) xs
def ilv : Int → Nat → List Int → List Int → List Int
  | _, 0, _, _ => []
  | s, n + 1, e, o => if s % 2 = 0 then e.headD 0 :: ilv (s + 1) n e.tail o else o.headD 0 :: ilv (s + 1) n e o.tail
theorem cev_zero (s : Int) : cev s 0 = 0 := by unfold cev; omega
theorem cev_even {s n : Int} (h : s % 2 = 0) : cev s (n + 1) = cev (s + 1) n + 1 := by unfold cev; omega
theorem cev_odd {s n : Int} (h : ¬ s % 2 = 0) : cev s (n + 1) = cev (s + 1) n := by unfold cev; omega
theorem cev_bd {s n : Int} (h : 0 ≤ n) : 0 ≤ cev s n ∧ cev s n ≤ n := by unfold cev; omega
theorem evs_length : ∀ (xs : List Int) (s : Int), ((evs s xs).length : Int) = cev s xs.length
  | [], s => by simp [evs, cev_zero]
  | x :: xs, s => by
    have ih := evs_length xs (s + 1)
    unfold evs
    by_cases h : s % 2 = 0
    · rw [if_pos h]; simp only [List.length_cons, Int.natCast_add, Int.cast_ofNat_Int]; rw [ih, cev_even h]
    · rw [if_neg h]; simp only [List.length_cons, Int.natCast_add, Int.cast_ofNat_Int]; rw [ih, cev_odd h]
theorem ods_length : ∀ (xs : List Int) (s : Int), ((ods s xs).length : Int) = xs.length - cev s xs.length
  | [], s => by simp [ods, cev_zero]
  | x :: xs, s => by
    have ih := ods_length xs (s + 1)
    unfold ods
    by_cases h : s % 2 = 0
    · rw [if_pos h]; simp only [List.length_cons, Int.natCast_add, Int.cast_ofNat_Int]; rw [ih, cev_even h]; omega
    · rw [if_neg h]; simp only [List.length_cons, Int.natCast_add, Int.cast_ofNat_Int]; rw [ih, cev_odd h]; omega
theorem ilv_length : ∀ (n : Nat) (s : Int) (e o : List Int), (ilv s n e o).length = n
  | 0, _, _, _ => rfl
  | n + 1, s, e, o => by unfold ilv; split <;> simp [ilv_length n]
theorem ilv_split : ∀ (xs : List Int) (s : Int), ilv s xs.length (evs s xs) (ods s xs) = xs
  | [], s => rfl
  | x :: xs, s => by
    have ih := ilv_split xs (s + 1)
    simp only [List.length_cons]
    unfold ilv evs ods
    by_cases h : s % 2 = 0
    · simp only [if_pos h, List.headD_cons, List.tail_cons]; rw [ih]
    · simp only [if_neg h, List.headD_cons, List.tail_cons]; rw [ih]
theorem evs_ilv : ∀ (n : Nat) (s : Int) (e o : List Int), (e.length : Int) = cev s n → (o.length : Int) = n - cev s n → evs s (ilv s n e o) = e ∧ ods s (ilv s n e o) = o
  | 0, s, e, o, he, ho => by
    have h0 : cev s ((0 : Nat) : Int) = 0 := cev_zero s
    rw [h0] at he ho
    have : e = [] := List.length_eq_zero_iff.1 (by omega)
    have : o = [] := List.length_eq_zero_iff.1 (by omega)
    subst_vars
    exact ⟨rfl, rfl⟩
  | n + 1, s, e, o, he, ho => by
    simp only [Int.natCast_add, Int.cast_ofNat_Int] at he ho
    have hb := cev_bd (s := s + 1) (n := n) (by omega)
    unfold ilv
    by_cases h : s % 2 = 0
    · rw [cev_even h] at he ho
      cases e with
      | nil => simp at he; omega
      | cons x e =>
        simp only [List.length_cons, Int.natCast_add, Int.cast_ofNat_Int] at he
        have ih := evs_ilv n (s + 1) e o (by omega) (by omega)
        simp only [if_pos h, List.headD_cons, List.tail_cons]
        unfold evs ods
        simp only [if_pos h]
        rw [ih.1, ih.2]; exact ⟨rfl, rfl⟩
    · rw [cev_odd h] at he ho
      cases o with
      | nil => simp at ho; omega
      | cons x o =>
        simp only [List.length_cons, Int.natCast_add, Int.cast_ofNat_Int] at ho
        have ih := evs_ilv n (s + 1) e o (by omega) (by omega)
        simp only [if_neg h, List.headD_cons, List.tail_cons]
        unfold evs ods
        simp only [if_neg h]
        rw [ih.1, ih.2]; exact ⟨rfl, rfl⟩
theorem drop_at {xs : List Int} {i : Nat} (h : i < xs.length) : xs.drop i = rd xs i :: xs.drop (i + 1) := by
  rw [rd_nat xs i h]; exact List.drop_eq_getElem_cons h
def sok (xs : List Int) (s : Int) : Prop := 0 ≤ s ∧ s ≤ 4096 ∧ xs.length ≤ 4096
instance (xs : List Int) (s : Int) : Decidable (sok xs s) := by unfold sok; infer_instance
def spl (xs : List Int) (s : Int) : List Int × List Int × Int := if sok xs s then (evs s xs, ods s xs, 0) else ([], [], 2)
theorem set_mid (acc : List Int) (x y : Int) (r : List Int) : (acc ++ x :: r).set acc.length y = (acc ++ [y]) ++ r := by
  simp [List.set_append_right]
def jok (e o : List Int) (s : Int) : Prop := 0 ≤ s ∧ s ≤ 4096 ∧ e.length + o.length ≤ 4096
instance (e o : List Int) (s : Int) : Decidable (jok e o s) := by unfold jok; infer_instance
def jn (e o : List Int) (s : Int) : List Int × Int :=
  if jok e o s then (if (e.length : Int) = cev s ((e.length : Int) + (o.length : Int)) then (ilv s (e.length + o.length) e o, 0) else ([], 4)) else ([], 2)
theorem cnt_sum {e o : List Int} {s : Int} (h : jok e o s) : cnt s ((e.length : Int) + (o.length : Int)) = (cev s ((e.length : Int) + (o.length : Int)), ((e.length : Int) + (o.length : Int)) - cev s ((e.length : Int) + (o.length : Int))) := by
  obtain ⟨h1, h2, h3⟩ := h
  unfold cnt; rw [if_pos ⟨h1, h2, by omega, by omega⟩]
theorem em {x p r : Int} (d : Int) (h : x = r + p * d) (h0 : 0 ≤ r) (h1 : r < p) : x % p = r := by
  rw [h, Int.add_mul_emod_self_left]; exact Int.emod_eq_of_lt h0 h1
def mr (n i : Int) : Int := if i % (2 * (n - 1)) ≥ n then 2 * (n - 1) - i % (2 * (n - 1)) else i % (2 * (n - 1))
theorem mr_in {n : Int} (i : Int) (hn : 2 ≤ n) : 0 ≤ mr n i ∧ mr n i < n := by
  unfold mr
  have h0 := Int.emod_nonneg i (show 2 * (n - 1) ≠ 0 by omega)
  have h1 := Int.emod_lt_of_pos i (show 0 < 2 * (n - 1) by omega)
  generalize i % (2 * (n - 1)) = r at h0 h1
  split <;> omega
theorem mr_id {n i : Int} (h0 : 0 ≤ i) (h1 : i < n) (hn : 2 ≤ n) : mr n i = i := by
  unfold mr
  rw [Int.emod_eq_of_lt h0 (by omega), if_neg (by omega)]
theorem mr_neg {n : Int} (i : Int) (hn : 2 ≤ n) : mr n (-i) = mr n i := by
  unfold mr
  have h0 := Int.emod_nonneg i (show 2 * (n - 1) ≠ 0 by omega)
  have h1 := Int.emod_lt_of_pos i (show 0 < 2 * (n - 1) by omega)
  have h2 := Int.emod_add_mul_ediv i (2 * (n - 1))
  have hp : ∃ p, p = 2 * (n - 1) := ⟨_, rfl⟩
  obtain ⟨p, hp⟩ := hp
  rw [← hp] at h0 h1 h2 ⊢
  by_cases hz : i % p = 0
  · have : (-i) % p = 0 := em (-(i / p)) (by rw [Int.mul_neg]; omega) (by omega) (by omega)
    rw [this, hz]
  · have : (-i) % p = p - i % p := em (-(i / p) - 1) (by rw [Int.mul_sub, Int.mul_neg, Int.mul_one]; omega) (by omega) (by omega)
    rw [this]
    generalize i % p = r at *
    by_cases a : p - r ≥ n <;> by_cases b : r ≥ n <;> simp only [a, b, if_true, if_false] <;> omega
theorem mr_refl {n : Int} (i : Int) (hn : 2 ≤ n) : mr n (2 * (n - 1) - i) = mr n i := by
  rw [← mr_neg i hn]
  unfold mr
  rw [show 2 * (n - 1) - i = 2 * (n - 1) + -i by omega, Int.add_emod_left]
theorem mr_par {n : Int} (i : Int) : mr n i % 2 = i % 2 := by
  unfold mr
  have h2 := Int.emod_add_mul_ediv i (2 * (n - 1))
  rw [Int.mul_assoc] at h2
  generalize i % (2 * (n - 1)) = r at *
  generalize (n - 1) * (i / (2 * (n - 1))) = t at h2
  split <;> omega
def ms (i : Int) : Nat := 2 * i.natAbs + (if i < 0 then 1 else 0)
theorem ms_neg {i : Int} (h : i < 0) : ms (-i) < ms i := by unfold ms; rw [if_pos h, if_neg (by omega)]; omega
theorem ms_refl {n i : Int} (hn : 2 ≤ n) (h : n - 1 < i) : ms (2 * (n - 1) - i) < ms i := by
  unfold ms
  rw [if_neg (show ¬ i < 0 by omega)]
  split <;> omega
theorem mr_lip {n : Int} (hn : 2 ≤ n) (j : Int) (hj : 0 ≤ j ∧ j < n) : ∀ (m : Nat) (i : Int), ms i ≤ m → (mr n i - j).natAbs ≤ (i - j).natAbs
  | 0, i, h => by
    have : i = 0 := by unfold ms at h; omega
    subst this
    rw [mr_id (by omega) (by omega) hn]; omega
  | m + 1, i, h => by
    by_cases h0 : i < 0
    · have := mr_lip hn j hj m (-i) (by have := ms_neg h0; omega)
      rw [mr_neg i hn] at this; omega
    · by_cases h1 : n - 1 < i
      · have := mr_lip hn j hj m (2 * (n - 1) - i) (by have := ms_refl hn h1; omega)
        rw [mr_refl i hn] at this; omega
      · rw [mr_id (by omega) (by omega) hn]; omega
theorem mr_near {n : Int} (hn : 2 ≤ n) {j : Int} (hj : 0 ≤ j ∧ j < n) (i : Int) : (mr n i - j).natAbs ≤ (i - j).natAbs := mr_lip hn j hj _ i (Nat.le_refl _)
def at_ (l : List Int) (i : Int) : Int := rd l (mr l.length i)
def prd (kk : Int) (l : List Int) (i : Int) : Int :=
  if kk = 1 then at_ l (i - 1) else if kk = 2 then (at_ l (i - 1) + at_ l (i + 1)) / 2 else (9 * (at_ l (i - 1) + at_ l (i + 1)) - (at_ l (i - 3) + at_ l (i + 3)) + 8) / 16
def upd (kk : Int) (l : List Int) (i : Int) : Int :=
  if kk = 1 then at_ l (i + 1) / 2 else (at_ l (i - 1) + at_ l (i + 1) + 2) / 4
def stp (par sg : Int) (F : List Int → Int → Int) (s : Int) (l : List Int) : List Int :=
  (List.range l.length).map fun (i : Nat) => if (s + (i : Int)) % 2 = par then rd l (i : Int) + sg * F l (i : Int) else rd l (i : Int)
theorem stp_length (par sg : Int) (F : List Int → Int → Int) (s : Int) (l : List Int) : (stp par sg F s l).length = l.length := by simp [stp]
theorem rd_out (l : List Int) (i : Nat) (h : l.length ≤ i) : rd l (i : Int) = 0 := by simp [rd, List.getElem?_eq_none h]
theorem rd_stp (par sg : Int) (F : List Int → Int → Int) (s : Int) (l : List Int) (i : Nat) (h : i < l.length) : rd (stp par sg F s l) (i : Int) = if (s + i) % 2 = par then rd l i + sg * F l i else rd l i := by
  rw [rd_nat _ _ (by rw [stp_length]; exact h)]
  simp [stp]
theorem ext_rd {a b : List Int} (hl : a.length = b.length) (h : ∀ i : Nat, i < a.length → rd a i = rd b i) : a = b := by
  refine List.ext_getElem hl fun i h1 h2 => ?_
  have := h i h1
  rwa [rd_nat _ _ h1, rd_nat _ _ h2] at this
def Far (par s : Int) (F : List Int → Int → Int) : Prop := ∀ (a b : List Int) (i : Int), a.length = b.length → 2 ≤ a.length → (s + i) % 2 = par → (∀ q : Nat, q < a.length → (s + q) % 2 ≠ par → rd a q = rd b q) → F a i = F b i
theorem at_far {a b : List Int} {par s i e : Int} (hl : a.length = b.length) (hn : 2 ≤ a.length) (hp : (s + i) % 2 = par) (he : e % 2 = 1) (h : ∀ q : Nat, q < a.length → (s + q) % 2 ≠ par → rd a q = rd b q) : at_ a (i + e) = at_ b (i + e) := by
  unfold at_
  rw [← hl]
  have h1 := mr_in (n := a.length) (i + e) (by omega)
  have h2 := mr_par (n := a.length) (i + e)
  obtain ⟨q, hq⟩ := Int.eq_ofNat_of_zero_le h1.1
  rw [hq] at h1 h2 ⊢
  exact h q (by omega) (by omega)
theorem prd_far (kk par s : Int) : Far par s (prd kk) := by
  intro a b i hl hn hp h
  have h1 := at_far (e := -1) hl hn hp (by decide) h
  have h2 := at_far (e := 1) hl hn hp (by decide) h
  have h3 := at_far (e := -3) hl hn hp (by decide) h
  have h4 := at_far (e := 3) hl hn hp (by decide) h
  simp only [prd, Int.sub_eq_add_neg] at *
  rw [h1, h2, h3, h4]
theorem upd_far (kk par s : Int) : Far par s (upd kk) := by
  intro a b i hl hn hp h
  have h1 := at_far (e := -1) hl hn hp (by decide) h
  have h2 := at_far (e := 1) hl hn hp (by decide) h
  simp only [upd, Int.sub_eq_add_neg] at *
  rw [h1, h2]
def Bd (b : Int) (l : List Int) : Prop := ∀ q : Nat, -b ≤ rd l q ∧ rd l q ≤ b
theorem Bd.at {b : Int} {l : List Int} (h : Bd b l) (i : Int) (hn : 2 ≤ l.length) : -b ≤ at_ l i ∧ at_ l i ≤ b := by
  unfold at_
  have h1 := mr_in (n := l.length) i (by omega)
  obtain ⟨q, hq⟩ := Int.eq_ofNat_of_zero_le h1.1
  rw [hq]; exact h q
theorem Bd.mono {b c : Int} {l : List Int} (h : Bd b l) (hc : b ≤ c) : Bd c l := fun q => by have := h q; omega
theorem Bd.of_mem {b : Int} {l : List Int} (h0 : 0 ≤ b) (h : ∀ x ∈ l, -b ≤ x ∧ x ≤ b) : Bd b l := fun q => by
  by_cases hq : q < l.length
  · rw [rd_nat l q hq]; exact h _ (List.getElem_mem hq)
  · rw [rd_out l q (by omega)]; omega
theorem Bd.mem {b : Int} {l : List Int} (h : Bd b l) : ∀ x ∈ l, -b ≤ x ∧ x ≤ b := fun x hx => by
  obtain ⟨q, hq, rfl⟩ := List.getElem_of_mem hx
  have := h q; rwa [rd_nat l q hq] at this
theorem prd_bd {b : Int} (kk : Int) {l : List Int} (h : Bd b l) (h0 : 0 ≤ b) (hn : 2 ≤ l.length) (i : Int) : -(2 * b + 1) ≤ prd kk l i ∧ prd kk l i ≤ 2 * b + 1 := by
  have h1 := h.at (i - 1) hn
  have h2 := h.at (i + 1) hn
  have h3 := h.at (i - 3) hn
  have h4 := h.at (i + 3) hn
  unfold prd
  split
  · omega
  · split <;> omega
theorem upd_bd {b : Int} (kk : Int) {l : List Int} (h : Bd b l) (h0 : 0 ≤ b) (hn : 2 ≤ l.length) (i : Int) : -(b + 1) ≤ upd kk l i ∧ upd kk l i ≤ b + 1 := by
  have h1 := h.at (i - 1) hn
  have h2 := h.at (i + 1) hn
  unfold upd
  split <;> omega
theorem stp_bd {par sg s b f : Int} {F : List Int → Int → Int} {l : List Int} (h : Bd b l) (hf : 0 ≤ f) (hs : sg = 1 ∨ sg = -1) (hF : ∀ i : Nat, i < l.length → -f ≤ F l i ∧ F l i ≤ f) : Bd (b + f) (stp par sg F s l) := fun q => by
  have hb := h q
  by_cases hq : q < l.length
  · rw [rd_stp _ _ _ _ _ _ hq]
    have := hF q hq
    split
    · rcases hs with rfl | rfl <;> omega
    · omega
  · rw [rd_out _ q (by rw [stp_length]; omega)]
    rw [rd_out _ q (by omega)] at hb
    omega
theorem rd_set (c : List Int) (i q : Nat) (v : Int) (hi : i < c.length) : rd (c.set i v) (q : Int) = if q = i then v else rd c q := by
  by_cases hq : q < c.length
  · rw [rd_nat _ _ (by simpa using hq), List.getElem_set, rd_nat _ _ hq]
    by_cases e : q = i
    · rw [if_pos e, if_pos e.symm]
    · rw [if_neg e, if_neg (fun h => e h.symm)]
  · rw [rd_out _ _ (by simpa using hq), if_neg (by omega), rd_out _ _ (by omega)]
theorem stp_val {par sg s : Int} {F : List Int → Int → Int} {l : List Int} (q : Nat) (hq : q < l.length) (hp : (s + q) % 2 = par) : rd (stp par sg F s l) q = rd l q + sg * F l q := by rw [rd_stp _ _ _ _ _ _ hq, if_pos hp]
theorem stp_keep {par sg s : Int} {F : List Int → Int → Int} {l : List Int} (q : Nat) (hp : ¬ (s + q) % 2 = par) : rd (stp par sg F s l) q = rd l q := by
  by_cases hq : q < l.length
  · rw [rd_stp _ _ _ _ _ _ hq, if_neg hp]
  · rw [rd_out _ _ (by rw [stp_length]; omega), rd_out _ _ (by omega)]
theorem way_next {par sg s : Int} {F : List Int → Int → Int} {l c : List Int} {i : Nat} {v : Int} (hc : ∀ q : Nat, rd c q = if q < i then rd (stp par sg F s l) q else rd l q) (hl : c.length = l.length) (hi : i < l.length) (hp : (s + i) % 2 = par) (hv : v = rd l i + sg * F l i) :
    ∀ q : Nat, rd (c.set i v) q = if q < i + 1 then rd (stp par sg F s l) q else rd l q := fun q => by
  rw [rd_set _ _ _ _ (by omega)]
  by_cases e : q = i
  · subst e; rw [if_pos rfl, if_pos (by omega), stp_val q hi hp, hv]
  · rw [if_neg e, hc q]
    by_cases hq : q < i
    · rw [if_pos hq, if_pos (by omega)]
    · rw [if_neg hq, if_neg (by omega)]
theorem way_skip {par sg s : Int} {F : List Int → Int → Int} {l c : List Int} {i : Nat} (hc : ∀ q : Nat, rd c q = if q < i then rd (stp par sg F s l) q else rd l q) (hp : ¬ (s + i) % 2 = par) :
    ∀ q : Nat, rd c q = if q < i + 1 then rd (stp par sg F s l) q else rd l q := fun q => by
  rw [hc q]
  by_cases e : q = i
  · subst e; rw [if_neg (by omega), if_pos (by omega), stp_keep q hp]
  · by_cases hq : q < i
    · rw [if_pos hq, if_pos (by omega)]
    · rw [if_neg hq, if_neg (by omega)]
theorem way_end {par sg s : Int} {F : List Int → Int → Int} {l c : List Int} {i : Nat} (hc : ∀ q : Nat, rd c q = if q < i then rd (stp par sg F s l) q else rd l q) (hl : c.length = l.length) (hi : l.length ≤ i) : c = stp par sg F s l :=
  ext_rd (by rw [stp_length]; exact hl) fun q hq => by rw [hc q, if_pos (by omega)]
def fit (b : Int) (l : List Int) : Prop := ∀ x ∈ l, -b ≤ x ∧ x ≤ b
instance (b : Int) (l : List Int) : Decidable (fit b l) := by unfold fit; infer_instance
theorem fit_cons (b x : Int) (l : List Int) : fit b (x :: l) ↔ (-b ≤ x ∧ x ≤ b) ∧ fit b l := by simp [fit]
def fwd (kk s : Int) (l : List Int) : List Int := stp 0 1 (upd kk) s (stp 1 (-1) (prd kk) s l)
def inv (kk s : Int) (l : List Int) : List Int := stp 1 1 (prd kk) s (stp 0 (-1) (upd kk) s l)
def fw (l : List Int) (s kk : Int) : List Int × List Int × Int :=
  if ¬ (1 ≤ kk ∧ kk ≤ 3) then ([], [], 3) else if ¬ (0 ≤ s ∧ s ≤ 4096 ∧ l.length ≤ 4096 ∧ fit 281474976710656 l) then ([], [], 2) else
  if l.length > 1 then (evs s (fwd kk s l), ods s (fwd kk s l), 0) else (evs s l, ods s l, 0)
def iv (a b : List Int) (s kk : Int) : List Int × Int :=
  if ¬ (1 ≤ kk ∧ kk ≤ 3) then ([], 3) else if ¬ (0 ≤ s ∧ s ≤ 4096 ∧ a.length + b.length ≤ 4096 ∧ fit 1125899906842624 a ∧ fit 1125899906842624 b) then ([], 2) else
  if (jn a b s).2 = 0 then (if (jn a b s).1.length > 1 then (inv kk s (jn a b s).1, 0) else ((jn a b s).1, 0)) else ([], (jn a b s).2)
theorem ilv_bd {c : Int} (hc : 0 ≤ c) : ∀ (n : Nat) (s : Int) (a b : List Int), fit c a → fit c b → fit c (ilv s n a b)
  | 0, s, a, b, ha, hb => by simp [ilv, fit]
  | n + 1, s, a, b, ha, hb => by
    unfold ilv
    split
    · rw [fit_cons]
      refine ⟨?_, ilv_bd hc n (s + 1) a.tail b (fun x hx => ha x (List.mem_of_mem_tail hx)) hb⟩
      cases a with
      | nil => simp; omega
      | cons x a => exact ha x (by simp)
    · rw [fit_cons]
      refine ⟨?_, ilv_bd hc n (s + 1) a b.tail ha (fun x hx => hb x (List.mem_of_mem_tail hx))⟩
      cases b with
      | nil => simp; omega
      | cons x b => exact hb x (by simp)
theorem jn_ok (a b : List Int) (s : Int) (h : (jn a b s).2 = 0) : jok a b s ∧ (a.length : Int) = cev s ((a.length : Int) + (b.length : Int)) ∧ (jn a b s).1 = ilv s (a.length + b.length) a b := by
  unfold jn at h ⊢
  by_cases h1 : jok a b s
  · rw [if_pos h1] at h ⊢
    by_cases h2 : (a.length : Int) = cev s ((a.length : Int) + (b.length : Int))
    · rw [if_pos h2]; exact ⟨h1, h2, rfl⟩
    · rw [if_neg h2] at h; simp at h
  · rw [if_neg h1] at h; simp at h
theorem jn_len (a b : List Int) (s : Int) (h : (jn a b s).2 = 0) : (jn a b s).1.length = a.length + b.length := by rw [(jn_ok a b s h).2.2, ilv_length]
theorem jn_bd (a b : List Int) (s : Int) {c : Int} (hc : 0 ≤ c) (ha : fit c a) (hb : fit c b) (h : (jn a b s).2 = 0) : Bd c (jn a b s).1 := by
  rw [(jn_ok a b s h).2.2]
  exact Bd.of_mem hc (ilv_bd hc _ s a b ha hb)
theorem rd_cons_nat (x : Int) (xs : List Int) (q : Nat) : rd (x :: xs) ((q + 1 : Nat) : Int) = rd xs q := by
  by_cases h : q < xs.length
  · rw [rd_nat _ _ (by simpa using h), rd_nat _ _ h]; rfl
  · rw [rd_out _ _ (by simpa using h), rd_out _ _ (by omega)]
theorem evs_mem : ∀ (l : List Int) (s x : Int), x ∈ evs s l → ∃ q : Nat, q < l.length ∧ (s + q) % 2 = 0 ∧ x = rd l q
  | [], s, x, h => by simp [evs] at h
  | y :: l, s, x, h => by
    unfold evs at h
    have up : x ∈ evs (s + 1) l → ∃ q : Nat, q < (y :: l).length ∧ (s + q) % 2 = 0 ∧ x = rd (y :: l) q := fun h => by
      obtain ⟨q, h1, h2, h3⟩ := evs_mem l (s + 1) x h
      exact ⟨q + 1, by simpa using h1, by omega, by rw [rd_cons_nat]; exact h3⟩
    split at h
    · next hp =>
      rcases List.mem_cons.1 h with rfl | h
      · exact ⟨0, by simp, by omega, by rfl⟩
      · exact up h
    · exact up h
theorem ods_mem : ∀ (l : List Int) (s x : Int), x ∈ ods s l → ∃ q : Nat, q < l.length ∧ (s + q) % 2 = 1 ∧ x = rd l q
  | [], s, x, h => by simp [ods] at h
  | y :: l, s, x, h => by
    unfold ods at h
    have up : x ∈ ods (s + 1) l → ∃ q : Nat, q < (y :: l).length ∧ (s + q) % 2 = 1 ∧ x = rd (y :: l) q := fun h => by
      obtain ⟨q, h1, h2, h3⟩ := ods_mem l (s + 1) x h
      exact ⟨q + 1, by simpa using h1, by omega, by rw [rd_cons_nat]; exact h3⟩
    split at h
    · exact up h
    · next hp =>
      rcases List.mem_cons.1 h with rfl | h
      · exact ⟨0, by simp, by omega, by rfl⟩
      · exact up h
def hb (b kk : Int) : Int := if 0 ≤ b ∧ b ≤ 281474976710656 ∧ 1 ≤ kk ∧ kk ≤ 3 then (if kk = 3 then b + (20 * b + 8) / 16 else 2 * b) else 0
def lb (b kk : Int) : Int := if 0 ≤ b ∧ b ≤ 281474976710656 ∧ 1 ≤ kk ∧ kk ≤ 3 then b + (2 * hb b kk + 2) / 4 else 0
theorem high_at {b kk : Int} {l : List Int} (h : Bd b l) (h0 : 0 ≤ b ∧ b ≤ 281474976710656) (hk : 1 ≤ kk ∧ kk ≤ 3) (hn : 2 ≤ l.length) (s : Int) (q : Nat) (hq : q < l.length) (hp : (s + q) % 2 = 1) :
    -(hb b kk) ≤ rd (stp 1 (-1) (prd kk) s l) q ∧ rd (stp 1 (-1) (prd kk) s l) q ≤ hb b kk := by
  rw [stp_val q hq hp]
  have h5 := h q
  have h1 := h.at (q - 1) hn
  have h2 := h.at (q + 1) hn
  have h3 := h.at (q - 3) hn
  have h4 := h.at (q + 3) hn
  unfold hb prd
  rw [if_pos ⟨h0.1, h0.2, hk⟩]
  by_cases a : kk = 1
  · rw [if_pos a, if_neg (by omega)]; omega
  · rw [if_neg a]
    by_cases c : kk = 2
    · rw [if_pos c, if_neg (by omega)]; omega
    · rw [if_neg c, if_pos (by omega)]; omega
theorem at_odd {b c s i e : Int} {l : List Int} (hn : 2 ≤ l.length) (h : ∀ q : Nat, q < l.length → (s + q) % 2 = 1 → -b ≤ rd l q ∧ rd l q ≤ b) (hp : (s + i) % 2 = 0) (he : e % 2 = 1) : -b ≤ at_ l (i + e) ∧ at_ l (i + e) ≤ b := by
  unfold at_
  have h1 := mr_in (n := l.length) (i + e) (by omega)
  have h2 := mr_par (n := l.length) (i + e)
  obtain ⟨q, hq⟩ := Int.eq_ofNat_of_zero_le h1.1
  rw [hq] at h1 h2 ⊢
  exact h q (by omega) (by omega)
theorem low_at {b kk : Int} {l : List Int} (h : Bd b l) (h0 : 0 ≤ b ∧ b ≤ 281474976710656) (hk : 1 ≤ kk ∧ kk ≤ 3) (hn : 2 ≤ l.length) (s : Int) (q : Nat) (hq : q < l.length) (hp : (s + q) % 2 = 0) :
    -(lb b kk) ≤ rd (fwd kk s l) q ∧ rd (fwd kk s l) q ≤ lb b kk := by
  unfold fwd
  have hl := stp_length 1 (-1) (prd kk) s l
  rw [stp_val q (by rw [hl]; exact hq) hp, stp_keep q (by omega)]
  have h5 := h q
  have h1 := at_odd (c := 0) (e := -1) (by rw [hl]; exact hn) (fun q hq hp => high_at h h0 hk hn s q (by rw [hl] at hq; exact hq) hp) hp (by decide)
  have h2 := at_odd (c := 0) (e := 1) (by rw [hl]; exact hn) (fun q hq hp => high_at h h0 hk hn s q (by rw [hl] at hq; exact hq) hp) hp (by decide)
  unfold lb upd
  rw [if_pos ⟨h0.1, h0.2, hk⟩]
  simp only [Int.sub_eq_add_neg] at *
  by_cases a : kk = 1
  · rw [if_pos a]
    have : hb b kk = 2 * b := by unfold hb; rw [if_pos ⟨h0.1, h0.2, hk⟩, if_neg (by omega)]
    omega
  · rw [if_neg a]; omega
theorem high_at2 {b kk : Int} {l : List Int} (h : Bd b l) (h0 : 0 ≤ b ∧ b ≤ 281474976710656) (hk : 1 ≤ kk ∧ kk ≤ 3) (hn : 2 ≤ l.length) (s : Int) (q : Nat) (hq : q < l.length) (hp : (s + q) % 2 = 1) :
    -(hb b kk) ≤ rd (fwd kk s l) q ∧ rd (fwd kk s l) q ≤ hb b kk := by
  unfold fwd
  rw [stp_keep q (by omega)]
  exact high_at h h0 hk hn s q hq hp
theorem hb_ge {b kk : Int} (h0 : 0 ≤ b ∧ b ≤ 281474976710656) (hk : 1 ≤ kk ∧ kk ≤ 3) : b ≤ hb b kk ∧ hb b kk ≤ 3 * b + 1 := by
  unfold hb; rw [if_pos ⟨h0.1, h0.2, hk⟩]; split <;> omega
theorem lb_ge {b kk : Int} (h0 : 0 ≤ b ∧ b ≤ 281474976710656) (hk : 1 ≤ kk ∧ kk ≤ 3) : b ≤ lb b kk ∧ lb b kk ≤ 3 * b + 1 := by
  have := hb_ge h0 hk
  unfold lb; rw [if_pos ⟨h0.1, h0.2, hk⟩]
  omega
theorem low_fit {b kk : Int} {l : List Int} (h : fit b l) (h0 : 0 ≤ b ∧ b ≤ 281474976710656) (hk : 1 ≤ kk ∧ kk ≤ 3) (hn : 2 ≤ l.length) (s : Int) : fit (lb b kk) (evs s (fwd kk s l)) := fun x hx => by
  have hb' : Bd b l := Bd.of_mem h0.1 h
  obtain ⟨q, h1, h2, rfl⟩ := evs_mem _ _ _ hx
  exact low_at hb' h0 hk hn s q (by unfold fwd at h1; rw [stp_length, stp_length] at h1; exact h1) h2
theorem high_fit {b kk : Int} {l : List Int} (h : fit b l) (h0 : 0 ≤ b ∧ b ≤ 281474976710656) (hk : 1 ≤ kk ∧ kk ≤ 3) (hn : 2 ≤ l.length) (s : Int) : fit (hb b kk) (ods s (fwd kk s l)) := fun x hx => by
  have hb' : Bd b l := Bd.of_mem h0.1 h
  obtain ⟨q, h1, h2, rfl⟩ := ods_mem _ _ _ hx
  exact high_at2 hb' h0 hk hn s q (by unfold fwd at h1; rw [stp_length, stp_length] at h1; exact h1) h2
theorem evs_fit {b s : Int} {l : List Int} (h : fit b l) (h0 : 0 ≤ b) : fit b (evs s l) := fun x hx => by
  obtain ⟨q, h1, h2, rfl⟩ := evs_mem _ _ _ hx
  exact Bd.of_mem h0 h q
theorem ods_fit {b s : Int} {l : List Int} (h : fit b l) (h0 : 0 ≤ b) : fit b (ods s l) := fun x hx => by
  obtain ⟨q, h1, h2, rfl⟩ := ods_mem _ _ _ hx
  exact Bd.of_mem h0 h q
theorem fit_mono {b c : Int} {l : List Int} (h : fit b l) (hc : b ≤ c) : fit c l := fun x hx => by have := h x hx; omega
theorem jn_split (s : Int) (z : List Int) (hs : 0 ≤ s ∧ s ≤ 4096) (hn : z.length ≤ 4096) : jn (evs s z) (ods s z) s = (z, 0) := by
  have h1 := evs_length z s
  have h2 := ods_length z s
  have h3 : (evs s z).length + (ods s z).length = z.length := by omega
  unfold jn
  rw [if_pos ⟨hs.1, hs.2, by omega⟩, if_pos (by rw [show ((evs s z).length : Int) + ((ods s z).length : Int) = (z.length : Int) by omega]; exact h1), h3, ilv_split]
def fz (l : List Int) (s kk : Int) : List Int := if l.length > 1 then fwd kk s l else l
theorem fz_len (l : List Int) (s kk : Int) : (fz l s kk).length = l.length := by unfold fz fwd; split <;> simp [stp_length]
theorem fw_ok {l : List Int} {s kk : Int} (hk : 1 ≤ kk ∧ kk ≤ 3) (hs : 0 ≤ s ∧ s ≤ 4096) (hn : l.length ≤ 4096) (hf : fit 281474976710656 l) : fw l s kk = (evs s (fz l s kk), ods s (fz l s kk), 0) := by
  unfold fw fz
  rw [if_neg (not_not_intro hk), if_neg (not_not_intro ⟨hs.1, hs.2, hn, hf⟩)]
  split <;> rfl
theorem fz_low {b : Int} {l : List Int} {s kk : Int} (hk : 1 ≤ kk ∧ kk ≤ 3) (h : fit b l) (h0 : 0 ≤ b ∧ b ≤ 281474976710656) : fit (lb b kk) (evs s (fz l s kk)) ∧ fit (hb b kk) (ods s (fz l s kk)) := by
  unfold fz
  split
  · exact ⟨low_fit h h0 hk (by omega) s, high_fit h h0 hk (by omega) s⟩
  · exact ⟨fit_mono (evs_fit h h0.1) (lb_ge h0 hk).1, fit_mono (ods_fit h h0.1) (hb_ge h0 hk).1⟩
def iz (z : List Int) (s kk : Int) : List Int := if z.length > 1 then inv kk s z else z
theorem iv_ok {z : List Int} {s kk : Int} (hk : 1 ≤ kk ∧ kk ≤ 3) (hs : 0 ≤ s ∧ s ≤ 4096) (hn : z.length ≤ 4096) (h1 : fit 1125899906842624 (evs s z)) (h2 : fit 1125899906842624 (ods s z)) : iv (evs s z) (ods s z) s kk = (iz z s kk, 0) := by
  have h3 := evs_length z s
  have h4 := ods_length z s
  unfold iv iz
  rw [if_neg (not_not_intro hk), if_neg (not_not_intro ⟨hs.1, hs.2, by omega, h1, h2⟩), jn_split s z hs hn]
  simp only [if_pos]
  split <;> rfl
theorem iz_len (l : List Int) (s kk : Int) : (iz l s kk).length = l.length := by unfold iz inv; split <;> simp [stp_length]
def Near (r p : Int) (a b : List Int) : Prop := a.length = b.length ∧ ∀ q : Nat, q < a.length → r < (((q : Int) - p).natAbs : Int) → rd a q = rd b q
theorem at_near {r p : Int} {a b : List Int} (h : Near r p a b) (hn : 2 ≤ a.length) (i : Nat) (hi : i < a.length) (e : Int) (he : r + (e.natAbs : Int) < (((i : Int) - p).natAbs : Int)) : at_ a (i + e) = at_ b (i + e) := by
  unfold at_
  rw [← h.1]
  have h1 := mr_in (n := a.length) (i + e) (by omega)
  have h2 := mr_near (n := a.length) (by omega) (j := i) ⟨by omega, by omega⟩ (i + e)
  obtain ⟨q, hq⟩ := Int.eq_ofNat_of_zero_le h1.1
  rw [hq] at h1 h2 ⊢
  exact h.2 q (by omega) (by omega)
theorem near_stp {par sg s r p t : Int} {F : List Int → Int → Int} {a b : List Int} (h : Near r p a b) (ht : 0 ≤ t) (hF : ∀ i : Nat, i < a.length → r + t < (((i : Int) - p).natAbs : Int) → F a i = F b i) : Near (r + t) p (stp par sg F s a) (stp par sg F s b) := by
  refine ⟨by rw [stp_length, stp_length]; exact h.1, fun q hq hd => ?_⟩
  rw [stp_length] at hq
  have h0 := h.1
  rw [rd_stp _ _ _ _ _ _ hq, rd_stp _ _ _ _ _ _ (by omega), h.2 q hq (by omega), hF q hq hd]
theorem near_upd {sg s r p : Int} {a b : List Int} (kk : Int) (h : Near r p a b) (hn : 2 ≤ a.length) : Near (r + 1) p (stp 0 sg (upd kk) s a) (stp 0 sg (upd kk) s b) :=
  near_stp h (by omega) fun i hi hd => by
    have h1 := at_near h hn i hi (-1) (by omega)
    have h2 := at_near h hn i hi 1 (by omega)
    simp only [upd, Int.sub_eq_add_neg] at *
    rw [h1, h2]
theorem near_prd {sg s r p : Int} {a b : List Int} (kk : Int) (h : Near r p a b) (hn : 2 ≤ a.length) : Near (r + (if kk = 1 ∨ kk = 2 then 1 else 3)) p (stp 1 sg (prd kk) s a) (stp 1 sg (prd kk) s b) := by
  refine near_stp h (by split <;> omega) fun i hi hd => ?_
  unfold prd
  by_cases c : kk = 1
  · rw [if_pos (.inl c)] at hd
    have h1 := at_near h hn i hi (-1) (by omega)
    rw [if_pos c, if_pos c, Int.sub_eq_add_neg, h1]
  · by_cases d : kk = 2
    · rw [if_pos (.inr d)] at hd
      have h1 := at_near h hn i hi (-1) (by omega)
      have h2 := at_near h hn i hi 1 (by omega)
      simp only [Int.sub_eq_add_neg] at *
      rw [if_neg c, if_neg c, if_pos d, if_pos d, h1, h2]
    · rw [if_neg (by omega)] at hd
      have h1 := at_near h hn i hi (-1) (by omega)
      have h2 := at_near h hn i hi 1 (by omega)
      have h3 := at_near h hn i hi (-3) (by omega)
      have h4 := at_near h hn i hi 3 (by omega)
      simp only [Int.sub_eq_add_neg] at *
      rw [if_neg c, if_neg c, if_neg d, if_neg d, h1, h2, h3, h4]
theorem near_set (y : List Int) (p : Nat) (v : Int) (hp : p < y.length) : Near 0 p y (y.set p v) := by
  refine ⟨by simp, fun q hq hd => ?_⟩
  rw [rd_set _ _ _ _ hp, if_neg (by omega)]
theorem near_iz {p s : Int} {a b : List Int} (kk : Int) (h : Near 0 p a b) : Near (if kk = 1 ∨ kk = 2 then 2 else 4) p (iz a s kk) (iz b s kk) := by
  unfold iz
  rw [← h.1]
  by_cases hn : a.length > 1
  · have h1 := near_upd (sg := -1) (s := s) kk h (by omega)
    have h2 := near_prd (sg := 1) (s := s) kk h1 (by rw [stp_length]; omega)
    rw [if_pos hn, if_pos hn]
    unfold inv
    refine ⟨h2.1, fun q hq hd => h2.2 q hq ?_⟩
    by_cases c : kk = 1 ∨ kk = 2
    · rw [if_pos c] at hd ⊢; omega
    · rw [if_neg c] at hd ⊢; omega
  · rw [if_neg hn, if_neg hn]
    refine ⟨h.1, fun q hq hd => h.2 q hq ?_⟩
    by_cases c : kk = 1 ∨ kk = 2
    · rw [if_pos c] at hd; omega
    · rw [if_neg c] at hd; omega
def H_ext_below (i : Int) : Option (Bool × Out) := some (inr 0 10000 i, ⟨.one (.int .i64 ((i + 1) / 2)), [], []⟩)
def G_ext_below : Summ := fun args lent => pI args fun i args => pE args <| nE lent <| H_ext_below i
def H_ext_Counts (s n : Int) : Option (Bool × Out) := some (true, ⟨.tup [(false, [.int .i64 (cnt s n).1]), (false, [.int .i64 (cnt s n).2])], [], []⟩)
def G_ext_Counts : Summ := fun args lent => pI args fun s args => pI args fun n args => pE args <| nE lent <| H_ext_Counts s n
def jz (acc : List Int) (d : Nat) : List Int := acc ++ List.replicate d 0
def c_ext_Split_0 (s : Int) (e o l : List Int) (n i : Int) : LT := .leaf (.exit 0) [.one (.row 0), .one (.row 1)] [some (.arr 3 (.int .i64) (evs s l)), some (.arr 3 (.int .i64) (ods s l))]
def k_ext_Split_0 (s : Int) (e o l : List Int) (n i : Int) : Bool := inr 0 4096 s && decide (n = (l.length : Int)) && decide (i = 0) && decide (e = []) && decide (o = []) && decide (l.length ≤ 4096)
def D_ext_Split_0 {α : Type} (vs : List V) (bl : List (Option Blk)) (K : Int → (List Int) → (List Int) → (List Int) → Int → Int → Option α) : Option α := pI vs fun s vs => pO vs fun c' vs => kR 0 c' <| pO vs fun c' vs => kR 1 c' <| pO vs fun c' vs => kLI c' fun l => pI vs fun n vs => pI vs fun i vs => pE vs <| bAI 3 bl fun e bl => bAI 3 bl fun o bl => bE bl <| K s e o l n i
def S_ext_Split_0 : ST := fun vs bl => D_ext_Split_0 vs bl fun s e o l n i => some (k_ext_Split_0 s e o l n i, c_ext_Split_0 s e o l n i)
def H_ext_Split (l : List Int) (s : Int) : Option (Bool × Out) := some (small l.length, ⟨.tup [(false, [.row 0]), (false, [.row 1]), (false, [.int .i64 (spl l s).2.2])], [], [.arr 3 (.int .i64) (spl l s).1, .arr 3 (.int .i64) (spl l s).2.1]⟩)
def G_ext_Split : Summ := fun args lent => pO args fun c' args => kLI c' fun l => pI args fun s args => pE args <| nE lent <| H_ext_Split l s
def c_ext_Join_0 (l m c : List Int) (s n a b i : Int) : LT := .leaf (.exit 0) [.one (.row 0)] [some (.arr 3 (.int .i64) (ilv s n.toNat l m))]
def k_ext_Join_0 (l m c : List Int) (s n a b i : Int) : Bool := inr 0 4096 s && inr 0 4096 n && decide (a = 0) && decide (b = 0) && decide (i = 0) && decide (c = List.replicate n.toNat 0) && decide ((l.length : Int) = cev s n) && decide ((m.length : Int) = n - cev s n)
def D_ext_Join_0 {α : Type} (vs : List V) (bl : List (Option Blk)) (K : (List Int) → (List Int) → (List Int) → Int → Int → Int → Int → Int → Option α) : Option α := pO vs fun c' vs => kLI c' fun l => pO vs fun c' vs => kLI c' fun m => pI vs fun s vs => pO vs fun c' vs => kR 0 c' <| pI vs fun a vs => pI vs fun b vs => pI vs fun n vs => pI vs fun i vs => pE vs <| bAI 3 bl fun c bl => bE bl <| K l m c s n a b i
def S_ext_Join_0 : ST := fun vs bl => D_ext_Join_0 vs bl fun l m c s n a b i => some (k_ext_Join_0 l m c s n a b i, c_ext_Join_0 l m c s n a b i)
def H_ext_Join (l m : List Int) (s : Int) : Option (Bool × Out) := some ((small l.length && small m.length), ⟨.tup [(false, [.row 0]), (false, [.int .i64 (jn l m s).2])], [], [.arr 3 (.int .i64) (jn l m s).1]⟩)
def G_ext_Join : Summ := fun args lent => pO args fun c' args => kLI c' fun l => pO args fun c' args => kLI c' fun m => pI args fun s args => pE args <| nE lent <| H_ext_Join l m s
def fitB (b : Int) (l : List Int) : Bool := l.all (inr (-b) b)
def pfn (k : Int) : Nat := if k = 1 then 99 else if k = 2 then 101 else 102
def ufn (k : Int) : Nat := if k = 1 then 103 else 104
def lnOk (l : List Int) : Bool := decide (2 ≤ l.length) && decide (l.length ≤ 4096)
def H_lift_known (k : Int) : Option (Bool × Out) := some (true, ⟨.one (.bool (inr 1 3 k)), [], []⟩)
def G_lift_known : Summ := fun args lent => pI args fun k args => pE args <| nE lent <| H_lift_known k
def marg (k : Int) : Int := if inr 1 2 k then 2 else if k = 3 then 4 else 0
def H_lift_Margin (k : Int) : Option (Bool × Out) := some (true, ⟨.one (.int .i64 (marg k)), [], []⟩)
def G_lift_Margin : Summ := fun args lent => pI args fun k args => pE args <| nE lent <| H_lift_Margin k
def H_lift_High (b k : Int) : Option (Bool × Out) := some (true, ⟨.one (.int .i64 (hb b k)), [], []⟩)
def G_lift_High : Summ := fun args lent => pI args fun b args => pI args fun k args => pE args <| nE lent <| H_lift_High b k
def H_lift_Low (b k : Int) : Option (Bool × Out) := some (true, ⟨.one (.int .i64 (lb b k)), [], []⟩)
def G_lift_Low : Summ := fun args lent => pI args fun b args => pI args fun k args => pE args <| nE lent <| H_lift_Low b k
def p_lift_bounded_0 (b : Int) (l : List Int) : Bool := l.all (inr (-b) b)
def c_lift_bounded_0 (b : Int) (l : List Int) : LT := .br (p_lift_bounded_0 b l) (.leaf (.exit 0) [] []) (.leaf .ret [.one (.bool false)] [])
def k_lift_bounded_0 (b : Int) (l : List Int) (n i : Int) : Bool := decide (i = 0) && decide (n = (l.length : Int)) && small (l.length) && decide (0 ≤ b) && decide (b ≤ 1125899906842624)
def D_lift_bounded_0 {α : Type} (vs : List V) (bl : List (Option Blk)) (K : Int → (List Int) → Int → Int → Option α) : Option α := pI vs fun b vs => pO vs fun c' vs => kLI c' fun l => pI vs fun n vs => pI vs fun i vs => pE vs <| bE bl <| K b l n i
def S_lift_bounded_0 : ST := fun vs bl => D_lift_bounded_0 vs bl fun b l n i => some (k_lift_bounded_0 b l n i, c_lift_bounded_0 b l)
def H_lift_bounded (l : List Int) (b : Int) : Option (Bool × Out) := some ((small l.length && (decide (0 ≤ b) && decide (b ≤ 1125899906842624))), ⟨.one (.bool (fitB b l)), [], []⟩)
def G_lift_bounded : Summ := fun args lent => pO args fun c' args => kLI c' fun l => pI args fun b args => pE args <| nE lent <| H_lift_bounded l b
def c_line_at_0 (l : List Int) (s i m : Int) : LT := .leaf (.exit 0) [.one (.int .i64 (mr l.length i)), .one (.ptr 0 0)] [some (.box [.lst (.int .i64) l, .int .i64 s])]
def k_line_at_0 (l : List Int) (s i m : Int) : Bool := lnOk l && inr (-4200) 4200 i && decide (m = (l.length : Int) - 1)
def D_line_at_0 {α : Type} (vs : List V) (bl : List (Option Blk)) (K : (List Int) → Int → Int → Int → Option α) : Option α := pI vs fun i vs => pP 0 0 vs fun vs => pI vs fun m vs => pE vs <| bB bl fun q' bl => tC q' fun c' q' => kLI c' fun l => tI q' fun s q' => tE q' <| bE bl <| K l s i m
def S_line_at_0 : ST := fun vs bl => D_line_at_0 vs bl fun l s i m => some (k_line_at_0 l s i m, c_line_at_0 l s i m)
def H_line_at (l : List Int) (s i : Int) : Option (Bool × Out) := some ((lnOk l && inr (-4200) 4200 i), ⟨.one (.int .i64 (at_ l i)), [], []⟩)
def G_line_at : Summ := fun args lent => pA args fun q' args => tC q' fun c' q' => kLI c' fun l => tI q' fun s q' => tE q' <| pI args fun i args => pE args <| nE lent <| H_line_at l s i
def H_line_prd1 (l : List Int) (s i : Int) : Option (Bool × Out) := some ((lnOk l && inr 0 4096 i && fitB 36028797018963968 l), ⟨.one (.int .i64 (prd 1 l i)), [some (.box [.row 1, .int .i64 s]), some (.arr 3 (.int .i64) l)], []⟩)
def G_line_prd1 : Summ := fun args lent => keepG [0, 1] args <| pI args fun i args => pP 0 0 args fun args => pE args <| nB lent fun q' lent => tC q' fun c' q' => kR 1 c' <| tI q' fun s q' => tE q' <| nAI 3 lent fun l lent => nE lent <| H_line_prd1 l s i
def H_line_prd2 (l : List Int) (s i : Int) : Option (Bool × Out) := some ((lnOk l && inr 0 4096 i && fitB 36028797018963968 l), ⟨.one (.int .i64 (prd 2 l i)), [some (.box [.row 1, .int .i64 s]), some (.arr 3 (.int .i64) l)], []⟩)
def G_line_prd2 : Summ := fun args lent => keepG [0, 1] args <| pI args fun i args => pP 0 0 args fun args => pE args <| nB lent fun q' lent => tC q' fun c' q' => kR 1 c' <| tI q' fun s q' => tE q' <| nAI 3 lent fun l lent => nE lent <| H_line_prd2 l s i
def H_line_prd3 (l : List Int) (s i : Int) : Option (Bool × Out) := some ((lnOk l && inr 0 4096 i && fitB 36028797018963968 l), ⟨.one (.int .i64 (prd 3 l i)), [some (.box [.row 1, .int .i64 s]), some (.arr 3 (.int .i64) l)], []⟩)
def G_line_prd3 : Summ := fun args lent => keepG [0, 1] args <| pI args fun i args => pP 0 0 args fun args => pE args <| nB lent fun q' lent => tC q' fun c' q' => kR 1 c' <| tI q' fun s q' => tE q' <| nAI 3 lent fun l lent => nE lent <| H_line_prd3 l s i
def H_line_upd1 (l : List Int) (s i : Int) : Option (Bool × Out) := some ((lnOk l && inr 0 4096 i && fitB 36028797018963968 l), ⟨.one (.int .i64 (upd 1 l i)), [some (.box [.row 1, .int .i64 s]), some (.arr 3 (.int .i64) l)], []⟩)
def G_line_upd1 : Summ := fun args lent => keepG [0, 1] args <| pI args fun i args => pP 0 0 args fun args => pE args <| nB lent fun q' lent => tC q' fun c' q' => kR 1 c' <| tI q' fun s q' => tE q' <| nAI 3 lent fun l lent => nE lent <| H_line_upd1 l s i
def H_line_upd2 (l : List Int) (s i : Int) : Option (Bool × Out) := some ((lnOk l && inr 0 4096 i && fitB 36028797018963968 l), ⟨.one (.int .i64 (upd 2 l i)), [some (.box [.row 1, .int .i64 s]), some (.arr 3 (.int .i64) l)], []⟩)
def G_line_upd2 : Summ := fun args lent => keepG [0, 1] args <| pI args fun i args => pP 0 0 args fun args => pE args <| nB lent fun q' lent => tC q' fun c' q' => kR 1 c' <| tI q' fun s q' => tE q' <| nAI 3 lent fun l lent => nE lent <| H_line_upd2 l s i
def H_line_predict (l : List Int) (s k : Int) : Option (Bool × Out) := some (true, ⟨.one (.fn (pfn k) [1]), [some (.arr 3 (.int .i64) l)], [.box [.row 0, .int .i64 s]]⟩)
def G_line_predict : Summ := fun args lent => lendG args <| pA args fun q' args => tC q' fun c' q' => kR 0 c' <| tI q' fun s q' => tE q' <| pI args fun k args => pE args <| nAI 3 lent fun l lent => nE lent <| H_line_predict l s k
def H_line_update (l : List Int) (s k : Int) : Option (Bool × Out) := some (true, ⟨.one (.fn (ufn k) [1]), [some (.arr 3 (.int .i64) l)], [.box [.row 0, .int .i64 s]]⟩)
def G_line_update : Summ := fun args lent => lendG args <| pA args fun q' args => tC q' fun c' q' => kR 0 c' <| tI q' fun s q' => tE q' <| pI args fun k args => pE args <| nAI 3 lent fun l lent => nE lent <| H_line_update l s k
def c_step_prd1_0 (l : List Int) (s u a b n i : Int) : LT := .leaf (.exit 0) [] [some (.box [.row 1, .int .i64 s]), some (.arr 3 (.int .i64) (stp a b (prd 1) s l))]
def k_step_prd1_0 (l : List Int) (s u a b n i : Int) : Bool := decide (u = s) && lnOk l && inr 0 4096 s && fitB 11000000000000000 l && (decide (b = 1) || decide (b = -1)) && decide (n = (l.length : Int)) && decide (i = 0)
def D_step_prd1_0 {α : Type} (vs : List V) (bl : List (Option Blk)) (K : (List Int) → Int → Int → Int → Int → Int → Int → Option α) : Option α := pI vs fun a vs => pI vs fun b vs => pO vs fun c' vs => kF 99 [0] c' <| pP 2 0 vs fun vs => pI vs fun n vs => pI vs fun i vs => pE vs <| bB bl fun q' bl => tC q' fun c' q' => kR 1 c' <| tI q' fun s q' => tE q' <| bAI 3 bl fun l bl => bB bl fun q' bl => tC q' fun c' q' => kR 1 c' <| tI q' fun u q' => tE q' <| bE bl <| K l s u a b n i
def S_step_prd1_0 : ST := fun vs bl => D_step_prd1_0 vs bl fun l s u a b n i => some (k_step_prd1_0 l s u a b n i, c_step_prd1_0 l s u a b n i)
def H_step_prd1 (l : List Int) (s u a b : Int) : Option (Bool × Out) := some ((decide (u = s) && (lnOk l && inr 0 4096 s && fitB 11000000000000000 l && (decide (b = 1) || decide (b = -1)))), ⟨.tup [], [some (.box [.row 1, .int .i64 s]), some (.arr 3 (.int .i64) (stp a b (prd 1) s l))], []⟩)
def G_step_prd1 : Summ := fun args lent => lendG args <| pA args fun q' args => tC q' fun c' q' => kR 1 c' <| tI q' fun u q' => tE q' <| pI args fun a args => pI args fun b args => pO args fun c' args => kF 99 [0] c' <| pE args <| nB lent fun q' lent => tC q' fun c' q' => kR 1 c' <| tI q' fun s q' => tE q' <| nAI 3 lent fun l lent => nE lent <| H_step_prd1 l s u a b
def c_step_prd2_0 (l : List Int) (s u a b n i : Int) : LT := .leaf (.exit 0) [] [some (.box [.row 1, .int .i64 s]), some (.arr 3 (.int .i64) (stp a b (prd 2) s l))]
def k_step_prd2_0 (l : List Int) (s u a b n i : Int) : Bool := decide (u = s) && lnOk l && inr 0 4096 s && fitB 11000000000000000 l && (decide (b = 1) || decide (b = -1)) && decide (n = (l.length : Int)) && decide (i = 0)
def D_step_prd2_0 {α : Type} (vs : List V) (bl : List (Option Blk)) (K : (List Int) → Int → Int → Int → Int → Int → Int → Option α) : Option α := pI vs fun a vs => pI vs fun b vs => pO vs fun c' vs => kF 101 [0] c' <| pP 2 0 vs fun vs => pI vs fun n vs => pI vs fun i vs => pE vs <| bB bl fun q' bl => tC q' fun c' q' => kR 1 c' <| tI q' fun s q' => tE q' <| bAI 3 bl fun l bl => bB bl fun q' bl => tC q' fun c' q' => kR 1 c' <| tI q' fun u q' => tE q' <| bE bl <| K l s u a b n i
def S_step_prd2_0 : ST := fun vs bl => D_step_prd2_0 vs bl fun l s u a b n i => some (k_step_prd2_0 l s u a b n i, c_step_prd2_0 l s u a b n i)
def H_step_prd2 (l : List Int) (s u a b : Int) : Option (Bool × Out) := some ((decide (u = s) && (lnOk l && inr 0 4096 s && fitB 11000000000000000 l && (decide (b = 1) || decide (b = -1)))), ⟨.tup [], [some (.box [.row 1, .int .i64 s]), some (.arr 3 (.int .i64) (stp a b (prd 2) s l))], []⟩)
def G_step_prd2 : Summ := fun args lent => lendG args <| pA args fun q' args => tC q' fun c' q' => kR 1 c' <| tI q' fun u q' => tE q' <| pI args fun a args => pI args fun b args => pO args fun c' args => kF 101 [0] c' <| pE args <| nB lent fun q' lent => tC q' fun c' q' => kR 1 c' <| tI q' fun s q' => tE q' <| nAI 3 lent fun l lent => nE lent <| H_step_prd2 l s u a b
def c_step_prd3_0 (l : List Int) (s u a b n i : Int) : LT := .leaf (.exit 0) [] [some (.box [.row 1, .int .i64 s]), some (.arr 3 (.int .i64) (stp a b (prd 3) s l))]
def k_step_prd3_0 (l : List Int) (s u a b n i : Int) : Bool := decide (u = s) && lnOk l && inr 0 4096 s && fitB 11000000000000000 l && (decide (b = 1) || decide (b = -1)) && decide (n = (l.length : Int)) && decide (i = 0)
def D_step_prd3_0 {α : Type} (vs : List V) (bl : List (Option Blk)) (K : (List Int) → Int → Int → Int → Int → Int → Int → Option α) : Option α := pI vs fun a vs => pI vs fun b vs => pO vs fun c' vs => kF 102 [0] c' <| pP 2 0 vs fun vs => pI vs fun n vs => pI vs fun i vs => pE vs <| bB bl fun q' bl => tC q' fun c' q' => kR 1 c' <| tI q' fun s q' => tE q' <| bAI 3 bl fun l bl => bB bl fun q' bl => tC q' fun c' q' => kR 1 c' <| tI q' fun u q' => tE q' <| bE bl <| K l s u a b n i
def S_step_prd3_0 : ST := fun vs bl => D_step_prd3_0 vs bl fun l s u a b n i => some (k_step_prd3_0 l s u a b n i, c_step_prd3_0 l s u a b n i)
def H_step_prd3 (l : List Int) (s u a b : Int) : Option (Bool × Out) := some ((decide (u = s) && (lnOk l && inr 0 4096 s && fitB 11000000000000000 l && (decide (b = 1) || decide (b = -1)))), ⟨.tup [], [some (.box [.row 1, .int .i64 s]), some (.arr 3 (.int .i64) (stp a b (prd 3) s l))], []⟩)
def G_step_prd3 : Summ := fun args lent => lendG args <| pA args fun q' args => tC q' fun c' q' => kR 1 c' <| tI q' fun u q' => tE q' <| pI args fun a args => pI args fun b args => pO args fun c' args => kF 102 [0] c' <| pE args <| nB lent fun q' lent => tC q' fun c' q' => kR 1 c' <| tI q' fun s q' => tE q' <| nAI 3 lent fun l lent => nE lent <| H_step_prd3 l s u a b
def c_step_upd1_0 (l : List Int) (s u a b n i : Int) : LT := .leaf (.exit 0) [] [some (.box [.row 1, .int .i64 s]), some (.arr 3 (.int .i64) (stp a b (upd 1) s l))]
def k_step_upd1_0 (l : List Int) (s u a b n i : Int) : Bool := decide (u = s) && lnOk l && inr 0 4096 s && fitB 11000000000000000 l && (decide (b = 1) || decide (b = -1)) && decide (n = (l.length : Int)) && decide (i = 0)
def D_step_upd1_0 {α : Type} (vs : List V) (bl : List (Option Blk)) (K : (List Int) → Int → Int → Int → Int → Int → Int → Option α) : Option α := pI vs fun a vs => pI vs fun b vs => pO vs fun c' vs => kF 103 [0] c' <| pP 2 0 vs fun vs => pI vs fun n vs => pI vs fun i vs => pE vs <| bB bl fun q' bl => tC q' fun c' q' => kR 1 c' <| tI q' fun s q' => tE q' <| bAI 3 bl fun l bl => bB bl fun q' bl => tC q' fun c' q' => kR 1 c' <| tI q' fun u q' => tE q' <| bE bl <| K l s u a b n i
def S_step_upd1_0 : ST := fun vs bl => D_step_upd1_0 vs bl fun l s u a b n i => some (k_step_upd1_0 l s u a b n i, c_step_upd1_0 l s u a b n i)
def H_step_upd1 (l : List Int) (s u a b : Int) : Option (Bool × Out) := some ((decide (u = s) && (lnOk l && inr 0 4096 s && fitB 11000000000000000 l && (decide (b = 1) || decide (b = -1)))), ⟨.tup [], [some (.box [.row 1, .int .i64 s]), some (.arr 3 (.int .i64) (stp a b (upd 1) s l))], []⟩)
def G_step_upd1 : Summ := fun args lent => lendG args <| pA args fun q' args => tC q' fun c' q' => kR 1 c' <| tI q' fun u q' => tE q' <| pI args fun a args => pI args fun b args => pO args fun c' args => kF 103 [0] c' <| pE args <| nB lent fun q' lent => tC q' fun c' q' => kR 1 c' <| tI q' fun s q' => tE q' <| nAI 3 lent fun l lent => nE lent <| H_step_upd1 l s u a b
def c_step_upd2_0 (l : List Int) (s u a b n i : Int) : LT := .leaf (.exit 0) [] [some (.box [.row 1, .int .i64 s]), some (.arr 3 (.int .i64) (stp a b (upd 2) s l))]
def k_step_upd2_0 (l : List Int) (s u a b n i : Int) : Bool := decide (u = s) && lnOk l && inr 0 4096 s && fitB 11000000000000000 l && (decide (b = 1) || decide (b = -1)) && decide (n = (l.length : Int)) && decide (i = 0)
def D_step_upd2_0 {α : Type} (vs : List V) (bl : List (Option Blk)) (K : (List Int) → Int → Int → Int → Int → Int → Int → Option α) : Option α := pI vs fun a vs => pI vs fun b vs => pO vs fun c' vs => kF 104 [0] c' <| pP 2 0 vs fun vs => pI vs fun n vs => pI vs fun i vs => pE vs <| bB bl fun q' bl => tC q' fun c' q' => kR 1 c' <| tI q' fun s q' => tE q' <| bAI 3 bl fun l bl => bB bl fun q' bl => tC q' fun c' q' => kR 1 c' <| tI q' fun u q' => tE q' <| bE bl <| K l s u a b n i
def S_step_upd2_0 : ST := fun vs bl => D_step_upd2_0 vs bl fun l s u a b n i => some (k_step_upd2_0 l s u a b n i, c_step_upd2_0 l s u a b n i)
def H_step_upd2 (l : List Int) (s u a b : Int) : Option (Bool × Out) := some ((decide (u = s) && (lnOk l && inr 0 4096 s && fitB 11000000000000000 l && (decide (b = 1) || decide (b = -1)))), ⟨.tup [], [some (.box [.row 1, .int .i64 s]), some (.arr 3 (.int .i64) (stp a b (upd 2) s l))], []⟩)
def G_step_upd2 : Summ := fun args lent => lendG args <| pA args fun q' args => tC q' fun c' q' => kR 1 c' <| tI q' fun u q' => tE q' <| pI args fun a args => pI args fun b args => pO args fun c' args => kF 104 [0] c' <| pE args <| nB lent fun q' lent => tC q' fun c' q' => kR 1 c' <| tI q' fun s q' => tE q' <| nAI 3 lent fun l lent => nE lent <| H_step_upd2 l s u a b
def ffn (f : Nat) : List Int → Int → Int := if f = pfn 1 then prd 1 else if f = pfn 2 then prd 2 else if f = pfn 3 then prd 3 else if f = ufn 1 then upd 1 else upd 2
def okf (f : Nat) : Bool := decide (f = pfn 1) || decide (f = pfn 2) || decide (f = pfn 3) || decide (f = ufn 1) || decide (f = ufn 2)
def H_line_step (l : List Int) (s u a b : Int) (f : Nat) : Option (Bool × Out) := some (((decide (u = s) && (lnOk l && inr 0 4096 s && fitB 11000000000000000 l && (decide (b = 1) || decide (b = -1)))) && okf f), ⟨.tup [], [some (.box [.row 1, .int .i64 s]), some (.arr 3 (.int .i64) (stp a b (ffn f) s l))], []⟩)
def G_line_step : Summ := fun args lent => lendG args <| pA args fun q' args => tC q' fun c' q' => kR 1 c' <| tI q' fun u q' => tE q' <| pI args fun a args => pI args fun b args => pO args fun c' args => kV [0] c' fun f => pE args <| nB lent fun q' lent => tC q' fun c' q' => kR 1 c' <| tI q' fun s q' => tE q' <| nAI 3 lent fun l lent => nE lent <| H_line_step l s u a b f
def H_lift_Forward (l : List Int) (s k : Int) : Option (Bool × Out) := some (small l.length, ⟨.tup [(false, [.row 0]), (false, [.row 1]), (false, [.int .i64 (fw l s k).2.2])], [], [.arr 3 (.int .i64) (fw l s k).1, .arr 3 (.int .i64) (fw l s k).2.1]⟩)
def G_lift_Forward : Summ := fun args lent => pO args fun c' args => kLI c' fun l => pI args fun s args => pI args fun k args => pE args <| nE lent <| H_lift_Forward l s k
def H_lift_Inverse (l m : List Int) (s k : Int) : Option (Bool × Out) := some ((small l.length && small m.length), ⟨.tup [(false, [.row 0]), (false, [.int .i64 (iv l m s k).2])], [], [.arr 3 (.int .i64) (iv l m s k).1]⟩)
def G_lift_Inverse : Summ := fun args lent => pO args fun c' args => kLI c' fun l => pO args fun c' args => kLI c' fun m => pI args fun s args => pI args fun k args => pE args <| nE lent <| H_lift_Inverse l m s k


def hds (ii : Int) : Int → List LT → LT
  | _, [] => .no
  | n, u :: r => match decide (ii = n) with
    | true => u
    | false => hds ii (n + 1) r
theorem hds_no {ii : Int} : ∀ {us : List LT} {n : Int}, (∀ j : Nat, j < us.length → ii ≠ n + j) → hds ii n us = .no
  | [], _, _ => rfl
  | u :: us, n, h => by
    have h0 : ii ≠ n := by simpa using h 0 (by simp)
    unfold hds
    simp only [h0, decide_false]
    exact hds_no (fun j hj => by have := h (j + 1) (by simpa using hj); omega)
def rdPl {α : Type} (r0 : Nat) (q : List C) (K : Int → Int → Int → Int → List C → Option α) : Option α := tC q fun c' q => kI c' fun a => tC q fun c' q => kI c' fun b => tC q fun c' q => kI c' fun c => tC q fun c' q => kI c' fun d => tC q fun c' q => kR r0 c' <| K a b c d q
theorem rdPl_s {α : Type} {r0 : Nat} {q : List C} {K : Int → Int → Int → Int → List C → Option α} {r : α} (y0 : rdPl r0 q K = some r) : ∃ a b c d t, q = .int .i64 a :: .int .i64 b :: .int .i64 c :: .int .i64 d :: .row r0 :: t ∧ K a b c d t = some r := by
  unfold rdPl at y0
  obtain ⟨c', q', rfl, y1⟩ := tC_s y0
  obtain ⟨a, rfl, y2⟩ := kI_s y1
  obtain ⟨c', q', rfl, y3⟩ := tC_s y2
  obtain ⟨b, rfl, y4⟩ := kI_s y3
  obtain ⟨c', q', rfl, y5⟩ := tC_s y4
  obtain ⟨c, rfl, y6⟩ := kI_s y5
  obtain ⟨c', q', rfl, y7⟩ := tC_s y6
  obtain ⟨d, rfl, y8⟩ := kI_s y7
  obtain ⟨c', q', rfl, y9⟩ := tC_s y8
  obtain ⟨rfl, y10⟩ := kR_s y9
  exact ⟨a, b, c, d, q', rfl, y10⟩
def rdRc {α : Type} (q : List C) (K : Int → Int → Int → Int → List C → Option α) : Option α := tC q fun c' q => kI c' fun a => tC q fun c' q => kI c' fun b => tC q fun c' q => kI c' fun c => tC q fun c' q => kI c' fun d => K a b c d q
theorem rdRc_s {α : Type} {q : List C} {K : Int → Int → Int → Int → List C → Option α} {r : α} (y0 : rdRc q K = some r) : ∃ a b c d t, q = .int .i64 a :: .int .i64 b :: .int .i64 c :: .int .i64 d :: t ∧ K a b c d t = some r := by
  unfold rdRc at y0
  obtain ⟨c', q', rfl, y1⟩ := tC_s y0
  obtain ⟨a, rfl, y2⟩ := kI_s y1
  obtain ⟨c', q', rfl, y3⟩ := tC_s y2
  obtain ⟨b, rfl, y4⟩ := kI_s y3
  obtain ⟨c', q', rfl, y5⟩ := tC_s y4
  obtain ⟨c, rfl, y6⟩ := kI_s y5
  obtain ⟨c', q', rfl, y7⟩ := tC_s y6
  obtain ⟨d, rfl, y8⟩ := kI_s y7
  exact ⟨a, b, c, d, q', rfl, y8⟩
def rd4R {α : Type} (q : List C) (K : Int → Int → Int → Int → Int → Int → Int → Int → Int → Int → Int → Int → Int → Int → Int → Int → Option α) : Option α := rdRc q fun a0 b0 c0 d0 q => rdRc q fun a1 b1 c1 d1 q => rdRc q fun a2 b2 c2 d2 q => rdRc q fun a3 b3 c3 d3 q => tE q <| K a0 b0 c0 d0 a1 b1 c1 d1 a2 b2 c2 d2 a3 b3 c3 d3
theorem rd4R_s {α : Type} {q : List C} {K : Int → Int → Int → Int → Int → Int → Int → Int → Int → Int → Int → Int → Int → Int → Int → Int → Option α} {r : α} (y0 : rd4R q K = some r) : ∃ a0 b0 c0 d0 a1 b1 c1 d1 a2 b2 c2 d2 a3 b3 c3 d3, q = [.int .i64 a0, .int .i64 b0, .int .i64 c0, .int .i64 d0, .int .i64 a1, .int .i64 b1, .int .i64 c1, .int .i64 d1, .int .i64 a2, .int .i64 b2, .int .i64 c2, .int .i64 d2, .int .i64 a3, .int .i64 b3, .int .i64 c3, .int .i64 d3] ∧ K a0 b0 c0 d0 a1 b1 c1 d1 a2 b2 c2 d2 a3 b3 c3 d3 = some r := by
  unfold rd4R at y0
  obtain ⟨a0, b0, c0, d0, q', rfl, y1⟩ := rdRc_s y0
  obtain ⟨a1, b1, c1, d1, q', rfl, y2⟩ := rdRc_s y1
  obtain ⟨a2, b2, c2, d2, q', rfl, y3⟩ := rdRc_s y2
  obtain ⟨a3, b3, c3, d3, q', rfl, y4⟩ := rdRc_s y3
  obtain ⟨rfl, z⟩ := tE_s y4
  exact ⟨a0, b0, c0, d0, a1, b1, c1, d1, a2, b2, c2, d2, a3, b3, c3, d3, rfl, z⟩
def rd1P {α : Type} (r0 : Nat) (q : List C) (K : Int → Int → Int → Int → Option α) : Option α := rdPl r0 q fun a0 b0 c0 d0 q => tE q <| K a0 b0 c0 d0
theorem rd1P_s {α : Type} {r0 : Nat} {q : List C} {K : Int → Int → Int → Int → Option α} {r : α} (y0 : rd1P r0 q K = some r) : ∃ a0 b0 c0 d0, q = [.int .i64 a0, .int .i64 b0, .int .i64 c0, .int .i64 d0, .row r0] ∧ K a0 b0 c0 d0 = some r := by
  unfold rd1P at y0
  obtain ⟨a0, b0, c0, d0, q', rfl, y1⟩ := rdPl_s y0
  obtain ⟨rfl, z⟩ := tE_s y1
  exact ⟨a0, b0, c0, d0, rfl, z⟩
def rd2P {α : Type} (r0 r1 : Nat) (q : List C) (K : Int → Int → Int → Int → Int → Int → Int → Int → Option α) : Option α := rdPl r0 q fun a0 b0 c0 d0 q => rdPl r1 q fun a1 b1 c1 d1 q => tE q <| K a0 b0 c0 d0 a1 b1 c1 d1
theorem rd2P_s {α : Type} {r0 r1 : Nat} {q : List C} {K : Int → Int → Int → Int → Int → Int → Int → Int → Option α} {r : α} (y0 : rd2P r0 r1 q K = some r) : ∃ a0 b0 c0 d0 a1 b1 c1 d1, q = [.int .i64 a0, .int .i64 b0, .int .i64 c0, .int .i64 d0, .row r0, .int .i64 a1, .int .i64 b1, .int .i64 c1, .int .i64 d1, .row r1] ∧ K a0 b0 c0 d0 a1 b1 c1 d1 = some r := by
  unfold rd2P at y0
  obtain ⟨a0, b0, c0, d0, q', rfl, y1⟩ := rdPl_s y0
  obtain ⟨a1, b1, c1, d1, q', rfl, y2⟩ := rdPl_s y1
  obtain ⟨rfl, z⟩ := tE_s y2
  exact ⟨a0, b0, c0, d0, a1, b1, c1, d1, rfl, z⟩
def rd4P {α : Type} (r0 r1 r2 r3 : Nat) (q : List C) (K : Int → Int → Int → Int → Int → Int → Int → Int → Int → Int → Int → Int → Int → Int → Int → Int → Option α) : Option α := rdPl r0 q fun a0 b0 c0 d0 q => rdPl r1 q fun a1 b1 c1 d1 q => rdPl r2 q fun a2 b2 c2 d2 q => rdPl r3 q fun a3 b3 c3 d3 q => tE q <| K a0 b0 c0 d0 a1 b1 c1 d1 a2 b2 c2 d2 a3 b3 c3 d3
theorem rd4P_s {α : Type} {r0 r1 r2 r3 : Nat} {q : List C} {K : Int → Int → Int → Int → Int → Int → Int → Int → Int → Int → Int → Int → Int → Int → Int → Int → Option α} {r : α} (y0 : rd4P r0 r1 r2 r3 q K = some r) : ∃ a0 b0 c0 d0 a1 b1 c1 d1 a2 b2 c2 d2 a3 b3 c3 d3, q = [.int .i64 a0, .int .i64 b0, .int .i64 c0, .int .i64 d0, .row r0, .int .i64 a1, .int .i64 b1, .int .i64 c1, .int .i64 d1, .row r1, .int .i64 a2, .int .i64 b2, .int .i64 c2, .int .i64 d2, .row r2, .int .i64 a3, .int .i64 b3, .int .i64 c3, .int .i64 d3, .row r3] ∧ K a0 b0 c0 d0 a1 b1 c1 d1 a2 b2 c2 d2 a3 b3 c3 d3 = some r := by
  unfold rd4P at y0
  obtain ⟨a0, b0, c0, d0, q', rfl, y1⟩ := rdPl_s y0
  obtain ⟨a1, b1, c1, d1, q', rfl, y2⟩ := rdPl_s y1
  obtain ⟨a2, b2, c2, d2, q', rfl, y3⟩ := rdPl_s y2
  obtain ⟨a3, b3, c3, d3, q', rfl, y4⟩ := rdPl_s y3
  obtain ⟨rfl, z⟩ := tE_s y4
  exact ⟨a0, b0, c0, d0, a1, b1, c1, d1, a2, b2, c2, d2, a3, b3, c3, d3, rfl, z⟩
def plV (a b c d : Int) (l : List Int) : Bool := valid a b c d && decide (area a b c d ≤ 1048576) && decide ((l.length : Int) = area a b c d)
def rowOk (a b c d : Int) (l : List Int) (y : Int) : Bool := plV a b c d l && decide (b ≤ y) && decide (y < d)
def plRow (a b c d : Int) (l : List Int) (y : Int) : List Int := if rowOk a b c d l y then (l.drop ((y - b) * (c - a)).toNat).take (c - a).toNat else []
def colOk (a b c d : Int) (l : List Int) (x : Int) : Bool := plV a b c d l && decide (a ≤ x) && decide (x < c)
def zer (n : Int) : List Int := List.replicate n.toNat 0
def colOf (l : List Int) (w x n : Nat) : List Int := (List.range n).map fun y => gI l (y * w + x)
def plCol (a b c d : Int) (l : List Int) (x : Int) : List Int := if colOk a b c d l x then colOf l (c - a).toNat (x - a).toNat (d - b).toNat else []
def H_pl_width (a b c d : Int) (l : List Int) : Option (Bool × Out) := some (true, ⟨.one (.int .i64 (w (c - a))), [], []⟩)
def G_pl_width : Summ := fun args lent => pA args fun q' args => t4 q' fun a b c d q' => tC q' fun c' q' => kLI c' fun l => tE q' <| pE args <| nE lent <| H_pl_width a b c d l
def H_pl_Valid (a b c d : Int) (l : List Int) : Option (Bool × Out) := some (true, ⟨.one (.bool (plV a b c d l)), [], []⟩)
def G_pl_Valid : Summ := fun args lent => pA args fun q' args => t4 q' fun a b c d q' => tC q' fun c' q' => kLI c' fun l => tE q' <| pE args <| nE lent <| H_pl_Valid a b c d l
def H_dwt_known (k : Int) : Option (Bool × Out) := some (true, ⟨.one (.bool (inr 1 3 k)), [], []⟩)
def G_dwt_known : Summ := fun args lent => pI args fun k args => pE args <| nE lent <| H_dwt_known k
def p_dwt_exceeds_0 (b : Int) (l : List Int) : Bool := l.all (inr (-b) b)
def c_dwt_exceeds_0 (b : Int) (l : List Int) : LT := .br (p_dwt_exceeds_0 b l) (.leaf (.exit 0) [] []) (.leaf .ret [.one (.bool true)] [])
def k_dwt_exceeds_0 (b : Int) (l : List Int) (n i : Int) : Bool := decide (i = 0) && decide (n = (l.length : Int)) && small (l.length) && decide (0 ≤ b) && decide (b ≤ 4503599627370496)
def D_dwt_exceeds_0 {α : Type} (vs : List V) (bl : List (Option Blk)) (K : Int → (List Int) → Int → Int → Option α) : Option α := pI vs fun b vs => pO vs fun c' vs => kLI c' fun l => pI vs fun n vs => pI vs fun i vs => pE vs <| bE bl <| K b l n i
def S_dwt_exceeds_0 : ST := fun vs bl => D_dwt_exceeds_0 vs bl fun b l n i => some (k_dwt_exceeds_0 b l n i, c_dwt_exceeds_0 b l)
def H_dwt_exceeds (l : List Int) (b : Int) : Option (Bool × Out) := some ((small l.length && (decide (0 ≤ b) && decide (b ≤ 4503599627370496))), ⟨.one (.bool (!fitB b l)), [], []⟩)
def G_dwt_exceeds : Summ := fun args lent => pO args fun c' args => kLI c' fun l => pI args fun b args => pE args <| nE lent <| H_dwt_exceeds l b
def H_dwt_empty (a b c d : Int) : Option (Bool × Out) := some (valid a b c d, ⟨.agg [.int .i64 (a), .int .i64 (b), .int .i64 (c), .int .i64 (d), .row 0], [], [.arr 3 (.int .i64) (zer (area a b c d))]⟩)
def G_dwt_empty : Summ := fun args lent => pA args fun q' args => t4 q' fun a b c d q' => tE q' <| pE args <| nE lent <| H_dwt_empty a b c d
def H_pl_Row (a b c d : Int) (l : List Int) (y : Int) : Option (Bool × Out) := some (true, ⟨.tup [(false, [.row 0]), (false, [.bool (rowOk a b c d l y)])], [], [.arr 3 (.int .i64) (plRow a b c d l y)]⟩)
def G_pl_Row : Summ := fun args lent => pA args fun q' args => t4 q' fun a b c d q' => tC q' fun c' q' => kLI c' fun l => tE q' <| pI args fun y args => pE args <| nE lent <| H_pl_Row a b c d l y
def c_pl_Column_0 (a b c d i : Int) (l v : List Int) : LT := .leaf (.exit 0) [.one (.row 0)] [some (.arr 3 (.int .i64) (colOf l (c - a).toNat i.toNat (d - b).toNat))]
def k_pl_Column_0 (a b c d i : Int) (l v : List Int) : Bool := plV a b c d l && (decide (0 ≤ i) && decide (i < c - a)) && decide (v = [])
def D_pl_Column_0 {α : Type} (vs : List V) (bl : List (Option Blk)) (K : Int → Int → Int → Int → Int → (List Int) → (List Int) → Option α) : Option α := pP 0 0 vs fun vs => pO vs fun c' vs => kR 1 c' <| pI vs fun i vs => pE vs <| bB bl fun q' bl => t4 q' fun a b c d q' => tC q' fun c' q' => kLI c' fun l => tE q' <| bAI 3 bl fun v bl => bE bl <| K a b c d i l v
def S_pl_Column_0 : ST := fun vs bl => D_pl_Column_0 vs bl fun a b c d i l v => some (k_pl_Column_0 a b c d i l v, c_pl_Column_0 a b c d i l v)
def H_pl_Column (a b c d : Int) (l : List Int) (x : Int) : Option (Bool × Out) := some (true, ⟨.tup [(false, [.row 0]), (false, [.bool (colOk a b c d l x)])], [], [.arr 3 (.int .i64) (plCol a b c d l x)]⟩)
def G_pl_Column : Summ := fun args lent => pA args fun q' args => t4 q' fun a b c d q' => tC q' fun c' q' => kLI c' fun l => tE q' <| pI args fun x args => pE args <| nE lent <| H_pl_Column a b c d l x
def setT (l : List Int) (g x : Nat) (m : List Int) : Nat → List Int
  | 0 => l
  | j + 1 => (setT l g x m j).set (j * g + x) (gI m j)
def setC (l : List Int) (g x : Nat) (m : List Int) : List Int := setT l g x m m.length
def orG (G1 G2 : Summ) : Summ := fun args lent => match G1 args lent with
  | some z => some z
  | none => G2 args lent
def c_setCol0_0 (x g n i a0 b0 c0 d0 a1 b1 c1 d1 a2 b2 c2 d2 a3 b3 c3 d3 : Int) (l0 l1 l2 l3 m : List Int) : LT := .leaf (.exit 0) [] [some (.box [.int .i64 a0, .int .i64 b0, .int .i64 c0, .int .i64 d0, .row 1, .int .i64 a1, .int .i64 b1, .int .i64 c1, .int .i64 d1, .row 2, .int .i64 a2, .int .i64 b2, .int .i64 c2, .int .i64 d2, .row 3, .int .i64 a3, .int .i64 b3, .int .i64 c3, .int .i64 d3, .row 4]), some (.arr 3 (.int .i64) (setC l0 (c0 - a0).toNat (x - a0).toNat m)), some (.arr 3 (.int .i64) l1), some (.arr 3 (.int .i64) l2), some (.arr 3 (.int .i64) l3)]
def k_setCol0_0 (x g n i a0 b0 c0 d0 a1 b1 c1 d1 a2 b2 c2 d2 a3 b3 c3 d3 : Int) (l0 l1 l2 l3 m : List Int) : Bool := decide (g = c0 - a0) && decide (n = (m.length : Int)) && decide (i = 0) && (decide (0 ≤ a0) && decide (a0 ≤ x) && decide (x < c0) && decide (c0 ≤ 4096)) && decide (m.length ≤ 4096) && decide ((l0.length : Int) = (c0 - a0) * (m.length : Int))
def D_setCol0_0 {α : Type} (vs : List V) (bl : List (Option Blk)) (K : Int → Int → Int → Int → Int → Int → Int → Int → Int → Int → Int → Int → Int → Int → Int → Int → Int → Int → Int → Int → (List Int) → (List Int) → (List Int) → (List Int) → (List Int) → Option α) : Option α := pP 0 0 vs fun vs => pI vs fun x vs => pI vs fun g vs => pO vs fun c' vs => kLI c' fun m => pI vs fun n vs => pI vs fun i vs => pE vs <| bB bl fun q' bl => rd4P 1 2 3 4 q' fun a0 b0 c0 d0 a1 b1 c1 d1 a2 b2 c2 d2 a3 b3 c3 d3 => bAI 3 bl fun l0 bl => bAI 3 bl fun l1 bl => bAI 3 bl fun l2 bl => bAI 3 bl fun l3 bl => bE bl <| K x g n i a0 b0 c0 d0 a1 b1 c1 d1 a2 b2 c2 d2 a3 b3 c3 d3 l0 l1 l2 l3 m
def S_setCol0_0 : ST := fun vs bl => D_setCol0_0 vs bl fun x g n i a0 b0 c0 d0 a1 b1 c1 d1 a2 b2 c2 d2 a3 b3 c3 d3 l0 l1 l2 l3 m => some (k_setCol0_0 x g n i a0 b0 c0 d0 a1 b1 c1 d1 a2 b2 c2 d2 a3 b3 c3 d3 l0 l1 l2 l3 m, c_setCol0_0 x g n i a0 b0 c0 d0 a1 b1 c1 d1 a2 b2 c2 d2 a3 b3 c3 d3 l0 l1 l2 l3 m)
def H_setCol0 (x a0 b0 c0 d0 a1 b1 c1 d1 a2 b2 c2 d2 a3 b3 c3 d3 : Int) (l0 l1 l2 l3 m : List Int) : Option (Bool × Out) := some (((decide (0 ≤ a0) && decide (a0 ≤ x) && decide (x < c0) && decide (c0 ≤ 4096)) && decide (m.length ≤ 4096) && decide ((l0.length : Int) = (c0 - a0) * (m.length : Int))), ⟨.tup [], [some (.box [.int .i64 a0, .int .i64 b0, .int .i64 c0, .int .i64 d0, .row 1, .int .i64 a1, .int .i64 b1, .int .i64 c1, .int .i64 d1, .row 2, .int .i64 a2, .int .i64 b2, .int .i64 c2, .int .i64 d2, .row 3, .int .i64 a3, .int .i64 b3, .int .i64 c3, .int .i64 d3, .row 4]), some (.arr 3 (.int .i64) (setC l0 (c0 - a0).toNat (x - a0).toNat m)), some (.arr 3 (.int .i64) l1), some (.arr 3 (.int .i64) l2), some (.arr 3 (.int .i64) l3)], []⟩)
def G_setCol0 : Summ := fun args lent => pP 0 0 args fun args => pI args fun x args => pO args fun c' args => kLI c' fun m => pE args <| nB lent fun q' lent => rd4P 1 2 3 4 q' fun a0 b0 c0 d0 a1 b1 c1 d1 a2 b2 c2 d2 a3 b3 c3 d3 => nAI 3 lent fun l0 lent => nAI 3 lent fun l1 lent => nAI 3 lent fun l2 lent => nAI 3 lent fun l3 lent => nE lent <| H_setCol0 x a0 b0 c0 d0 a1 b1 c1 d1 a2 b2 c2 d2 a3 b3 c3 d3 l0 l1 l2 l3 m
def c_setCol1_0 (x g n i a0 b0 c0 d0 a1 b1 c1 d1 a2 b2 c2 d2 a3 b3 c3 d3 : Int) (l0 l1 l2 l3 m : List Int) : LT := .leaf (.exit 0) [] [some (.box [.int .i64 a0, .int .i64 b0, .int .i64 c0, .int .i64 d0, .row 1, .int .i64 a1, .int .i64 b1, .int .i64 c1, .int .i64 d1, .row 2, .int .i64 a2, .int .i64 b2, .int .i64 c2, .int .i64 d2, .row 3, .int .i64 a3, .int .i64 b3, .int .i64 c3, .int .i64 d3, .row 4]), some (.arr 3 (.int .i64) l0), some (.arr 3 (.int .i64) (setC l1 (c1 - a1).toNat (x - a1).toNat m)), some (.arr 3 (.int .i64) l2), some (.arr 3 (.int .i64) l3)]
def k_setCol1_0 (x g n i a0 b0 c0 d0 a1 b1 c1 d1 a2 b2 c2 d2 a3 b3 c3 d3 : Int) (l0 l1 l2 l3 m : List Int) : Bool := decide (g = c1 - a1) && decide (n = (m.length : Int)) && decide (i = 0) && (decide (0 ≤ a1) && decide (a1 ≤ x) && decide (x < c1) && decide (c1 ≤ 4096)) && decide (m.length ≤ 4096) && decide ((l1.length : Int) = (c1 - a1) * (m.length : Int))
def D_setCol1_0 {α : Type} (vs : List V) (bl : List (Option Blk)) (K : Int → Int → Int → Int → Int → Int → Int → Int → Int → Int → Int → Int → Int → Int → Int → Int → Int → Int → Int → Int → (List Int) → (List Int) → (List Int) → (List Int) → (List Int) → Option α) : Option α := pP 0 5 vs fun vs => pI vs fun x vs => pI vs fun g vs => pO vs fun c' vs => kLI c' fun m => pI vs fun n vs => pI vs fun i vs => pE vs <| bB bl fun q' bl => rd4P 1 2 3 4 q' fun a0 b0 c0 d0 a1 b1 c1 d1 a2 b2 c2 d2 a3 b3 c3 d3 => bAI 3 bl fun l0 bl => bAI 3 bl fun l1 bl => bAI 3 bl fun l2 bl => bAI 3 bl fun l3 bl => bE bl <| K x g n i a0 b0 c0 d0 a1 b1 c1 d1 a2 b2 c2 d2 a3 b3 c3 d3 l0 l1 l2 l3 m
def S_setCol1_0 : ST := fun vs bl => D_setCol1_0 vs bl fun x g n i a0 b0 c0 d0 a1 b1 c1 d1 a2 b2 c2 d2 a3 b3 c3 d3 l0 l1 l2 l3 m => some (k_setCol1_0 x g n i a0 b0 c0 d0 a1 b1 c1 d1 a2 b2 c2 d2 a3 b3 c3 d3 l0 l1 l2 l3 m, c_setCol1_0 x g n i a0 b0 c0 d0 a1 b1 c1 d1 a2 b2 c2 d2 a3 b3 c3 d3 l0 l1 l2 l3 m)
def H_setCol1 (x a0 b0 c0 d0 a1 b1 c1 d1 a2 b2 c2 d2 a3 b3 c3 d3 : Int) (l0 l1 l2 l3 m : List Int) : Option (Bool × Out) := some (((decide (0 ≤ a1) && decide (a1 ≤ x) && decide (x < c1) && decide (c1 ≤ 4096)) && decide (m.length ≤ 4096) && decide ((l1.length : Int) = (c1 - a1) * (m.length : Int))), ⟨.tup [], [some (.box [.int .i64 a0, .int .i64 b0, .int .i64 c0, .int .i64 d0, .row 1, .int .i64 a1, .int .i64 b1, .int .i64 c1, .int .i64 d1, .row 2, .int .i64 a2, .int .i64 b2, .int .i64 c2, .int .i64 d2, .row 3, .int .i64 a3, .int .i64 b3, .int .i64 c3, .int .i64 d3, .row 4]), some (.arr 3 (.int .i64) l0), some (.arr 3 (.int .i64) (setC l1 (c1 - a1).toNat (x - a1).toNat m)), some (.arr 3 (.int .i64) l2), some (.arr 3 (.int .i64) l3)], []⟩)
def G_setCol1 : Summ := fun args lent => pP 0 5 args fun args => pI args fun x args => pO args fun c' args => kLI c' fun m => pE args <| nB lent fun q' lent => rd4P 1 2 3 4 q' fun a0 b0 c0 d0 a1 b1 c1 d1 a2 b2 c2 d2 a3 b3 c3 d3 => nAI 3 lent fun l0 lent => nAI 3 lent fun l1 lent => nAI 3 lent fun l2 lent => nAI 3 lent fun l3 lent => nE lent <| H_setCol1 x a0 b0 c0 d0 a1 b1 c1 d1 a2 b2 c2 d2 a3 b3 c3 d3 l0 l1 l2 l3 m
def c_setCol2_0 (x g n i a0 b0 c0 d0 a1 b1 c1 d1 a2 b2 c2 d2 a3 b3 c3 d3 : Int) (l0 l1 l2 l3 m : List Int) : LT := .leaf (.exit 0) [] [some (.box [.int .i64 a0, .int .i64 b0, .int .i64 c0, .int .i64 d0, .row 1, .int .i64 a1, .int .i64 b1, .int .i64 c1, .int .i64 d1, .row 2, .int .i64 a2, .int .i64 b2, .int .i64 c2, .int .i64 d2, .row 3, .int .i64 a3, .int .i64 b3, .int .i64 c3, .int .i64 d3, .row 4]), some (.arr 3 (.int .i64) l0), some (.arr 3 (.int .i64) l1), some (.arr 3 (.int .i64) (setC l2 (c2 - a2).toNat (x - a2).toNat m)), some (.arr 3 (.int .i64) l3)]
def k_setCol2_0 (x g n i a0 b0 c0 d0 a1 b1 c1 d1 a2 b2 c2 d2 a3 b3 c3 d3 : Int) (l0 l1 l2 l3 m : List Int) : Bool := decide (g = c2 - a2) && decide (n = (m.length : Int)) && decide (i = 0) && (decide (0 ≤ a2) && decide (a2 ≤ x) && decide (x < c2) && decide (c2 ≤ 4096)) && decide (m.length ≤ 4096) && decide ((l2.length : Int) = (c2 - a2) * (m.length : Int))
def D_setCol2_0 {α : Type} (vs : List V) (bl : List (Option Blk)) (K : Int → Int → Int → Int → Int → Int → Int → Int → Int → Int → Int → Int → Int → Int → Int → Int → Int → Int → Int → Int → (List Int) → (List Int) → (List Int) → (List Int) → (List Int) → Option α) : Option α := pP 0 10 vs fun vs => pI vs fun x vs => pI vs fun g vs => pO vs fun c' vs => kLI c' fun m => pI vs fun n vs => pI vs fun i vs => pE vs <| bB bl fun q' bl => rd4P 1 2 3 4 q' fun a0 b0 c0 d0 a1 b1 c1 d1 a2 b2 c2 d2 a3 b3 c3 d3 => bAI 3 bl fun l0 bl => bAI 3 bl fun l1 bl => bAI 3 bl fun l2 bl => bAI 3 bl fun l3 bl => bE bl <| K x g n i a0 b0 c0 d0 a1 b1 c1 d1 a2 b2 c2 d2 a3 b3 c3 d3 l0 l1 l2 l3 m
def S_setCol2_0 : ST := fun vs bl => D_setCol2_0 vs bl fun x g n i a0 b0 c0 d0 a1 b1 c1 d1 a2 b2 c2 d2 a3 b3 c3 d3 l0 l1 l2 l3 m => some (k_setCol2_0 x g n i a0 b0 c0 d0 a1 b1 c1 d1 a2 b2 c2 d2 a3 b3 c3 d3 l0 l1 l2 l3 m, c_setCol2_0 x g n i a0 b0 c0 d0 a1 b1 c1 d1 a2 b2 c2 d2 a3 b3 c3 d3 l0 l1 l2 l3 m)
def H_setCol2 (x a0 b0 c0 d0 a1 b1 c1 d1 a2 b2 c2 d2 a3 b3 c3 d3 : Int) (l0 l1 l2 l3 m : List Int) : Option (Bool × Out) := some (((decide (0 ≤ a2) && decide (a2 ≤ x) && decide (x < c2) && decide (c2 ≤ 4096)) && decide (m.length ≤ 4096) && decide ((l2.length : Int) = (c2 - a2) * (m.length : Int))), ⟨.tup [], [some (.box [.int .i64 a0, .int .i64 b0, .int .i64 c0, .int .i64 d0, .row 1, .int .i64 a1, .int .i64 b1, .int .i64 c1, .int .i64 d1, .row 2, .int .i64 a2, .int .i64 b2, .int .i64 c2, .int .i64 d2, .row 3, .int .i64 a3, .int .i64 b3, .int .i64 c3, .int .i64 d3, .row 4]), some (.arr 3 (.int .i64) l0), some (.arr 3 (.int .i64) l1), some (.arr 3 (.int .i64) (setC l2 (c2 - a2).toNat (x - a2).toNat m)), some (.arr 3 (.int .i64) l3)], []⟩)
def G_setCol2 : Summ := fun args lent => pP 0 10 args fun args => pI args fun x args => pO args fun c' args => kLI c' fun m => pE args <| nB lent fun q' lent => rd4P 1 2 3 4 q' fun a0 b0 c0 d0 a1 b1 c1 d1 a2 b2 c2 d2 a3 b3 c3 d3 => nAI 3 lent fun l0 lent => nAI 3 lent fun l1 lent => nAI 3 lent fun l2 lent => nAI 3 lent fun l3 lent => nE lent <| H_setCol2 x a0 b0 c0 d0 a1 b1 c1 d1 a2 b2 c2 d2 a3 b3 c3 d3 l0 l1 l2 l3 m
def c_setCol3_0 (x g n i a0 b0 c0 d0 a1 b1 c1 d1 a2 b2 c2 d2 a3 b3 c3 d3 : Int) (l0 l1 l2 l3 m : List Int) : LT := .leaf (.exit 0) [] [some (.box [.int .i64 a0, .int .i64 b0, .int .i64 c0, .int .i64 d0, .row 1, .int .i64 a1, .int .i64 b1, .int .i64 c1, .int .i64 d1, .row 2, .int .i64 a2, .int .i64 b2, .int .i64 c2, .int .i64 d2, .row 3, .int .i64 a3, .int .i64 b3, .int .i64 c3, .int .i64 d3, .row 4]), some (.arr 3 (.int .i64) l0), some (.arr 3 (.int .i64) l1), some (.arr 3 (.int .i64) l2), some (.arr 3 (.int .i64) (setC l3 (c3 - a3).toNat (x - a3).toNat m))]
def k_setCol3_0 (x g n i a0 b0 c0 d0 a1 b1 c1 d1 a2 b2 c2 d2 a3 b3 c3 d3 : Int) (l0 l1 l2 l3 m : List Int) : Bool := decide (g = c3 - a3) && decide (n = (m.length : Int)) && decide (i = 0) && (decide (0 ≤ a3) && decide (a3 ≤ x) && decide (x < c3) && decide (c3 ≤ 4096)) && decide (m.length ≤ 4096) && decide ((l3.length : Int) = (c3 - a3) * (m.length : Int))
def D_setCol3_0 {α : Type} (vs : List V) (bl : List (Option Blk)) (K : Int → Int → Int → Int → Int → Int → Int → Int → Int → Int → Int → Int → Int → Int → Int → Int → Int → Int → Int → Int → (List Int) → (List Int) → (List Int) → (List Int) → (List Int) → Option α) : Option α := pP 0 15 vs fun vs => pI vs fun x vs => pI vs fun g vs => pO vs fun c' vs => kLI c' fun m => pI vs fun n vs => pI vs fun i vs => pE vs <| bB bl fun q' bl => rd4P 1 2 3 4 q' fun a0 b0 c0 d0 a1 b1 c1 d1 a2 b2 c2 d2 a3 b3 c3 d3 => bAI 3 bl fun l0 bl => bAI 3 bl fun l1 bl => bAI 3 bl fun l2 bl => bAI 3 bl fun l3 bl => bE bl <| K x g n i a0 b0 c0 d0 a1 b1 c1 d1 a2 b2 c2 d2 a3 b3 c3 d3 l0 l1 l2 l3 m
def S_setCol3_0 : ST := fun vs bl => D_setCol3_0 vs bl fun x g n i a0 b0 c0 d0 a1 b1 c1 d1 a2 b2 c2 d2 a3 b3 c3 d3 l0 l1 l2 l3 m => some (k_setCol3_0 x g n i a0 b0 c0 d0 a1 b1 c1 d1 a2 b2 c2 d2 a3 b3 c3 d3 l0 l1 l2 l3 m, c_setCol3_0 x g n i a0 b0 c0 d0 a1 b1 c1 d1 a2 b2 c2 d2 a3 b3 c3 d3 l0 l1 l2 l3 m)
def H_setCol3 (x a0 b0 c0 d0 a1 b1 c1 d1 a2 b2 c2 d2 a3 b3 c3 d3 : Int) (l0 l1 l2 l3 m : List Int) : Option (Bool × Out) := some (((decide (0 ≤ a3) && decide (a3 ≤ x) && decide (x < c3) && decide (c3 ≤ 4096)) && decide (m.length ≤ 4096) && decide ((l3.length : Int) = (c3 - a3) * (m.length : Int))), ⟨.tup [], [some (.box [.int .i64 a0, .int .i64 b0, .int .i64 c0, .int .i64 d0, .row 1, .int .i64 a1, .int .i64 b1, .int .i64 c1, .int .i64 d1, .row 2, .int .i64 a2, .int .i64 b2, .int .i64 c2, .int .i64 d2, .row 3, .int .i64 a3, .int .i64 b3, .int .i64 c3, .int .i64 d3, .row 4]), some (.arr 3 (.int .i64) l0), some (.arr 3 (.int .i64) l1), some (.arr 3 (.int .i64) l2), some (.arr 3 (.int .i64) (setC l3 (c3 - a3).toNat (x - a3).toNat m))], []⟩)
def G_setCol3 : Summ := fun args lent => pP 0 15 args fun args => pI args fun x args => pO args fun c' args => kLI c' fun m => pE args <| nB lent fun q' lent => rd4P 1 2 3 4 q' fun a0 b0 c0 d0 a1 b1 c1 d1 a2 b2 c2 d2 a3 b3 c3 d3 => nAI 3 lent fun l0 lent => nAI 3 lent fun l1 lent => nAI 3 lent fun l2 lent => nAI 3 lent fun l3 lent => nE lent <| H_setCol3 x a0 b0 c0 d0 a1 b1 c1 d1 a2 b2 c2 d2 a3 b3 c3 d3 l0 l1 l2 l3 m
def c_setCol4_0 (x g n i a0 b0 c0 d0 : Int) (l0 m : List Int) : LT := .leaf (.exit 0) [] [some (.box [.int .i64 a0, .int .i64 b0, .int .i64 c0, .int .i64 d0, .row 1]), some (.arr 3 (.int .i64) (setC l0 (c0 - a0).toNat (x - a0).toNat m))]
def k_setCol4_0 (x g n i a0 b0 c0 d0 : Int) (l0 m : List Int) : Bool := decide (g = c0 - a0) && decide (n = (m.length : Int)) && decide (i = 0) && (decide (0 ≤ a0) && decide (a0 ≤ x) && decide (x < c0) && decide (c0 ≤ 4096)) && decide (m.length ≤ 4096) && decide ((l0.length : Int) = (c0 - a0) * (m.length : Int))
def D_setCol4_0 {α : Type} (vs : List V) (bl : List (Option Blk)) (K : Int → Int → Int → Int → Int → Int → Int → Int → (List Int) → (List Int) → Option α) : Option α := pP 0 0 vs fun vs => pI vs fun x vs => pI vs fun g vs => pO vs fun c' vs => kLI c' fun m => pI vs fun n vs => pI vs fun i vs => pE vs <| bB bl fun q' bl => rd1P 1 q' fun a0 b0 c0 d0 => bAI 3 bl fun l0 bl => bE bl <| K x g n i a0 b0 c0 d0 l0 m
def S_setCol4_0 : ST := fun vs bl => D_setCol4_0 vs bl fun x g n i a0 b0 c0 d0 l0 m => some (k_setCol4_0 x g n i a0 b0 c0 d0 l0 m, c_setCol4_0 x g n i a0 b0 c0 d0 l0 m)
def H_setCol4 (x a0 b0 c0 d0 : Int) (l0 m : List Int) : Option (Bool × Out) := some (((decide (0 ≤ a0) && decide (a0 ≤ x) && decide (x < c0) && decide (c0 ≤ 4096)) && decide (m.length ≤ 4096) && decide ((l0.length : Int) = (c0 - a0) * (m.length : Int))), ⟨.tup [], [some (.box [.int .i64 a0, .int .i64 b0, .int .i64 c0, .int .i64 d0, .row 1]), some (.arr 3 (.int .i64) (setC l0 (c0 - a0).toNat (x - a0).toNat m))], []⟩)
def G_setCol4 : Summ := fun args lent => pP 0 0 args fun args => pI args fun x args => pO args fun c' args => kLI c' fun m => pE args <| nB lent fun q' lent => rd1P 1 q' fun a0 b0 c0 d0 => nAI 3 lent fun l0 lent => nE lent <| H_setCol4 x a0 b0 c0 d0 l0 m
def G_dwt_setColumn : Summ := orG G_setCol0 (orG G_setCol1 (orG G_setCol2 (orG G_setCol3 G_setCol4)))
def setCs (l : List Int) (g : Nat) (f : Nat → List Int) : Nat → List Int
  | 0 => l
  | x + 1 => setC (setCs l g f x) g x (f x)
def cLo (l : List Int) (g n : Nat) (s k : Int) (x : Nat) : List Int := (fw (colOf l g x n) s k).1
def cHi (l : List Int) (g n : Nat) (s k : Int) (x : Nat) : List Int := (fw (colOf l g x n) s k).2.1
def colsLo (t l : List Int) (g n : Nat) (s k : Int) : List Int := setCs t g (cLo l g n s k) g
def colsHi (t l : List Int) (g n : Nat) (s k : Int) : List Int := setCs t g (cHi l g n s k) g
def spOk (p e q f s k a0 c0 a1 c1 : Int) (h t0 t1 : List Int) : Bool := plV p e q f h && inr 1 3 k && inr 0 4096 s && fitB 281474976710656 h && decide (a0 = p) && decide (c0 = q) && decide (a1 = p) && decide (c1 = q) && decide ((t0.length : Int) = (q - p) * cev s (f - e)) && decide ((t1.length : Int) = (q - p) * ((f - e) - cev s (f - e)))
def c_spCol0_0 (p0 e0 q0 f0 p1 e1 q1 f1 a b c d kk a0 b0 c0 d0 a1 b1 c1 d1 a2 b2 c2 d2 a3 b3 c3 d3 g0 g1 g2 g3 x : Int) (h0 h1 l0 l1 l2 l3 : List Int) : LT := .leaf (.exit 0) [] [some (.box [.int .i64 p0, .int .i64 e0, .int .i64 q0, .int .i64 f0, .row 4, .int .i64 p1, .int .i64 e1, .int .i64 q1, .int .i64 f1, .row 5]), some (.box [.int .i64 a, .int .i64 b, .int .i64 c, .int .i64 d]), some (.box [.int .i64 kk]), some (.box [.int .i64 a0, .int .i64 b0, .int .i64 c0, .int .i64 d0, .row 6, .int .i64 a1, .int .i64 b1, .int .i64 c1, .int .i64 d1, .row 7, .int .i64 a2, .int .i64 b2, .int .i64 c2, .int .i64 d2, .row 8, .int .i64 a3, .int .i64 b3, .int .i64 c3, .int .i64 d3, .row 9]), some (.arr 3 (.int .i64) h0), some (.arr 3 (.int .i64) h1), some (.arr 3 (.int .i64) (colsLo l0 h0 (g2 - g0).toNat (g3 - g1).toNat b kk)), some (.arr 3 (.int .i64) l1), some (.arr 3 (.int .i64) (colsHi l2 h0 (g2 - g0).toNat (g3 - g1).toNat b kk)), some (.arr 3 (.int .i64) l3)]
def k_spCol0_0 (p0 e0 q0 f0 p1 e1 q1 f1 a b c d kk a0 b0 c0 d0 a1 b1 c1 d1 a2 b2 c2 d2 a3 b3 c3 d3 g0 g1 g2 g3 x : Int) (h0 h1 l0 l1 l2 l3 : List Int) : Bool := decide (x = g0) && spOk g0 g1 g2 g3 b kk a0 c0 a2 c2 h0 l0 l2
def D_spCol0_0 {α : Type} (vs : List V) (bl : List (Option Blk)) (K : Int → Int → Int → Int → Int → Int → Int → Int → Int → Int → Int → Int → Int → Int → Int → Int → Int → Int → Int → Int → Int → Int → Int → Int → Int → Int → Int → Int → Int → Int → Int → Int → Int → Int → (List Int) → (List Int) → (List Int) → (List Int) → (List Int) → (List Int) → Option α) : Option α := pO vs fun c' vs => kJ 0 c' <| pP 1 0 vs fun vs => pP 2 0 vs fun vs => pP 3 0 vs fun vs => pP 10 0 vs fun vs => pI vs fun x vs => pE vs <| bB bl fun q' bl => rd2P 4 5 q' fun p0 e0 q0 f0 p1 e1 q1 f1 => bB bl fun q' bl => t4 q' fun a b c d q' => tE q' <| bB bl fun q' bl => tI q' fun kk q' => tE q' <| bB bl fun q' bl => rd4P 6 7 8 9 q' fun a0 b0 c0 d0 a1 b1 c1 d1 a2 b2 c2 d2 a3 b3 c3 d3 => bAI 3 bl fun h0 bl => bAI 3 bl fun h1 bl => bAI 3 bl fun l0 bl => bAI 3 bl fun l1 bl => bAI 3 bl fun l2 bl => bAI 3 bl fun l3 bl => bB bl fun q' bl => rd1P 4 q' fun g0 g1 g2 g3 => bE bl <| K p0 e0 q0 f0 p1 e1 q1 f1 a b c d kk a0 b0 c0 d0 a1 b1 c1 d1 a2 b2 c2 d2 a3 b3 c3 d3 g0 g1 g2 g3 x h0 h1 l0 l1 l2 l3
def S_spCol0_0 : ST := fun vs bl => D_spCol0_0 vs bl fun p0 e0 q0 f0 p1 e1 q1 f1 a b c d kk a0 b0 c0 d0 a1 b1 c1 d1 a2 b2 c2 d2 a3 b3 c3 d3 g0 g1 g2 g3 x h0 h1 l0 l1 l2 l3 => some (k_spCol0_0 p0 e0 q0 f0 p1 e1 q1 f1 a b c d kk a0 b0 c0 d0 a1 b1 c1 d1 a2 b2 c2 d2 a3 b3 c3 d3 g0 g1 g2 g3 x h0 h1 l0 l1 l2 l3, c_spCol0_0 p0 e0 q0 f0 p1 e1 q1 f1 a b c d kk a0 b0 c0 d0 a1 b1 c1 d1 a2 b2 c2 d2 a3 b3 c3 d3 g0 g1 g2 g3 x h0 h1 l0 l1 l2 l3)
def H_spCol0 (p0 e0 q0 f0 p1 e1 q1 f1 a b c d k a0 b0 c0 d0 a1 b1 c1 d1 a2 b2 c2 d2 a3 b3 c3 d3 : Int) (h0 h1 l0 l1 l2 l3 : List Int) : Option (Bool × Out) := some (spOk p0 e0 q0 f0 b k a0 c0 a2 c2 h0 l0 l2, ⟨.one (.int .i64 0), [some (.box [.int .i64 p0, .int .i64 e0, .int .i64 q0, .int .i64 f0, .row 4, .int .i64 p1, .int .i64 e1, .int .i64 q1, .int .i64 f1, .row 5]), some (.box [.int .i64 a, .int .i64 b, .int .i64 c, .int .i64 d]), some (.box [.int .i64 k]), some (.box [.int .i64 a0, .int .i64 b0, .int .i64 c0, .int .i64 d0, .row 6, .int .i64 a1, .int .i64 b1, .int .i64 c1, .int .i64 d1, .row 7, .int .i64 a2, .int .i64 b2, .int .i64 c2, .int .i64 d2, .row 8, .int .i64 a3, .int .i64 b3, .int .i64 c3, .int .i64 d3, .row 9]), some (.arr 3 (.int .i64) h0), some (.arr 3 (.int .i64) h1), some (.arr 3 (.int .i64) (colsLo l0 h0 (q0 - p0).toNat (f0 - e0).toNat b k)), some (.arr 3 (.int .i64) l1), some (.arr 3 (.int .i64) (colsHi l2 h0 (q0 - p0).toNat (f0 - e0).toNat b k)), some (.arr 3 (.int .i64) l3)], []⟩)
def G_spCol0 : Summ := fun args lent => pO args fun c' args => kJ 0 c' <| pP 0 0 args fun args => pP 1 0 args fun args => pP 2 0 args fun args => pP 3 0 args fun args => pE args <| nB lent fun q' lent => rd2P 4 5 q' fun p0 e0 q0 f0 p1 e1 q1 f1 => nB lent fun q' lent => t4 q' fun a b c d q' => tE q' <| nB lent fun q' lent => tI q' fun k q' => tE q' <| nB lent fun q' lent => rd4P 6 7 8 9 q' fun a0 b0 c0 d0 a1 b1 c1 d1 a2 b2 c2 d2 a3 b3 c3 d3 => nAI 3 lent fun h0 lent => nAI 3 lent fun h1 lent => nAI 3 lent fun l0 lent => nAI 3 lent fun l1 lent => nAI 3 lent fun l2 lent => nAI 3 lent fun l3 lent => nE lent <| H_spCol0 p0 e0 q0 f0 p1 e1 q1 f1 a b c d k a0 b0 c0 d0 a1 b1 c1 d1 a2 b2 c2 d2 a3 b3 c3 d3 h0 h1 l0 l1 l2 l3
def c_spCol1_0 (p0 e0 q0 f0 p1 e1 q1 f1 a b c d kk a0 b0 c0 d0 a1 b1 c1 d1 a2 b2 c2 d2 a3 b3 c3 d3 g0 g1 g2 g3 x : Int) (h0 h1 l0 l1 l2 l3 : List Int) : LT := .leaf (.exit 0) [] [some (.box [.int .i64 p0, .int .i64 e0, .int .i64 q0, .int .i64 f0, .row 4, .int .i64 p1, .int .i64 e1, .int .i64 q1, .int .i64 f1, .row 5]), some (.box [.int .i64 a, .int .i64 b, .int .i64 c, .int .i64 d]), some (.box [.int .i64 kk]), some (.box [.int .i64 a0, .int .i64 b0, .int .i64 c0, .int .i64 d0, .row 6, .int .i64 a1, .int .i64 b1, .int .i64 c1, .int .i64 d1, .row 7, .int .i64 a2, .int .i64 b2, .int .i64 c2, .int .i64 d2, .row 8, .int .i64 a3, .int .i64 b3, .int .i64 c3, .int .i64 d3, .row 9]), some (.arr 3 (.int .i64) h0), some (.arr 3 (.int .i64) h1), some (.arr 3 (.int .i64) l0), some (.arr 3 (.int .i64) (colsLo l1 h1 (g2 - g0).toNat (g3 - g1).toNat b kk)), some (.arr 3 (.int .i64) l2), some (.arr 3 (.int .i64) (colsHi l3 h1 (g2 - g0).toNat (g3 - g1).toNat b kk))]
def k_spCol1_0 (p0 e0 q0 f0 p1 e1 q1 f1 a b c d kk a0 b0 c0 d0 a1 b1 c1 d1 a2 b2 c2 d2 a3 b3 c3 d3 g0 g1 g2 g3 x : Int) (h0 h1 l0 l1 l2 l3 : List Int) : Bool := decide (x = g0) && spOk g0 g1 g2 g3 b kk a1 c1 a3 c3 h1 l1 l3
def D_spCol1_0 {α : Type} (vs : List V) (bl : List (Option Blk)) (K : Int → Int → Int → Int → Int → Int → Int → Int → Int → Int → Int → Int → Int → Int → Int → Int → Int → Int → Int → Int → Int → Int → Int → Int → Int → Int → Int → Int → Int → Int → Int → Int → Int → Int → (List Int) → (List Int) → (List Int) → (List Int) → (List Int) → (List Int) → Option α) : Option α := pO vs fun c' vs => kJ 1 c' <| pP 1 0 vs fun vs => pP 2 0 vs fun vs => pP 3 0 vs fun vs => pP 10 0 vs fun vs => pI vs fun x vs => pE vs <| bB bl fun q' bl => rd2P 4 5 q' fun p0 e0 q0 f0 p1 e1 q1 f1 => bB bl fun q' bl => t4 q' fun a b c d q' => tE q' <| bB bl fun q' bl => tI q' fun kk q' => tE q' <| bB bl fun q' bl => rd4P 6 7 8 9 q' fun a0 b0 c0 d0 a1 b1 c1 d1 a2 b2 c2 d2 a3 b3 c3 d3 => bAI 3 bl fun h0 bl => bAI 3 bl fun h1 bl => bAI 3 bl fun l0 bl => bAI 3 bl fun l1 bl => bAI 3 bl fun l2 bl => bAI 3 bl fun l3 bl => bB bl fun q' bl => rd1P 5 q' fun g0 g1 g2 g3 => bE bl <| K p0 e0 q0 f0 p1 e1 q1 f1 a b c d kk a0 b0 c0 d0 a1 b1 c1 d1 a2 b2 c2 d2 a3 b3 c3 d3 g0 g1 g2 g3 x h0 h1 l0 l1 l2 l3
def S_spCol1_0 : ST := fun vs bl => D_spCol1_0 vs bl fun p0 e0 q0 f0 p1 e1 q1 f1 a b c d kk a0 b0 c0 d0 a1 b1 c1 d1 a2 b2 c2 d2 a3 b3 c3 d3 g0 g1 g2 g3 x h0 h1 l0 l1 l2 l3 => some (k_spCol1_0 p0 e0 q0 f0 p1 e1 q1 f1 a b c d kk a0 b0 c0 d0 a1 b1 c1 d1 a2 b2 c2 d2 a3 b3 c3 d3 g0 g1 g2 g3 x h0 h1 l0 l1 l2 l3, c_spCol1_0 p0 e0 q0 f0 p1 e1 q1 f1 a b c d kk a0 b0 c0 d0 a1 b1 c1 d1 a2 b2 c2 d2 a3 b3 c3 d3 g0 g1 g2 g3 x h0 h1 l0 l1 l2 l3)
def H_spCol1 (p0 e0 q0 f0 p1 e1 q1 f1 a b c d k a0 b0 c0 d0 a1 b1 c1 d1 a2 b2 c2 d2 a3 b3 c3 d3 : Int) (h0 h1 l0 l1 l2 l3 : List Int) : Option (Bool × Out) := some (spOk p1 e1 q1 f1 b k a1 c1 a3 c3 h1 l1 l3, ⟨.one (.int .i64 0), [some (.box [.int .i64 p0, .int .i64 e0, .int .i64 q0, .int .i64 f0, .row 4, .int .i64 p1, .int .i64 e1, .int .i64 q1, .int .i64 f1, .row 5]), some (.box [.int .i64 a, .int .i64 b, .int .i64 c, .int .i64 d]), some (.box [.int .i64 k]), some (.box [.int .i64 a0, .int .i64 b0, .int .i64 c0, .int .i64 d0, .row 6, .int .i64 a1, .int .i64 b1, .int .i64 c1, .int .i64 d1, .row 7, .int .i64 a2, .int .i64 b2, .int .i64 c2, .int .i64 d2, .row 8, .int .i64 a3, .int .i64 b3, .int .i64 c3, .int .i64 d3, .row 9]), some (.arr 3 (.int .i64) h0), some (.arr 3 (.int .i64) h1), some (.arr 3 (.int .i64) l0), some (.arr 3 (.int .i64) (colsLo l1 h1 (q1 - p1).toNat (f1 - e1).toNat b k)), some (.arr 3 (.int .i64) l2), some (.arr 3 (.int .i64) (colsHi l3 h1 (q1 - p1).toNat (f1 - e1).toNat b k))], []⟩)
def G_spCol1 : Summ := fun args lent => pO args fun c' args => kJ 1 c' <| pP 0 0 args fun args => pP 1 0 args fun args => pP 2 0 args fun args => pP 3 0 args fun args => pE args <| nB lent fun q' lent => rd2P 4 5 q' fun p0 e0 q0 f0 p1 e1 q1 f1 => nB lent fun q' lent => t4 q' fun a b c d q' => tE q' <| nB lent fun q' lent => tI q' fun k q' => tE q' <| nB lent fun q' lent => rd4P 6 7 8 9 q' fun a0 b0 c0 d0 a1 b1 c1 d1 a2 b2 c2 d2 a3 b3 c3 d3 => nAI 3 lent fun h0 lent => nAI 3 lent fun h1 lent => nAI 3 lent fun l0 lent => nAI 3 lent fun l1 lent => nAI 3 lent fun l2 lent => nAI 3 lent fun l3 lent => nE lent <| H_spCol1 p0 e0 q0 f0 p1 e1 q1 f1 a b c d k a0 b0 c0 d0 a1 b1 c1 d1 a2 b2 c2 d2 a3 b3 c3 d3 h0 h1 l0 l1 l2 l3
def G_dwt_Split_1 : Summ := orG G_spCol0 G_spCol1
def rowAt (l : List Int) (g y : Nat) : List Int := (l.drop (y * g)).take g
def rLo (l : List Int) (g : Nat) (s k : Int) (y : Nat) : List Int := (fw (rowAt l g y) s k).1
def rHi (l : List Int) (g : Nat) (s k : Int) (y : Nat) : List Int := (fw (rowAt l g y) s k).2.1
def catR (f : Nat → List Int) : Nat → List Int
  | 0 => []
  | y + 1 => catR f y ++ f y
def matC (n g : Nat) (f : Nat → List Int) : List Int := (List.range n).flatMap fun y => (List.range g).map fun x => gI (f x) y
def spErr (a b c d k : Int) (l : List Int) : Int := if !plV a b c d l then 1 else if !inr 1 3 k then 3 else if !fitB 35184372088832 l then 2 else 0
def spR (a b c d k : Int) (l : List Int) (o : Int) : Rc := if spErr a b c d k l = 0 then bnd a b c d o else (0, 0, 0, 0)
def bw (a b c d o : Int) : Nat := ((bnd a b c d o).2.2.1 - (bnd a b c d o).1).toNat
def bh (a b c d o : Int) : Nat := ((bnd a b c d o).2.2.2 - (bnd a b c d o).2.1).toNat
def sLo (a b c d k : Int) (l : List Int) : List Int := catR (rLo l (c - a).toNat a k) (d - b).toNat
def sHi (a b c d k : Int) (l : List Int) : List Int := catR (rHi l (c - a).toNat a k) (d - b).toNat
def spD0 (a b c d k : Int) (l : List Int) : List Int := if spErr a b c d k l = 0 then matC (bh a b c d 0) (bw a b c d 0) (cLo (sLo a b c d k l) (bw a b c d 0) (d - b).toNat b k) else []
def spD1 (a b c d k : Int) (l : List Int) : List Int := if spErr a b c d k l = 0 then matC (bh a b c d 1) (bw a b c d 1) (cLo (sHi a b c d k l) (bw a b c d 1) (d - b).toNat b k) else []
def spD2 (a b c d k : Int) (l : List Int) : List Int := if spErr a b c d k l = 0 then matC (bh a b c d 2) (bw a b c d 0) (cHi (sLo a b c d k l) (bw a b c d 0) (d - b).toNat b k) else []
def spD3 (a b c d k : Int) (l : List Int) : List Int := if spErr a b c d k l = 0 then matC (bh a b c d 3) (bw a b c d 1) (cHi (sHi a b c d k l) (bw a b c d 1) (d - b).toNat b k) else []
def c_dwt_Split_1 (a b c d kk ua0 ub0 uc0 ud0 ua1 ub1 uc1 ud1 ua2 ub2 uc2 ud2 ua3 ub3 uc3 ud3 va0 vb0 vc0 vd0 va1 vb1 vc1 vd1 va2 vb2 vc2 vd2 va3 vb3 vc3 vd3 ra rb rc rd a0 b0 c0 d0 a1 b1 c1 d1 a2 b2 c2 d2 a3 b3 c3 d3 p0 e0 q0 f0 p1 e1 q1 f1 y : Int) (l y0 y1 y2 y3 y4 y5 y6 y7 h0 h1 : List Int) : LT := .leaf (.exit 2) [.one (.ptr 0 0), .one (.ptr 1 0), .one (.ptr 2 0), .one (.ptr 3 0), .one (.ptr 4 0), .one (.ptr 5 0)] [some (.box [.int .i64 kk]), some (.box [.int .i64 ua0, .int .i64 ub0, .int .i64 uc0, .int .i64 ud0, .row 6, .int .i64 ua1, .int .i64 ub1, .int .i64 uc1, .int .i64 ud1, .row 7, .int .i64 ua2, .int .i64 ub2, .int .i64 uc2, .int .i64 ud2, .row 8, .int .i64 ua3, .int .i64 ub3, .int .i64 uc3, .int .i64 ud3, .row 9]), some (.box [.int .i64 va0, .int .i64 vb0, .int .i64 vc0, .int .i64 vd0, .row 10, .int .i64 va1, .int .i64 vb1, .int .i64 vc1, .int .i64 vd1, .row 11, .int .i64 va2, .int .i64 vb2, .int .i64 vc2, .int .i64 vd2, .row 12, .int .i64 va3, .int .i64 vb3, .int .i64 vc3, .int .i64 vd3, .row 13]), some (.box [.int .i64 ra, .int .i64 rb, .int .i64 rc, .int .i64 rd]), some (.box [.int .i64 a0, .int .i64 b0, .int .i64 c0, .int .i64 d0, .int .i64 a1, .int .i64 b1, .int .i64 c1, .int .i64 d1, .int .i64 a2, .int .i64 b2, .int .i64 c2, .int .i64 d2, .int .i64 a3, .int .i64 b3, .int .i64 c3, .int .i64 d3]), some (.box [.int .i64 p0, .int .i64 e0, .int .i64 q0, .int .i64 f0, .row 14, .int .i64 p1, .int .i64 e1, .int .i64 q1, .int .i64 f1, .row 15]), some (.arr 3 (.int .i64) y0), some (.arr 3 (.int .i64) y1), some (.arr 3 (.int .i64) y2), some (.arr 3 (.int .i64) y3), some (.arr 3 (.int .i64) y4), some (.arr 3 (.int .i64) y5), some (.arr 3 (.int .i64) y6), some (.arr 3 (.int .i64) y7), some (.arr 3 (.int .i64) (sLo a b c d kk l)), some (.arr 3 (.int .i64) (sHi a b c d kk l))]
def k_dwt_Split_1 (a b c d kk ua0 ub0 uc0 ud0 ua1 ub1 uc1 ud1 ua2 ub2 uc2 ud2 ua3 ub3 uc3 ud3 va0 vb0 vc0 vd0 va1 vb1 vc1 vd1 va2 vb2 vc2 vd2 va3 vb3 vc3 vd3 ra rb rc rd a0 b0 c0 d0 a1 b1 c1 d1 a2 b2 c2 d2 a3 b3 c3 d3 p0 e0 q0 f0 p1 e1 q1 f1 y : Int) (l y0 y1 y2 y3 y4 y5 y6 y7 h0 h1 : List Int) : Bool := decide (y = b) && decide (h0 = []) && decide (h1 = []) && plV a b c d l && inr 1 3 kk && fitB 35184372088832 l && decide (ra = a) && decide (rd = d)
def D_dwt_Split_1 {α : Type} (vs : List V) (bl : List (Option Blk)) (K : Int → Int → Int → Int → Int → Int → Int → Int → Int → Int → Int → Int → Int → Int → Int → Int → Int → Int → Int → Int → Int → Int → Int → Int → Int → Int → Int → Int → Int → Int → Int → Int → Int → Int → Int → Int → Int → Int → Int → Int → Int → Int → Int → Int → Int → Int → Int → Int → Int → Int → Int → Int → Int → Int → Int → Int → Int → Int → Int → Int → Int → Int → Int → Int → Int → Int → (List Int) → (List Int) → (List Int) → (List Int) → (List Int) → (List Int) → (List Int) → (List Int) → (List Int) → (List Int) → (List Int) → Option α) : Option α := pP 0 0 vs fun vs => pP 1 0 vs fun vs => pP 2 0 vs fun vs => pP 3 0 vs fun vs => pP 4 0 vs fun vs => pP 5 0 vs fun vs => pP 6 0 vs fun vs => pI vs fun y vs => pE vs <| bB bl fun q' bl => t4 q' fun a b c d q' => tC q' fun c' q' => kLI c' fun l => tE q' <| bB bl fun q' bl => tI q' fun kk q' => tE q' <| bB bl fun q' bl => rd4P 7 8 9 10 q' fun ua0 ub0 uc0 ud0 ua1 ub1 uc1 ud1 ua2 ub2 uc2 ud2 ua3 ub3 uc3 ud3 => bB bl fun q' bl => rd4P 11 12 13 14 q' fun va0 vb0 vc0 vd0 va1 vb1 vc1 vd1 va2 vb2 vc2 vd2 va3 vb3 vc3 vd3 => bB bl fun q' bl => t4 q' fun ra rb rc rd q' => tE q' <| bB bl fun q' bl => rd4R q' fun a0 b0 c0 d0 a1 b1 c1 d1 a2 b2 c2 d2 a3 b3 c3 d3 => bB bl fun q' bl => rd2P 15 16 q' fun p0 e0 q0 f0 p1 e1 q1 f1 => bAI 3 bl fun y0 bl => bAI 3 bl fun y1 bl => bAI 3 bl fun y2 bl => bAI 3 bl fun y3 bl => bAI 3 bl fun y4 bl => bAI 3 bl fun y5 bl => bAI 3 bl fun y6 bl => bAI 3 bl fun y7 bl => bAI 3 bl fun h0 bl => bAI 3 bl fun h1 bl => bE bl <| K a b c d kk ua0 ub0 uc0 ud0 ua1 ub1 uc1 ud1 ua2 ub2 uc2 ud2 ua3 ub3 uc3 ud3 va0 vb0 vc0 vd0 va1 vb1 vc1 vd1 va2 vb2 vc2 vd2 va3 vb3 vc3 vd3 ra rb rc rd a0 b0 c0 d0 a1 b1 c1 d1 a2 b2 c2 d2 a3 b3 c3 d3 p0 e0 q0 f0 p1 e1 q1 f1 y l y0 y1 y2 y3 y4 y5 y6 y7 h0 h1
def S_dwt_Split_1 : ST := fun vs bl => D_dwt_Split_1 vs bl fun a b c d kk ua0 ub0 uc0 ud0 ua1 ub1 uc1 ud1 ua2 ub2 uc2 ud2 ua3 ub3 uc3 ud3 va0 vb0 vc0 vd0 va1 vb1 vc1 vd1 va2 vb2 vc2 vd2 va3 vb3 vc3 vd3 ra rb rc rd a0 b0 c0 d0 a1 b1 c1 d1 a2 b2 c2 d2 a3 b3 c3 d3 p0 e0 q0 f0 p1 e1 q1 f1 y l y0 y1 y2 y3 y4 y5 y6 y7 h0 h1 => some (k_dwt_Split_1 a b c d kk ua0 ub0 uc0 ud0 ua1 ub1 uc1 ud1 ua2 ub2 uc2 ud2 ua3 ub3 uc3 ud3 va0 vb0 vc0 vd0 va1 vb1 vc1 vd1 va2 vb2 vc2 vd2 va3 vb3 vc3 vd3 ra rb rc rd a0 b0 c0 d0 a1 b1 c1 d1 a2 b2 c2 d2 a3 b3 c3 d3 p0 e0 q0 f0 p1 e1 q1 f1 y l y0 y1 y2 y3 y4 y5 y6 y7 h0 h1, c_dwt_Split_1 a b c d kk ua0 ub0 uc0 ud0 ua1 ub1 uc1 ud1 ua2 ub2 uc2 ud2 ua3 ub3 uc3 ud3 va0 vb0 vc0 vd0 va1 vb1 vc1 vd1 va2 vb2 vc2 vd2 va3 vb3 vc3 vd3 ra rb rc rd a0 b0 c0 d0 a1 b1 c1 d1 a2 b2 c2 d2 a3 b3 c3 d3 p0 e0 q0 f0 p1 e1 q1 f1 y l y0 y1 y2 y3 y4 y5 y6 y7 h0 h1)
def c_dwt_Split_3 (ua0 ub0 uc0 ud0 ua1 ub1 uc1 ud1 ua2 ub2 uc2 ud2 ua3 ub3 uc3 ud3 va0 vb0 vc0 vd0 va1 vb1 vc1 vd1 va2 vb2 vc2 vd2 va3 vb3 vc3 vd3 p0 e0 q0 f0 p1 e1 q1 f1 a b c d kk ii : Int) (y0 y1 y2 y3 y4 y5 y6 y7 h0 h1 : List Int) : LT := .leaf (.exit 6) [.one (.ptr 0 0), .one (.ptr 1 0)] [some (.box [.int .i64 ua0, .int .i64 ub0, .int .i64 uc0, .int .i64 ud0, .row 2, .int .i64 ua1, .int .i64 ub1, .int .i64 uc1, .int .i64 ud1, .row 3, .int .i64 ua2, .int .i64 ub2, .int .i64 uc2, .int .i64 ud2, .row 4, .int .i64 ua3, .int .i64 ub3, .int .i64 uc3, .int .i64 ud3, .row 5]), some (.box [.int .i64 va0, .int .i64 vb0, .int .i64 vc0, .int .i64 vd0, .row 6, .int .i64 va1, .int .i64 vb1, .int .i64 vc1, .int .i64 vd1, .row 7, .int .i64 va2, .int .i64 vb2, .int .i64 vc2, .int .i64 vd2, .row 8, .int .i64 va3, .int .i64 vb3, .int .i64 vc3, .int .i64 vd3, .row 9]), some (.arr 3 (.int .i64) y0), some (.arr 3 (.int .i64) y1), some (.arr 3 (.int .i64) y2), some (.arr 3 (.int .i64) y3), some (.arr 3 (.int .i64) (colsLo y4 h0 (q0 - p0).toNat (f0 - e0).toNat b kk)), some (.arr 3 (.int .i64) (colsLo y5 h1 (q1 - p1).toNat (f1 - e1).toNat b kk)), some (.arr 3 (.int .i64) (colsHi y6 h0 (q0 - p0).toNat (f0 - e0).toNat b kk)), some (.arr 3 (.int .i64) (colsHi y7 h1 (q1 - p1).toNat (f1 - e1).toNat b kk))]
def k_dwt_Split_3 (ua0 ub0 uc0 ud0 ua1 ub1 uc1 ud1 ua2 ub2 uc2 ud2 ua3 ub3 uc3 ud3 va0 vb0 vc0 vd0 va1 vb1 vc1 vd1 va2 vb2 vc2 vd2 va3 vb3 vc3 vd3 p0 e0 q0 f0 p1 e1 q1 f1 a b c d kk ii : Int) (y0 y1 y2 y3 y4 y5 y6 y7 h0 h1 : List Int) : Bool := decide (ii = 0) && spOk p0 e0 q0 f0 b kk va0 vc0 va2 vc2 h0 y4 y6 && spOk p1 e1 q1 f1 b kk va1 vc1 va3 vc3 h1 y5 y7
def D_dwt_Split_3 {α : Type} (vs : List V) (bl : List (Option Blk)) (K : Int → Int → Int → Int → Int → Int → Int → Int → Int → Int → Int → Int → Int → Int → Int → Int → Int → Int → Int → Int → Int → Int → Int → Int → Int → Int → Int → Int → Int → Int → Int → Int → Int → Int → Int → Int → Int → Int → Int → Int → Int → Int → Int → Int → Int → Int → (List Int) → (List Int) → (List Int) → (List Int) → (List Int) → (List Int) → (List Int) → (List Int) → (List Int) → (List Int) → Option α) : Option α := pP 0 0 vs fun vs => pP 1 0 vs fun vs => pO vs fun c' vs => kF 70 [2, 3, 4, 1] c' <| pI vs fun ii vs => pE vs <| bB bl fun q' bl => rd4P 5 6 7 8 q' fun ua0 ub0 uc0 ud0 ua1 ub1 uc1 ud1 ua2 ub2 uc2 ud2 ua3 ub3 uc3 ud3 => bB bl fun q' bl => rd4P 9 10 11 12 q' fun va0 vb0 vc0 vd0 va1 vb1 vc1 vd1 va2 vb2 vc2 vd2 va3 vb3 vc3 vd3 => bB bl fun q' bl => rd2P 13 14 q' fun p0 e0 q0 f0 p1 e1 q1 f1 => bB bl fun q' bl => t4 q' fun a b c d q' => tE q' <| bB bl fun q' bl => tI q' fun kk q' => tE q' <| bAI 3 bl fun y0 bl => bAI 3 bl fun y1 bl => bAI 3 bl fun y2 bl => bAI 3 bl fun y3 bl => bAI 3 bl fun y4 bl => bAI 3 bl fun y5 bl => bAI 3 bl fun y6 bl => bAI 3 bl fun y7 bl => bAI 3 bl fun h0 bl => bAI 3 bl fun h1 bl => bE bl <| K ua0 ub0 uc0 ud0 ua1 ub1 uc1 ud1 ua2 ub2 uc2 ud2 ua3 ub3 uc3 ud3 va0 vb0 vc0 vd0 va1 vb1 vc1 vd1 va2 vb2 vc2 vd2 va3 vb3 vc3 vd3 p0 e0 q0 f0 p1 e1 q1 f1 a b c d kk ii y0 y1 y2 y3 y4 y5 y6 y7 h0 h1
def S_dwt_Split_3 : ST := fun vs bl => D_dwt_Split_3 vs bl fun ua0 ub0 uc0 ud0 ua1 ub1 uc1 ud1 ua2 ub2 uc2 ud2 ua3 ub3 uc3 ud3 va0 vb0 vc0 vd0 va1 vb1 vc1 vd1 va2 vb2 vc2 vd2 va3 vb3 vc3 vd3 p0 e0 q0 f0 p1 e1 q1 f1 a b c d kk ii y0 y1 y2 y3 y4 y5 y6 y7 h0 h1 => some (k_dwt_Split_3 ua0 ub0 uc0 ud0 ua1 ub1 uc1 ud1 ua2 ub2 uc2 ud2 ua3 ub3 uc3 ud3 va0 vb0 vc0 vd0 va1 vb1 vc1 vd1 va2 vb2 vc2 vd2 va3 vb3 vc3 vd3 p0 e0 q0 f0 p1 e1 q1 f1 a b c d kk ii y0 y1 y2 y3 y4 y5 y6 y7 h0 h1, c_dwt_Split_3 ua0 ub0 uc0 ud0 ua1 ub1 uc1 ud1 ua2 ub2 uc2 ud2 ua3 ub3 uc3 ud3 va0 vb0 vc0 vd0 va1 vb1 vc1 vd1 va2 vb2 vc2 vd2 va3 vb3 vc3 vd3 p0 e0 q0 f0 p1 e1 q1 f1 a b c d kk ii y0 y1 y2 y3 y4 y5 y6 y7 h0 h1)
def H_dwt_Split (a b c d k : Int) (l : List Int) : Option (Bool × Out) := some (small l.length, ⟨.tup [(true, [.int .i64 ((spR a b c d k l 0).1), .int .i64 ((spR a b c d k l 0).2.1), .int .i64 ((spR a b c d k l 0).2.2.1), .int .i64 ((spR a b c d k l 0).2.2.2), .row 0, .int .i64 ((spR a b c d k l 1).1), .int .i64 ((spR a b c d k l 1).2.1), .int .i64 ((spR a b c d k l 1).2.2.1), .int .i64 ((spR a b c d k l 1).2.2.2), .row 1, .int .i64 ((spR a b c d k l 2).1), .int .i64 ((spR a b c d k l 2).2.1), .int .i64 ((spR a b c d k l 2).2.2.1), .int .i64 ((spR a b c d k l 2).2.2.2), .row 2, .int .i64 ((spR a b c d k l 3).1), .int .i64 ((spR a b c d k l 3).2.1), .int .i64 ((spR a b c d k l 3).2.2.1), .int .i64 ((spR a b c d k l 3).2.2.2), .row 3]), (false, [.int .i64 (spErr a b c d k l)])], [], [.arr 3 (.int .i64) (spD0 a b c d k l), .arr 3 (.int .i64) (spD1 a b c d k l), .arr 3 (.int .i64) (spD2 a b c d k l), .arr 3 (.int .i64) (spD3 a b c d k l)]⟩)
def G_dwt_Split : Summ := fun args lent => pA args fun q' args => t4 q' fun a b c d q' => tC q' fun c' q' => kLI c' fun l => tE q' <| pI args fun k args => pE args <| nE lent <| H_dwt_Split a b c d k l
def rdPv {α : Type} (q : List C) (K : Int → Int → Int → Int → List Int → List C → Option α) : Option α := rdRc q fun a b c d q => tC q fun c' q => kLI c' fun l => K a b c d l q
theorem rdPv_s {α : Type} {q : List C} {K : Int → Int → Int → Int → List Int → List C → Option α} {r : α} (y0 : rdPv q K = some r) : ∃ a b c d l t, q = .int .i64 a :: .int .i64 b :: .int .i64 c :: .int .i64 d :: .lst (.int .i64) l :: t ∧ K a b c d l t = some r := by
  unfold rdPv at y0
  obtain ⟨a, b, c, d, q', rfl, y1⟩ := rdRc_s y0
  obtain ⟨c', q', rfl, y2⟩ := tC_s y1
  obtain ⟨l, rfl, y3⟩ := kLI_s y2
  exact ⟨a, b, c, d, l, q', rfl, y3⟩
def rd4L {α : Type} (q : List C) (K : Int → Int → Int → Int → List Int → Int → Int → Int → Int → List Int → Int → Int → Int → Int → List Int → Int → Int → Int → Int → List Int → Option α) : Option α := rdPv q fun a0 b0 c0 d0 l0 q => rdPv q fun a1 b1 c1 d1 l1 q => rdPv q fun a2 b2 c2 d2 l2 q => rdPv q fun a3 b3 c3 d3 l3 q => tE q <| K a0 b0 c0 d0 l0 a1 b1 c1 d1 l1 a2 b2 c2 d2 l2 a3 b3 c3 d3 l3
theorem rd4L_s {α : Type} {q : List C} {K : Int → Int → Int → Int → List Int → Int → Int → Int → Int → List Int → Int → Int → Int → Int → List Int → Int → Int → Int → Int → List Int → Option α} {r : α} (y0 : rd4L q K = some r) : ∃ a0 b0 c0 d0 l0 a1 b1 c1 d1 l1 a2 b2 c2 d2 l2 a3 b3 c3 d3 l3, q = [.int .i64 a0, .int .i64 b0, .int .i64 c0, .int .i64 d0, .lst (.int .i64) l0, .int .i64 a1, .int .i64 b1, .int .i64 c1, .int .i64 d1, .lst (.int .i64) l1, .int .i64 a2, .int .i64 b2, .int .i64 c2, .int .i64 d2, .lst (.int .i64) l2, .int .i64 a3, .int .i64 b3, .int .i64 c3, .int .i64 d3, .lst (.int .i64) l3] ∧ K a0 b0 c0 d0 l0 a1 b1 c1 d1 l1 a2 b2 c2 d2 l2 a3 b3 c3 d3 l3 = some r := by
  unfold rd4L at y0
  obtain ⟨a0, b0, c0, d0, l0, q', rfl, y1⟩ := rdPv_s y0
  obtain ⟨a1, b1, c1, d1, l1, q', rfl, y2⟩ := rdPv_s y1
  obtain ⟨a2, b2, c2, d2, l2, q', rfl, y3⟩ := rdPv_s y2
  obtain ⟨a3, b3, c3, d3, l3, q', rfl, y4⟩ := rdPv_s y3
  obtain ⟨rfl, z⟩ := tE_s y4
  exact ⟨a0, b0, c0, d0, l0, a1, b1, c1, d1, l1, a2, b2, c2, d2, l2, a3, b3, c3, d3, l3, rfl, z⟩
def mgCol (l m : List Int) (g n n' : Nat) (s k : Int) (x : Nat) : List Int := (iv (colOf l g x n) (colOf m g x n') s k).1
def mgRow (l m : List Int) (g g' : Nat) (s k : Int) (y : Nat) : List Int := (iv (rowAt l g y) (rowAt m g' y) s k).1
def isR (a b c d : Int) (r : Rc) : Bool := a == r.1 && (b == r.2.1 && (c == r.2.2.1 && (d == r.2.2.2 && true)))
def mgErr (a0 b0 c0 d0 a1 b1 c1 d1 a2 b2 c2 d2 a3 b3 c3 d3 a b c d k : Int) (l0 l1 l2 l3 : List Int) : Int := if !valid a b c d || decide (area a b c d > 1048576) then 2 else if !inr 1 3 k then 3 else if !(plV a0 b0 c0 d0 l0 && isR a0 b0 c0 d0 (bnd a b c d 0) && plV a1 b1 c1 d1 l1 && isR a1 b1 c1 d1 (bnd a b c d 1) && plV a2 b2 c2 d2 l2 && isR a2 b2 c2 d2 (bnd a b c d 2) && plV a3 b3 c3 d3 l3 && isR a3 b3 c3 d3 (bnd a b c d 3)) then 1 else if !(fitB 281474976710656 l0 && fitB 281474976710656 l1 && fitB 281474976710656 l2 && fitB 281474976710656 l3) then 2 else 0
def mgR (e a b c d : Int) : Rc := if e = 0 then (a, b, c, d) else (0, 0, 0, 0)
def mgLo (a b c d k : Int) (l0 l2 : List Int) : List Int := matC (d - b).toNat (bw a b c d 0) (mgCol l0 l2 (bw a b c d 0) (bh a b c d 0) (bh a b c d 2) b k)
def mgHi (a b c d k : Int) (l1 l3 : List Int) : List Int := matC (d - b).toNat (bw a b c d 1) (mgCol l1 l3 (bw a b c d 1) (bh a b c d 1) (bh a b c d 3) b k)
def mgL (e a b c d k : Int) (l0 l1 l2 l3 : List Int) : List Int := if e = 0 then catR (mgRow (mgLo a b c d k l0 l2) (mgHi a b c d k l1 l3) (bw a b c d 0) (bw a b c d 1) a k) (d - b).toNat else []
def mgOk (g0 g1 g2 g3 s k a b c d a' b' c' d' : Int) (l l' t : List Int) : Bool := plV a b c d l && plV a' b' c' d' l' && inr 1 3 k && inr 0 4096 s && fitB 281474976710656 l && fitB 281474976710656 l' && decide (g0 = a) && decide (g2 = c) && decide (a' = a) && decide (c' = c) && inr 0 4096 (g3 - g1) && decide (d - b = cev s (g3 - g1)) && decide (d' - b' = (g3 - g1) - cev s (g3 - g1)) && decide ((t.length : Int) = (g2 - g0) * (g3 - g1))
def mgH (s k a b c d b' d' : Int) (l l' t : List Int) : List Int := setCs t (c - a).toNat (mgCol l l' (c - a).toNat (d - b).toNat (d' - b').toNat s k) (c - a).toNat
def mgS (ii : Int) (x y : List Int) : List Int := if ii = 0 then x else y
def mgB (ii : Int) (x y : Bool) : Bool := decide (ii = 0) && x || decide (ii = 1) && y
def c_dwt_Merge_2 (kk a0 b0 c0 d0 a1 b1 c1 d1 a2 b2 c2 d2 a3 b3 c3 d3 a b c d za zb zc zd va0 vb0 vc0 vd0 va1 vb1 vc1 vd1 va2 vb2 vc2 vd2 va3 vb3 vc3 vd3 p0 e0 q0 f0 p1 e1 q1 f1 ii : Int) (l0 l1 l2 l3 y0 h0 h1 : List Int) : LT := .leaf (.exit 4) [.one (.int .i64 kk), .one (.ptr 0 0), .one (.ptr 1 0), .one (.ptr 2 0)] [some (.box [.int .i64 a, .int .i64 b, .int .i64 c, .int .i64 d]), some (.box [.int .i64 za, .int .i64 zb, .int .i64 zc, .int .i64 zd, .row 3]), some (.box [.int .i64 va0, .int .i64 b, .int .i64 vc0, .int .i64 d, .row 4, .int .i64 va1, .int .i64 b, .int .i64 vc1, .int .i64 d, .row 5]), some (.arr 3 (.int .i64) y0), some (.arr 3 (.int .i64) (mgH b kk a0 b0 c0 d0 b2 d2 l0 l2 (zer (area va0 b vc0 d)))), some (.arr 3 (.int .i64) (mgH b kk a1 b1 c1 d1 b3 d3 l1 l3 (zer (area va1 b vc1 d))))]
def k_dwt_Merge_2 (kk a0 b0 c0 d0 a1 b1 c1 d1 a2 b2 c2 d2 a3 b3 c3 d3 a b c d za zb zc zd va0 vb0 vc0 vd0 va1 vb1 vc1 vd1 va2 vb2 vc2 vd2 va3 vb3 vc3 vd3 p0 e0 q0 f0 p1 e1 q1 f1 ii : Int) (l0 l1 l2 l3 y0 h0 h1 : List Int) : Bool := decide (ii = 0) && (valid va0 b vc0 d && mgOk va0 b vc0 d b kk a0 b0 c0 d0 a2 b2 c2 d2 l0 l2 (zer (area va0 b vc0 d))) && (valid va1 b vc1 d && mgOk va1 b vc1 d b kk a1 b1 c1 d1 a3 b3 c3 d3 l1 l3 (zer (area va1 b vc1 d)))
def D_dwt_Merge_2 {α : Type} (vs : List V) (bl : List (Option Blk)) (K : Int → Int → Int → Int → Int → Int → Int → Int → Int → Int → Int → Int → Int → Int → Int → Int → Int → Int → Int → Int → Int → Int → Int → Int → Int → Int → Int → Int → Int → Int → Int → Int → Int → Int → Int → Int → Int → Int → Int → Int → Int → Int → Int → Int → Int → Int → Int → Int → Int → Int → (List Int) → (List Int) → (List Int) → (List Int) → (List Int) → (List Int) → (List Int) → Option α) : Option α := pI vs fun kk vs => pP 0 0 vs fun vs => pP 1 0 vs fun vs => pP 2 0 vs fun vs => pP 3 0 vs fun vs => pP 4 0 vs fun vs => pI vs fun ii vs => pE vs <| bB bl fun q' bl => rd4L q' fun a0 b0 c0 d0 l0 a1 b1 c1 d1 l1 a2 b2 c2 d2 l2 a3 b3 c3 d3 l3 => bB bl fun q' bl => t4 q' fun a b c d q' => tE q' <| bB bl fun q' bl => rd1P 5 q' fun za zb zc zd => bB bl fun q' bl => rd4R q' fun va0 vb0 vc0 vd0 va1 vb1 vc1 vd1 va2 vb2 vc2 vd2 va3 vb3 vc3 vd3 => bB bl fun q' bl => rd2P 6 7 q' fun p0 e0 q0 f0 p1 e1 q1 f1 => bAI 3 bl fun y0 bl => bAI 3 bl fun h0 bl => bAI 3 bl fun h1 bl => bE bl <| K kk a0 b0 c0 d0 a1 b1 c1 d1 a2 b2 c2 d2 a3 b3 c3 d3 a b c d za zb zc zd va0 vb0 vc0 vd0 va1 vb1 vc1 vd1 va2 vb2 vc2 vd2 va3 vb3 vc3 vd3 p0 e0 q0 f0 p1 e1 q1 f1 ii l0 l1 l2 l3 y0 h0 h1
def S_dwt_Merge_2 : ST := fun vs bl => D_dwt_Merge_2 vs bl fun kk a0 b0 c0 d0 a1 b1 c1 d1 a2 b2 c2 d2 a3 b3 c3 d3 a b c d za zb zc zd va0 vb0 vc0 vd0 va1 vb1 vc1 vd1 va2 vb2 vc2 vd2 va3 vb3 vc3 vd3 p0 e0 q0 f0 p1 e1 q1 f1 ii l0 l1 l2 l3 y0 h0 h1 => some (k_dwt_Merge_2 kk a0 b0 c0 d0 a1 b1 c1 d1 a2 b2 c2 d2 a3 b3 c3 d3 a b c d za zb zc zd va0 vb0 vc0 vd0 va1 vb1 vc1 vd1 va2 vb2 vc2 vd2 va3 vb3 vc3 vd3 p0 e0 q0 f0 p1 e1 q1 f1 ii l0 l1 l2 l3 y0 h0 h1, c_dwt_Merge_2 kk a0 b0 c0 d0 a1 b1 c1 d1 a2 b2 c2 d2 a3 b3 c3 d3 a b c d za zb zc zd va0 vb0 vc0 vd0 va1 vb1 vc1 vd1 va2 vb2 vc2 vd2 va3 vb3 vc3 vd3 p0 e0 q0 f0 p1 e1 q1 f1 ii l0 l1 l2 l3 y0 h0 h1)
def c_dwt_Merge_3 (kk a0 b0 c0 d0 a1 b1 c1 d1 a2 b2 c2 d2 a3 b3 c3 d3 a b c d za zb zc zd va0 vb0 vc0 vd0 va1 vb1 vc1 vd1 va2 vb2 vc2 vd2 va3 vb3 vc3 vd3 p0 e0 q0 f0 p1 e1 q1 f1 g0 g1 g2 g3 ii x i2 : Int) (l0 l1 l2 l3 y0 h0 h1 t : List Int) : LT := .leaf (.exit 6) [.one (.int .i64 kk), .one (.ptr 0 0), .one (.ptr 1 0), .one (.ptr 2 0), .one (.ptr 3 0), .one (.ptr 4 0), .one (.int .i64 ii), .one (.ptr 5 0), .one (.int .i64 i2)] [some (.box [.int .i64 a0, .int .i64 b0, .int .i64 c0, .int .i64 d0, .lst (.int .i64) l0, .int .i64 a1, .int .i64 b1, .int .i64 c1, .int .i64 d1, .lst (.int .i64) l1, .int .i64 a2, .int .i64 b2, .int .i64 c2, .int .i64 d2, .lst (.int .i64) l2, .int .i64 a3, .int .i64 b3, .int .i64 c3, .int .i64 d3, .lst (.int .i64) l3]), some (.box [.int .i64 a, .int .i64 b, .int .i64 c, .int .i64 d]), some (.box [.int .i64 za, .int .i64 zb, .int .i64 zc, .int .i64 zd, .row 6]), some (.box [.int .i64 va0, .int .i64 vb0, .int .i64 vc0, .int .i64 vd0, .int .i64 va1, .int .i64 vb1, .int .i64 vc1, .int .i64 vd1, .int .i64 va2, .int .i64 vb2, .int .i64 vc2, .int .i64 vd2, .int .i64 va3, .int .i64 vb3, .int .i64 vc3, .int .i64 vd3]), some (.box [.int .i64 p0, .int .i64 e0, .int .i64 q0, .int .i64 f0, .row 7, .int .i64 p1, .int .i64 e1, .int .i64 q1, .int .i64 f1, .row 8]), some (.box [.int .i64 g0, .int .i64 g1, .int .i64 g2, .int .i64 g3, .row 9]), some (.arr 3 (.int .i64) y0), some (.arr 3 (.int .i64) h0), some (.arr 3 (.int .i64) h1), some (.arr 3 (.int .i64) (mgS ii (mgH b kk a0 b0 c0 d0 b2 d2 l0 l2 t) (mgH b kk a1 b1 c1 d1 b3 d3 l1 l3 t)))]
def k_dwt_Merge_3 (kk a0 b0 c0 d0 a1 b1 c1 d1 a2 b2 c2 d2 a3 b3 c3 d3 a b c d za zb zc zd va0 vb0 vc0 vd0 va1 vb1 vc1 vd1 va2 vb2 vc2 vd2 va3 vb3 vc3 vd3 p0 e0 q0 f0 p1 e1 q1 f1 g0 g1 g2 g3 ii x i2 : Int) (l0 l1 l2 l3 y0 h0 h1 t : List Int) : Bool := decide (x = g0) && mgB ii (mgOk g0 g1 g2 g3 b kk a0 b0 c0 d0 a2 b2 c2 d2 l0 l2 t) (mgOk g0 g1 g2 g3 b kk a1 b1 c1 d1 a3 b3 c3 d3 l1 l3 t)
def D_dwt_Merge_3 {α : Type} (vs : List V) (bl : List (Option Blk)) (K : Int → Int → Int → Int → Int → Int → Int → Int → Int → Int → Int → Int → Int → Int → Int → Int → Int → Int → Int → Int → Int → Int → Int → Int → Int → Int → Int → Int → Int → Int → Int → Int → Int → Int → Int → Int → Int → Int → Int → Int → Int → Int → Int → Int → Int → Int → Int → Int → Int → Int → Int → Int → Int → Int → Int → Int → (List Int) → (List Int) → (List Int) → (List Int) → (List Int) → (List Int) → (List Int) → (List Int) → Option α) : Option α := pI vs fun kk vs => pP 0 0 vs fun vs => pP 1 0 vs fun vs => pP 2 0 vs fun vs => pP 3 0 vs fun vs => pP 4 0 vs fun vs => pI vs fun ii vs => pP 5 0 vs fun vs => pI vs fun x vs => pI vs fun i2 vs => pE vs <| bB bl fun q' bl => rd4L q' fun a0 b0 c0 d0 l0 a1 b1 c1 d1 l1 a2 b2 c2 d2 l2 a3 b3 c3 d3 l3 => bB bl fun q' bl => t4 q' fun a b c d q' => tE q' <| bB bl fun q' bl => rd1P 6 q' fun za zb zc zd => bB bl fun q' bl => rd4R q' fun va0 vb0 vc0 vd0 va1 vb1 vc1 vd1 va2 vb2 vc2 vd2 va3 vb3 vc3 vd3 => bB bl fun q' bl => rd2P 7 8 q' fun p0 e0 q0 f0 p1 e1 q1 f1 => bB bl fun q' bl => rd1P 9 q' fun g0 g1 g2 g3 => bAI 3 bl fun y0 bl => bAI 3 bl fun h0 bl => bAI 3 bl fun h1 bl => bAI 3 bl fun t bl => bE bl <| K kk a0 b0 c0 d0 a1 b1 c1 d1 a2 b2 c2 d2 a3 b3 c3 d3 a b c d za zb zc zd va0 vb0 vc0 vd0 va1 vb1 vc1 vd1 va2 vb2 vc2 vd2 va3 vb3 vc3 vd3 p0 e0 q0 f0 p1 e1 q1 f1 g0 g1 g2 g3 ii x i2 l0 l1 l2 l3 y0 h0 h1 t
def S_dwt_Merge_3 : ST := fun vs bl => D_dwt_Merge_3 vs bl fun kk a0 b0 c0 d0 a1 b1 c1 d1 a2 b2 c2 d2 a3 b3 c3 d3 a b c d za zb zc zd va0 vb0 vc0 vd0 va1 vb1 vc1 vd1 va2 vb2 vc2 vd2 va3 vb3 vc3 vd3 p0 e0 q0 f0 p1 e1 q1 f1 g0 g1 g2 g3 ii x i2 l0 l1 l2 l3 y0 h0 h1 t => some (k_dwt_Merge_3 kk a0 b0 c0 d0 a1 b1 c1 d1 a2 b2 c2 d2 a3 b3 c3 d3 a b c d za zb zc zd va0 vb0 vc0 vd0 va1 vb1 vc1 vd1 va2 vb2 vc2 vd2 va3 vb3 vc3 vd3 p0 e0 q0 f0 p1 e1 q1 f1 g0 g1 g2 g3 ii x i2 l0 l1 l2 l3 y0 h0 h1 t, c_dwt_Merge_3 kk a0 b0 c0 d0 a1 b1 c1 d1 a2 b2 c2 d2 a3 b3 c3 d3 a b c d za zb zc zd va0 vb0 vc0 vd0 va1 vb1 vc1 vd1 va2 vb2 vc2 vd2 va3 vb3 vc3 vd3 p0 e0 q0 f0 p1 e1 q1 f1 g0 g1 g2 g3 ii x i2 l0 l1 l2 l3 y0 h0 h1 t)
def c_dwt_Merge_4 (kk a b c d za zb zc zd p0 e0 q0 f0 p1 e1 q1 f1 oa ob oc od y : Int) (y0 h0 h1 v : List Int) : LT := .leaf (.exit 8) [.one (.ptr 0 0), .one (.ptr 1 0)] [some (.box [.int .i64 za, .int .i64 zb, .int .i64 zc, .int .i64 zd, .row 2]), some (.box [.int .i64 oa, .int .i64 ob, .int .i64 oc, .int .i64 od, .row 3]), some (.arr 3 (.int .i64) y0), some (.arr 3 (.int .i64) (catR (mgRow h0 h1 (q0 - p0).toNat (q1 - p1).toNat a kk) (d - b).toNat))]
def k_dwt_Merge_4 (kk a b c d za zb zc zd p0 e0 q0 f0 p1 e1 q1 f1 oa ob oc od y : Int) (y0 h0 h1 v : List Int) : Bool := decide (y = b) && decide (v = []) && inr 1 3 kk && inr 0 4096 a && plV p0 e0 q0 f0 h0 && plV p1 e1 q1 f1 h1 && decide (e0 = b) && decide (f0 = d) && decide (e1 = b) && decide (f1 = d) && fitB 1125899906842624 h0 && fitB 1125899906842624 h1 && inr 0 4096 (c - a) && decide (q0 - p0 = cev a (c - a)) && decide (q1 - p1 = (c - a) - cev a (c - a))
def D_dwt_Merge_4 {α : Type} (vs : List V) (bl : List (Option Blk)) (K : Int → Int → Int → Int → Int → Int → Int → Int → Int → Int → Int → Int → Int → Int → Int → Int → Int → Int → Int → Int → Int → Int → (List Int) → (List Int) → (List Int) → (List Int) → Option α) : Option α := pI vs fun kk vs => pP 0 0 vs fun vs => pP 1 0 vs fun vs => pP 2 0 vs fun vs => pP 3 0 vs fun vs => pI vs fun y vs => pE vs <| bB bl fun q' bl => t4 q' fun a b c d q' => tE q' <| bB bl fun q' bl => rd1P 4 q' fun za zb zc zd => bB bl fun q' bl => rd2P 5 6 q' fun p0 e0 q0 f0 p1 e1 q1 f1 => bB bl fun q' bl => rd1P 7 q' fun oa ob oc od => bAI 3 bl fun y0 bl => bAI 3 bl fun h0 bl => bAI 3 bl fun h1 bl => bAI 3 bl fun v bl => bE bl <| K kk a b c d za zb zc zd p0 e0 q0 f0 p1 e1 q1 f1 oa ob oc od y y0 h0 h1 v
def S_dwt_Merge_4 : ST := fun vs bl => D_dwt_Merge_4 vs bl fun kk a b c d za zb zc zd p0 e0 q0 f0 p1 e1 q1 f1 oa ob oc od y y0 h0 h1 v => some (k_dwt_Merge_4 kk a b c d za zb zc zd p0 e0 q0 f0 p1 e1 q1 f1 oa ob oc od y y0 h0 h1 v, c_dwt_Merge_4 kk a b c d za zb zc zd p0 e0 q0 f0 p1 e1 q1 f1 oa ob oc od y y0 h0 h1 v)
def H_dwt_Merge (a0 b0 c0 d0 a1 b1 c1 d1 a2 b2 c2 d2 a3 b3 c3 d3 a b c d k : Int) (l0 l1 l2 l3 : List Int) : Option (Bool × Out) := some ((small l0.length && small l1.length && small l2.length && small l3.length), ⟨.tup [(true, [.int .i64 ((mgR (mgErr a0 b0 c0 d0 a1 b1 c1 d1 a2 b2 c2 d2 a3 b3 c3 d3 a b c d k l0 l1 l2 l3) a b c d).1), .int .i64 ((mgR (mgErr a0 b0 c0 d0 a1 b1 c1 d1 a2 b2 c2 d2 a3 b3 c3 d3 a b c d k l0 l1 l2 l3) a b c d).2.1), .int .i64 ((mgR (mgErr a0 b0 c0 d0 a1 b1 c1 d1 a2 b2 c2 d2 a3 b3 c3 d3 a b c d k l0 l1 l2 l3) a b c d).2.2.1), .int .i64 ((mgR (mgErr a0 b0 c0 d0 a1 b1 c1 d1 a2 b2 c2 d2 a3 b3 c3 d3 a b c d k l0 l1 l2 l3) a b c d).2.2.2), .row 0]), (false, [.int .i64 (mgErr a0 b0 c0 d0 a1 b1 c1 d1 a2 b2 c2 d2 a3 b3 c3 d3 a b c d k l0 l1 l2 l3)])], [], [.arr 3 (.int .i64) (mgL (mgErr a0 b0 c0 d0 a1 b1 c1 d1 a2 b2 c2 d2 a3 b3 c3 d3 a b c d k l0 l1 l2 l3) a b c d k l0 l1 l2 l3)]⟩)
def G_dwt_Merge : Summ := fun args lent => pA args fun q' args => rd4L q' fun a0 b0 c0 d0 l0 a1 b1 c1 d1 l1 a2 b2 c2 d2 l2 a3 b3 c3 d3 l3 => pA args fun q' args => t4 q' fun a b c d q' => tE q' <| pI args fun k args => pE args <| nE lent <| H_dwt_Merge a0 b0 c0 d0 a1 b1 c1 d1 a2 b2 c2 d2 a3 b3 c3 d3 a b c d k l0 l1 l2 l3


def H_pyr_Band (a b c d n i : Int) : Option (Bool × Out) := some (true, ⟨.agg [.int .i64 ((bandR a b c d n i).1), .int .i64 ((bandR a b c d n i).2.1), .int .i64 ((bandR a b c d n i).2.2.1), .int .i64 ((bandR a b c d n i).2.2.2)], [], []⟩)
def G_pyr_Band : Summ := fun args lent => pA args fun q' args => t4 q' fun a b c d q' => tE q' <| pI args fun n args => pI args fun i args => pE args <| nE lent <| H_pyr_Band a b c d n i
def p_pyr_exceeds_0 (b : Int) (l : List Int) : Bool := l.all (inr (-b) b)
def c_pyr_exceeds_0 (b : Int) (l : List Int) : LT := .br (p_pyr_exceeds_0 b l) (.leaf (.exit 0) [] []) (.leaf .ret [.one (.bool true)] [])
def k_pyr_exceeds_0 (b : Int) (l : List Int) (n i : Int) : Bool := decide (i = 0) && decide (n = (l.length : Int)) && small (l.length) && decide (0 ≤ b) && decide (b ≤ 4503599627370496)
def D_pyr_exceeds_0 {α : Type} (vs : List V) (bl : List (Option Blk)) (K : Int → (List Int) → Int → Int → Option α) : Option α := pI vs fun b vs => pO vs fun c' vs => kLI c' fun l => pI vs fun n vs => pI vs fun i vs => pE vs <| bE bl <| K b l n i
def S_pyr_exceeds_0 : ST := fun vs bl => D_pyr_exceeds_0 vs bl fun b l n i => some (k_pyr_exceeds_0 b l n i, c_pyr_exceeds_0 b l)
def H_pyr_exceeds (l : List Int) (b : Int) : Option (Bool × Out) := some ((small l.length && (decide (0 ≤ b) && decide (b ≤ 4503599627370496))), ⟨.one (.bool (!fitB b l)), [], []⟩)
def G_pyr_exceeds : Summ := fun args lent => pO args fun c' args => kLI c' fun l => pI args fun b args => pE args <| nE lent <| H_pyr_exceeds l b
def ndI (a b c d n m res : Int) (w : Rc) (j : Nat) : Rc := inter (w.1 - m) (w.2.1 - m) (w.2.2.1 + m) (w.2.2.2 + m) (resR a b c d n (res - j)).1 (resR a b c d n (res - j)).2.1 (resR a b c d n (res - j)).2.2.1 (resR a b c d n (res - j)).2.2.2
def ndW (a b c d n m res : Int) (w : Rc) : Nat → Rc
  | 0 => w
  | j + 1 => bndR (ndI a b c d n m res (ndW a b c d n m res w j) j) 0
def ndAt (a b c d n m res : Int) (w : Rc) (i : Nat) : Rc := if i = 0 then ndW a b c d n m res w res.toNat else if ((i + 2 : Nat) : Int) / 3 ≤ res then bndR (ndI a b c d n m res (ndW a b c d n m res w (res - (i + 2 : Nat) / 3).toNat) (res - (i + 2 : Nat) / 3).toNat) (i - 3 * ((i + 2 : Nat) / 3) + 3) else (0, 0, 0, 0)
def ndG (a b c d n m res : Int) (w : Rc) (j : Nat) (i : Nat) : Rc := if 1 ≤ i ∧ ((i + 2 : Nat) : Int) / 3 ≤ res ∧ res - (i + 2 : Nat) / 3 < (j : Int) then ndAt a b c d n m res w i else (0, 0, 0, 0)
def ndL (a b c d n m res : Int) (w : Rc) (j : Nat) : List Rc := (List.range (3 * n + 1).toNat).map (ndG a b c d n m res w j)
def ndOk (a b c d n r k : Int) : Bool := valid a b c d && inr 0 5 n && inr 0 n r && inr 1 3 k
def ndIn (a b c d n r e f g h : Int) : Rc := inter e f g h (resR a b c d n r).1 (resR a b c d n r).2.1 (resR a b c d n r).2.2.1 (resR a b c d n r).2.2.2
def ndF (a b c d n r e f g h k : Int) : List Rc := if ndOk a b c d n r k then (if empty (ndIn a b c d n r e f g h).1 (ndIn a b c d n r e f g h).2.1 (ndIn a b c d n r e f g h).2.2.1 (ndIn a b c d n r e f g h).2.2.2 then List.replicate (count n).toNat (0, 0, 0, 0) else (ndL a b c d n (marg k) r (ndIn a b c d n r e f g h) r.toNat).set 0 (ndW a b c d n (marg k) r (ndIn a b c d n r e f g h) r.toNat)) else []
def c_pyr_Need_0 (a b c d n m w0 w1 w2 w3 t : Int) (v : List (Int × Int × Int × Int)) : LT := .leaf (.exit 0) [.one (.row 0), .one (.ptr 1 0)] [some (.arr 31 (.pair (.int .i64) (.pair (.int .i64) (.pair (.int .i64) (.int .i64)))) (ndL a b c d n m t (w0, w1, w2, w3) t.toNat)), some (.box [.int .i64 ((ndW a b c d n m t (w0, w1, w2, w3) t.toNat).1), .int .i64 ((ndW a b c d n m t (w0, w1, w2, w3) t.toNat).2.1), .int .i64 ((ndW a b c d n m t (w0, w1, w2, w3) t.toNat).2.2.1), .int .i64 ((ndW a b c d n m t (w0, w1, w2, w3) t.toNat).2.2.2)])]
def k_pyr_Need_0 (a b c d n m w0 w1 w2 w3 t : Int) (v : List (Int × Int × Int × Int)) : Bool := inr 0 5 n && inr 0 n t && inr 0 4 m && valid w0 w1 w2 w3 && decide (v = List.replicate (3 * n + 1).toNat (0, 0, 0, 0))
def D_pyr_Need_0 {α : Type} (vs : List V) (bl : List (Option Blk)) (K : Int → Int → Int → Int → Int → Int → Int → Int → Int → Int → Int → (List (Int × Int × Int × Int)) → Option α) : Option α := pI vs fun n vs => pP 0 0 vs fun vs => pI vs fun m vs => pO vs fun c' vs => kR 1 c' <| pP 2 0 vs fun vs => pI vs fun t vs => pE vs <| bB bl fun q' bl => t4 q' fun a b c d q' => tE q' <| bAR 31 bl fun v bl => bB bl fun q' bl => t4 q' fun w0 w1 w2 w3 q' => tE q' <| bE bl <| K a b c d n m w0 w1 w2 w3 t v
def S_pyr_Need_0 : ST := fun vs bl => D_pyr_Need_0 vs bl fun a b c d n m w0 w1 w2 w3 t v => some (k_pyr_Need_0 a b c d n m w0 w1 w2 w3 t v, c_pyr_Need_0 a b c d n m w0 w1 w2 w3 t v)
def H_pyr_Need (a b c d n r e f g h k : Int) : Option (Bool × Out) := some (true, ⟨.one (.row 0), [], [.arr 31 (.pair (.int .i64) (.pair (.int .i64) (.pair (.int .i64) (.int .i64)))) (ndF a b c d n r e f g h k)]⟩)
def G_pyr_Need : Summ := fun args lent => pA args fun q' args => t4 q' fun a b c d q' => tE q' <| pI args fun n args => pI args fun r args => pA args fun q' args => t4 q' fun e f g h q' => tE q' <| pI args fun k args => pE args <| nE lent <| H_pyr_Need a b c d n r e f g h k
def bnB (k b : Int) : Nat → Int
  | 0 => b
  | j + 1 => lb (lb (bnB k b j) k) k
def bdO (o c k : Int) : Int := if o = 1 then lb (hb c k) k else if o = 2 then hb (lb c k) k else if o = 3 then hb (hb c k) k else c
def bdP (b n i k : Int) : Int := if decide (0 ≤ b) && decide (b ≤ 1048576) && plOk i n && inr 1 3 k then bdO (plOr i n) (bnB k b (plLv i n - (if i = 0 then 0 else 1)).toNat) k else 0
def c_pyr_Bound_0 (b kk o m t : Int) : LT := .leaf (.exit 0) [.one (.int .i64 (bnB kk b m.toNat)), .one (.int .i64 kk), .one (.int .i64 o)] []
def k_pyr_Bound_0 (b kk o m t : Int) : Bool := decide (t = 0) && inr 0 5 m
def D_pyr_Bound_0 {α : Type} (vs : List V) (bl : List (Option Blk)) (K : Int → Int → Int → Int → Int → Option α) : Option α := pI vs fun b vs => pI vs fun kk vs => pI vs fun o vs => pI vs fun m vs => pI vs fun t vs => pE vs <| bE bl <| K b kk o m t
def S_pyr_Bound_0 : ST := fun vs bl => D_pyr_Bound_0 vs bl fun b kk o m t => some (k_pyr_Bound_0 b kk o m t, c_pyr_Bound_0 b kk o m t)
def H_pyr_Bound (b n i k : Int) : Option (Bool × Out) := some (true, ⟨.one (.int .i64 (bdP b n i k)), [], []⟩)
def G_pyr_Bound : Summ := fun args lent => pI args fun b args => pI args fun n args => pI args fun i args => pI args fun k args => pE args <| nE lent <| H_pyr_Bound b n i k
def anS (k : Int) : Nat → Rc × List Int → Rc × List Int
  | 0, q => q
  | j + 1, q => (bndR (anS k j q).1 0, spD0 (anS k j q).1.1 (anS k j q).1.2.1 (anS k j q).1.2.2.1 (anS k j q).1.2.2.2 k (anS k j q).2)
def plVR (q : Rc × List Int) : Bool := plV q.1.1 q.1.2.1 q.1.2.2.1 q.1.2.2.2 q.2
def plT (r : Rc) (l : List Int) : Rc × List Int := (r, l)
def spDo (o : Int) (r : Rc) (k : Int) (l : List Int) : List Int := if o = 0 then spD0 r.1 r.2.1 r.2.2.1 r.2.2.2 k l else if o = 1 then spD1 r.1 r.2.1 r.2.2.1 r.2.2.2 k l else if o = 2 then spD2 r.1 r.2.1 r.2.2.1 r.2.2.2 k l else spD3 r.1 r.2.1 r.2.2.1 r.2.2.2 k l
def anAt (n k : Int) (q : Rc × List Int) (i : Nat) : Rc × List Int := if i = 0 then plT (anS k n.toNat q).1 (anS k n.toNat q).2 else plT (bndR (anS k (n - (i + 2 : Nat) / 3).toNat q).1 (i - 3 * ((i + 2 : Nat) / 3) + 3)) (spDo (i - 3 * ((i + 2 : Nat) / 3) + 3) (anS k (n - (i + 2 : Nat) / 3).toNat q).1 k (anS k (n - (i + 2 : Nat) / 3).toNat q).2)
def anL (n k : Int) (q : Rc × List Int) (j : Nat) : List (Rc × List Int) := (List.range (3 * n + 1).toNat).map fun i => if 1 ≤ i ∧ n - (i + 2 : Nat) / 3 < j then anAt n k q i else ((0, 0, 0, 0), [])
def anG (n k : Int) (q : Rc × List Int) (j : Nat) (i : Nat) : Rc × List Int := if 1 ≤ i ∧ n - (i + 2 : Nat) / 3 < (j : Int) then anAt n k q i else ((0, 0, 0, 0), [])
def kLN {α : Type} (c : C) (K : List (Rc × List Int) → Option α) : Option α := match c with | .lst (.pair (.pair (.int .i64) (.pair (.int .i64) (.pair (.int .i64) (.int .i64)))) (.sl (.int .i64))) l => K l | _ => none
theorem kLN_s {α : Type} {r : α} {c : C} {K} (h : kLN c K = some r) : ∃ n : List (Rc × List Int), c = .lst (.pair (.pair (.int .i64) (.pair (.int .i64) (.pair (.int .i64) (.int .i64)))) (.sl (.int .i64))) n ∧ K n = some r := by unfold kLN at h; split at h <;> first | (cases h; done) | exact ⟨_, rfl, h⟩
def bAN {α : Type} (e : TypeId) (l : List (Option Blk)) (K : List (Rc × List Int) → List (Option Blk) → Option α) : Option α := match l with | some (.arr e' (.pair (.pair (.int .i64) (.pair (.int .i64) (.pair (.int .i64) (.int .i64)))) (.sl (.int .i64))) x) :: r => (match Nat.beq e' e with | true => K x r | false => none) | _ => none
theorem bAN_s {α : Type} {r : α} {e : TypeId} {l : List (Option Blk)} {K} (h : bAN e l K = some r) : ∃ (x : List (Rc × List Int)) (t : List (Option Blk)), l = some (.arr e (.pair (.pair (.int .i64) (.pair (.int .i64) (.pair (.int .i64) (.int .i64)))) (.sl (.int .i64))) x) :: t ∧ K x t = some r := by
  unfold bAN at h; split at h
  · rename_i e' x r'; cases hn : Nat.beq e' e with
    | true => rw [hn] at h; exact ⟨x, r', by rw [Nat.eq_of_beq_eq_true hn], h⟩
    | false => rw [hn] at h; cases h
  · cases h
def anErr (a b c d n k : Int) (l : List Int) : Int := if !plV a b c d l then 1 else if !inr 1 3 k then 3 else if !inr 0 5 n then 2 else if !fitB 1048576 l then 2 else 0
def anF (a b c d n k : Int) (l : List Int) : List (Rc × List Int) := if anErr a b c d n k l = 0 then (List.range (3 * n + 1).toNat).map (anAt n k ((a, b, c, d), l)) else []
def c_pyr_Analyze_0 (a b c d n kk : Int) (l : List Int) (v : List (Rc × List Int)) : LT := .leaf (.exit 0) [.one (.row 0), .one (.ptr 1 0)] [some (.arr 33 (.pair (.pair (.int .i64) (.pair (.int .i64) (.pair (.int .i64) (.int .i64)))) (.sl (.int .i64))) (anL n kk ((a, b, c, d), l) n.toNat)), some (.box [.int .i64 ((anS kk n.toNat ((a, b, c, d), l)).1.1), .int .i64 ((anS kk n.toNat ((a, b, c, d), l)).1.2.1), .int .i64 ((anS kk n.toNat ((a, b, c, d), l)).1.2.2.1), .int .i64 ((anS kk n.toNat ((a, b, c, d), l)).1.2.2.2), .row 2]), some (.arr 3 (.int .i64) (anS kk n.toNat ((a, b, c, d), l)).2)]
def k_pyr_Analyze_0 (a b c d n kk : Int) (l : List Int) (v : List (Rc × List Int)) : Bool := inr 0 5 n && plV a b c d l && inr 1 3 kk && fitB 1048576 l && decide (v = List.replicate (3 * n + 1).toNat ((0, 0, 0, 0), []))
def D_pyr_Analyze_0 {α : Type} (vs : List V) (bl : List (Option Blk)) (K : Int → Int → Int → Int → Int → Int → (List Int) → (List (Rc × List Int)) → Option α) : Option α := pI vs fun kk vs => pO vs fun c' vs => kR 0 c' <| pP 1 0 vs fun vs => pI vs fun n vs => pE vs <| bAN 33 bl fun v bl => bB bl fun q' bl => rd1P 2 q' fun a b c d => bAI 3 bl fun l bl => bE bl <| K a b c d n kk l v
def S_pyr_Analyze_0 : ST := fun vs bl => D_pyr_Analyze_0 vs bl fun a b c d n kk l v => some (k_pyr_Analyze_0 a b c d n kk l v, c_pyr_Analyze_0 a b c d n kk l v)
def H_pyr_Analyze (a b c d n k : Int) (l : List Int) : Option (Bool × Out) := some (small l.length, ⟨.tup [(false, [.row 0]), (false, [.int .i64 (anErr a b c d n k l)])], [], [.arr 33 (.pair (.pair (.int .i64) (.pair (.int .i64) (.pair (.int .i64) (.int .i64)))) (.sl (.int .i64))) (anF a b c d n k l)]⟩)
def G_pyr_Analyze : Summ := fun args lent => pA args fun q' args => t4 q' fun a b c d q' => tC q' fun c' q' => kLI c' fun l => tE q' <| pI args fun n args => pI args fun k args => pE args <| nE lent <| H_pyr_Analyze a b c d n k l
def samePl (a b c d : Int) (l : List Int) (a1 b1 c1 d1 : Int) (m : List Int) : Bool := isR a b c d (a1, b1, c1, d1) && decide (l = m)
def p_law_same_0 (a b c d a1 b1 c1 d1 : Int) (l m : List Int) : Bool := (List.range l.length).all (fun j => gI l j == gI m j)
def c_law_same_0 (a b c d a1 b1 c1 d1 : Int) (l m : List Int) : LT := .br (p_law_same_0 a b c d a1 b1 c1 d1 l m) (.leaf (.exit 0) [] []) (.leaf .ret [.one (.bool false)] [])
def k_law_same_0 (a b c d a1 b1 c1 d1 : Int) (l m : List Int) (n i : Int) : Bool := decide (i = 0) && decide (n = (l.length : Int)) && small (l.length) && decide (l.length = m.length)
def D_law_same_0 {α : Type} (vs : List V) (bl : List (Option Blk)) (K : Int → Int → Int → Int → Int → Int → Int → Int → (List Int) → (List Int) → Int → Int → Option α) : Option α := pP 0 0 vs fun vs => pP 1 0 vs fun vs => pI vs fun n vs => pI vs fun i vs => pE vs <| bB bl fun q' bl => t4 q' fun a b c d q' => tC q' fun c' q' => kLI c' fun l => tE q' <| bB bl fun q' bl => t4 q' fun a1 b1 c1 d1 q' => tC q' fun c' q' => kLI c' fun m => tE q' <| bE bl <| K a b c d a1 b1 c1 d1 l m n i
def S_law_same_0 : ST := fun vs bl => D_law_same_0 vs bl fun a b c d a1 b1 c1 d1 l m n i => some (k_law_same_0 a b c d a1 b1 c1 d1 l m n i, c_law_same_0 a b c d a1 b1 c1 d1 l m)
def H_law_same (a b c d a1 b1 c1 d1 : Int) (l m : List Int) : Option (Bool × Out) := some (small l.length, ⟨.one (.bool (samePl a b c d l a1 b1 c1 d1 m)), [], []⟩)
def G_law_same : Summ := fun args lent => pA args fun q' args => t4 q' fun a b c d q' => tC q' fun c' q' => kLI c' fun l => tE q' <| pA args fun q' args => t4 q' fun a1 b1 c1 d1 q' => tC q' fun c' q' => kLI c' fun m => tE q' <| pE args <| nE lent <| H_law_same a b c d a1 b1 c1 d1 l m
def gN (l : List (Rc × List Int)) (i : Nat) : Rc × List Int := l.getD i ((0, 0, 0, 0), [])
def smAll (l : List (Rc × List Int)) : Bool := l.all (fun q => small q.2.length)
def H_awake  : Option (Bool × Out) := some (true, ⟨.one (.bool true), [], []⟩)
def G_awake : Summ := fun args lent => pE args <| nE lent <| H_awake 


def syBnd (a b c d n r : Int) (v : List (Rc × List Int)) : Bool := (List.range (3 * r + 1).toNat).all fun i => plVR (gN v i) && isR (gN v i).1.1 (gN v i).1.2.1 (gN v i).1.2.2.1 (gN v i).1.2.2.2 (bandR a b c d n i)
def syFit (r : Int) (v : List (Rc × List Int)) : Bool := (List.range (3 * r + 1).toNat).all fun i => fitB 4294967296 (gN v i).2
def syErr (a b c d n r k : Int) (v : List (Rc × List Int)) : Int := if !valid a b c d || !inr 0 5 n || !inr 0 n r || decide (area (resR a b c d n r).1 (resR a b c d n r).2.1 (resR a b c d n r).2.2.1 (resR a b c d n r).2.2.2 > 1048576) then 2 else if !inr 1 3 k then 3 else if !decide ((v.length : Int) = count n) then 4 else if !syBnd a b c d n r v then 1 else if !syFit r v then 2 else 0
def syS (a b c d n k : Int) (v : List (Rc × List Int)) : Nat → Rc × List Int
  | 0 => gN v 0
  | j + 1 => (resR a b c d n (j + 1), mgL 0 (resR a b c d n (j + 1)).1 (resR a b c d n (j + 1)).2.1 (resR a b c d n (j + 1)).2.2.1 (resR a b c d n (j + 1)).2.2.2 k (syS a b c d n k v j).2 (gN v (3 * j + 1)).2 (gN v (3 * j + 2)).2 (gN v (3 * j + 3)).2)
def syR (a b c d n r k : Int) (v : List (Rc × List Int)) : Rc := if syErr a b c d n r k v = 0 then (syS a b c d n k v r.toNat).1 else (0, 0, 0, 0)
def syL (a b c d n r k : Int) (v : List (Rc × List Int)) : List Int := if syErr a b c d n r k v = 0 then (syS a b c d n k v r.toNat).2 else []
def syE (a b c d n k q : Int) (o : Rc) (u : List Int) (v : List (Rc × List Int)) : Int := mgErr o.1 o.2.1 o.2.2.1 o.2.2.2 (gN v (3 * q - 2).toNat).1.1 (gN v (3 * q - 2).toNat).1.2.1 (gN v (3 * q - 2).toNat).1.2.2.1 (gN v (3 * q - 2).toNat).1.2.2.2 (gN v (3 * q - 1).toNat).1.1 (gN v (3 * q - 1).toNat).1.2.1 (gN v (3 * q - 1).toNat).1.2.2.1 (gN v (3 * q - 1).toNat).1.2.2.2 (gN v (3 * q).toNat).1.1 (gN v (3 * q).toNat).1.2.1 (gN v (3 * q).toNat).1.2.2.1 (gN v (3 * q).toNat).1.2.2.2 (resR a b c d n q).1 (resR a b c d n q).2.1 (resR a b c d n q).2.2.1 (resR a b c d n q).2.2.2 k u (gN v (3 * q - 2).toNat).2 (gN v (3 * q - 1).toNat).2 (gN v (3 * q).toNat).2
def syNR (e a b c d n q : Int) : Rc := mgR e (resR a b c d n q).1 (resR a b c d n q).2.1 (resR a b c d n q).2.2.1 (resR a b c d n q).2.2.2
def syNL (e a b c d n k q : Int) (u : List Int) (v : List (Rc × List Int)) : List Int := mgL e (resR a b c d n q).1 (resR a b c d n q).2.1 (resR a b c d n q).2.2.1 (resR a b c d n q).2.2.2 k u (gN v (3 * q - 2).toNat).2 (gN v (3 * q - 1).toNat).2 (gN v (3 * q).toNat).2
def H_sy_step (a b c d n k q o0 o1 o2 o3 : Int) (u : List Int) (v : List (Rc × List Int)) : Option (Bool × Out) := some ((inr 1 5 q && decide (3 * q < (v.length : Int)) && smAll v && small u.length), ⟨.one (.int .i64 (syE a b c d n k q (o0, o1, o2, o3) u v)), [some (.box [.int .i64 ((syNR (syE a b c d n k q (o0, o1, o2, o3) u v) a b c d n q).1), .int .i64 ((syNR (syE a b c d n k q (o0, o1, o2, o3) u v) a b c d n q).2.1), .int .i64 ((syNR (syE a b c d n k q (o0, o1, o2, o3) u v) a b c d n q).2.2.1), .int .i64 ((syNR (syE a b c d n k q (o0, o1, o2, o3) u v) a b c d n q).2.2.2), .row 6]), some (.box [.lst (.pair (.pair (.int .i64) (.pair (.int .i64) (.pair (.int .i64) (.int .i64)))) (.sl (.int .i64))) v]), some (.box [.int .i64 a, .int .i64 b, .int .i64 c, .int .i64 d]), some (.box [.int .i64 n]), some (.box [.int .i64 k]), some (.arr 3 (.int .i64) u)], [.arr 3 (.int .i64) (syNL (syE a b c d n k q (o0, o1, o2, o3) u v) a b c d n k q u v)]⟩)
def G_sy_step : Summ := fun args lent => pI args fun q args => pP 0 0 args fun args => pP 1 0 args fun args => pP 2 0 args fun args => pP 3 0 args fun args => pP 4 0 args fun args => pE args <| nB lent fun q' lent => rd1P 5 q' fun o0 o1 o2 o3 => nB lent fun q' lent => tC q' fun c' q' => kLN c' fun v => tE q' <| nB lent fun q' lent => t4 q' fun a b c d q' => tE q' <| nB lent fun q' lent => tI q' fun n q' => tE q' <| nB lent fun q' lent => tI q' fun k q' => tE q' <| nAI 3 lent fun u lent => nE lent <| H_sy_step a b c d n k q o0 o1 o2 o3 u v
def c_pyr_Synth_0 (a b c d n kk z0 z1 z2 z3 m i : Int) (v : List (Rc × List Int)) (y0 : List Int) : LT := .br (syBnd a b c d n m v) (.leaf (.exit 0) [.one (.int .i64 m), .one (.ptr 0 0), .one (.ptr 1 0), .one (.ptr 2 0), .one (.ptr 3 0), .one (.ptr 4 0)] [some (.box [.lst (.pair (.pair (.int .i64) (.pair (.int .i64) (.pair (.int .i64) (.int .i64)))) (.sl (.int .i64))) v]), some (.box [.int .i64 a, .int .i64 b, .int .i64 c, .int .i64 d]), some (.box [.int .i64 n]), some (.box [.int .i64 kk]), some (.box [.int .i64 z0, .int .i64 z1, .int .i64 z2, .int .i64 z3, .row 5]), some (.arr 3 (.int .i64) y0)]) (.leaf .ret [.one (.ptr 0 0), .one (.int .i64 1)] [some (.box [.int .i64 0, .int .i64 0, .int .i64 0, .int .i64 0, .row 1]), some (.arr 3 (.int .i64) [])])
def k_pyr_Synth_0 (a b c d n kk z0 z1 z2 z3 m i : Int) (v : List (Rc × List Int)) (y0 : List Int) : Bool := decide (i = 0) && inr 0 5 m && decide (3 * m < (v.length : Int))
def D_pyr_Synth_0 {α : Type} (vs : List V) (bl : List (Option Blk)) (K : Int → Int → Int → Int → Int → Int → Int → Int → Int → Int → Int → Int → (List (Rc × List Int)) → (List Int) → Option α) : Option α := pI vs fun m vs => pP 0 0 vs fun vs => pP 1 0 vs fun vs => pP 2 0 vs fun vs => pP 3 0 vs fun vs => pP 4 0 vs fun vs => pI vs fun i vs => pE vs <| bB bl fun q' bl => tC q' fun c' q' => kLN c' fun v => tE q' <| bB bl fun q' bl => t4 q' fun a b c d q' => tE q' <| bB bl fun q' bl => tI q' fun n q' => tE q' <| bB bl fun q' bl => tI q' fun kk q' => tE q' <| bB bl fun q' bl => rd1P 5 q' fun z0 z1 z2 z3 => bAI 3 bl fun y0 bl => bE bl <| K a b c d n kk z0 z1 z2 z3 m i v y0
def S_pyr_Synth_0 : ST := fun vs bl => D_pyr_Synth_0 vs bl fun a b c d n kk z0 z1 z2 z3 m i v y0 => some (k_pyr_Synth_0 a b c d n kk z0 z1 z2 z3 m i v y0, c_pyr_Synth_0 a b c d n kk z0 z1 z2 z3 m i v y0)
def c_pyr_Synth_1 (a b c d n kk z0 z1 z2 z3 m i : Int) (v : List (Rc × List Int)) (y0 : List Int) : LT := .br (syFit m v) (.leaf (.exit 2) [.one (.int .i64 m), .one (.ptr 0 0), .one (.ptr 1 0), .one (.ptr 2 0), .one (.ptr 3 0), .one (.ptr 4 0)] [some (.box [.lst (.pair (.pair (.int .i64) (.pair (.int .i64) (.pair (.int .i64) (.int .i64)))) (.sl (.int .i64))) v]), some (.box [.int .i64 a, .int .i64 b, .int .i64 c, .int .i64 d]), some (.box [.int .i64 n]), some (.box [.int .i64 kk]), some (.box [.int .i64 z0, .int .i64 z1, .int .i64 z2, .int .i64 z3, .row 5]), some (.arr 3 (.int .i64) y0)]) (.leaf .ret [.one (.ptr 0 0), .one (.int .i64 2)] [some (.box [.int .i64 0, .int .i64 0, .int .i64 0, .int .i64 0, .row 1]), some (.arr 3 (.int .i64) [])])
def k_pyr_Synth_1 (a b c d n kk z0 z1 z2 z3 m i : Int) (v : List (Rc × List Int)) (y0 : List Int) : Bool := decide (i = 0) && inr 0 5 m && decide (3 * m < (v.length : Int)) && smAll v
def D_pyr_Synth_1 {α : Type} (vs : List V) (bl : List (Option Blk)) (K : Int → Int → Int → Int → Int → Int → Int → Int → Int → Int → Int → Int → (List (Rc × List Int)) → (List Int) → Option α) : Option α := pI vs fun m vs => pP 0 0 vs fun vs => pP 1 0 vs fun vs => pP 2 0 vs fun vs => pP 3 0 vs fun vs => pP 4 0 vs fun vs => pI vs fun i vs => pE vs <| bB bl fun q' bl => tC q' fun c' q' => kLN c' fun v => tE q' <| bB bl fun q' bl => t4 q' fun a b c d q' => tE q' <| bB bl fun q' bl => tI q' fun n q' => tE q' <| bB bl fun q' bl => tI q' fun kk q' => tE q' <| bB bl fun q' bl => rd1P 5 q' fun z0 z1 z2 z3 => bAI 3 bl fun y0 bl => bE bl <| K a b c d n kk z0 z1 z2 z3 m i v y0
def S_pyr_Synth_1 : ST := fun vs bl => D_pyr_Synth_1 vs bl fun a b c d n kk z0 z1 z2 z3 m i v y0 => some (k_pyr_Synth_1 a b c d n kk z0 z1 z2 z3 m i v y0, c_pyr_Synth_1 a b c d n kk z0 z1 z2 z3 m i v y0)
def c_pyr_Synth_2 (a b c d n kk m o0 o1 o2 o3 z0 z1 z2 z3 q : Int) (v : List (Rc × List Int)) (y0 u : List Int) : LT := .leaf (.exit 4) [.one (.ptr 0 0), .one (.ptr 1 0)] [some (.box [.int .i64 z0, .int .i64 z1, .int .i64 z2, .int .i64 z3, .row 2]), some (.box [.int .i64 ((syS a b c d n kk v m.toNat).1.1), .int .i64 ((syS a b c d n kk v m.toNat).1.2.1), .int .i64 ((syS a b c d n kk v m.toNat).1.2.2.1), .int .i64 ((syS a b c d n kk v m.toNat).1.2.2.2), .row 3]), some (.arr 3 (.int .i64) y0), some (.arr 3 (.int .i64) (syS a b c d n kk v m.toNat).2)]
def k_pyr_Synth_2 (a b c d n kk m o0 o1 o2 o3 z0 z1 z2 z3 q : Int) (v : List (Rc × List Int)) (y0 u : List Int) : Bool := decide (q = 1) && smAll v && decide (syErr a b c d n m kk v = 0) && decide ((o0, o1, o2, o3) = (gN v 0).1) && decide (u = (gN v 0).2)
def D_pyr_Synth_2 {α : Type} (vs : List V) (bl : List (Option Blk)) (K : Int → Int → Int → Int → Int → Int → Int → Int → Int → Int → Int → Int → Int → Int → Int → Int → (List (Rc × List Int)) → (List Int) → (List Int) → Option α) : Option α := pI vs fun m vs => pP 0 0 vs fun vs => pP 1 0 vs fun vs => pO vs fun c' vs => kF 61 [1, 2, 3, 4, 5] c' <| pI vs fun q vs => pE vs <| bB bl fun q' bl => rd1P 6 q' fun z0 z1 z2 z3 => bB bl fun q' bl => rd1P 7 q' fun o0 o1 o2 o3 => bB bl fun q' bl => tC q' fun c' q' => kLN c' fun v => tE q' <| bB bl fun q' bl => t4 q' fun a b c d q' => tE q' <| bB bl fun q' bl => tI q' fun n q' => tE q' <| bB bl fun q' bl => tI q' fun kk q' => tE q' <| bAI 3 bl fun y0 bl => bAI 3 bl fun u bl => bE bl <| K a b c d n kk m o0 o1 o2 o3 z0 z1 z2 z3 q v y0 u
def S_pyr_Synth_2 : ST := fun vs bl => D_pyr_Synth_2 vs bl fun a b c d n kk m o0 o1 o2 o3 z0 z1 z2 z3 q v y0 u => some (k_pyr_Synth_2 a b c d n kk m o0 o1 o2 o3 z0 z1 z2 z3 q v y0 u, c_pyr_Synth_2 a b c d n kk m o0 o1 o2 o3 z0 z1 z2 z3 q v y0 u)
def H_pyr_Synth (a b c d n r k : Int) (v : List (Rc × List Int)) : Option (Bool × Out) := some (smAll v, ⟨.tup [(true, [.int .i64 ((syR a b c d n r k v).1), .int .i64 ((syR a b c d n r k v).2.1), .int .i64 ((syR a b c d n r k v).2.2.1), .int .i64 ((syR a b c d n r k v).2.2.2), .row 0]), (false, [.int .i64 (syErr a b c d n r k v)])], [], [.arr 3 (.int .i64) (syL a b c d n r k v)]⟩)
def G_pyr_Synth : Summ := fun args lent => pO args fun c' args => kLN c' fun v => pA args fun q' args => t4 q' fun a b c d q' => tE q' <| pI args fun n args => pI args fun r args => pI args fun k args => pE args <| nE lent <| H_pyr_Synth a b c d n r k v
def fewB (l : List (Rc × List Int)) : Bool := ((List.range (min l.length 20)).all fun i => decide ((gN l i).2.length ≤ 4000)) && decide (l.length ≤ 20)
def c_law_few_0 (i : Int) (l : List (Rc × List Int)) : LT := .br ((List.range (min l.length 20)).all (fun i => decide ((gN l i).2.length ≤ 4000))) (.leaf (.exit 0) [.one (.lst (.pair (.pair (.int .i64) (.pair (.int .i64) (.pair (.int .i64) (.int .i64)))) (.sl (.int .i64))) l)] []) (.leaf .ret [.one (.bool false)] [])
def k_law_few_0 (i : Int) (l : List (Rc × List Int)) : Bool := decide (i = 0)
def D_law_few_0 {α : Type} (vs : List V) (bl : List (Option Blk)) (K : Int → (List (Rc × List Int)) → Option α) : Option α := pO vs fun c' vs => kLN c' fun l => pI vs fun i vs => pE vs <| bE bl <| K i l
def S_law_few_0 : ST := fun vs bl => D_law_few_0 vs bl fun i l => some (k_law_few_0 i l, c_law_few_0 i l)
def H_law_few (l : List (Rc × List Int)) : Option (Bool × Out) := some (true, ⟨.one (.bool (fewB l)), [], []⟩)
def G_law_few : Summ := fun args lent => pO args fun c' args => kLN c' fun l => pE args <| nE lent <| H_law_few l
def ixR (r : Rc) (x y : Int) : Nat := (y - r.2.1).toNat * (r.2.2.1 - r.1).toNat + (x - r.1).toNat
def inK (r : Rc) (x y : Int) : Prop := r.1 ≤ x ∧ x < r.2.2.1 ∧ r.2.1 ≤ y ∧ y < r.2.2.2
def Agr (r : Rc) (l l' : List Int) (K : Rc) : Prop := ∀ x y : Int, inK r x y → inK K x y → gI l (ixR r x y) = gI l' (ixR r x y)
def has (a b c d x y : Int) : Bool := decide (a ≤ x) && decide (x < c) && decide (b ≤ y) && decide (y < d)
def H_rect_Has (a b c d x y : Int) : Option (Bool × Out) := some (true, ⟨.one (.bool (has a b c d x y)), [], []⟩)
def G_rect_Has : Summ := fun args lent => pA args fun q' args => t4 q' fun a b c d q' => tE q' <| pA args fun q' args => tI q' fun x q' => tI q' fun y q' => tE q' <| pE args <| nE lent <| H_rect_Has a b c d x y
def rpW (a c : Int) : Int := IntKind.wrap .i64 (c - a)
def rpH (a b c e f g h i : Int) : Bool := decide (rpW a c > 0) && !has e f g h (IntKind.wrap .i64 (a + Int.tmod i (rpW a c))) (IntKind.wrap .i64 (b + IntKind.wrap .i64 (Int.tdiv i (rpW a c))))
def rpF (a b c : Int) (l : List Int) (e f g h s : Int) (i : Nat) : Int := if rpH a b c e f g h i then Int.tmod ((i : Int) * i + s) 1000 - 500 else gI l i
def rpL (a b c : Int) (l : List Int) (e f g h s : Int) : List Int := (List.range l.length).map (rpF a b c l e f g h s)
def rpT (a b c : Int) (l : List Int) (e f g h s : Int) (j : Nat) : List Int := (List.range l.length).map fun i => if i < j then rpF a b c l e f g h s i else 0
def cpR (e f g : Int) (l : List Int) (x0 x1 x2 : Int) (y : Nat) : List Int := (l.drop (((y : Int) + x1 - f) * (g - e) + x0 - e).toNat).take (x2 - x0).toNat
def cpL (e f g : Int) (l : List Int) (x0 x1 x2 x3 : Int) : List Int := catR (cpR e f g l x0 x1 x2) (x3 - x1).toNat
def cpT (e f g : Int) (l : List Int) (x0 x1 x2 : Int) (u : List Int) (j : Nat) : List Int := catR (cpR e f g l x0 x1 x2) j ++ u.drop (j * (x2 - x0).toNat)
def c_pl_part_0 (a0 a1 a2 a3 e f g h x0 x1 x2 x3 y : Int) (u l : List Int) : LT := .leaf (.exit 0) [] [some (.arr 3 (.int .i64) (cpL e f g l x0 x1 x2 x3))]
def k_pl_part_0 (a0 a1 a2 a3 e f g h x0 x1 x2 x3 y : Int) (u l : List Int) : Bool := decide (y = x1) && (decide ((a0, a1, a2, a3) = (x0, x1, x2, x3)) && plV e f g h l && valid x0 x1 x2 x3 && decide (e ≤ x0) && decide (x2 ≤ g) && decide (f ≤ x1) && decide (x3 ≤ h) && decide (u.length = (x3 - x1).toNat * (x2 - x0).toNat))
def D_pl_part_0 {α : Type} (vs : List V) (bl : List (Option Blk)) (K : Int → Int → Int → Int → Int → Int → Int → Int → Int → Int → Int → Int → Int → (List Int) → (List Int) → Option α) : Option α := pP 1 0 vs fun vs => pP 2 0 vs fun vs => pP 3 0 vs fun vs => pI vs fun y vs => pE vs <| bAI 3 bl fun u bl => bB bl fun q' bl => rd1P 0 q' fun a0 a1 a2 a3 => bB bl fun q' bl => t4 q' fun e f g h q' => tC q' fun c' q' => kLI c' fun l => tE q' <| bB bl fun q' bl => t4 q' fun x0 x1 x2 x3 q' => tE q' <| bE bl <| K a0 a1 a2 a3 e f g h x0 x1 x2 x3 y u l
def S_pl_part_0 : ST := fun vs bl => D_pl_part_0 vs bl fun a0 a1 a2 a3 e f g h x0 x1 x2 x3 y u l => some (k_pl_part_0 a0 a1 a2 a3 e f g h x0 x1 x2 x3 y u l, c_pl_part_0 a0 a1 a2 a3 e f g h x0 x1 x2 x3 y u l)
def H_pl_part (a0 a1 a2 a3 e f g h x0 x1 x2 x3 : Int) (u l : List Int) : Option (Bool × Out) := some ((decide ((a0, a1, a2, a3) = (x0, x1, x2, x3)) && plV e f g h l && valid x0 x1 x2 x3 && decide (e ≤ x0) && decide (x2 ≤ g) && decide (f ≤ x1) && decide (x3 ≤ h) && decide (u.length = (x3 - x1).toNat * (x2 - x0).toNat)), ⟨.tup [], [some (.arr 3 (.int .i64) (cpL e f g l x0 x1 x2 x3))], []⟩)
def G_pl_part : Summ := fun args lent => lendG args <| pA args fun q' args => rd1P 0 q' fun a0 a1 a2 a3 => pA args fun q' args => t4 q' fun e f g h q' => tC q' fun c' q' => kLI c' fun l => tE q' <| pA args fun q' args => t4 q' fun x0 x1 x2 x3 q' => tE q' <| pE args <| nAI 3 lent fun u lent => nE lent <| H_pl_part a0 a1 a2 a3 e f g h x0 x1 x2 x3 u l
def c_law_replaced_0 (a b c d e f g h s t n i z0 z1 z2 z3 o0 o1 o2 o3 : Int) (l y0 v : List Int) : LT := .leaf (.exit 0) [.one (.ptr 0 0), .one (.ptr 1 0)] [some (.box [.int .i64 z0, .int .i64 z1, .int .i64 z2, .int .i64 z3, .row 2]), some (.box [.int .i64 o0, .int .i64 o1, .int .i64 o2, .int .i64 o3, .row 3]), some (.arr 3 (.int .i64) y0), some (.arr 3 (.int .i64) (rpL a b c l e f g h s))]
def k_law_replaced_0 (a b c d e f g h s t n i z0 z1 z2 z3 o0 o1 o2 o3 : Int) (l y0 v : List Int) : Bool := decide (i = 0) && decide (n = (l.length : Int)) && decide (t = rpW a c) && decide (v = List.replicate l.length 0) && decide (l.length ≤ 16777216) && inr 0 100 s
def D_law_replaced_0 {α : Type} (vs : List V) (bl : List (Option Blk)) (K : Int → Int → Int → Int → Int → Int → Int → Int → Int → Int → Int → Int → Int → Int → Int → Int → Int → Int → Int → Int → (List Int) → (List Int) → (List Int) → Option α) : Option α := pI vs fun s vs => pP 0 0 vs fun vs => pP 1 0 vs fun vs => pP 2 0 vs fun vs => pP 3 0 vs fun vs => pI vs fun t vs => pI vs fun n vs => pI vs fun i vs => pE vs <| bB bl fun q' bl => t4 q' fun a b c d q' => tC q' fun c' q' => kLI c' fun l => tE q' <| bB bl fun q' bl => t4 q' fun e f g h q' => tE q' <| bB bl fun q' bl => rd1P 4 q' fun z0 z1 z2 z3 => bB bl fun q' bl => rd1P 5 q' fun o0 o1 o2 o3 => bAI 3 bl fun y0 bl => bAI 3 bl fun v bl => bE bl <| K a b c d e f g h s t n i z0 z1 z2 z3 o0 o1 o2 o3 l y0 v
def S_law_replaced_0 : ST := fun vs bl => D_law_replaced_0 vs bl fun a b c d e f g h s t n i z0 z1 z2 z3 o0 o1 o2 o3 l y0 v => some (k_law_replaced_0 a b c d e f g h s t n i z0 z1 z2 z3 o0 o1 o2 o3 l y0 v, c_law_replaced_0 a b c d e f g h s t n i z0 z1 z2 z3 o0 o1 o2 o3 l y0 v)
def H_law_replaced (a b c d e f g h s : Int) (l : List Int) : Option (Bool × Out) := some ((decide (l.length ≤ 16777216) && inr 0 100 s), ⟨.agg [.int .i64 a, .int .i64 b, .int .i64 c, .int .i64 d, .row 0], [], [.arr 3 (.int .i64) (rpL a b c l e f g h s)]⟩)
def G_law_replaced : Summ := fun args lent => pA args fun q' args => t4 q' fun a b c d q' => tC q' fun c' q' => kLI c' fun l => tE q' <| pA args fun q' args => t4 q' fun e f g h q' => tE q' <| pI args fun s args => pE args <| nE lent <| H_law_replaced a b c d e f g h s l
def crL (e f g : Int) (l : List Int) (x0 x1 x2 x3 : Int) : List Int := if empty x0 x1 x2 x3 then List.replicate (area x0 x1 x2 x3).toNat 0 else cpL e f g l x0 x1 x2 x3
def otF (v : List (Rc × List Int)) (u : List Rc) (i : Nat) : Rc × List Int := ((gN v i).1, rpL (gN v i).1.1 (gN v i).1.2.1 (gN v i).1.2.2.1 (gN v i).2 (gR u i).1 (gR u i).2.1 (gR u i).2.2.1 (gR u i).2.2.2 i)
def otT (v : List (Rc × List Int)) (u : List Rc) (j : Nat) : List (Rc × List Int) := (List.range v.length).map fun i => if i < j then otF v u i else ((0, 0, 0, 0), [])
def otL (v : List (Rc × List Int)) (u : List Rc) : List (Rc × List Int) := (List.range v.length).map (otF v u)
def H_pl_Crop (e f g h x0 x1 x2 x3 : Int) (l : List Int) : Option (Bool × Out) := some ((plV e f g h l && valid x0 x1 x2 x3 && contains e f g h x0 x1 x2 x3), ⟨.tup [(true, [.int .i64 x0, .int .i64 x1, .int .i64 x2, .int .i64 x3, .row 0]), (false, [.int .i64 0])], [], [.arr 3 (.int .i64) (crL e f g l x0 x1 x2 x3)]⟩)
def G_pl_Crop : Summ := fun args lent => pA args fun q' args => t4 q' fun e f g h q' => tC q' fun c' q' => kLI c' fun l => tE q' <| pA args fun q' args => t4 q' fun x0 x1 x2 x3 q' => tE q' <| pE args <| nE lent <| H_pl_Crop e f g h x0 x1 x2 x3 l
def ok_PyramidWindows (v : List (Rc × List Int)) (a b c d e f g h n r k : Int) : Bool := true
def c_PyramidWindows_0 (v w : List (Rc × List Int)) (a b c d e f g h n r k p0 p1 p2 p3 m i : Int) (u : List (Int × Int × Int × Int)) (y0 : List Int) : LT := .leaf (.exit 0) [.one (.ptr 0 0), .one (.ptr 1 0), .one (.ptr 2 0), .one (.ptr 3 0), .one (.row 4)] [some (.box [.lst (.pair (.pair (.int .i64) (.pair (.int .i64) (.pair (.int .i64) (.int .i64)))) (.sl (.int .i64))) v, .int .i64 a, .int .i64 b, .int .i64 c, .int .i64 d]), some (.box [.int .i64 e, .int .i64 f, .int .i64 g, .int .i64 h]), some (.box [.int .i64 n, .int .i64 r, .int .i64 k]), some (.box [.int .i64 p0, .int .i64 p1, .int .i64 p2, .int .i64 p3, .row 5]), some (.arr 33 (.pair (.pair (.int .i64) (.pair (.int .i64) (.pair (.int .i64) (.int .i64)))) (.sl (.int .i64))) (otL v u)), some (.arr 3 (.int .i64) y0)]
def k_PyramidWindows_0 (v w : List (Rc × List Int)) (a b c d e f g h n r k p0 p1 p2 p3 m i : Int) (u : List (Int × Int × Int × Int)) (y0 : List Int) : Bool := decide (i = 0) && decide (m = (v.length : Int)) && decide (u.length = v.length) && decide (w = List.replicate v.length ((0, 0, 0, 0), [])) && fewB v
def D_PyramidWindows_0 {α : Type} (vs : List V) (bl : List (Option Blk)) (K : (List (Rc × List Int)) → (List (Rc × List Int)) → Int → Int → Int → Int → Int → Int → Int → Int → Int → Int → Int → Int → Int → Int → Int → Int → Int → (List (Int × Int × Int × Int)) → (List Int) → Option α) : Option α := pP 0 0 vs fun vs => pP 1 0 vs fun vs => pP 2 0 vs fun vs => pP 3 0 vs fun vs => pO vs fun c' vs => kR 4 c' <| pO vs fun c' vs => kR 5 c' <| pI vs fun m vs => pI vs fun i vs => pE vs <| bB bl fun q' bl => tC q' fun c' q' => kLN c' fun v => t4 q' fun a b c d q' => tE q' <| bB bl fun q' bl => t4 q' fun e f g h q' => tE q' <| bB bl fun q' bl => tI q' fun n q' => tI q' fun r q' => tI q' fun k q' => tE q' <| bB bl fun q' bl => rd1P 6 q' fun p0 p1 p2 p3 => bAR 31 bl fun u bl => bAN 33 bl fun w bl => bAI 3 bl fun y0 bl => bE bl <| K v w a b c d e f g h n r k p0 p1 p2 p3 m i u y0
def S_PyramidWindows_0 : ST := fun vs bl => D_PyramidWindows_0 vs bl fun v w a b c d e f g h n r k p0 p1 p2 p3 m i u y0 => some (k_PyramidWindows_0 v w a b c d e f g h n r k p0 p1 p2 p3 m i u y0, c_PyramidWindows_0 v w a b c d e f g h n r k p0 p1 p2 p3 m i u y0)
def H_PyramidWindows (v : List (Rc × List Int)) (a b c d e f g h n r k : Int) : Option (Bool × Out) := some (ok_PyramidWindows v a b c d e f g h n r k, ⟨.one (.bool true), [], []⟩)
def G_PyramidWindows : Summ := fun args lent => pA args fun q' args => tC q' fun c' q' => kLN c' fun v => t4 q' fun a b c d q' => tE q' <| pA args fun q' args => t4 q' fun e f g h q' => tE q' <| pA args fun q' args => tI q' fun n q' => tI q' fun r q' => tI q' fun k q' => tE q' <| pE args <| nE lent <| H_PyramidWindows v a b c d e f g h n r k
end Go.Rx.Ch06
