/- The law ExtendReturns over plain lists: Join of what Split returns is the signal, and the chapter's examples hold. No condition beyond the law's own. -/
import Derived.Test.YtkpmedlliobljaaE03
import Derived.Test.YtkpmedlliobljaaPAx7
namespace Go.Proofs.Ytkpmedlliobljaa.Pure
open Go.RowKit Go.Proofs.Ytkpmedlliobljaa.PA Go.Proofs.YtkpmedlliobljaaW.PrintWords Go.Proofs.YtkpmedlliobljaaW.PrintLast Go.Proofs.Ytkpmedlliobljaa.Ar Go.Proofs.Ytkpmedlliobljaa.E03
theorem ExtendReturns : waveletlaw03_ExtendReturns.Pure := by
  intro xs s _ _ _ _
  refine ⟨xs.length + 5040 + 1, ?_⟩
  have hx : waveletlaw03_ExtendReturns.j0 (xs.length + 5040 + 1) xs s true = some true := by
    rw [waveletlaw03_ExtendReturns.j0, if_pos rfl, example_holds _ (by omega)]; rfl
  unfold waveletlaw03_ExtendReturns.f
  by_cases h : (xs.length : Int) > 4096
  · rw [if_pos h, hx]
  · rw [if_neg h]
    by_cases h1 : s < 0
    · rw [if_pos h1, hx]
    · rw [if_neg h1]
      by_cases h2 : s > 4096
      · rw [decide_eq_true h2, hx]
      · rw [decide_eq_false h2, waveletlaw03_ExtendReturns.j0, if_neg (by decide)]
        have hs : spl xs s = (evs s xs, ods s xs, 0) := if_pos ⟨by omega, by omega, by omega⟩
        have h3 := evs_length xs s
        have h4 := ods_length xs s
        have h5 := cev_bd (s := s) (n := xs.length) (by omega)
        have h6 : (evs s xs).length + (ods s xs).length = xs.length := by omega
        have h7 : ((evs s xs).length : Int) + ((ods s xs).length : Int) = (xs.length : Int) := by omega
        have hj : jn (evs s xs) (ods s xs) s = (xs, 0) := by
          unfold jn
          rw [if_pos ⟨by omega, by omega, by omega⟩, h7, if_pos h3, h6, ilv_split]
        simp only [Option.bind_some, List.length_nil, List.nil_append]
        rw [if_pos (by omega), Split_eq _ _ _ (by omega), hs]
        simp only [Option.bind_some, if_true]
        rw [Join_eq _ _ _ _ (by omega) (by omega), hj]
        simp only [Option.bind_some, if_true]
        rw [SameInts_eq _ _ _ (by omega) (by omega), example_holds _ (by omega)]
        simp
end Go.Proofs.Ytkpmedlliobljaa.Pure
