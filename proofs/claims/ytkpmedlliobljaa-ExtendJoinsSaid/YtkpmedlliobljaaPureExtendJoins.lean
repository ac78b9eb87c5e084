/- The law ExtendJoins over plain lists: Join and its reference return the same list and the same error, and the chapter's examples hold. No condition beyond the law's own. -/
import Derived.Test.YtkpmedlliobljaaE03
import Derived.Test.YtkpmedlliobljaaPAx5
namespace Go.Proofs.Ytkpmedlliobljaa.Pure
open Go.RowKit Go.Proofs.Ytkpmedlliobljaa.PA Go.Proofs.YtkpmedlliobljaaW.PrintWords Go.Proofs.YtkpmedlliobljaaW.PrintLast Go.Proofs.Ytkpmedlliobljaa.Ar Go.Proofs.Ytkpmedlliobljaa.E03
theorem ExtendJoins : waveletlaw03_ExtendJoins.Pure := by
  intro e o s _ _ _ _ _ _ _
  refine ⟨e.length + o.length + 5040 + 1, ?_⟩
  have hx : waveletlaw03_ExtendJoins.j0 (e.length + o.length + 5040 + 1) e o s true = some true := by
    rw [waveletlaw03_ExtendJoins.j0, if_pos rfl, example_holds _ (by omega)]; rfl
  unfold waveletlaw03_ExtendJoins.f
  by_cases h : (e.length : Int) > 5000
  · rw [if_pos h, hx]
  · rw [if_neg h]
    by_cases h1 : (o.length : Int) > 5000
    · rw [decide_eq_true h1, hx]
    · rw [decide_eq_false h1, waveletlaw03_ExtendJoins.j0, if_neg (by decide), Join_eq _ _ _ _ (by omega) (by omega), refJoin_eq _ _ _ _ (by omega)]
      simp only [Option.bind_some]
      have hl : (jn e o s).1.length ≤ e.length + o.length := by
        unfold jn
        split
        · split <;> simp [ilv_length]
        · simp
      rw [SameInts_eq _ _ _ (by omega) (by omega), example_holds _ (by omega)]
      simp
end Go.Proofs.Ytkpmedlliobljaa.Pure
