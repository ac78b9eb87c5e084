/- Words of our own: what a law's argument reads as. Each kind's reading (DataW.trod) gives a plain value that the print's kinds read (Kd.K), with its numbers in range and its lists no longer than a slice may be. -/
import Derived.Deep.Slices
import Derived.OpenShut
import Derived.Test.YtkpehgakdooodaaWWords
set_option linter.unusedVariables false
namespace Go.Proofs.YtkpehgakdooodaaW.PrintWords
open Go.RowKit Go.ChangeShapes Go.WideShapes
/-- Cells that are read as a datum of type t are a value of this kind. -/
def Opens {H α : Type} (enc : TypeId × Value → H) (P : Program) (w : World) (d : Kd α) (t : TypeId) (Wf : α → Prop) : Prop :=
  ∀ (base fuel : Nat) (spare : Nat → Bool) (held : Bool) (cs : List Value) (x : DataW H × List MemPlace), DataW.trod enc P w base spare held fuel t cs = some x → ∃ a : α, d.K w a cs ∧ Wf a
section
variable {H : Type} {enc : TypeId × Value → H} {P : Program} {w : World}
theorem opens_int {k : IntKind} {t : TypeId} (ht : P.underlying t = some (.int k)) : Opens enc P w (Kd.int k) t (fun a => (Lit.int k a).wf = true) := by
  intro base fuel spare held cs x h
  obtain ⟨n, hc, _, hw⟩ := DataW.trod_int ht h
  exact ⟨n, hc, hw⟩
theorem opens_bool {t : TypeId} (ht : P.underlying t = some .bool) : Opens enc P w Kd.bool t (fun _ => True) := by
  intro base fuel spare held cs x h
  obtain ⟨b, hc, _⟩ := DataW.trod_bool ht h
  exact ⟨b, hc, trivial⟩
theorem opens_str {t : TypeId} (ht : P.underlying t = some .string) : Opens enc P w Kd.string t (fun s => s.size ≤ maxLen) := by
  intro base fuel spare held cs x h
  obtain ⟨s, hc, _, hs⟩ := DataW.trod_string ht h
  exact ⟨s, hc, hs⟩
theorem opens_mono {α : Type} {d : Kd α} {t : TypeId} {F G : α → Prop} (h : Opens enc P w d t F) (hFG : ∀ a, F a → G a) : Opens enc P w d t G := by
  intro base fuel spare held cs x hx
  obtain ⟨a, h1, h2⟩ := h _ _ _ _ _ _ hx
  exact ⟨a, h1, hFG a h2⟩
theorem opens_slice {α : Type} {d : Kd α} {t e : TypeId} {Wf : α → Prop} (ht : P.underlying t = some (.slice e)) (hc : P.cellsOf e = d.sz) (he : Opens enc P w d e Wf) :
    Opens enc P w (Kd.slice e d) t (fun l => l.length ≤ maxLen ∧ ∀ x ∈ l, Wf x) := by
  intro base fuel spare held cs x h
  rcases Go.Deep.open_slice ht h with ⟨rfl, _⟩ | ⟨a, len, cap, m, n, D, Pl, rfl, hb, hl, hm, hmm, hx, hi⟩
  · exact ⟨[], ⟨none, 0, rfl, Nat.le_refl _, Kd.C_nil _ _⟩, by simp, by simp⟩
  · have hlm : len ≤ m := by rw [hmm]; split <;> omega
    have each : ∀ i : Fin len, ∃ y : α, (∃ cs', w.cells? base (a.add (i.1 * P.cellsOf e)) (P.cellsOf e) = some cs' ∧ d.K w y cs') ∧ Wf y := by
      intro i
      obtain ⟨cs', h1, h2⟩ := hi i.1 (by omega)
      obtain ⟨y, h3, h4⟩ := he _ _ _ _ _ _ h2
      exact ⟨y, ⟨cs', h1, h3⟩, h4⟩
    have hlen : (List.ofFn fun i : Fin len => (each i).choose).length = len := by simp
    refine ⟨List.ofFn fun i : Fin len => (each i).choose, ⟨some a, cap, by rw [hlen], by rw [hlen]; exact hl, ?_⟩, ?_, ?_⟩
    · refine ⟨rfl, ?_, fun _ => ⟨a, rfl, fun j p hj => ?_⟩⟩
      · rw [hlen]; have : len ≤ maxLen := Nat.le_trans hl hm; simpa [maxLen] using this
      · obtain ⟨hjl, hp⟩ := List.getElem?_eq_some_iff.1 hj
        rw [hlen] at hjl
        have hp' : (each ⟨j, hjl⟩).choose = p := by simpa using hp
        obtain ⟨⟨cs', h1, h2⟩, _⟩ := (each ⟨j, hjl⟩).choose_spec
        obtain ⟨_, hcl, hat⟩ := World.cells?_some h1
        subst hp'
        refine ⟨cs', by rw [hcl, hc], h2, fun i u hu => ?_⟩
        have hil : i < cs'.length := (List.getElem?_eq_some_iff.1 hu).1
        rw [← hu, ← hat i (by omega), hc, Go.Deep.add_add]
    · rw [hlen]; exact Nat.le_trans hl hm
    · intro y hy
      obtain ⟨i, hi'⟩ := List.mem_ofFn.1 hy
      rw [← hi']
      exact (each i).choose_spec.2
/-- A struct's fields side by side. -/
theorem pair_at {α β : Type} {a : Kd α} {b : Kd β} {x : α} {y : β} {cs : List Value} (o s : Nat) (h0 : a.K w x ((cs.drop o).take s)) (h1 : b.K w y (cs.drop (o + s))) : (Kd.pair a b).K w (x, y) (cs.drop o) :=
  ⟨(cs.drop o).take s, cs.drop (o + s), by rw [← List.drop_drop, List.take_append_drop], h0, h1⟩
theorem last_at {α : Type} {a : Kd α} {x : α} {cs : List Value} (o s : Nat) (h : a.K w x ((cs.drop o).take s)) (hl : cs.length = o + s) : a.K w x (cs.drop o) := by
  rwa [List.take_of_length_le (by rw [List.length_drop]; omega)] at h
/-- One field of a struct, opened. -/
theorem field_at {α : Type} {d : Kd α} {fs : Array Field} {cs : List Value} {ys : List (DataW H × List MemPlace)} {n base : Nat} {spare : Nat → Bool} {held : Bool} {Wf : α → Prop}
    (hyl : ys.length = fs.size) (hf : ∀ (i : Nat) (f : Field), fs[i]? = some f → DataW.trod enc P w base spare held n f.type ((cs.drop f.offset).take (P.cellsOf f.type)) = ys[i]?)
    (i : Nat) (f : Field) (hi : fs[i]? = some f) (s : Nat) (hs : P.cellsOf f.type = s) (ho : Opens enc P w d f.type Wf) : ∃ a : α, d.K w a ((cs.drop f.offset).take s) ∧ Wf a := by
  have h1 := hf i f hi
  have hlt : i < ys.length := by rw [hyl]; exact (Array.getElem?_eq_some_iff.1 hi).1
  rw [List.getElem?_eq_getElem hlt, hs] at h1
  exact ho _ _ _ _ _ _ h1
end
end Go.Proofs.YtkpehgakdooodaaW.PrintWords
