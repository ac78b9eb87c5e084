/- Each operation does in Go what the executor does to plain data. -/
import Derived.Test.YtcdmkbpmgeeghaaRxA
import Derived.Laws.StructEq
set_option linter.unnecessarySimpa false
set_option linter.unusedVariables false
set_option linter.unusedSimpArgs false
set_option linter.unusedVariables false
set_option linter.unusedSimpArgs false
namespace Go.Rx
variable {P : Program} {X : Nat → Prop} {w0 : World} {L : Nat → Prop} {w w' : World} {B B' : Bs} {E E' : En}
theorem RSl.free {α : Type} {M : Nat → Prop} {R : α → List Value → Prop} {l : List α} {v : Value} (h : RSl w M R l v) : RSl w (fun _ => False) R l v := by
  obtain ⟨a, c, xs, hv, hlc, hc, hx⟩ := h
  refine ⟨a, c, xs, hv, hlc, hc, ?_⟩
  rcases hx with h | ⟨b, o, h1, _, h2⟩
  · exact .inl h
  · exact .inr ⟨b, o, h1, fun h => h, h2⟩
theorem own_free {α : Type} {R : α → List Value → Prop} {base : Nat} {e : TypeId} {n : Nat} {v : Value} {l : List α} {xs : List Value} (h : w.ownsRow base e n v l.length xs) (hc : Chunks R l xs) : RSl w (fun _ => False) R l v := by
  rcases own_block h with ⟨rfl, hm, hx⟩ | ⟨g, c, rfl, hmc, _, _, hcell⟩
  · exact ⟨none, 0, xs, by rw [hm], by omega, hc, .inl hx⟩
  · exact ⟨_, c, xs, rfl, hmc, hc, .inr ⟨g, 0, rfl, fun h => h, fun j u hu => by simpa using hcell j u hu⟩⟩

theorem rdl_ok (hw : WR X w0 L w B E) {s : Sh} {c : C} {l : List s.T} (h : rdl B s c = some l) {v : Value} (hc : RC X w B E c v) : RSl w (fun _ => False) (RT w (MX X B E) s) l v := by
  have frow : ∀ {i : Nat} {e : TypeId} {s' : Sh} {l' : List s'.T} {v : Value}, (B i = some (.arr e s' l') ∨ B i = some (.frz e s' l')) → RC X w B E (.row i) v → RSl w (fun _ => False) (RT w (MX X B E) s') l' v ∧ E i = some v := by
    intro i e s' l' v hb hc
    obtain ⟨v0, h0, _, hk⟩ := hc
    rcases hb with hb | hb
    · obtain ⟨v1, xs, h2, ho, hc⟩ := hw.blk i _ hb
      rw [h0] at h2; cases h2
      have := hk _ hb; subst this
      exact ⟨own_free ho hc, h0⟩
    · obtain ⟨v1, h2, hr, _⟩ := hw.blk i _ hb
      rw [h0] at h2; cases h2
      have := hk _ hb; subst this
      exact ⟨hr.free, h0⟩
  have srow : ∀ {i off len : Nat} {e : TypeId} {s' : Sh} {l' : List s'.T} {v : Value}, (B i = some (.arr e s' l') ∨ B i = some (.frz e s' l')) → RC X w B E (.sub i off len) v →
      RSl w (fun _ => False) (RT w (MX X B E) s') ((l'.drop off).take len) v := by
    intro i off len e s' l' v hb hc
    obtain ⟨v0, h0, _, hk⟩ := hc
    have hs : ∃ k, B i = some k ∧ k.shp = some (s', l'.length) := by rcases hb with hb | hb <;> exact ⟨_, hb, rfl⟩
    obtain ⟨k, hk1, hk2⟩ := hs
    obtain ⟨hle, hss⟩ := hk k s' l'.length hk1 hk2
    rcases hss with ⟨rfl, a, c, rfl⟩ | ⟨b, m, c, c', rfl, rfl, hlc⟩
    · simp; exact RSl.nilv _ _
    · have := (frow hb ⟨_, h0, rfl, fun _ _ => rfl⟩).1
      have := this.part (RT.len s') hle hlc; rwa [Nat.zero_add] at this
  unfold rdl at h
  split at h
  · obtain ⟨e, rfl⟩ := castL_ok h; subst e; exact RSl.free hc
  · split at h
    · rename_i hb; obtain ⟨e, rfl⟩ := castL_ok h; subst e; exact (frow (.inl hb) hc).1
    · rename_i hb; obtain ⟨e, rfl⟩ := castL_ok h; subst e; exact (frow (.inr hb) hc).1
    · cases h
  · split at h
    · rename_i hb; obtain ⟨e, rfl⟩ := castL_ok h; subst e; exact srow (.inl hb) hc
    · rename_i hb; obtain ⟨e, rfl⟩ := castL_ok h; subst e; exact srow (.inr hb) hc
    · cases h
  · cases h; have hv : v = .slice none 0 0 := hc; subst hv; exact RSl.nilv _ _
  · cases h

theorem RT.one {M : Nat → Prop} : ∀ (s : Sh) (x : s.T) (vs : List Value), RT w M s x vs → ∀ v ∈ vs, v.oneCell' = true
  | .int k, _, _, h => by have h' : _ = _ := h; subst h'; simp [Value.oneCell']
  | .bool, _, _, h => by have h' : _ = _ := h; subst h'; simp [Value.oneCell']
  | .str, _, _, h => by have h' : _ = _ := h; subst h'; simp [Value.oneCell']
  | .sl s, _, _, ⟨v, hv, a, c, xs, he, _⟩ => by subst hv; subst he; simp [Value.oneCell']
  | .pair a b, _, _, ⟨u, r, he, h1, h2⟩ => by
    subst he
    intro v hv
    rcases List.mem_append.1 hv with h | h
    · exact RT.one a _ _ h1 v h
    · exact RT.one b _ _ h2 v h
theorem Chunks.one {α : Type} {R : α → List Value → Prop} (h : ∀ x vs, R x vs → ∀ v ∈ vs, v.oneCell' = true) : ∀ (l : List α) (vs : List Value), Chunks R l vs → ∀ v ∈ vs, v.oneCell' = true
  | [], _, hc => by have h' : _ = _ := hc; subst h'; simp
  | _ :: l, _, ⟨u, r, he, hx, hr⟩ => by
    subst he
    intro v hv
    rcases List.mem_append.1 hv with h1 | h1
    · exact h _ _ hx v h1
    · exact Chunks.one h l r hr v h1

theorem elemOf_ok {t : TypeId} {el : El} (h : elemOf P t = some el) : P.underlying t = some (.slice el.e) ∧ ∃ i zv, P.info? el.e = some i ∧ i.zero = some zv ∧ i.size = el.s.sz ∧ i.bytes = el.bytes ∧ zv.cells.size = el.s.sz ∧
    ∀ {X : Nat → Prop} {w0 : World} {L : Nat → Prop} {w : World} {B : Bs} {E : En}, WR X w0 L w B E → RT w (MX X B E) el.s el.z zv.cells.toList := by
  unfold elemOf at h
  split at h
  · rename_i e hu
    split at h
    · rename_i s i hs hi
      split at h
      · rename_i z h1 h2
        split at h
        · rename_i cs h3 h4
          split at h
          · rename_i x h5
            cases h
            refine ⟨hu, i, z, hi, h2, beq_of h1, rfl, beq_of h3, fun {X w0 L w B E} hw => ?_⟩
            obtain ⟨us, rs, he, hx, hr, _⟩ := toT_frz (B := fun _ => none) hw s cs h5 (constCs_ok h4) (fun _ _ e s l h => by rcases h with h | h <;> cases h)
            have : rs = [] := by cases rs with | nil => rfl | cons _ _ => exact hr.elim
            subst this
            rw [he, List.append_nil]; exact hx
          · cases h
        · cases h
      · cases h
    · cases h
  · cases h

theorem ob_own (a : Option Addr) (n c : Nat) : (Value.slice a n c).ownBlock = ob (.slice a n c) := by cases a <;> rfl

theorem regrow (hw : WR X w0 L w B E) {id nid : Nat} {e : TypeId} {s : Sh} {l l' : List s.T} {v v' : Value} {xs : List Value} (hk : B id = some (.arr e s l)) (hv : E id = some v) (hE : E nid = none)
    (hg : w.grownBy w' (ob v)) (ho : w'.ownsRow 0 e s.sz v' l'.length xs) (hc : Chunks (RT w (MX X B E) s) l' xs) (hb : ob v' = ob v ∨ ob v' = none ∨ (ob v' = some w.heap.size)) :
    On X w B E w' (upd (upd B id none) nid (some (.arr e s l'))) (setE E nid v') ∧ WR X w0 L w' (upd (upd B id none) nid (some (.arr e s l'))) (setE E nid v') := by
  have hne : id ≠ nid := fun h => by subst h; rw [hv] at hE; cases hE
  have hB' : ∀ i k, upd (upd B id none) nid (some (.arr e s l')) i = some k → i ≠ nid → i ≠ id ∧ B i = some k := by
    intro i k h hi
    rw [upd_ne _ _ hi] at h
    by_cases h2 : i = id
    · subst h2; rw [upd_same] at h; cases h
    · rw [upd_ne _ _ h2] at h; exact ⟨h2, h⟩
  have hlt : ∀ b, ob v' = some b → b < w'.heap.size := by
    intro b hb'
    rcases own_block ho with ⟨rfl, _, _⟩ | ⟨g, c, rfl, _, h1, h2, _⟩
    · cases hb'
    · rw [h1] at hb'; cases hb'; exact h2
  refine turn hw ⟨hg.os, hg.tape, hg.output⟩ (setE_ext v' hE) ?_ hg.size ?_ ?_ ?_ ?_
  · intro i k' h
    by_cases hi : i = nid
    · subst hi; exact .inl hE
    · obtain ⟨_, h2⟩ := hB' i k' h hi
      exact .inr ⟨k', h2, rfl, fun x => x⟩
  · intro b hb' hn
    refine hg.block b hb' (fun h => hn ⟨id, _, v, hk, rfl, hv, h.symm⟩)
  · intro i k' u b h0 h1 hm hu hob
    by_cases hi : i = nid
    · subst hi
      rw [setE_same] at hu; cases hu
      refine ⟨hlt b hob, ?_⟩
      rcases hb with h | h | h
      · refine .inr ⟨⟨id, _, v, hk, rfl, hv, by rw [← h]; exact hob⟩, fun id0 k0 v0 h3 h4 h5 h6 => ?_⟩
        by_cases hi0 : id0 = i
        · subst hi0; rw [hE] at h5; cases h5
        · obtain ⟨h7, h8⟩ := hB' id0 k0 h3 hi0
          exact h7 (hw.inj id0 id k0 _ v0 v b h8 hk h4 rfl h5 hv h6 (by rw [← h]; exact hob))
      · rw [h] at hob; cases hob
      · rw [h] at hob; cases hob; exact .inl (Nat.le_refl _)
    · rw [setE_ne _ _ hi, h0] at hu; cases hu
  · intro i i' k k' u u' b h0 h0' _ _ _ _ hu hu' _ _
    by_cases hi : i = nid
    · by_cases hi' : i' = nid
      · rw [hi, hi']
      · rw [setE_ne _ _ hi', h0'] at hu'; cases hu'
    · rw [setE_ne _ _ hi, h0] at hu; cases hu
  · intro hon i k' h
    by_cases hi : i = nid
    · subst hi; rw [upd_same] at h; cases h
      exact ⟨v', xs, setE_same _ _ _, ho, hc.mono (RT.mono hon.stay s)⟩
    · obtain ⟨h1, h2⟩ := hB' i k' h hi
      refine (hw.blk i k' h2).on hon (fun hm u b hu hb' => hg.block b (hw.own b ⟨i, k', u, h2, hm, hu, hb'⟩).1 (fun h3 => h1 (hw.inj i id k' _ u v b h2 hk hm rfl hu hv hb' h3.symm)))

theorem run_append_zero {t ty e : TypeId} {i : TypeInfo} (ht : P.underlying t = some (.slice e)) (hi : P.info? e = some i) (base : Option Addr) (n cap : Nat) (a : Option Addr) (c : Nat) (h : n ≤ cap) :
    (Builtin.append_ #[t, t] ty #[.slice base n cap, .slice a 0 c]).run P w = .ok (.slice base n cap) w := by
  cases a <;> cases base <;> simp [Builtin.append_, run_underlying ht, sizeOf, typeInfo, hi, Builtin.lenOf, h, Builtin.firstCells, loadCells, loadCellsFrom, storeCells]

theorem run_append_all (t ty e : TypeId) (i : TypeInfo) (z : Value) (ht : P.underlying t = some (.slice e)) (hi : P.info? e = some i) (hz : i.zero = some z) (hzs : z.cells.size = i.size) (hsz : 0 < i.size)
    {v : Value} {n : Nat} {xs : List Value} (hown : w.ownsRow 0 e i.size v n xs) {a : Option Addr} {m c : Nat} {news : List Value} (hl : news.length = m * i.size)
    (hsrc : news = [] ∨ ∃ b o, a = some ⟨b, o, none⟩ ∧ ∀ j u, news[j]? = some u → w.cell? ⟨b, o + j, none⟩ = some u) (h1 : ∀ u ∈ news, u.oneCell' = true) (hb : (n + m) * (i.bytes + 1) ≤ 140737488355328) :
    ∃ v' w', (Builtin.append_ #[t, t] ty #[v, .slice a m c]).run P w = .ok v' w' ∧ w'.ownsRow 0 e i.size v' (n + m) (xs ++ news) ∧ w.grownBy w' (ob v) ∧ (ob v' = ob v ∨ ob v' = none ∨ ob v' = some w.heap.size) := by
  have hb1 : (n + m) * i.bytes ≤ 140737488355328 := Nat.le_trans (Nat.mul_le_mul_left _ (Nat.le_succ _)) hb
  have hb2 : n + m ≤ 140737488355328 := Nat.le_trans (Nat.le_mul_of_pos_right _ (Nat.succ_pos _)) hb
  have hvs : ∃ base cap, v = .slice base n cap ∧ n ≤ cap := by
    rcases hown.2 with ⟨rfl, rfl⟩ | ⟨g, cap, cur, rfl, _, _, h, _⟩
    · exact ⟨none, 0, rfl, Nat.le_refl _⟩
    · exact ⟨_, cap, rfl, h⟩
  by_cases hm : m = 0
  · subst hm
    have : news = [] := List.eq_nil_of_length_eq_zero (by simpa using hl)
    subst this
    obtain ⟨base, cap, rfl, hc⟩ := hvs
    refine ⟨_, w, run_append_zero ht hi base n cap a c hc, by simpa using hown, ⟨rfl, rfl, rfl, Nat.le_refl _, fun _ _ _ => rfl⟩, .inl rfl⟩
  · rcases hsrc with rfl | ⟨b, o, rfl, hcell⟩
    · have h2 : 0 < m * i.size := Nat.mul_pos (by omega) hsz
      have h3 : 0 = m * i.size := hl
      omega
    · have hnews : ∀ j u, news[j]? = some u → w.cell? ((⟨b, o, none⟩ : Addr).add j) = some u := fun j u hu => by rw [addr_add]; exact hcell j u hu
      obtain ⟨v', w', hr, ho, hg, _⟩ := run_append_own (P := P) w 0 t ty e i z i.size i.bytes ht hi hz rfl rfl hzs hsz v n xs hown ⟨b, o, none⟩ m c news hl hnews h1 (by unfold maxLen; omega) hb1 (Nat.zero_le _)
      have hob : v.ownBlock = ob v := by obtain ⟨base, cap, rfl, _⟩ := hvs; exact ob_own _ _ _
      rw [hob] at hg
      refine ⟨v', w', hr, ho, hg, ?_⟩
      rcases hown.2 with ⟨rfl, rfl⟩ | ⟨g, cap, cur, rfl, _, hgg, hnc, hcm, hcs, htake⟩
      · have := run_append_nil (P := P) w t ty e i z ht hi hz ⟨b, o, none⟩ m c news hl hnews (by omega) (by omega) (by simp at hb1; omega)
        rw [this] at hr; cases hr; exact .inr (.inr rfl)
      · by_cases hroom : n + m ≤ cap
        · have hfit : n * i.size + news.length ≤ cur.size := by rw [hl, hcs, ← Nat.add_mul]; exact Nat.mul_le_mul_right _ hroom
          have := run_append_room (P := P) w t ty e i ht hi g n cap cur hgg ⟨b, o, none⟩ m c news hl hnews h1 hroom hfit
          rw [this] at hr; cases hr; exact .inl rfl
        · have holds : ∀ j u, xs[j]? = some u → w.cell? ((⟨g, 0, none⟩ : Addr).add j) = some u := hown.cells (g := g) rfl
          have := run_append_grow (P := P) w t ty e i z ht hi hz ⟨g, 0, none⟩ n cap xs hown.1 holds ⟨b, o, none⟩ m c news hl hnews (by omega) (by omega) (growslice_fits (by omega) hb1)
          rw [this] at hr; cases hr; exact .inr (.inr rfl)

theorem new_id {base : Nat} {E : En} {v : Value} : ∀ id, E id = none → setE E base v id ≠ none → base ≤ id ∧ id < base + 16 := by
  intro id h0 h1
  by_cases he : id = base
  · subst he; omega
  · rw [setE_ne _ _ he] at h1; exact (h1 h0).elim

theorem appendC_ok (hw : WR X w0 L w B E) {base : Nat} (hn : ∀ j, base ≤ j → j < base + 16 → E j = none) {t ty : TypeId} {x y : C} {u v : Value} (hx : RC X w B E x u) (hy : RC X w B E y v) {e : Eff} (h : appendC P B base t x y = some (true, e)) :
    ∃ r w', (Builtin.append_ #[t, t] ty #[u, v]).run P w = .ok r w' ∧ Done X w0 L w B E base e.up e.v w' r := by
  unfold appendC at h
  split at h
  · cases h
  · rename_i el ety s bytes z0 hel
    split at h
    · cases h
    · rename_i ys hys
      obtain ⟨hu, i, zv, hi, hz, hsz, hby, hzs, _⟩ := elemOf_ok hel
      simp only at hsz hby hzs hu hi
      obtain ⟨a, c, news, rfl, _, hnc, hnsrc⟩ := rdl_ok hw hys hy
      have hnl := Chunks.len (RT.len s) _ _ hnc
      have hn1 := Chunks.one (RT.one s) _ _ hnc
      have hE0 := hn base (Nat.le_refl _) (by omega)
      split at h
      · rename_i id
        split at h
        · rename_i e' s' l' hb
          split at h
          · rename_i l h1 h2
            have := beq_of h1; subst this
            obtain ⟨es, rfl⟩ := castL_ok h2
            subst es
            simp only [Option.some.injEq, Prod.mk.injEq, decide_eq_true_eq] at h
            obtain ⟨hlim, rfl⟩ := h
            obtain ⟨v0, h0, _, hk⟩ := hx
            have := hk _ hb; subst this
            obtain ⟨v1, xs, he, ho, hc⟩ := hw.blk id _ hb
            rw [h0] at he; cases he
            obtain ⟨v', w', hr, ho', hg, hob⟩ := run_append_all (w := w) t ty e' i zv hu hi hz (by rw [hzs, hsz]) (by rw [hsz]; exact Sh.sz_pos _) (by rw [hsz]; exact ho) (a := a) (c := c) (by rw [hsz]; exact hnl)
              (by rcases hnsrc with h | ⟨b, o, h1, _, h2⟩; exact .inl h; exact .inr ⟨b, o, h1, h2⟩) hn1 (by rw [hby]; exact hlim)
            rw [hsz] at ho'
            obtain ⟨o1, w1⟩ := regrow (nid := base) (l' := l' ++ ys) hw hb h0 hE0 hg (by simpa using ho') (hc.append _ _ _ _ hnc) hob
            exact ⟨v', w', hr, _, o1, w1, row_here (X := X) (w := w') (setE_same _ _ _) (by rcases own_block ho' with ⟨rfl, _⟩ | ⟨_, _, rfl, _⟩ <;> rfl), new_id⟩
          · cases h
        · cases h
      · simp only [Option.some.injEq, Prod.mk.injEq, decide_eq_true_eq] at h
        obtain ⟨hlim, rfl⟩ := h
        have hx' : u = .slice none 0 0 := hx
        subst hx'
        obtain ⟨v', w', hr, ho', hg, hob⟩ := run_append_all (w := w) t ty ety i zv hu hi hz (by rw [hzs, hsz]) (by rw [hsz]; exact Sh.sz_pos _) (World.ownsRow_nil w 0 ety i.size) (a := a) (c := c) (by rw [hsz]; exact hnl)
          (by rcases hnsrc with h | ⟨b, o, h1, _, h2⟩; exact .inl h; exact .inr ⟨b, o, h1, h2⟩) hn1 (by rw [hby, Nat.zero_add]; exact hlim)
        rw [hsz] at ho'
        simp only [Nat.zero_add, List.nil_append] at ho'
        obtain ⟨o1, w1⟩ := add1 (w' := w') (k := .arr ety s ys) (v := v') hw ⟨hg.os, hg.tape, hg.output⟩ hE0 hg.size (fun b hb => hg.block b hb (by simp [ob])) (fun b hb => by
            rcases hob with h | h | h
            · rw [h] at hb; cases hb
            · rw [h] at hb; cases hb
            · rw [h] at hb; cases hb
              rcases own_block ho' with ⟨rfl, _⟩ | ⟨g, c, rfl, _, h1, h2, _⟩
              · cases h
              · rw [h1] at h; cases h; exact ⟨Nat.le_refl _, h2⟩)
          (fun hon => ⟨v', news, setE_same _ _ _, ho', hnc.mono (RT.mono hon.stay s)⟩)
        exact ⟨v', w', hr, _, o1, w1, row_here (X := X) (w := w') (setE_same _ _ _) (by rcases own_block ho' with ⟨rfl, _⟩ | ⟨_, _, rfl, _⟩ <;> rfl), new_id⟩
      · cases h

theorem range_rep (z : Array Value) : ∀ n, ((List.range (n * z.size)).map fun i => z[i % z.size]!) = (List.replicate n z.toList).flatten
  | 0 => by simp
  | n + 1 => by
    rw [Nat.succ_mul, List.range_add, List.map_append, range_rep z n, List.replicate_succ', List.flatten_append]
    congr 1
    rw [List.map_map]
    simp only [List.flatten_cons, List.flatten_nil, List.append_nil]
    apply List.ext_getElem
    · simp
    · intro i h1 h2
      simp at h1
      have hm : (n * z.size + i) % z.size = i := by rw [Nat.mul_comm, Nat.mul_add_mod, Nat.mod_eq_of_lt h1]
      simp [hm, h1]
theorem made_list (z : Array Value) (n : Nat) : (madeCells z (n * z.size)).toList = (List.replicate n z.toList).flatten := by
  rw [← range_rep]; simp [madeCells]
theorem Chunks.rep {α : Type} {R : α → List Value → Prop} {x : α} {vs : List Value} (h : R x vs) : ∀ n, Chunks R (List.replicate n x) (List.replicate n vs).flatten
  | 0 => rfl
  | n + 1 => ⟨vs, _, by simp [List.replicate_succ], h, Chunks.rep h n⟩
theorem rep_take (vs : List Value) (k : Nat) (hk : vs.length = k) : ∀ n m, n ≤ m → ((List.replicate m vs).flatten).take (n * k) = (List.replicate n vs).flatten
  | 0, m, _ => by simp
  | n + 1, 0, h => by omega
  | n + 1, m + 1, h => by
    simp only [List.replicate_succ, List.flatten_cons]
    rw [Nat.succ_mul, Nat.add_comm, ← hk, List.take_length_add_append, hk, rep_take vs k hk n m (by omega)]

theorem makeC_ok (hw : WR X w0 L w B E) {base : Nat} (hn : ∀ j, base ≤ j → j < base + 16 → E j = none) {t : TypeId} {kn kc : IntKind} {n c : Int} {e : Eff} (h : makeC P base t n c = some (true, e)) :
    ∃ r w', (Instr.makeSlice t (.int kn n) (.int kc c)).run P w = .ok r w' ∧ Done X w0 L w B E base e.up e.v w' r := by
  unfold makeC at h
  split at h
  · cases h
  · rename_i el ety s bytes z0 hel
    simp only [Option.some.injEq, Prod.mk.injEq, decide_eq_true_eq] at h
    obtain ⟨⟨h0, hnc, hlim⟩, rfl⟩ := h
    obtain ⟨hu, i, zv, hi, hz, hsz, hby, hzs, hz0⟩ := elemOf_ok hel
    simp only at hsz hby hzs hu hi hz0
    have hE0 := hn base (Nat.le_refl _) (by omega)
    have hc0 : 0 ≤ c := by omega
    have hcb : c * (bytes + 1) = c * bytes + c := by rw [Int.mul_add]; simp
    have hcb0 : 0 ≤ c * (bytes : Int) := Int.mul_nonneg hc0 (by omega)
    have hlim' : c * (bytes : Int) + c ≤ 140737488355328 := by rw [← hcb]; exact hlim
    have hr := run_make (P := P) w t ety i zv hu hi hz kn kc n c h0 hnc (by rw [hby, Int.mul_comm]; omega) (by omega)
    have hcell : (madeCells zv.cells (c.toNat * i.size)).toList = (List.replicate c.toNat zv.cells.toList).flatten := by rw [hsz, ← hzs]; exact made_list _ _
    obtain ⟨o1, w1⟩ := add1 (w' := w.alloc (.cells (madeCells zv.cells (c.toNat * i.size)) ety)) (k := .arr ety s (List.replicate n.toNat z0)) (v := .slice (some ⟨w.heap.size, 0, none⟩) n.toNat c.toNat) hw ⟨rfl, rfl, rfl⟩ hE0 (by simp) (fun b hb => heap_alloc_old w _ b hb) (fun b hb => by simp [ob] at hb; subst hb; simp)
      (fun hon => by
        refine ⟨_, (List.replicate n.toNat zv.cells.toList).flatten, setE_same _ _ _, ⟨?_, .inr ⟨w.heap.size, c.toNat, _, by simp, Nat.zero_le _, heap_alloc_new w _, by simp; omega, by unfold maxLen; omega, ?_, ?_⟩⟩, ?_⟩
        · simp [List.length_flatten, hzs]
        · rw [size_madeCells, hsz]
        · rw [hcell]; simp only [List.length_replicate]; exact rep_take _ s.sz (by simp [hzs]) _ _ (by omega)
        · exact Chunks.rep ((hz0 hw).mono hon.stay) _)
    exact ⟨_, _, hr, _, o1, w1, row_here (X := X) (w := w) (setE_same _ _ _) rfl, new_id⟩

theorem F2.flat {R : C → Value → Prop} {cs : List C} {vs : List Value} (h : F2 R cs vs) : ∀ n, F2 R (List.replicate n cs).flatten (List.replicate n vs).flatten
  | 0 => by simp [F2]
  | n + 1 => by simp only [List.replicate_succ, List.flatten_cons]; exact h.append (F2.flat h n)

theorem run_buildSlice {P : Program} {w : World} {t e : TypeId} {i : TypeInfo} {zv : Value} {us : List (Nat × Value)} {vs' : Array Value} {len : Nat} (hu : P.underlying t = some (.slice e)) (hi : P.info? e = some i) (hz : i.zero = some zv)
   (hgt : len * i.size ≤ 16777216) (hfill : Instr.fill (fun x => some (x * i.size, i.size)) ((Array.range (len * i.size)).map (zv.cells[· % zv.cells.size]!)) us = some vs') :
   (Instr.buildSlice t len us.toArray).run P w = .ok (.slice (some ⟨w.heap.size, 0, none⟩) len len) (w.alloc (.cells vs' e)) := by
  have hs : (sizeOf e).run P w = .ok i.size w := by simp [sizeOf, typeInfo, hi]
  have hzr : (zeroValue e).run P w = .ok zv w := by simp [zeroValue, typeInfo, hi, hz]
  have hgt' : ¬ (len * i.size > 2 ^ 24) := by omega
  unfold Instr.buildSlice
  rw [Sem.run_bind, run_underlying hu, Result.andThen_ok]
  dsimp only
  rw [Sem.run_bind, hs, Result.andThen_ok]
  rw [if_neg hgt']
  by_cases h0 : len * i.size = 0
  · rw [if_pos h0]
    rw [h0] at hfill
    have hfill2 : Instr.fill (fun x => some (x * i.size, i.size)) (Array.map (fun x => (#[] : Array Value)[x % (#[] : Array Value).size]!) (Array.range 0)) us = some vs' := by
      have : (Array.map (fun x => (#[] : Array Value)[x % (#[] : Array Value).size]!) (Array.range 0)) = (Array.range 0).map (zv.cells[· % zv.cells.size]!) := by simp [Array.range]
      rw [this]; exact hfill
    rw [Sem.run_bind, Sem.run_pure, Result.andThen_ok]
    rw [h0, hfill2]
    simp [newRow]
  · rw [if_neg h0]
    rw [Sem.run_bind, hzr, Result.andThen_ok, Sem.run_bind, Sem.run_pure, Result.andThen_ok]
    rw [hfill]
    simp [newRow]

theorem buildSliceC_ok (hw : WR X w0 L w B E) {base : Nat} (hn : ∀ j, base ≤ j → j < base + 16 → E j = none) {t : TypeId} {len : Nat} {ps : List (Nat × V)} {us : List (Nat × Value)} (hp : F2 (fun p q => p.1 = q.1 ∧ RV X w B E p.2 q.2) ps us)
    {e : Eff} (h : buildSliceC P B base t len ps = some (true, e)) :
    ∃ r w', (Instr.buildSlice t len us.toArray).run P w = .ok r w' ∧ Done X w0 L w B E base e.up e.v w' r := by
  unfold buildSliceC at h
  split at h
  · cases h
  · rename_i el ety s bytes z0 hel
    split at h
    · rename_i z hzc hle
      split at h
      · rename_i cs hf
        split at h
        · rename_i l hts
          cases h
          obtain ⟨hu, i, zv, hi, hz, hsz, hby, hzs, hz0⟩ := elemOf_ok hel
          simp only at hsz hby hzs hu hi hz0
          have hle' := Nat.le_of_ble_eq_true hle
          have hE0 := hn base (Nat.le_refl _) (by omega)
          have hzr : (zeroValue ety).run P w = .ok zv w := by simp [zeroValue, typeInfo, hi, hz]
          have hzc' : F2 (RC X w B E) z zv.cells.toList := by
            obtain ⟨z1, h1, h2⟩ := zero_run (w := w) (X := X) (B := B) (E := E) hzc
            rw [hzr] at h1; cases h1; exact h2
          have hcell : ((Array.range (len * i.size)).map (zv.cells[· % zv.cells.size]!)).toList = (List.replicate len zv.cells.toList).flatten := by
            rw [hsz, ← hzs, ← range_rep]; simp
          obtain ⟨vs', hfill, hr⟩ := fill_ok (vs := (Array.range (len * i.size)).map (zv.cells[· % zv.cells.size]!)) ps us hp (by rw [hcell]; exact hzc'.flat len) hf
          obtain ⟨o1, w1⟩ := frzUp_ok hw (rowIdsL cs)
          have hF := frzUp_Frz B (rowIdsL cs)
          obtain ⟨hch, hll⟩ := toTs_frz w1 s len cs hts (all_on o1 hr) hF
          have hvl := Chunks.len (RT.len s) _ _ hch
          have hrun : (Instr.buildSlice t len us.toArray).run P w = .ok (.slice (some ⟨w.heap.size, 0, none⟩) len len) (w.alloc (.cells vs' ety)) := by
            exact run_buildSlice hu hi hz (by rw [hsz]; exact hle') (by rw [hsz] at hfill ⊢; exact hfill)
          obtain ⟨o2, w2⟩ := add1 (w' := w.alloc (.cells vs' ety)) (k := .arr ety s l) (v := .slice (some ⟨w.heap.size, 0, none⟩) len len) w1 ⟨rfl, rfl, rfl⟩ hE0 (by simp) (fun b hb => heap_alloc_old w _ b hb) (fun b hb => by simp [ob] at hb; subst hb; simp)
            (fun hon => ⟨_, vs'.toList, setE_same _ _ _, ⟨by simpa using hvl, .inr ⟨w.heap.size, len, vs', by rw [hll], Nat.zero_le _, heap_alloc_new w _, by omega, by have := Sh.sz_pos s; have : len ≤ len * s.sz := Nat.le_mul_of_pos_right _ this; unfold maxLen; omega, by simp at hvl; rw [hvl, hll], by
              rw [List.take_of_length_le (by rw [hvl]; exact Nat.le_refl _)]⟩⟩, hch.mono (RT.mono hon.stay s)⟩)
          refine ⟨_, _, hrun, setE E base (.slice (some ⟨w.heap.size, 0, none⟩) len len), ?_, ?_, ?_, new_id⟩
          · show On X w B E _ (upds B (frzUp B (rowIdsL cs) ++ _)) _
            rw [upds_append]; exact o1.trans o2
          · show WR X w0 L _ (upds B (frzUp B (rowIdsL cs) ++ _)) _
            rw [upds_append]; exact w2
          · exact row_here (X := X) (w := w) (setE_same _ _ _) rfl
        · cases h
      · cases h
    · cases h
end Go.Rx
set_option linter.unusedVariables false
set_option linter.unusedSimpArgs false
namespace Go.Rx
variable {P : Program} {X : Nat → Prop} {w0 : World} {L : Nat → Prop} {w w' : World} {B B' : Bs} {E E' : En}
theorem run_copy_zero {t t' ty e : TypeId} {i : TypeInfo} (ht : P.underlying t = some (.slice e)) (hi : P.info? e = some i) (a b : Option Addr) (n c m d : Nat) (h : Nat.min m n = 0) :
    (Builtin.copy_ #[t, t'] ty #[.slice a n c, .slice b m d]).run P w = .ok (goInt 0) w := by
  cases a <;> cases b <;> simp [Builtin.copy_, run_underlying ht, sizeOf, typeInfo, hi, Builtin.lenOf, h, Builtin.firstCells, loadCells, loadCellsFrom, storeCells]

theorem copy_core (hw : WR X w0 L w B E) {id : Nat} {ety bty : TypeId} {s : Sh} {l ys : List s.T} (hb : B id = some (.arr bty s l)) {v0 d y : Value} (h0 : E id = some v0) {off n : Nat} (hle : off + n ≤ l.length) (h1 : s.sz = 1)
    (hd : ∃ a c, d = .slice a n c ∧ (n = 0 ∨ ∃ b m c', a = some ⟨b, off, none⟩ ∧ v0 = .slice (some ⟨b, 0, none⟩) m c')) (hy : RSl w (fun _ => False) (RT w (MX X B E) s) ys y) {t t' ty : TypeId} {i : TypeInfo} (ht : P.underlying t = some (.slice ety)) (hi : P.info? ety = some i) (his : i.size = s.sz) :
    ∃ w', (Builtin.copy_ #[t, t'] ty #[d, y]).run P w = .ok (.int .i64 (min ys.length n : Nat)) w' ∧
      On X w B E w' (upd B id (some (.arr bty s (l.take off ++ ys.take n ++ l.drop (off + min ys.length n))))) E ∧ WR X w0 L w' (upd B id (some (.arr bty s (l.take off ++ ys.take n ++ l.drop (off + min ys.length n))))) E := by
  obtain ⟨a, c, rfl, hd⟩ := hd
  obtain ⟨a2, c2, news, rfl, _, hnc, hsrc⟩ := hy
  have hnl := Chunks.len (RT.len s) _ _ hnc
  rw [h1, Nat.mul_one] at hnl
  by_cases hz : min ys.length n = 0
  · have hcon : l.take off ++ ys.take n ++ l.drop (off + min ys.length n) = l := by
      have : ys.take n = [] := by apply List.eq_nil_of_length_eq_zero; rw [List.length_take]; omega
      rw [this, hz]; simp
    have hB : upd B id (some (.arr bty s l)) = B := by
      funext j
      by_cases hj : j = id
      · subst hj; rw [upd_same, hb]
      · rw [upd_ne _ _ hj]
    rw [hcon, hB]
    refine ⟨w, ?_, On.refl _ _ _ _, hw⟩
    rw [hz]; exact run_copy_zero ht hi a a2 n c ys.length c2 hz
  · rcases hd with hd | ⟨b, m, c', rfl, rfl⟩
    · subst hd; simp at hz
    · rcases hsrc with rfl | ⟨b2, o2, rfl, _, hcell⟩
      · simp at hnl; rw [← hnl] at hz; simp at hz
      · obtain ⟨v1, xs, he, ho, hc⟩ := hw.blk id _ hb
        rw [h0] at he; cases he
        obtain ⟨hxl, ho2⟩ := ho
        rcases ho2 with ⟨hn0, _⟩ | ⟨g, cap, cur, hv1, hbg, hg, hnc2, hcm, hcs, htake⟩
        · cases hn0
        · cases hv1
          rw [h1] at hxl hcs htake
          simp only [Nat.mul_one] at hxl hcs htake
          have hk : (news.take (min ys.length n)).length = min ys.length n := by rw [List.length_take]; omega
          have hr := run_copy_row (P := P) w t t' ty ety b off n c ⟨b2, o2, none⟩ ys.length c2 cur bty (news.take (min ys.length n)) ht (by simp [hi, his, h1]) hg (by rw [hk])
            (fun j v hj => by
              rw [List.getElem?_take] at hj
              split at hj
              · rw [addr_add]; exact hcell _ _ hj
              · cases hj) (by rw [hk]; omega) (fun v hv => Chunks.one (RT.one s) _ _ hnc v (List.mem_of_mem_take hv))
          have hp1 := Chunks.part (RT.len s) hnc (off := 0) (len := min ys.length n) (by omega)
          have hp2 := Chunks.part (RT.len s) hc (off := off) (len := min ys.length n) (by omega)
          rw [h1] at hp1 hp2
          simp only [Nat.mul_one, Nat.zero_mul, List.drop_zero] at hp1 hp2
          have hyt : ys.take (min ys.length n) = ys.take n := by
            by_cases h : ys.length ≤ n
            · rw [Nat.min_eq_left h, List.take_of_length_le (Nat.le_refl _), List.take_of_length_le h]
            · rw [Nat.min_eq_right (by omega)]
          have hst := splice_take cur.toList off l.length (news.take (min ys.length n)) (by rw [hk]; omega)
          rw [hk, htake] at hst
          rw [hk] at hr
          refine ⟨_, hr, ?_⟩
          refine put1 (k := .arr bty s l) hw (by exact ⟨rfl, rfl, rfl⟩) hb rfl h0 rfl (by simp [sameKind, Blk.shp]; omega) rfl (by simp) (fun b' hb' => setRow_other w b b' _ hb') (fun hon => ?_)
          have hll : (l.take off ++ ys.take n ++ l.drop (off + min ys.length n)).length = l.length := by simp; omega
          refine ⟨_, xs.take off ++ news.take (min ys.length n) ++ xs.drop (off + min ys.length n), h0, ⟨?_, .inr ⟨b, c', _, by rw [hll], hbg, setRow_cell hg, by rw [hll]; exact hnc2, hcm, ?_, ?_⟩⟩, ?_⟩
          · rw [hll, h1]; simp; omega
          · rw [h1]; simp; omega
          · rw [hll, h1, Nat.mul_one]; exact hst
          · refine Chunks.mono (RT.mono hon.stay s) _ _ ?_
            rw [List.append_assoc, List.append_assoc]
            refine Chunks.append _ _ _ _ hp2.1 (Chunks.append _ _ _ _ ?_ hp2.2.2)
            rw [← hyt]; exact hp1.2.1

theorem copyC_ok (hw : WR X w0 L w B E) {base : Nat} {t t' ty : TypeId} {x y : C} {u v : Value} (hx : RC X w B E x u) (hy : RC X w B E y v) {e : Eff} (h : copyC P B t x y = some (true, e)) :
    ∃ r w', (Builtin.copy_ #[t, t'] ty #[u, v]).run P w = .ok r w' ∧ Done X w0 L w B E base e.up e.v w' r := by
  unfold copyC at h
  split at h
  · cases h
  · rename_i el ety s bytes z0 hel
    split at h
    · cases h
    · rename_i h1
      have h1 := beq_of h1
      split at h
      · cases h
      · rename_i ys hys
        obtain ⟨hu, i, zv, hi, hz, hsz, hby, hzs, _⟩ := elemOf_ok hel
        simp only at hsz hu hi
        have hsrc := rdl_ok hw hys hy
        split at h
        · rename_i id
          split at h
          · rename_i e' s' l' hb
            split at h
            · rename_i l h2
              obtain ⟨es, rfl⟩ := castL_ok h2
              subst es
              cases h
              obtain ⟨v0, h0, _, hk⟩ := hx
              have := hk _ hb; subst this
              obtain ⟨v1, xs, he, ho, hc⟩ := hw.blk id _ hb
              rw [h0] at he; cases he
              obtain ⟨w', hr, o1, w1⟩ := copy_core (t' := t') (ty := ty) (off := 0) (n := l'.length) (d := u) hw hb h0 (by omega) h1 (by
                rcases own_block ho with ⟨rfl, hm, _⟩ | ⟨g, c, rfl, _⟩
                · exact ⟨none, 0, by rw [hm], .inl hm⟩
                · exact ⟨_, c, rfl, .inr ⟨g, _, c, rfl, rfl⟩⟩) hsrc hu hi hsz
              simp only [List.take_zero, List.nil_append, Nat.zero_add] at o1 w1
              exact ⟨_, w', hr, E, o1, w1, rfl, fun _ h1 h2 => (h2 h1).elim⟩
            · cases h
          · cases h
        · rename_i id off n
          split at h
          · rename_i e' s' l' hb
            split at h
            · rename_i l h2
              obtain ⟨es, rfl⟩ := castL_ok h2
              subst es
              cases h
              obtain ⟨v0, h0, _, hk⟩ := hx
              obtain ⟨hle, hs⟩ := hk _ s' l'.length hb rfl
              obtain ⟨w', hr, o1, w1⟩ := copy_core (t' := t') (ty := ty) (off := off) (n := n) (d := u) hw hb h0 hle h1 (by
                rcases hs with ⟨rfl, a, c, rfl⟩ | ⟨b, m, c, c', rfl, rfl, _⟩
                · exact ⟨a, c, rfl, .inl rfl⟩
                · exact ⟨_, c', rfl, .inr ⟨b, m, c, by rw [h1, Nat.mul_one], rfl⟩⟩) hsrc hu hi hsz
              exact ⟨_, w', hr, E, o1, w1, rfl, fun _ h1 h2 => (h2 h1).elim⟩
            · cases h
          · cases h
        · cases h

def RO (X : Nat → Prop) (w : World) (B : Bs) (E : En) : Option V → Option Value → Prop
  | none, none => True
  | some v, some u => RV X w B E v u
  | _, _ => False

theorem intOf_ok {v : V} {u : Value} {k : IntKind} {i : Int} (h1 : intOf v = some (k, i)) (h2 : RV X w B E v u) : u = .int k i := by
  unfold intOf at h1
  split at h1
  · cases h1; exact h2
  · cases h1
theorem run_bound {k : IntKind} {i : Int} {y : Nat} {code : BoundsCode} (h1 : 0 ≤ i) (h2 : i ≤ y) : (Instr.sliceBound (.int k i) y code).run P w = .ok i.toNat w := by
  simp [Instr.sliceBound, asIntOf, h1, h2]

theorem bounds_ok {n cap : Nat} (hc : n ≤ cap) {lo hi : Option V} {a b : Nat} (h : bounds n lo hi = some (true, a, b)) {lo' hi' : Option Value} (hlo : RO X w B E lo lo') (hhi : RO X w B E hi hi') :
    (Instr.sliceBounds true n cap lo' hi' none).run P w = .ok (a, b, cap) w ∧ a ≤ b ∧ b ≤ n := by
  have main : ∀ {h' l : Nat} {hi'' lo'' : Option Value}, (∀ v, hi'' = some v → (Instr.sliceBound v cap .sliceAcap).run P w = .ok h' w) → (hi'' = none → h' = n) → (∀ v, lo'' = some v → (Instr.sliceBound v h' .sliceB).run P w = .ok l w) → (lo'' = none → l = 0) →
      (Instr.sliceBounds true n cap lo'' hi'' none).run P w = .ok (l, h', cap) w := by
    intro h' l hi'' lo'' h1 h2 h3 h4
    cases hi'' with
    | none => cases lo'' with
      | none => rw [h2 rfl, h4 rfl]; simp [Instr.sliceBounds]
      | some v => have := h3 v rfl; rw [h2 rfl] at this ⊢; simp [Instr.sliceBounds, this]
    | some u => cases lo'' with
      | none => rw [h4 rfl]; simp [Instr.sliceBounds, h1 u rfl]
      | some v => simp [Instr.sliceBounds, h1 u rfl, h3 v rfl]
  unfold bounds at h
  split at h
  · cases h
  · rename_i c h' hx
    split at h
    · cases h
    · rename_i d l hy
      simp only [Option.some.injEq, Prod.mk.injEq, Bool.and_eq_true] at h
      obtain ⟨⟨rfl, rfl⟩, rfl, rfl⟩ := h
      have k1 : (∀ v, hi' = some v → (Instr.sliceBound v cap .sliceAcap).run P w = .ok h' w) ∧ (hi' = none → h' = n) ∧ h' ≤ n := by
        cases hi with
        | none =>
          cases hi' with
          | none => simp at hx; subst hx; exact ⟨fun _ h => (by cases h), fun _ => rfl, Nat.le_refl _⟩
          | some _ => exact hhi.elim
        | some v =>
          cases hi' with
          | none => exact hhi.elim
          | some u =>
            simp only at hx
            split at hx
            · rename_i k i hi1
              simp only [Option.some.injEq, Prod.mk.injEq, decide_eq_true_eq] at hx
              obtain ⟨⟨h1, h2⟩, rfl⟩ := hx
              have := intOf_ok hi1 hhi
              subst this
              exact ⟨fun v hv => (by cases hv; exact run_bound h1 (by omega)), fun h => (by cases h), by omega⟩
            · cases hx
      have k2 : (∀ v, lo' = some v → (Instr.sliceBound v h' .sliceB).run P w = .ok l w) ∧ (lo' = none → l = 0) ∧ l ≤ h' := by
        cases lo with
        | none =>
          cases lo' with
          | none => simp at hy; subst hy; exact ⟨fun _ h => (by cases h), fun _ => rfl, Nat.zero_le _⟩
          | some _ => exact hlo.elim
        | some v =>
          cases lo' with
          | none => exact hlo.elim
          | some u =>
            simp only at hy
            split at hy
            · rename_i k i hi1
              simp only [Option.some.injEq, Prod.mk.injEq, decide_eq_true_eq] at hy
              obtain ⟨⟨h1, h2⟩, rfl⟩ := hy
              have := intOf_ok hi1 hlo
              subst this
              exact ⟨fun v hv => (by cases hv; exact run_bound h1 h2), fun h => (by cases h), by omega⟩
            · cases hy
      exact ⟨main k1.1 k1.2.1 k2.1 k2.2.1, k2.2.2, k1.2.2⟩

theorem sliceC_ok (hw : WR X w0 L w B E) {base : Nat} {t : TypeId} {x : V} {u : Value} (hx : RV X w B E x u) {lo hi : Option V} {lo' hi' : Option Value} (hlo : RO X w B E lo lo') (hhi : RO X w B E hi hi')
    {e : Eff} (h : sliceC P B t x lo hi = some (true, e)) : e.up = [] ∧ ∃ r, (Instr.sliceAt t u lo' hi' none).run P w = .ok r w ∧ RV X w B E e.v r := by
  unfold sliceC at h
  split at h
  · rename_i el hu
    have run : ∀ {a0 : Option Addr} {n cap z a b : Nat}, u = .slice a0 n cap → n ≤ cap → size P el = some z → bounds n lo hi = some (true, a, b) →
        (Instr.sliceAt t u lo' hi' none).run P w = .ok (.slice (if cap = a then a0 else a0.map (·.add (a * z))) (b - a) (cap - a)) w ∧ a ≤ b ∧ b ≤ n := by
      intro a0 n cap z a b hu' hc hs hb
      obtain ⟨h1, h2, h3⟩ := bounds_ok (P := P) (X := X) (w := w) (B := B) (E := E) hc hb hlo hhi
      subst hu'
      refine ⟨?_, h2, h3⟩
      unfold Instr.sliceAt
      rw [Sem.run_bind, run_underlying hu, Result.andThen_ok]
      unfold Instr.slice
      simp only []
      rw [Sem.run_bind, run_underlying hu, Result.andThen_ok]
      simp only []
      rw [Sem.run_bind, h1, Result.andThen_ok]
      simp only []
      rw [Sem.run_bind, run_size hs, Result.andThen_ok]
      rfl
    have sub : ∀ {id off n m z a b : Nat} {k : Blk} {s : Sh}, B id = some k → k.shp = some (s, m) → s.sz = z → size P el = some z → off + n ≤ m → bounds n lo hi = some (true, a, b) →
        (∃ v0, E id = some v0 ∧ ((n = 0 ∧ ∃ a c, u = .slice a 0 c) ∨ ∃ bb mm c c', v0 = .slice (some ⟨bb, 0, none⟩) mm c ∧ u = .slice (some ⟨bb, off * s.sz, none⟩) n c' ∧ n ≤ c')) →
        ∃ r, (Instr.sliceAt t u lo' hi' none).run P w = .ok r w ∧ RC X w B E (.sub id (off + a) (b - a)) r := by
      intro id off n m z a b k s hk hs hz hsz hle hb ⟨v0, h0, hv⟩
      rcases hv with ⟨rfl, a0, c, rfl⟩ | ⟨bb, mm, c, c', rfl, rfl, hlc⟩
      · obtain ⟨h1, h2, h3⟩ := run rfl (Nat.zero_le _) hsz hb
        refine ⟨_, h1, v0, h0, by split <;> rfl, fun k' s' n' hk' hs' => ?_⟩
        rw [hk] at hk'; cases hk'; rw [hs] at hs'; cases hs'
        have hz0 : b - a = 0 := by omega
        refine ⟨by omega, .inl ⟨hz0, (if c = a then a0 else a0.map (·.add (a * z))), c - a, by rw [hz0]⟩⟩
      · obtain ⟨h1, h2, h3⟩ := run rfl hlc hsz hb
        refine ⟨_, h1, _, h0, by split <;> rfl, fun k' s' n' hk' hs' => ?_⟩
        rw [hk] at hk'; cases hk'; rw [hs] at hs'; cases hs'
        refine ⟨by omega, ?_⟩
        by_cases hz0 : b - a = 0
        · exact .inl ⟨hz0, (if c' = a then some ⟨bb, off * s.sz, none⟩ else (some (⟨bb, off * s.sz, none⟩ : Addr)).map (·.add (a * z))), c' - a, by rw [hz0]⟩
        · refine .inr ⟨bb, mm, c, c' - a, rfl, ?_, by omega⟩
          rw [if_neg (by omega), Option.map_some, addr_add, ← hz, Nat.add_mul]
    have rowv : ∀ {id : Nat} {k : Blk} {s : Sh} {m : Nat}, B id = some k → k.shp = some (s, m) → RC X w B E (.row id) u → k.mut = true ∨ k.mut = false → (∃ cs, k = .box cs) ∨
        ∃ v0, E id = some v0 ∧ ((m = 0 ∧ ∃ a c, u = .slice a 0 c) ∨ ∃ bb mm c c', v0 = .slice (some ⟨bb, 0, none⟩) mm c ∧ u = .slice (some ⟨bb, 0 * s.sz, none⟩) m c' ∧ m ≤ c') := by
      intro id k s m hk hs ⟨v0, h0, _, hk0⟩ _
      have := hk0 _ hk; subst this
      have hb := hw.blk id k hk
      cases k with
      | box cs => exact .inl ⟨cs, rfl⟩
      | arr e s' l =>
        cases hs
        obtain ⟨v1, xs, he, ho, _⟩ := hb
        rw [h0] at he; cases he
        refine .inr ⟨_, h0, ?_⟩
        rcases own_block ho with ⟨rfl, hm, _⟩ | ⟨g, c, rfl, hlc, _⟩
        · exact .inl ⟨hm, none, 0, rfl⟩
        · exact .inr ⟨g, _, c, c, rfl, by rw [Nat.zero_mul], hlc⟩
      | frz e s' l =>
        cases hs
        obtain ⟨v1, he, ⟨a, c, xs, hv, hlc, _, _⟩, hst⟩ := hb
        rw [h0] at he; cases he
        refine .inr ⟨_, h0, ?_⟩
        rcases hst with h | ⟨g, mm, cc, h⟩
        · rw [h] at hv; have := (Value.slice.inj hv).2.1; exact .inl ⟨this.symm, none, 0, h⟩
        · rw [h] at hv; cases hv
          exact .inr ⟨g, _, _, _, h, by rw [Nat.zero_mul]; exact h, hlc⟩
    split at h
    · rename_i s l
      split at h
      · cases h
      · rename_i z hs
        split at h
        · rename_i c a b h1 h2
          have hz := beq_of h1
          simp [puc] at h
          obtain ⟨rfl, rfl⟩ := h
          refine ⟨rfl, ?_⟩
          have hr0 : RSl w (MX X B E) (RT w (MX X B E) s) l u := hx
          have hr := hr0
          obtain ⟨a0, c, xs, hu', hlc, hc, hxx⟩ := hr
          obtain ⟨h3, h4, h5⟩ := run hu' hlc hs h2
          refine ⟨_, h3, ?_⟩
          show RSl w (MX X B E) (RT w (MX X B E) s) _ _
          by_cases hz0 : b - a = 0
          · rw [hz0]; simp only [List.take_zero]; exact RSl.nilv _ _
          · rw [if_neg (by omega)]
            rcases hxx with rfl | ⟨bb, o, rfl, _, _⟩
            · have hh : 0 = l.length * s.sz := Chunks.len (RT.len s) _ _ hc
              have : 0 < l.length * s.sz := Nat.mul_pos (by omega) (Sh.sz_pos s)
              omega
            · simp only [Option.map_some, addr_add]
              rw [hu'] at hr0
              rw [hz]
              exact hr0.part (RT.len s) (by omega) (by omega)
        · cases h
    · rename_i id
      split at h
      · rename_i e' s l hb
        split at h
        · cases h
        · rename_i z hs
          split at h
          · rename_i c a b h1 h2
            cases h
            refine ⟨rfl, ?_⟩
            rcases rowv hb rfl hx (.inl rfl) with ⟨_, h⟩ | h
            · cases h
            · have := sub hb rfl (beq_of h1).symm hs (off := 0) (by omega) h2 h
              simp only [Nat.zero_add] at this
              exact this
          · cases h
      · rename_i e' s l hb
        split at h
        · cases h
        · rename_i z hs
          split at h
          · rename_i c a b h1 h2
            cases h
            refine ⟨rfl, ?_⟩
            rcases rowv hb rfl hx (.inr rfl) with ⟨_, h⟩ | h
            · cases h
            · have := sub hb rfl (beq_of h1).symm hs (off := 0) (by omega) h2 h
              simp only [Nat.zero_add] at this
              exact this
          · cases h
      · cases h
    · rename_i id off n
      obtain ⟨v0, h0, _, hk⟩ := hx
      split at h
      · rename_i e' s l hb
        split at h
        · cases h
        · rename_i z hs
          split at h
          · rename_i c a b h1 h2
            cases h
            obtain ⟨hle, hss⟩ := hk _ s l.length hb rfl
            exact ⟨rfl, sub hb rfl (beq_of h1).symm hs hle h2 ⟨v0, h0, hss⟩⟩
          · cases h
      · rename_i e' s l hb
        split at h
        · cases h
        · rename_i z hs
          split at h
          · rename_i c a b h1 h2
            cases h
            obtain ⟨hle, hss⟩ := hk _ s l.length hb rfl
            exact ⟨rfl, sub hb rfl (beq_of h1).symm hs hle h2 ⟨v0, h0, hss⟩⟩
          · cases h
      · cases h
    · cases h
  · cases h
end Go.Rx
set_option linter.unusedVariables false
set_option linter.unusedSimpArgs false
namespace Go.Rx
variable {P : Program} {X : Nat → Prop} {w0 : World} {L : Nat → Prop} {w w' : World} {B B' : Bs} {E E' : En}
theorem RC.ptr_box {id off : Nat} {v : Value} {cs : List C} (h : RC X w B E (.ptr id off) v) (hb : B id = some (.box cs)) : ∃ b, E id = some (.pointer (some ⟨b, 0, none⟩)) ∧ v = .pointer (some ⟨b, off, none⟩) := by
  obtain ⟨v0, h0, _, hk⟩ := h
  obtain ⟨b, rfl, rfl⟩ := hk cs hb
  exact ⟨b, h0, rfl⟩
theorem ptr_mk {id off b : Nat} (h : E id = some (.pointer (some ⟨b, 0, none⟩))) : RC X w B E (.ptr id off) (.pointer (some ⟨b, off, none⟩)) :=
  ⟨_, h, rfl, fun cs _ => ⟨b, rfl, rfl⟩⟩
theorem RC.eptr_row {id i j : Nat} {v : Value} {k : Blk} {s : Sh} {n : Nat} (h : RC X w B E (.eptr id i j) v) (hb : B id = some k) (hs : k.shp = some (s, n)) : ∃ b m c, E id = some (.slice (some ⟨b, 0, none⟩) m c) ∧ v = .pointer (some ⟨b, i * s.sz + j, none⟩) := by
  obtain ⟨v0, h0, _, hk⟩ := h
  obtain ⟨b, m, c, rfl, rfl⟩ := hk k s n hb hs
  exact ⟨b, m, c, h0, rfl⟩
theorem eptr_mk {id i j b m c : Nat} {k : Blk} {s : Sh} {n : Nat} (hb : B id = some k) (hs : k.shp = some (s, n)) (h : E id = some (.slice (some ⟨b, 0, none⟩) m c)) : RC X w B E (.eptr id i j) (.pointer (some ⟨b, i * s.sz + j, none⟩)) :=
  ⟨_, h, rfl, fun k' s' n' hb' hs' => by rw [hb] at hb'; cases hb'; rw [hs] at hs'; cases hs'; exact ⟨b, m, c, rfl, rfl⟩⟩
theorem vp_add {s : Sh} {x : s.T} {j n : Nat} {v : Value} (h : RC X w B E (.vp s x j) v) : ∃ b o, v = .pointer (some ⟨b, o, none⟩) ∧ RC X w B E (.vp s x (j + n)) (.pointer (some ⟨b, o + n, none⟩)) := by
  obtain ⟨b, off, xs, rfl, h1, h2, h3⟩ := h
  exact ⟨b, off + j, rfl, b, off, xs, by rw [Nat.add_assoc], h1, h2, h3⟩

theorem fieldAddrC_ok {t : TypeId} {x : C} {u : Value} {f : Nat} (hx : RC X w B E x u) {e : Eff} (h : fieldAddrC P B t x f = some (true, e)) : e.up = [] ∧ ∃ r, (Instr.fieldAt t u f).run P w = .ok r w ∧ RV X w B E e.v r := by
  unfold fieldAddrC at h
  split at h
  · rename_i fs hu
    split at h
    · rename_i fd hf
      split at h
      · rename_i n hs
        have run : ∀ {b o : Nat}, u = .pointer (some ⟨b, o, none⟩) → (Instr.fieldAt t u f).run P w = .ok (.pointer (some ⟨b, o + fd.offset, none⟩)) w := by
          rintro b o rfl
          have hf' : fs[f]? = some fd := by simpa using hf
          unfold Instr.fieldAt
          rw [Sem.run_bind, run_underlying hu, Result.andThen_ok]
          simp only [hf']
          simp [Instr.sureAddr, fieldPlace, run_size hs, addr_add]
        split at h
        · rename_i id off
          split at h
          · rename_i cs hb
            cases h
            obtain ⟨b, h0, rfl⟩ := hx.ptr_box hb
            exact ⟨rfl, _, run rfl, ptr_mk (X := X) (w := w) h0⟩
          · cases h
        · rename_i id i j
          split at h
          · rename_i hb
            cases h
            obtain ⟨b, m, c, h0, rfl⟩ := hx.eptr_row hb rfl
            exact ⟨rfl, _, run rfl, (by rw [Nat.add_assoc]; exact eptr_mk hb rfl h0 : RC X w B E (.eptr _ _ _) _)⟩
          · rename_i hb
            cases h
            obtain ⟨b, m, c, h0, rfl⟩ := hx.eptr_row hb rfl
            exact ⟨rfl, _, run rfl, (by rw [Nat.add_assoc]; exact eptr_mk hb rfl h0 : RC X w B E (.eptr _ _ _) _)⟩
          · cases h
        · rename_i s y j
          simp [pu] at h; subst h
          obtain ⟨b, o, rfl, h2⟩ := vp_add (n := fd.offset) hx
          exact ⟨rfl, _, run rfl, h2⟩
        · cases h
      · cases h
    · cases h
  · cases h

theorem fieldC_ok {t : TypeId} {x : V} {u : Value} {f : Nat} (hx : RV X w B E x u) {e : Eff} (h : fieldC P t x f = some (true, e)) : e.up = [] ∧ ∃ r, (Instr.field t u f).run P w = .ok r w ∧ RV X w B E e.v r := by
  unfold fieldC at h
  split at h
  · rename_i fs cs hu
    split at h
    · rename_i fd hf
      split at h
      · rename_i v hp
        simp [pu] at h; subst h
        obtain ⟨vs, rfl, hc⟩ := hx
        obtain ⟨r, hr, hv⟩ := part_run (w := w) hp hc
        refine ⟨rfl, r, ?_, hv⟩
        have hf' : fs[f]? = some fd := by simpa using hf
        unfold Instr.field
        rw [Sem.run_bind, run_underlying hu, Result.andThen_ok]
        simp only [hf']
        simpa [asAgg] using hr
      · cases h
    · cases h
  · cases h

theorem ints_ok {k : IntKind} : ∀ {l : List C} {m : List Int}, ints k l = some m → l = m.map (C.int k)
  | [], m, h => by simp [ints] at h; subst h; rfl
  | c :: r, m, h => by
    simp only [ints] at h
    split at h
    · split at h
      · rename_i hk hr
        cases h
        have := of_decide_eq_true hk
        subst this
        rw [ints_ok hr]; rfl
      · cases h
    · cases h
theorem bools_ok : ∀ {l : List C} {m : List Bool}, bools l = some m → l = m.map C.bool
  | [], m, h => by simp [bools] at h; subst h; rfl
  | c :: r, m, h => by
    simp only [bools] at h
    split at h
    · split at h
      · rename_i hr
        cases h
        rw [bools_ok hr]; rfl
      · cases h
    · cases h
theorem selC_ok {i : Nat} {l : List C} {c : C} (h : selC i l = some c) (hi : i < l.length) : l[i]? = some c := by
  unfold selC at h
  split at h
  · split at h
    · rename_i hl
      cases h
      have := ints_ok hl
      subst this
      rw [show (C.int _ _ :: List.map (C.int _) _ : List C) = List.map (C.int _) (_ :: _) from rfl] at hi ⊢
      rw [List.length_map] at hi
      rw [List.getElem?_map, List.getElem?_eq_getElem hi, List.getD_eq_getElem?_getD, List.getElem?_eq_getElem hi]; rfl
    · cases h
  · split at h
    · rename_i hl
      cases h
      have := bools_ok hl
      subst this
      rw [show (C.bool _ :: List.map C.bool _ : List C) = List.map C.bool (_ :: _) from rfl] at hi ⊢
      rw [List.length_map] at hi
      rw [List.getElem?_map, List.getElem?_eq_getElem hi, List.getD_eq_getElem?_getD, List.getElem?_eq_getElem hi]; rfl
    · cases h
  · cases h
theorem seqO_ok : ∀ {l : List (Option C)} {m : List C}, seqO l = some m → l = m.map some
  | [], m, h => by simp [seqO] at h; subst h; rfl
  | x :: r, m, h => by
    simp only [seqO] at h
    split at h
    · rename_i hr
      cases h
      rw [seqO_ok hr]; rfl
    · cases h
theorem upTo_len' : ∀ m, (upTo m).length = m
  | 0 => rfl
  | m + 1 => by simp [upTo, upTo_len' m]
theorem upTo_get' : ∀ (m j : Nat), j < m → (upTo m)[j]? = some j
  | 0, j, h => by omega
  | m + 1, j, h => by
    simp only [upTo]
    by_cases h2 : j < m
    · rw [List.getElem?_append_left (by rw [upTo_len']; exact h2), upTo_get' m j h2]
    · rw [List.getElem?_append_right (by rw [upTo_len']; omega), upTo_len']
      have : j = m := by omega
      subst this; simp
theorem selCs_ok {i z n : Nat} {cs ds : List C} (h : selCs i z n cs = some ds) (hl : cs.length = n * z) (hi : i < n) : (cs.drop (i * z)).take z = ds := by
  have h1 := seqO_ok h
  have hz : ds.length = z := by have := congrArg List.length h1; simpa [upTo_len'] using this.symm
  have hle : i * z + z ≤ cs.length := by
    rw [hl]
    calc i * z + z = (i + 1) * z := by rw [Nat.add_mul, Nat.one_mul]
      _ ≤ n * z := Nat.mul_le_mul_right _ hi
  apply List.ext_getElem?
  intro j
  by_cases hj : j < z
  · have h2 : ((upTo z).map fun j => selC i ((upTo n).map fun q => cs.getD (q * z + j) .undef))[j]? = (ds.map some)[j]? := by rw [← h1]
    rw [List.getElem?_map, List.getElem?_map, upTo_get' z j hj, List.getElem?_eq_getElem (by omega)] at h2
    have h3 : selC i ((upTo n).map fun q => cs.getD (q * z + j) .undef) = some ds[j] := by simpa using h2
    have h4 := selC_ok h3 (by simp [upTo_len', hi])
    rw [List.getElem?_map, upTo_get' n i hi] at h4
    rw [List.getElem?_take, if_pos hj, List.getElem?_drop, List.getElem?_eq_getElem (show j < ds.length by omega)]
    have h5 : cs.getD (i * z + j) .undef = ds[j] := by simpa using h4
    rw [← h5, List.getD_eq_getElem?_getD, List.getElem?_eq_getElem (by omega)]; rfl
  · rw [List.getElem?_eq_none (by rw [List.length_take]; omega), List.getElem?_eq_none (by omega)]

theorem indexC_ok {t : TypeId} {x : V} {u : Value} {i : Int} {k : IntKind} (hx : RV X w B E x u) {e : Eff} (h : indexC P t x i = some (true, e)) : e.up = [] ∧ ∃ r, (Instr.index t u (.int k i)).run P w = .ok r w ∧ RV X w B E e.v r := by
  unfold indexC at h
  split at h
  · rename_i n el cs hu
    split at h
    · rename_i z hz
      replace h : ∃ v, partC P el cs (i.toNat * z) = some v ∧ puc (decide (0 ≤ i ∧ i < n)) v = some (true, e) := by
        split at h
        · rename_i ds hb hs
          split at h
          · rename_i v hp
            refine ⟨v, ?_, h⟩
            simp only [puc, Option.some.injEq, Prod.mk.injEq, decide_eq_true_eq] at h
            have hi := h.1
            have hl := beq_of hb
            have hin : i.toNat < n := by omega
            have ht := selCs_ok hs hl hin
            have hle : i.toNat * z + z ≤ cs.length := by
              rw [hl]
              calc i.toNat * z + z = (i.toNat + 1) * z := by rw [Nat.add_mul, Nat.one_mul]
                _ ≤ n * z := Nat.mul_le_mul_right _ hin
            have hdl : ds.length = z := by rw [← ht, List.length_take, List.length_drop]; omega
            unfold partC at hp ⊢
            cases hag : isAg P el with
            | none => rw [hag] at hp; cases hp
            | some ag =>
              rw [hag] at hp
              cases ag with
              | true =>
                simp only [hz] at hp ⊢
                split at hp
                · cases hp
                  have : Nat.ble (i.toNat * z + z) cs.length = true := Nat.ble_eq_true_of_le hle
                  rw [this]
                  simp only
                  rw [ht, List.drop_zero, List.take_of_length_le (by omega)]
                · cases hp
              | false =>
                simp only at hp ⊢
                split at hp
                · rename_i c hc0
                  cases hp
                  have hz0 : 0 < z := by
                    have := (List.getElem?_eq_some_iff.1 hc0).1
                    omega
                  have : cs[i.toNat * z]? = some c := by
                    rw [← hc0, ← ht, List.getElem?_take, if_pos hz0, List.getElem?_drop, Nat.add_zero]
                  rw [this]
                · cases hp
          · cases h
        · split at h
          · rename_i v hp; exact ⟨v, hp, h⟩
          · cases h
      obtain ⟨v, hp, h⟩ := h
      · simp only [puc, Option.some.injEq, Prod.mk.injEq, decide_eq_true_eq] at h
        obtain ⟨hi, rfl⟩ := h
        obtain ⟨vs, rfl, hc⟩ := hx
        obtain ⟨r, hr, hv⟩ := part_run (w := w) hp hc
        refine ⟨rfl, r, ?_, hv⟩
        unfold Instr.index
        simp only [asIntOf, Sem.run_bind, Sem.run_pure, Result.andThen_ok, run_underlying hu]
        rw [if_pos hi]
        simpa [run_size hz] using hr
    · cases h
  · rename_i s hu
    simp only [puc, Option.some.injEq, Prod.mk.injEq, decide_eq_true_eq] at h
    obtain ⟨hi, rfl⟩ := h
    have hx' : u = .string s := hx
    subst hx'
    refine ⟨rfl, .int .u8 (s.data.toList.getD i.toNat 0).toNat, ?_, rfl⟩
    have hlt : i.toNat < s.size := by omega
    unfold Instr.index
    simp only [asIntOf, Sem.run_bind, Sem.run_pure, Result.andThen_ok, run_underlying hu]
    rw [if_pos hi.1]
    have : s[i.toNat]? = some (s.data.toList.getD i.toNat 0) := by
      have h2 : i.toNat < s.data.toList.length := by simpa using hlt
      rw [getD_lt h2]
      simp [getElem?_pos, hlt]
      rfl
    rw [this]
    rfl
  · cases h

theorem indexAddrC_ok (hw : WR X w0 L w B E) {t : TypeId} {x : C} {u : Value} {i : Int} {k : IntKind} (hx : RC X w B E x u) {e : Eff} (h : indexAddrC P B t x i = some (true, e)) : e.up = [] ∧ ∃ r, (Instr.indexAt t u (.int k i)).run P w = .ok r w ∧ RV X w B E e.v r := by
  unfold indexAddrC at h
  split at h
  · rename_i n el hu
    split at h
    · cases h
    · rename_i z hz
      have run : ∀ {b o : Nat}, u = .pointer (some ⟨b, o, none⟩) → 0 ≤ i ∧ i < n → (Instr.indexAt t u (.int k i)).run P w = .ok (.pointer (some ⟨b, o + i.toNat * z, none⟩)) w := by
        rintro b o rfl hi
        unfold Instr.indexAt
        simp only [asIntOf, Sem.run_bind, Sem.run_pure, Result.andThen_ok, run_underlying hu, Instr.sureAddr]
        rw [if_pos hi]
        simp [run_size hz, addr_add]
      split at h
      · cases h
      · split at h
        · rename_i id off
          split at h
          · rename_i cs hb
            simp only [Option.some.injEq, Prod.mk.injEq, decide_eq_true_eq] at h
            obtain ⟨hi, rfl⟩ := h
            obtain ⟨b, h0, rfl⟩ := hx.ptr_box hb
            exact ⟨rfl, _, run rfl hi, ptr_mk (X := X) (w := w) h0⟩
          · cases h
        · simp only [puc, Option.some.injEq, Prod.mk.injEq, decide_eq_true_eq] at h
          obtain ⟨hi, rfl⟩ := h
          obtain ⟨b, o, rfl, h2⟩ := vp_add (n := i.toNat * z) hx
          exact ⟨rfl, _, run rfl hi, h2⟩
        · rename_i id kk j
          split at h
          · rename_i hb
            simp only [Option.some.injEq, Prod.mk.injEq, decide_eq_true_eq] at h
            obtain ⟨hi, rfl⟩ := h
            obtain ⟨b, m, c, h0, rfl⟩ := hx.eptr_row hb rfl
            exact ⟨rfl, _, run rfl hi, (by rw [Nat.add_assoc]; exact eptr_mk hb rfl h0 : RC X w B E (.eptr _ _ _) _)⟩
          · rename_i hb
            simp only [Option.some.injEq, Prod.mk.injEq, decide_eq_true_eq] at h
            obtain ⟨hi, rfl⟩ := h
            obtain ⟨b, m, c, h0, rfl⟩ := hx.eptr_row hb rfl
            exact ⟨rfl, _, run rfl hi, (by rw [Nat.add_assoc]; exact eptr_mk hb rfl h0 : RC X w B E (.eptr _ _ _) _)⟩
          · cases h
        · cases h
  · rename_i el hu
    split at h
    · cases h
    · rename_i z hz
      have run : ∀ {b o n c : Nat}, u = .slice (some ⟨b, o, none⟩) n c → 0 ≤ i ∧ i < n → (Instr.indexAt t u (.int k i)).run P w = .ok (.pointer (some ⟨b, o + i.toNat * z, none⟩)) w := by
        rintro b o n c rfl hi
        unfold Instr.indexAt
        simp only [asIntOf, Sem.run_bind, Sem.run_pure, Result.andThen_ok, run_underlying hu]
        rw [if_pos hi]
        simp [run_size hz, addr_add]
      have row : ∀ {id n : Nat} {kk : Blk} {s : Sh}, x = .row id → B id = some kk → kk.shp = some (s, n) → s.sz = z → 0 ≤ i ∧ i < n → ∃ r, (Instr.indexAt t u (.int k i)).run P w = .ok r w ∧ RC X w B E (.eptr id i.toNat 0) r := by
        intro id n kk s hxx hb hs hsz hi
        subst hxx
        obtain ⟨v0, h0, _, hk⟩ := hx
        have := hk _ hb; subst this
        have hblk := hw.blk id kk hb
        have hform : ∃ b c, u = .slice (some ⟨b, 0, none⟩) n c := by
          cases kk with
          | box cs => simp [Blk.shp] at hs
          | arr e s' l =>
            cases hs
            obtain ⟨v1, xs, he, ho, _⟩ := hblk
            rw [h0] at he; cases he
            rcases own_block ho with ⟨_, hm, _⟩ | ⟨g, c, rfl, _⟩
            · omega
            · exact ⟨g, c, rfl⟩
          | frz e s' l =>
            cases hs
            obtain ⟨v1, he, ⟨a, c, xs, hv, _, _, _⟩, hst⟩ := hblk
            rw [h0] at he; cases he
            rcases hst with h | ⟨g, m, cc, h⟩
            · rw [h] at hv; have := (Value.slice.inj hv).2.1; omega
            · rw [h] at hv; have := (Value.slice.inj hv).2.1; subst this; exact ⟨g, cc, h⟩
        obtain ⟨b, c, rfl⟩ := hform
        refine ⟨_, run rfl hi, ?_⟩
        have := eptr_mk (X := X) (w := w) (i := i.toNat) (j := 0) hb hs h0
        rw [hsz] at this
        simpa using this
      have sub : ∀ {id off n m : Nat} {kk : Blk} {s : Sh}, x = .sub id off n → B id = some kk → kk.shp = some (s, m) → s.sz = z → 0 ≤ i ∧ i < n → ∃ r, (Instr.indexAt t u (.int k i)).run P w = .ok r w ∧ RC X w B E (.eptr id (off + i.toNat) 0) r := by
        intro id off n m kk s hxx hb hs hsz hi
        subst hxx
        obtain ⟨v0, h0, _, hk⟩ := hx
        obtain ⟨hle, hv⟩ := hk _ s m hb hs
        rcases hv with ⟨rfl, _⟩ | ⟨b, mm, c, c', rfl, rfl, _⟩
        · omega
        · refine ⟨_, run rfl hi, ?_⟩
          have := eptr_mk (X := X) (w := w) (i := off + i.toNat) (j := 0) hb hs h0
          rw [Nat.add_mul, hsz] at this
          rw [hsz]
          simpa using this
      split at h
      · rename_i s l
        split at h
        · rename_i h1
          have h1' := beq_of h1
          simp only [puc, Option.some.injEq, Prod.mk.injEq, decide_eq_true_eq] at h
          obtain ⟨hi, rfl⟩ := h
          obtain ⟨a0, c, xs, rfl, hlc, hc, hxx⟩ := hx
          have hlt : i.toNat < l.length := by omega
          rcases hxx with rfl | ⟨b, o, rfl, hm, hcell⟩
          · have hh : 0 = l.length * s.sz := Chunks.len (RT.len s) _ _ hc
            have : 0 < l.length * s.sz := Nat.mul_pos (by omega) (Sh.sz_pos s)
            omega
          · refine ⟨rfl, _, run rfl hi, b, o + i.toNat * s.sz, (xs.drop (i.toNat * s.sz)).take s.sz, by rw [h1', Nat.add_zero], hm, ?_, fun j v hj => ?_⟩
            · rw [getD_lt hlt]; exact (Chunks.get (RT.len s) l xs hc i.toNat hlt).1
            · rw [List.getElem?_take] at hj
              split at hj
              · rw [List.getElem?_drop] at hj
                rw [Nat.add_assoc]; exact hcell _ _ hj
              · cases hj
        · cases h
      · rename_i id
        split at h
        · rename_i hb
          split at h
          · rename_i h1
            simp only [Option.some.injEq, Prod.mk.injEq, decide_eq_true_eq] at h
            obtain ⟨hi, rfl⟩ := h
            exact ⟨rfl, row rfl hb rfl (beq_of h1).symm hi⟩
          · cases h
        · rename_i hb
          split at h
          · rename_i h1
            simp only [Option.some.injEq, Prod.mk.injEq, decide_eq_true_eq] at h
            obtain ⟨hi, rfl⟩ := h
            exact ⟨rfl, row rfl hb rfl (beq_of h1).symm hi⟩
          · cases h
        · cases h
      · rename_i id off n
        split at h
        · rename_i hb
          split at h
          · rename_i h1
            simp only [Option.some.injEq, Prod.mk.injEq, decide_eq_true_eq] at h
            obtain ⟨hi, rfl⟩ := h
            exact ⟨rfl, sub rfl hb rfl (beq_of h1).symm hi⟩
          · cases h
        · rename_i hb
          split at h
          · rename_i h1
            simp only [Option.some.injEq, Prod.mk.injEq, decide_eq_true_eq] at h
            obtain ⟨hi, rfl⟩ := h
            exact ⟨rfl, sub rfl hb rfl (beq_of h1).symm hi⟩
          · cases h
        · cases h
      · cases h
  · cases h
end Go.Rx
set_option linter.unusedVariables false
set_option linter.unusedSimpArgs false
namespace Go.Rx
variable {P : Program} {X : Nat → Prop} {w0 : World} {L : Nat → Prop} {w w' : World} {B B' : Bs} {E E' : En}
theorem eqCs_len : ∀ {ks : List Nat} {cs ds : List C} {b : Bool}, eqCs ks cs ds = some b → cs.length = ks.length ∧ ds.length = ks.length
  | [], [], [], _, _ => ⟨rfl, rfl⟩
  | k :: ks, c :: cs, d :: ds, b, h => by
    simp only [eqCs] at h
    split at h
    · rename_i x y h1 h2; simp [eqCs_len h2]
    · cases h
  | [], [], _ :: _, _, h => by simp [eqCs] at h
  | [], _ :: _, _, _, h => by simp [eqCs] at h
  | _ :: _, [], _, _, h => by simp [eqCs] at h
  | _ :: _, _ :: _, [], _, h => by simp [eqCs] at h
theorem eqCs_split : ∀ (ks ls : List Nat) {cs ds : List C} {b : Bool}, eqCs (ks ++ ls) cs ds = some b → ∃ b1 b2, eqCs ks (cs.take ks.length) (ds.take ks.length) = some b1 ∧ eqCs ls (cs.drop ks.length) (ds.drop ks.length) = some b2 ∧ b = (b1 && b2)
  | [], ls, cs, ds, b, h => ⟨true, b, by simp [eqCs], h, by simp⟩
  | k :: ks, ls, c :: cs, d :: ds, b, h => by
    simp only [List.cons_append, eqCs] at h
    split at h
    · rename_i x y h1 h2
      cases h
      obtain ⟨b1, b2, h3, h4, rfl⟩ := eqCs_split ks ls h2
      exact ⟨x && b1, b2, by simp [eqCs, h1, h3], by simpa using h4, by rw [Bool.and_assoc]⟩
    · cases h
  | _ :: _, _, [], _, _, h => by simp [eqCs] at h
  | _ :: _, _, _ :: _, [], _, h => by simp [eqCs] at h

def ValOf (P : Program) (t : TypeId) (vs : List Value) (x : Value) : Prop := (isAg P t = some true ∧ x = .agg vs.toArray) ∨ (isAg P t = some false ∧ vs = [x])

theorem eqKs_ag {n : Nat} {t : TypeId} {ks : List Nat} (h : eqKs P n t = some ks) : ∃ b, isAg P t = some b ∧ (b = false → ks.length = 1) := by
  cases n with
  | zero => simp [eqKs] at h
  | succ n =>
    simp only [eqKs] at h
    unfold isAg
    split at h
    · rename_i hu; cases h; exact ⟨false, by rw [hu], fun _ => rfl⟩
    · rename_i hu; cases h; exact ⟨false, by rw [hu], fun _ => rfl⟩
    · rename_i hu; cases h; exact ⟨false, by rw [hu], fun _ => rfl⟩
    · rename_i hu; exact ⟨true, by rw [hu], fun h => by cases h⟩
    · rename_i hu; exact ⟨true, by rw [hu], fun h => by cases h⟩
    · cases h

theorem part_valOf {t : TypeId} {b : Bool} {s off : Nat} {VS : List Value} (h : isAg P t = some b) (hs : size P t = some s) (h1 : b = false → s = 1) (hle : b = false → off + s ≤ VS.length) :
    ∃ x, (part t VS.toArray off).run P w = .ok x w ∧ ValOf P t ((VS.drop off).take s) x := by
  cases b with
  | true =>
    refine ⟨.agg ((VS.drop off).take s).toArray, ?_, .inl ⟨h, rfl⟩⟩
    unfold part
    simp only [Sem.run_bind, run_isAg h, Result.andThen_ok, if_true, run_size hs, Sem.run_pure]
    congr 2
    simp [List.extract_eq_take_drop]
  | false =>
    have := h1 rfl; subst this
    have hle := hle rfl
    refine ⟨VS[off]'(by omega), ?_, .inr ⟨h, ?_⟩⟩
    · unfold part
      have hlt : off < VS.length := by omega
      simp [run_isAg h, hlt]
    · apply List.ext_getElem?
      intro i
      cases i with
      | zero => simp [List.getElem?_take, List.getElem?_drop]; 
      | succ i => simp [List.getElem?_take]

def eqElems (d : Nat) (xs ys : Array Value) (e : TypeId) (n : Nat) : Nat → Nat → Sem Bool
  | _, 0 => pure true
  | i, k + 1 => do
    let a ← part e xs (i * n)
    let b ← part e ys (i * n)
    let r ← Op.equalIn d e a b
    if (!r) = true then pure false else eqElems d xs ys e n (i + 1) k

theorem run_equalIn_array {d len : Nat} {t e : TypeId} {n : Nat} {xs ys : Array Value} (ht : P.underlying t = some (.array len e)) (hn : size P e = some n) :
    (Op.equalIn (d + 1) t (.agg xs) (.agg ys)).run P w = (eqElems d xs ys e n 0 len).run P w := by
  simp only [Op.equalIn, Sem.run_bind, run_underlying ht, Result.andThen_ok, run_size hn]
  rw [Std.Legacy.Range.forIn_eq_forIn_range']
  simp only [Std.Legacy.Range.size, Nat.sub_zero, Nat.add_sub_cancel, Nat.div_one]
  generalize 0 = i
  clear ht
  induction len generalizing i w with
  | zero => simp [eqElems]
  | succ k ih =>
    simp only [List.range'_succ, List.forIn_cons, eqElems, Sem.run_bind]
    generalize (part e xs (i * n)).run P w = r1
    cases r1 with
    | ok a w1 =>
      simp only [Result.andThen_ok]
      generalize (part e ys (i * n)).run P w1 = r2
      cases r2 with
      | ok b w2 =>
        simp only [Result.andThen_ok]
        generalize (Op.equalIn d e a b).run P w2 = r3
        cases r3 with
        | ok r w3 =>
          cases r
          · simp
          · simp only [Result.andThen_ok, Bool.not_true, Bool.false_eq_true, if_false, Sem.run_pure]
            exact ih (i + 1)
        | halt x w3 => simp [Result.andThen]
      | halt x w2 => simp [Result.andThen]
    | halt x w1 => simp [Result.andThen]

theorem eqC0 {c c' : C} {b : Bool} (h : eqC 0 c c' = some b) : ∃ k a a', c = .int k a ∧ c' = .int k a' ∧ b = (a == a') := by
  cases c <;> cases c' <;> simp only [eqC] at h <;> try cases h
  split at h
  · rename_i hk; simp at hk; subst hk; cases h; exact ⟨_, _, _, rfl, rfl, rfl⟩
  · cases h
theorem eqC1 {c c' : C} {b : Bool} (h : eqC 1 c c' = some b) : ∃ a a', c = .bool a ∧ c' = .bool a' ∧ b = (a == a') := by
  cases c <;> cases c' <;> simp only [eqC] at h <;> cases h
  exact ⟨_, _, rfl, rfl, rfl⟩
theorem eqC2 {c c' : C} {b : Bool} (h : eqC 2 c c' = some b) : ∃ a a', c = .str a ∧ c' = .str a' ∧ b = (a == a') := by
  cases c <;> cases c' <;> simp only [eqC] at h <;> cases h
  exact ⟨_, _, rfl, rfl, rfl⟩
theorem beqBA (a b : ByteArray) : (a == b) = (a.toList == b.toList) := beq_toListBytes a b

mutual
theorem eq_val : ∀ (n : Nat) (t : TypeId) {ks : List Nat} {d : Nat} {cs ds : List C} {b : Bool} {vs us : List Value} {x y : Value}, eqKs P n t = some ks → n ≤ d → eqCs ks cs ds = some b → F2 (RC X w B E) cs vs → F2 (RC X w B E) ds us →
    ValOf P t vs x → ValOf P t us y → (Op.equalIn d t x y).run P w = .ok b w
  | 0, t, ks, d, cs, ds, b, vs, us, x, y, h, _, _, _, _, _, _ => by simp [eqKs] at h
  | n + 1, t, ks, 0, cs, ds, b, vs, us, x, y, h, hd, _, _, _, _, _ => by omega
  | n + 1, t, ks, d + 1, cs, ds, b, vs, us, x, y, h, hd, he, hc, hc', hx, hy => by
    have leaf : ∀ {k : Nat}, ks = [k] → isAg P t = some false → ∃ c c', cs = [c] ∧ ds = [c'] ∧ eqC k c c' = some b ∧ RC X w B E c x ∧ RC X w B E c' y := by
      intro k hk hag
      subst hk
      have hl := eqCs_len he
      rcases hx with ⟨h1, _⟩ | ⟨_, rfl⟩
      · rw [hag] at h1; cases h1
      · rcases hy with ⟨h1, _⟩ | ⟨_, rfl⟩
        · rw [hag] at h1; cases h1
        · match cs, ds, hl, hc, hc', he with
          | [c], [c'], _, hc, hc', he =>
            simp only [eqCs] at he
            split at he
            · rename_i x1 y1 h1 h2
              cases h2; cases he
              exact ⟨c, c', rfl, rfl, by rw [h1]; simp, hc.1, hc'.1⟩
            · cases he
    have agg : isAg P t = some true → x = .agg vs.toArray ∧ y = .agg us.toArray := by
      intro hag
      rcases hx with ⟨_, h1⟩ | ⟨h1, _⟩
      · rcases hy with ⟨_, h2⟩ | ⟨h2, _⟩
        · exact ⟨h1, h2⟩
        · rw [hag] at h2; cases h2
      · rw [hag] at h1; cases h1
    simp only [eqKs] at h
    split at h
    · rename_i k hu
      cases h
      obtain ⟨c, c', rfl, rfl, h1, h2, h3⟩ := leaf rfl (by simp [isAg, hu])
      obtain ⟨k', a, a', rfl, rfl, rfl⟩ := eqC0 h1
      have e1 : x = _ := h2; have e2 : y = _ := h3; subst e1; subst e2
      exact run_equalIn_int w d t _ _ a a' hu
    · rename_i hu
      cases h
      obtain ⟨c, c', rfl, rfl, h1, h2, h3⟩ := leaf rfl (by simp [isAg, hu])
      obtain ⟨a, a', rfl, rfl, rfl⟩ := eqC1 h1
      have e1 : x = _ := h2; have e2 : y = _ := h3; subst e1; subst e2
      exact run_equalIn_bool w d t _ _ hu
    · rename_i hu
      cases h
      obtain ⟨c, c', rfl, rfl, h1, h2, h3⟩ := leaf rfl (by simp [isAg, hu])
      obtain ⟨a, a', rfl, rfl, rfl⟩ := eqC2 h1
      have e1 : x = _ := h2; have e2 : y = _ := h3; subst e1; subst e2
      rw [beqBA]; exact run_equalIn_string w d t _ _ hu
    · rename_i fs hu
      split at h
      · cases h
      · rename_i hst
        obtain ⟨rfl, rfl⟩ := agg (by simp [isAg, hu])
        have hfo : P.fieldsOf t = fs := by simp [Program.fieldsOf, hu]
        rw [run_equalIn_struct w d t _ _ (by rw [hfo]; exact hu) hst, hfo]
        exact eq_fields n fs.toList (off := 0) h (by omega) he hc hc'
    · rename_i k e hu
      split at h
      · rename_i m l hm hl
        split at h
        · rename_i hml
          have hml' := beq_of hml
          cases h
          obtain ⟨rfl, rfl⟩ := agg (by simp [isAg, hu])
          rw [run_equalIn_array hu hm]
          exact eq_elems n k e (i := 0) hl hm hml' (by omega) he (by simpa using hc) (by simpa using hc')
        · cases h
      · cases h
    · cases h
  termination_by n => (n, 0)
theorem eq_fields : ∀ (n : Nat) (fs : List Field) {off : Nat} {ks : List Nat} {d : Nat} {cs ds : List C} {b : Bool} {VS US : List Value}, eqFs P n off fs = some ks → n ≤ d → eqCs ks cs ds = some b →
    F2 (RC X w B E) cs (VS.drop off) → F2 (RC X w B E) ds (US.drop off) → (Op.eqFields d VS.toArray US.toArray fs).run P w = .ok b w
  | 0, _, _, _, _, _, _, _, _, _, h, _, _, _, _ => by simp [eqFs] at h
  | n + 1, [], off, ks, d, cs, ds, b, VS, US, h, hd, he, hc, hc' => by
    simp [eqFs] at h; subst h
    match cs, ds, he with
    | [], [], he => simp [eqCs] at he; subst he; rfl
  | n + 1, f :: r, off, ks, d, cs, ds, b, VS, US, h, hd, he, hc, hc' => by
    simp only [eqFs] at h
    split at h
    · rename_i s l h1 h2 h3
      split at h
      · rename_i l' h4 h5
        cases h
        simp only [Bool.and_eq_true, decide_eq_true_eq] at h1
        obtain ⟨hnm, rfl⟩ := h1
        have hsl := beq_of h4
        obtain ⟨bb, hag, hag1⟩ := eqKs_ag h3
        obtain ⟨b1, b2, e1, e2, rfl⟩ := eqCs_split l l' he
        have hl := eqCs_len he
        have hlv := hc.len
        have hlu := hc'.len
        simp only [List.length_append, List.length_drop] at hl hlv hlu
        obtain ⟨x, hx, vx⟩ := part_valOf (w := w) (VS := VS) (off := f.offset) hag h2 (fun hb => by rw [hsl]; exact hag1 hb) (fun hb => by have := hag1 hb; omega)
        obtain ⟨y, hy, vy⟩ := part_valOf (w := w) (VS := US) (off := f.offset) hag h2 (fun hb => by rw [hsl]; exact hag1 hb) (fun hb => by have := hag1 hb; omega)
        have hr := eq_val n f.type h3 (by omega : n ≤ d) e1 (hc.take l.length) (hc'.take l.length) (by rw [← hsl]; exact vx) (by rw [← hsl]; exact vy)
        have h6 := eq_fields n r h5 (by omega : n ≤ d) e2 (VS := VS) (US := US) (by have := hc.drop l.length; rw [List.drop_drop] at this; rw [hsl]; exact this) (by have := hc'.drop l.length; rw [List.drop_drop] at this; rw [hsl]; exact this)
        simp only [Op.eqFields]
        rw [if_pos hnm]
        simp only [Sem.run_bind, hx, hy, hr, Result.andThen_ok]
        cases b1
        · simp
        · simp [h6]
      · cases h
    · cases h
  termination_by n => (n, 1)
theorem eq_elems : ∀ (n : Nat) (k : Nat) (e : TypeId) {i m : Nat} {l : List Nat} {d : Nat} {cs ds : List C} {b : Bool} {VS US : List Value}, eqKs P n e = some l → size P e = some m → m = l.length → n ≤ d → eqCs (List.replicate k l).flatten cs ds = some b →
    F2 (RC X w B E) cs (VS.drop (i * m)) → F2 (RC X w B E) ds (US.drop (i * m)) → (eqElems d VS.toArray US.toArray e m i k).run P w = .ok b w
  | n, 0, e, i, m, l, d, cs, ds, b, VS, US, h, hm, hml, hd, he, hc, hc' => by
    match cs, ds, he with
    | [], [], he => simp [eqCs] at he; subst he; rfl
  | n, k + 1, e, i, m, l, d, cs, ds, b, VS, US, h, hm, hml, hd, he, hc, hc' => by
    obtain ⟨bb, hag, hag1⟩ := eqKs_ag h
    simp only [List.replicate_succ, List.flatten_cons] at he
    obtain ⟨b1, b2, e1, e2, rfl⟩ := eqCs_split l _ he
    have hl := eqCs_len he
    have hlv := hc.len
    have hlu := hc'.len
    simp only [List.length_append, List.length_drop] at hl hlv hlu
    have hle : i * m + m ≤ VS.length ∨ m = 0 := by omega
    have hle' : i * m + m ≤ US.length ∨ m = 0 := by omega
    have go : ∀ {VS : List Value}, (i * m + m ≤ VS.length ∨ m = 0) → ∃ x, (part e VS.toArray (i * m)).run P w = .ok x w ∧ ValOf P e ((VS.drop (i * m)).take m) x := by
      intro VS hle
      exact part_valOf (w := w) hag hm (fun hb => by rw [hml]; exact hag1 hb) (fun hb => by have := hag1 hb; omega)
    obtain ⟨x, hx, vx⟩ := go hle
    obtain ⟨y, hy, vy⟩ := go hle'
    have hr := eq_val n e h hd e1 (hc.take l.length) (hc'.take l.length) (by rw [← hml]; exact vx) (by rw [← hml]; exact vy)
    have h6 := eq_elems n k e (i := i + 1) h hm hml hd e2 (VS := VS) (US := US) (by have := hc.drop l.length; rw [List.drop_drop] at this; rw [Nat.add_mul, Nat.one_mul]; rw [← hml] at this; rw [hml] at this ⊢; exact this) (by have := hc'.drop l.length; rw [List.drop_drop] at this; rw [Nat.add_mul, Nat.one_mul]; rw [hml] at this ⊢; exact this)
    simp only [eqElems, Sem.run_bind, hx, hy, hr, Result.andThen_ok]
    cases b1
    · simp
    · simp [h6]
  termination_by n k => (n, k + 1)
end
end Go.Rx
set_option linter.unusedVariables false
set_option linter.unusedSimpArgs false
namespace Go.Rx
variable {P : Program} {X : Nat → Prop} {w0 : World} {L : Nat → Prop} {w w' : World} {B B' : Bs} {E E' : En}
theorem run_guard_int (op : BinOp) (t : TypeId) (x y : Operand) (k k' : IntKind) (a b : Int) : (eqGuard op t x y (.int k a) (.int k' b)).run P w = .ok () w := by
  cases op <;> simp [eqGuard]
theorem run_guard_bool (op : BinOp) (t : TypeId) (x y : Operand) (a b : Bool) : (eqGuard op t x y (.bool a) (.bool b)).run P w = .ok () w := by
  cases op <;> simp [eqGuard]

theorem binI_ok {op : BinOp} {t : TypeId} {k : IntKind} {a b : Int} {v : C} (h : binI op k a b = some (true, v)) (hs : op ≠ .shl ∧ op ≠ .shr) :
    ∃ r, (binOp op t (.int k a) (.int k b)).run P w = .ok r w ∧ RC X w B E v r := by
  cases op <;> simp only [binI, Option.some.injEq, Prod.mk.injEq] at h
  case shl => exact (hs.1 rfl).elim
  case shr => exact (hs.2 rfl).elim
  case quo =>
    obtain ⟨h1, rfl⟩ := h
    have hb : b ≠ 0 := by simpa using h1
    exact ⟨_, by simp [binOp, Op.intDiv, hb], rfl⟩
  case rem =>
    obtain ⟨h1, rfl⟩ := h
    have hb : b ≠ 0 := by simpa using h1
    exact ⟨_, by simp [binOp, Op.intDiv, hb], rfl⟩
  all_goals (obtain ⟨_, rfl⟩ := h; exact ⟨_, by simp [binOp, Op.intArith, Op.intBits, Op.intCmp], rfl⟩)

theorem shI_ok {op : BinOp} {t : TypeId} {k k' : IntKind} {a b : Int} {v : C} (h : shI op k a b = some (true, v)) : ∃ r, (binOp op t (.int k a) (.int k' b)).run P w = .ok r w ∧ RC X w B E v r := by
  cases op <;> simp only [shI] at h
  case shl =>
    simp only [Option.some.injEq, Prod.mk.injEq, decide_eq_true_eq] at h
    obtain ⟨h1, rfl⟩ := h
    exact ⟨_, by simp [binOp, Op.shift, Int.not_lt.2 h1], rfl⟩
  case shr =>
    simp only [Option.some.injEq, Prod.mk.injEq, decide_eq_true_eq] at h
    obtain ⟨h1, rfl⟩ := h
    exact ⟨_, by simp [binOp, Op.shift, Int.not_lt.2 h1], rfl⟩
  all_goals cases h

theorem binC_ok {op : BinOp} {t : TypeId} {x y : V} {u v : Value} {ox oy : Operand} (hx : RV X w B E x u) (hy : RV X w B E y v) {e : Eff} (h : binC P op t x y = some (true, e)) :
    e.up = [] ∧ (eqGuard op t ox oy u v).run P w = .ok () w ∧ ∃ r, (binOp op t u v).run P w = .ok r w ∧ RV X w B E e.v r := by
  unfold binC at h
  split at h
  · rename_i k a k' b
    have e1 : u = .int k a := hx
    have e2 : v = .int k' b := hy
    subst e1; subst e2
    split at h
    · split at h
      · rename_i c v hs
        simp only [puc, Option.some.injEq, Prod.mk.injEq] at h
        obtain ⟨rfl, rfl⟩ := h
        obtain ⟨r, hr, hv⟩ := shI_ok (P := P) (X := X) (w := w) (B := B) (E := E) (t := t) (k' := k') hs
        exact ⟨rfl, run_guard_int _ _ _ _ _ _ _ _, r, hr, hv⟩
      · cases h
    · rename_i hop
      split at h
      · rename_i hk
        have hk' : k = k' := by simpa using hk
        subst hk'
        split at h
        · rename_i c v hs
          simp only [puc, Option.some.injEq, Prod.mk.injEq] at h
          obtain ⟨rfl, rfl⟩ := h
          obtain ⟨r, hr, hv⟩ := binI_ok (P := P) (X := X) (w := w) (B := B) (E := E) (t := t) hs (by constructor <;> (intro h; subst h; simp at hop))
          exact ⟨rfl, run_guard_int _ _ _ _ _ _ _ _, r, hr, hv⟩
        · cases h
      · cases h
  · rename_i a b
    have e1 : u = .bool a := hx
    have e2 : v = .bool b := hy
    subst e1; subst e2
    split at h
    · rename_i hu
      simp [pu] at h; subst h
      exact ⟨rfl, run_guard_bool _ _ _ _ _ _, .bool (a == b), by simp [binOp, run_equal_bool w t a b hu], rfl⟩
    · rename_i hu
      simp [pu] at h; subst h
      exact ⟨rfl, run_guard_bool _ _ _ _ _ _, .bool (!(a == b)), by simp [binOp, run_equal_bool w t a b hu], rfl⟩
    · cases h
  · rename_i cs ds
    obtain ⟨vs, rfl, hc⟩ := hx
    obtain ⟨us, rfl, hc'⟩ := hy
    split at h
    · rename_i b hag hg hb
      obtain ⟨ks, hks, he⟩ := Option.bind_eq_some_iff.1 hb
      have hrun : (Op.equalIn 10000 t (.agg vs) (.agg us)).run P w = .ok b w :=
        eq_val 20 t hks (by omega) he hc hc' (.inl ⟨hag, by simp⟩) (.inl ⟨hag, by simp⟩)
      have hgd := run_eqGuard_agg (P := P) w op t ox oy vs us hg
      split at h
      · simp [pu] at h; subst h
        refine ⟨rfl, hgd, .bool b, ?_, rfl⟩
        rw [run_eql_struct, hrun]; rfl
      · simp [pu] at h; subst h
        refine ⟨rfl, hgd, .bool (!b), ?_, rfl⟩
        rw [run_neq_struct, hrun]; rfl
      · cases h
    · cases h
  · cases h

theorem unC_ok {op : UnOp} {x : V} {u : Value} (hx : RV X w B E x u) {e : Eff} (h : unC op x = some (true, e)) : e.up = [] ∧ ∃ r, (Op.unary op u).run P w = .ok r w ∧ RV X w B E e.v r := by
  unfold unC at h
  split at h
  · rename_i b
    have e1 : u = .bool b := hx
    subst e1
    simp [pu] at h; subst h
    exact ⟨rfl, _, by simp [Op.unary], rfl⟩
  · rename_i k n
    have e1 : u = .int k n := hx
    subst e1
    simp only [pu, Option.some.injEq, Prod.mk.injEq, true_and] at h; subst h
    exact ⟨rfl, .int k (k.wrap (0 - n)), by simp [Op.unary, Op.intArith], rfl⟩
  · cases h

theorem convC_ok {s d : TypeId} {x : V} {u : Value} (hs : P.underlying s ≠ none) (hx : RV X w B E x u) {e : Eff} (h : convC P d x = some (true, e)) : e.up = [] ∧ ∃ r, (convert s d u).run P w = .ok r w ∧ RV X w B E e.v r := by
  unfold convC at h
  split at h
  · rename_i k k' n hu
    have e1 : u = .int k' n := hx
    subst e1
    simp [pu] at h; subst h
    cases hs' : P.underlying s with
    | none => exact (hs hs').elim
    | some ds => exact ⟨rfl, .int k (k.wrap n), by cases ds <;> simp [convert, run_underlying hu, run_underlying hs', Conv.intToInt], rfl⟩
  · cases h

theorem minmax_ok (mx : Bool) : ∀ (vs : List V) (us : List Value) {c r : C} {u : Value}, RC X w B E c u → F2 (RV X w B E) vs us → minmaxL mx c vs = some r → ∃ ur, ((us.foldlM (match mx with | true => Builtin.max2 | false => Builtin.min2) u).run P w = .ok ur w) ∧ RC X w B E r ur
  | [], [], c, r, u, hc, _, h => by simp [minmaxL] at h; subst h; exact ⟨u, rfl, hc⟩
  | v :: vs, u1 :: us, c, r, u, hc, ⟨h1, h2⟩, h => by
    unfold minmaxL at h
    split at h
    · rename_i heq; cases heq
    · rename_i k x k' y r1 heq
      cases heq
      have e1 : u = .int k x := hc
      have e2 : u1 = .int k' y := h1
      subst e1; subst e2
      have step : ∀ {z : Int}, ((match mx with | true => Builtin.max2 | false => Builtin.min2) (.int k x) (.int k' y)).run P w = .ok (.int k z) w → z = mm mx x y →
          ∃ ur, ((List.foldlM (match mx with | true => Builtin.max2 | false => Builtin.min2) (.int k x) (.int k' y :: us)).run P w = .ok ur w) ∧ RC X w B E r ur := by
        intro z hz hzz
        subst hzz
        obtain ⟨ur, hr, hv⟩ := minmax_ok mx vs us (c := .int k (mm mx x y)) (u := .int k _) rfl h2 h
        refine ⟨ur, ?_, hv⟩
        rw [List.foldlM_cons, Sem.run_bind, hz, Result.andThen_ok]
        exact hr
      cases mx
      · exact step (z := mm false x y) (by simp [Builtin.min2, mm]) rfl
      · exact step (z := mm true x y) (by simp [Builtin.max2, mm]) rfl
    · cases h
  | [], _ :: _, _, _, _, _, h, _ => h.elim
  | _ :: _, [], _, _, _, _, h, _ => h.elim

theorem lenOfC_ok (hw : WR X w0 L w B E) {c : C} {u : Value} (hc : RC X w B E c u) {n : Nat} {rd : List Nat} (h : lenOfC B c = some (n, rd)) : ∃ a cp, u = .slice a n cp := by
  unfold lenOfC at h
  have row : ∀ {id m : Nat} {k : Blk} {s : Sh}, RC X w B E (.row id) u → B id = some k → k.shp = some (s, m) → ∃ a cp, u = .slice a m cp := by
    intro id m k s ⟨v0, h0, _, hk⟩ hb hs
    have := hk _ hb; subst this
    have hblk := hw.blk id k hb
    cases k with
    | box cs => simp [Blk.shp] at hs
    | arr e s' l =>
      cases hs
      obtain ⟨v1, xs, he, ho, _⟩ := hblk
      rw [h0] at he; cases he
      rcases own_block ho with ⟨rfl, hm, _⟩ | ⟨g, c, rfl, _⟩
      · exact ⟨none, 0, by rw [hm]⟩
      · exact ⟨_, c, rfl⟩
    | frz e s' l =>
      cases hs
      obtain ⟨v1, he, ⟨a, c, xs, hv, _, _, _⟩, _⟩ := hblk
      rw [h0] at he; cases he
      exact ⟨a, c, hv⟩
  split at h
  · cases h; obtain ⟨a, c, xs, rfl, _⟩ := hc; exact ⟨a, c, rfl⟩
  · split at h
    · rename_i hb; cases h; exact row hc hb rfl
    · rename_i hb; cases h; exact row hc hb rfl
    · cases h
  · rename_i id off len
    obtain ⟨v0, h0, _, hk⟩ := hc
    split at h
    · rename_i e s l hb
      cases h
      obtain ⟨_, hv⟩ := hk _ s l.length hb rfl
      rcases hv with ⟨rfl, a, c, rfl⟩ | ⟨_, _, _, c', _, rfl, _⟩
      · exact ⟨a, c, rfl⟩
      · exact ⟨_, c', rfl⟩
    · rename_i e s l hb
      cases h
      obtain ⟨_, hv⟩ := hk _ s l.length hb rfl
      rcases hv with ⟨rfl, a, c, rfl⟩ | ⟨_, _, _, c', _, rfl, _⟩
      · exact ⟨a, c, rfl⟩
      · exact ⟨_, c', rfl⟩
    · cases h
  · cases h
    have e1 : u = .slice none 0 0 := hc
    exact ⟨none, 0, e1⟩
  · cases h

theorem ptrCaps_ok (hw : WR X w0 L w B E) : ∀ {vs : List V} {us : List Value} {ids : List Nat}, ptrCaps B vs = some ids → F2 (RV X w B E) vs us → envs E ids = some us
  | [], [], ids, h, _ => by simp [ptrCaps] at h; subst h; rfl
  | v :: vs, u :: us, ids, h, ⟨h1, h2⟩ => by
    simp only [ptrCaps] at h
    split at h
    · rename_i id
      split at h
      · rename_i cs l hb hl
        cases h
        obtain ⟨b, h0, rfl⟩ := RC.ptr_box (X := X) (w := w) h1 hb
        simp [envs, h0, ptrCaps_ok hw hl h2]
      · cases h
    · cases h
  | [], _ :: _, _, _, h => h.elim
  | _ :: _, [], _, _, h => h.elim
end Go.Rx
set_option linter.unusedVariables false
set_option linter.unusedSimpArgs false
namespace Go.Rx
variable {P : Program} {X : Nat → Prop} {w0 : World} {L : Nat → Prop} {w w' : World} {B B' : Bs} {E E' : En}
def LB (lent : List Blk) : Bs := fun j => lent[j]?
def OB (m : Nat) (o : Out) : Bs := fun j => if j < m then (o.lent[j]?).join else o.fresh[j - m]?

def Callable (P : Program) (f : FuncId) : Prop := ∃ fn, P.funcs[f]? = some fn ∧ fn.name ≠ "runtime.NumGoroutine" ∧ fn.body.isSome = true

def SoundFun (P : Program) (f : FuncId) (G : Summ) : Prop :=
  Callable P f ∧ (∀ (args : List V) (lent : List Blk) (o : Out), G args lent = some (true, o) →
    ∀ (X : Nat → Prop) (w : World) (E : En) (vals : List Value), (∀ j, lent.length ≤ j → E j = none) → WR X w (Mut (LB lent) E) w (LB lent) E → F2 (RV X w (LB lent) E) args vals →
      Calls P f vals.toArray w fun e w' => o.lent.length = lent.length ∧ ∃ v E', e = .returned v ∧ On X w (LB lent) E w' (OB lent.length o) E' ∧ WR X w (Mut (LB lent) E) w' (OB lent.length o) E' ∧ RV X w' (OB lent.length o) E' o.res v ∧ ∀ j, lent.length + o.fresh.length ≤ j → E' j = none) ∧ KeepOk G

theorem run_callFunc {f : FuncId} (h : Callable P f) (args : Array Value) : (callFunc f args).run P w = .ok (.enter f args) w := by
  obtain ⟨fn, h1, h2, h3⟩ := h
  have h4 : fn.body ≠ none := by intro h; rw [h] at h3; cases h3
  simp [callFunc, h1, h2, h4]

theorem idx_some : ∀ {ids : List Nat} {i j : Nat}, idx ids i = some j → ids[j]? = some i
  | [], i, j, h => by cases h
  | a :: r, i, j, h => by
    simp only [idx] at h
    split at h
    · rename_i hb; cases h; rw [beq_of hb]; rfl
    · obtain ⟨j', hj, rfl⟩ := Option.map_eq_some_iff.1 h
      simpa using idx_some hj
theorem idx_of_nodup : ∀ {ids : List Nat} {i j : Nat}, nodupB ids = true → ids[j]? = some i → idx ids i = some j
  | [], i, j, _, h => by simp at h
  | a :: r, i, j, hn, h => by
    simp only [nodupB, Bool.and_eq_true] at hn
    cases j with
    | zero => simp at h; subst h; simp [idx]
    | succ j =>
      have h' : r[j]? = some i := by simpa using h
      have := idx_of_nodup hn.2 h'
      simp only [idx]
      split
      · rename_i hb
        have := beq_of hb; subst this
        have h1 := hn.1
        rw [idx_of_nodup hn.2 h'] at h1
        cases h1
      · rw [this]; rfl
theorem getB_get : ∀ {ids : List Nat} {bl : List Blk}, getB B ids = some bl → bl.length = ids.length ∧ ∀ (j i : Nat), ids[j]? = some i → ∃ k : Blk, bl[j]? = some k ∧ B i = some k
  | [], bl, h => by simp [getB] at h; subst h; exact ⟨rfl, fun j i h => by simp at h⟩
  | a :: r, bl, h => by
    simp only [getB] at h
    split at h
    · rename_i b l h1 h2
      cases h
      obtain ⟨h3, h4⟩ := getB_get h2
      refine ⟨by simp [h3], fun j i hj => ?_⟩
      cases j with
      | zero => simp at hj; subst hj; exact ⟨b, rfl, h1⟩
      | succ j => simpa using h4 j i (by simpa using hj)
    · cases h

theorem renIds_get {f : Nat → Option Nat} : ∀ {l m : List Nat}, renIds f l = some m → ∀ {E E' : En} {vs : List Value}, (∀ i j v, i ∈ l → f i = some j → E i = some v → E' j = some v) → envs E l = some vs → envs E' m = some vs
  | [], m, h, E, E', vs, _, hv => by simp [renIds] at h; subst h; exact hv
  | i :: r, m, h, E, E', vs, hE, hv => by
    simp only [renIds] at h
    split at h
    · rename_i j l h1 h2
      cases h
      simp only [envs] at hv ⊢
      cases hi : E i with
      | none => simp [hi] at hv
      | some v =>
        cases hr : envs E r with
        | none => simp [hi, hr] at hv
        | some us =>
          rw [hE i j v List.mem_cons_self h1 hi, renIds_get h2 (fun i j v hm => hE i j v (List.mem_cons_of_mem _ hm)) hr]
          simpa [hi, hr] using hv
    · cases h

theorem shp_ren (f : Nat → Option Nat) (k : Blk) : (renB f k).shp = k.shp := by cases k <;> rfl
theorem mut_ren (f : Nat → Option Nat) (k : Blk) : (renB f k).mut = k.mut := by cases k <;> rfl

theorem RC.ren {X' : Nat → Prop} {f : Nat → Option Nat} (hE : ∀ i j v, f i = some j → E i = some v → E' j = some v) (hB : ∀ i j v k', f i = some j → E i = some v → B' j = some k' → ∃ k, B i = some k ∧ k' = renB f k)
    : ∀ (c : C) (v : Value), (noneLst [c] = true ∨ ∀ b, MX X' B' E' b → MX X B E b) → RC X w B E c v → RC X' w B' E' (renC f c) v
  | .int _ _, _, _, h => h
  | .bool _, _, _, h => h
  | .str _, _, _, h => h
  | .lst s l, v, hs, h => by
    rcases hs with hs | hs
    · simp [noneLst] at hs
    · have st : Stay w (MX X B E) w (MX X' B' E') := ⟨fun _ _ _ _ h => h, fun b _ _ hm _ hM => hm (hs b hM)⟩
      exact RSl.mono st (RT.mono st s) h
  | .row id, v, _, ⟨v0, h0, h1, hk⟩ => by
    simp only [renC]
    split
    · rename_i j hj
      refine ⟨v0, hE _ _ _ hj h0, h1, fun k hb => ?_⟩
      obtain ⟨k0, hb0, _⟩ := hB _ _ _ _ hj h0 hb
      exact hk _ hb0
    · trivial
  | .sub id o n, v, _, ⟨v0, h0, h1, hk⟩ => by
    simp only [renC]
    split
    · rename_i j hj
      refine ⟨v0, hE _ _ _ hj h0, h1, fun k s m hb hs => ?_⟩
      obtain ⟨k0, hb0, rfl⟩ := hB _ _ _ _ hj h0 hb
      exact hk _ _ _ hb0 (by rw [← shp_ren f]; exact hs)
    · trivial
  | .ptr id o, v, _, ⟨v0, h0, h1, hk⟩ => by
    simp only [renC]
    split
    · rename_i j hj
      refine ⟨v0, hE _ _ _ hj h0, h1, fun cs hb => ?_⟩
      obtain ⟨k0, hb0, hk0⟩ := hB _ _ _ _ hj h0 hb
      cases k0 with
      | box ds => exact hk _ hb0
      | arr e s l => cases hk0
      | frz e s l => cases hk0
    · trivial
  | .eptr id i j', v, _, ⟨v0, h0, h1, hk⟩ => by
    simp only [renC]
    split
    · rename_i j hj
      refine ⟨v0, hE _ _ _ hj h0, h1, fun k s m hb hs => ?_⟩
      obtain ⟨k0, hb0, rfl⟩ := hB _ _ _ _ hj h0 hb
      exact hk _ _ _ hb0 (by rw [← shp_ren f]; exact hs)
    · trivial
  | .vp s x j, v, hs, ⟨b, off, xs, hv, hm, hx, hc⟩ => by
    rcases hs with hs | hs
    · simp [noneLst] at hs
    · have st : Stay w (MX X B E) w (MX X' B' E') := ⟨fun _ _ _ _ h => h, fun b _ _ hm _ hM => hm (hs b hM)⟩
      exact ⟨b, off, xs, hv, fun hM => hm (hs b hM), RT.mono st s x xs hx, hc⟩
  | .fn g caps, v, _, ⟨vs, hvs, hv⟩ => by
    simp only [renC]
    split
    · rename_i l hl
      exact ⟨vs, renIds_get hl (fun i j v _ h1 h2 => hE i j v h1 h2) hvs, hv⟩
    · trivial
  | .nil, _, _, h => h
  | .undef, _, _, _ => trivial

theorem noneLst_all : ∀ {cs : List C}, noneLst cs = true → ∀ c ∈ cs, noneLst [c] = true
  | [], _, c, h => by cases h
  | a :: r, h, c, hc => by
    rcases List.mem_cons.1 hc with rfl | hc
    · cases c <;> simp_all [noneLst]
    · exact noneLst_all (by cases a <;> simp_all [noneLst]) c hc
theorem F2.mapL {α β γ : Type} {R : α → β → Prop} {R' : γ → β → Prop} (f : α → γ) : ∀ {l : List α} {m : List β}, (∀ a b, a ∈ l → R a b → R' (f a) b) → F2 R l m → F2 R' (l.map f) m
  | [], [], _, _ => trivial
  | a :: l, b :: m, h, ⟨h1, h2⟩ => ⟨h a b List.mem_cons_self h1, F2.mapL f (fun a b ha => h a b (List.mem_cons_of_mem _ ha)) h2⟩
  | [], _ :: _, _, h => h.elim
  | _ :: _, [], _, h => h.elim

theorem RV.ren {X' : Nat → Prop} {f : Nat → Option Nat} (hE : ∀ i j v, f i = some j → E i = some v → E' j = some v) (hB : ∀ i j v k', f i = some j → E i = some v → B' j = some k' → ∃ k, B i = some k ∧ k' = renB f k)
    (v : V) (u : Value) (hs : noneLst v.all = true ∨ ∀ b, MX X' B' E' b → MX X B E b) (h : RV X w B E v u) : RV X' w B' E' (renV f v) u := by
  cases v with
  | one c => exact RC.ren hE hB c u (hs.imp (fun h => h) (fun h => h)) h
  | agg cs =>
    obtain ⟨vs, rfl, hc⟩ := h
    exact ⟨vs, rfl, F2.mapL _ (fun c v hc => RC.ren hE hB c v (hs.imp (fun h => noneLst_all h c hc) (fun h => h))) hc⟩
  | tup ps =>
    obtain ⟨vs, rfl, hc⟩ := h
    refine ⟨vs, rfl, F2.mapL _ (fun p v hp hr => ?_) hc⟩
    unfold RP at *
    have hs' : ∀ c ∈ p.2, noneLst [c] = true ∨ ∀ b, MX X' B' E' b → MX X B E b := fun c hc => hs.imp (fun h => noneLst_all h c (List.mem_flatMap.2 ⟨p, hp, hc⟩)) (fun h => h)
    simp only
    split
    · rename_i h1
      rw [h1] at hr
      obtain ⟨us, rfl, hcs⟩ := hr
      exact ⟨us, rfl, F2.mapL _ (fun c v hc => RC.ren hE hB c v (hs' c hc)) hcs⟩
    · rename_i h1
      rw [h1] at hr
      obtain ⟨c, hc1, hcs⟩ := hr
      rw [hc1]
      exact ⟨renC f c, rfl, RC.ren hE hB c v (hs' c (by rw [hc1]; simp)) hcs⟩

theorem RT.plain {w w' : World} {M M' : Nat → Prop} : ∀ (s : Sh) (x : s.T) (vs : List Value), s.deep = false → RT w M s x vs → RT w' M' s x vs
  | .int k, _, _, _, h => h
  | .bool, _, _, _, h => h
  | .str, _, _, _, h => h
  | .sl s, _, _, hd, _ => by simp [Sh.deep] at hd
  | .pair a b, _, _, hd, ⟨u, r, he, h1, h2⟩ => by
    simp only [Sh.deep, Bool.or_eq_false_iff] at hd
    exact ⟨u, r, he, RT.plain a _ _ hd.1 h1, RT.plain b _ _ hd.2 h2⟩

theorem RB.ren {X' : Nat → Prop} {f : Nat → Option Nat} (hE : ∀ i j v, f i = some j → E i = some v → E' j = some v) (hB : ∀ i j v k', f i = some j → E i = some v → B' j = some k' → ∃ k, B i = some k ∧ k' = renB f k)
    {i j : Nat} {k : Blk} (hij : f i = some j) (hs : plainB (some k) = true ∨ ∀ b, MX X' B' E' b → MX X B E b) (h : RB X w B E i k) : RB X' w B' E' j (renB f k) := by
  cases k with
  | box cs =>
    obtain ⟨b, vs, t, he, hh, hc⟩ := h
    exact ⟨b, vs, t, hE _ _ _ hij he, hh, F2.mapL _ (fun c v hc => RC.ren hE hB c v (hs.imp (fun h => noneLst_all h c hc) (fun h => h))) hc⟩
  | arr e s l =>
    obtain ⟨v, xs, he, ho, hc⟩ := h
    refine ⟨v, xs, hE _ _ _ hij he, ho, ?_⟩
    rcases hs with hs | hs
    · exact Chunks.mono (fun x vs hx => RT.plain s x vs (by simpa [plainB] using hs) hx) _ _ hc
    · have st : Stay w (MX X B E) w (MX X' B' E') := ⟨fun _ _ _ _ h => h, fun b _ _ hm _ hM => hm (hs b hM)⟩
      exact Chunks.mono (RT.mono st s) _ _ hc
  | frz e s l =>
    obtain ⟨v, he, hr, hv⟩ := h
    rcases hs with hs | hs
    · simp [plainB] at hs
    · have st : Stay w (MX X B E) w (MX X' B' E') := ⟨fun _ _ _ _ h => h, fun b _ _ hm _ hM => hm (hs b hM)⟩
      exact ⟨v, hE _ _ _ hij he, hr.mono st (RT.mono st s), hv⟩
end Go.Rx
set_option linter.unusedVariables false
set_option linter.unusedSimpArgs false
namespace Go.Rx
variable {P : Program} {X : Nat → Prop} {w0 : World} {L : Nat → Prop} {w w' : World} {B B' : Bs} {E E' : En}
theorem freshUp_get : ∀ (fr : List Blk) (base : Nat) (B : Bs) (i : Nat), upds B (freshUp base fr) i = if base ≤ i ∧ i < base + fr.length then fr[i - base]? else B i
  | [], base, B, i => by simp [freshUp, upds]; omega
  | b :: bs, base, B, i => by
    simp only [freshUp, upds]
    rw [freshUp_get bs (base + 1)]
    by_cases h : i = base
    · subst h; rw [if_neg (by omega), upd_same, if_pos (by simp)]; simp
    · rw [upd_ne _ _ h]
      by_cases h2 : base + 1 ≤ i ∧ i < base + 1 + bs.length
      · rw [if_pos h2, if_pos (by simp; omega)]
        have : i - base = (i - (base + 1)) + 1 := by omega
        rw [this]; simp
      · rw [if_neg h2, if_neg (by simp; omega)]

theorem backUp_get : ∀ (ids : List Nat) (l : List (Option Blk)) (B : Bs) (i : Nat), nodupB ids = true → l.length = ids.length → upds B (backUp ids l) i = match idx ids i with | some j => (l[j]?).join | none => B i
  | [], l, B, i, _, _ => by simp [backUp, upds, idx]
  | a :: r, [], B, i, _, h => by simp at h
  | a :: r, b :: l, B, i, hn, hl => by
    simp only [nodupB, Bool.and_eq_true] at hn
    simp only [backUp, upds]
    rw [backUp_get r l _ i hn.2 (by simpa using hl)]
    simp only [idx]
    by_cases h : i = a
    · subst h
      rw [Nat.beq_refl]
      have h1 := hn.1
      cases hx : idx r i with
      | some j => rw [hx] at h1; cases h1
      | none => simp [upd_same]
    · have hb : Nat.beq a i = false := by cases hb : Nat.beq a i; rfl; exact (h (beq_of hb).symm).elim
      rw [hb]
      cases hx : idx r i with
      | some j => simp
      | none => simp [upd_ne _ _ h]

theorem snapC_ok {Xc : Nat → Prop} {Bc : Bs} {Ec : En} {ids : List Nat} (hw : WR X w0 L w B E)
    (hE : ∀ i j v, idx ids i = some j → E i = some v → Ec j = some v) (hB : ∀ i j v k', idx ids i = some j → E i = some v → Bc j = some k' → ∃ k, B i = some k ∧ k' = renB (idx ids) k)
    (hM : ∀ b, MX Xc Bc Ec b → MX X B E b) (c : C) (hS : ∀ i ∈ c.rowIds, ∀ e s l v b, idx ids i = none → B i = some (.arr e s l) → E i = some v → ob v = some b → ¬ MX Xc Bc Ec b)
    (v : Value) (h : RC X w B E c v) : RC Xc w Bc Ec (snapC B ids c) v := by
  have st : Stay w (MX X B E) w (MX Xc Bc Ec) := ⟨fun _ _ _ _ h => h, fun b _ _ hm _ hX => hm (hM b hX)⟩
  have ren := RC.ren (X := X) (X' := Xc) (w := w) (f := idx ids) hE hB
  have frow : ∀ {i : Nat} {e : TypeId} {s : Sh} {l : List s.T} {v : Value}, i ∈ c.rowIds → idx ids i = none → (B i = some (.arr e s l) ∨ B i = some (.frz e s l)) → RC X w B E (.row i) v → RSl w (MX Xc Bc Ec) (RT w (MX Xc Bc Ec) s) l v := by
    intro i e s l v hmem hi hb ⟨v0, h0, _, hk⟩
    rcases hb with hb | hb
    · have := hk _ hb; subst this
      obtain ⟨v1, xs, he, ho, hc⟩ := hw.blk i _ hb
      rw [h0] at he; cases he
      rcases own_block ho with ⟨rfl, hm, hx⟩ | ⟨g, c, rfl, hlc, hob, _, hcell⟩
      · exact ⟨none, 0, xs, by rw [hm], by omega, hc.mono (RT.mono st s), .inl hx⟩
      · refine ⟨_, c, xs, rfl, hlc, hc.mono (RT.mono st s), .inr ⟨g, 0, rfl, ?_, fun j u hu => by simpa using hcell j u hu⟩⟩
        exact hS i hmem e s l _ g hi hb h0 hob
    · have := hk _ hb; subst this
      obtain ⟨v1, he, hr, _⟩ := hw.blk i _ hb
      rw [h0] at he; cases he
      exact hr.mono st (RT.mono st s)
  cases c with
  | row id =>
    simp only [snapC]
    split
    · rename_i j hj
      have := ren (.row id) v (.inr hM) h
      simpa [renC, hj] using this
    · rename_i hj
      split
      · rename_i hb; exact frow (by simp [C.rowIds]) hj (.inl hb) h
      · rename_i hb; exact frow (by simp [C.rowIds]) hj (.inr hb) h
      · trivial
  | sub id o n =>
    simp only [snapC]
    split
    · rename_i j hj
      have := ren (.sub id o n) v (.inr hM) h
      simpa [renC, hj] using this
    · rename_i hj
      have part : ∀ {e : TypeId} {s : Sh} {l : List s.T}, (B id = some (.arr e s l) ∨ B id = some (.frz e s l)) → RSl w (MX Xc Bc Ec) (RT w (MX Xc Bc Ec) s) ((l.drop o).take n) v := by
        intro e s l hb
        obtain ⟨v0, h0, _, hk⟩ := h
        have hs : ∃ k, B id = some k ∧ k.shp = some (s, l.length) := by rcases hb with hb | hb <;> exact ⟨_, hb, rfl⟩
        obtain ⟨k, hk1, hk2⟩ := hs
        obtain ⟨hle, hss⟩ := hk k s l.length hk1 hk2
        rcases hss with ⟨rfl, a, c, rfl⟩ | ⟨b, m, c, c', rfl, rfl, hlc⟩
        · simp; exact RSl.nilv _ _
        · have := (frow (by simp [C.rowIds]) hj hb ⟨_, h0, rfl, fun _ _ => rfl⟩).part (RT.len s) hle hlc
          rwa [Nat.zero_add] at this
      split
      · rename_i hb; exact part (.inl hb)
      · rename_i hb; exact part (.inr hb)
      · trivial
  | _ => exact ren _ v (.inr hM) h

theorem nilCs_ok : ∀ {ts : List TypeId} {cs : List C} {us : List Value}, F2 (RC X w B E) cs us → F2 (RC X w B E) (nilCs P ts cs) us
  | [], cs, us, h => by cases cs <;> exact h
  | t :: ts, [], us, h => by cases us <;> exact h
  | t :: ts, c :: cs, [], h => h.elim
  | t :: ts, c :: cs, u :: us, ⟨h1, h2⟩ => by
    refine ⟨?_, nilCs_ok h2⟩
    clear h2
    split
    · split
      · split
        · have e1 : u = .slice none 0 0 := h1
          subst e1
          exact RSl.nilv _ _
        · exact h1
      · exact h1
    · exact h1
theorem argNil_ok {t : TypeId} {v : V} {u : Value} (h : RV X w B E v u) : RV X w B E (argNil P t v) u := by
  unfold argNil
  split
  · split
    · split
      · have e1 : u = .slice none 0 0 := h
        subst e1
        exact RSl.nilv _ _
      · exact h
    · exact h
  · obtain ⟨vs, hv, hc⟩ := h
    exact ⟨vs, hv, nilCs_ok hc⟩
  · exact h
theorem zipNil_ok : ∀ {ts : List TypeId} {vs : List V} {us : List Value}, F2 (RV X w B E) vs us → F2 (RV X w B E) (zipNil P ts vs) us
  | [], vs, us, h => by cases vs <;> exact h
  | t :: ts, [], us, h => by cases us <;> exact h
  | t :: ts, v :: vs, [], h => h.elim
  | t :: ts, v :: vs, u :: us, ⟨h1, h2⟩ => ⟨argNil_ok h1, zipNil_ok h2⟩

theorem capsV_ok (hw : WR X w0 L w B E) : ∀ {caps : List Nat} {vs : List Value}, envs E caps = some vs → boxesOk B caps = true → F2 (RV X w B E) (capsV caps) vs
  | [], vs, h, _ => by simp [envs] at h; subst h; trivial
  | i :: r, vs, h, hb => by
    simp only [boxesOk] at hb
    split at hb
    · rename_i cs hcs
      simp only [envs] at h
      split at h
      · rename_i v us h1 h2
        cases h
        obtain ⟨b, _, _, he, _⟩ := hw.blk i _ hcs
        rw [h1] at he; cases he
        exact ⟨⟨_, h1, rfl, fun cs hcs => ⟨b, rfl, rfl⟩⟩, capsV_ok hw h2 hb⟩
      · cases h
    · cases hb

end Go.Rx
