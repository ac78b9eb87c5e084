/- Regions, calls and code whole: what the executor comes to is so. -/
import Derived.Test.YtcdmkbpmgeeghaaRxB
import Derived.LoopN
set_option linter.unnecessarySimpa false
set_option linter.unusedVariables false
set_option linter.unusedSimpArgs false
set_option linter.unusedVariables false
set_option linter.unusedSimpArgs false
namespace Go.Rx
variable {P : Program} {X : Nat → Prop} {w0 : World} {L : Nat → Prop} {w w' : World} {B B' : Bs} {E E' : En}
theorem callC0_ok {tab : FuncId → Option Summ} (hT : ∀ f G, tab f = some G → SoundFun P f G) (hw : WR X w0 L w B E) {base : Nat} (hn : ∀ j, base ≤ j → j < base + 16 → E j = none) {f : FuncId} {caps : List Nat} {ts : List TypeId} {args : List V} {us cps : List Value}
    (hargs : F2 (RV X w B E) args us) (henv : envs E caps = some cps) {e : Eff} (h : callC0 P tab B base f caps ts args = some (true, e)) :
    Callable P f ∧ Calls P f (us ++ cps).toArray w fun e' w' => ∃ v, e' = .returned v ∧ Done X w0 L w B E base e.up e.v w' v := by
  unfold callC0 at h
  split at h
  · cases h
  · rename_i G hG
    obtain ⟨hcall, hS, _⟩ := hT f G hG
    refine ⟨hcall, ?_⟩
    simp only at h
    generalize hvs : zipNil P ts args ++ capsV caps = vs at h
    generalize hcs : vs.flatMap V.all = cs at h
    generalize hids : reach B 60 (seedsOf G cs) [] = ids at h
    generalize hsn : snapsOf ids cs = snaps at h
    split at h
    · cases h
    · cases h
    · rename_i bl hnb hbl
      simp only [Bool.and_eq_true] at hnb
      obtain ⟨hnd, hbx⟩ := hnb
      obtain ⟨hbll, hblg⟩ := getB_get hbl
      split at h
      · cases h
      · rename_i c o hGo
        split at h
        · rename_i hl1 hl2
          simp only [Option.some.injEq, Prod.mk.injEq] at h
          obtain ⟨rfl, rfl⟩ := h
          have hvs' : F2 (RV X w B E) vs (us ++ cps) := by rw [← hvs]; exact (zipNil_ok hargs).append (capsV_ok hw henv hbx)
          -- the callee's names
          let lentc := bl.map (renB (idx ids))
          let Bc := LB lentc
          let Ec : En := fun j => (ids[j]?).bind E
          have hm : lentc.length = ids.length := by simp [lentc, hbll]
          have hBc : ∀ {j : Nat} {k' : Blk}, Bc j = some k' → ∃ (i : Nat) (k : Blk), ids[j]? = some i ∧ B i = some k ∧ k' = renB (idx ids) k := by
            intro j k' hk
            have hk' : (bl.map (renB (idx ids)))[j]? = some k' := hk
            rw [List.getElem?_map] at hk'
            obtain ⟨k, hk1, rfl⟩ := Option.map_eq_some_iff.1 hk'
            have hj : j < ids.length := by rw [← hbll]; exact (List.getElem?_eq_some_iff.1 hk1).1
            obtain ⟨k2, h1, h2⟩ := hblg j ids[j] (by simp [hj])
            rw [hk1] at h1; cases h1
            exact ⟨ids[j], k, by simp [hj], h2, rfl⟩
          have hEr : ∀ i j v, idx ids i = some j → E i = some v → Ec j = some v := by
            intro i j v hi hv
            show (ids[j]?).bind E = some v
            rw [idx_some hi]; exact hv
          have hBr : ∀ i j v k', idx ids i = some j → E i = some v → Bc j = some k' → ∃ k, B i = some k ∧ k' = renB (idx ids) k := by
            intro i j v k' hi hv hk
            obtain ⟨i', k, h1, h2, h3⟩ := hBc hk
            rw [idx_some hi] at h1; cases h1
            exact ⟨k, h2, h3⟩
          have hmut : ∀ {b}, Mut Bc Ec b → ∃ (i j : Nat) (k : Blk) (v : Value), ids[j]? = some i ∧ B i = some k ∧ k.mut = true ∧ E i = some v ∧ ob v = some b := by
            rintro b ⟨j, k', v, hk, hm1, hv, hob⟩
            obtain ⟨i, k, h1, h2, rfl⟩ := hBc hk
            have hv' : (ids[j]?).bind E = some v := hv
            rw [h1] at hv'
            exact ⟨i, j, k, v, h1, h2, by rw [mut_ren] at hm1; exact hm1, hv', hob⟩
          have hmutB : ∀ {b}, Mut Bc Ec b → Mut B E b := fun hb => by obtain ⟨i, j, k, v, _, h2, h3, h4, h5⟩ := hmut hb; exact ⟨i, k, v, h2, h3, h4, h5⟩
          let SB : Nat → Prop := fun b => ∃ i ∈ snaps, ∃ e s l v, B i = some (.arr e s l) ∧ E i = some v ∧ ob v = some b
          let Xc : Nat → Prop := fun b => MX X B E b ∧ ¬ Mut Bc Ec b ∧ ¬ SB b
          have hM : ∀ b, MX Xc Bc Ec b → MX X B E b := fun b hb => by
            rcases hb with hb | hb
            · exact .inl (hmutB hb)
            · exact hb.1
          have notin : ∀ {i k v b}, B i = some k → k.mut = true → E i = some v → ob v = some b → idx ids i = none → ¬ Mut Bc Ec b := by
            intro i k v b h1 h2 h3 h4 h5 hb
            obtain ⟨i', j, k', v', g1, g2, g3, g4, g5⟩ := hmut hb
            have := hw.inj i i' k k' v v' b h1 g2 h2 g3 h3 g4 h4 g5
            subst this
            rw [idx_of_nodup hnd g1] at h5; cases h5
          have wrc : WR Xc w (Mut Bc Ec) w Bc Ec := by
            refine ⟨fun j k' hk => ?_, ?_, fun b hb => ⟨(hw.own b (hmutB hb)).1, .inr hb⟩, fun _ _ _ => rfl, Nat.le_refl _, fun b hb => ⟨?_, hb.2.1⟩, Io.refl _⟩
            · obtain ⟨i, k, h1, h2, rfl⟩ := hBc hk
              exact RB.ren hEr hBr (idx_of_nodup hnd h1) (.inr hM) (hw.blk i k h2)
            · intro j j' k k' v v' b h1 h2 h3 h4 h5 h6 h7 h8
              obtain ⟨i, k0, a1, a2, rfl⟩ := hBc h1
              obtain ⟨i', k0', b1, b2, rfl⟩ := hBc h2
              have hv1 : (ids[j]?).bind E = some v := h5
              have hv2 : (ids[j']?).bind E = some v' := h6
              rw [a1] at hv1; rw [b1] at hv2
              rw [mut_ren] at h3 h4
              have := hw.inj i i' k0 k0' v v' b a2 b2 h3 h4 hv1 hv2 h7 h8
              subst this
              have e1 := idx_of_nodup hnd a1
              rw [idx_of_nodup hnd b1] at e1
              exact (Option.some.inj e1).symm
            · rcases hb.1 with h1 | h1
              · exact (hw.own b h1).1
              · exact Nat.lt_of_lt_of_le (hw.far b h1).1 hw.sz
          have hsnap : ∀ {c v}, c ∈ cs → RC X w B E c v → RC Xc w Bc Ec (snapC B ids c) v := by
            intro c v hc hr
            refine snapC_ok hw hEr hBr hM c (fun i hi e s l v b h1 h2 h3 h4 hX => ?_) v hr
            rcases hX with hX | hX
            · exact notin h2 rfl h3 h4 h1 hX
            · refine hX.2.2 ⟨i, ?_, e, s, l, v, h2, h3, h4⟩
              rw [← hsn]
              unfold snapsOf
              refine List.mem_filter.2 ⟨List.mem_flatMap.2 ⟨c, hc, hi⟩, by simp [h1]⟩
          have hargc : F2 (RV Xc w Bc Ec) (vs.map (snapV B ids)) (us ++ cps) := by
            refine F2.mapL _ (fun v u hv hr => ?_) hvs'
            have hall : ∀ c ∈ v.all, c ∈ cs := fun c hc => by rw [← hcs]; exact List.mem_flatMap.2 ⟨v, hv, hc⟩
            cases v with
            | one c => exact hsnap (hall c (by simp [V.all])) hr
            | agg ds =>
              obtain ⟨us', rfl, hds⟩ := hr
              exact ⟨us', rfl, F2.mapL _ (fun c v hc hr => hsnap (hall c hc) hr) hds⟩
            | tup ps => trivial
          have hcalls := hS (vs.map (snapV B ids)) lentc o hGo Xc w Ec (us ++ cps) (fun j hj => by
            show (ids[j]?).bind E = none
            rw [List.getElem?_eq_none (by rw [hm] at hj; exact hj)]; rfl) wrc hargc
          refine hcalls.mono ?_
          rintro e' w' ⟨hol, v, Ec', he, onc, wrc', hrv, hnone⟩
          refine ⟨v, he, ?_⟩
          rw [hm] at hol onc wrc' hrv hnone
          have hfr : o.fresh.length ≤ 12 := by have := Nat.le_of_ble_eq_true hl2; simpa using this
          generalize hkeep : (noneLst o.res.all && o.lent.all plainB && o.fresh.all (fun b => plainB (some b))) = keep
          let g := backF ids base
          let lent' := o.lent.map fun b => b.map (renB g)
          let fresh' := o.fresh.map (renB g)
          let up1 := match keep with | true => [] | false => frzUp B snaps
          let E' : En := fun i => if base ≤ i ∧ i < base + o.fresh.length then Ec' (ids.length + (i - base)) else E i
          have hE0 : ∀ {i}, base ≤ i → i < base + o.fresh.length → E i = none := fun h1 h2 => hn _ h1 (by omega)
          have hEold : ∀ {i v}, E i = some v → E' i = some v := by
            intro i v hv
            show (if base ≤ i ∧ i < base + o.fresh.length then Ec' (ids.length + (i - base)) else E i) = some v
            rw [if_neg (fun h => by rw [hE0 h.1 h.2] at hv; cases hv)]; exact hv
          have hidE : ∀ {j i : Nat}, ids[j]? = some i → ∃ v, E i = some v ∧ Ec j = some v := by
            intro j i hj
            obtain ⟨k, _, hk⟩ := hblg j i hj
            obtain ⟨v, hv⟩ := (hw.blk i k hk).env
            exact ⟨v, hv, by show (ids[j]?).bind E = some v; rw [hj]; exact hv⟩
          -- the blocks behind the call
          have hB' : ∀ i, upds B (up1 ++ backUp ids lent' ++ freshUp base fresh') i = if base ≤ i ∧ i < base + o.fresh.length then (o.fresh[i - base]?).map (renB g) else match idx ids i with | some j => ((o.lent[j]?).join).map (renB g) | none => upds B up1 i := by
            intro i
            rw [upds_append, upds_append, freshUp_get]
            have hfl : fresh'.length = o.fresh.length := by simp [fresh']
            rw [hfl]
            split
            · simp [fresh']
            · rw [backUp_get _ _ _ _ hnd (by simp [lent', hol])]
              split
              · rename_i j hj
                simp only [hj, lent', List.getElem?_map]
                cases o.lent[j]? with
                | none => rfl
                | some x => cases x <;> rfl
              · rename_i hj
                simp only [hj]
          have hg1 : ∀ {j i : Nat}, g j = some i → (ids[j]? = some i ∧ j < ids.length) ∨ (ids.length ≤ j ∧ i = base + (j - ids.length)) := by
            intro j i hg
            have hg' : backF ids base j = some i := hg
            unfold backF at hg'
            split at hg'
            · rename_i i' hi; cases hg'; exact .inl ⟨hi, (List.getElem?_eq_some_iff.1 hi).1⟩
            · rename_i hi; cases hg'; exact .inr ⟨by simpa using hi, rfl⟩
          have hEg : ∀ j i v, g j = some i → Ec' j = some v → E' i = some v := by
            intro j i v hj hv
            rcases hg1 hj with ⟨h1, _⟩ | ⟨h1, rfl⟩
            · obtain ⟨v0, h2, h3⟩ := hidE h1
              have := onc.ext _ _ h3
              rw [hv] at this; cases this
              exact hEold h2
            · show (if base ≤ base + (j - ids.length) ∧ base + (j - ids.length) < base + o.fresh.length then Ec' (ids.length + (base + (j - ids.length) - base)) else E _) = some v
              by_cases hlt : j - ids.length < o.fresh.length
              · rw [if_pos ⟨by omega, by omega⟩]
                have : ids.length + (base + (j - ids.length) - base) = j := by omega
                rw [this]; exact hv
              · rw [hnone j (by omega)] at hv; cases hv
          have hBg : ∀ j i v k', g j = some i → Ec' j = some v → upds B (up1 ++ backUp ids lent' ++ freshUp base fresh') i = some k' → ∃ k, OB ids.length o j = some k ∧ k' = renB g k := by
            intro j i v k' hj hv hk
            rw [hB'] at hk
            rcases hg1 hj with ⟨h1, hlt⟩ | ⟨h1, rfl⟩
            · obtain ⟨v0, h2, _⟩ := hidE h1
              rw [if_neg (fun h => by rw [hE0 h.1 h.2] at h2; cases h2), idx_of_nodup hnd h1] at hk
              obtain ⟨k, h3, h4⟩ := Option.map_eq_some_iff.1 hk
              exact ⟨k, by show (if j < ids.length then _ else _) = _; rw [if_pos hlt]; exact h3, h4.symm⟩
            · have hlt : j - ids.length < o.fresh.length := by
                by_cases hlt : j - ids.length < o.fresh.length
                · exact hlt
                · rw [hnone j (by omega)] at hv; cases hv
              rw [if_pos ⟨by omega, by omega⟩] at hk
              obtain ⟨k, h3, h4⟩ := Option.map_eq_some_iff.1 hk
              refine ⟨k, ?_, h4.symm⟩
              show (if j < ids.length then _ else _) = _
              rw [if_neg (by omega)]
              have : base + (j - ids.length) - base = j - ids.length := by omega
              rw [← this]; exact h3
          -- where a block behind the call comes from
          have hcase : ∀ {i k'}, upds B (up1 ++ backUp ids lent' ++ freshUp base fresh') i = some k' →
              (∃ j k, g j = some i ∧ OB ids.length o j = some k ∧ k' = renB g k ∧ ((ids.length ≤ j ∧ E i = none) ∨ (j < ids.length ∧ ids[j]? = some i))) ∨ (idx ids i = none ∧ E' i = E i ∧ upds B up1 i = some k') := by
            intro i k' hk
            rw [hB'] at hk
            split at hk
            · rename_i hr
              obtain ⟨k, h3, h4⟩ := Option.map_eq_some_iff.1 hk
              refine .inl ⟨ids.length + (i - base), k, ?_, ?_, h4.symm, .inl ⟨by omega, hE0 hr.1 hr.2⟩⟩
              · show backF ids base _ = _
                unfold backF
                rw [List.getElem?_eq_none (by omega)]
                simp only [Option.some.injEq]; omega
              · show (if _ < ids.length then _ else _) = _
                rw [if_neg (by omega)]
                have : ids.length + (i - base) - ids.length = i - base := by omega
                rw [this]; exact h3
            · rename_i hr
              split at hk
              · rename_i j hj
                obtain ⟨k, h3, h4⟩ := Option.map_eq_some_iff.1 hk
                have hji := idx_some hj
                have hlt : j < ids.length := (List.getElem?_eq_some_iff.1 hji).1
                refine .inl ⟨j, k, ?_, ?_, h4.symm, .inr ⟨hlt, hji⟩⟩
                · show backF ids base _ = _
                  unfold backF; rw [hji]
                · show (if j < ids.length then _ else _) = _
                  rw [if_pos hlt]; exact h3
              · rename_i hj
                exact .inr ⟨hj, by show (if _ then _ else _) = _; rw [if_neg hr], hk⟩
          have hup1 : ∀ i, upds B up1 i = B i ∨ (i ∈ snaps ∧ keep = false ∧ ∃ e s l, B i = some (.arr e s l) ∧ upds B up1 i = some (.frz e s l)) := by
            intro i
            cases hk : keep with
            | true => left; simp only [up1, hk]; rfl
            | false =>
              have : up1 = frzUp B snaps := by simp only [up1, hk]
              rw [this]
              rcases frzUp_get snaps B B i with h | ⟨h1, h2⟩
              · exact .inl h
              · exact .inr ⟨h1, rfl, h2⟩
          have hEcj : ∀ {j i : Nat} {v : Value}, ids[j]? = some i → E i = some v → Ec' j = some v := by
            intro j i v hj hv
            obtain ⟨v0, h1, h2⟩ := hidE hj
            rw [hv] at h1; cases h1
            exact onc.ext _ _ h2
          have mutc : ∀ {j k v b}, OB ids.length o j = some k → k.mut = true → Ec' j = some v → ob v = some b → Mut (OB ids.length o) Ec' b := fun h1 h2 h3 h4 => ⟨_, _, _, h1, h2, h3, h4⟩
          have hplain : keep = true → ∀ {j k}, OB ids.length o j = some k → plainB (some k) = true := by
            intro hk j k hob
            rw [hk] at hkeep
            simp only [Bool.and_eq_true, List.all_eq_true] at hkeep
            have hob' : (if j < ids.length then (o.lent[j]?).join else o.fresh[j - ids.length]?) = some k := hob
            split at hob'
            · cases hx : o.lent[j]? with
              | none => rw [hx] at hob'; cases hob'
              | some x => rw [hx] at hob'; cases x with
                | none => cases hob'
                | some y => cases hob'; exact hkeep.1.2 _ (List.mem_of_getElem? hx)
            · exact hkeep.2 _ (List.mem_of_getElem? hob')
          have hMt : keep = false → ∀ b, MX X (upds B (up1 ++ backUp ids lent' ++ freshUp base fresh')) E' b → MX Xc (OB ids.length o) Ec' b := by
            intro hkf b hb
            have noX : X b → ∀ {i k v}, B i = some k → k.mut = true → E i = some v → ob v = some b → False := by
              intro hX i k v h1 h2 h3 h4
              rcases (hw.own b ⟨i, k, v, h1, h2, h3, h4⟩).2 with h | h
              · have := (hw.far b hX).1; omega
              · exact (hw.far b hX).2 h
            rcases hb with ⟨i, k', v, hk, hm1, hv, hob⟩ | hX
            · rcases hcase hk with ⟨j, k, hgj, hobj, rfl, _⟩ | ⟨hi0, he1, hk1⟩
              · rw [mut_ren] at hm1
                obtain ⟨u2, hu2⟩ := (wrc'.blk j k hobj).env
                have := hEg j i u2 hgj hu2
                rw [hv] at this; cases this
                exact .inl (mutc hobj hm1 hu2 hob)
              · rw [he1] at hv
                rcases hup1 i with h1 | ⟨_, _, e, s, l, h2, h3⟩
                · rw [h1] at hk1
                  refine .inr ⟨.inl ⟨i, k', v, hk1, hm1, hv, hob⟩, notin hk1 hm1 hv hob hi0, ?_⟩
                  rintro ⟨i2, hi2, e, s, l, v2, c1, c2, c3⟩
                  have := hw.inj i i2 k' _ v v2 b hk1 c1 hm1 rfl hv c2 hob c3
                  subst this
                  have hu1 : up1 = frzUp B snaps := by simp only [up1, hkf]
                  rw [hu1, frzUp_mem snaps B B i e s l hi2 c1, c1] at h1
                  cases h1
                · rw [h3] at hk1; cases hk1; simp [Blk.mut] at hm1
            · refine .inr ⟨.inr hX, fun h => ?_, ?_⟩
              · obtain ⟨i, j, k, v, _, h2, h3, h4, h5⟩ := hmut h
                exact noX hX h2 h3 h4 h5
              · rintro ⟨i2, hi2, e, s, l, v2, c1, c2, c3⟩
                exact noX hX c1 rfl c2 c3
          have hon : On X w B E w' (upds B (up1 ++ backUp ids lent' ++ freshUp base fresh')) E' ∧ WR X w0 L w' (upds B (up1 ++ backUp ids lent' ++ freshUp base fresh')) E' := by
            refine turn hw wrc'.io (fun _ _ h => hEold h) ?_ wrc'.sz (fun b hb hnm => wrc'.fr b hb (fun h => hnm (hmutB h))) ?_ ?_ ?_
            · intro i k' hk
              rcases hcase hk with ⟨j, k, hgj, hob, rfl, hjj⟩ | ⟨_, _, hk1⟩
              · rcases hjj with ⟨_, h0⟩ | ⟨hlt, hji⟩
                · exact .inl h0
                · obtain ⟨v, hv, hvc⟩ := hidE hji
                  obtain ⟨kc, h1, h2, h3⟩ := onc.old j v k hvc hob
                  obtain ⟨i', k0, g1, g2, rfl⟩ := hBc h1
                  rw [hji] at g1; cases g1
                  refine .inr ⟨k0, g2, ?_, fun hm => ?_⟩
                  · show k0.shp = (renB g k).shp
                    rw [shp_ren, ← h2, shp_ren]
                  · rw [mut_ren] at hm
                    have := h3 hm
                    rwa [mut_ren] at this
              · rcases hup1 i with h1 | ⟨_, _, e, s, l, h2, h3⟩
                · rw [h1] at hk1; exact .inr ⟨k', hk1, rfl, fun x => x⟩
                · rw [h3] at hk1; cases hk1; exact .inr ⟨_, h2, rfl, fun x => by simp [Blk.mut] at x⟩
            · intro i k' v b h0 hk hm' hv hob
              rcases hcase hk with ⟨j, k, hgj, hobj, rfl, hjj⟩ | ⟨_, he1, _⟩
              · rcases hjj with ⟨hge, _⟩ | ⟨hlt, hji⟩
                · have hvj : Ec' j = some v := by
                    cases hx : Ec' j with
                    | none =>
                      obtain ⟨u, hu⟩ := (wrc'.blk j k hobj).env
                      rw [hx] at hu; cases hu
                    | some u => have := hEg j i u hgj hx; rw [hv] at this; exact this.symm
                  rw [mut_ren] at hm'
                  have hM' := mutc hobj hm' hvj hob
                  obtain ⟨hlt, hor⟩ := wrc'.own b hM'
                  refine ⟨hlt, ?_⟩
                  rcases hor with hor | hor
                  · exact .inl hor
                  · refine .inr ⟨hmutB hor, fun id0 k0 v0 hk0 hm0 hv0 hob0 => ?_⟩
                    obtain ⟨i1, j1, k1, v1, g1, g2, g3, g4, g5⟩ := hmut hor
                    have hj1 : j1 < ids.length := (List.getElem?_eq_some_iff.1 g1).1
                    -- id0 is i1
                    have hmB : ∃ kk, B id0 = some kk ∧ kk.mut = true := by
                      rcases hcase hk0 with ⟨j0, kc, a1, a2, rfl, a3⟩ | ⟨_, _, a3⟩
                      · rcases a3 with ⟨_, a4⟩ | ⟨a4, a5⟩
                        · rw [a4] at hv0; cases hv0
                        · obtain ⟨u, b1, b2⟩ := hidE a5
                          obtain ⟨kk, c1, _, c3⟩ := onc.old j0 u kc b2 a2
                          obtain ⟨i', kb, d1, d2, rfl⟩ := hBc c1
                          rw [a5] at d1; cases d1
                          rw [mut_ren] at hm0
                          have := c3 hm0
                          rw [mut_ren] at this
                          exact ⟨kb, d2, this⟩
                      · rcases hup1 id0 with h1 | ⟨_, _, e, s, l, h2, h3⟩
                        · rw [h1] at a3; exact ⟨k0, a3, hm0⟩
                        · rw [h3] at a3; cases a3; simp [Blk.mut] at hm0
                    obtain ⟨kk, e1, e2⟩ := hmB
                    have := hw.inj id0 i1 kk k1 v0 v1 b e1 g2 e2 g3 hv0 g4 hob0 g5
                    subst this
                    have hj1i := idx_of_nodup hnd g1
                    rcases hcase hk0 with ⟨j0, kc, a1, a2, rfl, a3⟩ | ⟨a1, _, _⟩
                    · rcases a3 with ⟨_, a4⟩ | ⟨a4, a5⟩
                      · rw [a4] at hv0; cases hv0
                      · have := idx_of_nodup hnd a5
                        rw [hj1i] at this; cases this
                        rw [mut_ren] at hm0
                        have := wrc'.inj j1 j kc k v0 v b a2 hobj hm0 hm' (hEcj g1 hv0) hvj hob0 hob
                        omega
                    · rw [hj1i] at a1; cases a1
                · obtain ⟨u, hu, _⟩ := hidE hji
                  rw [h0] at hu; cases hu
              · rw [he1, h0] at hv; cases hv
            · intro i i' k k' v v' b h0 h0' hk hk' hm1 hm1' hv hv' hob hob'
              rcases hcase hk with ⟨j, kc, a1, a2, rfl, a3⟩ | ⟨_, he1, _⟩
              · rcases hcase hk' with ⟨j', kc', b1, b2, rfl, b3⟩ | ⟨_, he1, _⟩
                · have ev : ∀ {j i k v}, g j = some i → OB ids.length o j = some k → E' i = some v → Ec' j = some v := by
                    intro j i k v h1 h2 h3
                    obtain ⟨u, hu⟩ := (wrc'.blk j k h2).env
                    have := hEg j i u h1 hu
                    rw [h3] at this; cases this; exact hu
                  rw [mut_ren] at hm1 hm1'
                  have := wrc'.inj j j' kc kc' v v' b a2 b2 hm1 hm1' (ev a1 a2 hv) (ev b1 b2 hv') hob hob'
                  subst this
                  rw [a1] at b1; exact Option.some.inj b1
                · rw [he1, h0'] at hv'; cases hv'
              · rw [he1, h0] at hv; cases hv
            · intro hon i k' hk
              rcases hcase hk with ⟨j, k, hgj, hobj, rfl, hjj⟩ | ⟨hi0, he1, hk1⟩
              · refine RB.ren hEg hBg hgj ?_ (wrc'.blk j k hobj)
                cases hkk : keep with
                | true => exact .inl (hplain hkk hobj)
                | false => exact .inr (hMt hkk)
              · rcases hup1 i with h1 | ⟨hsn1, hkf, e, s, l, h2, h3⟩
                · rw [h1] at hk1
                  exact (hw.blk i k' hk1).on hon (fun hm u b hu hob => wrc'.fr b (hw.own b ⟨i, k', u, hk1, hm, hu, hob⟩).1 (notin hk1 hm hu hob hi0))
                · rw [h3] at hk1; cases hk1
                  obtain ⟨u, xs, hu, ho, hc⟩ := hw.blk i _ h2
                  refine ⟨u, hEold hu, ?_, ?_⟩
                  · rcases own_block ho with ⟨rfl, hm0, hx⟩ | ⟨gg, cc, rfl, hlc, hob, hlt, hcell⟩
                    · exact ⟨none, 0, xs, by rw [hm0], by omega, hc.mono (RT.mono hon.stay s), .inl hx⟩
                    · have hnc := notin h2 rfl hu hob hi0
                      refine ⟨_, cc, xs, rfl, hlc, hc.mono (RT.mono hon.stay s), .inr ⟨gg, 0, rfl, ?_, fun j u hj => ?_⟩⟩
                      · rintro (⟨i2, k2, v2, a1, a2, a3, a4⟩ | hX)
                        · rcases hcase a1 with ⟨j2, kc2, b1, b2, rfl, _⟩ | ⟨_, b1, b2⟩
                          · rw [mut_ren] at a2
                            obtain ⟨u2, hu2⟩ := (wrc'.blk j2 kc2 b2).env
                            have := hEg j2 i2 u2 b1 hu2
                            rw [a3] at this; cases this
                            rcases (wrc'.own gg (mutc b2 a2 hu2 a4)).2 with h | h
                            · omega
                            · exact hnc h
                          · rw [b1] at a3
                            rcases hup1 i2 with c1 | ⟨_, _, e', s', l', c2, c3⟩
                            · rw [c1] at b2
                              have := hw.inj i2 i k2 _ v2 _ gg b2 h2 a2 rfl a3 hu a4 hob
                              subst this
                              rw [h2] at b2; rw [h3] at c1; rw [h2] at c1; cases c1
                            · rw [c3] at b2; cases b2; simp [Blk.mut] at a2
                        · rcases (hw.own gg ⟨i, _, _, h2, rfl, hu, hob⟩).2 with h | h
                          · have := (hw.far gg hX).1; omega
                          · exact (hw.far gg hX).2 h
                      · rw [Nat.zero_add, cell_heap (wrc'.fr gg hlt hnc)]
                        exact hcell j u hj
                  · rcases own_block ho with ⟨rfl, _, _⟩ | ⟨gg, cc, rfl, _⟩
                    · exact .inl rfl
                    · exact .inr ⟨gg, _, cc, rfl⟩
          refine ⟨E', hon.1, hon.2, RV.ren hEg hBg o.res v ?_ hrv, fun i h0 h1 => ?_⟩
          · cases hkk : keep with
            | true =>
              rw [hkk] at hkeep
              simp only [Bool.and_eq_true] at hkeep
              exact .inl hkeep.1.1
            | false => exact .inr (hMt hkk)
          · by_cases hr : base ≤ i ∧ i < base + o.fresh.length
            · exact ⟨hr.1, by omega⟩
            · exact (h1 (by show (if _ then _ else _) = _; rw [if_neg hr]; exact h0)).elim
        · cases h

theorem upds_filt {q : Nat → Bool} : ∀ (l : List (Nat × Option Blk)) (B : Bs), (∀ p ∈ l, q p.1 = false → p.2 = B p.1) → upds B (l.filter fun p => q p.1) = upds B l
  | [], B, h => rfl
  | (j, x) :: r, B, h => by
    rw [List.filter_cons]
    cases hq : q j
    · have hx : x = B j := h (j, x) List.mem_cons_self hq
      have hu : upd B j x = B := by
        funext i
        by_cases e : i = j
        · subst e; rw [upd_same, hx]
        · rw [upd_ne _ _ e]
      simp only [Bool.false_eq_true, if_false, upds]
      rw [hu]
      exact upds_filt r B (fun p hp => h p (List.mem_cons_of_mem _ hp))
    · simp only [if_true, upds]
      refine upds_filt r _ (fun p hp hqp => ?_)
      have : p.1 ≠ j := fun e => by rw [e, hq] at hqp; cases hqp
      rw [upd_ne _ _ this]
      exact h p (List.mem_cons_of_mem _ hp) hqp
theorem renIds_back {f g : Nat → Option Nat} : ∀ {l : List Nat}, (∀ i ∈ l, ∃ j, f i = some j ∧ g j = some i) → ∃ m, renIds f l = some m ∧ renIds g m = some l
  | [], _ => ⟨[], rfl, rfl⟩
  | i :: r, h => by
    obtain ⟨j, h1, h2⟩ := h i List.mem_cons_self
    obtain ⟨m, h3, h4⟩ := renIds_back (l := r) (fun k hk => h k (List.mem_cons_of_mem _ hk))
    exact ⟨j :: m, by simp only [renIds, h1, h3], by simp only [renIds, h2, h4]⟩
theorem renC_back {f g : Nat → Option Nat} {c : C} (h : ∀ i ∈ c.ids, ∃ j, f i = some j ∧ g j = some i) : renC g (renC f c) = c := by
  cases c with
  | row id => obtain ⟨j, h1, h2⟩ := h id (by simp [C.ids]); simp only [renC, h1, h2]
  | sub id o n => obtain ⟨j, h1, h2⟩ := h id (by simp [C.ids]); simp only [renC, h1, h2]
  | ptr id o => obtain ⟨j, h1, h2⟩ := h id (by simp [C.ids]); simp only [renC, h1, h2]
  | eptr id i o => obtain ⟨j, h1, h2⟩ := h id (by simp [C.ids]); simp only [renC, h1, h2]
  | fn g' caps =>
    obtain ⟨m, h1, h2⟩ := renIds_back (l := caps) (fun i hi => h i (by simpa [C.ids] using hi))
    simp only [renC, h1, h2]
  | int k n => rfl
  | bool b => rfl
  | str s => rfl
  | lst s l => rfl
  | vp s x j => rfl
  | nil => rfl
  | undef => rfl
theorem renB_back {f g : Nat → Option Nat} {k : Blk} (h : ∀ i ∈ (Blk.all (some k)).flatMap C.ids, ∃ j, f i = some j ∧ g j = some i) : renB g (renB f k) = k := by
  cases k with
  | box cs =>
    simp only [renB, List.map_map]
    congr 1
    refine (List.map_congr_left (g := id) (fun c hc => ?_)).trans (List.map_id _)
    exact renC_back (fun i hi => h i (List.mem_flatMap.2 ⟨c, hc, hi⟩))
  | arr e s l => rfl
  | frz e s l => rfl
theorem mem_backUp : ∀ {ids : List Nat} {bs : List (Option Blk)} {p : Nat × Option Blk}, p ∈ backUp ids bs → ∃ j : Nat, ids[j]? = some p.1 ∧ bs[j]? = some p.2
  | [], bs, p, h => by cases bs <;> cases h
  | i :: is, [], p, h => by cases h
  | i :: is, b :: bs, p, h => by
    simp only [backUp, List.mem_cons] at h
    rcases h with rfl | h
    · exact ⟨0, rfl, rfl⟩
    · obtain ⟨j, h1, h2⟩ := mem_backUp h
      exact ⟨j + 1, by simpa using h1, by simpa using h2⟩
theorem mem_freshUp : ∀ {fr : List Blk} {base : Nat} {p : Nat × Option Blk}, p ∈ freshUp base fr → base ≤ p.1 ∧ p.1 < base + fr.length
  | [], base, p, h => by cases h
  | b :: bs, base, p, h => by
    simp only [freshUp, List.mem_cons] at h
    rcases h with rfl | h
    · simp
    · have := mem_freshUp h
      simp only [List.length_cons]
      omega
theorem mem_frzUp : ∀ {l : List Nat} {p : Nat × Option Blk}, p ∈ frzUp B l → p.1 ∈ l
  | [], p, h => by cases h
  | i :: r, p, h => by
    simp only [frzUp] at h
    split at h
    · rcases List.mem_cons.1 h with rfl | h
      · exact List.mem_cons_self
      · exact List.mem_cons_of_mem _ (mem_frzUp h)
    · exact List.mem_cons_of_mem _ (mem_frzUp h)
theorem callC_ok {tab : FuncId → Option Summ} (hT : ∀ f G, tab f = some G → SoundFun P f G) (hw : WR X w0 L w B E) {base : Nat} (hn : ∀ j, base ≤ j → j < base + 16 → E j = none) {f : FuncId} {caps : List Nat} {ts : List TypeId} {args : List V} {us cps : List Value}
    (hargs : F2 (RV X w B E) args us) (henv : envs E caps = some cps) {e : Eff} (h : callC P tab B base f caps ts args = some (true, e)) :
    Callable P f ∧ Calls P f (us ++ cps).toArray w fun e' w' => ∃ v, e' = .returned v ∧ Done X w0 L w B E base e.up e.v w' v := by
  unfold callC at h
  split at h
  · cases h
  · rename_i c e0 h0
    split at h
    · cases h
    · rename_i G hG
      split at h
      · cases h
        exact callC0_ok hT hw hn hargs henv h0
      · rename_i j0 js hks
        simp only [Option.some.injEq, Prod.mk.injEq] at h
        obtain ⟨rfl, rfl⟩ := h
        have old := callC0_ok hT hw hn hargs henv h0
        have hK := (hT f G hG).2.2
        refine ⟨old.1, old.2.mono ?_⟩
        rintro e' w' ⟨v, he, hd⟩
        refine ⟨v, he, ?_⟩
        unfold Done at hd ⊢
        simp only at hd ⊢
        rw [upds_filt]
        · exact hd
        intro p hp hq
        unfold callC0 at h0
        rw [hG] at h0
        simp only at h0
        generalize hcs : (zipNil P ts args ++ capsV caps).flatMap V.all = cs at h0 hq
        generalize hids : reach B 60 (seedsOf G cs) [] = ids at h0 hq
        split at h0
        · cases h0
        · cases h0
        · rename_i bl hnb hbl
          simp only [Bool.and_eq_true] at hnb
          obtain ⟨hnd, hbx⟩ := hnb
          obtain ⟨hbll, hblg⟩ := getB_get hbl
          split at h0
          · cases h0
          · rename_i c' o hGo
            split at h0
            · rename_i hl1 hl2
              simp only [Option.some.injEq, Prod.mk.injEq] at h0
              obtain ⟨rfl, rfl⟩ := h0
              -- the name is kept
              have hk : p.1 ∈ keptIds B ids (j0 :: js) := by
                unfold notKept at hq
                split at hq
                · rename_i j hj
                  have := idx_some hj
                  exact List.mem_of_getElem? this
                · cases hq
              unfold keptIds at hk
              rw [List.mem_filter, List.mem_filterMap] at hk
              obtain ⟨⟨j, hj, hji⟩, hcl⟩ := hk
              obtain ⟨k, hk1, hk2⟩ := hblg j p.1 hji
              have hjl : j < ids.length := (List.getElem?_eq_some_iff.1 hji).1
              simp only [List.mem_append] at hp
              rcases hp with (hp | hp) | hp
              · split at hp
                · cases hp
                · have h1 := mem_frzUp hp
                  unfold snapsOf at h1
                  have h2 := (List.mem_filter.1 h1).2
                  rw [idx_of_nodup hnd hji] at h2
                  cases h2
              · obtain ⟨j', h1, h2⟩ := mem_backUp hp
                have e1 := idx_of_nodup hnd hji
                have e2 := idx_of_nodup hnd h1
                rw [e1] at e2
                have e3 : j = j' := Option.some.inj e2
                subst e3
                rw [← hks] at hj
                obtain ⟨b, hb1, hb2⟩ := hK _ _ _ hGo j hj
                rw [List.getElem?_map, hk1] at hb1
                simp only [Option.map_some, Option.some.injEq] at hb1
                rw [List.getElem?_map, hb2] at h2
                simp only [Option.map_some, Option.some.injEq] at h2
                rw [← h2, ← hb1, hk2]
                congr 1
                refine renB_back (fun i hi => ?_)
                unfold closedB at hcl
                rw [hk2, List.all_eq_true] at hcl
                have h3 := hcl i hi
                cases h4 : idx ids i with
                | none => rw [h4] at h3; cases h3
                | some q =>
                  refine ⟨q, rfl, ?_⟩
                  unfold backF
                  rw [idx_some h4]
              · have h1 := mem_freshUp hp
                have hfr := Nat.le_of_ble_eq_true hl2
                obtain ⟨v', hv'⟩ := (hw.blk p.1 k hk2).env
                rw [hn p.1 h1.1 (by omega)] at hv'
                cases hv'
            · cases h0
end Go.Rx
set_option linter.unusedVariables false
set_option linter.unusedSimpArgs false
namespace Go.Rx
variable {P : Program} {X : Nat → Prop} {w0 : World} {L : Nat → Prop} {w w' : World} {B B' : Bs} {E E' : En}
theorem vrun {s : Sem Value} {r : Value} (h : s.run P w = .ok r w') : (do pure (Next.value (← s)) : Sem Next).run P w = .ok (.value r) w' := by
  simp [h]
theorem still {up : List (Nat × Option Blk)} {base : Nat} {v : V} {u : Value} (hw : WR X w0 L w B E) (hu : up = []) (h : RV X w B E v u) : Done X w0 L w B E base up v w u := by
  subst hu; exact Done.same hw h

theorem toList1 {α : Type} {a : Array α} {x : α} (h : a.toList = [x]) : a = #[x] := by cases a; simp_all
theorem toList2 {α : Type} {a : Array α} {x y : α} (h : a.toList = [x, y]) : a = #[x, y] := by cases a; simp_all

theorem effOp_ok {tab : FuncId → Option Summ} (hT : ∀ f G, tab f = some G → SoundFun P f G) (hw : WR X w0 L w B E) {base : Nat} (hn : ∀ j, base ≤ j → j < base + 16 → E j = none) {a : Act} {tm : List V} (ht : F2 (RV X w B E) tm a.tmps.toList)
    {o : Oper} {e : Eff} (h : effOp P tab B base tm o = some (true, e)) {K : Act → World → Prop} {Q : Exit → Act → World → Prop} (hK : ∀ u w', Done X w0 L w B E base e.up e.v w' u → K (a.put o.dst u) w') : o.wp P a w K Q := by
  obtain ⟨dst, op, type, pos, after, guard⟩ := o
  have val : ∀ {u : Value} {w' : World}, (execOp a.eval ⟨dst, op, type, pos, after, guard⟩).run P w = .ok (.value u) w' → Done X w0 L w B E base e.up e.v w' u → Oper.wp P ⟨dst, op, type, pos, after, guard⟩ a w K Q := fun h1 h2 => wp_val h1 (hK _ _ h2)
  cases op with
  | move x =>
    simp only [effOp] at h
    split at h
    · rename_i v hv
      exact val (by simp [execOp]) (moveV_ok hw hn (ev_ok ht hv) h)
    · cases h
  | assign x =>
    simp only [effOp] at h
    split at h
    · rename_i v hv
      exact val (by simp [execOp]) (moveV_ok hw hn (ev_ok ht hv) h)
    · cases h
  | pick c x y =>
    simp only [effOp] at h
    split at h
    · rename_i b vx vy h1 h2 h3
      have e1 : a.eval c = .bool b := ev_ok ht h1
      have r2 := ev_ok ht h2
      have r3 := ev_ok ht h3
      split at h
      · rename_i x1 y1
        simp only [pu, Option.some.injEq, Prod.mk.injEq, true_and] at h
        subst h
        have e2 : a.eval x = .bool x1 := r2
        have e3 : a.eval y = .bool y1 := r3
        cases b
        · exact val (by simp [execOp, e1, asBool, e3]) (Done.same hw rfl)
        · exact val (by simp [execOp, e1, asBool, e2]) (Done.same hw rfl)
      · simp only [pu, Option.some.injEq, Prod.mk.injEq, true_and] at h
        subst h
        cases b
        · exact val (by simp [execOp, e1, asBool]) (Done.same hw r3)
        · exact val (by simp [execOp, e1, asBool]) (Done.same hw r2)
    · cases h
  | alloc t =>
    simp only [effOp] at h
    split at h
    · rename_i cs hz
      obtain ⟨z, hr, hc⟩ := zero_run (w := w) (X := X) (B := B) (E := E) hz
      refine val ?_ (boxOf_ok (vs := z.cells) hw hn (fun _ => hc) h)
      simp [execOp, Instr.alloc, hr, newVar, newRow]
    · cases h
  | box t x =>
    simp only [effOp] at h
    split at h
    · rename_i v hv
      refine val ?_ (boxOf_ok (vs := (a.eval x).cells) hw hn (fun hu => cells_ok (ev_ok ht hv) hu) h)
      simp [execOp, Instr.box, newVar, newRow]
    · cases h
  | build t ps =>
    simp only [effOp] at h
    split at h
    · rename_i vs hv
      obtain ⟨r, h2, h3⟩ := buildO_ok hw hn (evs_ok ht hv) h
      refine val ?_ h3
      have : (ps.map fun (i, x) => (i, a.eval x)) = (ps.toList.map fun (i, x) => (i, a.eval x)).toArray := by cases ps; simp
      simp only [execOp, this]
      exact vrun h2
    · cases h
  | buildSlice t n ps =>
    simp only [effOp] at h
    split at h
    · rename_i vs hv
      obtain ⟨r, w', h2, h3⟩ := buildSliceC_ok hw hn (evs_ok ht hv) h
      refine val ?_ h3
      have : (ps.map fun (i, x) => (i, a.eval x)) = (ps.toList.map fun (i, x) => (i, a.eval x)).toArray := by cases ps; simp
      simp only [execOp, this]
      exact vrun h2
    · cases h
  | load t x =>
    simp only [effOp] at h
    split at h
    · rename_i c hv
      obtain ⟨h1, r, h2, h3⟩ := loadC_ok hw (ev_ok ht hv) h
      exact val (by simp only [execOp]; exact vrun h2) (still hw h1 h3)
    · cases h
  | store t x y =>
    simp only [effOp] at h
    split at h
    · rename_i c v hx hy
      obtain ⟨w', h2, h3⟩ := storeC_ok (base := base) hw (ev_ok ht hx) (ev_ok ht hy) h
      refine wp_skp (w' := w') ?_ (hK _ _ h3)
      simp [execOp, h2]
    · cases h
  | nilCheck x =>
    simp only [effOp] at h
    split at h
    · rename_i id off hx
      split at h
      · rename_i cs hb
        cases h
        have r := ev_ok ht hx
        obtain ⟨b, h0, he⟩ := RC.ptr_box (X := X) (w := w) r hb
        exact val (by simp [execOp, he]; rfl) (Done.same hw (by rw [← he]; exact r))
      · cases h
    · rename_i s y j hx
      simp only [pu, Option.some.injEq, Prod.mk.injEq, true_and] at h
      subst h
      have r := ev_ok ht hx
      have r' := r
      obtain ⟨b, off, xs, he, _⟩ := r'
      exact val (by simp [execOp, he]; rfl) (Done.same hw (by rw [← he]; exact r))
    · rename_i f caps hx
      simp only [pu, Option.some.injEq, Prod.mk.injEq, true_and] at h
      subst h
      have r := ev_ok ht hx
      have r' := r
      obtain ⟨vs, _, he⟩ := r'
      exact val (by simp [execOp, he]; rfl) (Done.same hw (by rw [← he]; exact r))
    · cases h
  | binOp bop t x y yt =>
    simp only [effOp] at h
    split at h
    · rename_i v1 v2 hx hy
      obtain ⟨h1, hg, r, h2, h3⟩ := binC_ok (ox := x) (oy := y) (ev_ok ht hx) (ev_ok ht hy) h
      exact val (by simp [execOp, hg, h2]) (still hw h1 h3)
    · cases h
  | unOp uop t x =>
    simp only [effOp] at h
    split at h
    · rename_i v hx
      obtain ⟨h1, r, h2, h3⟩ := unC_ok (P := P) (ev_ok ht hx) h
      exact val (by simp only [execOp]; exact vrun h2) (still hw h1 h3)
    · cases h
  | convert s d x =>
    simp only [effOp] at h
    split at h
    · rename_i ds v hs hx
      obtain ⟨h1, r, h2, h3⟩ := convC_ok (s := s) (by rw [hs]; simp) (ev_ok ht hx) h
      exact val (by simp only [execOp]; exact vrun h2) (still hw h1 h3)
    · cases h
  | makeFunc fn first caps =>
    cases fn with
    | func f =>
      simp only [effOp] at h
      split at h
      · rename_i vs h1 h2
        split at h
        · rename_i ids hp
          cases h
          have hfirst : first = #[] := by cases first; simp_all
          subst hfirst
          have henv := ptrCaps_ok hw hp (evl_ok ht h2)
          refine val (u := .func (.func f) #[] (caps.map a.eval)) ?_ (Done.same hw ⟨_, henv, by cases caps; simp⟩)
          simp [execOp, Instr.makeFunc]
        · cases h
      · cases h
    | _ => simp [effOp] at h
  | makeSlice t n c =>
    simp only [effOp] at h
    split at h
    · rename_i kn n' kc c' h1 h2
      obtain ⟨v1, g1, g2⟩ := Option.bind_eq_some_iff.1 h1
      obtain ⟨v2, g3, g4⟩ := Option.bind_eq_some_iff.1 h2
      have e1 := intOf_ok g2 (ev_ok ht g1)
      have e2 := intOf_ok g4 (ev_ok ht g3)
      obtain ⟨r, w', h3, h4⟩ := makeC_ok (kn := kn) (kc := kc) hw hn h
      exact val (by simp only [execOp, e1, e2]; exact vrun h3) h4
    · cases h
  | slice t x lo hi mx =>
    simp only [effOp] at h
    split at h
    · rename_i v hx
      split at h
      · rename_i lo' hi' h1 h2
        have ro : ∀ {y : Option Operand} {y' : Option V}, (match y with | none => some none | some z => (ev tm z).map some) = some y' → RO X w B E y' (y.map a.eval) := by
          intro y y' hy
          cases y with
          | none => simp at hy; subst hy; trivial
          | some z =>
            obtain ⟨v, hv, rfl⟩ := Option.map_eq_some_iff.1 hy
            exact ev_ok ht hv
        obtain ⟨h3, r, h4, h5⟩ := sliceC_ok (base := base) hw (ev_ok ht hx) (ro h1) (ro h2) h
        exact val (by simp only [execOp, Option.map_none]; exact vrun h4) (still hw h3 h5)
      · cases h
    · cases h
  | fieldAddr t x f =>
    simp only [effOp] at h
    split at h
    · rename_i c hx
      obtain ⟨h1, r, h2, h3⟩ := fieldAddrC_ok (ev_ok ht hx) h
      exact val (by simp only [execOp]; exact vrun h2) (still hw h1 h3)
    · cases h
  | field t x f =>
    simp only [effOp] at h
    split at h
    · rename_i v hx
      obtain ⟨h1, r, h2, h3⟩ := fieldC_ok (w := w) (ev_ok ht hx) h
      exact val (by simp only [execOp]; exact vrun h2) (still hw h1 h3)
    · cases h
  | indexAddr t x i =>
    simp only [effOp] at h
    split at h
    · rename_i c k n hx hi
      obtain ⟨v1, g1, g2⟩ := Option.bind_eq_some_iff.1 hi
      have e1 := intOf_ok g2 (ev_ok ht g1)
      obtain ⟨h1, r, h2, h3⟩ := indexAddrC_ok (k := k) hw (ev_ok ht hx) h
      exact val (by simp only [execOp, e1]; exact vrun h2) (still hw h1 h3)
    · cases h
  | index t x i =>
    simp only [effOp] at h
    split at h
    · rename_i v k n hx hi
      obtain ⟨v1, g1, g2⟩ := Option.bind_eq_some_iff.1 hi
      have e1 := intOf_ok g2 (ev_ok ht g1)
      obtain ⟨h1, r, h2, h3⟩ := indexC_ok (k := k) (w := w) (ev_ok ht hx) h
      exact val (by simp only [execOp, e1]; exact vrun h2) (still hw h1 h3)
    · cases h
  | extract x i =>
    simp only [effOp] at h
    split at h
    · rename_i ps hx
      obtain ⟨vs, he, hps⟩ := (ev_ok ht hx : RV X w B E (.tup ps) _)
      split at h
      · rename_i cs hp
        simp only [pu, Option.some.injEq, Prod.mk.injEq, true_and] at h
        subst h
        obtain ⟨u, hu, hr⟩ := hps.get hp
        have hu' : vs[i]? = some u := by simpa using hu
        exact val (u := u) (by simp [execOp, he, Instr.extract, hu']) (Done.same hw hr)
      · rename_i c hp
        simp only [pu, Option.some.injEq, Prod.mk.injEq, true_and] at h
        subst h
        obtain ⟨u, hu, c', hc', hr⟩ := hps.get hp
        cases hc'
        have hu' : vs[i]? = some u := by simpa using hu
        exact val (u := u) (by simp [execOp, he, Instr.extract, hu']) (Done.same hw hr)
      · cases h
    · cases h
  | call c =>
    simp only [effOp] at h
    have bi : ∀ {b : Builtin}, c.callee = .builtin b → execOp a.eval ⟨dst, .call c, type, pos, after, guard⟩ = builtin b c.argTypes type (c.args.map fun | .const _ => true | _ => false) (c.args.map a.eval) := by
      intro b hb
      simp only [execOp, resolve, hb]
      rfl
    split at h
    · rename_i hb
      split at h
      · rename_i x t hx htt
        have e1 := toList1 hx
        have e2 := toList1 htt
        split at h
        · rename_i n el hu
          simp only [pu, Option.some.injEq, Prod.mk.injEq, true_and] at h
          subst h
          refine val (u := .int .i64 n) ?_ (Done.same hw rfl)
          rw [bi hb, e1, e2]
          simp [builtin, Builtin.len_, run_underlying hu, goInt]
        · rename_i el hu
          split at h
          · rename_i d hd
            split at h
            · rename_i n rd hl
              cases h
              obtain ⟨ad, cp, he⟩ := lenOfC_ok hw (ev_ok ht hd) hl
              refine val (u := .int .i64 n) ?_ (Done.same hw rfl)
              rw [bi hb, e1, e2]
              simp [builtin, Builtin.len_, run_underlying hu, goInt, he]
            · cases h
          · cases h
        · cases h
      · cases h
    · rename_i hb
      split at h
      · rename_i x y t t' hx htt
        have e1 := toList2 hx
        have e2 := toList2 htt
        split at h
        · rename_i c1 c2 hc1 hc2
          split at h
          · rename_i hteq
            have := beq_of hteq; subst this
            obtain ⟨r, w', h2, h3⟩ := appendC_ok (ty := type) hw hn (ev_ok ht hc1) (ev_ok ht hc2) h
            refine val ?_ h3
            rw [bi hb, e1, e2]
            simp [builtin, h2]
          · cases h
        · cases h
      · cases h
    · rename_i hb
      split at h
      · rename_i x y t ts hx htt
        have e1 := toList2 hx
        split at h
        · rename_i c1 c2 hc1 hc2
          obtain ⟨r, w', h2, h3⟩ : ∃ r w', (Builtin.copy_ c.argTypes type #[a.eval x, a.eval y]).run P w = .ok r w' ∧ Done X w0 L w B E base e.up e.v w' r := by
            obtain ⟨r, w', h2, h3⟩ := copyC_ok (base := base) (t' := 0) (ty := type) hw (ev_ok ht hc1) (ev_ok ht hc2) h
            refine ⟨r, w', ?_, h3⟩
            have ha : c.argTypes[0]? = some t := by have := congrArg (·[0]?) htt; simpa using this
            simpa [Builtin.copy_, ha] using h2
          refine val ?_ h3
          rw [bi hb, e1]
          simp [builtin, h2]
        · cases h
      · cases h
    · rename_i hb
      split at h
      · rename_i d r hvs
        split at h
        · rename_i v hm
          simp only [pu, Option.some.injEq, Prod.mk.injEq, true_and] at h
          subst h
          have hF := evl_ok ht hvs
          cases hl : c.args.toList with
          | nil => rw [hl] at hF; exact hF.elim
          | cons x xs =>
            rw [hl] at hF
            obtain ⟨ur, h2, h3⟩ := minmax_ok true r (xs.map a.eval) hF.1 hF.2 hm
            refine val (u := ur) ?_ (Done.same hw h3)
            rw [bi hb]
            have : (c.args.map a.eval).toList = a.eval x :: xs.map a.eval := by simp [hl]
            have h2' : (List.foldlM Builtin.max2 (a.eval x) (xs.map a.eval)).run P w = .ok ur w := h2
            simp [builtin, Builtin.max_, hl, h2']
        · cases h
      · cases h
    · rename_i hb
      split at h
      · rename_i d r hvs
        split at h
        · rename_i v hm
          simp only [pu, Option.some.injEq, Prod.mk.injEq, true_and] at h
          subst h
          have hF := evl_ok ht hvs
          cases hl : c.args.toList with
          | nil => rw [hl] at hF; exact hF.elim
          | cons x xs =>
            rw [hl] at hF
            obtain ⟨ur, h2, h3⟩ := minmax_ok false r (xs.map a.eval) hF.1 hF.2 hm
            refine val (u := ur) ?_ (Done.same hw h3)
            rw [bi hb]
            have : (c.args.map a.eval).toList = a.eval x :: xs.map a.eval := by simp [hl]
            have h2' : (List.foldlM Builtin.min2 (a.eval x) (xs.map a.eval)).run P w = .ok ur w := h2
            simp [builtin, Builtin.min_, hl, h2']
        · cases h
      · cases h
    · rename_i g hb
      split at h
      · rename_i f caps vs hg hvs
        obtain ⟨cps, henv, he⟩ := (ev_ok ht hg : RV X w B E (.one (.fn f caps)) _)
        obtain ⟨hcb, hcalls⟩ := callC_ok hT hw hn (evl_ok ht hvs) henv h
        unfold Oper.wp
        have hrun : (execOp a.eval ⟨dst, .call c, type, pos, after, guard⟩).run P w = .ok (.enter f ((c.args.toList.map a.eval) ++ cps).toArray) w := by
          have := run_callFunc (P := P) (w := w) hcb ((c.args.map a.eval) ++ cps.toArray)
          simp only [execOp, resolve, hb, he, Deferred.ofValue, Sem.run_bind, Sem.run_pure, Result.andThen_ok, invoke]
          have harr : (c.args.map a.eval) ++ cps.toArray = ((c.args.toList.map a.eval) ++ cps).toArray := by cases hca : c.args; simp
          rw [harr] at this
          simp only [Array.empty_append, harr]
          exact this
        rw [hrun]
        refine hcalls.mono ?_
        rintro e' w' ⟨v, rfl, hd⟩
        exact hK _ _ hd
      · cases h
    · cases h
  | _ => simp [effOp] at h
end Go.Rx
set_option linter.unusedVariables false
set_option linter.unusedSimpArgs false
namespace Go.Rx
variable {P : Program} {DF : List Deferred} {X : Nat → Prop} {w0 : World} {L : Nat → Prop} {w w' : World} {B B' : Bs} {E E' : En}
def SR (DF : List Deferred) (X : Nat → Prop) (w0 : World) (B0 : Bs) (E0 : En) (L : Nat → Prop) (st : St) (a : Act) (w : World) : Prop :=
  ∃ E, On X w0 B0 E0 w st.bs E ∧ WR X w0 L w st.bs E ∧ F2 (RV X w st.bs E) st.tm a.tmps.toList ∧ a.defers = DF ∧ ∀ id, st.nx ≤ id → E id = none

theorem cnd_some {α : Type} {b : Bool} {x : Option α} {r : α} (h : cnd b x = some r) : b = true ∧ x = some r := by
  cases b
  · cases h
  · exact ⟨rfl, h⟩

theorem putT_ok {tm : List V} {a : Act} (ht : F2 (RV X w B E) tm a.tmps.toList) (dst : Option Tmp) {v : V} {u : Value} (h : RV X w B E v u) : F2 (RV X w B E) (putT tm dst v) (a.put dst u).tmps.toList := by
  cases dst with
  | none => exact ht
  | some d =>
    show F2 _ (tm.set d v) (a.tmps.setIfInBounds d u).toList
    rw [Array.toList_setIfInBounds]
    exact ht.set d h
theorem put_defers (a : Act) (dst : Option Tmp) (u : Value) : (a.put dst u).defers = a.defers := by cases dst <;> rfl

theorem guardV_ok {ops : Array Oper} {tm : List V} {a : Act} (ht : F2 (RV X w B E) tm a.tmps.toList) {o : Oper} {b : Bool} (h : guardV ops.toList tm o = some b) : Region.wanted o (yielded ops a.tmps) = b := by
  unfold guardV at h
  unfold Region.wanted
  cases hg : o.guard with
  | none => rw [hg] at h; cases h; rfl
  | some p =>
    obtain ⟨j, want⟩ := p
    rw [hg] at h
    simp only at h ⊢
    have hops : ops.toList[j]? = ops[j]? := by simp
    rw [hops] at h
    cases hd : (ops[j]?).bind (·.dst) with
    | none =>
      rw [hd] at h; cases h
      simp [yielded, hd]
    | some d =>
      rw [hd] at h
      simp only at h
      split at h
      · rename_i bb htm
        cases h
        obtain ⟨u, hu, hr⟩ := ht.get htm
        have e1 : u = .bool bb := hr
        subst e1
        have hu' : a.tmps[d]? = some (.bool bb) := by simpa using hu
        simp [yielded, hd, hu']
      · rename_i ps htm
        cases h
        obtain ⟨u, hu, vs, e1, _⟩ := ht.get htm
        subst e1
        have hu' : a.tmps[d]? = some (.tuple vs) := by simpa using hu
        simp [yielded, hd, hu']
      · cases h

variable {tab : FuncId → Option Summ} {B0 : Bs} {E0 : En}
theorem wpOps_skip {ops : Array Oper} {Q : Exit → Act → World → Prop} {i : Nat} {rest : List Nat} {a : Act} {o : Oper} (ho : ops[i]? = some o) (hw : Region.wanted o (yielded ops a.tmps) = false) (h : wpOps P ops Q rest (a.put o.dst undef) w) : wpOps P ops Q (i :: rest) a w := by
  simp only [wpOps, ho, hw]; exact h
theorem wpOps_step {ops : Array Oper} {Q : Exit → Act → World → Prop} {i : Nat} {rest : List Nat} {a : Act} {o : Oper} (ho : ops[i]? = some o) (hw : Region.wanted o (yielded ops a.tmps) = true) (h : o.wp P a w (wpOps P ops Q rest) Q) : wpOps P ops Q (i :: rest) a w := by
  simp only [wpOps, ho, hw, if_true]; exact .inl h

theorem runR_ok {α : Type} (hT : ∀ f G, tab f = some G → SoundFun P f G) {ops : Array Oper} {K : St → Option α} {r : α} {Q : Exit → Act → World → Prop} (hK : ∀ st a w, SR DF X w0 B0 E0 L st a w → K st = some r → Q .normal a w) :
    ∀ (rest : List Oper) (i : Nat) (st : St) (a : Act) (w : World) (E : En), (∀ j, rest[j]? = ops[i + j]?) → i + rest.length = ops.size → runR P tab ops.toList i rest st K = some r →
      On X w0 B0 E0 w st.bs E → WR X w0 L w st.bs E → F2 (RV X w st.bs E) st.tm a.tmps.toList → a.defers = DF → (∀ id, st.nx + 16 * i ≤ id → E id = none) → wpOps P ops Q (List.range' i rest.length) a w
  | [], i, st, a, w, E, hl, hn, h, ho0, hw, ht, hd, hE => by
    simp only [runR] at h
    simp only [List.length_nil, List.range'_zero, wpOps]
    refine hK ⟨st.tm, st.bs, st.nx + 16 * ops.toList.length⟩ a w ⟨E, ho0, hw, ht, hd, fun id hid => hE id ?_⟩ h
    have hid' : st.nx + 16 * ops.toList.length ≤ id := hid
    simp at hn hid'
    omega
  | o :: rest, i, st, a, w, E, hl, hn, h, ho0, hw, ht, hd, hE => by
    have ho : ops[i]? = some o := by have := hl 0; simpa using this.symm
    have hl' : ∀ j, rest[j]? = ops[i + 1 + j]? := fun j => by have := hl (j + 1); simpa [Nat.add_assoc, Nat.add_comm 1 j] using this
    have hn' : i + 1 + rest.length = ops.size := by simp at hn; omega
    simp only [List.length_cons, List.range'_succ]
    simp only [runR] at h
    split at h
    · cases h
    · rename_i hg
      refine wpOps_skip ho (guardV_ok ht hg) ?_
      exact runR_ok hT hK rest (i + 1) _ _ w E hl' hn' h ho0 hw (putT_ok ht o.dst ⟨#[], rfl, trivial⟩) (by rw [put_defers]; exact hd) (fun id hid => hE id (by simp only at hid; omega))
    · rename_i hg
      refine wpOps_step ho (guardV_ok ht hg) ?_
      split at h
      · cases h
      · rename_i c e he
        obtain ⟨rfl, h⟩ := cnd_some h
        refine effOp_ok hT hw (fun j h1 h2 => hE j (by omega)) ht he ?_
        rintro u w' ⟨E', hon, hw', hv, hnew⟩
        have go : ∀ {v : V}, v = e.v → runR P tab ops.toList (i + 1) rest (stepSt st st.nx o ⟨v, e.rd, e.up⟩) K = some r → wpOps P ops Q (List.range' (i + 1) rest.length) (a.put o.dst u) w' := by
          rintro v rfl h
          refine runR_ok hT hK rest (i + 1) _ _ w' E' hl' hn' h (ho0.trans hon) hw' ?_ (by rw [put_defers]; exact hd) (fun id hid => ?_)
          · exact putT_ok (tms_on hon ht) o.dst hv
          · cases hx : E' id with
            | none => rfl
            | some v =>
              exfalso
              have hid' : st.nx + 16 * (i + 1) ≤ id := hid
              have := hnew id (hE id (by omega)) (by rw [hx]; simp)
              omega
        split at h
        · rename_i b _ hv2
          cases b
          · exact go hv2.symm h
          · exact go hv2.symm h
        · exact go rfl h
end Go.Rx
set_option linter.unusedVariables false
set_option linter.unusedSimpArgs false
namespace Go.Rx
variable {P : Program} {B B' : Bs}
theorem rdl_loc {s : Sh} {c : C} (h : ∀ i ∈ c.rowIds, B' i = B i) : rdl B' s c = rdl B s c := by
  cases c <;> simp only [rdl]
  case row id => rw [h id (by simp [C.rowIds])]
  case sub id o n => rw [h id (by simp [C.rowIds])]

theorem rowIdsL_cons {c : C} {cs : List C} : rowIdsL (c :: cs) = c.rowIds ++ rowIdsL cs := by simp [rowIdsL]

theorem toT_loc : ∀ (s : Sh) (cs : List C), (∀ i ∈ rowIdsL cs, B' i = B i) → toT B' s cs = toT B s cs ∧ ∀ x r, toT B s cs = some (x, r) → ∀ i ∈ rowIdsL r, i ∈ rowIdsL cs
  | .int k, c :: cs, h => by
    refine ⟨rfl, fun x r hh i hi => ?_⟩
    simp only [toT] at hh
    split at hh
    · split at hh
      · cases hh; rw [rowIdsL_cons]; exact List.mem_append.2 (.inr hi)
      · cases hh
    · cases hh
  | .bool, c :: cs, h => by
    refine ⟨rfl, fun x r hh i hi => ?_⟩
    simp only [toT] at hh
    split at hh
    · cases hh; rw [rowIdsL_cons]; exact List.mem_append.2 (.inr hi)
    · cases hh
  | .str, c :: cs, h => by
    refine ⟨rfl, fun x r hh i hi => ?_⟩
    simp only [toT] at hh
    split at hh
    · cases hh; rw [rowIdsL_cons]; exact List.mem_append.2 (.inr hi)
    · cases hh
  | .sl s, c :: cs, h => by
    have e := rdl_loc (B := B) (B' := B') (s := s) (c := c) (fun i hi => h i (by rw [rowIdsL_cons]; exact List.mem_append.2 (.inl hi)))
    refine ⟨by simp only [toT, e], fun x r hh i hi => ?_⟩
    simp only [toT] at hh
    split at hh
    · cases hh; rw [rowIdsL_cons]; exact List.mem_append.2 (.inr hi)
    · cases hh
  | .pair a b, cs, h => by
    obtain ⟨h1, h2⟩ := toT_loc a cs h
    simp only [toT, h1]
    cases hx : toT B a cs with
    | none => exact ⟨rfl, fun _ _ hh => by cases hh⟩
    | some p =>
      obtain ⟨x, r⟩ := p
      obtain ⟨h3, h4⟩ := toT_loc b r (fun i hi => h i (h2 x r hx i hi))
      simp only [h3]
      refine ⟨trivial, fun y r' hh i hi => ?_⟩
      cases hy : toT B b r with
      | none => rw [hy] at hh; cases hh
      | some q =>
        obtain ⟨y', r''⟩ := q
        rw [hy] at hh; cases hh
        exact h2 x r hx i (h4 y' _ hy i hi)
  | .int _, [], _ => ⟨rfl, fun _ _ hh => by simp [toT] at hh⟩
  | .bool, [], _ => ⟨rfl, fun _ _ hh => by simp [toT] at hh⟩
  | .str, [], _ => ⟨rfl, fun _ _ hh => by simp [toT] at hh⟩
  | .sl _, [], _ => ⟨rfl, fun _ _ hh => by simp [toT] at hh⟩

theorem toTs_loc (s : Sh) : ∀ (n : Nat) (cs : List C), (∀ i ∈ rowIdsL cs, B' i = B i) → toTs B' s n cs = toTs B s n cs
  | 0, [], _ => rfl
  | 0, _ :: _, _ => rfl
  | n + 1, cs, h => by
    obtain ⟨h1, h2⟩ := toT_loc s cs h
    simp only [toTs, h1]
    cases hx : toT B s cs with
    | none => rfl
    | some p =>
      obtain ⟨x, r⟩ := p
      simp only [toTs_loc s n r (fun i hi => h i (h2 x r hx i hi))]

theorem frzUp_loc : ∀ (ids : List Nat), (∀ i ∈ ids, B' i = B i) → frzUp B' ids = frzUp B ids
  | [], _ => rfl
  | a :: r, h => by
    simp only [frzUp, h a List.mem_cons_self, frzUp_loc r (fun i hi => h i (List.mem_cons_of_mem _ hi))]

theorem loadC_loc {t : TypeId} {x : C} {c : Bool} {e : Eff} (h : loadC P B t x = some (c, e)) (hr : ∀ i ∈ e.rd, B' i = B i) : loadC P B' t x = some (c, e) := by
  have key : ∀ id, (loadC P B t x = some (c, e) → id ∈ e.rd) → B' id = B id := fun id hid => hr id (hid h)
  cases x <;> simp only [loadC] at h ⊢ <;> try exact h
  case ptr id off =>
    have : B' id = B id := by
      refine hr id ?_
      split at h
      · split at h
        · cases h; simp
        · cases h
      · cases h
    rw [this]; exact h
  case eptr id i j =>
    have : B' id = B id := by
      refine hr id ?_
      split at h
      · split at h
        · cases h; simp
        · cases h
      · split at h
        · cases h; simp
        · cases h
      · cases h
    rw [this]; exact h

theorem storeC_loc {t : TypeId} {v : V} {x : C} {c : Bool} {e : Eff} (h : storeC P B t v x = some (c, e)) (hr : ∀ i ∈ e.rd, B' i = B i) : storeC P B' t v x = some (c, e) := by
  cases x <;> simp only [storeC] at h ⊢ <;> try exact h
  case ptr id off =>
    have : B' id = B id := by
      refine hr id ?_
      split at h
      · split at h
        · cases h
        · split at h
          · split at h
            · cases h; simp
            · cases h
          · cases h
      · cases h
    rw [this]; exact h
  case eptr id i j =>
    have hrd : e.rd = id :: rowIdsL v.cells := by
      split at h
      · split at h
        · cases h
        · split at h
          · split at h
            · cases h; rfl
            · cases h
          · cases h
      · cases h
    rw [hrd] at hr
    rw [hr id List.mem_cons_self]
    cases hb : B id with
    | none => rw [hb] at h; cases h
    | some k =>
      rw [hb] at h
      cases k with
      | box cs => cases h
      | frz e s l => cases h
      | arr ety s l =>
        simp only at h ⊢
        have e1 : toT B' s (splice (s.cells (l.getD i s.d)) j v.cells) = toT B s (splice (s.cells (l.getD i s.d)) j v.cells) := (toT_loc s _ (fun i hi => by
          rcases rowIds_splice hi with hh | hh
          · rw [rowIds_cells] at hh; cases hh
          · exact hr i (List.mem_cons_of_mem _ hh))).1
        rw [e1, frzUp_loc _ (fun i hi => hr i (List.mem_cons_of_mem _ hi))]
        exact h

theorem appendC_loc {base : Nat} {t : TypeId} {x y : C} {c : Bool} {e : Eff} (h : appendC P B base t x y = some (c, e)) (hr : ∀ i ∈ e.rd, B' i = B i) : appendC P B' base t x y = some (c, e) := by
  simp only [appendC] at h ⊢
  cases hel : elemOf P t with
  | none => rw [hel] at h; cases h
  | some el =>
    obtain ⟨ety, s, bytes, z0⟩ := el
    rw [hel] at h
    simp only at h ⊢
    have hsub : (∀ i ∈ y.rowIds, i ∈ e.rd) ∧ (∀ id, x = .row id → id ∈ e.rd) := by
      split at h
      · cases h
      · split at h
        · split at h
          · split at h
            · cases h; exact ⟨fun i hi => List.mem_cons_of_mem _ hi, fun id hid => by cases hid; simp⟩
            · cases h
          · cases h
        · cases h; exact ⟨fun i hi => hi, fun id hid => by cases hid⟩
        · cases h
    rw [rdl_loc (fun i hi => hr i (hsub.1 i hi))]
    cases hy : rdl B s y with
    | none => rw [hy] at h; cases h
    | some ys =>
      rw [hy] at h
      cases x <;> try exact h
      case row id => dsimp only at h ⊢; rw [hr id (hsub.2 id rfl)]; exact h

theorem copyC_loc {t : TypeId} {x y : C} {c : Bool} {e : Eff} (h : copyC P B t x y = some (c, e)) (hr : ∀ i ∈ e.rd, B' i = B i) : copyC P B' t x y = some (c, e) := by
  simp only [copyC] at h ⊢
  cases hel : elemOf P t with
  | none => rw [hel] at h; cases h
  | some el =>
    obtain ⟨ety, s, bytes, z0⟩ := el
    rw [hel] at h
    simp only at h ⊢
    split at h
    · cases h
    · rename_i h1
      have hsub : (∀ i ∈ y.rowIds, i ∈ e.rd) ∧ (∀ id ∈ x.rowIds, id ∈ e.rd) := by
        split at h
        · cases h
        · split at h
          · split at h
            · split at h
              · cases h; exact ⟨fun i hi => List.mem_cons_of_mem _ hi, fun i hi => by simp [C.rowIds] at hi; subst hi; simp⟩
              · cases h
            · cases h
          · split at h
            · split at h
              · cases h; exact ⟨fun i hi => List.mem_cons_of_mem _ hi, fun i hi => by simp [C.rowIds] at hi; subst hi; simp⟩
              · cases h
            · cases h
          · cases h
      rw [rdl_loc (fun i hi => hr i (hsub.1 i hi))]
      cases hy : rdl B s y with
      | none => rw [hy] at h; cases h
      | some ys =>
        rw [hy] at h
        cases x <;> try exact h
        case row id => dsimp only at h ⊢; rw [hr id (hsub.2 id (by simp [C.rowIds]))]; exact h
        case sub id o n => dsimp only at h ⊢; rw [hr id (hsub.2 id (by simp [C.rowIds]))]; exact h

theorem sliceC_loc {t : TypeId} {x : V} {lo hi : Option V} {c : Bool} {e : Eff} (h : sliceC P B t x lo hi = some (c, e)) (hr : ∀ i ∈ e.rd, B' i = B i) : sliceC P B' t x lo hi = some (c, e) := by
  simp only [sliceC] at h ⊢
  cases hu : P.underlying t with
  | none => rw [hu] at h; cases h
  | some d =>
    rw [hu] at h
    cases d <;> try exact h
    case slice el =>
      simp only at h ⊢
      cases x with
      | agg cs => exact h
      | tup ps => exact h
      | one cc =>
        cases cc <;> try exact h
        case row id =>
          have : B' id = B id := by
            refine hr id ?_
            simp only at h
            (repeat' split at h) <;> first | (cases h; done) | (cases h; simp)
          simp only [this] at h ⊢; exact h
        case sub id o n =>
          have : B' id = B id := by
            refine hr id ?_
            simp only at h
            (repeat' split at h) <;> first | (cases h; done) | (cases h; simp)
          simp only [this] at h ⊢; exact h

theorem indexAddrC_loc {t : TypeId} {x : C} {n : Int} {c : Bool} {e : Eff} (h : indexAddrC P B t x n = some (c, e)) (hr : ∀ i ∈ e.rd, B' i = B i) : indexAddrC P B' t x n = some (c, e) := by
  unfold indexAddrC at h ⊢
  cases hu : P.underlying t with
  | none => rw [hu] at h; cases h
  | some d =>
    rw [hu] at h
    cases d <;> try exact h
    case array m el =>
      dsimp only at h ⊢
      cases hz : size P el with
      | none => rw [hz] at h; cases h
      | some z =>
        rw [hz] at h
        dsimp only at h ⊢
        cases hzz : Nat.beq z 0 with
        | true => rw [hzz] at h; cases h
        | false =>
          rw [hzz] at h
          cases x <;> try exact h
          case ptr id off =>
            dsimp only at h ⊢
            have : B' id = B id := by
              refine hr id ?_
              (repeat' split at h) <;> first | (cases h; done) | (cases h; simp)
            rw [this]; exact h
          case eptr id i j =>
            dsimp only at h ⊢
            have : B' id = B id := by
              refine hr id ?_
              (repeat' split at h) <;> first | (cases h; done) | (cases h; simp)
            rw [this]; exact h
    case slice el =>
      dsimp only at h ⊢
      cases hz : size P el with
      | none => rw [hz] at h; cases h
      | some z =>
        rw [hz] at h
        cases x <;> try exact h
        case row id =>
          dsimp only at h ⊢
          have : B' id = B id := by
            refine hr id ?_
            (repeat' split at h) <;> first | (cases h; done) | (cases h; simp)
          rw [this]; exact h
        case sub id o m =>
          dsimp only at h ⊢
          have : B' id = B id := by
            refine hr id ?_
            (repeat' split at h) <;> first | (cases h; done) | (cases h; simp)
          rw [this]; exact h

theorem fieldAddrC_loc {t : TypeId} {x : C} {f : Nat} {c : Bool} {e : Eff} (h : fieldAddrC P B t x f = some (c, e)) (hr : ∀ i ∈ e.rd, B' i = B i) : fieldAddrC P B' t x f = some (c, e) := by
  cases x <;> simp only [fieldAddrC] at h ⊢ <;> try exact h
  case ptr id o =>
    have : B' id = B id := by
      refine hr id ?_
      (repeat' split at h) <;> first | (cases h; done) | (cases h; simp)
    simp only [this]; exact h
  case eptr id i j =>
    have : B' id = B id := by
      refine hr id ?_
      (repeat' split at h) <;> first | (cases h; done) | (cases h; simp)
    simp only [this]; exact h

theorem lenOfC_loc {c : C} {n : Nat} {rd : List Nat} (h : lenOfC B c = some (n, rd)) (hr : ∀ i ∈ rd, B' i = B i) : lenOfC B' c = some (n, rd) := by
  cases c <;> simp only [lenOfC] at h ⊢ <;> try exact h
  case row id =>
    have : B' id = B id := by
      refine hr id ?_
      (repeat' split at h) <;> first | (cases h; done) | (cases h; simp)
    simp only [this]; exact h
  case sub id o m =>
    have : B' id = B id := by
      refine hr id ?_
      (repeat' split at h) <;> first | (cases h; done) | (cases h; simp)
    simp only [this]; exact h

theorem ptrCaps_loc : ∀ {vs : List V} {ids : List Nat}, ptrCaps B vs = some ids → (∀ i ∈ ids, B' i = B i) → ptrCaps B' vs = some ids
  | [], ids, h, _ => h
  | v :: vs, ids, h, hr => by
    unfold ptrCaps at h ⊢
    split at h
    · rename_i id
      split at h
      · rename_i cs l hb hl
        cases h
        rw [hr id List.mem_cons_self, hb, ptrCaps_loc hl (fun i hi => hr i (List.mem_cons_of_mem _ hi))]
      · cases h
    · cases h

theorem reach_mono : ∀ (n : Nat) (work acc : List Nat), ∀ i ∈ acc, i ∈ reach B n work acc
  | 0, _, _, _, h => h
  | n + 1, [], _, _, h => h
  | n + 1, a :: r, acc, i, h => by
    simp only [reach]
    split
    · exact reach_mono n r acc i h
    · split
      · exact reach_mono n r acc i h
      · exact reach_mono n _ _ i (List.mem_append.2 (.inl h))
theorem reach_loc : ∀ (n : Nat) (work acc : List Nat), (∀ i ∈ work, B' i = B i) → (∀ j ∈ reach B n work acc, ∀ i ∈ (Blk.all (B j)).flatMap C.ids, B' i = B i) → reach B' n work acc = reach B n work acc
  | 0, _, _, _, _ => rfl
  | n + 1, [], _, _, _ => rfl
  | n + 1, a :: r, acc, hw, hR => by
    simp only [reach] at hR ⊢
    rw [hw a List.mem_cons_self]
    cases hx : idx acc a with
    | some _ =>
      rw [hx] at hR
      exact reach_loc n r acc (fun i hi => hw i (List.mem_cons_of_mem _ hi)) hR
    | none =>
      rw [hx] at hR
      cases hb : B a with
      | none =>
        rw [hb] at hR
        exact reach_loc n r acc (fun i hi => hw i (List.mem_cons_of_mem _ hi)) hR
      | some b =>
        rw [hb] at hR
        simp only at hR ⊢
        refine reach_loc n _ _ (fun i hi => ?_) hR
        rcases List.mem_append.1 hi with h | h
        · exact hw i (List.mem_cons_of_mem _ h)
        · exact hR a (reach_mono n _ _ a (List.mem_append.2 (.inr (by simp)))) i (by rw [hb]; exact h)

theorem getB_loc : ∀ (ids : List Nat), (∀ i ∈ ids, B' i = B i) → getB B' ids = getB B ids
  | [], _ => rfl
  | a :: r, h => by simp only [getB, h a List.mem_cons_self, getB_loc r (fun i hi => h i (List.mem_cons_of_mem _ hi))]
theorem boxesOk_loc : ∀ (ids : List Nat), (∀ i ∈ ids, B' i = B i) → boxesOk B' ids = boxesOk B ids
  | [], _ => rfl
  | a :: r, h => by simp only [boxesOk, h a List.mem_cons_self, boxesOk_loc r (fun i hi => h i (List.mem_cons_of_mem _ hi))]
theorem snapC_loc {ids : List Nat} {c : C} (h : ∀ i ∈ c.rowIds, B' i = B i) : snapC B' ids c = snapC B ids c := by
  cases c <;> simp only [snapC]
  case row id => rw [h id (by simp [C.rowIds])]
  case sub id o n => rw [h id (by simp [C.rowIds])]
theorem snapV_loc {ids : List Nat} {v : V} (h : ∀ i ∈ rowIdsL v.all, B' i = B i) : snapV B' ids v = snapV B ids v := by
  cases v with
  | one c => simp only [snapV]; rw [snapC_loc (fun i hi => h i (by simp [V.all, rowIdsL]; exact hi))]
  | agg cs =>
    simp only [snapV]
    congr 1
    refine List.map_congr_left (fun c hc => snapC_loc (fun i hi => h i ?_))
    exact List.mem_flatMap.2 ⟨c, hc, hi⟩
  | tup ps => rfl

theorem caps_ptr : ∀ {caps : List Nat} {i : Nat}, i ∈ caps → i ∈ ((capsV caps).flatMap V.all).flatMap ptrIds
  | a :: r, i, h => by
    simp only [capsV, List.flatMap_cons, List.flatMap_append, List.mem_append]
    rcases List.mem_cons.1 h with rfl | h
    · exact .inl (by simp [V.all, ptrIds])
    · exact .inr (caps_ptr h)

theorem callC0_loc {tab : FuncId → Option Summ} {base : Nat} {f : FuncId} {caps : List Nat} {ts : List TypeId} {args : List V} {c : Bool} {e : Eff} (h : callC0 P tab B base f caps ts args = some (c, e)) (hr : ∀ i ∈ e.rd, B' i = B i) : callC0 P tab B' base f caps ts args = some (c, e) := by
  unfold callC0 at h ⊢
  cases hG : tab f with
  | none => rw [hG] at h; cases h
  | some G =>
    rw [hG] at h
    simp only at h ⊢
    generalize hvs : zipNil P ts args ++ capsV caps = vs at h ⊢
    generalize hids : reach B 60 (seedsOf G (vs.flatMap V.all)) [] = ids at h
    have hrd : e.rd = (vs.flatMap V.all).flatMap ptrIds ++ rowIdsL (vs.flatMap V.all) ++ ids ++ ids.flatMap (fun i => (Blk.all (B i)).flatMap C.ids) := by
      split at h
      · cases h
      · cases h
      · split at h
        · cases h
        · split at h
          · cases h; rfl
          · cases h
    rw [hrd] at hr
    have h1 : ∀ i ∈ (vs.flatMap V.all).flatMap ptrIds, B' i = B i := fun i hi => hr i (by simp only [List.mem_append]; exact .inl (.inl (.inl hi)))
    have h2 : ∀ i ∈ rowIdsL (vs.flatMap V.all), B' i = B i := fun i hi => hr i (by simp only [List.mem_append]; exact .inl (.inl (.inr hi)))
    have h3 : ∀ i ∈ ids, B' i = B i := fun i hi => hr i (by simp only [List.mem_append]; exact .inl (.inr hi))
    have h4 : ∀ j ∈ ids, ∀ i ∈ (Blk.all (B j)).flatMap C.ids, B' i = B i := fun j hj i hi => hr i (by simp only [List.mem_append]; exact .inr (List.mem_flatMap.2 ⟨j, hj, hi⟩))
    have hsd : ∀ i ∈ seedsOf G (vs.flatMap V.all), B' i = B i := by
      intro i hi
      unfold seedsOf at hi
      rcases List.mem_append.1 hi with hi | hi
      · exact h1 i hi
      · split at hi
        · exact h2 i hi
        · cases hi
    have hreach : reach B' 60 (seedsOf G (vs.flatMap V.all)) [] = ids := by
      rw [reach_loc 60 _ _ hsd (by rw [hids]; exact h4), hids]
    rw [hreach, getB_loc ids h3, boxesOk_loc caps (fun i hi => h1 i (by rw [← hvs]; simp only [List.flatMap_append, List.mem_append]; exact .inr (caps_ptr hi)))]
    have hsn : vs.map (snapV B' ids) = vs.map (snapV B ids) := List.map_congr_left (fun v hv => snapV_loc (fun i hi => h2 i (by
      obtain ⟨c, hc, hi⟩ := List.mem_flatMap.1 hi
      exact List.mem_flatMap.2 ⟨c, List.mem_flatMap.2 ⟨v, hv, hc⟩, hi⟩)))
    have hfm : ids.flatMap (fun i => (Blk.all (B' i)).flatMap C.ids) = ids.flatMap (fun i => (Blk.all (B i)).flatMap C.ids) := by
      simp only [List.flatMap_def]
      congr 1
      exact List.map_congr_left (fun i hi => by rw [h3 i hi])
    have hfz : frzUp B' (snapsOf ids (vs.flatMap V.all)) = frzUp B (snapsOf ids (vs.flatMap V.all)) :=
      frzUp_loc _ (fun i hi => h2 i (List.mem_filter.1 hi).1)
    rw [hsn, hfm, hfz]
    exact h

theorem ids_loc {tab : FuncId → Option Summ} {base : Nat} {f : FuncId} {caps : List Nat} {ts : List TypeId} {args : List V} {c : Bool} {e : Eff} {G : Summ} (hG : tab f = some G) (h : callC0 P tab B base f caps ts args = some (c, e)) (hr : ∀ i ∈ e.rd, B' i = B i) :
    reach B' 60 (seedsOf G ((zipNil P ts args ++ capsV caps).flatMap V.all)) [] = reach B 60 (seedsOf G ((zipNil P ts args ++ capsV caps).flatMap V.all)) [] ∧ ∀ i ∈ reach B 60 (seedsOf G ((zipNil P ts args ++ capsV caps).flatMap V.all)) [], B' i = B i := by
  unfold callC0 at h
  rw [hG] at h
  simp only at h
  generalize zipNil P ts args ++ capsV caps = vs at h ⊢
  generalize hids : reach B 60 (seedsOf G (vs.flatMap V.all)) [] = ids at h ⊢
  have hrd : e.rd = (vs.flatMap V.all).flatMap ptrIds ++ rowIdsL (vs.flatMap V.all) ++ ids ++ ids.flatMap (fun i => (Blk.all (B i)).flatMap C.ids) := by
    split at h
    · cases h
    · cases h
    · split at h
      · cases h
      · split at h
        · cases h; rfl
        · cases h
  rw [hrd] at hr
  have h1 : ∀ i ∈ (vs.flatMap V.all).flatMap ptrIds, B' i = B i := fun i hi => hr i (by simp only [List.mem_append]; exact .inl (.inl (.inl hi)))
  have h2 : ∀ i ∈ rowIdsL (vs.flatMap V.all), B' i = B i := fun i hi => hr i (by simp only [List.mem_append]; exact .inl (.inl (.inr hi)))
  have h3 : ∀ i ∈ ids, B' i = B i := fun i hi => hr i (by simp only [List.mem_append]; exact .inl (.inr hi))
  have h4 : ∀ j ∈ ids, ∀ i ∈ (Blk.all (B j)).flatMap C.ids, B' i = B i := fun j hj i hi => hr i (by simp only [List.mem_append]; exact .inr (List.mem_flatMap.2 ⟨j, hj, hi⟩))
  have hsd : ∀ i ∈ seedsOf G (vs.flatMap V.all), B' i = B i := by
    intro i hi
    unfold seedsOf at hi
    rcases List.mem_append.1 hi with hi | hi
    · exact h1 i hi
    · split at hi
      · exact h2 i hi
      · cases hi
  exact ⟨by rw [reach_loc 60 _ _ hsd (by rw [hids]; exact h4), hids], h3⟩
theorem callC_loc {tab : FuncId → Option Summ} {base : Nat} {f : FuncId} {caps : List Nat} {ts : List TypeId} {args : List V} {c : Bool} {e : Eff} (h : callC P tab B base f caps ts args = some (c, e)) (hr : ∀ i ∈ e.rd, B' i = B i) : callC P tab B' base f caps ts args = some (c, e) := by
  unfold callC at h ⊢
  cases h0 : callC0 P tab B base f caps ts args with
  | none => rw [h0] at h; cases h
  | some p =>
    obtain ⟨c0, e0⟩ := p
    rw [h0] at h
    simp only at h
    cases hG : tab f with
    | none => rw [hG] at h; cases h
    | some G =>
      rw [hG] at h
      simp only at h
      have hrd : e.rd = e0.rd := by
        split at h
        · cases h; rfl
        · cases h; rfl
      rw [hrd] at hr
      rw [callC0_loc h0 hr]
      simp only
      obtain ⟨i1, i2⟩ := ids_loc hG h0 hr
      split at h
      · exact h
      · rename_i j0 js hks
        rw [i1]
        generalize reach B 60 (seedsOf G ((zipNil P ts args ++ capsV caps).flatMap V.all)) [] = ids at h i2 ⊢
        have hk : keptIds B' ids (j0 :: js) = keptIds B ids (j0 :: js) := by
          unfold keptIds
          refine List.filter_congr (fun i hi => ?_)
          obtain ⟨j, _, hj⟩ := List.mem_filterMap.1 hi
          unfold closedB
          rw [i2 i (List.mem_of_getElem? hj)]
        rw [hk]
        exact h

theorem effOp_loc {tab : FuncId → Option Summ} {base : Nat} {tm : List V} {o : Oper} {c : Bool} {e : Eff} (h : effOp P tab B base tm o = some (c, e)) (hr : ∀ i ∈ e.rd, B' i = B i) : effOp P tab B' base tm o = some (c, e) := by
  obtain ⟨dst, op, type, pos, after, guard⟩ := o
  cases op <;> try exact h
  case buildSlice t n ps =>
    simp only [effOp] at h ⊢
    split at h
    · rename_i vs hv
      unfold buildSliceC at h ⊢
      cases hel : elemOf P t with
      | none => rw [hel] at h; cases h
      | some el =>
        obtain ⟨ety, s, bytes, z0⟩ := el
        rw [hel] at h
        simp only at h ⊢
        split at h
        · rename_i z hz hle
          split at h
          · rename_i cs hf
            have hrd : e.rd = rowIdsL cs := by
              split at h
              · cases h; rfl
              · cases h
            rw [hrd] at hr
            rw [toTs_loc s n cs hr, frzUp_loc _ hr]
            exact h
          · cases h
        · cases h
    · cases h
  case load t x =>
    simp only [effOp] at h ⊢
    split at h
    · exact loadC_loc h hr
    · cases h
  case store t x y =>
    simp only [effOp] at h ⊢
    split at h
    · exact storeC_loc h hr
    · cases h
  case nilCheck x =>
    simp only [effOp] at h ⊢
    split at h
    · rename_i id off hx
      have : B' id = B id := by
        refine hr id ?_
        split at h
        · cases h; simp
        · cases h
      rw [this]; exact h
    · exact h
    · exact h
    · cases h
  case makeFunc fn first caps =>
    cases fn <;> try exact h
    case func f =>
      simp only [effOp] at h ⊢
      split at h
      · rename_i vs h1 h2
        cases hp : ptrCaps B vs with
        | none => rw [hp] at h; cases h
        | some ids =>
          rw [hp] at h
          cases h
          rw [ptrCaps_loc hp hr]
      · cases h
  case slice t x lo hi mx =>
    simp only [effOp] at h ⊢
    split at h
    · split at h
      · exact sliceC_loc h hr
      · cases h
    · cases h
  case fieldAddr t x f =>
    simp only [effOp] at h ⊢
    split at h
    · exact fieldAddrC_loc h hr
    · cases h
  case indexAddr t x i =>
    simp only [effOp] at h ⊢
    split at h
    · exact indexAddrC_loc h hr
    · cases h
  case call cl =>
    simp only [effOp] at h ⊢
    split at h
    · split at h
      · split at h
        · exact h
        · split at h
          · split at h
            · rename_i n rd hl
              cases h
              rw [lenOfC_loc hl hr]
            · cases h
          · cases h
        · cases h
      · cases h
    · split at h
      · split at h
        · split at h
          · exact appendC_loc h hr
          · cases h
        · cases h
      · cases h
    · split at h
      · split at h
        · exact copyC_loc h hr
        · cases h
      · cases h
    · exact h
    · exact h
    · split at h
      · exact callC_loc h hr
      · cases h
    · cases h
end Go.Rx
set_option linter.unusedVariables false
set_option linter.unusedSimpArgs false
namespace Go.Rx
variable {P : Program} {DF : List Deferred} {X : Nat → Prop} {w0 : World} {L : Nat → Prop} {w w' : World} {B B' : Bs} {E E' : En} {tab : FuncId → Option Summ} {ops : Array Oper} {nx : Nat} {B0 : Bs} {E0 : En}
theorem evl_congr {tm tm' : List V} : ∀ {l : List Operand}, (∀ x ∈ l, ev tm x = ev tm' x) → evl tm l = evl tm' l
  | [], _ => rfl
  | x :: r, h => by simp only [evl, h x List.mem_cons_self, evl_congr (fun y hy => h y (List.mem_cons_of_mem _ hy))]
theorem evs_congr {tm tm' : List V} : ∀ {l : List (Nat × Operand)}, (∀ p ∈ l, ev tm p.2 = ev tm' p.2) → evs tm l = evs tm' l
  | [], _ => rfl
  | (i, x) :: r, h => by
    have h1 : ev tm x = ev tm' x := h (i, x) List.mem_cons_self
    simp only [evs, h1, evs_congr (fun y hy => h y (List.mem_cons_of_mem _ hy))]

theorem effOp_congr {base : Nat} {tm tm' : List V} {o : Oper} (h : ∀ x ∈ o.op.operands, ev tm x = ev tm' x) : effOp P tab B base tm o = effOp P tab B base tm' o := by
  obtain ⟨dst, op, type, pos, after, guard⟩ := o
  cases op <;> try rfl
  case move x => simp only [effOp, h x (by simp [Op.operands])]
  case assign x => simp only [effOp, h x (by simp [Op.operands])]
  case pick c x y => simp only [effOp, h c (by simp [Op.operands]), h x (by simp [Op.operands]), h y (by simp [Op.operands])]
  case box t x => simp only [effOp, h x (by simp [Op.operands])]
  case build t ps => simp only [effOp]; rw [evs_congr (fun p hp => h p.2 (by simp [Op.operands]; exact ⟨p.1, by simpa using hp⟩))]
  case buildSlice t n ps => simp only [effOp]; rw [evs_congr (fun p hp => h p.2 (by simp [Op.operands]; exact ⟨p.1, by simpa using hp⟩))]
  case load t x => simp only [effOp, h x (by simp [Op.operands])]
  case store t x y => simp only [effOp, h x (by simp [Op.operands]), h y (by simp [Op.operands])]
  case nilCheck x => simp only [effOp, h x (by simp [Op.operands])]
  case binOp bop t x y yt => simp only [effOp, h x (by simp [Op.operands]), h y (by simp [Op.operands])]
  case unOp u t x => simp only [effOp, h x (by simp [Op.operands])]
  case convert s d x => simp only [effOp, h x (by simp [Op.operands])]
  case makeFunc fn first caps =>
    cases fn <;> try rfl
    simp only [effOp]
    rw [evl_congr (fun x hx => h x (by simp only [Op.operands, Array.mem_append]; exact .inr (by simpa using hx)))]
  case makeSlice t n c => simp only [effOp, h n (by simp [Op.operands]), h c (by simp [Op.operands])]
  case slice t x lo hi mx =>
    simp only [effOp, h x (by simp [Op.operands])]
    cases lo with
    | none =>
      cases hi with
      | none => rfl
      | some y => simp only [h y (by simp [Op.operands])]
    | some z =>
      cases hi with
      | none => simp only [h z (by simp [Op.operands])]
      | some y => simp only [h y (by simp [Op.operands]), h z (by simp [Op.operands])]
  case fieldAddr t x f => simp only [effOp, h x (by simp [Op.operands])]
  case field t x f => simp only [effOp, h x (by simp [Op.operands])]
  case indexAddr t x i => simp only [effOp, h x (by simp [Op.operands]), h i (by simp [Op.operands])]
  case index t x i => simp only [effOp, h x (by simp [Op.operands]), h i (by simp [Op.operands])]
  case extract x i => simp only [effOp, h x (by simp [Op.operands])]
  case call c =>
    have ha : ∀ x ∈ c.args.toList, ev tm x = ev tm' x := fun x hx => h x (by simp only [Op.operands, Call.operands, Array.mem_append]; exact .inr (by simpa using hx))
    simp only [effOp]
    rw [evl_congr ha]
    cases hc : c.callee with
    | invoke r m => rfl
    | value g => simp only [h g (by simp [Op.operands, Call.operands, hc])]
    | builtin b =>
      cases b <;> try rfl
      all_goals
        cases hl : c.args.toList with
        | nil => rfl
        | cons x r =>
          have hx : ev tm x = ev tm' x := ha x (by rw [hl]; simp)
          cases r with
          | nil => first
            | rfl
            | (cases c.argTypes.toList with
              | nil => rfl
              | cons t ts => cases ts with
                | nil => simp only [hx]
                | cons _ _ => rfl)
          | cons y r2 =>
            have hy : ev tm y = ev tm' y := ha y (by rw [hl]; simp)
            cases r2 with
            | nil => first
              | rfl
              | (cases c.argTypes.toList with
                | nil => rfl
                | cons t ts => cases ts with
                  | nil => first | rfl | simp only [hx, hy]
                  | cons t2 ts2 => cases ts2 with
                    | nil => simp only [hx, hy]
                    | cons _ _ => first | rfl | simp only [hx, hy])
            | cons z r3 => rfl

theorem ev_put {tm : List V} {d : Tmp} {v : V} {x : Operand} (h : x ≠ .tmp d) : ev (tm.set d v) x = ev tm x := by
  cases x with
  | tmp t =>
    simp only [ev]
    rw [List.getElem?_set_ne (fun e => h (by rw [e]))]
  | _ => rfl
theorem effOp_put {base : Nat} {tm : List V} {dst : Option Tmp} {v : V} {o : Oper} (h : ∀ d, dst = some d → d ∉ o.looksAt ops) : effOp P tab B base (putT tm dst v) o = effOp P tab B base tm o := by
  cases dst with
  | none => rfl
  | some d =>
    refine effOp_congr (fun x hx => ev_put (fun e => h d rfl ?_))
    subst e
    exact List.mem_append_left _ (List.mem_filterMap.2 ⟨.tmp d, by simpa using hx, rfl⟩)
theorem guardV_put {tm : List V} {dst : Option Tmp} {v : V} {o : Oper} (h : ∀ d, dst = some d → d ∉ o.looksAt ops) : guardV ops.toList (putT tm dst v) o = guardV ops.toList tm o := by
  cases dst with
  | none => rfl
  | some d =>
    unfold guardV
    cases hg : o.guard with
    | none => rfl
    | some p =>
      obtain ⟨j, want⟩ := p
      simp only [Array.getElem?_toList]
      cases hd : (ops[j]?).bind (·.dst) with
      | none => rfl
      | some d' =>
        have hne : d ≠ d' := fun e => h d rfl (by subst e; exact List.mem_append_right _ (by simp [hg, hd]))
        show (match (tm.set d v)[d']? with | some (.one (.bool b)) => some (b == want) | some (.tup _) => some false | _ => none) = _
        rw [List.getElem?_set_ne hne]
        rfl

theorem putT_comm (tm : List V) {x y : Option Tmp} (v u : V) (h : ∀ d, x = some d → y ≠ some d) : putT (putT tm x v) y u = putT (putT tm y u) x v := by
  cases x with
  | none => rfl
  | some d =>
    cases y with
    | none => rfl
    | some e => exact List.set_comm v u (fun he => h d rfl (by rw [he]))

theorem disj_iff : ∀ {l m : List Nat}, disj l m = true → ∀ i ∈ l, i ∉ m
  | [], _, _, i, h => by cases h
  | a :: r, m, h, i, hi => by
    simp only [disj, Bool.and_eq_true] at h
    rcases List.mem_cons.1 hi with rfl | hi
    · cases hx : idx m i with
      | none => exact idx_none hx
      | some j => rw [hx] at h; cases h.1
    · exact disj_iff h.2 i hi

theorem upds_ne : ∀ {up : List (Nat × Option Blk)} {B : Bs} {i : Nat}, i ∉ up.map (·.1) → upds B up i = B i
  | [], _, _, _ => rfl
  | (j, x) :: r, B, i, h => by
    simp only [upds]
    rw [upds_ne (fun hm => h (by simp at hm ⊢; exact .inr hm)), upd_ne _ _ (fun e => h (by simp [e]))]
theorem upds_in : ∀ {up : List (Nat × Option Blk)} {B B' : Bs} {i : Nat}, i ∈ up.map (·.1) → upds B up i = upds B' up i
  | [], _, _, _, h => by simp at h
  | (j, x) :: r, B, B', i, h => by
    simp only [upds]
    by_cases hr : i ∈ r.map (·.1)
    · exact upds_in hr
    · rw [upds_ne hr, upds_ne hr]
      have : i = j := by simp at h hr; rcases h with h | h; exact h; obtain ⟨y, hy⟩ := h; exact (hr y hy).elim
      subst this
      rw [upd_same, upd_same]
theorem upds_comm {B : Bs} {u v : List (Nat × Option Blk)} (h : ∀ i ∈ u.map (·.1), i ∉ v.map (·.1)) : upds (upds B u) v = upds (upds B v) u := by
  funext i
  by_cases h1 : i ∈ u.map (·.1)
  · rw [upds_ne (h i h1)]; exact upds_in h1
  · rw [upds_ne (up := u) h1]
    by_cases h2 : i ∈ v.map (·.1)
    · exact upds_in h2
    · rw [upds_ne h2, upds_ne h2, upds_ne h1]

theorem setLog_same (lg : Log) (i : Nat) (x : List Nat × List Nat) : setLog lg i x i = some x := by
  show (match Nat.beq i i with | true => some x | false => lg i) = _
  rw [Nat.beq_refl]
theorem setLog_ne (lg : Log) {i j : Nat} (x : List Nat × List Nat) (h : j ≠ i) : setLog lg i x j = lg j := by
  show (match Nat.beq j i with | true => some x | false => lg j) = _
  have : Nat.beq j i = false := by cases hb : Nat.beq j i; rfl; exact (h (beq_of hb)).elim
  rw [this]
theorem setLog_comm (lg : Log) {i j : Nat} (x y : List Nat × List Nat) (h : i ≠ j) : setLog (setLog lg i x) j y = setLog (setLog lg j y) i x := by
  funext n
  by_cases h1 : n = i
  · subst h1; rw [setLog_ne _ _ h, setLog_same, setLog_same]
  · by_cases h2 : n = j
    · subst h2; rw [setLog_same, setLog_ne _ _ h1, setLog_same]
    · rw [setLog_ne _ _ h2, setLog_ne _ _ h1, setLog_ne _ _ h1, setLog_ne _ _ h2]

def Dis (r u r' u' : List Nat) : Prop := (∀ i ∈ r, i ∉ u') ∧ (∀ i ∈ u, i ∉ r') ∧ (∀ i ∈ u, i ∉ u')
def Clash (ops : Array Oper) (i : Nat) (o : Oper) (r u : List Nat) (lg : Log) : Prop :=
  ∀ n on, n ≠ i → ops[n]? = some on → ∀ r' u', lg n = some (r', u') → waits2 ops.toList o n = true ∨ waits2 ops.toList on i = true ∨ Dis r u r' u'

def apT (o : Oper) (y : Option Eff) (tm : List V) : List V := match y with | none => putT tm o.dst (.tup []) | some e => putT tm o.dst e.v
def apB (y : Option Eff) (bs : Bs) : Bs := match y with | none => bs | some e => upds bs e.up
def apL (i : Nat) (y : Option Eff) (lg : Log) : Log := match y with | none => lg | some e => setLog lg i (e.rd, e.up.map (·.1))

def Yl (P : Program) (tab : FuncId → Option Summ) (ops : Array Oper) (nx i : Nat) (o : Oper) (y : Option Eff) (tm : List V) (bs : Bs) (lg : Log) : Prop :=
  match y with
  | none => guardV ops.toList tm o = some false
  | some e => guardV ops.toList tm o = some true ∧ effOp P tab bs (nx + 16 * i) tm o = some (true, e) ∧ Clash ops i o e.rd (e.up.map (·.1)) lg

def aOp (P : Program) (tab : FuncId → Option Summ) (ops : Array Oper) (nx i : Nat) (K : List V → Bs → Log → Prop) (tm : List V) (bs : Bs) (lg : Log) : Prop :=
  ∃ o, ops[i]? = some o ∧ ∃ y, Yl P tab ops nx i o y tm bs lg ∧ K (apT o y tm) (apB y bs) (apL i y lg)

def aAny (P : Program) (tab : FuncId → Option Summ) (ops : Array Oper) (nx : Nat) (Q : List V → Bs → Prop) : Nat → Array Bool → List V → Bs → Log → Prop
  | 0, listed, tm, bs, lg => Region.ready .any ops listed = [] ∧ Q tm bs
  | fuel + 1, listed, tm, bs, lg => (Region.ready .any ops listed = [] → Q tm bs) ∧ ∀ i ∈ Region.ready .any ops listed, aOp P tab ops nx i (aAny P tab ops nx Q fuel (listed.setIfInBounds i true)) tm bs lg

theorem swap {i j : Nat} {oi oj : Oper} (hne : i ≠ j) (hi : ops[i]? = some oi) (hj : ops[j]? = some oj) (hap : oi.apart ops oj = true) (hwi : waits2 ops.toList oi j = false) (hwj : waits2 ops.toList oj i = false) {yi yj : Option Eff} {tm : List V} {bs : Bs} {lg : Log} (hlg : lg i = none)
    (h1 : Yl P tab ops nx i oi yi tm bs lg) (h2 : Yl P tab ops nx j oj yj (apT oi yi tm) (apB yi bs) (apL i yi lg)) :
    Yl P tab ops nx j oj yj tm bs lg ∧ Yl P tab ops nx i oi yi (apT oj yj tm) (apB yj bs) (apL j yj lg) ∧
      apT oi yi (apT oj yj tm) = apT oj yj (apT oi yi tm) ∧ apB yi (apB yj bs) = apB yj (apB yi bs) ∧ apL i yi (apL j yj lg) = apL j yj (apL i yi lg) := by
  obtain ⟨a1, a2, a3⟩ := Oper.apart_spec hap
  have gj : ∀ {y : Option Eff} {tm : List V}, guardV ops.toList (apT oi y tm) oj = guardV ops.toList tm oj := by intro y tm; cases y <;> exact guardV_put a1
  have gi : ∀ {y : Option Eff} {tm : List V}, guardV ops.toList (apT oj y tm) oi = guardV ops.toList tm oi := by intro y tm; cases y <;> exact guardV_put a3
  have ej : ∀ {y : Option Eff} {tm : List V} {B : Bs} {b : Nat}, effOp P tab B b (apT oi y tm) oj = effOp P tab B b tm oj := by intro y tm B b; cases y <;> exact effOp_put a1
  have ei : ∀ {y : Option Eff} {tm : List V} {B : Bs} {b : Nat}, effOp P tab B b (apT oj y tm) oi = effOp P tab B b tm oi := by intro y tm B b; cases y <;> exact effOp_put a3
  have ht : apT oi yi (apT oj yj tm) = apT oj yj (apT oi yi tm) := by
    cases yi <;> cases yj <;> exact (putT_comm tm _ _ a2).symm
  cases yi with
  | none =>
    refine ⟨?_, ?_, ht, rfl, rfl⟩
    · cases yj with
      | none => exact (gj (y := none)).symm.trans h2
      | some e => exact ⟨(gj (y := none)).symm.trans h2.1, (ej (y := none)).symm.trans h2.2.1, h2.2.2⟩
    · exact gi.trans h1
  | some e =>
    cases yj with
    | none =>
      refine ⟨(gj (y := some e)).symm.trans h2, ⟨(gi (y := none)).trans h1.1, (ei (y := none)).trans h1.2.1, h1.2.2⟩, ht, rfl, rfl⟩
    | some f =>
      obtain ⟨g1, g2, g3⟩ := h1
      obtain ⟨k1, k2, k3⟩ := h2
      have hd : Dis f.rd (f.up.map (·.1)) e.rd (e.up.map (·.1)) := by
        rcases k3 i oi hne hi e.rd (e.up.map (·.1)) (show setLog lg i (e.rd, e.up.map (·.1)) i = _ from setLog_same _ _ _) with h | h | h
        · rw [hwj] at h; cases h
        · rw [hwi] at h; cases h
        · exact h
      obtain ⟨d1, d2, d3⟩ := hd
      refine ⟨⟨(gj (y := some e)).symm.trans k1, ?_, fun n on hn ho r u hlog => k3 n on hn ho r u (by
          show setLog lg i _ n = _
          rw [setLog_ne _ _ (fun e => by subst e; rw [hlg] at hlog; cases hlog)]; exact hlog)⟩,
        ⟨(gi (y := some f)).trans g1, ?_, fun n on hn ho r u hlog => ?_⟩, ht, ?_, ?_⟩
      · have k2' := (ej (y := some e) (tm := tm)).symm.trans k2
        exact effOp_loc k2' (fun id hid => (upds_ne (d1 id hid)).symm)
      · rw [ei (y := some f)]
        exact effOp_loc g2 (fun id hid => upds_ne (fun hm => d2 id hm hid))
      · by_cases hnj : n = j
        · subst hnj
          have : setLog lg n (f.rd, f.up.map (·.1)) n = some (r, u) := hlog
          rw [setLog_same] at this; cases this
          exact .inr (.inr ⟨fun id h1 h2 => d2 id h2 h1, fun id h1 h2 => d1 id h2 h1, fun id h1 h2 => d3 id h2 h1⟩)
        · exact g3 n on hn ho r u (by have : setLog lg j (f.rd, f.up.map (·.1)) n = some (r, u) := hlog; rwa [setLog_ne _ _ hnj] at this)
      · exact upds_comm d3
      · exact setLog_comm _ _ _ hne.symm

def Closed (ops : Array Oper) (listed : Array Bool) : Prop := ∀ m om, ops[m]? = some om → listed.getD m false = true → ∀ e ∈ om.after, Region.binds .any e = true → listed.getD e.on false = true
theorem closed_set {listed : Array Bool} (hc : Closed ops listed) {j : Nat} (hj : j ∈ Region.ready .any ops listed) : Closed ops (listed.setIfInBounds j true) := by
  obtain ⟨_, oj, hoj, hall⟩ := mem_ready.1 hj
  intro m om hm hl e he hb
  by_cases hmj : m = j
  · subst hmj
    rw [hoj] at hm
    obtain rfl := Option.some.inj hm
    exact getD_set_true (hall e he hb)
  · rw [getD_set_ne false (Ne.symm hmj)] at hl
    exact getD_set_true (hc m om hm hl e he hb)

theorem aAny_first {Q : List V → Bs → Prop} {i : Nat} {oi : Oper} {yi : Option Eff} (hi : ops[i]? = some oi) :
    ∀ (fuel : Nat) (listed : Array Bool) (tm : List V) (bs : Bs) (lg : Log),
      (∀ j oj, ops[j]? = some oj → j ≠ i → listed.getD j true = false → (∀ e ∈ oj.after, Region.binds .any e = true → e.on ≠ i) → oi.apart ops oj = true) →
      (∀ n, lg n ≠ none → listed.getD n false = true) → Closed ops listed →
      i ∈ Region.ready .any ops listed → Yl P tab ops nx i oi yi tm bs lg →
      aAny P tab ops nx Q fuel (listed.setIfInBounds i true) (apT oi yi tm) (apB yi bs) (apL i yi lg) → aAny P tab ops nx Q (fuel + 1) listed tm bs lg := by
  intro fuel
  induction fuel with
  | zero =>
    intro listed tm bs lg _ _ _ hr hy H
    refine ⟨fun h => (by rw [h] at hr; cases hr), fun j hj => ?_⟩
    by_cases hji : j = i
    · subst hji; exact ⟨oi, hi, yi, hy, H⟩
    · have := ready_mono hj hji
      rw [H.1] at this
      cases this
  | succ fuel ih =>
    intro listed tm bs lg hfree hlg hcl hr hy H
    refine ⟨fun h => (by rw [h] at hr; cases hr), fun j hj => ?_⟩
    by_cases hji : j = i
    · subst hji; exact ⟨oi, hi, yi, hy, H⟩
    · obtain ⟨hjun, oj, hoj, hall⟩ := mem_ready.1 hj
      obtain ⟨oj', hoj', yj, h2, h3⟩ := H.2 j (ready_mono hj hji)
      obtain rfl : oj = oj' := by rw [hoj] at hoj'; exact Option.some.inj hoj'
      obtain ⟨hiun, oi', hoi', halli⟩ := mem_ready.1 hr
      obtain rfl : oi = oi' := by rw [hi] at hoi'; exact Option.some.inj hoi'
      have unl : ∀ {n : Nat}, listed.getD n true = false → listed.getD n false = true → False := by
        intro n h0 h1
        rcases Nat.lt_or_ge n listed.size with h' | h'
        · simp [h'] at h0 h1; rw [h0] at h1; cases h1
        · simp [Array.getElem?_eq_none h'] at h1
      have hnot : ∀ e ∈ oj.after, Region.binds .any e = true → e.on ≠ i := fun e he hb heq => by
        have h1 := hall e he hb
        rw [heq] at h1
        exact unl hiun h1
      have hnoti : ∀ e ∈ oi.after, Region.binds .any e = true → e.on ≠ j := fun e he hb heq => by
        have h1 := halli e he hb
        rw [heq] at h1
        exact unl hjun h1
      have wf : ∀ {o : Oper} {n : Nat}, listed.getD n true = false → (∀ e ∈ o.after, Region.binds .any e = true → listed.getD e.on false = true) → waits2 ops.toList o n = false := by
        intro o n hun h
        unfold waits2
        rw [List.any_eq_false]
        intro e he hh
        simp only [Bool.and_eq_true, Bool.or_eq_true] at hh
        have h1 := h e (by simpa using he) hh.1
        rcases hh.2 with h2 | h2
        · rw [beq_of h2] at h1
          exact unl hun h1
        · split at h2
          · rename_i om hom
            have hom' : ops[e.on]? = some om := by simpa using hom
            unfold waitsOn at h2
            rw [List.any_eq_true] at h2
            obtain ⟨e2, he2, h3⟩ := h2
            simp only [Bool.and_eq_true] at h3
            have h4 := hcl e.on om hom' h1 e2 (by simpa using he2) h3.2
            rw [beq_of h3.1] at h4
            exact unl hun h4
          · cases h2
      have hlgi : lg i = none := by
        cases hx : lg i with
        | none => rfl
        | some x => exact (unl hiun (hlg i (by rw [hx]; simp))).elim
      obtain ⟨s1, s2, s3, s4, s5⟩ := swap (fun e => hji e.symm) hi hoj (hfree j oj hoj hji hjun hnot) (wf hjun halli) (wf hiun hall) hlgi hy h2
      have hfree' : ∀ k ok, ops[k]? = some ok → k ≠ i → (listed.setIfInBounds j true).getD k true = false →
          (∀ e ∈ ok.after, Region.binds .any e = true → e.on ≠ i) → oi.apart ops ok = true := fun k ok hk hki hun hno => by
        refine hfree k ok hk hki ?_ hno
        by_cases hjk : j = k
        · subst hjk; exact hjun
        · rw [getD_set_ne true hjk] at hun; exact hun
      refine ⟨oj, hoj, yj, s1, ih (listed.setIfInBounds j true) _ _ _ hfree' (fun n hn => ?_) (closed_set hcl hj) (ready_mono hr (Ne.symm hji)) s2 ?_⟩
      · by_cases hnj : n = j
        · subst hnj
          have hlt : n < listed.size := by
            rcases Nat.lt_or_ge n listed.size with h' | h'
            · exact h'
            · simp [Array.getElem?_eq_none h'] at hjun
          simp [hlt]
        · refine getD_set_true (hlg n ?_)
          cases yj with
          | none => exact hn
          | some f =>
            have : setLog lg j (f.rd, f.up.map (·.1)) n ≠ none := hn
            rwa [setLog_ne _ _ hnj] at this
      · rw [Array.setIfInBounds_comm _ _ hji, s3, s4, s5]
        exact h3

theorem clash_of {opl : List Oper} {o : Oper} {rd up : List Nat} {lg : Log} : ∀ {n : Nat}, clash opl o rd up lg n = true → ∀ m, m < n → ∀ r u, lg m = some (r, u) → waits2 opl o m = true ∨ Dis rd up r u
  | 0, _, m, h, _, _, _ => by omega
  | n + 1, h, m, hm, r, u, hl => by
    simp only [clash, Bool.and_eq_true] at h
    by_cases he : m = n
    · subst he
      have h2 := h.2
      rw [hl] at h2
      simp only [Bool.or_eq_true, Bool.and_eq_true] at h2
      rcases h2 with ⟨⟨h3, h4⟩, h5⟩ | h2
      · exact .inr ⟨disj_iff h3, disj_iff h4, disj_iff h5⟩
      · exact .inl h2
    · exact clash_of h.1 m (by omega) r u hl

theorem aAny_lex {α : Type} {K : St → Option α} {r : α} : ∀ (l : List Oper) (k : Nat) (listed : Array Bool) (st : St) (lg : Log), st.nx = nx → (∀ j, l[j]? = ops[k + j]?) → Region.lexFrom .any ops l.length k listed = true →
    (∀ n, lg n ≠ none → listed.getD n false = true ∧ n < k) → Closed ops listed → runD P tab ops.toList k l st lg K = some r →
    aAny P tab ops nx (fun tm bs => K ⟨tm, bs, nx + 16 * ops.toList.length⟩ = some r) l.length listed st.tm st.bs lg
  | [], k, listed, st, lg, hnx, hl, hB, hlg, hcl, h => by
    simp only [runD] at h
    exact ⟨by simpa [Region.lexFrom] using hB, by rw [← hnx]; exact h⟩
  | o :: l, k, listed, st, lg, hnx, hl, hB, hlg, hcl, h => by
    have h0 : ops[k]? = some o := by simpa using (hl 0).symm
    have hl' : ∀ j, l[j]? = ops[k + 1 + j]? := fun j => by have := hl (j + 1); simpa [Nat.add_assoc, Nat.add_comm 1 j] using this
    simp only [List.length_cons, Region.lexFrom, Bool.and_eq_true] at hB
    obtain ⟨⟨hr, hf⟩, hB'⟩ := hB
    have hkr : k ∈ Region.ready .any ops listed := by simpa using hr
    have hun : listed.getD k true = false := (mem_ready.1 hkr).1
    have hlt : k < listed.size := by
      rcases Nat.lt_or_ge k listed.size with h' | h'
      · exact h'
      · simp [Array.getElem?_eq_none h'] at hun
    have hlg' : ∀ n, lg n ≠ none → (listed.setIfInBounds k true).getD n false = true ∧ n < k + 1 := fun n hn => ⟨getD_set_true (hlg n hn).1, by have := (hlg n hn).2; omega⟩
    simp only [runD] at h
    split at h
    · cases h
    · rename_i hg
      refine aAny_first (yi := none) h0 l.length listed _ _ _ (Region.free_spec h0 hf) (fun n hn => (hlg n hn).1) hcl hkr hg ?_
      exact aAny_lex l (k + 1) _ ⟨putT st.tm o.dst (.tup []), st.bs, st.nx⟩ lg hnx hl' hB' hlg' (closed_set hcl hkr) h
    · rename_i hg
      split at h
      · cases h
      · rename_i c e he
        split at h
        · cases h
        · rename_i hc
          obtain ⟨rfl, h⟩ := cnd_some h
          have hy : Yl P tab ops nx k o (some e) st.tm st.bs lg := by
            refine ⟨hg, by rw [← hnx]; exact he, fun n on hn ho r u hlog => ?_⟩
            have hnk := (hlg n (by rw [hlog]; simp)).2
            rcases clash_of hc n hnk r u hlog with h1 | h1
            · exact .inl h1
            · exact .inr (.inr h1)
          refine aAny_first (yi := some e) h0 l.length listed _ _ _ (Region.free_spec h0 hf) (fun n hn => (hlg n hn).1) hcl hkr hy ?_
          have go : ∀ {v : V}, v = e.v → runD P tab ops.toList (k + 1) l (stepSt st st.nx o ⟨v, e.rd, e.up⟩) (setLog lg k (e.rd, e.up.map (·.1))) K = some r →
              aAny P tab ops nx (fun tm bs => K ⟨tm, bs, nx + 16 * ops.toList.length⟩ = some r) l.length (listed.setIfInBounds k true) (apT o (some e) st.tm) (apB (some e) st.bs) (apL k (some e) lg) := by
            rintro v rfl h
            refine aAny_lex l (k + 1) _ (stepSt st st.nx o ⟨e.v, e.rd, e.up⟩) _ hnx hl' hB' (fun n hn => ?_) (closed_set hcl hkr) h
            by_cases hnk : n = k
            · subst hnk; exact ⟨by simp [hlt], by omega⟩
            · have hn' : setLog lg k (e.rd, e.up.map (·.1)) n ≠ none := hn
              rw [setLog_ne _ _ hnk] at hn'; exact hlg' n hn'
          split at h
          · rename_i b _ hv2
            cases b
            · exact go hv2.symm h
            · exact go hv2.symm h
          · exact go rfl h

theorem wpAny_of_aAny (hT : ∀ f G, tab f = some G → SoundFun P f G) {Qa : List V → Bs → Prop} {Q : Exit → Act → World → Prop}
    (hQ : ∀ tm bs a w, Qa tm bs → SR DF X w0 B0 E0 L ⟨tm, bs, nx + 16 * ops.toList.length⟩ a w → Q .normal a w) :
    ∀ (fuel : Nat) (listed : Array Bool) (tm : List V) (bs : Bs) (lg : Log) (a : Act) (w : World) (E : En), listed.size = ops.size → aAny P tab ops nx Qa fuel listed tm bs lg → On X w0 B0 E0 w bs E → WR X w0 L w bs E → F2 (RV X w bs E) tm a.tmps.toList → a.defers = DF →
      (∀ id, nx ≤ id → E id ≠ none → ∃ j, listed.getD j false = true ∧ nx + 16 * j ≤ id ∧ id < nx + 16 * j + 16) → wpAny P .any ops Q fuel listed a w := by
  have fin : ∀ {listed : Array Bool} {tm bs} {a : Act} {w : World} {E : En}, listed.size = ops.size → Qa tm bs → On X w0 B0 E0 w bs E → WR X w0 L w bs E → F2 (RV X w bs E) tm a.tmps.toList → a.defers = DF →
      (∀ id, nx ≤ id → E id ≠ none → ∃ j, listed.getD j false = true ∧ nx + 16 * j ≤ id ∧ id < nx + 16 * j + 16) → Q .normal a w := by
    intro listed tm bs a w E hs hq ho0 hw ht hd hE
    refine hQ tm bs a w hq ⟨E, ho0, hw, ht, hd, fun id hid => ?_⟩
    cases hx : E id with
    | none => rfl
    | some v =>
      exfalso
      have hid' : nx + 16 * ops.toList.length ≤ id := hid
      simp at hid'
      obtain ⟨j, h1, h2, h3⟩ := hE id (by omega) (by rw [hx]; simp)
      have : j < listed.size := by
        rcases Nat.lt_or_ge j listed.size with h' | h'
        · exact h'
        · simp [Array.getElem?_eq_none h'] at h1
      omega
  intro fuel
  induction fuel with
  | zero => intro listed tm bs lg a w E hs h ho0 hw ht hd hE; exact ⟨h.1, fin hs h.2 ho0 hw ht hd hE⟩
  | succ fuel ih =>
    intro listed tm bs lg a w E hs h ho0 hw ht hd hE
    refine ⟨fun h0 => fin hs (h.1 h0) ho0 hw ht hd hE, fun i hi => ?_⟩
    obtain ⟨o, ho, y, hy, hK⟩ := h.2 i hi
    have hun : listed.getD i true = false := (mem_ready.1 hi).1
    have hlt : i < listed.size := by
      rcases Nat.lt_or_ge i listed.size with h' | h'
      · exact h'
      · simp [Array.getElem?_eq_none h'] at hun
    unfold wpOp
    simp only [ho]
    cases y with
    | none =>
      have hg := guardV_ok ht (show guardV ops.toList tm o = some false from hy)
      rw [hg]
      simp only [Bool.false_eq_true, if_false]
      exact ih _ _ _ _ _ w E (by simp [hs]) hK ho0 hw (putT_ok ht o.dst ⟨#[], rfl, trivial⟩) (by rw [put_defers]; exact hd) (fun id h1 h2 => by
        obtain ⟨j, h3, h4⟩ := hE id h1 h2; exact ⟨j, getD_set_true h3, h4⟩)
    | some e =>
      obtain ⟨hg, he, _⟩ := hy
      rw [guardV_ok ht hg]
      simp only [if_true]
      refine .inl (effOp_ok hT hw (fun j h1 h2 => ?_) ht he ?_)
      · cases hx : E j with
        | none => rfl
        | some v =>
          exfalso
          obtain ⟨j', h3, h4, h5⟩ := hE j (by omega) (by rw [hx]; simp)
          have : j' = i := by omega
          subst this
          simp [hlt] at hun h3
          rw [hun] at h3; cases h3
      · rintro u w' ⟨E', hon, hw', hv, hnew⟩
        refine ih _ _ _ _ _ w' E' (by simp [hs]) hK (ho0.trans hon) hw' (putT_ok (tms_on hon ht) o.dst hv) (by rw [put_defers]; exact hd) (fun id h1 h2 => ?_)
        cases hx : E id with
        | none =>
          have := hnew id hx h2
          exact ⟨i, by simp [hlt], this.1, this.2⟩
        | some v =>
          obtain ⟨j, h3, h4⟩ := hE id h1 (by rw [hx]; simp)
          exact ⟨j, getD_set_true h3, h4⟩

theorem WR.drew (hw : WR X w0 L w B E) {w' : World} (h : w'.heap = w.heap) (hio : Io w w') : WR X w0 L w' B E ∧ On X w B E w' B E := by
  have hc : ∀ a, w'.cell? a = w.cell? a := fun a => by simp [World.cell?, h]
  have st : Stay w (MX X B E) w' (MX X B E) := ⟨fun b o v _ hcell => by rw [hc]; exact hcell, fun _ _ _ hm _ => hm⟩
  have hon : On X w B E w' B E := ⟨st, fun _ _ h => h, fun id v k' hv hk => ⟨k', hk, rfl, fun x => x⟩⟩
  refine ⟨⟨fun id k hk => (hw.blk id k hk).on hon (fun _ _ b _ _ => by rw [h]), hw.inj, fun b hb => by rw [h]; exact hw.own b hb, fun b h1 h2 => by rw [h]; exact hw.fr b h1 h2, by rw [h]; exact hw.sz, hw.far, hw.io.trans hio⟩, hon⟩

theorem runD_ok {α : Type} (hT : ∀ f G, tab f = some G → SoundFun P f G) {K : St → Option α} {r : α} {Q : Exit → Act → World → Prop} (hK : ∀ st a w, SR DF X w0 B0 E0 L st a w → K st = some r → Q .normal a w) (hm : P.follows .mixedOrders = true) {id : Nat}
    (hB : Region.lexB .any ops = true) {st : St} {a : Act} (hs : SR DF X w0 B0 E0 L st a w) (h : runD P tab ops.toList 0 ops.toList st (fun _ => none) K = some r) : (Code.region id ops true).wp P Q a w := by
  simp only [Region.lexB, Bool.and_eq_true] at hB
  obtain ⟨E, ho0, hw, ht, hd, hE⟩ := hs
  obtain ⟨hw', hon⟩ := hw.drew (w' := { w with drawn := w.drawn + 1 }) rfl ⟨rfl, rfl, rfl⟩
  refine wp_region_any hm ?_
  have hlex := aAny_lex (P := P) (tab := tab) (ops := ops) (nx := st.nx) (K := K) (r := r) ops.toList 0 (Array.replicate ops.size false) st (fun _ => none) rfl (by simp) (by simpa using hB.2) (fun n hn => (hn rfl).elim) (fun m om _ hl => by
    exfalso
    simp [Array.getElem?_replicate] at hl
    split at hl <;> simp at hl) h
  have := wpAny_of_aAny (X := X) (w0 := w0) (B0 := B0) (E0 := E0) (L := L) (Q := Q) hT (fun tm bs a w hq hsr => hK _ a w hsr hq) ops.toList.length (Array.replicate ops.size false) st.tm st.bs (fun _ => none) a { w with drawn := w.drawn + 1 } E (by simp) hlex (ho0.trans hon) hw' (tms_on hon ht) hd (fun id h1 h2 => (h2 (hE id h1)).elim)
  simpa using this
end Go.Rx
set_option linter.unusedVariables false
set_option linter.unusedSimpArgs false
namespace Go.Rx
variable {P : Program} {DF : List Deferred} {X : Nat → Prop} {w0 : World} {L : Nat → Prop} {w w' : World} {B B' : Bs} {E E' : En} {tab : FuncId → Option Summ} {B0 : Bs} {E0 : En} {m : Nat}
theorem upTo_get : ∀ (m j : Nat), (upTo m)[j]? = if j < m then some j else none
  | 0, j => by simp [upTo]
  | m + 1, j => by
    have hl : (upTo m).length = m := upTo_len m
    simp only [upTo]
    by_cases h : j < m
    · rw [List.getElem?_append_left (by omega), upTo_get m j, if_pos h, if_pos (by omega)]
    · by_cases h2 : j = m
      · subst h2; rw [List.getElem?_append_right (by omega), hl]; simp
      · rw [List.getElem?_append_right (by omega), hl, if_neg (by omega)]
        have : j - m = (j - m - 1) + 1 := by omega
        rw [this]; simp
where upTo_len : ∀ m, (upTo m).length = m
  | 0 => rfl
  | m + 1 => by simp [upTo, upTo_len m]
theorem live_lt {bs : Bs} {vs : List V} {j : Nat} (h : j < m) : (liveIds m bs vs)[j]? = some j := by
  unfold liveIds
  simp only
  rw [List.getElem?_append_left (by rw [upTo_get.upTo_len]; exact h), upTo_get, if_pos h]
theorem live_len {bs : Bs} {vs : List V} : m ≤ (liveIds m bs vs).length := by
  unfold liveIds; simp only [List.length_append, upTo_get.upTo_len]; omega

theorem lbs_get {B : Bs} {ids : List Nat} {f : Blk → Blk} (j : Nat) : lbs (ids.map fun i => (B i).map f) j = match ids[j]? with | some i => (B i).map f | none => none := by
  show (((ids.map fun i => (B i).map f)[j]?).join) = _
  rw [List.getElem?_map]
  cases ids[j]? with
  | none => rfl
  | some i => cases hb : B i <;> simp [hb]

theorem ren_ok (hw : WR X w0 L w B E) {ids : List Nat} (hn : nodupB ids = true) :
    let B' : Bs := lbs (ids.map fun i => (B i).map (renB (idx ids)))
    let E' : En := fun j => (ids[j]?).bind E
    WR X w0 L w B' E' ∧ (∀ i j v, idx ids i = some j → E i = some v → E' j = some v) ∧ (∀ i j v k', idx ids i = some j → E i = some v → B' j = some k' → ∃ k, B i = some k ∧ k' = renB (idx ids) k) ∧ (∀ b, MX X B' E' b → MX X B E b) := by
  intro B' E'
  have hBc : ∀ {j : Nat} {k' : Blk}, B' j = some k' → ∃ (i : Nat) (k : Blk), ids[j]? = some i ∧ B i = some k ∧ k' = renB (idx ids) k := by
    intro j k' hk
    have hk' : (match ids[j]? with | some i => (B i).map (renB (idx ids)) | none => none) = some k' := by rw [← lbs_get]; exact hk
    split at hk'
    · rename_i i hi
      obtain ⟨k, h1, h2⟩ := Option.map_eq_some_iff.1 hk'
      exact ⟨i, k, hi, h1, h2.symm⟩
    · cases hk'
  have hEr : ∀ i j v, idx ids i = some j → E i = some v → E' j = some v := by
    intro i j v hi hv
    show (ids[j]?).bind E = some v
    rw [idx_some hi]; exact hv
  have hBr : ∀ i j v k', idx ids i = some j → E i = some v → B' j = some k' → ∃ k, B i = some k ∧ k' = renB (idx ids) k := by
    intro i j v k' hi hv hk
    obtain ⟨i', k, h1, h2, h3⟩ := hBc hk
    rw [idx_some hi] at h1; cases h1
    exact ⟨k, h2, h3⟩
  have hmut : ∀ {b}, Mut B' E' b → Mut B E b := by
    rintro b ⟨j, k', v, hk, hm1, hv, hob⟩
    obtain ⟨i, k, h1, h2, rfl⟩ := hBc hk
    have hv' : (ids[j]?).bind E = some v := hv
    rw [h1] at hv'
    exact ⟨i, k, v, h2, by rw [mut_ren] at hm1; exact hm1, hv', hob⟩
  have hM : ∀ b, MX X B' E' b → MX X B E b := fun b hb => hb.imp hmut (fun h => h)
  refine ⟨⟨fun j k' hk => ?_, ?_, fun b hb => hw.own b (hmut hb), hw.fr, hw.sz, hw.far, hw.io⟩, hEr, hBr, hM⟩
  · obtain ⟨i, k, h1, h2, rfl⟩ := hBc hk
    exact RB.ren hEr hBr (idx_of_nodup hn h1) (.inr hM) (hw.blk i k h2)
  · intro j j' k k' v v' b h1 h2 h3 h4 h5 h6 h7 h8
    obtain ⟨i, k0, a1, a2, rfl⟩ := hBc h1
    obtain ⟨i', k0', b1, b2, rfl⟩ := hBc h2
    have hv1 : (ids[j]?).bind E = some v := h5
    have hv2 : (ids[j']?).bind E = some v' := h6
    rw [a1] at hv1; rw [b1] at hv2
    rw [mut_ren] at h3 h4
    have := hw.inj i i' k0 k0' v v' b a2 b2 h3 h4 hv1 hv2 h7 h8
    subst this
    have e1 := idx_of_nodup hn a1
    rw [idx_of_nodup hn b1] at e1
    exact (Option.some.inj e1).symm

theorem ren_on (ho : On X w0 B0 E0 w B E) {ids : List Nat} (hlent : ∀ j, j < m → ids[j]? = some j) (hE0 : ∀ j, m ≤ j → E0 j = none) {B' : Bs} {E' : En} (hB' : ∀ j, B' j = match ids[j]? with | some i => (B i).map (renB (idx ids)) | none => none) (hE' : ∀ j, E' j = (ids[j]?).bind E)
    (hM : ∀ b, MX X B' E' b → MX X B E b) : On X w0 B0 E0 w B' E' := by
  have hlt : ∀ {j v}, E0 j = some v → j < m := by
    intro j v h
    rcases Nat.lt_or_ge j m with h1 | h1
    · exact h1
    · rw [hE0 j h1] at h; cases h
  refine ⟨⟨ho.stay.cell, fun b o v h1 h2 h3 => ho.stay.nm b o v h1 h2 (hM b h3)⟩, fun id v h => ?_, fun id v k' h hk => ?_⟩
  · rw [hE', hlent id (hlt h)]; exact ho.ext id v h
  · rw [hB', hlent id (hlt h)] at hk
    obtain ⟨k1, h1, rfl⟩ := Option.map_eq_some_iff.1 hk
    obtain ⟨k, h2, h3, h4⟩ := ho.old id v k1 h h1
    exact ⟨k, h2, by show k.shp = _; rw [shp_ren]; exact h3, by rw [mut_ren]; exact h4⟩

theorem F2.ofGet {α β : Type} {R : α → β → Prop} : ∀ {l : List α} {m : List β}, l.length = m.length → (∀ (i : Nat) a b, l[i]? = some a → m[i]? = some b → R a b) → F2 R l m
  | [], [], _, _ => trivial
  | a :: l, b :: m, hl, h => ⟨h 0 a b rfl rfl, F2.ofGet (by simpa using hl) fun i a b h1 h2 => h (i + 1) a b (by simpa using h1) (by simpa using h2)⟩
  | [], _ :: _, hl, _ => by simp at hl
  | _ :: _, [], hl, _ => by simp at hl

theorem gcV_ok (hE0 : ∀ j, m ≤ j → E0 j = none) {ks : List Nat} {st : St} {a : Act} (h : SR DF X w0 B0 E0 L st a w) {vs : List V} {bl : List (Option Blk)} (hg : gcV m ks st = some (vs, bl)) : SR DF X w0 B0 E0 L (unp st.tm.length ks vs bl) a w := by
  unfold gcV at hg
  simp only at hg
  generalize hids : liveIds m st.bs (ks.map fun k => st.tm.getD k (.one .undef)) = ids at hg
  split at hg
  · cases hg
  · rename_i hn
    cases hg
    obtain ⟨E, ho, hw, ht, hd, hfr⟩ := h
    obtain ⟨w1, r1, r2, r3⟩ := ren_ok hw hn
    refine ⟨fun j => (ids[j]?).bind E, ?_, w1, ?_, hd, fun id hid => ?_⟩
    · exact ren_on ho (fun j hj => by rw [← hids]; exact live_lt hj) hE0 (fun j => lbs_get j) (fun _ => rfl) r3
    · refine F2.ofGet ?_ fun i v u hv hu => ?_
      · show ((upTo st.tm.length).map _).length = _
        rw [List.length_map, upTo_get.upTo_len]; exact ht.len
      · have hv' : (((upTo st.tm.length).map fun i => match idx ks i with | some j => ((ks.map fun k => st.tm.getD k (.one .undef)).map (renV (idx ids))).getD j (.one .undef) | none => .one .undef))[i]? = some v := hv
        rw [List.getElem?_map, upTo_get] at hv'
        split at hv'
        · rename_i hi
          simp only [Option.map_some, Option.some.injEq] at hv'
          subst hv'
          split
          · rename_i j hj
            have hk := idx_some hj
            have he : ((ks.map fun k => st.tm.getD k (.one .undef)).map (renV (idx ids))).getD j (.one .undef) = renV (idx ids) (st.tm.getD i (.one .undef)) := by
              rw [List.getD_eq_getElem?_getD, List.getElem?_map, List.getElem?_map, hk]; rfl
            rw [he]
            obtain ⟨v0, hv0⟩ : ∃ v0, st.tm[i]? = some v0 := ⟨st.tm[i], List.getElem?_eq_getElem hi⟩
            rw [List.getD_eq_getElem?_getD, hv0]
            obtain ⟨u', hu', hr⟩ := ht.get hv0
            rw [hu] at hu'; cases hu'
            exact RV.ren r1 r2 v0 u (.inr r3) hr
          · trivial
        · cases hv'
    · show (ids[id]?).bind E = none
      have hid' : (ids.map fun i => (st.bs i).map (renB (idx ids))).length ≤ id := hid
      rw [List.length_map] at hid'
      rw [List.getElem?_eq_none hid']; rfl

theorem gc_ok (hE0 : ∀ j, m ≤ j → E0 j = none) {keep : Option (List Nat)} {st : St} {a : Act} (h : SR DF X w0 B0 E0 L st a w) : SR DF X w0 B0 E0 L (gc m keep st) a w := by
  unfold gc
  cases keep with
  | none => exact h
  | some ks =>
    simp only
    split
    · exact h
    · rename_i vs bl hg
      exact gcV_ok hE0 h hg

def exOf : Ex → Exit
  | .normal => .normal
  | .exit i => .exit i
  | .ret => .ret

variable {ann : Nat → Option (List Nat)} {lt : Nat → Option LSumm}
def SoundLoop (P : Program) (tab : FuncId → Option Summ) (ann : Nat → Option (List Nat)) (lt : Nat → Option LSumm) (α : Type) (m : Nat) (a : Code) : Prop :=
  ∀ L, (regKey a).bind lt = some L → L.m = m → ∀ vs bl t, L.S vs bl = some (true, t) → ∀ (K : Ex → List V → List (Option Blk) → Option α) (r : α), t.run K = some r → ∃ n n', loopv m L.N L.ks L.kx (exec P tab ann lt n' m a) n vs bl K = some r

theorem exec_ok {α : Type} (hT : ∀ f G, tab f = some G → SoundFun P f G) (hm : P.follows .mixedOrders = true) (hE0 : ∀ j, m ≤ j → E0 j = none) {r : α} : ∀ (c : Code) (n : Nat) (st : St) (K : Ex → St → Option α) (Q : Exit → Act → World → Prop) (a : Act) (w : World),
    (∀ b ∈ loopsOf c, SoundLoop P tab ann lt α m b) → SR DF X w0 B0 E0 L st a w → exec P tab ann lt n m c st K = some r → (∀ e st a w, SR DF X w0 B0 E0 L st a w → K e st = some r → Q (exOf e) a w) → c.wp P Q a w
  | .skip, n, st, K, Q, a, w, hl, hs, h, hK => wp_skip (hK .normal st a w hs h)
  | .region id ops draw, n, st, K, Q, a, w, hl, hs, h, hK => by
    simp only [exec] at h
    cases draw with
    | false =>
      obtain ⟨E, ho, hw, ht, hd, hfr⟩ := hs
      refine wp_region ?_
      have := runR_ok (Q := Q) (K := K .normal) hT (fun st a w hsr hk => hK .normal st a w hsr hk) ops.toList 0 st a w E (by simp) (by simp) h ho hw ht hd (by simpa using hfr)
      rw [List.range_eq_range']
      simpa using this
    | true =>
      simp only at h
      split at h
      · rename_i hB
        exact runD_ok hT (fun st a w hsr hk => hK .normal st a w hsr hk) hm hB hs h
      · cases h
  | .seq x y, n, st, K, Q, a, w, hl, hs, h, hK => by
    simp only [exec] at h
    refine wp_seq (exec_ok hT hm hE0 x n st _ _ a w (fun b hb => hl b (by simp [loopsOf, hb])) hs h ?_)
    intro e st' a' w' hsr hk
    cases e with
    | normal => exact exec_ok hT hm hE0 y n st' K Q a' w' (fun b hb => hl b (by simp [loopsOf, hb])) hsr hk hK
    | exit i => exact hK (.exit i) st' a' w' hsr hk
    | ret => exact hK .ret st' a' w' hsr hk
  | .cond c x y, n, st, K, Q, a, w, hl, hs, h, hK => by
    simp only [exec] at h
    split at h
    · rename_i b hc
      have hs' := hs
      obtain ⟨E, ho, hw, ht, hd, hfr⟩ := hs'
      have he : a.eval c = .bool b := ev_ok ht hc
      cases b
      · exact wp_cond_false he (exec_ok hT hm hE0 y n st K Q a w (fun b hb => hl b (by simp [loopsOf, hb])) hs h hK)
      · exact wp_cond_true he (exec_ok hT hm hE0 x n st K Q a w (fun b hb => hl b (by simp [loopsOf, hb])) hs h hK)
    · cases h
  | .block id x, n, st, K, Q, a, w, hl, hs, h, hK => by
    simp only [exec] at h
    refine wp_block (exec_ok hT hm hE0 x n st _ _ a w hl hs h ?_)
    intro e st' a' w' hsr hk
    cases e with
    | normal => exact hK .normal st' a' w' hsr hk
    | ret => exact hK .ret st' a' w' hsr hk
    | exit j =>
      simp only at hk
      show if j = id then _ else _
      split at hk
      · rename_i hj
        rw [if_pos (beq_of hj)]; exact hK .normal st' a' w' hsr hk
      · rename_i hj
        rw [if_neg (fun e => by rw [e, Nat.beq_refl] at hj; cases hj)]; exact hK (.exit j) st' a' w' hsr hk
  | .loop x, n, st, K, Q, a, w, hl, hs, h, hK => by
    have key : ∀ (n n' : Nat) (st : St) (a : Act) (w : World), SR DF X w0 B0 E0 L st a w → loopx (gc m ((regKey x).bind ann)) (exec P tab ann lt n m x) n' st K = some r → Code.rounds P x Q n' a w := by
      intro n n'
      induction n' with
      | zero => intro st a w hs h; simp [loopx] at h
      | succ n' ih =>
        intro st a w hs h
        simp only [loopx] at h
        rw [rounds_succ]
        refine exec_ok hT hm hE0 x n _ _ _ a w (fun b hb => hl b (by simp [loopsOf, hb])) hs h ?_
        intro e st' a' w' hsr hk
        cases e with
        | normal => exact ih _ a' w' (gc_ok hE0 hsr) hk
        | exit i => exact hK (.exit i) st' a' w' hsr hk
        | ret => exact hK .ret st' a' w' hsr hk
    have key2 : ∀ (N : Nat) (ks : List Nat) (kx : Ex → List Nat) (n n' : Nat) (vs : List V) (bl : List (Option Blk)) (a : Act) (w : World), SR DF X w0 B0 E0 L (unp N ks vs bl) a w → loopv m N ks kx (exec P tab ann lt n m x) n' vs bl (fun e vs bl => K e (unp N (kx e) vs bl)) = some r → Code.rounds P x Q n' a w := by
      intro N ks kx n n'
      induction n' with
      | zero => intro vs bl a w hs h; simp [loopv] at h
      | succ n' ih =>
        intro vs bl a w hs h
        simp only [loopv] at h
        rw [rounds_succ]
        refine exec_ok hT hm hE0 x n _ _ _ a w (fun b hb => hl b (by simp [loopsOf, hb])) hs h ?_
        intro e st' a' w' hsr hk
        split at hk
        · rename_i hN
          split at hk
          · split at hk
            · rename_i hg
              have hs2 := gcV_ok hE0 hsr hg
              rw [beq_of hN] at hs2
              exact ih _ _ a' w' hs2 hk
            · cases hk
          · split at hk
            · rename_i i _ _ _ hg
              have hs2 := gcV_ok hE0 hsr hg
              rw [beq_of hN] at hs2
              exact hK (.exit _) _ a' w' hs2 hk
            · cases hk
          · split at hk
            · rename_i hg
              have hs2 := gcV_ok hE0 hsr hg
              rw [beq_of hN] at hs2
              exact hK .ret _ a' w' hs2 hk
            · cases hk
        · cases hk
    simp only [exec] at h
    split at h
    · rename_i S hS
      split at h
      · rename_i vs bl hb hg
        split at h
        · rename_i c t hSt
          obtain ⟨rfl, h⟩ := cnd_some h
          have hb' : Nat.beq S.m m = true ∧ Nat.beq S.N st.tm.length = true := by simpa using hb
          obtain ⟨n1, n2, hn⟩ := hl x (by simp [loopsOf]) S hS (beq_of hb'.1) vs bl t hSt _ r h
          have hs2 := gcV_ok hE0 hs hg
          rw [← beq_of hb'.2] at hs2
          exact wp_loop_rounds n1 (key2 _ _ _ n2 n1 vs bl a w hs2 hn)
        · cases h
      · cases h
    · exact wp_loop_rounds n (key n n _ a w (gc_ok hE0 hs) h)
  | .exit id, n, st, K, Q, a, w, hl, hs, h, hK => wp_exit (hK (.exit id) st a w hs h)
  | .ret, n, st, K, Q, a, w, hl, hs, h, hK => wp_ret (hK .ret st a w hs h)
  | .rangeFunc .., _, _, _, _, _, _, _, _, h, _ => by simp [exec] at h
  | .scope _, _, _, _, _, _, _, _, _, h, _ => by simp [exec] at h
  | .label _, _, _, _, _, _, _, _, _, h, _ => by simp [exec] at h
  | .goto _, _, _, _, _, _, _, _, _, h, _ => by simp [exec] at h
  | .refuse _, _, _, _, _, _, _, _, _, h, _ => by simp [exec] at h
end Go.Rx
