/- Functions whole, loops round by round, and the arguments of a law. -/
import Derived.Test.YtcdmkbpmgeeghaaRxC
import Derived.Defers
import Derived.Deep.Slices
import Derived.OpenShut
import Derived.Below
import Derived.Laws.Cover3
set_option linter.unnecessarySimpa false
set_option linter.unusedVariables false
set_option linter.unusedSimpArgs false
set_option linter.unusedVariables false
set_option linter.unusedSimpArgs false
namespace Go.Rx
variable {P : Program} {X : Nat → Prop} {w0 : World} {L : Nat → Prop} {w w' : World} {B B' : Bs} {E E' : En} {tab : FuncId → Option Summ} {B0 : Bs} {E0 : En} {m : Nat}
theorem asAddr_of {c : C} {u r : Value} {t : TypeId} (h : (Instr.loadAt t u).run P w = .ok r w) : (do loadVar t (← asAddr u) : Sem Value).run P w = .ok r w := by
  unfold Instr.loadAt at h
  cases u with
  | pointer a =>
    cases a with
    | none => simp [Instr.sureAddr] at h
    | some a => simpa [Instr.sureAddr, asAddr] using h
  | _ => simp [Instr.sureAddr] at h

def resF (tmps : Array Value) : ResultVar → Sem Value
  | .tmp t => pure (tmps.getD t undef)
  | .cell a t => do loadVar t (← asAddr (tmps.getD a undef))

theorem resOne_ok (hw : WR X w0 L w B E) {tm : List V} {nx : Nat} {tmps : Array Value} (ht : F2 (RV X w B E) tm tmps.toList) {r : ResultVar} {v : V} (h : resOne P ⟨tm, B, nx⟩ r = some v) :
    ∃ u, (resF tmps r).run P w = .ok u w ∧ RV X w B E v u := by
  cases r with
  | tmp t =>
    simp only [resOne] at h
    obtain ⟨u, hu, hr⟩ := ht.get h
    have hu' : tmps[t]? = some u := by simpa using hu
    exact ⟨u, by simp [resF, hu'], hr⟩
  | cell a t =>
    simp only [resOne] at h
    split at h
    · rename_i c hc
      obtain ⟨u, hu, hr⟩ := ht.get hc
      have hu' : tmps[a]? = some u := by simpa using hu
      split at h
      · rename_i e he
        cases h
        obtain ⟨_, r, h1, h2⟩ := loadC_ok hw hr he
        refine ⟨r, ?_, h2⟩
        have : tmps.getD a undef = u := by simp [hu']
        simp only [resF, this]
        exact asAddr_of (c := c) h1
      · cases h
    · cases h

theorem resAll_ok (hw : WR X w0 L w B E) {tm : List V} {nx : Nat} {tmps : Array Value} (ht : F2 (RV X w B E) tm tmps.toList) : ∀ {rs : List ResultVar} {ps : List (Bool × List C)}, resAll P ⟨tm, B, nx⟩ rs = some ps →
    ∃ us, (rs.mapM (resF tmps)).run P w = .ok us w ∧ F2 (RP X w B E) ps us
  | [], ps, h => by simp [resAll] at h; subst h; exact ⟨[], rfl, trivial⟩
  | r :: rs, ps, h => by
    simp only [resAll] at h
    split at h
    · rename_i p ps' h1 h2
      cases h
      obtain ⟨v, hv, hp⟩ := Option.bind_eq_some_iff.1 h1
      obtain ⟨u, hu, hr⟩ := resOne_ok hw ht hv
      obtain ⟨us, hus, hrs⟩ := resAll_ok hw ht h2
      refine ⟨u :: us, ?_, ?_, hrs⟩
      · rw [List.mapM_cons, Sem.run_bind, hu, Result.andThen_ok, Sem.run_bind, hus, Result.andThen_ok]; rfl
      · cases v with
        | one c => simp only [partV] at hp; cases hp; exact ⟨c, rfl, hr⟩
        | agg cs => simp only [partV] at hp; cases hp; exact hr
        | tup _ => simp [partV] at hp
    · cases h

theorem resV_ok (hw : WR X w0 L w B E) {tm : List V} {nx : Nat} {tmps : Array Value} (ht : F2 (RV X w B E) tm tmps.toList) {fn : Func} {v : V} (h : resV P fn ⟨tm, B, nx⟩ = some v) : ∃ u, (results fn tmps).run P w = .ok u w ∧ RV X w B E v u := by
  unfold resV at h
  have hmap : ∀ {us : List Value}, (fn.results.toList.mapM (resF tmps)).run P w = .ok us w → (results fn tmps).run P w = .ok (if h : us.toArray.size = 1 then us.toArray[0] else .tuple us.toArray) w := by
    intro us h1
    have h2 : ∀ g : ResultVar → Sem Value, (∀ x, g x = resF tmps x) → (fn.results.mapM g).run P w = .ok us.toArray w := by
      intro g hg
      have : g = resF tmps := funext hg
      subst this
      rw [Array.mapM_eq_mapM_toList]
      simp only [Sem.run_map, h1, Result.andThen_ok]
    unfold results
    rw [Sem.run_bind, h2 _ (fun x => by cases x <;> rfl), Result.andThen_ok]
    rfl
  split at h
  · rename_i r hr
    obtain ⟨u, hu, hv⟩ := resOne_ok hw ht h
    refine ⟨u, ?_, hv⟩
    rw [hmap (us := [u]) (by rw [hr, List.mapM_cons, Sem.run_bind, hu, Result.andThen_ok]; rfl)]
    rfl
  · rename_i hne
    obtain ⟨ps, hps, rfl⟩ := Option.map_eq_some_iff.1 h
    obtain ⟨us, hus, hF⟩ := resAll_ok hw ht hps
    refine ⟨.tuple us.toArray, ?_, us.toArray, rfl, by simpa using hF⟩
    rw [hmap hus]
    have hlen : us.length = fn.results.toList.length := by
      have h1 := hF.len
      have : ∀ {rs : List ResultVar} {ps}, resAll P ⟨tm, B, nx⟩ rs = some ps → ps.length = rs.length := by
        intro rs
        induction rs with
        | nil => intro ps h; simp [resAll] at h; subst h; rfl
        | cons r rs ih =>
          intro ps h
          simp only [resAll] at h
          split at h
          · rename_i p ps' h1 h2; cases h; simp [ih h2]
          · cases h
      rw [← h1, this hps]
    have : ¬ us.toArray.size = 1 := by
      simp only [List.size_toArray, hlen]
      intro h1
      obtain ⟨r, hr⟩ := List.length_eq_one_iff.1 h1
      exact hne r hr
    rw [dif_neg this]

theorem ownPs_ok : ∀ (ps : List (Bool × List C)) (id : Nat) (ts : List TypeId) {qs : List (Bool × List C)} {up : List (Nat × Option Blk)} {B : Bs} {E : En} {us : List Value}, ownPs P id ts ps = (qs, up) → WR X w0 L w B E →
    (∀ j, id ≤ j → E j = none) → F2 (RP X w B E) ps us →
    ∃ E', On X w B E w (upds B up) E' ∧ WR X w0 L w (upds B up) E' ∧ F2 (RP X w (upds B up) E') qs us ∧ ∀ j, id + up.length ≤ j → E' j = none
  | [], id, ts, qs, up, B, E, us, h, hw, hn, hc => by
    simp only [ownPs, Prod.mk.injEq] at h
    obtain ⟨rfl, rfl⟩ := h
    cases us with
    | nil => exact ⟨E, On.refl _ _ _ _, hw, trivial, fun j hj => hn j (by simpa using hj)⟩
    | cons u us => exact hc.elim
  | (b, cs) :: r, id, ts, qs, up, B, E, [], h, hw, hn, hc => hc.elim
  | (b, cs) :: r, id, ts, qs, up, B, E, u :: us, h, hw, hn, ⟨h1, h2⟩ => by
    simp only [ownPs] at h
    obtain ⟨ds, up1, h3⟩ : ∃ ds up1, ownNil P id (hdTs P ts) cs = (ds, up1) := ⟨_, _, rfl⟩
    rw [h3] at h
    simp only at h
    obtain ⟨r', up2, h4⟩ : ∃ r' up2, ownPs P (id + up1.length) (ts.drop 1) r = (r', up2) := ⟨_, _, rfl⟩
    rw [h4] at h
    simp only [Prod.mk.injEq] at h
    obtain ⟨rfl, rfl⟩ := h
    have base : ∀ vs : List Value, F2 (RC X w B E) cs vs → ∃ E1, On X w B E w (upds B up1) E1 ∧ WR X w0 L w (upds B up1) E1 ∧ F2 (RC X w (upds B up1) E1) ds vs ∧ ∀ j, id + up1.length ≤ j → E1 j = none := by
      intro vs hvs
      obtain ⟨E1, o1, w1, hd, hnew⟩ := ownNil_ok cs id _ h3 hw (fun j hj _ => hn j hj) hvs
      refine ⟨E1, o1, w1, hd, fun j hj => ?_⟩
      cases hx : E1 j with
      | none => rfl
      | some x =>
        have := hnew j (hn j (by omega)) (by rw [hx]; simp)
        omega
    have fin : ∀ E1, On X w B E w (upds B up1) E1 → WR X w0 L w (upds B up1) E1 → RP X w (upds B up1) E1 (b, ds) u → (∀ j, id + up1.length ≤ j → E1 j = none) →
        ∃ E', On X w B E w (upds B (up1 ++ up2)) E' ∧ WR X w0 L w (upds B (up1 ++ up2)) E' ∧ F2 (RP X w (upds B (up1 ++ up2)) E') ((b, ds) :: r') (u :: us) ∧ ∀ j, id + (up1 ++ up2).length ≤ j → E' j = none := by
      intro E1 o1 w1 hp hn1
      have hrp : ∀ {B2 : Bs} {E2 : En} {B1 : Bs} {E1 : En}, On X w B1 E1 w B2 E2 → ∀ (p : Bool × List C) (v : Value), RP X w B1 E1 p v → RP X w B2 E2 p v := by
        intro B2 E2 B1 E1 ho p v hpv
        obtain ⟨x, l⟩ := p
        cases x with
        | true => obtain ⟨vs, e, hf⟩ := hpv; exact ⟨vs, e, hf.imp (fun a b => RC.on ho a b)⟩
        | false => obtain ⟨c, e, hf⟩ := hpv; exact ⟨c, e, RC.on ho c v hf⟩
      obtain ⟨E2, o2, w2, hq, hn2⟩ := ownPs_ok r (id + up1.length) (ts.drop 1) h4 w1 hn1 (h2.imp (hrp o1))
      rw [upds_append]
      exact ⟨E2, o1.trans o2, w2, ⟨hrp o2 _ _ hp, hq⟩, fun j hj => hn2 j (by rw [List.length_append] at hj; omega)⟩
    cases b with
    | true =>
      obtain ⟨vs, rfl, hf⟩ := h1
      obtain ⟨E1, o1, w1, hd, hn1⟩ := base vs.toList hf
      exact fin E1 o1 w1 ⟨vs, rfl, hd⟩ hn1
    | false =>
      obtain ⟨c, hce, hf⟩ := h1
      simp only at hce
      obtain ⟨E1, o1, w1, hd, hn1⟩ := base [u] (by rw [hce]; exact ⟨hf, trivial⟩)
      refine fin E1 o1 w1 ?_ hn1
      cases ds with
      | nil => exact hd.elim
      | cons d ds =>
        cases ds with
        | nil => exact ⟨d, rfl, hd.1⟩
        | cons d2 ds => exact hd.2.elim
theorem ownRes_ok {id : Nat} {ts : List TypeId} {v v' : V} {u : Value} {up : List (Nat × Option Blk)} (h : ownRes P id ts v = (v', up)) (hw : WR X w0 L w B E) (hn : ∀ j, id ≤ j → E j = none) (hr : RV X w B E v u) :
    ∃ E', On X w B E w (upds B up) E' ∧ WR X w0 L w (upds B up) E' ∧ RV X w (upds B up) E' v' u := by
  cases v with
  | one c =>
    simp only [ownRes, Prod.mk.injEq] at h
    obtain ⟨rfl, rfl⟩ := h
    exact ⟨E, On.refl _ _ _ _, hw, hr⟩
  | agg cs =>
    simp only [ownRes] at h
    obtain ⟨ds, up1, h3⟩ : ∃ ds up1, ownNil P id (hdTs P ts) cs = (ds, up1) := ⟨_, _, rfl⟩
    rw [h3] at h
    simp only [Prod.mk.injEq] at h
    obtain ⟨rfl, rfl⟩ := h
    obtain ⟨vs, rfl, hf⟩ := hr
    obtain ⟨E1, o1, w1, hd, _⟩ := ownNil_ok cs id _ h3 hw (fun j hj _ => hn j hj) hf
    exact ⟨E1, o1, w1, vs, rfl, hd⟩
  | tup ps =>
    simp only [ownRes] at h
    obtain ⟨qs, up1, h3⟩ : ∃ qs up1, ownPs P id ts ps = (qs, up1) := ⟨_, _, rfl⟩
    rw [h3] at h
    simp only [Prod.mk.injEq] at h
    obtain ⟨rfl, rfl⟩ := h
    obtain ⟨vs, rfl, hf⟩ := hr
    obtain ⟨E1, o1, w1, hd, _⟩ := ownPs_ok ps id _ h3 hw hn hf
    exact ⟨E1, o1, w1, vs, rfl, hd⟩

theorem fin_ok {DF : List Deferred} {fn : Func} {lent : List Blk} {E : En} {st : St} {a : Act} {o : Out} (hE0 : ∀ j, lent.length ≤ j → E j = none) (hsr : SR DF X w (LB lent) E (Mut (LB lent) E) st a w') (hfin : finish P fn lent.length st = some o) : ∃ v, (results fn a.tmps).run P w' = .ok v w' ∧ o.lent.length = lent.length ∧ ∃ v' E', Ending.returned v = .returned v' ∧ On X w (LB lent) E w' (OB lent.length o) E' ∧ WR X w (Mut (LB lent) E) w' (OB lent.length o) E' ∧ RV X w' (OB lent.length o) E' o.res v' ∧ ∀ j, lent.length + o.fresh.length ≤ j → E' j = none := by
  obtain ⟨E1, ho, hw1, ht, hd, hfr⟩ := hsr
  obtain ⟨tm, bs, nx⟩ := st
  unfold finish at hfin
  split at hfin
  · cases hfin
  · rename_i v0 hv
    obtain ⟨u, hu, hr0⟩ := resV_ok hw1 ht hv
    split at hfin
    rename_i v up hown
    obtain ⟨E2, o2, hw2, hr⟩ := ownRes_ok hown hw1 hfr hr0
    replace ho := ho.trans o2
    clear hr0 hw1 hown o2
    generalize upds bs up = bs at ho hw2 hr hfin
    have hw1 := hw2
    clear hw2
    simp only at hfin
    generalize hids : liveIds lent.length bs [v] = ids at hfin
    split at hfin
    · rename_i bl hnd hbl
      cases hfin
      obtain ⟨w2, r1, r2, r3⟩ := ren_ok hw1 hnd
      have hlt : ∀ j, j < lent.length → ids[j]? = some j := fun j hj => by rw [← hids]; exact live_lt hj
      have hle : lent.length ≤ ids.length := by rw [← hids]; exact live_len
      obtain ⟨hbll, hblg⟩ := getB_get hbl
      have hOB : OB lent.length ⟨renV (idx ids) v, (upTo lent.length).map (fun i => (bs i).map (renB (idx ids))), bl.map (renB (idx ids))⟩ = lbs (ids.map fun i => (bs i).map (renB (idx ids))) := by
        funext j
        rw [lbs_get]
        show (if j < lent.length then (((upTo lent.length).map (fun i => (bs i).map (renB (idx ids))))[j]?).join else (bl.map (renB (idx ids)))[j - lent.length]?) = _
        by_cases hj : j < lent.length
        · rw [if_pos hj, hlt j hj, List.getElem?_map, upTo_get, if_pos hj]; rfl
        · rw [if_neg hj, List.getElem?_map]
          have e1 : (ids.drop lent.length)[j - lent.length]? = ids[j]? := by rw [List.getElem?_drop]; congr 1; omega
          cases hx : ids[j]? with
          | none =>
            have : bl[j - lent.length]? = none := by
              rw [List.getElem?_eq_none]
              rw [hbll, List.length_drop]
              have := List.getElem?_eq_none_iff.1 hx
              omega
            rw [this]; rfl
          | some i =>
            rw [hx] at e1
            obtain ⟨k, h1, h2⟩ := hblg _ _ e1
            rw [h1]
            show Option.map _ (some k) = Option.map _ (bs i)
            rw [h2]
      refine ⟨u, hu, by simp [upTo_get.upTo_len], u, fun j => (ids[j]?).bind E2, rfl, ?_, ?_, ?_, ?_⟩
      · rw [hOB]; exact ren_on ho hlt hE0 (fun j => lbs_get j) (fun _ => rfl) r3
      · rw [hOB]; exact w2
      · rw [hOB]; exact RV.ren r1 r2 v u (.inr r3) hr
      · intro j hj
        have hj' : lent.length + (bl.map (renB (idx ids))).length ≤ j := hj
        simp only [List.length_map, hbll, List.length_drop] at hj'
        show (ids[j]?).bind E2 = none
        rw [List.getElem?_eq_none (by omega)]; rfl
    · cases hfin

theorem fun_ok (hT : ∀ f G, tab f = some G → SoundFun P f G) (hm : P.follows .mixedOrders = true) {f : FuncId} {fn : Func} (hf : P.funcs[f]? = some fn) (hname : fn.name ≠ "runtime.NumGoroutine") {c : Code} (hb : fn.body = some c) {ann : Nat → Option (List Nat)} {lt : Nat → Option LSumm} {G : Summ}
    (hL : ∀ m, ∀ b ∈ loopsOf c, SoundLoop P tab ann lt Out m b) (hG : ∀ args lent o, G args lent = some (true, o) → ∃ n, funR P tab ann lt n fn args lent = some o) (hk : KeepOk G) : SoundFun P f G := by
  refine ⟨⟨fn, hf, hname, by rw [hb]; rfl⟩, ?_, hk⟩
  intro args lent o hGo X w E vals hE0 hw hargs
  obtain ⟨n, hn⟩ := hG args lent o hGo
  unfold funR at hn
  rw [hb] at hn
  simp only at hn
  refine calls_of_wp hf hb ?_
  have hargl := hargs.len
  refine exec_ok (X := X) (w0 := w) (B0 := LB lent) (E0 := E) (L := Mut (LB lent) E) (m := lent.length) hT hm hE0 c n (initSt fn args lent) _ _ _ w (hL lent.length) ⟨E, On.refl _ _ _ _, hw, ?_, rfl, hE0⟩ hn ?_
  · show F2 (RV X w (LB lent) E) (args ++ List.replicate (fn.ntmps - args.length) (.one .undef)) (vals.toArray ++ Array.replicate (fn.ntmps - vals.toArray.size) undef).toList
    rw [Array.toList_append, Array.toList_replicate, List.size_toArray, ← hargl]
    exact hargs.append (F2.rep trivial _)
  · intro e st a w' hsr hk
    have hd : a.defers = [] := by obtain ⟨_, _, _, _, hd, _⟩ := hsr; exact hd
    cases e with
    | normal => exact ⟨hd, fin_ok hE0 hsr hk⟩
    | ret => exact ⟨hd, fin_ok hE0 hsr hk⟩
    | exit i => cases hk

end Go.Rx
set_option linter.unusedVariables false
set_option linter.unusedSimpArgs false
namespace Go.Rx
def LT.runc {α : Type} : LT → (Ex → Option (List V × List (Option Blk)) → Option α) → Option α
  | .leaf e vs bl, K => K e (some (vs, bl))
  | .no, _ => none
  | .br b x y, K => ite2 b (x.runc K) (y.runc K)

def LT.next (F : List V → List (Option Blk) → LT) : LT → LT
  | .leaf e vs bl => match e with
    | .normal => F vs bl
    | .exit i => .leaf (.exit i) vs bl
    | .ret => .leaf .ret vs bl
  | .no => .no
  | .br b x y => .br b (x.next F) (y.next F)

def iter (T : List V → List (Option Blk) → LT) : Nat → List V → List (Option Blk) → LT
  | 0, _, _ => .no
  | n + 1, vs, bl => (T vs bl).next (iter T n)

variable {P : Program} {tab : FuncId → Option Summ} {ann : Nat → Option (List Nat)} {lt : Nat → Option LSumm}
def endc {α : Type} (m N : Nat) (ks : List Nat) (kx : Ex → List Nat) (Kc : Ex → Option (List V × List (Option Blk)) → Option α) : Ex → St → Option α :=
  fun e st => match Nat.beq st.tm.length N with
    | true => match e with
      | .normal => Kc .normal (gcV m ks st)
      | .exit i => Kc (.exit i) (gcV m (kx (.exit i)) st)
      | .ret => Kc .ret (gcV m (kx .ret) st)
    | false => none

def RoundOk (P : Program) (tab : FuncId → Option Summ) (ann : Nat → Option (List Nat)) (lt : Nat → Option LSumm) (α : Type) (n' m N : Nat) (ks : List Nat) (kx : Ex → List Nat) (a : Code) (T : List V → List (Option Blk) → LT) : Prop :=
  ∀ vs bl (Kc : Ex → Option (List V × List (Option Blk)) → Option α) r, (T vs bl).runc Kc = some r → exec P tab ann lt n' m a (unp N ks vs bl) (endc m N ks kx Kc) = some r

theorem runc_next {α : Type} {F : List V → List (Option Blk) → LT} {K : Ex → List V → List (Option Blk) → Option α} : ∀ {t : LT},
    (t.next F).run K = t.runc fun e x => match x with
      | some (vs, bl) => match e with
        | .normal => (F vs bl).run K
        | .exit i => K (.exit i) vs bl
        | .ret => K .ret vs bl
      | none => none
  | .leaf e vs bl => by cases e <;> rfl
  | .no => rfl
  | .br b x y => by simp only [LT.next, LT.run, LT.runc, runc_next (t := x), runc_next (t := y)]

theorem iter_ok {α : Type} {n' m N : Nat} {ks : List Nat} {kx : Ex → List Nat} {a : Code} {T : List V → List (Option Blk) → LT} (hT : RoundOk P tab ann lt α n' m N ks kx a T) {K : Ex → List V → List (Option Blk) → Option α} {r : α} :
    ∀ (n : Nat) vs bl, (iter T n vs bl).run K = some r → loopv m N ks kx (exec P tab ann lt n' m a) n vs bl K = some r
  | 0, _, _, h => by simp [iter, LT.run] at h
  | n + 1, vs, bl, h => by
    simp only [iter] at h
    rw [runc_next] at h
    have mono : ∀ (t : LT) {G G' : Ex → Option (List V × List (Option Blk)) → Option α}, (∀ e x r, G e x = some r → G' e x = some r) → ∀ r, t.runc G = some r → t.runc G' = some r := by
      intro t
      induction t with
      | leaf e vs bl => intro G G' hG r h; exact hG _ _ _ h
      | no => intro G G' hG r h; cases h
      | br b x y ihx ihy =>
        intro G G' hG r h
        cases b with
        | true => exact ihx hG r h
        | false => exact ihy hG r h
    have h2 := hT vs bl (fun e x => match x with
      | some (vs, bl) => match e with
        | .normal => loopv m N ks kx (exec P tab ann lt n' m a) n vs bl K
        | .exit i => K (.exit i) vs bl
        | .ret => K .ret vs bl
      | none => none) r (mono _ (by
        intro e x r hx
        cases x with
        | none => cases hx
        | some p =>
          obtain ⟨vs, bl⟩ := p
          cases e with
          | normal => exact iter_ok hT n vs bl hx
          | exit i => exact hx
          | ret => exact hx) r h)
    simp only [loopv]
    rw [← h2]
    congr 1

theorem loop_ok {n' m N : Nat} {ks : List Nat} {kx : Ex → List Nat} {a : Code} {T : List V → List (Option Blk) → LT} {S : List V → List (Option Blk) → Option (Bool × LT)} {key : Nat} (hk : regKey a = some key) (hl : lt key = some ⟨m, N, ks, kx, S⟩)
    (hT : RoundOk P tab ann lt Out n' m N ks kx a T)
    (hS : ∀ vs bl t, S vs bl = some (true, t) → ∃ n, ∀ (K : Ex → List V → List (Option Blk) → Option Out) r, t.run K = some r → (iter T n vs bl).run K = some r) : ∀ m', SoundLoop P tab ann lt Out m' a := by
  intro m' L hL hm vs bl t hSt K r hr
  rw [hk] at hL
  simp only [Option.bind_some, hl, Option.some.injEq] at hL
  subst hL
  simp only at hm hSt
  subst hm
  obtain ⟨n, hn⟩ := hS vs bl t hSt
  exact ⟨n, n', iter_ok hT n vs bl (hn K r hr)⟩

theorem tab_nil : ∀ f G, tabOf [] f = some G → SoundFun P f G := by intro f G h; cases h
theorem tab_cons {g : FuncId} {G' : Summ} {l : List (FuncId × Summ)} (hs : SoundFun P g G') (hl : ∀ f G, tabOf l f = some G → SoundFun P f G) : ∀ f G, tabOf ((g, G') :: l) f = some G → SoundFun P f G := by
  intro f G h
  simp only [tabOf] at h
  split at h
  · rename_i hb
    cases h
    rw [← beq_of hb]
    exact hs
  · exact hl f G h
theorem loop_none {a : Code} (h : (regKey a).bind lt = none) : ∀ m', SoundLoop P tab ann lt Out m' a := by
  intro m' L hL
  rw [h] at hL; cases hL
theorem ite2_dec {α : Type} {p : Prop} [Decidable p] {x y : Option α} : ite2 (decide p) x y = if p then x else y := by
  by_cases h : p <;> simp [ite2, h]
theorem mx_eq (a e : Int) : (if e > a then e else a) = max a e := by omega
theorem mn_eq (a e : Int) : (if e < a then e else a) = min a e := by omega
theorem ite2_bool {α : Type} {b : Bool} {x y : Option α} : ite2 b x y = if b = true then x else y := by
  cases b <;> rfl
end Go.Rx
set_option linter.unusedVariables false
set_option linter.unusedSimpArgs false
namespace Go.Rx
theorem wrap_in {n : Int} (h0 : -9223372036854775808 ≤ n) (h1 : n < 9223372036854775808) : IntKind.wrap .i64 n = n := by
  simp [IntKind.wrap, IntKind.bits, IntKind.signed]; omega
def small (n : Nat) : Bool := decide (n ≤ 4611686018427387904)
theorem wrap_next {i n : Nat} (h : i < n) (hs : small n = true) : IntKind.wrap .i64 ((i : Int) + 1) = ((i + 1 : Nat) : Int) := by
  have : n ≤ 4611686018427387904 := of_decide_eq_true hs
  rw [wrap_in (by omega) (by omega)]; omega

def gI (l : List Int) (i : Nat) : Int := l.getD i 0
def gB (l : List Bool) (i : Nat) : Bool := l.getD i false
def gP (l : List (Int × Int)) (i : Nat) : Int × Int := l.getD i (0, 0)
def gR (l : List (Int × Int × Int × Int)) (i : Nat) : Int × Int × Int × Int := l.getD i (0, 0, 0, 0)
def gC (l : List (Int × Bool × Int × Int)) (i : Nat) : Int × Bool × Int × Int := l.getD i (0, false, 0, 0)
def gK (l : List (Int × Int × Int × Int × Int × Int × Int × Int × Int)) (i : Nat) : Int × Int × Int × Int × Int × Int × Int × Int × Int := l.getD i (0, 0, 0, 0, 0, 0, 0, 0, 0)
def gM (l : List (List (Int × Int × Int × Int × Int × Int × Int × Int × Int))) (i : Nat) : List (Int × Int × Int × Int × Int × Int × Int × Int × Int) := l.getD i []
def gQ (l : List (Int × Int × Int × Int × List Int)) (i : Nat) : Int × Int × Int × Int × List Int := l.getD i (0, 0, 0, 0, [])
def gS (l : List (Int × Int × Int × Int × Int × Int)) (i : Nat) : Int × Int × Int × Int × Int × Int := l.getD i (0, 0, 0, 0, 0, 0)
def gT (l : List (Int × Int × Int × Int × Int × Int × Int × Int × Int × Int)) (i : Nat) : Int × Int × Int × Int × Int × Int × Int × Int × Int × Int := l.getD i (0, 0, 0, 0, 0, 0, 0, 0, 0, 0)
def gL (l : List (List Int)) (i : Nat) : List Int := l.getD i []


section dec
variable {α : Type}
def pO (l : List V) (K : C → List V → Option α) : Option α := match l with | .one c :: r => K c r | _ => none
def pA (l : List V) (K : List C → List V → Option α) : Option α := match l with | .agg cs :: r => K cs r | _ => none
def pE (l : List V) (x : Option α) : Option α := match l with | [] => x | _ => none
def tC (cs : List C) (K : C → List C → Option α) : Option α := match cs with | c :: r => K c r | [] => none
def tE (cs : List C) (x : Option α) : Option α := match cs with | [] => x | _ => none
def kI (c : C) (K : Int → Option α) : Option α := match c with | .int .i64 n => K n | _ => none
def kK (k : IntKind) (c : C) (K : Int → Option α) : Option α := match c with | .int k' n => (match decide (k' = k) with | true => K n | false => none) | _ => none
def kB (c : C) (K : Bool → Option α) : Option α := match c with | .bool b => K b | _ => none
def kU (c : C) (x : Option α) : Option α := match c with | .undef => x | _ => none
def kP (i j : Nat) (c : C) (x : Option α) : Option α := match c with | .ptr a b => (match Nat.beq a i, Nat.beq b j with | true, true => x | _, _ => none) | _ => none
def kR (i : Nat) (c : C) (x : Option α) : Option α := match c with | .row a => (match Nat.beq a i with | true => x | _ => none) | _ => none
def kLI (c : C) (K : List Int → Option α) : Option α := match c with | .lst (.int .i64) l => K l | _ => none
def kLP (c : C) (K : List (Int × Int) → Option α) : Option α := match c with | .lst (.pair (.int .i64) (.int .i64)) l => K l | _ => none
def kLR (c : C) (K : List (Int × Int × Int × Int) → Option α) : Option α := match c with | .lst (.pair (.int .i64) (.pair (.int .i64) (.pair (.int .i64) (.int .i64)))) l => K l | _ => none
def kLC (c : C) (K : List (Int × Bool × Int × Int) → Option α) : Option α := match c with | .lst (.pair (.int .i64) (.pair .bool (.pair (.int .i64) (.int .i64)))) l => K l | _ => none
def bB (l : List (Option Blk)) (K : List C → List (Option Blk) → Option α) : Option α := match l with | some (.box cs) :: r => K cs r | _ => none
def bE (l : List (Option Blk)) (x : Option α) : Option α := match l with | [] => x | _ => none
def bAI (e : TypeId) (l : List (Option Blk)) (K : List Int → List (Option Blk) → Option α) : Option α := match l with | some (.arr e' (.int .i64) x) :: r => (match Nat.beq e' e with | true => K x r | false => none) | _ => none
def bAP (e : TypeId) (l : List (Option Blk)) (K : List (Int × Int) → List (Option Blk) → Option α) : Option α := match l with | some (.arr e' (.pair (.int .i64) (.int .i64)) x) :: r => (match Nat.beq e' e with | true => K x r | false => none) | _ => none
def bAR (e : TypeId) (l : List (Option Blk)) (K : List (Int × Int × Int × Int) → List (Option Blk) → Option α) : Option α := match l with | some (.arr e' (.pair (.int .i64) (.pair (.int .i64) (.pair (.int .i64) (.int .i64)))) x) :: r => (match Nat.beq e' e with | true => K x r | false => none) | _ => none
def nB (l : List Blk) (K : List C → List Blk → Option α) : Option α := match l with | .box cs :: r => K cs r | _ => none
def nE (l : List Blk) (x : Option α) : Option α := match l with | [] => x | _ => none
variable {r : α}
def kF (f : FuncId) (l : List Nat) (c : C) (x : Option α) : Option α := match c with | .fn g m => (match decide (g = f), decide (m = l) with | true, true => x | _, _ => none) | _ => none
def kV (l : List Nat) (c : C) (K : FuncId → Option α) : Option α := match c with | .fn g m => (match decide (m = l) with | true => K g | _ => none) | _ => none
def kJ (n : Int) (c : C) (x : Option α) : Option α := match c with | .int .i64 m => (match decide (m = n) with | true => x | _ => none) | _ => none
def nAI (e : TypeId) (l : List Blk) (K : List Int → List Blk → Option α) : Option α := match l with | .arr e' (.int .i64) x :: r => (match Nat.beq e' e with | true => K x r | false => none) | _ => none
theorem kF_s {r : α} {f : FuncId} {l : List Nat} {c : C} {x : Option α} (h : kF f l c x = some r) : c = .fn f l ∧ x = some r := by
  unfold kF at h
  split at h
  · split at h
    · rename_i h1 h2; exact ⟨by rw [of_decide_eq_true h1, of_decide_eq_true h2], h⟩
    · cases h
  · cases h
theorem kV_s {r : α} {l : List Nat} {c : C} {K : FuncId → Option α} (h : kV l c K = some r) : ∃ f, c = .fn f l ∧ K f = some r := by
  unfold kV at h
  split at h
  · split at h
    · rename_i h1; exact ⟨_, by rw [of_decide_eq_true h1], h⟩
    · cases h
  · cases h
theorem kJ_s {r : α} {n : Int} {c : C} {x : Option α} (h : kJ n c x = some r) : c = .int .i64 n ∧ x = some r := by
  unfold kJ at h
  split at h
  · split at h
    · rename_i h1; exact ⟨by rw [of_decide_eq_true h1], h⟩
    · cases h
  · cases h
theorem nAI_s {r : α} {e : TypeId} {l : List Blk} {K} (h : nAI e l K = some r) : ∃ (x : List Int) (t : List Blk), l = .arr e (.int .i64) x :: t ∧ K x t = some r := by
  unfold nAI at h; split at h
  · split at h
    · rename_i hb; exact ⟨_, _, by rw [beq_of hb], h⟩
    · cases h
  · cases h
theorem pO_s {l : List V} {K} (h : pO l K = some r) : ∃ c t, l = .one c :: t ∧ K c t = some r := by unfold pO at h; split at h <;> first | (cases h; done) | exact ⟨_, _, rfl, h⟩
theorem pA_s {l : List V} {K} (h : pA l K = some r) : ∃ c t, l = .agg c :: t ∧ K c t = some r := by unfold pA at h; split at h <;> first | (cases h; done) | exact ⟨_, _, rfl, h⟩
theorem pE_s {l : List V} {x} (h : pE l x = some r) : l = [] ∧ x = some r := by unfold pE at h; split at h <;> first | (cases h; done) | exact ⟨rfl, h⟩
theorem tC_s {l : List C} {K} (h : tC l K = some r) : ∃ c t, l = c :: t ∧ K c t = some r := by unfold tC at h; split at h <;> first | (cases h; done) | exact ⟨_, _, rfl, h⟩
theorem tE_s {l : List C} {x} (h : tE l x = some r) : l = [] ∧ x = some r := by unfold tE at h; split at h <;> first | (cases h; done) | exact ⟨rfl, h⟩
theorem kI_s {c : C} {K} (h : kI c K = some r) : ∃ n, c = .int .i64 n ∧ K n = some r := by unfold kI at h; split at h <;> first | (cases h; done) | exact ⟨_, rfl, h⟩
theorem kP_s {i j : Nat} {c : C} {x} (h : kP i j c x = some r) : c = .ptr i j ∧ x = some r := by
  unfold kP at h; split at h
  · split at h
    · rename_i h1 h2; exact ⟨by rw [beq_of h1, beq_of h2], h⟩
    · cases h
  · cases h
theorem kR_s {i : Nat} {c : C} {x} (h : kR i c x = some r) : c = .row i ∧ x = some r := by
  unfold kR at h; split at h
  · split at h
    · rename_i h1; exact ⟨by rw [beq_of h1], h⟩
    · cases h
  · cases h
theorem kLI_s {c : C} {K} (h : kLI c K = some r) : ∃ n : List Int, c = .lst (.int .i64) n ∧ K n = some r := by unfold kLI at h; split at h <;> first | (cases h; done) | exact ⟨_, rfl, h⟩
theorem bB_s {l : List (Option Blk)} {K} (h : bB l K = some r) : ∃ c t, l = some (.box c) :: t ∧ K c t = some r := by unfold bB at h; split at h <;> first | (cases h; done) | exact ⟨_, _, rfl, h⟩
theorem nB_s {l : List Blk} {K} (h : nB l K = some r) : ∃ c t, l = .box c :: t ∧ K c t = some r := by unfold nB at h; split at h <;> first | (cases h; done) | exact ⟨_, _, rfl, h⟩
theorem bAI_s {e : TypeId} {l : List (Option Blk)} {K} (h : bAI e l K = some r) : ∃ (x : List Int) (t : List (Option Blk)), l = some (.arr e (.int .i64) x) :: t ∧ K x t = some r := by
  unfold bAI at h; split at h
  · split at h
    · rename_i hb; exact ⟨_, _, by rw [beq_of hb], h⟩
    · cases h
  · cases h
theorem bAR_s {e : TypeId} {l : List (Option Blk)} {K} (h : bAR e l K = some r) : ∃ (x : List (Int × Int × Int × Int)) (t : List (Option Blk)), l = some (.arr e (.pair (.int .i64) (.pair (.int .i64) (.pair (.int .i64) (.int .i64)))) x) :: t ∧ K x t = some r := by
  unfold bAR at h; split at h
  · split at h
    · rename_i hb; exact ⟨_, _, by rw [beq_of hb], h⟩
    · cases h
  · cases h
theorem bE_s {l : List (Option Blk)} {x} (h : bE l x = some r) : l = [] ∧ x = some r := by unfold bE at h; split at h <;> first | (cases h; done) | exact ⟨rfl, h⟩
theorem nE_s {l : List Blk} {x} (h : nE l x = some r) : l = [] ∧ x = some r := by unfold nE at h; split at h <;> first | (cases h; done) | exact ⟨rfl, h⟩
theorem getD_run {x : Option LT} {Kc : Ex → Option (List V × List (Option Blk)) → Option α} (h : (x.getD .no).runc Kc = some r) : ∃ t, x = some t ∧ t.runc Kc = some r := by
  cases x with
  | none => cases h
  | some t => exact ⟨t, rfl, h⟩
end dec
section
variable {α : Type} {r : α}
def kLK (c : C) (K : List (Int × Int × Int × Int × Int × Int × Int × Int × Int) → Option α) : Option α := match c with | .lst (.pair (.int .i64) (.pair (.int .i64) (.pair (.int .i64) (.pair (.int .i64) (.pair (.int .i64) (.pair (.int .i64) (.pair (.int .i64) (.pair (.int .i64) (.int .i64))))))))) l => K l | _ => none
def kLM (c : C) (K : List (List (Int × Int × Int × Int × Int × Int × Int × Int × Int)) → Option α) : Option α := match c with | .lst (.sl (.pair (.int .i64) (.pair (.int .i64) (.pair (.int .i64) (.pair (.int .i64) (.pair (.int .i64) (.pair (.int .i64) (.pair (.int .i64) (.pair (.int .i64) (.int .i64)))))))))) l => K l | _ => none
def kLQ (c : C) (K : List (Int × Int × Int × Int × List Int) → Option α) : Option α := match c with | .lst (.pair (.int .i64) (.pair (.int .i64) (.pair (.int .i64) (.pair (.int .i64) (.sl (.int .i64)))))) l => K l | _ => none
def kLS (c : C) (K : List (Int × Int × Int × Int × Int × Int) → Option α) : Option α := match c with | .lst (.pair (.int .i64) (.pair (.int .i64) (.pair (.int .i64) (.pair (.int .i64) (.pair (.int .i64) (.int .i64)))))) l => K l | _ => none
def kLT (c : C) (K : List (Int × Int × Int × Int × Int × Int × Int × Int × Int × Int) → Option α) : Option α := match c with | .lst (.pair (.int .i64) (.pair (.int .i64) (.pair (.int .i64) (.pair (.int .i64) (.pair (.int .i64) (.pair (.int .i64) (.pair (.int .i64) (.pair (.int .i64) (.pair (.int .i64) (.int .i64)))))))))) l => K l | _ => none
def bAK (e : TypeId) (l : List (Option Blk)) (K : List (Int × Int × Int × Int × Int × Int × Int × Int × Int) → List (Option Blk) → Option α) : Option α := match l with | some (.arr e' (.pair (.int .i64) (.pair (.int .i64) (.pair (.int .i64) (.pair (.int .i64) (.pair (.int .i64) (.pair (.int .i64) (.pair (.int .i64) (.pair (.int .i64) (.int .i64))))))))) x) :: r => (match Nat.beq e' e with | true => K x r | false => none) | _ => none
def bAM (e : TypeId) (l : List (Option Blk)) (K : List (List (Int × Int × Int × Int × Int × Int × Int × Int × Int)) → List (Option Blk) → Option α) : Option α := match l with | some (.arr e' (.sl (.pair (.int .i64) (.pair (.int .i64) (.pair (.int .i64) (.pair (.int .i64) (.pair (.int .i64) (.pair (.int .i64) (.pair (.int .i64) (.pair (.int .i64) (.int .i64)))))))))) x) :: r => (match Nat.beq e' e with | true => K x r | false => none) | _ => none
def bAQ (e : TypeId) (l : List (Option Blk)) (K : List (Int × Int × Int × Int × List Int) → List (Option Blk) → Option α) : Option α := match l with | some (.arr e' (.pair (.int .i64) (.pair (.int .i64) (.pair (.int .i64) (.pair (.int .i64) (.sl (.int .i64)))))) x) :: r => (match Nat.beq e' e with | true => K x r | false => none) | _ => none
def bAS (e : TypeId) (l : List (Option Blk)) (K : List (Int × Int × Int × Int × Int × Int) → List (Option Blk) → Option α) : Option α := match l with | some (.arr e' (.pair (.int .i64) (.pair (.int .i64) (.pair (.int .i64) (.pair (.int .i64) (.pair (.int .i64) (.int .i64)))))) x) :: r => (match Nat.beq e' e with | true => K x r | false => none) | _ => none
def bAT (e : TypeId) (l : List (Option Blk)) (K : List (Int × Int × Int × Int × Int × Int × Int × Int × Int × Int) → List (Option Blk) → Option α) : Option α := match l with | some (.arr e' (.pair (.int .i64) (.pair (.int .i64) (.pair (.int .i64) (.pair (.int .i64) (.pair (.int .i64) (.pair (.int .i64) (.pair (.int .i64) (.pair (.int .i64) (.pair (.int .i64) (.int .i64)))))))))) x) :: r => (match Nat.beq e' e with | true => K x r | false => none) | _ => none
def bAC (e : TypeId) (l : List (Option Blk)) (K : List (Int × Bool × Int × Int) → List (Option Blk) → Option α) : Option α := match l with | some (.arr e' (.pair (.int .i64) (.pair .bool (.pair (.int .i64) (.int .i64)))) x) :: r => (match Nat.beq e' e with | true => K x r | false => none) | _ => none
end
structure Hd where
  (a b c d tw th : Int) (cs : List (Int × Bool × Int × Int))
  deriving DecidableEq
structure Pm where
  (ke le co bx bw : Int) (pr : List (Int × Int)) (od la : Int) (m1 m2 m3 m4 m5 dv sy fe : Bool) (st : List Int) (de sf : Int)
  deriving DecidableEq
def hdC (h : Hd) : List C := [.int .i64 h.a, .int .i64 h.b, .int .i64 h.c, .int .i64 h.d, .int .i64 h.tw, .int .i64 h.th, .lst (.pair (.int .i64) (.pair .bool (.pair (.int .i64) (.int .i64)))) h.cs]
def pmC (p : Pm) : List C := [.int .i64 p.ke, .int .i64 p.le, .int .i64 p.co, .int .i64 p.bx, .int .i64 p.bw, .lst (.pair (.int .i64) (.int .i64)) p.pr, .int .i64 p.od, .int .i64 p.la, .bool p.m1, .bool p.m2, .bool p.m3, .bool p.m4, .bool p.m5, .bool p.dv, .bool p.sy, .bool p.fe, .lst (.int .i64) p.st, .int .i64 p.de, .int .i64 p.sf]
section
variable {α : Type}
def rdHd (q : List C) (K : Hd → Option α) : Option α := tC q fun c' q => kI c' fun a => tC q fun c' q => kI c' fun b => tC q fun c' q => kI c' fun c => tC q fun c' q => kI c' fun d => tC q fun c' q => kI c' fun tw => tC q fun c' q => kI c' fun th => tC q fun c' q => kLC c' fun cs => tE q <| K ⟨a, b, c, d, tw, th, cs⟩
def rdPm (q : List C) (K : Pm → Option α) : Option α := tC q fun c' q => kI c' fun ke => tC q fun c' q => kI c' fun le => tC q fun c' q => kI c' fun co => tC q fun c' q => kI c' fun bx => tC q fun c' q => kI c' fun bw => tC q fun c' q => kLP c' fun pr => tC q fun c' q => kI c' fun od => tC q fun c' q => kI c' fun la => tC q fun c' q => kB c' fun m1 => tC q fun c' q => kB c' fun m2 => tC q fun c' q => kB c' fun m3 => tC q fun c' q => kB c' fun m4 => tC q fun c' q => kB c' fun m5 => tC q fun c' q => kB c' fun dv => tC q fun c' q => kB c' fun sy => tC q fun c' q => kB c' fun fe => tC q fun c' q => kLI c' fun st => tC q fun c' q => kI c' fun de => tC q fun c' q => kI c' fun sf => tE q <| K ⟨ke, le, co, bx, bw, pr, od, la, m1, m2, m3, m4, m5, dv, sy, fe, st, de, sf⟩
end
section
open Classical
variable {T : List V → List (Option Blk) → LT} {st : Nat → List V × List (Option Blk)}
theorem iter_upto (n : Nat) (p : Nat → Bool) (E X : LT) (hs : ∀ i, i < n → ∀ F (K : Ex → List V → List (Option Blk) → Option Out), ((T (st i).1 (st i).2).next F).run K = if p i then (F (st (i + 1)).1 (st (i + 1)).2).run K else X.run K)
    (he : ∀ F (K : Ex → List V → List (Option Blk) → Option Out), ((T (st n).1 (st n).2).next F).run K = E.run K) :
    ∀ (k i : Nat), k + i = n → ∀ K : Ex → List V → List (Option Blk) → Option Out, (iter T (k + 1) (st i).1 (st i).2).run K = if ∀ j, i ≤ j → j < n → p j = true then E.run K else X.run K
  | 0, i, h, K => by
    have : i = n := by omega
    subst this
    simp only [iter]
    rw [he, if_pos (fun j h1 h2 => by omega)]
  | k + 1, i, h, K => by
    rw [iter, hs i (by omega)]
    by_cases hp : p i = true
    · rw [if_pos hp, iter_upto n p E X hs he k (i + 1) (by omega) K]
      have : (∀ j, i + 1 ≤ j → j < n → p j = true) ↔ (∀ j, i ≤ j → j < n → p j = true) :=
        ⟨fun h j h1 h2 => by
          rcases Nat.lt_or_ge i j with h3 | h3
          · exact h j h3 h2
          · rw [show j = i by omega]; exact hp, fun h j h1 h2 => h j (by omega) h2⟩
      simp only [this]
    · rw [if_neg hp, if_neg (fun h' => hp (h' i (Nat.le_refl _) (by omega)))]

theorem z_list {α : Type} (l : List α) (d : α) (p : α → Bool) (E X : LT) (hs : ∀ i, i < l.length → ∀ F (K : Ex → List V → List (Option Blk) → Option Out), ((T (st i).1 (st i).2).next F).run K = if p (l.getD i d) then (F (st (i + 1)).1 (st (i + 1)).2).run K else X.run K)
    (he : ∀ F (K : Ex → List V → List (Option Blk) → Option Out), ((T (st l.length).1 (st l.length).2).next F).run K = E.run K) :
    ∃ n, ∀ (K : Ex → List V → List (Option Blk) → Option Out) r, (LT.br (l.all p) E X).run K = some r → (iter T n (st 0).1 (st 0).2).run K = some r := by
  refine ⟨l.length + 1, fun K r h => ?_⟩
  rw [iter_upto l.length (fun i => p (l.getD i d)) E X hs he l.length 0 (by omega) K, ← h]
  simp only [LT.run, ite2_bool]
  have : (∀ j, 0 ≤ j → j < l.length → p (l.getD j d) = true) ↔ l.all p = true := by
    rw [List.all_eq_true]
    constructor
    · intro h x hx
      obtain ⟨j, hj, rfl⟩ := List.getElem_of_mem hx
      have := h j (by omega) hj
      rwa [List.getD_eq_getElem?_getD, List.getElem?_eq_getElem hj] at this
    · intro h j _ hj
      rw [List.getD_eq_getElem?_getD, List.getElem?_eq_getElem hj]
      exact h _ (List.getElem_mem hj)
  by_cases hc : l.all p = true
  · rw [if_pos hc, if_pos (this.2 hc)]
  · rw [if_neg hc, if_neg (fun h => hc (this.1 h))]

def ff (p : Nat → Bool) : Nat → Nat → Nat
  | 0, i => i
  | k + 1, i => if p i then ff p k (i + 1) else i

theorem iter_acc (n : Nat) (p : Nat → Bool) (E : LT) (X : Nat → LT) (hs : ∀ i, i < n → ∀ F (K : Ex → List V → List (Option Blk) → Option Out), ((T (st i).1 (st i).2).next F).run K = if p i then (F (st (i + 1)).1 (st (i + 1)).2).run K else (X i).run K)
    (he : ∀ F (K : Ex → List V → List (Option Blk) → Option Out), ((T (st n).1 (st n).2).next F).run K = E.run K) :
    ∀ (k i : Nat), k + i = n → ∀ K : Ex → List V → List (Option Blk) → Option Out, (iter T (k + 1) (st i).1 (st i).2).run K = if ∀ j, i ≤ j → j < n → p j = true then E.run K else (X (ff p k i)).run K
  | 0, i, h, K => by
    have : i = n := by omega
    subst this
    simp only [iter]
    rw [he, if_pos (fun j h1 h2 => by omega)]
  | k + 1, i, h, K => by
    rw [iter, hs i (by omega)]
    by_cases hp : p i = true
    · rw [if_pos hp, iter_acc n p E X hs he k (i + 1) (by omega) K]
      have : (∀ j, i + 1 ≤ j → j < n → p j = true) ↔ (∀ j, i ≤ j → j < n → p j = true) :=
        ⟨fun h j h1 h2 => by
          rcases Nat.lt_or_ge i j with h3 | h3
          · exact h j h3 h2
          · rw [show j = i by omega]; exact hp, fun h j h1 h2 => h j (by omega) h2⟩
      simp only [this, ff, hp, if_true]
    · rw [if_neg hp, if_neg (fun h' => hp (h' i (Nat.le_refl _) (by omega)))]
      simp only [ff, hp]
      rfl

theorem z_acc (n : Nat) (p : Nat → Bool) (E : LT) (X : Nat → LT) (hs : ∀ i, i < n → ∀ F (K : Ex → List V → List (Option Blk) → Option Out), ((T (st i).1 (st i).2).next F).run K = if p i then (F (st (i + 1)).1 (st (i + 1)).2).run K else (X i).run K)
    (he : ∀ F (K : Ex → List V → List (Option Blk) → Option Out), ((T (st n).1 (st n).2).next F).run K = E.run K) :
    ∃ k, ∀ (K : Ex → List V → List (Option Blk) → Option Out) r, (LT.br ((List.range n).all p) E (X (ff p n 0))).run K = some r → (iter T k (st 0).1 (st 0).2).run K = some r := by
  refine ⟨n + 1, fun K r h => ?_⟩
  rw [iter_acc n p E X hs he n 0 (by omega) K, ← h]
  simp only [LT.run, ite2_bool]
  have : (∀ j, 0 ≤ j → j < n → p j = true) ↔ (List.range n).all p = true := by
    simp
  by_cases hc : (List.range n).all p = true
  · rw [if_pos hc, if_pos (this.2 hc)]
  · rw [if_neg hc, if_neg (fun h => hc (this.1 h))]

theorem z_fold (n : Nat) (E : LT) (hs : ∀ i, i < n → ∀ F (K : Ex → List V → List (Option Blk) → Option Out), ((T (st i).1 (st i).2).next F).run K = (F (st (i + 1)).1 (st (i + 1)).2).run K)
    (he : ∀ F (K : Ex → List V → List (Option Blk) → Option Out), ((T (st n).1 (st n).2).next F).run K = E.run K) :
    ∃ k, ∀ (K : Ex → List V → List (Option Blk) → Option Out) r, E.run K = some r → (iter T k (st 0).1 (st 0).2).run K = some r := by
  obtain ⟨k, hk⟩ := z_acc (T := T) (st := st) n (fun _ => true) E (fun _ => .no) (fun i hi F K => by rw [hs i hi F K]; rfl) he
  refine ⟨k, fun K r h => hk K r ?_⟩
  have : ((List.range n).all fun _ => true) = true := by simp
  simp only [LT.run, ite2_bool, this, if_true]
  exact h

theorem z_idx (n : Nat) (p : Nat → Bool) (E X : LT) (hs : ∀ i, i < n → ∀ F (K : Ex → List V → List (Option Blk) → Option Out), ((T (st i).1 (st i).2).next F).run K = if p i then (F (st (i + 1)).1 (st (i + 1)).2).run K else X.run K)
    (he : ∀ F (K : Ex → List V → List (Option Blk) → Option Out), ((T (st n).1 (st n).2).next F).run K = E.run K) :
    ∃ k, ∀ (K : Ex → List V → List (Option Blk) → Option Out) r, (LT.br ((List.range n).all p) E X).run K = some r → (iter T k (st 0).1 (st 0).2).run K = some r := by
  refine ⟨n + 1, fun K r h => ?_⟩
  rw [iter_upto n p E X hs he n 0 (by omega) K, ← h]
  simp only [LT.run, ite2_bool]
  have : (∀ j, 0 ≤ j → j < n → p j = true) ↔ (List.range n).all p = true := by
    simp
  by_cases hc : (List.range n).all p = true
  · rw [if_pos hc, if_pos (this.2 hc)]
  · rw [if_neg hc, if_neg (fun h => hc (this.1 h))]
end
theorem all_eq {α : Type} [BEq α] [LawfulBEq α] [DecidableEq α] (l m : List α) (d : α) (h : l.length = m.length) : ((List.range l.length).all fun j => l.getD j d == m.getD j d) = decide (l = m) := by
  rw [Bool.eq_iff_iff]
  simp only [List.all_eq_true, List.mem_range, beq_iff_eq, decide_eq_true_eq]
  constructor
  · intro h1
    apply List.ext_getElem h
    intro i h2 h3
    have := h1 i h2
    rwa [List.getD_eq_getElem?_getD, List.getD_eq_getElem?_getD, List.getElem?_eq_getElem h2, List.getElem?_eq_getElem h3] at this
  · rintro rfl i _; rfl
end Go.Rx
set_option linter.unusedVariables false
set_option linter.unusedSimpArgs false
namespace Go.Rx
section
variable {α : Type} {r : α}
def pI (l : List V) (K : Int → List V → Option α) : Option α := pO l fun c t => kI c fun n => K n t
def pP (i j : Nat) (l : List V) (K : List V → Option α) : Option α := pO l fun c t => kP i j c (K t)
def tI (l : List C) (K : Int → List C → Option α) : Option α := tC l fun c t => kI c fun n => K n t
def t4 (l : List C) (K : Int → Int → Int → Int → List C → Option α) : Option α := tI l fun a l => tI l fun b l => tI l fun c l => tI l fun d l => K a b c d l
theorem pI_s {l : List V} {K} (h : pI l K = some r) : ∃ n t, l = .one (.int .i64 n) :: t ∧ K n t = some r := by
  obtain ⟨c, t, rfl, h⟩ := pO_s h
  obtain ⟨n, rfl, h⟩ := kI_s h
  exact ⟨n, t, rfl, h⟩
theorem pP_s {i j : Nat} {l : List V} {K} (h : pP i j l K = some r) : ∃ t, l = .one (.ptr i j) :: t ∧ K t = some r := by
  obtain ⟨c, t, rfl, h1⟩ := pO_s h
  obtain ⟨rfl, h2⟩ := kP_s h1
  exact ⟨t, rfl, h2⟩
theorem tI_s {l : List C} {K} (h : tI l K = some r) : ∃ n t, l = .int .i64 n :: t ∧ K n t = some r := by
  obtain ⟨c, t, rfl, h⟩ := tC_s h
  obtain ⟨n, rfl, h⟩ := kI_s h
  exact ⟨n, t, rfl, h⟩
theorem t4_s {l : List C} {K} (h : t4 l K = some r) : ∃ a b c d t, l = .int .i64 a :: .int .i64 b :: .int .i64 c :: .int .i64 d :: t ∧ K a b c d t = some r := by
  obtain ⟨a, l1, rfl, h1⟩ := tI_s h
  obtain ⟨b, l2, rfl, h2⟩ := tI_s h1
  obtain ⟨c, l3, rfl, h3⟩ := tI_s h2
  obtain ⟨d, l4, rfl, h4⟩ := tI_s h3
  exact ⟨a, b, c, d, l4, rfl, h4⟩
end
def ZOk (S : List V → List (Option Blk) → Option (Bool × LT)) (T : List V → List (Option Blk) → LT) : Prop := ∀ vs bl t, S vs bl = some (true, t) → ∃ n, ∀ (K : Ex → List V → List (Option Blk) → Option Out) r, t.run K = some r → (iter T n vs bl).run K = some r
abbrev KT := Ex → Option (List V × List (Option Blk)) → Option Out
abbrev ST := List V → List (Option Blk) → Option (Bool × LT)
abbrev TT := List V → List (Option Blk) → LT
abbrev ZZ (c : LT) (T : TT) (vs : List V) (bl : List (Option Blk)) : Prop := ∃ k, ∀ (K : Ex → List V → List (Option Blk) → Option Out) r, c.run K = some r → (iter T k vs bl).run K = some r
theorem no_loops {α : Type} {P : Program} {tab : FuncId → Option Summ} {ann : Nat → Option (List Nat)} {lt : Nat → Option LSumm} {c : Code} (h : loopsOf c = []) : ∀ m, ∀ b ∈ loopsOf c, SoundLoop P tab ann lt α m b := by
  intro m b hb
  rw [h] at hb
  exact absurd hb List.not_mem_nil
end Go.Rx
set_option linter.unusedVariables false
set_option linter.unusedSimpArgs false
namespace Go.Rx
variable {P : Program} {tab : FuncId → Option Summ}
section
variable (P) (tab)
def funD (ann : Nat → Option (List Nat)) (lt : Nat → Option LSumm) (n : Nat) (fn : Func) (d : Nat) (args : List V) (lent : List Blk) : Option Out :=
  match fn.body with
  | some (.seq x (.seq _ y)) => match exec P tab ann lt n lent.length x (initSt fn args lent) (fun e st => match e with | .normal => some st | _ => none) with
    | some st => match Nat.blt d st.tm.length with
      | true => exec P tab ann lt n lent.length y ⟨st.tm.set d (.one .undef), st.bs, st.nx⟩ (fun e st => match e with | .normal => finish P fn lent.length st | .ret => finish P fn lent.length st | .exit _ => none)
      | false => none
    | none => none
  | _ => none
end
end Go.Rx
set_option linter.unusedVariables false
namespace Go.Rx
open Go.RowKit Go.ChangeShapes Go.WideShapes
def OpC {H : Type} (enc : TypeId × Value → H) (P : Program) (w : World) (t : TypeId) (Wf : List C → Prop) : Prop :=
  ∀ (base fuel : Nat) (spare : Nat → Bool) (held : Bool) (cs : List Value) (x : DataW H × List MemPlace), DataW.trod enc P w base spare held fuel t cs = some x → ∃ q : List C, F2 (RC (fun _ => False) w (LB []) (fun _ => none)) q cs ∧ Wf q
def OpT {H : Type} (enc : TypeId × Value → H) (P : Program) (w : World) (s : Sh) (t : TypeId) (Wf : s.T → Prop) : Prop :=
  ∀ (base fuel : Nat) (spare : Nat → Bool) (held : Bool) (cs : List Value) (x : DataW H × List MemPlace), DataW.trod enc P w base spare held fuel t cs = some x → ∃ a : s.T, RT w (MX (fun _ => False) (LB []) (fun _ => none)) s a cs ∧ Wf a

theorem mut_nil {b : Nat} : ¬ Mut (LB []) (fun _ => none) b := by
  rintro ⟨id, k, v, hk, _⟩
  simp [LB] at hk
theorem mx_nil {b : Nat} : ¬ MX (fun _ => False) (LB []) (fun _ => none) b := by
  rintro (h | h)
  · exact mut_nil h
  · exact h

section
variable {H : Type} {enc : TypeId × Value → H} {P : Program} {w : World}
theorem opC_int {k : IntKind} {t : TypeId} (ht : P.underlying t = some (.int k)) : OpC enc P w t (fun q => ∃ n, q = [.int k n] ∧ (Lit.int k n).wf = true) := by
  intro base fuel spare held cs x h
  obtain ⟨n, rfl, _, hw⟩ := DataW.trod_int ht h
  exact ⟨[.int k n], ⟨rfl, trivial⟩, n, rfl, hw⟩
theorem opT_int {k : IntKind} {t : TypeId} (ht : P.underlying t = some (.int k)) : OpT enc P w (.int k) t (fun n => (Lit.int k n).wf = true) := by
  intro base fuel spare held cs x h
  obtain ⟨n, rfl, _, hw⟩ := DataW.trod_int ht h
  exact ⟨n, rfl, hw⟩
theorem chunks_of {s : Sh} {M : Nat → Prop} : ∀ (l : List s.T) (f : Nat → List Value), (∀ i (h : i < l.length), RT w M s l[i] (f i)) → Chunks (RT w M s) l ((List.range l.length).flatMap f)
  | [], f, _ => rfl
  | x :: l, f, h => by
    refine ⟨f 0, (List.range l.length).flatMap fun i => f (i + 1), ?_, h 0 (by simp), chunks_of l _ fun i hi => h (i + 1) (by simp; omega)⟩
    rw [List.length_cons, List.range_succ_eq_map, List.flatMap_cons, List.flatMap_map]
theorem flat_get {f : Nat → List Value} {z : Nat} : ∀ (n : Nat), (∀ i, i < n → (f i).length = z) → ∀ (j : Nat) (u : Value), ((List.range n).flatMap f)[j]? = some u → ∃ i k, i < n ∧ k < z ∧ j = i * z + k ∧ (f i)[k]? = some u
  | 0, _, j, u, h => by simp at h
  | n + 1, hz, j, u, h => by
    rw [List.range_succ, List.flatMap_append] at h
    have hl : ((List.range n).flatMap f).length = n * z := by
      have : ∀ m, m ≤ n → ((List.range m).flatMap f).length = m * z := by
        intro m
        induction m with
        | zero => intro _; simp
        | succ m ih =>
          intro hm
          rw [List.range_succ, List.flatMap_append, List.length_append, ih (by omega)]
          simp only [List.flatMap_cons, List.flatMap_nil, List.append_nil]
          rw [hz m (by omega), Nat.succ_mul]
      exact this n (Nat.le_refl _)
    rw [List.getElem?_append] at h
    split at h
    · obtain ⟨i, k, h1, h2, h3, h4⟩ := flat_get n (fun i hi => hz i (by omega)) j u h
      exact ⟨i, k, by omega, h2, h3, h4⟩
    · rename_i hj
      rw [hl] at hj h
      simp only [List.flatMap_cons, List.flatMap_nil, List.append_nil] at h
      have hk : j - n * z < (f n).length := by
        rcases Nat.lt_or_ge (j - n * z) (f n).length with h' | h'
        · exact h'
        · rw [List.getElem?_eq_none h'] at h; cases h
      rw [hz n (by omega)] at hk
      exact ⟨n, j - n * z, by omega, hk, by omega, h⟩
theorem rsl_of {s : Sh} {t e : TypeId} {Wf : s.T → Prop} (ht : P.underlying t = some (.slice e)) (hc : P.cellsOf e = s.sz) (he : OpT enc P w s e Wf) {base fuel : Nat} {spare : Nat → Bool} {held : Bool} {cs : List Value} {x : DataW H × List MemPlace} (h : DataW.trod enc P w base spare held fuel t cs = some x) :
    ∃ (l : List s.T) (v : Value), cs = [v] ∧ RSl w (MX (fun _ => False) (LB []) (fun _ => none)) (RT w (MX (fun _ => False) (LB []) (fun _ => none)) s) l v ∧ l.length ≤ maxLen ∧ ∀ y ∈ l, Wf y := by
  rcases Go.Deep.open_slice ht h with ⟨rfl, _⟩ | ⟨a, len, cap, m, n, D, Pl, rfl, hb, hl, hm, hmm, hx, hi⟩
  · exact ⟨[], _, rfl, ⟨none, 0, [], rfl, Nat.le_refl _, rfl, .inl rfl⟩, by simp, by simp⟩
  · have hlm : len ≤ m := by rw [hmm]; split <;> omega
    have each : ∀ i : Fin len, ∃ y : s.T × List Value, w.cells? base (a.add (i.1 * P.cellsOf e)) (P.cellsOf e) = some y.2 ∧ RT w (MX (fun _ => False) (LB []) (fun _ => none)) s y.1 y.2 ∧ Wf y.1 := by
      intro i
      obtain ⟨cs', h1, h2⟩ := hi i.1 (by omega)
      obtain ⟨y, h3, h4⟩ := he _ _ _ _ _ _ h2
      exact ⟨(y, cs'), h1, h3, h4⟩
    let g : Nat → s.T × List Value := fun i => if h : i < len then (each ⟨i, h⟩).choose else (s.d, [])
    have hg : ∀ i, i < len → w.cells? base (a.add (i * P.cellsOf e)) (P.cellsOf e) = some (g i).2 ∧ RT w (MX (fun _ => False) (LB []) (fun _ => none)) s (g i).1 (g i).2 ∧ Wf (g i).1 := by
      intro i hi
      have := (each ⟨i, hi⟩).choose_spec
      simp only [g, hi, dif_pos]
      exact this
    have hll : ((List.range len).map fun i => (g i).1).length = len := by simp
    refine ⟨(List.range len).map fun i => (g i).1, _, rfl, ⟨some a, cap, (List.range len).flatMap fun i => (g i).2, by rw [hll], by rw [hll]; exact hl, ?_, ?_⟩, by rw [hll]; exact Nat.le_trans hl hm, ?_⟩
    · have := chunks_of (w := w) (M := MX (fun _ => False) (LB []) (fun _ => none)) ((List.range len).map fun i => (g i).1) (fun i => (g i).2) (fun i hi => by
        rw [hll] at hi
        simp only [List.getElem_map, List.getElem_range]
        exact (hg i hi).2.1)
      rwa [hll] at this
    · obtain ⟨b, off, fz⟩ := a
      by_cases hz : len = 0
      · subst hz; exact .inl rfl
      · have h0 := (hg 0 (by omega)).1
        obtain ⟨_, hl0, hat0⟩ := World.cells?_some h0
        have hz0 : 0 < P.cellsOf e := by rw [hc]; exact Sh.sz_pos s
        have hsp : fz = none := by
          have h1 := hat0 0 hz0
          rw [List.getElem?_eq_getElem (by omega)] at h1
          have := World.cell?_spot h1
          simpa [Addr.add] using this
        subst hsp
        have had : ∀ n, Addr.add ⟨b, off, none⟩ n = ⟨b, off + n, none⟩ := by
          intro n; unfold Addr.add; split <;> simp_all
        refine .inr ⟨b, off, rfl, mx_nil, fun j u hu => ?_⟩
        obtain ⟨i, k, h1, h2, h3, h4⟩ := flat_get (z := P.cellsOf e) len (fun i hi => (World.cells?_some (hg i hi).1).2.1) j u hu
        have h5 := (World.cells?_some (hg i h1).1).2.2 k h2
        rw [h4, Go.Deep.add_add, had] at h5
        rw [h3]; exact h5
    · intro y hy
      obtain ⟨i, hi', rfl⟩ := List.mem_map.1 hy
      exact (hg i (by simpa using hi')).2.2
theorem opC_list {s : Sh} {t e : TypeId} {Wf : s.T → Prop} (ht : P.underlying t = some (.slice e)) (hc : P.cellsOf e = s.sz) (he : OpT enc P w s e Wf) : OpC enc P w t (fun q => ∃ l : List s.T, q = [.lst s l] ∧ l.length ≤ maxLen ∧ ∀ y ∈ l, Wf y) := by
  intro base fuel spare held cs x h
  obtain ⟨l, v, rfl, h1, h2, h3⟩ := rsl_of ht hc he h
  exact ⟨[.lst s l], ⟨h1, trivial⟩, l, rfl, h2, h3⟩
theorem opT_list {s : Sh} {t e : TypeId} {Wf : s.T → Prop} (ht : P.underlying t = some (.slice e)) (hc : P.cellsOf e = s.sz) (he : OpT enc P w s e Wf) : OpT enc P w (.sl s) t (fun (l : List s.T) => l.length ≤ maxLen ∧ ∀ y ∈ l, Wf y) := by
  intro base fuel spare held cs x h
  obtain ⟨l, v, rfl, h1, h2, h3⟩ := rsl_of ht hc he h
  exact ⟨l, ⟨v, rfl, h1⟩, h2, h3⟩
theorem fldC {fs : Array Field} {cs : List Value} {ys : List (DataW H × List MemPlace)} {n base : Nat} {spare : Nat → Bool} {held : Bool} {Wf : List C → Prop}
    (hyl : ys.length = fs.size) (hf : ∀ (i : Nat) (f : Field), fs[i]? = some f → DataW.trod enc P w base spare held n f.type ((cs.drop f.offset).take (P.cellsOf f.type)) = ys[i]?)
    (i : Nat) (f : Field) (hi : fs[i]? = some f) (z : Nat) (hs : P.cellsOf f.type = z) (ho : OpC enc P w f.type Wf) : ∃ q : List C, F2 (RC (fun _ => False) w (LB []) (fun _ => none)) q ((cs.drop f.offset).take z) ∧ Wf q := by
  have h1 := hf i f hi
  have hlt : i < ys.length := by rw [hyl]; exact (Array.getElem?_eq_some_iff.1 hi).1
  rw [List.getElem?_eq_getElem hlt, hs] at h1
  exact ho _ _ _ _ _ _ h1
theorem fldT {s : Sh} {fs : Array Field} {cs : List Value} {ys : List (DataW H × List MemPlace)} {n base : Nat} {spare : Nat → Bool} {held : Bool} {Wf : s.T → Prop}
    (hyl : ys.length = fs.size) (hf : ∀ (i : Nat) (f : Field), fs[i]? = some f → DataW.trod enc P w base spare held n f.type ((cs.drop f.offset).take (P.cellsOf f.type)) = ys[i]?)
    (i : Nat) (f : Field) (hi : fs[i]? = some f) (z : Nat) (hs : P.cellsOf f.type = z) (ho : OpT enc P w s f.type Wf) : ∃ a : s.T, RT w (MX (fun _ => False) (LB []) (fun _ => none)) s a ((cs.drop f.offset).take z) ∧ Wf a := by
  have h1 := hf i f hi
  have hlt : i < ys.length := by rw [hyl]; exact (Array.getElem?_eq_some_iff.1 hi).1
  rw [List.getElem?_eq_getElem hlt, hs] at h1
  exact ho _ _ _ _ _ _ h1
theorem catqC {R : C → Value → Prop} {q q' : List C} {cs : List Value} (o z : Nat) (h : F2 R q ((cs.drop o).take z)) (h' : F2 R q' (cs.drop (o + z))) : F2 R (q ++ q') (cs.drop o) := by
  have := h.append h'
  rwa [← List.drop_drop, List.take_append_drop] at this
theorem endqC {R : C → Value → Prop} {q : List C} {cs : List Value} (o z : Nat) (h : F2 R q ((cs.drop o).take z)) (hl : cs.length = o + z) : F2 R q (cs.drop o) := by
  rwa [List.take_of_length_le (by rw [List.length_drop]; omega)] at h
theorem catqT {M : Nat → Prop} {a b : Sh} {x : a.T} {y : b.T} {cs : List Value} (o z : Nat) (h : RT w M a x ((cs.drop o).take z)) (h' : RT w M b y (cs.drop (o + z))) : RT w M (.pair a b) (x, y) (cs.drop o) :=
  ⟨(cs.drop o).take z, cs.drop (o + z), by rw [← List.drop_drop, List.take_append_drop], h, h'⟩
theorem endqT {M : Nat → Prop} {a : Sh} {x : a.T} {cs : List Value} (o z : Nat) (h : RT w M a x ((cs.drop o).take z)) (hl : cs.length = o + z) : RT w M a x (cs.drop o) := by
  rwa [List.take_of_length_le (by rw [List.length_drop]; omega)] at h
end
theorem law_calls {P : Program} {f : FuncId} {G : Summ} (hS : SoundFun P f G) {args : List V} {o : Out} (hG : G args [] = some (true, o)) {b : Bool} (ho : o.res = .one (.bool b)) {W : World} {vals : List Value} (ha : F2 (RV (fun _ => False) W (LB []) (fun _ => none)) args vals) :
    Calls P f vals.toArray W (fun e w' => e = .returned (.bool b) ∧ Below W.heap.size W w') := by
  have hw : WR (fun _ => False) W (Mut (LB []) (fun _ => none)) W (LB []) (fun _ => none) := by
    refine ⟨fun id k hk => by simp [LB] at hk, fun id id' k k' v v' b hk => by simp [LB] at hk, fun b hb => (mut_nil hb).elim, fun _ _ _ => rfl, Nat.le_refl _, fun b hb => hb.elim, Io.refl _⟩
  refine (hS.2.1 args [] o hG (fun _ => False) W (fun _ => none) vals (fun _ _ => rfl) hw ha).mono ?_
  rintro e w' ⟨_, v, E', rfl, _, hw', hv, _⟩
  rw [ho] at hv
  have hv' : v = .bool b := hv
  exact ⟨by rw [hv'], ⟨hw'.io.1, hw'.io.2.1, hw'.io.2.2, hw'.sz, fun k hk => hw'.fr k hk mut_nil⟩⟩
end Go.Rx
set_option linter.unusedVariables false
set_option linter.unusedSimpArgs false
namespace Go.Rx
variable {P : Program} {X : Nat → Prop} {w0 : World} {L : Nat → Prop} {w w' : World} {B B' : Bs} {E E' : En} {tab : FuncId → Option Summ} {B0 : Bs} {E0 : En} {m : Nat}
def Runs (P : Program) (fn : Func) (m : Nat) (c : Code) (st : St) (o : Out) : Prop :=
  ∀ (X : Nat → Prop) (w0 : World) (B0 : Bs) (E0 : En) (L : Nat → Prop) (Q : Exit → Act → World → Prop) (a : Act) (w : World), (∀ j, m ≤ j → E0 j = none) → SR [] X w0 B0 E0 L st a w →
    (∀ e st' a' w', (∀ i, e ≠ .exit i) → SR [] X w0 B0 E0 L st' a' w' → finish P fn m st' = some o → Q (exOf e) a' w') → c.wp P Q a w

end Go.Rx
namespace Go.Rx
def seqL : Code → Code
  | .seq a _ => a
  | c => c
def seqR : Code → Code
  | .seq _ b => b
  | c => c
def after (P : Program) (tab : FuncId → Option Summ) (m : Nat) (c : Code) (st : St) : Option St :=
  exec P tab (fun _ => none) (fun _ => none) 20 m c st (fun e st => match e with | .normal => some st | _ => none)
def setB (st : St) (s : Sh) (l : List s.T) (d1 d2 : Nat) (b : Bool) : St := ⟨(st.tm.set d1 (.one (.lst s l))).set d2 (.one (.bool b)), st.bs, st.nx + 32⟩
def finK (P : Program) (fn : Func) (m : Nat) : Ex → St → Option Out := fun e st => match e with | .normal => finish P fn m st | .ret => finish P fn m st | .exit _ => none
end Go.Rx
namespace Go.Rx
def regAt (c : Code) (i : Nat) : Oper := match c with
  | .region _ ops _ => ops.getD i default
  | _ => default
end Go.Rx
