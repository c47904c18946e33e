/- The machine of values, blocks and calls, and what it has to do with the model: part 4 of 4. -/
import Derived.Test.YtaomafmpedgofaaGreatDoorVmC
import Derived.Lib.LaidTab
import Derived.Deep.DeepHandedRow
import Derived.Laws.Externs
/- How an activation ends: marks, results. -/
namespace Go.Vm
open Go
variable {S : Sys} {P : Program}
section
variable {g0 g : G} {m : Meta} {fr : List AV} {a : Act} {σ : Store} {bx : Nat → Option Nat}

/-- One result. -/
def resSem (tmps : Array Value) : ResultVar → Sem Value
  | .tmp t => pure (tmps.getD t undef)
  | .cell a t => do loadVar t (← asAddr (tmps.getD a undef))

theorem res_spec (h : St S g0 m fr a σ g bx) {rv : ResultVar} {ar : ARes} (hc : cRes S.P m rv = some ar) {v : AV} (hv : resA fr σ ar = some v) :
    ∃ cv, (resSem a.tmps rv).run S.P g.w = .ok cv g.w ∧ Rep g v cv := by
  cases rv with
  | tmp t =>
    simp only [cRes] at hc
    split at hc
    · rename_i s hs
      cases hc
      simp only [resA, Option.some.injEq] at hv
      subst hv
      exact ⟨_, rfl, h.slots t s hs⟩
    · cases hc
  | cell b t =>
    simp only [cRes] at hc
    split at hc
    · rename_i s d hs hu
      cases hc
      simp only [resA] at hv
      split at hv
      · rename_i cs hcs
        split at hv
        · rename_i r hr
          rcases h.boxes.rep b s hs with ⟨h1, _⟩ | ⟨cs', k, vs, ty, h1, h2, h3, h4, h5, h6⟩
          · rw [hcs] at h1; cases h1
          · rw [hcs] at h1; cases h1
            rw [readN_eq] at hr
            split at hr
            case isFalse => cases hr
            rename_i hl
            cases hr
            obtain ⟨cv, hrun, hrep⟩ := run_loadVar' (P := S.P) ((box_row h4 h5 h6).sub 0 (S.P.cellsOf t)) (by rw [hu]; rfl) (by simp; omega) hv
            refine ⟨cv, ?_, hrep⟩
            simp only [resSem, h3, asAddr, Sem.run_bind, Sem.run_pure, Result.andThen_ok]
            exact hrun
        · cases hv
      · cases hv
    · rename_i s d hs hu
      cases hc
      simp only [resA] at hv
      have hx := h.slots b s hs
      obtain ⟨cv, hrun, hrep⟩ := load_spec (P := S.P) h.inv (by rw [hu]; rfl) hx hv
      refine ⟨cv, ?_, hrep⟩
      simp only [resSem]
      generalize a.tmps.getD b undef = q at hrun hx ⊢
      cases hw : lget fr s <;> rw [hw] at hv hx <;> (try (simp only [loadA, reduceCtorEq] at hv; done))
      all_goals
        cases hx
        simp only [Instr.loadAt, Instr.sureAddr, Sem.run_bind, Sem.run_pure, Result.andThen_ok] at hrun
        simp only [asAddr, Sem.run_bind, Sem.run_pure, Result.andThen_ok]
        exact hrun
    · cases hc

theorem resAll_spec (h : St S g0 m fr a σ g bx) : ∀ {rvs : List ResultVar} {ars : List ARes} {vs : List AV}, cResAll S.P m rvs = some ars → resAll fr σ ars = some vs →
    ∃ cvs : List Value, (rvs.mapM (resSem a.tmps) : Sem (List Value)).run S.P g.w = .ok cvs g.w ∧ Reps g vs cvs
  | [], ars, vs, hc, hv => by
    simp only [cResAll, Option.some.injEq] at hc
    subst hc
    simp only [resAll, Option.some.injEq] at hv
    subst hv
    exact ⟨[], rfl, .nil⟩
  | r :: rs, ars, vs, hc, hv => by
    unfold cResAll at hc
    split at hc
    case h_2 => cases hc
    rename_i ar as h1 h2
    cases hc
    simp only [resAll] at hv
    split at hv
    case h_2 => cases hv
    rename_i v hv1
    split at hv
    case h_2 => cases hv
    rename_i vs' hv2
    cases hv
    obtain ⟨cv, k1, k2⟩ := res_spec h h1 hv1
    obtain ⟨cvs, k3, k4⟩ := resAll_spec h h2 hv2
    refine ⟨cv :: cvs, ?_, .cons k2 k4⟩
    rw [List.mapM_cons]
    simp only [Sem.run_bind, k1, Result.andThen_ok, k3, Sem.run_pure]

theorem results_spec (h : St S g0 m fr a σ g bx) {fn : Func} {ars : List ARes} (hc : cResAll S.P m fn.results.toList = some ars) {v : AV} (hv : Go.Vm.results fr σ ars = some v) :
    ∃ cv, (Go.results fn a.tmps).run S.P g.w = .ok cv g.w ∧ Rep g v cv := by
  unfold Go.Vm.results at hv
  have hdef : Go.results fn a.tmps = (do let vs ← fn.results.mapM (resSem a.tmps); pure (if h : vs.size = 1 then vs[0] else .tuple vs)) := rfl
  cases hra : resAll fr σ ars with
  | none => rw [hra] at hv; cases hv
  | some vs =>
    obtain ⟨cvs, k1, k2⟩ := resAll_spec h hc hra
    have hl := k2.length
    have hrun : ∀ q, q = (if h : cvs.toArray.size = 1 then cvs.toArray[0] else .tuple cvs.toArray) → (Go.results fn a.tmps).run S.P g.w = .ok q g.w := by
      intro q hq
      rw [hdef, Array.mapM_eq_mapM_toList]
      simp only [Sem.run_bind, Sem.run_map, k1, Result.andThen_ok, Sem.run_pure]
      rw [hq]
    rw [hra] at hv
    split at hv
    · rename_i u e
      cases e
      cases hv
      cases k2 with | cons hx ht =>
      cases ht
      exact ⟨_, hrun _ (by simp), hx⟩
    · rename_i us hne e
      cases e
      cases hv
      refine ⟨.tuple cvs.toArray, hrun _ ?_, Rep.tup' k2⟩
      rw [dif_neg]
      intro h1
      simp at h1
      rw [h1] at hl
      obtain ⟨u, rfl⟩ := List.length_eq_one_iff.1 hl
      exact hne u rfl
    · cases hv


theorem putObj_def {w : World} {b : Nat} {x : Option (List Deferred)} (hh : w.heap[b]? = some (.deferred x)) (ob : Obj) : Alike1 w (w.putObj b ob) b := by
  refine ⟨by simp, fun k hk => World.putObj_heap_other hk, fun cs ty fz h => ?_, rfl, rfl, rfl⟩
  rw [hh] at h; cases h

/-- The marks are come to, one after the other; then the results. -/
theorem leave_spec {n : Nat} {fn : Func} {ars : List ARes} (hc : cResAll S.P m fn.results.toList = some ars) {v : AV} (hv : Go.Vm.results fr σ ars = some v) : ∀ (bs : List Nat) (g : G) (a : Act) , St S g0 m fr a σ g bx →
    a.defers = bs.map (fun b => { target := .collected b, args := #[] }) → LeavesInM (Fr none) n S.P fn a.tmps (EndsIn S g0 v σ) a.defers .returning g.w
  | [], g, a, h, hd => by
    obtain ⟨cv, hrun, hrep⟩ := results_spec h hc hv
    rw [hd]
    exact ⟨cv, hrun, cv, g, rfl, rfl, h.ext, h.inv, hrep⟩
  | b :: bs, g, a, h, hd => by
    rw [hd]
    obtain ⟨bs', q1, q2, q3⟩ := h.marks
    have hinj : bs' = b :: bs := (List.map_inj_right fun x y e => by simpa using e).1 (q1.symm.trans hd)
    subst hinj
    obtain ⟨k1, k2, k3, k4, k5⟩ := q3 b (by simp)
    have ha := putObj_def k5 (.deferred none)
    have hm : Mono g { g with w := g.w.putObj b (.deferred none) } := Mono.priv k2 k3 ha
    have hinv : Inv S { g with w := g.w.putObj b (.deferred none) } σ := h.inv.same hm rfl rfl (fun id p hp => ha.other p.1 (k1 id p hp)) (fun k hk => ⟨by rw [show (g.w.putObj b (.deferred none)).heap.size = g.w.heap.size from ha.size]; exact h.inv.fro k hk, fun id p hp e => (h.inv.own id p hp).2.1 (e ▸ hk)⟩)
      (fun k hk => ⟨by rw [show (g.w.putObj b (.deferred none)).heap.size = g.w.heap.size from ha.size]; exact h.inv.bor k hk, fun id p hp e => (h.inv.own id p hp).2.2 (e ▸ hk)⟩)
    have hst : St S g0 m fr { a with defers := bs.map (fun b => { target := .collected b, args := #[] }) } σ { g with w := g.w.putObj b (.deferred none) } bx := by
      refine ⟨h.ext.priv k4 ha, hinv, h.slots.mono hm, h.size, h.frl, ⟨fun t s hs => ?_, fun s c hc => ?_, h.boxes.inj, h.boxes.none⟩, bs, rfl, (List.nodup_cons.1 q2).2, fun c hc => ?_⟩
      · rcases h.boxes.rep t s hs with hx | ⟨cs, c, vs, ty, h1, h2, h3, h4, h5, h6⟩
        · exact .inl hx
        · refine .inr ⟨cs, c, vs, ty, h1, h2, h3, ?_, h5.mono hm, h6⟩
          rw [← h4]
          exact ha.other c fun e => by subst e; rw [h4] at k5; cases k5
      · obtain ⟨p1, p2, p3, p4, p5⟩ := h.boxes.own s c hc
        exact ⟨p1, p2, p3, by rw [show (g.w.putObj b (.deferred none)).heap.size = g.w.heap.size from ha.size]; exact p4, p5⟩
      · obtain ⟨p1, p2, p3, p4, p5⟩ := q3 c (by simp [hc])
        exact ⟨p1, p2, p3, p4, by rw [← p5]; exact ha.other c fun e => by subst e; exact (List.nodup_cons.1 q2).1 hc⟩
    refine ⟨by simp, .inl ⟨b, g.w.putObj b (.deferred none), rfl, run_takeDeferred k5, ?_⟩⟩
    exact leave_spec hc hv bs _ _ hst rfl

end
end Go.Vm

/- Code, whole; calls. -/
namespace Go.Vm
open Go
variable {S : Sys} {P : Program}
section
variable {g0 g : G} {m : Meta} {cf : ACall} {r : Option Nat} {n : Nat}

theorem pickL_cons (l : Nat) (p : Nat × CodeF) (ps : List (Nat × CodeF)) : pickL l (p :: ps) = if l = p.1 then some p.2 else pickL l ps := by
  show cond (Nat.beq l p.1) (some p.2) (pickL l ps) = _
  rw [nbeq]
  by_cases h : l = p.1 <;> simp [h]

theorem pickL_denLS (l : Nat) (b : CodeF) (B : List (Nat × CodeF)) : ∀ A, pickL l (denLS A b B) = match pickL l A with | some f => some (sSeq f b) | none => pickL l B
  | [] => rfl
  | p :: A => by
    have ih := pickL_denLS l b B A
    show pickL l ((p.1, sSeq p.2 b) :: denLS A b B) = _
    rw [pickL_cons, pickL_cons]
    by_cases h : l = p.1
    · simp [h]
    · simp only [h, if_false]; exact ih

theorem labels_seq {x y : Code} {A B : List (Nat × CodeF)} {fy : CodeF} (hA : LabelsOK S g0 m r n cf x A) (hB : LabelsOK S g0 m r n cf y B) (hy : CodeOK S g0 m r n cf y fy) : LabelsOK S g0 m r n cf (.seq x y) (denLS A fy B) := by
  intro l
  have h1 := hA l
  have h2 := hB l
  simp only [findLabel, pickL_denLS]
  cases hf : findLabel x l with
  | some rest =>
    rw [hf] at h1
    obtain ⟨f, hp, hok⟩ := h1
    rw [hp]
    exact ⟨_, rfl, ok_seq hok hy⟩
  | none =>
    rw [hf] at h1
    rw [h1]
    exact h2

theorem labels_none {c : Code} (h : ∀ l, findLabel c l = none) : LabelsOK S g0 m r n cf c [] := fun l => by
  rw [h l]; rfl

theorem cDraw_denL {P : Program} {ops : List Oper} {ac : ACode} (h : cDraw P m ops = some ac) : denL ac = [] := by
  unfold cDraw at h
  split at h
  · simp only at h
    split at h
    · cases h; rfl
    · cases h
  · cases h

theorem code_sound (hcf : CallOK S cf) (hmix : S.P.follows .mixedOrders = true) (hx : ∀ p ∈ m.ext, ExtOK S.P p) (hm : m.ok = true) (hgl : m.globals = S.gl) (hext : m.ext = S.ext) : ∀ (c : Code) (ac : ACode), cCode S.P m c = some ac → LoopsOK S m c → (r = none ∨ noRF c = true) →
    CodeOK S g0 m r n cf c (den ac) ∧ LabelsOK S g0 m r n cf c (denL ac) := by
  intro c
  induction c with
  | skip => intro ac hc _ _; cases hc; exact ⟨ok_skip, labels_none fun _ => rfl⟩
  | region id ops d =>
    intro ac hc _ _
    unfold cCode at hc
    split at hc
    · rename_i a' ha
      cases hc
      cases d with
      | true =>
        rw [if_pos rfl] at ha
        exact ⟨ok_regionD hcf hx hm hgl hmix ha, by rw [cDraw_denL ha]; exact labels_none fun _ => rfl⟩
      | false =>
        rw [if_neg (by simp)] at ha
        rw [Option.map_eq_some_iff] at ha
        obtain ⟨aops, h1, rfl⟩ := ha
        exact ⟨ok_region hcf hx hm hgl h1, labels_none fun _ => rfl⟩
    · cases hc
      exact ⟨ok_none _, labels_none fun _ => rfl⟩
  | seq x y ihx ihy =>
    intro ac hc hl hr
    unfold cCode at hc
    split at hc
    · rename_i a b h1 h2
      cases hc
      obtain ⟨k1, k2⟩ := ihx a h1 hl.1 (hr.imp id fun h => by simp only [noRF, Bool.and_eq_true] at h; exact h.1)
      obtain ⟨k3, k4⟩ := ihy b h2 hl.2 (hr.imp id fun h => by simp only [noRF, Bool.and_eq_true] at h; exact h.2)
      simp only [den, denL]
      exact ⟨ok_seq k1 k3, labels_seq k2 k4 k3⟩
    · cases hc
  | cond c x y ihx ihy =>
    intro ac hc hl hr
    unfold cCode at hc
    split at hc
    · rename_i s a b h0 h1 h2
      cases hc
      obtain ⟨k1, k2⟩ := ihx a h1 hl.1 (hr.imp id fun h => by simp only [noRF, Bool.and_eq_true] at h; exact h.1)
      obtain ⟨k3, k4⟩ := ihy b h2 hl.2 (hr.imp id fun h => by simp only [noRF, Bool.and_eq_true] at h; exact h.2)
      simp only [den, denL]
      exact ⟨ok_cond hgl h0 k1 k3, labels_none fun _ => rfl⟩
    · cases hc
  | block i x ih =>
    intro ac hc hl hr
    unfold cCode at hc
    rw [Option.map_eq_some_iff] at hc
    obtain ⟨a, h1, rfl⟩ := hc
    obtain ⟨k1, k2⟩ := ih a h1 hl hr
    simp only [den, denL]
    exact ⟨ok_block i k1, labels_none fun _ => rfl⟩
  | loop x ih =>
    intro ac hc hl hr
    unfold cCode at hc
    rw [Option.map_eq_some_iff] at hc
    obtain ⟨a, h1, rfl⟩ := hc
    obtain ⟨k1, k2⟩ := ih a h1 hl hr
    simp only [den, denL]
    exact ⟨ok_loop k1, labels_none fun _ => rfl⟩
  | rangeFunc f ps x y _ _ =>
    intro ac hc hl hr
    unfold cCode at hc
    split at hc
    · rename_i s pl h1 h2
      cases hc
      rcases hr with rfl | hr
      · simp only [den, denL]
        exact ⟨ok_range hcf hm hgl hext hl h1 h2, labels_none fun _ => rfl⟩
      · simp [noRF] at hr
    · cases hc
  | exit i => intro ac hc _ _; cases hc; exact ⟨ok_exit i, labels_none fun _ => rfl⟩
  | scope x ih =>
    intro ac hc hl hr
    unfold cCode at hc
    rw [Option.map_eq_some_iff] at hc
    obtain ⟨a, h1, rfl⟩ := hc
    rcases hr with rfl | hr
    · obtain ⟨k1, k2⟩ := ih a h1 hl (.inl rfl)
      simp only [den, denL]
      exact ⟨ok_scope k1 k2, labels_none fun _ => rfl⟩
    · simp [noRF] at hr
  | label l =>
    intro ac hc _ _; cases hc
    refine ⟨ok_label l, fun l' => ?_⟩
    simp only [findLabel, denL, pickL_cons]
    by_cases h : l = l'
    · subst h; simp only [beq_self_eq_true, if_true]; exact ⟨_, rfl, ok_skip⟩
    · simp only [beq_iff_eq, h, if_false, Ne.symm h]; rfl
  | goto l => intro ac hc _ _; cases hc; exact ⟨ok_goto l, labels_none fun _ => rfl⟩
  | ret => intro ac hc _ _; cases hc; exact ⟨ok_ret, labels_none fun _ => rfl⟩
  | refuse s => intro ac hc _ _; cases hc; exact ⟨ok_none _, labels_none fun _ => rfl⟩

end
end Go.Vm

/- Functions: what the machine has of them; their calls. -/
namespace Go.Vm
open Go
variable {S : Sys} {P : Program}

/-- The machine's text of a function is the model's. -/
structure FunOK (S : Sys) (f : Nat) (fn : AFunc) (cfn : Func) (c : Code) (m : Meta) (ac : ACode) : Prop where
  func : S.P.funcs[f]? = some cfn
  name : (cfn.name == "runtime.NumGoroutine") = false
  body : cfn.body = some c
  code : cCode S.P m c = some ac
  den : fn.body = den ac
  loops : LoopsOK S m c
  ok : m.ok = true
  globals : m.globals = S.gl
  ext : m.ext = S.ext
  n : m.n = cfn.ntmps
  slots : fn.nslots = m.slots.length
  params : fn.params = cArgs m fn.params.length
  fits : fn.params.length ≤ cfn.ntmps
  results : cResAll S.P m cfn.results.toList = some fn.results

def FunsOK (S : Sys) : Prop := ∀ f fn, S.funs.get f = some fn → fn.real = true → ∃ cfn c m ac, FunOK S f fn cfn c m ac


/-! ### A function's frame, entered -/
theorem setParams_cons (p : Option Nat) (ps : List (Option Nat)) (fr : List AV) (v : AV) (vs : List AV) : setParams (p :: ps) fr (v :: vs) = setParams ps (match p with | some s => lset fr s v | none => fr) vs := by
  cases p <;> rfl

theorem setParams_length : ∀ (ps : List (Option Nat)) (fr vs : List AV), (setParams ps fr vs).length = fr.length
  | [], fr, vs => rfl
  | p :: ps, fr, [] => rfl
  | p :: ps, fr, v :: vs => by
    rw [setParams_cons, setParams_length]
    cases p <;> simp

theorem setParams_other : ∀ (ps : List (Option Nat)) (fr vs : List AV) (s : Nat), (∀ p ∈ ps, p ≠ some s) → lget (setParams ps fr vs) s = lget fr s
  | [], fr, vs, s, _ => rfl
  | p :: ps, fr, [], s, _ => rfl
  | p :: ps, fr, v :: vs, s, h => by
    rw [setParams_cons, setParams_other ps _ vs s fun q hq => h q (by simp [hq])]
    cases p with
    | none => rfl
    | some s' => exact lget_lset_ne v fun e => h (some s') (by simp) (by rw [e])

theorem setParams_at : ∀ (ps : List (Option Nat)) (fr vs : List AV) (s i : Nat) (v : AV), ps[i]? = some (some s) → vs[i]? = some v → s < fr.length → (∀ j, j ≠ i → ps[j]? ≠ some (some s)) → lget (setParams ps fr vs) s = v
  | [], fr, vs, s, i, v, h, _, _, _ => by simp at h
  | p :: ps, fr, [], s, i, v, _, h, _, _ => by simp at h
  | p :: ps, fr, u :: vs, s, 0, v, h1, h2, hl, hd => by
    simp at h1 h2
    subst h1; subst h2
    rw [setParams_cons, setParams_other ps _ vs s]
    · exact lget_lset_self _ hl
    · intro q hq e
      subst e
      obtain ⟨j, hj⟩ := List.getElem?_of_mem hq
      exact hd (j + 1) (by omega) (by simpa using hj)
  | p :: ps, fr, u :: vs, s, i + 1, v, h1, h2, hl, hd => by
    rw [setParams_cons]
    refine setParams_at ps _ vs s i v (by simpa using h1) (by simpa using h2) ?_ fun j hj => by have := hd (j + 1) (by omega); simpa using this
    cases p <;> simpa using hl

theorem cArgs_get {m : Meta} {n i : Nat} (h : i < n) : (cArgs m n)[i]? = some (match m.slot i with | some (s, false) => some s | _ => none) := by
  simp only [cArgs, List.getElem?_map, List.getElem?_range h, Option.map_some]
  rfl
theorem cArgs_slot {m : Meta} {n i s : Nat} (h : (cArgs m n)[i]? = some (some s)) : i < n ∧ m.slot i = some (s, false) := by
  have hl : i < n := by
    have := (List.getElem?_eq_some_iff.1 h).1
    simpa [cArgs] using this
  rw [cArgs_get hl] at h
  have h := Option.some.inj h
  refine ⟨hl, ?_⟩
  split at h
  · rename_i s' e; cases h; exact e
  · cases h

theorem undefs_get : ∀ (n s : Nat), lget (undefs n) s = .undef
  | 0, _ => rfl
  | _ + 1, 0 => rfl
  | n + 1, s + 1 => undefs_get n s
theorem undefs_length : ∀ (n : Nat), (undefs n).length = n
  | 0 => rfl
  | n + 1 => by show (undefs n).length + 1 = _; rw [undefs_length n]

section
variable {g : G} {σ : Store} {f : Nat} {fn : AFunc} {cfn : Func} {c : Code} {m : Meta} {ac : ACode}

theorem enter_st (h : FunOK S f fn cfn c m ac) (hi : Inv S g σ) {args : List AV} {cargs : List Value} (hr : Reps g args cargs) (hl : args.length = fn.params.length) :
    St S g m (setParams fn.params (undefs fn.nslots) args) { tmps := cargs.toArray ++ Array.replicate (cfn.ntmps - cargs.toArray.size) undef, defers := [] } σ g (fun _ => none) := by
  have hcl : cargs.length = fn.params.length := by rw [← hr.length]; exact hl
  have hfit := h.fits
  refine ⟨Ext.refl g, hi, fun t s hs => ?_, ?_, ?_, ⟨fun t s hs => .inl ⟨?_, rfl⟩, fun s b hb => (nomatch hb), fun s s' b hb => (nomatch hb), fun _ _ => rfl⟩, MarksOK.nil g g⟩
  · have hsl : s < (undefs fn.nslots).length := by rw [undefs_length, h.slots]; exact Meta.slot_lt hs
    by_cases ht : t < fn.params.length
    · have hp : fn.params[t]? = some (some s) := by rw [h.params, cArgs_get ht, hs]
      obtain ⟨v, hv⟩ : ∃ v, args[t]? = some v := ⟨_, List.getElem?_eq_getElem (by omega)⟩
      obtain ⟨cv, hcv⟩ : ∃ v, cargs[t]? = some v := ⟨_, List.getElem?_eq_getElem (by omega)⟩
      rw [setParams_at fn.params _ args s t v hp hv hsl ?_]
      · have : (cargs.toArray ++ Array.replicate (cfn.ntmps - cargs.toArray.size) undef).getD t undef = cv := by
          rw [Array.getD_eq_getD_getElem?, Array.getElem?_append_left (by simp; omega)]
          simp [hcv]
        show Rep g v ((cargs.toArray ++ Array.replicate (cfn.ntmps - cargs.toArray.size) undef).getD t undef)
        rw [this]
        exact (of_forall2 hr).2 t v cv hv hcv
      · intro j hj e
        rw [h.params] at e
        exact hj (Meta.slot_inj (cArgs_slot e).2 hs).1
    · rw [setParams_other, undefs_get]
      · have : (cargs.toArray ++ Array.replicate (cfn.ntmps - cargs.toArray.size) undef).getD t undef = undef := by
          rw [Array.getD_eq_getD_getElem?, Array.getElem?_append_right (by simp; omega)]
          simp only [Array.getElem?_replicate]
          split <;> rfl
        show Rep g .undef ((cargs.toArray ++ Array.replicate (cfn.ntmps - cargs.toArray.size) undef).getD t undef)
        rw [this]
        exact .undef
      · intro p hp e
        subst e
        obtain ⟨i, hi'⟩ := List.getElem?_of_mem hp
        rw [h.params] at hi'
        obtain ⟨h1, h2⟩ := cArgs_slot hi'
        have := (Meta.slot_inj h2 hs).1
        omega
  · simp [h.n]; omega
  · rw [setParams_length, undefs_length, h.slots]
  · rw [setParams_other, undefs_get]
    intro p hp e
    subst e
    obtain ⟨i, hi'⟩ := List.getElem?_of_mem hp
    rw [h.params] at hi'
    have := (Meta.slot_inj (cArgs_slot hi').2 hs).2
    cases this

/-- What is known of calls holds of the model's. -/
def KnownOK (S : Sys) (K : Known) : Prop := ∀ f k, K f = some k → ∀ g σ args cargs as v, Inv S g σ → Reps g args cargs → mapO (snap true σ 20) args = some as → k as = some v →
  (∃ cfn c, S.P.funcs[f]? = some cfn ∧ (cfn.name == "runtime.NumGoroutine") = false ∧ cfn.body = some c) ∧ Calls S.P f cargs.toArray g.w (EndsIn S g v σ)

theorem callFn_sound (hF : FunsOK S) {K : Known} (hK : KnownOK S K) (hmix : S.P.follows .mixedOrders = true) {cf : ACall} (hcf : CallOK S cf) (hext : ∀ p ∈ S.ext, ExtOK S.P p) {n : Nat} {args : List AV} {v : AV} {σ' : Store} (hv : callFn K S.funs n cf f args σ = some (v, σ')) {cargs : List Value} (hi : Inv S g σ) (hr : Reps g args cargs) :
    (∃ cfn c, S.P.funcs[f]? = some cfn ∧ (cfn.name == "runtime.NumGoroutine") = false ∧ cfn.body = some c) ∧ Calls S.P f cargs.toArray g.w (EndsIn S g v σ') := by
  unfold callFn at hv
  split at hv
  · rename_i v' hkn
    cases hv
    unfold knownAt at hkn
    split at hkn
    case h_2 => cases hkn
    rename_i k hk
    split at hkn
    case h_2 => cases hkn
    rename_i as has
    exact hK f k hk g σ args cargs as v hi hr has hkn
  · split at hv
    case h_2 => cases hv
    rename_i fn hfn
    simp only [lenR_eq, nbeq] at hv
    cases hc : (fn.real && decide (args.length = fn.params.length)) with
    | false => rw [hc] at hv; cases hv
    | true =>
      rw [hc, cond_true] at hv
      simp only [Bool.and_eq_true, decide_eq_true_eq] at hc
      obtain ⟨cfn, c, m, ac, h⟩ := hF f fn hfn hc.1
      refine ⟨⟨cfn, c, h.func, h.name, h.body⟩, ?_⟩
      have hst := enter_st h hi hr hc.2
      -- the body
      obtain ⟨res, hres, hend⟩ : ∃ res, fn.body n cf (setParams fn.params (undefs fn.nslots) args) σ = some res ∧ (res.e = .normal ∨ res.e = .ret) ∧ Go.Vm.results res.fr res.σ fn.results = some v ∧ res.σ = σ' := by
        simp only [endFunc] at hv
        split at hv
        · rename_i fr1 σ1 e1
          cases hq : Go.Vm.results fr1 σ1 fn.results with
          | none => rw [hq] at hv; cases hv
          | some u => rw [hq] at hv; cases hv; exact ⟨_, e1, .inl rfl, hq, rfl⟩
        · rename_i fr1 σ1 e1
          cases hq : Go.Vm.results fr1 σ1 fn.results with
          | none => rw [hq] at hv; cases hv
          | some u => rw [hq] at hv; cases hv; exact ⟨_, e1, .inr rfl, hq, rfl⟩
        · cases hv
      obtain ⟨hend, hq, rfl⟩ := hend
      rw [h.den] at hres
      have hcode := (code_sound (r := none) (n := 0) (g0 := g) hcf hmix (by rw [h.ext]; exact hext) h.ok h.globals h.ext c ac h.code h.loops (.inl rfl)).1
      refine calls_of_fr (r := none) (n := 0) (callsIn_of_wp_marks h.func h.body trivial ?_)
      refine wpIn_mono (hcode n _ _ _ _ _ res hst hres) ?_
      rintro e a' w' ⟨rfl, g', bx', rfl, hst'⟩
      obtain ⟨bs, hb1, _⟩ := hst'.marks
      have hl := leave_spec (n := 0) h.results hq bs g' a' hst' hb1
      rcases hend with e | e <;> rw [e] <;> exact hl

end
end Go.Vm

/- A round of a loop over a function; calls, whole. -/
namespace Go.Vm
open Go
variable {S : Sys}

theorem foldl_params_size (l : List (Nat × Value)) : ∀ (tm : Array Value), (l.foldl (fun tmps (p : Nat × Value) => tmps.setIfInBounds p.1 p.2) tm).size = tm.size := by
  induction l with
  | nil => intro tm; rfl
  | cons p l ih => intro tm; simp only [List.foldl_cons]; rw [ih]; simp

theorem round_slots {g : G} {m : Meta} (hm : m.ok = true) : ∀ (ts ps : List Nat) (args : List AV) (cargs : List Value) (fr : List AV) (tm : Array Value), cParams m ts = some ps → Reps g args cargs → ps.length = args.length →
    fr.length = m.slots.length → tm.size = m.n → SlotRep g m fr tm →
    SlotRep g m (setParams (ps.map some) fr args) ((ts.zip cargs).foldl (fun tmps (p : Nat × Value) => tmps.setIfInBounds p.1 p.2) tm) ∧ (setParams (ps.map some) fr args).length = fr.length
  | [], ps, args, cargs, fr, tm, hp, hr, hl, hf, ht, hs => by
    simp only [cParams, Option.some.injEq] at hp
    subst hp
    exact ⟨hs, rfl⟩
  | t :: ts, ps, args, cargs, fr, tm, hp, hr, hl, hf, ht, hs => by
    unfold cParams at hp
    split at hp
    case h_2 => cases hp
    rename_i s r h1 h2
    cases hp
    cases hr with
    | nil => simp at hl
    | @cons v cv as cs hv hrest =>
      have htl : t < tm.size := by rw [ht]; exact Meta.slot_n hm h1
      have hs' : SlotRep g m (lset fr s v) (tm.setIfInBounds t cv) := fun t' s' hts => by
        by_cases e : t = t'
        · subst e
          rw [h1] at hts; cases hts
          rw [getD_set_self cv htl, lget_lset_self v (by rw [hf]; exact Meta.slot_lt h1)]
          exact hv
        · have hne : s ≠ s' := fun e' => e (by subst e'; exact (Meta.slot_inj h1 hts).1)
          rw [getD_set_ne cv e, lget_lset_ne v hne]
          exact hs t' s' hts
      obtain ⟨k1, k2⟩ := round_slots hm ts r as cs (lset fr s v) (tm.setIfInBounds t cv) h2 hrest (by simpa using hl) (by simpa using hf) (by simpa using ht) hs'
      exact ⟨k1, by rw [show setParams ((s :: r).map some) fr (v :: as) = setParams (r.map some) (lset fr s v) as from rfl, k2]; simp⟩

theorem cParams_length {m : Meta} : ∀ {ts ps : List Nat}, cParams m ts = some ps → ps.length = ts.length
  | [], ps, h => by simp only [cParams, Option.some.injEq] at h; subst h; rfl
  | t :: ts, ps, h => by
    unfold cParams at h
    split at h
    · rename_i s r h1 h2; cases h; simp [cParams_length h2]
    · cases h

theorem rep_yield {g : G} {id : Nat} {cfv : Value} (h : Rep g (.yield id) cfv) : ∃ l, cfv = .func (.yield l) #[] #[] ∧ id < g.nx ∧ ∀ p, g.φ id = some p → l = p.1 := by
  cases h with
  | yield _ l hn h => exact ⟨l, rfl, hn, h⟩

theorem callYield_sound (hmix : S.P.follows .mixedOrders = true) {cf : ACall} (hcf : CallOK S cf) (hext : ∀ p ∈ S.ext, ExtOK S.P p) {n id : Nat} {args : List AV} {σ σ' : Store} {v : AV} (hv : callYield S.funs n cf id args σ = some (v, σ')) {g : G} {cfv : Value} {cargs : List Value} (hi : Inv S g σ) (hrf : Rep g (.yield id) cfv) (hr : Reps g args cargs) :
    Invoked S.P cfv cargs.toArray g.w (EndsIn S g v σ') := by
  obtain ⟨l, rfl, hidn, hl⟩ := rep_yield hrf
  unfold callYield at hv
  split at hv
  case h_2 => cases hv
  rename_i pend0 fr ps lid hget
  split at hv
  case h_2 => cases hv
  rename_i fn hfn
  obtain ⟨p, hp, hb⟩ := hi.live id _ hget
  have hlp := hl p hp
  cases hb with | loop _ _ _ _ _ r h03 hh hlr =>
  obtain ⟨hstate, m, lfn, a', b', e1, e2, e3, e4, e5, e6, e7, e8, e9, e10, e11, e12, e13, e14, hsl⟩ := hlr
  rw [hfn] at e1
  cases e1
  have hpend : pend0 = none := by
    cases pend0 with
    | none => rfl
    | some _ => exact hstate.elim
  subst hpend
  rw [nbeq] at hv
  by_cases hlen : ps.length = args.length
  case neg => simp [hlen] at hv
  simp only [hlen, decide_true, cond_true] at hv
  have hsz : cargs.toArray.size = r.params.size := by
    have h1 := cParams_length e8
    have h2 := hr.length
    simp at h1 ⊢
    omega
  subst hlp
  refine ⟨p.1, r.fn, (r.params.zip (#[] ++ cargs.toArray)).foldl (fun tmps (x : Tmp × Value) => tmps.setIfInBounds x.1 x.2) r.tmps, r.assign, r.body, g.w, ?_, ?_⟩
  · show (Instr.yield p.1 _).run S.P g.w = _
    refine run_yield hh ?_
    simpa using hsz
  refine roundIn_of_wpIn (F := Fr none) trivial ?_
  have hF : (Fr none).inRound p.1 = Fr (some p.1) := rfl
  rw [hF]
  -- the assignments
  split at hv
  case h_2 => cases hv
  rename_i fr1 σ1 hass
  have hfold : (r.params.zip (#[] ++ cargs.toArray)).foldl (fun tmps (x : Tmp × Value) => tmps.setIfInBounds x.1 x.2) r.tmps = (r.params.toList.zip cargs).foldl (fun tmps (p : Nat × Value) => tmps.setIfInBounds p.1 p.2) r.tmps := by
    rw [← Array.foldl_toList]
    simp
  obtain ⟨hs1, hs2⟩ := round_slots e10 r.params.toList ps args cargs fr r.tmps e8 hr hlen e14 e11 hsl
  have hst : St S g m (setParams (ps.map some) fr args) { tmps := (r.params.toList.zip cargs).foldl (fun tmps (p : Nat × Value) => tmps.setIfInBounds p.1 p.2) r.tmps, defers := [] } σ g (fun _ => none) := by
    refine ⟨Ext.refl g, hi, hs1, ?_, by rw [hs2, e14], ⟨fun t s hs => absurd hs (Meta.open_slot e9), fun s b hb => (nomatch hb), fun s s' b hb => (nomatch hb), fun _ _ => rfl⟩, MarksOK.nil g g⟩
    rw [foldl_params_size]; exact e11
  have hca := (code_sound (r := some p.1) (n := 0) (g0 := g) hcf hmix (by rw [e13]; exact hext) e10 e12 e13 r.assign a' e2 (.of_none e6) (.inr e6)).1
  have hcb := (code_sound (r := some p.1) (n := 0) (g0 := g) hcf hmix (by rw [e13]; exact hext) e10 e12 e13 r.body b' e3 (.of_none e7) (.inr e7)).1
  rw [e4] at hass
  have hwp := hca n _ _ _ _ _ _ hst hass
  have hwp' : r.assign.wpIn (Fr (some p.1)) 0 S.P (Post S g m ⟨.normal, fr1, σ1⟩) { tmps := (r.params.zip (#[] ++ cargs.toArray)).foldl (fun tmps (x : Tmp × Value) => tmps.setIfInBounds x.1 x.2) r.tmps, defers := [] } g.w := by
    rw [hfold]; exact hwp
  refine wpIn_mono hwp' ?_
  rintro e a1 w1 ⟨rfl, g1, bx1, rfl, hst1⟩
  simp only at hst1
  -- the record, taken
  split at hv
  case h_2 => cases hv
  rename_i pend1 fr2 ps2 lid2 hget1
  obtain ⟨p1, hp1, hb1⟩ := hst1.inv.live id _ hget1
  have hpp : p1 = p := by
    have := hst1.ext.phi id hidn p1 hp1
    rw [hp] at this
    cases this; rfl
  subst hpp
  cases hb1 with | loop _ _ _ _ _ r1 h031 hh1 hlr1 =>
  obtain ⟨hstate1, hrest1⟩ := hlr1
  have hpend1 : pend1 = none := by
    cases pend1 with
    | none => rfl
    | some _ => exact hstate1.elim
  subst hpend1
  show ∃ w₂, _ ∧ _
  refine ⟨_, run_beginRound hh1 hstate1.1, ?_⟩
  obtain ⟨halike, hput⟩ := putObj_loop hh1 (.loop { r1 with state := .busy })
  let g2 : G := { g1 with w := g1.w.putObj p1.1 (.loop { r1 with state := .busy }) }
  have ext2 : Ext g1 g2 := Ext.set hp1 halike
  have m2 : Mono g1 g2 := ext2.mono hst1.inv
  have hblk : BlkRep S g2 p1 (.loop false none fr2 ps2 lid2) := by
    obtain ⟨m', lfn', a'', b'', q1, q2, q3, q4, q5, q6, q7, q8, q9, q10, q11, q12, q13, q14, hsl'⟩ := hrest1
    exact .loop _ _ _ _ _ { r1 with state := .busy } h031 hput ⟨rfl, m', lfn', a'', b'', q1, q2, q3, q4, q5, q6, q7, q8, q9, q10, q11, q12, q13, q14, hsl'.mono m2⟩
  have inv2 : Inv S g2 (σ1.set id (.loop false none fr2 ps2 lid2)) := hst1.inv.set hget1 hp1 halike hblk
  have hst2 : St S g m fr1 a1 (σ1.set id (.loop false none fr2 ps2 lid2)) g2 bx1 := hst1.ext' ext2 inv2
  unfold roundEnd at hv
  split at hv
  case h_2 => cases hv
  rename_i re rfr σ2 hbody
  rw [e5] at hbody
  refine wpIn_mono (hcb n _ _ _ _ _ _ hst2 hbody) ?_
  rintro e a3 w3 ⟨rfl, g3, bx3, rfl, hst3⟩
  simp only at hst3 hv ⊢
  split at hv
  case h_2 => cases hv
  rename_i rd3 pend3 fr3 ps3 lid3 hget3
  obtain ⟨p3, hp3, hb3⟩ := hst3.inv.live id _ hget3
  have hpp3 : p3 = p1 := by
    have := hst3.ext.phi id hidn p3 hp3
    rw [hp] at this
    cases this; rfl
  subst hpp3
  cases hb3 with | loop _ _ _ _ _ r3 h033 hh3 hlr3 =>
  obtain ⟨_, hrest3⟩ := hlr3
  -- the round's end
  have fin : ∀ (jump : Option Code) (blk : Blk) (rd : Bool) (pend : Option AExit), blk = .loop rd pend fr3 ps3 lid3 →
      (match rd, pend with
        | true, none => (if jump.isNone then LoopState.ready else .done) = .ready ∧ jump = none
        | false, none => (if jump.isNone then LoopState.ready else .done) = .busy
        | false, some e => (if jump.isNone then LoopState.ready else .done) = .done ∧ jump = codeOf e ∧ e ≠ .normal
        | true, some _ => False) → (v, σ') = (.bool jump.isNone, σ2.set id blk) →
      ∃ cv w', (Instr.endRound p3.1 jump).run S.P g3.w = .ok cv w' ∧ EndsIn S g v σ' (.returned cv) w' := by
    intro jump blk rd pend hblk hst' hve
    subst hblk
    obtain ⟨halike3, hput3⟩ := putObj_loop hh3 (.loop { r3 with state := if jump.isNone then .ready else .done, pending := jump })
    let g4 : G := { g3 with w := g3.w.putObj p3.1 (.loop { r3 with state := if jump.isNone then .ready else .done, pending := jump }) }
    have ext4 : Ext g3 g4 := Ext.set hp3 halike3
    have m4 : Mono g3 g4 := ext4.mono hst3.inv
    have hblk4 : BlkRep S g4 p3 (.loop rd pend fr3 ps3 lid3) := by
      obtain ⟨m', lfn', a'', b'', q1, q2, q3, q4, q5, q6, q7, q8, q9, q10, q11, q12, q13, q14, hsl'⟩ := hrest3
      exact .loop _ _ _ _ _ { r3 with state := if jump.isNone then .ready else .done, pending := jump } h033 hput3 ⟨hst', m', lfn', a'', b'', q1, q2, q3, q4, q5, q6, q7, q8, q9, q10, q11, q12, q13, q14, hsl'.mono m4⟩
    have inv4 : Inv S g4 (σ2.set id (.loop rd pend fr3 ps3 lid3)) := hst3.inv.set hget3 hp3 halike3 hblk4
    cases hve
    exact ⟨_, _, run_endRound jump hh3, _, g4, rfl, rfl, hst3.ext.trans ext4, inv4, .bool _⟩
  cases re with
  | normal =>
    simp only [Option.some.injEq] at hv
    exact fin none _ true none rfl ⟨rfl, rfl⟩ hv.symm
  | exit i =>
    simp only [Option.some.injEq] at hv
    exact fin (some (.exit i)) _ false (some (.exit i)) rfl ⟨rfl, rfl, by simp⟩ hv.symm
  | goto i =>
    simp only [Option.some.injEq] at hv
    exact fin (some (.goto i)) _ false (some (.goto i)) rfl ⟨rfl, rfl, by simp⟩ hv.symm
  | ret =>
    simp only [Option.some.injEq] at hv
    exact fin (some .ret) _ false (some .ret) rfl ⟨rfl, rfl, by simp⟩ hv.symm

theorem rep_fn {g : G} {f : Nat} {as bs : List AV} {cfv : Value} (h : Rep g (.fn f as bs) cfv) : ∃ first caps : List Value, cfv = .func (.func f) first.toArray caps.toArray ∧ Reps g as first ∧ Reps g bs caps := by
  cases h with
  | fn _ _ _ first caps ha hb h1 h2 =>
    exact ⟨first.toList, caps.toList, by simp, forall2_of (by simpa using ha) fun i c v hc hv => h1 i c v hc (by simpa using hv), forall2_of (by simpa using hb) fun i c v hc hv => h2 i c v hc (by simpa using hv)⟩

theorem callA_sound (hF : FunsOK S) {K : Known} (hK : KnownOK S K) (hmix : S.P.follows .mixedOrders = true) (hext : ∀ p ∈ S.ext, ExtOK S.P p) {cf : ACall} (hcf : CallOK S cf) {n : Nat} : CallOK S (callA K S.funs n cf) := by
  intro fv args σ v σ' hv g cfv cargs hi hrf hr
  unfold callA at hv
  split at hv
  · rename_i f first caps
    obtain ⟨cfirst, ccaps, rfl, h1, h2⟩ := rep_fn hrf
    rw [app_eq, app_eq] at hv
    obtain ⟨⟨cfn, c, k1, k2, k3⟩, hcalls⟩ := callFn_sound hF hK hmix hcf hext hv hi (h1.append (hr.append h2))
    refine ⟨_, g.w, ?_, hcalls⟩
    have hargs : cfirst.toArray ++ cargs.toArray ++ ccaps.toArray = (cfirst ++ (cargs ++ ccaps)).toArray := by simp
    show (callFunc f (cfirst.toArray ++ cargs.toArray ++ ccaps.toArray)).run S.P g.w = _
    rw [hargs]
    simp only [callFunc, Sem.run_bind, run_program, Result.andThen_ok, k1, k2, k3]
    rfl
  · exact callYield_sound hmix hcf hext hv hi hrf hr
  · cases hv

theorem call_sound (hF : FunsOK S) {K : Known} (hK : KnownOK S K) (hmix : S.P.follows .mixedOrders = true) (hext : ∀ p ∈ S.ext, ExtOK S.P p) (n : Nat) : ∀ k, CallOK S (call K S.funs n k)
  | 0 => fun _ _ _ _ _ hv => by cases hv
  | k + 1 => callA_sound hF hK hmix hext (call_sound hF hK hmix hext n k)

end Go.Vm

/- From a row's premises to a run of the machine's, and back. -/
namespace Go.Vm
open Go
variable {S : Sys}

/-! ### Package-level variables that hold plain data -/
section
variable {H : Type}
def flatFs (P : Program) (g : TypeId → DataW H → Option (List Value)) : List Field → List (DataW H) → Nat → Nat → Option (List Value)
  | [], [], off, total => if off = total then some [] else none
  | f :: fs, d :: ds, off, total => if f.offset = off then (g f.type d).bind fun vs => if vs.length = P.cellsOf f.type then (flatFs P g fs ds (off + P.cellsOf f.type) total).map (vs ++ ·) else none else none
  | _, _, _, _ => none
/-- A datum's cells, one after the other. -/
def flatV (P : Program) : Nat → TypeId → DataW H → Option (List Value)
  | 0, _, _ => none
  | n + 1, t, d => match P.underlying t, d with
    | some .bool, .lit (.bool b) => some [.bool b]
    | some (.int _), .lit (.int k z) => some [.int k z]
    | some .string, .lit (.string bs) => some [.string ⟨bs.toArray⟩]
    | some (.array m e), .agg ds => if ds.length = m ∧ P.cellsOf t = m * P.cellsOf e then (ds.mapM fun d => (flatV P n e d).bind fun vs => if vs.length = P.cellsOf e then some vs else none).map List.flatten else none
    | some (.struct fs), .agg ds => flatFs P (flatV P n) fs.toList ds 0 (P.cellsOf t)
    | _, _ => none

theorem flatten_pieces {cs : List Value} {k : Nat} : ∀ (m : Nat) (vss : List (List Value)) (off : Nat), vss.length = m → cs.length = off + m * k → (∀ (i : Nat) (vs : List Value), vss[i]? = some vs → vs.length = k ∧ (cs.drop (off + i * k)).take k = vs) → cs.drop off = vss.flatten
  | 0, vss, off, hl, hc, _ => by
    have : vss = [] := List.length_eq_zero_iff.1 hl
    subst this
    simp at hc
    simp [← hc]
  | m + 1, [], off, hl, _, _ => by simp at hl
  | m + 1, v :: vss, off, hl, hc, h => by
    have h0 := h 0 v rfl
    simp only [Nat.zero_mul, Nat.add_zero] at h0
    have ih := flatten_pieces (k := k) m vss (off + k) (by simpa using hl) (by rw [hc, Nat.succ_mul]; omega) fun i vs hi => by
      have := h (i + 1) vs (by simpa using hi)
      rw [show off + k + i * k = off + (i + 1) * k by rw [Nat.succ_mul]; omega]
      exact this
    rw [List.flatten_cons, ← ih, ← h0.2, ← List.drop_drop]
    exact (List.take_append_drop k (cs.drop off)).symm

theorem flat_trod {enc : TypeId × Value → H} {P : Program} {w : World} {base : Nat} {sp : Nat → Bool} {held : Bool} : ∀ (n fuel : Nat) (t : TypeId) (d : DataW H) (p : List MemPlace) (cs vs : List Value), DataW.trod enc P w base sp held fuel t cs = some (d, p) → flatV P n t d = some vs → cs = vs := by
  intro n
  induction n with
  | zero => intro fuel t d p cs vs _ h; simp [flatV] at h
  | succ n ih =>
    intro fuel t d p cs vs h hv
    cases fuel with
    | zero => simp [DataW.trod] at h
    | succ fuel =>
    unfold flatV at hv
    split at hv
    · rename_i b hu
      cases hv
      obtain ⟨b', rfl, hx⟩ := DataW.trod_bool hu h
      simp only [Prod.mk.injEq, DataW.lit.injEq, Lit.bool.injEq] at hx
      rw [hx.1]
    · rename_i hu
      cases hv
      obtain ⟨z, rfl, hx, _⟩ := DataW.trod_int hu h
      simp only [Prod.mk.injEq, DataW.lit.injEq, Lit.int.injEq] at hx
      rw [hx.1.1, hx.1.2]
    · rename_i bs hu
      cases hv
      obtain ⟨s, rfl, hx, _⟩ := DataW.trod_string hu h
      simp only [Prod.mk.injEq, DataW.lit.injEq, Lit.string.injEq] at hx
      rw [hx.1]
    · rename_i m e ds hu
      split at hv
      case isFalse => cases hv
      rename_i hc
      simp only [DataW.trod, hu] at h
      split at h
      case isFalse => cases h
      rename_i hl
      obtain ⟨xs, hm, hx⟩ := Option.map_eq_some_iff.1 h
      obtain ⟨vss, hvm, rfl⟩ := Option.map_eq_some_iff.1 hv
      simp only [Prod.mk.injEq, DataW.agg.injEq] at hx
      have hds := hx.1
      have hvl := Lib.mapM_length hvm
      have := flatten_pieces (cs := cs) (k := P.cellsOf e) m vss 0 (by omega) (by rw [hl, hc.2]; omega) fun i vs hi => by
        have hil : i < vss.length := (List.getElem?_eq_some_iff.1 hi).1
        obtain ⟨b, hb, hf⟩ := Lib.mapM_at (l := List.range m) hm i i (List.getElem?_range (by omega))
        have hdi : ds[i]? = some b.1 := by rw [← hds, List.getElem?_map, hb]; rfl
        obtain ⟨vs', h1, h2⟩ := Lib.mapM_at hvm i b.1 hdi
        rw [hi] at h1; cases h1
        simp only [Option.bind_eq_some_iff] at h2
        obtain ⟨vs', h3, h4⟩ := h2
        split at h4
        case isFalse => cases h4
        rename_i hvl'
        cases h4
        exact ⟨hvl', ih fuel e b.1 b.2 _ _ (by rw [Nat.zero_add]; exact hf) h3⟩
      simpa using this
    · rename_i fs ds hu
      simp only [DataW.trod, hu] at h
      split at h
      case isFalse => cases h
      rename_i hl
      obtain ⟨xs, hm, hx⟩ := Option.map_eq_some_iff.1 h
      simp only [Prod.mk.injEq, DataW.agg.injEq] at hx
      have hds := hx.1
      have key : ∀ (l : List Field) (ds : List (DataW H)) (xs : List (DataW H × List MemPlace)) (off : Nat) (vs : List Value), (l.mapM fun f => DataW.trod enc P w base sp held fuel f.type ((cs.drop f.offset).take (P.cellsOf f.type))) = some xs → xs.map (·.1) = ds →
          flatFs P (flatV P n) l ds off (P.cellsOf t) = some vs → cs.drop off = vs := by
        intro l
        induction l with
        | nil =>
          intro ds xs off vs hm hd hg
          cases ds with
          | nil =>
            simp only [flatFs] at hg
            split at hg
            · rename_i e; cases hg; rw [e, ← hl]; simp
            · cases hg
          | cons => simp [flatFs] at hg
        | cons f l ihl =>
          intro ds xs off vs hm hd hg
          simp only [List.mapM_cons, Option.bind_eq_bind, Option.bind_eq_some_iff, Option.pure_def, Option.some.injEq] at hm
          obtain ⟨b, hb, xs', hxs', rfl⟩ := hm
          cases ds with
          | nil => simp at hd
          | cons d ds =>
            simp only [List.map_cons, List.cons.injEq] at hd
            obtain ⟨rfl, hd⟩ := hd
            simp only [flatFs] at hg
            split at hg
            case isFalse => cases hg
            rename_i ho
            simp only [Option.bind_eq_some_iff] at hg
            obtain ⟨v1, h1, h2⟩ := hg
            split at h2
            case isFalse => cases h2
            rename_i hlv
            obtain ⟨v2, h3, rfl⟩ := Option.map_eq_some_iff.1 h2
            have e1 := ih fuel f.type b.1 b.2 _ _ hb h1
            have e2 := ihl ds xs' _ v2 hxs' hd h3
            subst ho
            rw [← e2, ← e1, ← List.drop_drop]
            exact (List.take_append_drop _ _).symm
      simpa using key fs.toList ds xs 0 vs hm hds hv
    · cases hv
end

/-- The machine's table of the listed variables. -/
def glOne (P : Program) (x : String × DataW Unit) : Option (Nat × List AV) := do
  let g ← P.globalNamed x.1
  let t ← (P.globals[g]?).map (·.type)
  let cs ← (flatV P 8 t x.2).bind cVals
  pure (g, cs)

theorem cVal1_ok {v : Value} {c : AV} (h : cVal1 v = some c) : okV false c = true := by
  unfold cVal1 at h
  split at h <;> cases h <;> rfl
theorem cVals_ok : ∀ {vs : List Value} {cs : List AV}, cVals vs = some cs → ∀ c ∈ cs, okV false c = true
  | [], cs, h => by cases h; simp
  | v :: vs, cs, h => by
    unfold cVals at h
    split at h
    · rename_i a as h1 h2
      cases h
      intro c hc
      rcases List.mem_cons.1 hc with rfl | hc
      · exact cVal1_ok h1
      · exact cVals_ok h2 c hc
    · cases h

theorem laid_mem {P : Program} {W : World} : ∀ {laid : List (String × DataW Unit)} {ps : List MemPlace}, DataW.LaidVars P W laid ps → ∀ x ∈ laid, ∃ g t cs fuel p, P.globalNamed x.1 = some g ∧ (P.globals[g]?).map (·.type) = some t ∧ W.var? P x.1 = some cs ∧ DataW.trod (fun _ => ()) P W 0 (fun _ => true) false fuel t cs.toList = some (x.2, p)
  | [], ps, _, x, hx => by simp at hx
  | (n, d) :: r, ps, h, x, hx => by
    obtain ⟨g, t, cs, fuel, p, q, h1, h2, h3, h4, h5, _⟩ := h
    rcases List.mem_cons.1 hx with rfl | hx
    · exact ⟨g, t, cs, fuel, p, h1, h2, h3, h4⟩
    · exact laid_mem h5 x hx

/-- The state in which a law is called: nothing is live; the listed variables are shut. -/
def G.start (W : World) (gl : List (Nat × List AV)) : G := { w := W, φ := fun _ => none, nx := 0, fro := fun b => ∃ p ∈ gl, p.1 = b, bor := fun _ => False }

theorem glob_rep {P : Program} {W : World} {laid : List (String × DataW Unit)} (h : laidMet P laid W) {gl : List (Nat × List AV)} (hgl : ∀ p ∈ gl, ∃ x ∈ laid, glOne P x = some p) : ∀ p ∈ gl, Rep (G.start W gl) (.plit false p.2 0) (.pointer (some ⟨p.1, 0, none⟩)) := by
  intro p hp
  obtain ⟨x, hx, hone⟩ := hgl p hp
  obtain ⟨ps, hv, _⟩ := h
  obtain ⟨g, t, cs, fuel, q, h1, h2, h3, h4⟩ := laid_mem hv x hx
  simp only [glOne, h1, h2, Option.bind_eq_bind, Option.bind_some, Option.bind_eq_some_iff, Option.pure_def, Option.some.injEq] at hone
  obtain ⟨avs, ⟨vs, hfl, hc⟩, rfl⟩ := hone
  have hcs : cs.toList = vs := flat_trod _ _ _ _ _ _ _ h4 hfl
  obtain ⟨hr, h1c⟩ := cVals_rep (g := G.start W gl) hc
  have hcell := World.var?_cell h1 h3
  have hb : g < W.heap.size := by
    simp only [World.var?, h1, Option.bind_some] at h3
    split at h3
    · rename_i e; exact lt_of_some e
    · cases h3
  obtain ⟨hl, hrr⟩ := of_forall2 hr
  exact .plit false avs 0 g 0 vs (.inl ⟨_, hp, rfl⟩) hb (cVals_ok hc) h1c hl (fun i v hi => by
    have := hcell i
    rw [← hcs] at hi
    simp only [Nat.zero_add]
    show W.cell? ⟨g, i, none⟩ = _
    rw [this]
    simpa using hi) hrr

def GlQ (P : Program) (laid : List (String × DataW Unit)) (p : Nat × List AV) : Prop := ∃ x ∈ laid, glOne P x = some p
theorem gl_at {P : Program} {laid : List (String × DataW Unit)} {p : Nat × List AV} (i : Nat) (h : (laid[i]?).bind (glOne P) = some p) : GlQ P laid p := by
  obtain ⟨x, hx, he⟩ := Option.bind_eq_some_iff.1 h
  exact ⟨x, List.mem_of_getElem? hx, he⟩

theorem start_inv {W : World} {gl : List (Nat × List AV)} (hg : ∀ p ∈ gl, Rep (G.start W gl) (.plit false p.2 0) (.pointer (some ⟨p.1, 0, none⟩))) (hgl : S.gl = gl) : Inv S (G.start W gl) ⟨0, []⟩ := by
  refine ⟨rfl, fun _ _ => rfl, fun id b h => by simp [Store.get] at h, fun _ _ => rfl, fun i j p q hp => by simp [G.start] at hp, fun id p hp => by simp [G.start] at hp, fun b hb => ?_, fun b hb => hb.elim, fun p hp => hg p (hgl ▸ hp), fun id p hp => by simp [G.start] at hp⟩
  obtain ⟨p, hp, rfl⟩ := hb
  have := hg p hp
  cases this
  assumption

/-- The blocks that were there stay. -/
theorem Ext.old {g g' : G} (h : Ext g g') (hno : ∀ id, g.φ id = none) {b : Nat} (hb : b < g.w.heap.size) : g'.w.heap[b]? = g.w.heap[b]? :=
  h.keep b hb fun id p hp => by rw [hno] at hp; cases hp

theorem kept_of_ext {g g' : G} (h : Ext g g') (hno : ∀ id, g.φ id = none) (may : MemPlace → Prop) : g.w.keptBut g'.w may := by
  refine ⟨h.os, h.output, fun i hi => ?_⟩
  rw [h.old hno hi]
  cases g.w.heap[i]? with
  | none => rfl
  | some o => cases o <;> first | exact ⟨rfl, rfl, rfl, fun _ _ => rfl⟩ | exact .inr ⟨rfl, rfl⟩ | rfl

/-- A closed run of the machine's: a call of the model's. -/
theorem closed_calls (hF : FunsOK S) {K : Known} (hK : KnownOK S K) (hmix : S.P.follows .mixedOrders = true) (hext : ∀ p ∈ S.ext, ExtOK S.P p) {n k f : Nat} {args : List AV} {v : AV} {σ' : Store} (hrun : call K S.funs n k (.fn f [] []) args ⟨0, []⟩ = some (v, σ'))
    {W : World} (hg : ∀ p ∈ S.gl, Rep (G.start W S.gl) (.plit false p.2 0) (.pointer (some ⟨p.1, 0, none⟩))) {cargs : List Value} (ha : Reps (G.start W S.gl) args cargs) : Calls S.P f cargs.toArray W (EndsIn S (G.start W S.gl) v σ') := by
  cases k with
  | zero => cases hrun
  | succ k =>
    have hrun' : callFn K S.funs n (call K S.funs n k) f (app [] (app args [])) ⟨0, []⟩ = some (v, σ') := hrun
    rw [app_eq, app_eq, List.nil_append, List.append_nil] at hrun'
    exact (callFn_sound hF hK hmix (call_sound hF hK hmix hext n k) hext hrun' (start_inv hg rfl) ha).2

end Go.Vm

/- What printed texts use: loops, trees of functions, contracts of functions without a body. -/
namespace Go.Vm
open Go
variable {S : Sys}

def codeIn (f : Func) : Code := match f.body with
  | some c => c
  | none => .skip

/-- The loops over functions of a code. -/
def loopsOf (P : Program) (m : Meta) : Code → Option (List (Nat × ACode × ACode))
  | .seq a b | .cond _ a b => match loopsOf P m a, loopsOf P m b with
    | some x, some y => some (x ++ y)
    | _, _ => none
  | .block _ b | .loop b | .scope b => loopsOf P m b
  | .rangeFunc f _ a b => if m.open && noRF a && noRF b then match cCode P m a, cCode P m b with
    | some x, some y => some [(lidOf m f, x, y)]
    | _, _ => none
    else none
  | _ => some []

theorem loops_of {m : Meta} : ∀ {c : Code} {L : List (Nat × ACode × ACode)}, loopsOf S.P m c = some L → (∀ x ∈ L, ∃ lfn, S.funs.get x.1 = some lfn ∧ lfn.assign = den x.2.1 ∧ lfn.body = den x.2.2) → LoopsOK S m c := by
  intro c
  induction c with
  | seq a b iha ihb | cond _ a b iha ihb =>
    intro L h hL
    simp only [loopsOf] at h
    split at h
    · rename_i x y h1 h2
      cases h
      exact ⟨iha h1 fun z hz => hL z (by simp [hz]), ihb h2 fun z hz => hL z (by simp [hz])⟩
    · cases h
  | block _ b ih | loop b ih | scope b ih =>
    intro L h hL
    exact ih h hL
  | rangeFunc f ps a b _ _ =>
    intro L h hL
    simp only [loopsOf] at h
    split at h
    case isFalse => cases h
    rename_i hc
    simp only [Bool.and_eq_true] at hc
    split at h
    · rename_i x y h1 h2
      cases h
      obtain ⟨lfn, k1, k2, k3⟩ := hL (lidOf m f, x, y) (by simp)
      exact ⟨hc.1.1, ⟨lfn, x, y, k1, h1, h2, k2, k3⟩, hc.1.2, hc.2⟩
    · cases h
  | _ => intro L _ _; trivial

theorem loops_of' {m : Meta} {c : Code} {L : List (Nat × CodeF × CodeF)} (h : (loopsOf S.P m c).map (List.map fun x => (x.1, den x.2.1, den x.2.2)) = some L) (hL : ∀ x ∈ L, ∃ lfn, S.funs.get x.1 = some lfn ∧ lfn.assign = x.2.1 ∧ lfn.body = x.2.2) : LoopsOK S m c := by
  obtain ⟨L', h1, rfl⟩ := Option.map_eq_some_iff.1 h
  exact loops_of h1 fun x hx => hL _ (List.mem_map.2 ⟨x, hx, rfl⟩)

theorem funOK_of {f : Nat} {fn : AFunc} {cfn : Func} {c : Code} {m : Meta} {e : CodeF} (func : S.P.funcs[f]? = some cfn) (name : (cfn.name == "runtime.NumGoroutine") = false) (body : cfn.body = some c) (code : (cCode S.P m c).map den = some e) (loops : LoopsOK S m c) (ok : m.ok = true)
    (globals : m.globals = S.gl) (ext : m.ext = S.ext) (n : m.n = cfn.ntmps) (slots : fn.nslots = m.slots.length) (params : fn.params = cArgs m fn.params.length) (fits : fn.params.length ≤ cfn.ntmps) (results : cResAll S.P m cfn.results.toList = some fn.results) (hb : fn.body = e := by rfl) :
    ∃ cfn c m ac, FunOK S f fn cfn c m ac := by
  obtain ⟨ac, h1, h2⟩ := Option.map_eq_some_iff.1 code
  exact ⟨cfn, c, m, ac, func, name, body, h1, by rw [hb, h2], loops, ok, globals, ext, n, slots, params, fits, results⟩

theorem loops_none {m : Meta} {c : Code} (h : noRF c = true) : LoopsOK S m c := .of_none h

/-- What holds of all functions of a tree. -/
def APg.All (p : Nat → AFunc → Prop) : APg → Prop
  | .leaf => True
  | .node k f l r => p k f ∧ All p l ∧ All p r

theorem APg.all_get {p : Nat → AFunc → Prop} : ∀ {t : APg}, t.All p → ∀ {i : Nat} {f : AFunc}, t.get i = some f → p i f
  | .leaf, _, i, f, h => by cases h
  | .node k f l r, ⟨h1, h2, h3⟩, i, f', h => by
    have h' : cond (Nat.beq i k) (some f) (cond (Nat.blt i k) (l.get i) (r.get i)) = some f' := h
    rw [nbeq, nblt] at h'
    by_cases e : i = k
    · subst e
      simp at h'
      subst h'
      exact h1
    · simp only [e, decide_false, cond_false] at h'
      by_cases hlt : i < k
      · simp only [hlt, decide_true, cond_true] at h'
        exact all_get h2 h'
      · simp only [hlt, decide_false, cond_false] at h'
        exact all_get h3 h'

theorem known_none {S : Sys} {K : Known} (h : ∀ f, K f = none) : KnownOK S K := fun f k hk => by rw [h] at hk; cases hk

end Go.Vm

/- Contracts out of runs: what is known of calls, by value. -/
namespace Go.Vm
open Go
variable {S : Sys}

theorem okV_all (t : Bool) (l : List AV) : AV.rec_1 (motive_1 := fun _ => Bool) (motive_2 := fun _ => Bool)
    false (fun _ => true) (fun _ _ => true) (fun _ => true) true (fun _ _ => false)
    (fun tag _ _ ih => cond tag t true && ih) (fun _ => false) true (fun _ _ _ _ _ => false)
    (fun tag _ _ _ _ ih => cond tag t true && ih) true (fun _ => false)
    (fun tag _ _ ih1 ih2 => cond tag t true && (ih1 && ih2)) (fun _ _ _ ih1 ih2 => ih1 && ih2) true (fun _ => false) true
    (fun _ ih => ih) (fun _ ih => ih) true (fun _ _ ih1 ih2 => ih1 && ih2) l = l.all (okV t) := by
  induction l with
  | nil => rfl
  | cons x l ih => show (okV t x && _) = _; rw [ih]; rfl

theorem okV_plit (t tag : Bool) (cs : List AV) (off : Nat) : okV t (.plit tag cs off) = (cond tag t true && cs.all (okV t)) := by
  rw [← okV_all]; rfl
theorem okV_lit (t tag : Bool) (cs : List AV) (l : Nat) (c : Option Nat) (e : Nat) : okV t (.lit tag cs l c e) = (cond tag t true && cs.all (okV t)) := by
  rw [← okV_all]; rfl
theorem okV_mlit (t tag : Bool) (ks vs : List AV) : okV t (.mlit tag ks vs) = (cond tag t true && (ks.all (okV t) && vs.all (okV t))) := by
  rw [← okV_all, ← okV_all]; rfl
theorem okV_fn (t : Bool) (f : Nat) (as bs : List AV) : okV t (.fn f as bs) = (as.all (okV t) && bs.all (okV t)) := by
  rw [← okV_all, ← okV_all]; rfl
theorem okV_agg (t : Bool) (cs : List AV) : okV t (.agg cs) = cs.all (okV t) := by
  rw [← okV_all]; rfl
theorem okV_tup (t : Bool) (cs : List AV) : okV t (.tup cs) = cs.all (okV t) := by
  rw [← okV_all]; rfl

theorem all_mem {p : AV → Bool} {l : List AV} (h : l.all p = true) {i : Nat} {c : AV} (hc : l[i]? = some c) : p c = true := List.all_eq_true.1 h c (List.mem_of_getElem? hc)
theorem all_of {p : AV → Bool} {l : List AV} (h : ∀ c ∈ l, p c = true) : l.all p = true := List.all_eq_true.2 h

/-- Without addresses of the store: as it was told of one state, it's told of another. -/
theorem Rep.move {g g' : G} (hw : g'.w = g.w) (hf : ∀ b, g.fro b → g'.fro b) {v : AV} {cv : Value} (h : Rep g v cv) : ∀ t, okV t v = true → (t = true → ∀ b, g.bor b → g'.bor b) → Rep g' v cv := by
  induction h with
  | undef => intro t ho; cases ho
  | bool b => intro t _ _; exact .bool b
  | int k n => intro t _ _; exact .int k n
  | str b => intro t _ _; exact .str b
  | nilp => intro t _ _; exact .nilp
  | ptr id off a hn h => intro t ho; cases ho
  | plit tag cs off b base vs hs hb ho h1 hvl hc hr ih =>
    intro t hok hbor
    rw [okV_plit, Bool.and_eq_true] at hok
    have hs' : g'.inSet tag b := hs.imp (hf b) fun ⟨a, c⟩ => ⟨a, hbor (by subst a; simpa using hok.1) b c⟩
    exact .plit tag cs off b base vs hs' (by rw [hw]; exact hb) ho h1 hvl (by rw [hw]; exact hc) fun i c v hi hv => ih i c v hi hv t (all_mem hok.2 hi) hbor
  | nils => intro t _ _; exact .nils
  | sl id off len cap es a ccap hn hl hcap h => intro t ho; cases ho
  | lit tag cs len cap es b base ccap sp vs hlen hl hcap hs ho h1 hvl hc hr ih =>
    intro t hok hbor
    rw [okV_lit, Bool.and_eq_true] at hok
    exact .lit tag cs len cap es b base ccap sp vs hlen hl hcap (fun hne => ⟨(hs hne).1.imp (hf b) fun ⟨a, c⟩ => ⟨a, hbor (by subst a; simpa using hok.1) b c⟩, by rw [hw]; exact (hs hne).2.1, (hs hne).2.2⟩) ho h1 hvl (by rw [hw]; exact hc)
      fun i c v hi hv => ih i c v hi hv t (all_mem hok.2 hi) hbor
  | nilm => intro t _ _; exact .nilm
  | map id r hn h => intro t ho; cases ho
  | mlit tag ks vs r es clock hs hh hk hv ho ho' hkey hks hvs ihk ihv =>
    intro t hok hbor
    rw [okV_mlit, Bool.and_eq_true, Bool.and_eq_true] at hok
    exact .mlit tag ks vs r es clock (hs.imp (hf r) fun ⟨a, c⟩ => ⟨a, hbor (by subst a; simpa using hok.1) r c⟩) (by rw [hw]; exact hh) hk hv ho ho' hkey
      (fun i c e hi he => ihk i c e hi he t (all_mem hok.2.1 hi) hbor) (fun i c e hi he => ihv i c e hi he t (all_mem hok.2.2 hi) hbor)
  | fn f as bs first caps ha hb h1 h2 ih1 ih2 =>
    intro t hok hbor
    rw [okV_fn, Bool.and_eq_true] at hok
    exact .fn f as bs first caps ha hb (fun i c v hi hv => ih1 i c v hi hv t (all_mem hok.1 hi) hbor) (fun i c v hi hv => ih2 i c v hi hv t (all_mem hok.2 hi) hbor)
  | nilf => intro t _ _; exact .nilf
  | yield id l hn h => intro t ho; cases ho
  | nilif => intro t _ _; exact .nilif
  | agg cs vs hl h1 h ih =>
    intro t hok hbor
    rw [okV_agg] at hok
    exact .agg cs vs hl h1 fun i c v hi hv => ih i c v hi hv t (all_mem hok hi) hbor
  | tup cs vs hl h ih =>
    intro t hok hbor
    rw [okV_tup] at hok
    exact .tup cs vs hl fun i c v hi hv => ih i c v hi hv t (all_mem hok hi) hbor

theorem okV_mono : ∀ (v : AV), okV false v = true → okV true v = true := by
  intro v
  have hl : ∀ l : List AV, (∀ c ∈ l, okV false c = true → okV true c = true) → l.all (okV false) = true → l.all (okV true) = true := fun l h ha => all_of fun c hc => h c hc (List.all_eq_true.1 ha c hc)
  refine AV.rec (motive_1 := fun v => okV false v = true → okV true v = true) (motive_2 := fun l => l.all (okV false) = true → l.all (okV true) = true)
    id (fun _ => id) (fun _ _ => id) (fun _ => id) id (fun _ _ => id) ?_ (fun _ => id) id (fun _ _ _ _ _ => id) ?_ id (fun _ => id) ?_ ?_ id (fun _ => id) id ?_ ?_ (fun _ => rfl) ?_ v
  · intro tag cs off ih h
    rw [okV_plit, Bool.and_eq_true] at h ⊢
    exact ⟨by cases tag <;> simp_all, ih h.2⟩
  · intro tag cs l c e ih h
    rw [okV_lit, Bool.and_eq_true] at h ⊢
    exact ⟨by cases tag <;> simp_all, ih h.2⟩
  · intro tag ks vs ih1 ih2 h
    rw [okV_mlit, Bool.and_eq_true, Bool.and_eq_true] at h ⊢
    exact ⟨by cases tag <;> simp_all, ih1 h.2.1, ih2 h.2.2⟩
  · intro f as bs ih1 ih2 h
    rw [okV_fn, Bool.and_eq_true] at h ⊢
    exact ⟨ih1 h.1, ih2 h.2⟩
  · intro cs ih h
    rw [okV_agg] at h ⊢
    exact ih h
  · intro cs ih h
    rw [okV_tup] at h ⊢
    exact ih h
  · intro x l ih1 ih2 h
    simp only [List.all_cons, Bool.and_eq_true] at h ⊢
    exact ⟨ih1 h.1, ih2 h.2⟩
theorem okV_up {t : Bool} {v : AV} (h : okV false v = true) : okV t v = true := by
  cases t
  · exact h
  · exact okV_mono v h
theorem okV_tag {t tag : Bool} (ht : tag = true → t = true) {v : AV} (h : okV tag v = true) : okV t v = true := by
  cases tag
  · exact okV_up h
  · rw [ht rfl]; exact h

theorem mapO_nil (f : AV → Option AV) : mapO f [] = some [] := rfl
theorem mapO_cons (f : AV → Option AV) (x : AV) (l : List AV) : mapO f (x :: l) = match f x with
    | some y => match mapO f l with
      | some ys => some (y :: ys)
      | none => none
    | none => none := rfl
theorem mapO_spec {f : AV → Option AV} : ∀ {l r : List AV}, mapO f l = some r → Both (fun x y => f x = some y) l r
  | [], r, h => by cases h; exact .nil
  | x :: l, r, h => by
    rw [mapO_cons] at h
    split at h
    · rename_i y hy
      split at h
      · rename_i ys hys
        cases h
        exact .cons hy (mapO_spec hys)
      · cases h
    · cases h

/-- A value, by value: what it was taken for still stands, with its blocks lent (or shut). -/
theorem snap_spec {g g1 : G} {σ : Store} {t : Bool} (hi : Inv S g σ) (hw : g1.w = g.w) (hf : ∀ b, g.fro b → g1.fro b) (hb : t = true → ∀ b, g.bor b → g1.bor b) (hlive : ∀ id p, g.φ id = some p → g1.inSet t p.1) :
    ∀ (n : Nat) (v v' : AV) (cv : Value), Rep g v cv → snap t σ n v = some v' → Rep g1 v' cv ∧ okV t v' = true ∧ (one v = true → one v' = true) ∧ (keyable v = true → keyable v' = true) := by
  intro n
  induction n with
  | zero => intro v v' cv _ h; cases h
  | succ n ih =>
    intro v v' cv hr h
    -- a row of cells
    have row : ∀ {cs cs' : List AV} {vs : List Value}, Reps g cs vs → mapO (snap t σ n) cs = some cs' → Reps g1 cs' vs ∧ (∀ c ∈ cs', okV t c = true) ∧ ((∀ c ∈ cs, one c = true) → ∀ c ∈ cs', one c = true) ∧ ((∀ c ∈ cs, keyable c = true) → ∀ c ∈ cs', keyable c = true) := by
      intro cs cs' vs hrs hm0
      have hm := mapO_spec hm0
      clear h hr hm0
      induction hrs generalizing cs' with
      | nil => cases hm; exact ⟨.nil, by simp, by simp, by simp⟩
      | @cons a b as bs hab hrest ihr =>
        cases hm with
        | @cons _ a' _ as' ha has =>
        obtain ⟨h1, h2, h3, h4⟩ := ih a a' b hab ha
        obtain ⟨k1, k2, k3, k4⟩ := ihr has
        refine ⟨.cons h1 k1, ?_, ?_, ?_⟩
        · intro c hc
          rcases List.mem_cons.1 hc with rfl | hc
          · exact h2
          · exact k2 c hc
        · intro ho c hc
          rcases List.mem_cons.1 hc with rfl | hc
          · exact h3 (ho a (by simp))
          · exact k3 (fun c hc => ho c (by simp [hc])) c hc
        · intro ho c hc
          rcases List.mem_cons.1 hc with rfl | hc
          · exact h4 (ho a (by simp))
          · exact k4 (fun c hc => ho c (by simp [hc])) c hc
    have plain : okV t v = true → v' = v → Rep g1 v' cv ∧ okV t v' = true ∧ (one v = true → one v' = true) ∧ (keyable v = true → keyable v' = true) := by
      rintro ho rfl
      exact ⟨hr.move hw hf t ho hb, ho, id, id⟩
    cases v with
    | ptr id off =>
      simp only [snap] at h
      split at h
      case h_2 => cases h
      rename_i ty fz cs hg
      split at h
      case h_2 => cases h
      rename_i cs' hm
      cases h
      obtain ⟨p, hp, hbr⟩ := hi.live id _ hg
      cases hbr with
      | cells _ _ _ ccs fr pre vs post hh hc hpl hrs h1 hfz =>
      obtain ⟨k1, k2, k3, _⟩ := row hrs hm
      cases hr with
      | ptr _ _ a hn ha =>
      have := ha p hp
      subst this
      obtain ⟨hl, hrr⟩ := of_forall2 k1
      refine ⟨.plit t cs' off p.1 p.2 vs (hlive id p hp) (by rw [hw]; exact lt_of_some hh) k2 (k3 h1) hl (fun i v hi' => ?_) hrr, ?_, fun _ => rfl, fun hk => by cases hk⟩
      · rw [hw]
        simp only [World.cell?, hh, Option.isSome_none, Bool.false_eq_true, if_false]
        rw [← Array.getElem?_toList, hc, List.append_assoc, List.getElem?_append_right (by omega), hpl, Nat.add_sub_cancel_left, List.getElem?_append_left (List.getElem?_eq_some_iff.1 hi').1]
        exact hi'
      · rw [okV_plit, all_of k2]; cases t <;> rfl
    | sl id off len cap es =>
      simp only [snap] at h
      split at h
      case h_2 => cases h
      rename_i ty fz cs hg
      split at h
      case h_2 => cases h
      rename_i sub hsub
      split at h
      case h_2 => cases h
      rename_i sub' hm
      cases h
      obtain ⟨p, hp, hbr⟩ := hi.live id _ hg
      cases hbr with
      | cells _ _ _ ccs fr pre vs post hh hc hpl hrs h1 hfz =>
      cases hr with
      | sl _ _ _ _ _ a ccap hn hle hcap ha =>
      obtain ⟨haddr, _⟩ := ha p hp
      rw [readN_eq] at hsub
      split at hsub
      case isFalse => cases hsub
      rename_i hfit
      cases hsub
      have hvl := hrs.length
      obtain ⟨k1, k2, k3, _⟩ := row ((hrs.drop off).take (len * es)) hm
      obtain ⟨hl, hrr⟩ := of_forall2 k1
      have hsl : sub'.length = len * es := by
        have := (mapO_spec hm).length
        rw [← this]; simp; omega
      refine ⟨?_, ?_, fun _ => rfl, fun hk => by cases hk⟩
      · refine .lit t sub' len cap es a.block a.off ccap a.spot ((vs.drop off).take (len * es)) hsl hle hcap (fun hne => ?_) k2 (k3 fun c hc' => h1 c (List.mem_of_mem_drop (List.mem_of_mem_take hc'))) hl (fun i v hi' => ?_) hrr
        · have hne' : ccap ≠ 0 := by
            intro e
            subst e
            have : len = 0 := by omega
            subst this
            rw [Nat.zero_mul] at hsl
            exact hne (List.length_eq_zero_iff.1 hsl)
          rcases haddr with e | e
          · exact absurd e hne'
          · subst e
            exact ⟨hlive id p hp, by rw [hw]; exact lt_of_some hh, rfl⟩
        · have hil : i < len * es := by
            have := (List.getElem?_eq_some_iff.1 hi').1
            simp at this; omega
          have hne' : ccap ≠ 0 := by
            intro e
            subst e
            have : len = 0 := by omega
            subst this
            omega
          rcases haddr with e | e
          · exact absurd e hne'
          · subst e
            rw [hw]
            simp only [World.cell?, hh, Option.isSome_none, Bool.false_eq_true, if_false]
            rw [List.getElem?_take, if_pos hil, List.getElem?_drop] at hi'
            rw [← Array.getElem?_toList, hc, List.append_assoc, List.getElem?_append_right (by omega), hpl]
            rw [show p.2 + off + i - p.2 = off + i by omega, List.getElem?_append_left (List.getElem?_eq_some_iff.1 hi').1]
            exact hi'
      · rw [okV_lit, all_of k2]; cases t <;> rfl
    | map id =>
      simp only [snap] at h
      split at h
      case h_2 => cases h
      rename_i ks vs hg
      split at h
      case h_2 => cases h
      rename_i ks' vs' hk hv
      cases h
      obtain ⟨p, hp, hbr⟩ := hi.live id _ hg
      cases hbr with
      | map _ _ es clock h0 hh hks hvs hkey =>
      cases hr with
      | map _ r hn ha =>
      have := ha p hp
      subst this
      obtain ⟨k1, k2, _, k4⟩ := row hks hk
      obtain ⟨q1, q2, _, _⟩ := row hvs hv
      obtain ⟨hl1, hr1⟩ := of_forall2 k1
      obtain ⟨hl2, hr2⟩ := of_forall2 q1
      refine ⟨.mlit t ks' vs' p.1 es clock (hlive id p hp) (by rw [hw]; exact hh) (by simpa using hl1) (by simpa using hl2) k2 q2 (k4 hkey) (fun i c e hic hie => hr1 i c e.key hic (by simp [hie])) (fun i c e hic hie => hr2 i c e.val hic (by simp [hie])), ?_, fun _ => rfl, fun hk => by cases hk⟩
      rw [okV_mlit, all_of k2, all_of q2]; cases t <;> rfl
    | agg cs =>
      simp only [snap] at h
      split at h
      case h_2 => cases h
      rename_i cs' hm
      cases h
      obtain ⟨vs, rfl, hrs, h1⟩ := hr.agg_inv
      obtain ⟨k1, k2, k3, _⟩ := row hrs hm
      exact ⟨Rep.agg' (k3 h1) k1, by rw [okV_agg]; exact all_of k2, fun h => (by cases h), fun h => (by cases h)⟩
    | tup cs =>
      simp only [snap] at h
      split at h
      case h_2 => cases h
      rename_i cs' hm
      cases h
      obtain ⟨vs, rfl, hrs⟩ := hr.tup_inv
      obtain ⟨k1, k2, _, _⟩ := row hrs hm
      exact ⟨Rep.tup' k1, by rw [okV_tup]; exact all_of k2, fun h => (by cases h), fun h => (by cases h)⟩
    | plit tag cs off =>
      have ho : ∀ c ∈ cs, okV tag c = true := by cases hr; assumption
      simp only [snap] at h
      have hv : v' = .plit tag cs off ∧ (tag = true → t = true) := by
        cases tag <;> cases t <;> simp_all
      refine plain ?_ hv.1
      rw [okV_plit, all_of fun c hc => okV_tag hv.2 (ho c hc)]
      cases tag
      · rfl
      · rw [hv.2 rfl]; rfl
    | lit tag cs len cap es =>
      have ho : ∀ c ∈ cs, okV tag c = true := by cases hr; assumption
      simp only [snap] at h
      have hv : v' = .lit tag cs len cap es ∧ (tag = true → t = true) := by
        cases tag <;> cases t <;> simp_all
      refine plain ?_ hv.1
      rw [okV_lit, all_of fun c hc => okV_tag hv.2 (ho c hc)]
      cases tag
      · rfl
      · rw [hv.2 rfl]; rfl
    | mlit tag ks vs =>
      have ho : (∀ c ∈ ks, okV tag c = true) ∧ ∀ c ∈ vs, okV tag c = true := by
        cases hr; constructor <;> assumption
      simp only [snap] at h
      have hv : v' = .mlit tag ks vs ∧ (tag = true → t = true) := by
        cases tag <;> cases t <;> simp_all
      refine plain ?_ hv.1
      rw [okV_mlit, all_of fun c hc => okV_tag hv.2 (ho.1 c hc), all_of fun c hc => okV_tag hv.2 (ho.2 c hc)]
      cases tag
      · rfl
      · rw [hv.2 rfl]; rfl
    | undef => cases h
    | fp off => cases h
    | yield id => cases h
    | fn f as bs =>
      simp only [snap] at h
      cases hok : okV t (.fn f as bs) with
      | false => rw [hok] at h; cases h
      | true => rw [hok, cond_true] at h; cases h; exact plain hok rfl
    | _ => cases h; exact plain rfl rfl
theorem snaps_spec {g g1 : G} {σ : Store} {t : Bool} (hi : Inv S g σ) (hw : g1.w = g.w) (hf : ∀ b, g.fro b → g1.fro b) (hb : t = true → ∀ b, g.bor b → g1.bor b) (hlive : ∀ id p, g.φ id = some p → g1.inSet t p.1) {n : Nat} :
    ∀ {vs as : List AV} {cvs : List Value}, Reps g vs cvs → mapO (snap t σ n) vs = some as → Reps g1 as cvs := by
  intro vs as cvs hr hm0
  have hm := mapO_spec hm0
  clear hm0
  induction hr generalizing as with
  | nil => cases hm; exact .nil
  | cons h _ ih =>
    cases hm with
    | cons ha has => exact .cons (snap_spec hi hw hf hb hlive n _ _ _ h ha).1 (ih has)

theorem findT_spec {as : List AV} : ∀ {l : List (List AV × AV)} {v : AV}, findT as l = some v → ∃ p ∈ l, as = p.1 ∧ v = p.2
  | [], v, h => by cases h
  | p :: l, v, h => by
    have h' : cond (all2 (eqAV 20) as p.1) (some p.2) (findT as l) = some v := h
    cases e : all2 (eqAV 20) as p.1 with
    | true =>
      rw [e, cond_true] at h'
      cases h'
      exact ⟨p, by simp, all2_eq (eqAV_eq 20) e, rfl⟩
    | false =>
      rw [e, cond_false] at h'
      obtain ⟨q, hq, h1, h2⟩ := findT_spec h'
      exact ⟨q, by simp [hq], h1, h2⟩
theorem tabK_spec {f : Nat} {k : List AV → Option AV} : ∀ {T : List (Nat × List (List AV × AV))}, tabK T f = some k → ∃ p ∈ T, f = p.1 ∧ k = fun as => findT as p.2
  | [], h => by cases h
  | p :: T, h => by
    have h' : cond (Nat.beq f p.1) (some fun as => findT as p.2) (tabK T f) = some k := h
    rw [nbeq] at h'
    by_cases e : f = p.1
    · simp only [e, decide_true, cond_true] at h'
      cases h'
      exact ⟨p, by simp, e, rfl⟩
    · simp only [e, decide_false, cond_false] at h'
      obtain ⟨q, hq, h1, h2⟩ := tabK_spec h'
      exact ⟨q, by simp [hq], h1, h2⟩

/-- What a run on nothing but its arguments comes to, a call comes to, wherever. -/
def RunsTo (S : Sys) (f : Nat) (as : List AV) (v : AV) : Prop := ∃ K n k v' σ', KnownOK S K ∧ call K S.funs n k (.fn f [] []) as ⟨0, []⟩ = some (v', σ') ∧ snap false σ' 20 v' = some v

theorem runsTo_of {K : Known} (hK : KnownOK S K) {n k f : Nat} {as : List AV} {v : AV} (h : runB K S.funs n k f as v = true) : RunsTo S f as v := by
  unfold runB at h
  split at h
  · rename_i v' σ' hc
    split at h
    · rename_i w hs
      exact ⟨K, n, k, v', σ', hK, hc, by rw [hs, eqAV_eq 20 w v h]⟩
    · cases h
  · cases h

theorem runsTo_calls (hF : FunsOK S) (hmix : S.P.follows .mixedOrders = true) (hext : ∀ p ∈ S.ext, ExtOK S.P p) {f : Nat} {as : List AV} {v : AV} (h : RunsTo S f as v) {g : G} {σ : Store} {args : List AV} {cargs : List Value} (hi : Inv S g σ) (hr : Reps g args cargs)
    (has : mapO (snap true σ 20) args = some as) :
    (∃ cfn c, S.P.funcs[f]? = some cfn ∧ (cfn.name == "runtime.NumGoroutine") = false ∧ cfn.body = some c) ∧ Calls S.P f cargs.toArray g.w (EndsIn S g v σ) := by
  obtain ⟨K, n, k, v', σ', hK, hrun, hsnap⟩ := h
  let g0 : G := { w := g.w, φ := fun _ => none, nx := 0, fro := g.fro, bor := fun b => g.bor b ∨ ∃ id p, g.φ id = some p ∧ p.1 = b }
  have hi0 : Inv S g0 ⟨0, []⟩ := by
    refine ⟨rfl, fun _ _ => rfl, fun id b h => by simp [Store.get] at h, fun _ _ => rfl, fun i j p q hp => (nomatch hp), fun id p hp => (nomatch hp), hi.fro, fun b hb => ?_, fun p hp => ?_, fun id p hp => (nomatch hp)⟩
    · rcases hb with hb | ⟨id, p, hp, rfl⟩
      · exact hi.bor b hb
      · exact (hi.own id p hp).1
    · have hgr := hi.glob p hp
      have hok : okV false (.plit false p.2 0) = true := by
        cases hgr
        rename_i vs hvl hb hc ho h1 hr hs
        rw [okV_plit, all_of ho]; rfl
      exact Rep.move (g := g) (g' := g0) rfl (fun _ h => h) hgr false hok (fun h => by cases h)
  have ha0 : Reps g0 as cargs := snaps_spec (t := true) (g1 := g0) hi rfl (fun _ h => h) (fun _ _ h => .inl h) (fun id p hp => .inr ⟨rfl, .inr ⟨id, p, hp, rfl⟩⟩) hr has
  cases k with
  | zero => cases hrun
  | succ k =>
    have hrun' : callFn K S.funs n (call K S.funs n k) f (app [] (app as [])) ⟨0, []⟩ = some (v', σ') := hrun
    rw [app_eq, app_eq, List.nil_append, List.append_nil] at hrun'
    obtain ⟨hfn, hcalls⟩ := callFn_sound hF hK hmix (call_sound hF hK hmix hext n k) hext hrun' hi0 ha0
    refine ⟨hfn, hcalls.mono ?_⟩
    rintro e w' ⟨cv, g', rfl, rfl, he, hi', hrep⟩
    have hno : ∀ id, g0.φ id = none := fun _ => rfl
    let g2 : G := { w := g'.w, φ := g.φ, nx := g.nx, fro := fun b => g'.fro b ∨ ∃ id p, g'.φ id = some p ∧ p.1 = b, bor := g.bor }
    have hrep2 : Rep g2 v cv := (snap_spec (t := false) (g1 := g2) hi' rfl (fun _ h => .inl h) (fun h => by cases h) (fun id p hp => .inl (.inr ⟨id, p, hp, rfl⟩)) 20 v' v cv hrep hsnap).1
    have hnew : ∀ id p, g'.φ id = some p → g.w.heap.size ≤ p.1 := fun id p hp => by
      rcases he.phiNew id (Nat.zero_le _) p hp with h | ⟨j, q, hq, _⟩
      · exact h
      · cases hq
    have hext2 : Ext g g2 := by
      refine ⟨Nat.le_refl _, fun _ _ _ h => h, fun _ _ p hp => .inr ⟨_, p, hp, rfl⟩, he.size, fun b hb _ => he.old hno hb, fun b hb => .inl (he.fro b hb), fun b hb => ?_, rfl, he.shape, he.os, he.tape, he.output⟩
      rcases hb with hb | ⟨id, p, hp, rfl⟩
      · exact he.froNew b hb
      · exact .inr (hnew id p hp)
    have hm := hext2.mono hi
    refine ⟨cv, g2, rfl, rfl, hext2, ?_, hrep2⟩
    refine hi.same hm rfl rfl (fun id p hp => he.old hno (hi.own id p hp).1) (fun b hb => ⟨?_, fun id p hp e => ?_⟩) fun b hb => ⟨Nat.lt_of_lt_of_le (hi.bor b hb) he.size, fun id p hp e => (hi.own id p hp).2.2 (e ▸ hb)⟩
    · rcases hb with hb | ⟨id, p, hp, rfl⟩
      · exact hi'.fro b hb
      · exact (hi'.own id p hp).1
    · have hlt := (hi.own id p hp).1
      rcases hb with hb | ⟨id', p', hp', rfl⟩
      · rcases he.froNew b hb with h | h
        · exact (hi.own id p hp).2.1 (e ▸ h)
        · have : g0.w.heap.size = g.w.heap.size := rfl
          omega
      · have := hnew id' p' hp'
        omega

theorem known_tab (hF : FunsOK S) (hmix : S.P.follows .mixedOrders = true) (hext : ∀ p ∈ S.ext, ExtOK S.P p) {T : List (Nat × List (List AV × AV))} (hT : ∀ p ∈ T, ∀ q ∈ p.2, RunsTo S p.1 q.1 q.2) : KnownOK S (tabK T) := by
  intro f k hk g σ args cargs as v hi hr has hv
  obtain ⟨p, hp, rfl, rfl⟩ := tabK_spec hk
  obtain ⟨q, hq, rfl, rfl⟩ := findT_spec hv
  exact runsTo_calls hF hmix hext (hT p hp q hq) hi hr has

/-! ### Functions without a body -/
theorem extOK_same {P : Program} {f : Nat} {fn : Func} (hf : P.funcs[f]? = some fn) (hname : (fn.name == "runtime.NumGoroutine") = false) (hb : fn.body.isNone = true) (hn : Extern.findNext fn = none) (he : Extern.find fn = some Extern.AbiNoEscape.same) : ExtOK P (f, false) := by
  intro w v
  rw [run_callFunc_extern hf hname hb hn he]
  rfl
theorem extOK_byte {P : Program} {f : Nat} {fn : Func} (hf : P.funcs[f]? = some fn) (hname : (fn.name == "runtime.NumGoroutine") = false) (hb : fn.body.isNone = true) (hn : Extern.findNext fn = none) (he : Extern.find fn = some Extern.BytealgIndexByte.indexByte) : ExtOK P (f, true) := by
  intro w s c _
  rw [run_callFunc_extern hf hname hb hn he, run_indexByte_string]
  rfl

/-- Calls of a table, each a run's. -/
def RowRuns (S : Sys) (f : Nat) : List (List AV × AV) → Prop
  | [] => True
  | p :: l => RunsTo S f p.1 p.2 ∧ RowRuns S f l
def TabRuns (S : Sys) : List (Nat × List (List AV × AV)) → Prop
  | [] => True
  | p :: T => RowRuns S p.1 p.2 ∧ TabRuns S T
theorem rowRuns_mem {f : Nat} : ∀ {l : List (List AV × AV)}, RowRuns S f l → ∀ q ∈ l, RunsTo S f q.1 q.2
  | [], _, q, h => by simp at h
  | p :: l, ⟨h1, h2⟩, q, h => by
    rcases List.mem_cons.1 h with rfl | h
    · exact h1
    · exact rowRuns_mem h2 q h
theorem tabRuns_mem : ∀ {T : List (Nat × List (List AV × AV))}, TabRuns S T → ∀ p ∈ T, ∀ q ∈ p.2, RunsTo S p.1 q.1 q.2
  | [], _, p, h => by simp at h
  | p' :: T, ⟨h1, h2⟩, p, h => by
    rcases List.mem_cons.1 h with rfl | h
    · exact rowRuns_mem h1
    · exact tabRuns_mem h2 p h

/-- A run's answer is true. -/
noncomputable def isT (r : Option (AV × Store)) : Bool := match r with
  | some (.bool true, _) => true
  | _ => false
theorem isT_spec {r : Option (AV × Store)} (h : isT r = true) : ∃ σ', r = some (.bool true, σ') := by
  unfold isT at h
  split at h
  · exact ⟨_, rfl⟩
  · cases h

end Go.Vm

