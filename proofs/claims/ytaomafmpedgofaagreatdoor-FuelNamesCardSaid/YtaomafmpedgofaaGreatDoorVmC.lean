/- The machine of values, blocks and calls, and what it has to do with the model: part 3 of 4. -/
import Derived.Test.YtaomafmpedgofaaGreatDoorVmB
import Derived.OrdersIn
import Derived.RangeFuncIn
import Derived.TacticsIn
import Derived.RangeFuncRecord
import Derived.ScopeJumps
/- Operations on boxes of the function's own. -/
namespace Go.Vm
open Go
variable {S : Sys} {P : Program}
section
variable {g0 g : G} {m : Meta} {fr stk : List AV} {a : Act} {σ : Store} {bx : Nat → Option Nat} {env : RE} {o : Oper}

/-- What an operation comes to, ahead of its value's being put. -/
def VRes (S : Sys) (g0 : G) (m : Meta) (o : Oper) (a : Act) (fr' : List AV) (σ' : Store) (g : G) (bx : Nat → Option Nat) (v : AV) : Prop :=
  ∃ cv g', OpRuns S.P o a g.w cv g'.w ∧ St S g0 m fr' a σ' g' bx ∧ Mono g g' ∧ Rep g' v cv

theorem VOut.res (h : Inv S g σ) {σ' : Store} {v : AV} (hv : VOut S g0 m o a fr σ' g bx v) : VRes S g0 m o a fr σ' g bx v :=
  let ⟨cv, g', h1, h2, h3, h4⟩ := hv
  ⟨cv, g', h1, h2, h3.mono h, h4⟩

theorem box_row {b : Nat} {vs : Array Value} {ty : Nat} {fz : Nat × Nat} {cs : List AV} (hh : g.w.heap[b]? = some (.cells vs ty fz)) (hr : Reps g cs vs.toList) (h1 : ∀ c ∈ cs, one c = true) : RowAt g b 0 cs vs.toList :=
  ⟨hr, h1, fun i v hi => by
    simp only [World.cell?, hh, Option.isSome_none, Bool.false_eq_true, if_false, Nat.zero_add]
    simpa using hi⟩

theorem v_loadP (h : St S g0 m fr a σ g bx) (he : EnvRep g bx a env stk) {t : TypeId} {x : Operand} (ho : o.op = .load t x) (ht : (S.P.underlying t).isSome) {sx : Src} {s off : Nat} (hs : cSrcK m env x = some (sx, .priv s)) (hv : src fr stk sx = .fp off) {cs r : List AV}
    (hb : lget fr s = .agg cs) (hr : readN cs off (S.P.cellsOf t) = some r) {v : AV} (hp : pack (isAggT S.P t) r = some v) : VRes S g0 m o a fr σ g bx v := by
  obtain ⟨b, vs, ty, t', hst, hbx, hev, hh, hreps, hone, _⟩ := srcK_priv h he hs hv hb
  have hrow := (box_row hh hreps hone).sub off (S.P.cellsOf t)
  rw [readN_eq] at hr
  split at hr
  case isFalse => cases hr
  rename_i hl
  cases hr
  obtain ⟨cv, hrun, hrep⟩ := run_loadVar' (P := S.P) hrow ht (by simp; omega) hp
  refine (VOut.pure h (cv := cv) ?_ hrep).res h.inv
  rw [Nat.zero_add] at hrun
  simp only [execOp, ho, hev, Instr.loadAt, Instr.sureAddr, Sem.run_bind, Sem.run_pure, hrun, Result.andThen_ok]

/-- A box of the function's own turns. -/
theorem Ext.priv {w' : World} {b : Nat} (h : Ext g0 g) (hb : g0.w.heap.size ≤ b) (ha : Alike1 g.w w' b) : Ext g0 { g with w := w' } where
  nx := h.nx
  phi := h.phi
  phiNew := h.phiNew
  size := by rw [ha.size]; exact h.size
  keep := fun k hk hn => by rw [← h.keep k hk hn]; exact ha.other k (by omega)
  fro := h.fro
  froNew := h.froNew
  bor := h.bor
  shape := fun k cs ty fz hk => by
    have : k < g0.w.heap.size := lt_of_some hk
    obtain ⟨cs', fz', h1, h2⟩ := h.shape k cs ty fz hk
    exact ⟨cs', fz', by rw [← h1]; exact ha.other k (by omega), h2⟩
  os := ha.os.trans h.os
  tape := ha.tape.trans h.tape
  output := ha.output.trans h.output

theorem Mono.priv {w' : World} {b : Nat} (hf : ¬ g.fro b) (hr : ¬ g.bor b) (ha : Alike1 g.w w' b) : Mono g { g with w := w' } where
  nx := Nat.le_refl _
  phi := fun _ _ _ h => h
  fro := fun _ h => h
  bor := fun _ h => h
  size := by simp [ha.size]
  shut := fun k hk => ha.other k fun e => by subst e; exact hk.elim hf hr
  shape := fun _ p _ _ cs ty fz hh => by
    by_cases e : p.1 = b
    · subst e; exact ha.shape cs ty fz hh
    · exact ⟨cs, fz, by rw [← hh]; exact ha.other _ e, rfl⟩

theorem v_storeP (h : St S g0 m fr a σ g bx) (he : EnvRep g bx a env stk) {t : TypeId} {x y : Operand} (ho : o.op = .store t x y) (hz : S.P.cellsOf t ≠ 0) {sx : Src} {s off : Nat} (hs : cSrcK m env x = some (sx, .priv s)) (hv : src fr stk sx = .fp off) {cs : List AV}
    (hb : lget fr s = .agg cs) {v : AV} (hy : Rep g v (a.eval y)) (hst : storable v = true) (hl : v.cells.length = S.P.cellsOf t) (hfit : off + S.P.cellsOf t ≤ cs.length) : VRes S g0 m o a (lset fr s (.agg (writeAt cs off v.cells))) σ g bx .undef := by
  obtain ⟨b, vs, ty, t', hslot, hbx, hev, hh, hreps, hone, htm⟩ := srcK_priv h he hs hv hb
  obtain ⟨hrc, h1c⟩ := cells_rep hy hst
  have hcl := hrc.length
  have hvl := hreps.length
  simp only [Array.length_toList] at hcl hvl
  obtain ⟨hlive, hnf, hnb, hlt, hge⟩ := h.boxes.own s b hbx
  obtain ⟨w', ccs', hrun, ha, hh', hc'⟩ := run_storeCells' (P := S.P) (b := b) (ty := ty) (fr := (0, 0)) (o := off) (a.eval y).cells.toList 0 g.w vs hh (by simp; omega)
    (fun u hu => by
      obtain ⟨i, hi⟩ := List.getElem?_of_mem hu
      have hlt : i < v.cells.length := by have := (List.getElem?_eq_some_iff.1 hi).1; simp at this; omega
      exact one_oneCell ((of_forall2 hrc).2 i _ u (List.getElem?_eq_getElem hlt) hi) (h1c _ (List.getElem_mem hlt)))
    (fun j _ _ => by simp)
  have hm : Mono g { g with w := w' } := Mono.priv hnf hnb ha
  have hinv : Inv S { g with w := w' } σ := h.inv.same hm rfl rfl (fun id p hp => ha.other p.1 (hlive id p hp)) (fun k hk => ⟨by simp [ha.size]; exact h.inv.fro k hk, fun id p hp e => (h.inv.own id p hp).2.1 (e ▸ hk)⟩)
    (fun k hk => ⟨by simp [ha.size]; exact h.inv.bor k hk, fun id p hp e => (h.inv.own id p hp).2.2 (e ▸ hk)⟩)
  have hw := writeAt_eq off cs v.cells (by omega)
  refine ⟨undef, { g with w := w' }, .inr ⟨?_, rfl⟩, ⟨h.ext.priv hge ha, hinv, fun t'' s'' hs'' => ?_, h.size, by simp [h.frl], ⟨fun t'' s'' hs'' => ?_, fun s'' b'' hb'' => ?_, h.boxes.inj, h.boxes.none⟩, h.marks.alike ha (by rw [hh]; simp)⟩, hm, .undef⟩
  · have hrun' := hrun
    simp only [execOp, ho, hev, Instr.storeAt, Instr.sureAddr, storeVar, Sem.run_bind, Sem.run_pure, Result.andThen_ok, run_size (info_of_cells hz), Sem.run_ite]
    rw [if_neg (by simp at hcl ⊢; omega)]
    simp only [hrun', Result.andThen_ok]
  · have hne : s ≠ s'' := fun e => by subst e; have := (Meta.slot_inj hslot hs'').2; cases this
    rw [lget_lset_ne _ hne]
    exact (h.slots t'' s'' hs'').mono hm
  · by_cases e : s = s''
    · subst e
      have ht := (Meta.slot_inj hslot hs'').1
      subst ht
      right
      refine ⟨_, b, ccs', ty, lget_lset_self _ (by rw [h.frl]; exact Meta.slot_lt hslot), hbx, htm, hh', ?_, ?_⟩
      · rw [hw, hc']
        simp only [Nat.add_zero, Array.length_toList]
        rw [← hcl]
        exact Reps.mono hm (((hreps.take off).append hrc).append (hreps.drop _))
      · rw [hw]
        intro c hc
        simp only [List.mem_append] at hc
        rcases hc with (hc | hc) | hc
        · exact hone c (List.mem_of_mem_take hc)
        · exact h1c c hc
        · exact hone c (List.mem_of_mem_drop hc)
    · rw [lget_lset_ne _ e]
      rcases h.boxes.rep t'' s'' hs'' with hx | ⟨cs2, b2, vs2, ty2, k1, k2, k3, k4, k5, k6⟩
      · exact .inl hx
      · refine .inr ⟨cs2, b2, vs2, ty2, k1, k2, k3, ?_, k5.mono hm, k6⟩
        rw [← k4]
        exact ha.other b2 fun e2 => e (h.boxes.inj s s'' b hbx (by rw [← e2]; exact k2))
  · obtain ⟨q1, q2, q3, q4, q5⟩ := h.boxes.own s'' b'' hb''
    exact ⟨q1, q2, q3, by simp [ha.size]; exact q4, q5⟩

/-- An address in a box of the function's own, or none at all. -/
def PRes (P : Program) (o : Oper) (a : Act) (w : World) (bx : Nat → Option Nat) (s : Nat) (v : AV) : Prop :=
  ∃ off b, v = .fp off ∧ bx s = some b ∧ OpRuns P o a w (.pointer (some ⟨b, off, none⟩)) w

theorem v_fldP (h : St S g0 m fr a σ g bx) (he : EnvRep g bx a env stk) {t : TypeId} {x : Operand} {i : Nat} (ho : o.op = .fieldAddr t x i) {fs : Array Field} {f : Field} (hu : S.P.underlying t = some (.struct fs)) (hf : fs[i]? = some f) (hz : S.P.cellsOf f.type ≠ 0)
    {sx : Src} {s off : Nat} (hs : cSrcK m env x = some (sx, .priv s)) (hv : src fr stk sx = .fp off) {cs : List AV} (hb : lget fr s = .agg cs) : PRes S.P o a g.w bx s (.fp (off + f.offset)) := by
  obtain ⟨b, vs, ty, t', hst, hbx, hev, hh, hreps, hone, _⟩ := srcK_priv h he hs hv hb
  refine ⟨_, b, rfl, hbx, .inl ?_⟩
  simp only [execOp, ho, hev, Sem.run_bind, run_fieldAt hu hf hz, Result.andThen_ok, addr_add]
  rfl

theorem v_idxPP (h : St S g0 m fr a σ g bx) (he : EnvRep g bx a env stk) {t e : TypeId} {x ix : Operand} (ho : o.op = .indexAddr t x ix) {n : Nat} (hu : S.P.underlying t = some (.array n e)) (hz : ∃ i, S.P.info? e = some i) {k : IntKind} {i : Nat}
    (hi : Rep g (.int k (.ofNat i)) (a.eval ix)) (hlt : i < n) {sx : Src} {s off : Nat} (hs : cSrcK m env x = some (sx, .priv s)) (hv : src fr stk sx = .fp off) {cs : List AV} (hb : lget fr s = .agg cs) :
    PRes S.P o a g.w bx s (.fp (off + i * S.P.cellsOf e)) := by
  obtain ⟨b, vs, ty, t', hst, hbx, hev, hh, hreps, hone, _⟩ := srcK_priv h he hs hv hb
  generalize hci : a.eval ix = ci at hi
  cases hi
  refine ⟨_, b, rfl, hbx, .inl ?_⟩
  simp only [execOp, ho, hev, hci, Sem.run_bind, run_indexAt_arr hu hz hlt, Result.andThen_ok, addr_add]
  rfl

theorem v_allocP {t : TypeId} (ho : o.op = .alloc t) {z : List AV} (hz : zeroC P t = some z) (g : G) : ∃ ccs : Array Value, OpRuns P o a g.w (.pointer (some ⟨g.w.heap.size, 0, none⟩)) (g.waste (.cells ccs t (0, 0))).w ∧ Reps g z ccs.toList ∧ ∀ c ∈ z, one c = true := by
  obtain ⟨v, hv, hr, h1⟩ := zeroC_spec (g := g) hz
  refine ⟨v.cells, .inl ?_, hr, h1⟩
  simp only [execOp, ho, Instr.alloc, Sem.run_bind, run_zero hv, Result.andThen_ok, newVar, newRow, run_newObj, Sem.run_pure]
  rfl

theorem v_boxP {t : TypeId} {x : Operand} (ho : o.op = .box t x) {v : AV} (hx : Rep g v (a.eval x)) (hs : storable v = true) : ∃ ccs : Array Value, OpRuns P o a g.w (.pointer (some ⟨g.w.heap.size, 0, none⟩)) (g.waste (.cells ccs t (0, 0))).w ∧ Reps g v.cells ccs.toList ∧ ∀ c ∈ v.cells, one c = true := by
  obtain ⟨hr, h1⟩ := cells_rep hx hs
  refine ⟨(a.eval x).cells, .inl ?_, hr, h1⟩
  simp only [execOp, ho, Instr.box, Sem.run_bind, newVar, newRow, run_newObj, Result.andThen_ok, Sem.run_pure]
  rfl

end
end Go.Vm

/- The machine's operations against the model's: what is compiled from an operation does as it does. -/
namespace Go.Vm
open Go
variable {S : Sys} {P : Program}
section
variable {g0 g : G} {m : Meta} {fr fr0 fr' stk : List AV} {a : Act} {σ σ' : Store} {bx : Nat → Option Nat} {env : RE} {o : Oper} {ao : AOp} {k : EK} {cf : ACall} {v : AV}

theorem notnot {b : Bool} (h : ¬ (!b) = true) : b = true := by simpa using h

/-- What an operation's operands come to. -/
def ORep (g : G) (m : Meta) (env : RE) (fr stk : List AV) (a : Act) (o : Oper) : Prop := ∀ x ∈ o.op.operands.toList, ∀ s, cSrc m env x = some s → Rep g (src fr stk s) (a.eval x)

theorem srcs_rep : ∀ {xs : List Operand} {ss : List Src}, cSrcs m env xs = some ss → (∀ x ∈ xs, ∀ s, cSrc m env x = some s → Rep g (src fr stk s) (a.eval x)) → Reps g (srcs fr stk ss) (xs.map a.eval)
  | [], ss, h, _ => by
    simp only [cSrcs, Option.some.injEq] at h
    subst h
    exact .nil
  | x :: xs, ss, h, hr => by
    unfold cSrcs at h
    split at h
    · rename_i s ss' h1 h2
      cases h
      exact .cons (hr x (by simp) s h1) (srcs_rep h2 fun y hy => hr y (by simp [hy]))
    · cases h

theorem opt_rep {x : Option Operand} {s : Option Src} (h : cOpt m env x = some s) (hr : ∀ y, x = some y → ∀ s, cSrc m env y = some s → Rep g (src fr stk s) (a.eval y)) : OptRep g (s.map (src fr stk)) (x.map a.eval) := by
  cases x with
  | none =>
    simp only [cOpt, Option.some.injEq] at h
    subst h
    trivial
  | some y =>
    simp only [cOpt, Option.map_eq_some_iff] at h
    obtain ⟨s', hs, rfl⟩ := h
    exact hr y rfl s' hs

def Snd (S : Sys) (g0 : G) (m : Meta) (o : Oper) (a : Act) (fr fr0 fr' : List AV) (σ' : Store) (g : G) (bx : Nat → Option Nat) (k : EK) (v : AV) : Prop :=
  fr' = fr ∧ k = .val ∧ VOut S g0 m o a fr0 σ' g bx v

variable (h : St S g0 m fr0 a σ g bx) (hr : ORep g m env fr stk a o) (hc : cOp S.P m env o = some (ao, k)) (hv : opF ao cf fr stk σ = some (v, fr', σ'))
include h hr hc hv

theorem s_move {x : Operand} (ho : o.op = .move x ∨ o.op = .assign x) : Snd S g0 m o a fr fr0 fr' σ' g bx k v := by
  have hc' : ∃ s, cSrc m env x = some s ∧ AOp.mov s = ao ∧ EK.val = k := by
    rcases ho with ho | ho <;> simpa [cOp, ho, Option.map_eq_some_iff] using hc
  obtain ⟨s, hs, rfl, rfl⟩ := hc'
  simp only [opF, oMov, Option.some.injEq, Prod.mk.injEq] at hv
  obtain ⟨rfl, rfl, rfl⟩ := hv
  exact ⟨rfl, rfl, v_mov h ho (hr x (by rcases ho with ho | ho <;> simp [ho, Op.operands]) s hs)⟩

theorem s_pick {c x y : Operand} (ho : o.op = .pick c x y) : Snd S g0 m o a fr fr0 fr' σ' g bx k v := by
  simp only [cOp, ho, Option.map_eq_some_iff, Option.bind_eq_bind, Option.bind_eq_some_iff, Option.pure_def, Option.some.injEq, Prod.mk.injEq] at hc
  obtain ⟨_, ⟨s1, h1, s2, h2, s3, h3, rfl⟩, rfl, rfl⟩ := hc
  simp only [opF, oPick] at hv
  have r1 := hr c (by simp [ho, Op.operands]) s1 h1
  have r2 := hr x (by simp [ho, Op.operands]) s2 h2
  have r3 := hr y (by simp [ho, Op.operands]) s3 h3
  split at hv
  · rename_i t ht
    cases hv
    rw [ht] at r1
    exact ⟨rfl, rfl, v_pick h ho r1 r2 r3⟩
  · cases hv

omit hr in
theorem s_alloc {t : TypeId} (ho : o.op = .alloc t) (hp : ∀ s z, ao ≠ .allocP s z) : Snd S g0 m o a fr fr0 fr' σ' g bx k v := by
  simp only [cOp, ho, Option.bind_eq_bind, Option.bind_eq_some_iff, Option.pure_def] at hc
  obtain ⟨z, hz, hc⟩ := hc
  split at hc
  · split at hc
    · cases hc; exact absurd rfl (hp _ _)
    · cases hc
  · cases hc
    simp only [opF, oAlloc, Option.some.injEq, Prod.mk.injEq] at hv
    obtain ⟨rfl, rfl, rfl⟩ := hv
    exact ⟨rfl, rfl, v_alloc h ho hz⟩

theorem s_box {t : TypeId} {x : Operand} (ho : o.op = .box t x) (hp : ∀ s z, ao ≠ .boxP s z) : Snd S g0 m o a fr fr0 fr' σ' g bx k v := by
  simp only [cOp, ho, Option.bind_eq_bind, Option.bind_eq_some_iff, Option.pure_def] at hc
  obtain ⟨sx, hs, hc⟩ := hc
  have r1 := hr x (by simp [ho, Op.operands]) sx hs
  split at hc
  · split at hc
    · cases hc; exact absurd rfl (hp _ _)
    · cases hc
  · cases hc
    simp only [opF, oBox] at hv
    split at hv
    · rename_i hst
      cases hv
      exact ⟨rfl, rfl, v_box h ho r1 hst⟩
    · cases hv

theorem s_build {t : TypeId} {ps : Array (Nat × Operand)} (ho : o.op = .build t ps) : Snd S g0 m o a fr fr0 fr' σ' g bx k v := by
  simp only [cOp, ho, Option.map_eq_some_iff, Option.bind_eq_bind, Option.bind_eq_some_iff, Option.pure_def] at hc
  obtain ⟨ao', ⟨z, hz, hc⟩, he⟩ := hc
  cases he
  have hop : ∀ p ∈ ps.toList, ∀ s, cSrc m env p.2 = some s → Rep g (src fr stk s) (a.eval p.2) := fun p hp s hs => hr p.2 (by simp only [ho, Op.operands]; simp; exact ⟨p.1, by simpa using hp⟩) s hs
  have fin : ∀ place qs, ((∃ fs : Array Field, S.P.underlying t = some (.struct fs) ∧ (∀ f ∈ fs.toList, (S.P.info? f.type).isSome) ∧ place = fun i => (fs[i]?).map fun (f : Field) => (f.offset, S.P.cellsOf f.type)) ∨
      ∃ n e, S.P.underlying t = some (.array n e) ∧ (∃ i, S.P.info? e = some i) ∧ place = fun (i : Nat) => some (i * S.P.cellsOf e, S.P.cellsOf e)) → cParts m env place ps.toList = some qs → ao = .build z qs → Snd S g0 m o a fr fr0 fr' σ' g bx .val v := by
    intro place qs hpl hps he
    subst he
    simp only [opF, oBuild] at hv
    split at hv
    · rename_i cs hf
      cases hv
      exact ⟨rfl, rfl, v_build h ho hz hpl hop hps hf⟩
    · cases hv
  split at hc
  · rename_i fs hu
    split at hc
    · cases hc
    · rename_i hall
      simp only [Option.bind_eq_some_iff, Option.some.injEq] at hc
      obtain ⟨qs, hps, rfl⟩ := hc
      refine fin _ qs (.inl ⟨fs, hu, fun f hf => ?_, rfl⟩) hps rfl
      exact List.all_eq_true.1 (notnot hall) f hf
  · rename_i n e hu
    simp only [Option.bind_eq_some_iff, Option.some.injEq] at hc
    obtain ⟨i, hi, qs, hps, rfl⟩ := hc
    exact fin _ qs (.inr ⟨n, e, hu, ⟨i, hi⟩, rfl⟩) hps rfl
  · cases hc

theorem s_bslice {t : TypeId} {len : Nat} {ps : Array (Nat × Operand)} (ho : o.op = .buildSlice t len ps) : Snd S g0 m o a fr fr0 fr' σ' g bx k v := by
  simp only [cOp, ho, Option.map_eq_some_iff] at hc
  obtain ⟨ao', hc, he⟩ := hc
  cases he
  have hop : ∀ p ∈ ps.toList, ∀ s, cSrc m env p.2 = some s → Rep g (src fr stk s) (a.eval p.2) := fun p hp s hs => hr p.2 (by simp only [ho, Op.operands]; simp; exact ⟨p.1, by simpa using hp⟩) s hs
  split at hc
  · rename_i e hu
    simp only [Option.bind_eq_bind, Option.bind_eq_some_iff, Option.pure_def] at hc
    obtain ⟨z, hz, hc⟩ := hc
    split at hc
    · cases hc
    · rename_i hcond
      simp only [Option.bind_eq_some_iff, Option.some.injEq] at hc
      obtain ⟨qs, hps, rfl⟩ := hc
      have hcond := notnot hcond
      simp only [nbeq, nblt, nble, Bool.and_eq_true, decide_eq_true_eq] at hcond
      simp only [opF, oBslice] at hv
      split at hv
      · rename_i cs hf
        cases hv
        exact ⟨rfl, rfl, v_bslice h ho hu hz hcond.1.1 hcond.1.2 hcond.2 hop hps hf⟩
      · cases hv
  · cases hc

theorem s_load {t : TypeId} {x : Operand} (ho : o.op = .load t x) (hp : ∀ s n g a, ao ≠ .loadP s n g a) : Snd S g0 m o a fr fr0 fr' σ' g bx k v := by
  simp only [cOp, ho, Option.map_eq_some_iff, Option.bind_eq_bind, Option.bind_eq_some_iff, Option.pure_def] at hc
  obtain ⟨ao', ⟨d, hd, ⟨sx, q⟩, hs, hc⟩, he⟩ := hc
  cases he
  cases q with
  | priv s => cases hc; exact absurd rfl (hp _ _ _ _)
  | val =>
    cases hc
    have r1 := hr x (by simp [ho, Op.operands]) sx (by simp [cSrc, hs])
    simp only [opF, oLoad] at hv
    split at hv
    · rename_i v' hl
      cases hv
      exact ⟨rfl, rfl, v_load h ho (by rw [hd]; rfl) r1 hl⟩
    · cases hv

theorem s_store {t : TypeId} {x y : Operand} (ho : o.op = .store t x y) (hp : ∀ s n a v, ao ≠ .storeP s n a v) : Snd S g0 m o a fr fr0 fr' σ' g bx k v := by
  simp only [cOp, ho, Option.map_eq_some_iff, Option.bind_eq_bind, Option.bind_eq_some_iff, Option.pure_def] at hc
  obtain ⟨ao', ⟨sy, hy, hc⟩, he⟩ := hc
  cases he
  split at hc
  · cases hc
  rename_i hz
  simp only [Option.bind_eq_some_iff] at hc
  obtain ⟨⟨sx, q⟩, hs, hc⟩ := hc
  cases q with
  | priv s => cases hc; exact absurd rfl (hp _ _ _ _)
  | val =>
    cases hc
    have r1 := hr x (by simp [ho, Op.operands]) sx (by simp [cSrc, hs])
    have r2 := hr y (by simp [ho, Op.operands]) sy hy
    simp only [opF, oStore] at hv
    split at hv
    · rename_i v' hl
      cases hv
      exact ⟨rfl, rfl, v_store h ho r1 r2 hl hz⟩
    · cases hv

theorem s_nilc {x : Operand} (ho : o.op = .nilCheck x) : Snd S g0 m o a fr fr0 fr' σ' g bx k v := by
  simp only [cOp, ho, Option.map_eq_some_iff] at hc
  obtain ⟨ao', ⟨sx, hs, rfl⟩, he⟩ := hc
  cases he
  have r1 := hr x (by simp [ho, Op.operands]) sx hs
  simp only [opF, oNilc] at hv
  split at hv <;> try (cases hv; done)
  all_goals
    rename_i e
    cases hv
    rw [e] at r1
    exact ⟨rfl, rfl, v_nilc h ho r1 rfl⟩

theorem s_bin {op : BinOp} {t u : TypeId} {x y : Operand} (ho : o.op = .binOp op t x y u) : Snd S g0 m o a fr fr0 fr' σ' g bx k v := by
  simp only [cOp, ho, Option.map_eq_some_iff, Option.bind_eq_bind, Option.bind_eq_some_iff, Option.pure_def] at hc
  obtain ⟨ao', ⟨sx, hx, sy, hy, hc⟩, he⟩ := hc
  cases he
  have r1 := hr x (by simp [ho, Op.operands]) sx hx
  have r2 := hr y (by simp [ho, Op.operands]) sy hy
  have fb : ∀ op', op' = op → ao = .bin op' sx sy → Snd S g0 m o a fr fr0 fr' σ' g bx .val v := by
    intro op' e he
    subst e; subst he
    simp only [opF, oBin] at hv
    split at hv
    · rename_i v' hl
      cases hv
      exact ⟨rfl, rfl, v_bin h ho r1 r2 hl⟩
    · cases hv
  have fe : ∀ (neg : Bool) k, op = cond neg .neq .eql → cTK S.P t = some k → ao = .eqv neg k sx sy → Snd S g0 m o a fr fr0 fr' σ' g bx .val v := by
    intro neg k e hk he
    subst he
    simp only [opF, oEqv] at hv
    split at hv
    · rename_i v' hl
      cases hv
      exact ⟨rfl, rfl, v_eqv h ho e hk r1 r2 hl⟩
    · cases hv
  split at hc
  · cases hc; exact fb _ rfl rfl
  · cases hc; exact fb _ rfl rfl
  · cases hc; exact fb _ rfl rfl
  · cases hc; exact fb _ rfl rfl
  · simp only [Option.bind_eq_some_iff, Option.some.injEq] at hc
    obtain ⟨k, hk, rfl⟩ := hc
    exact fe false k rfl hk rfl
  · simp only [Option.bind_eq_some_iff, Option.some.injEq] at hc
    obtain ⟨k, hk, rfl⟩ := hc
    exact fe true k rfl hk rfl
  · cases hc; exact fb _ rfl rfl

theorem s_un {op : UnOp} {t : TypeId} {x : Operand} (ho : o.op = .unOp op t x) : Snd S g0 m o a fr fr0 fr' σ' g bx k v := by
  simp only [cOp, ho, Option.map_eq_some_iff] at hc
  obtain ⟨ao', ⟨sx, hs, rfl⟩, he⟩ := hc
  cases he
  have r1 := hr x (by simp [ho, Op.operands]) sx hs
  simp only [opF, oUn] at hv
  split at hv
  · rename_i v' hl
    cases hv
    exact ⟨rfl, rfl, v_un h ho r1 hl⟩
  · cases hv

end
end Go.Vm

/- The machine's operations against the model's, on. -/
namespace Go.Vm
open Go
variable {S : Sys} {P : Program}
section
variable {g0 g : G} {m : Meta} {fr fr0 fr' stk : List AV} {a : Act} {σ σ' : Store} {bx : Nat → Option Nat} {env : RE} {o : Oper} {ao : AOp} {k : EK} {cf : ACall} {v : AV}

variable (h : St S g0 m fr0 a σ g bx) (hr : ORep g m env fr stk a o) (hc : cOp S.P m env o = some (ao, k)) (hv : opF ao cf fr stk σ = some (v, fr', σ'))
include h hr hc hv

theorem s_conv {s d : TypeId} {x : Operand} (ho : o.op = .convert s d x) : Snd S g0 m o a fr fr0 fr' σ' g bx k v := by
  simp only [cOp, ho, Option.map_eq_some_iff, Option.bind_eq_bind, Option.bind_eq_some_iff, Option.pure_def] at hc
  obtain ⟨ao', ⟨sx, hx, hc⟩, he⟩ := hc
  cases he
  have r1 := hr x (by simp [ho, Op.operands]) sx hx
  split at hc
  · rename_i k0 k1 hs hd
    cases hc
    simp only [opF, oConvInt] at hv
    split at hv
    · rename_i e
      cases hv
      rw [e] at r1
      exact ⟨rfl, rfl, v_convInt h ho hs hd r1⟩
    · cases hv
  · rename_i e hs hd
    split at hc
    · rename_i hu8
      cases hc
      simp only [opF, oConvStr] at hv
      split at hv
      · rename_i ev
        cases hv
        rw [ev] at r1
        exact ⟨rfl, rfl, v_convStr h ho hs hu8 hd (cs := []) r1 (by simp) rfl rfl⟩
      · split at hv
        · rename_i ev
          split at hv
          · rename_i cs hrow
            split at hv
            · rename_i l hl
              cases hv
              rw [ev] at r1 hrow
              exact ⟨rfl, rfl, v_convStr h ho hs hu8 hd r1 (by simp) hrow hl⟩
            · cases hv
          · cases hv
        · rename_i ev
          split at hv
          · rename_i cs hrow
            split at hv
            · rename_i l hl
              cases hv
              rw [ev] at r1 hrow
              exact ⟨rfl, rfl, v_convStr h ho hs hu8 hd r1 (by simp) hrow hl⟩
            · cases hv
          · cases hv
        · cases hv
    · cases hc
  · rename_i hs hd
    cases hc
    simp only [opF, oConvSS] at hv
    split at hv
    · rename_i l e
      cases hv
      rw [e] at r1
      exact ⟨rfl, rfl, v_convSS h ho hs hd r1⟩
    · cases hv
  · rename_i e hs hd
    split at hc
    · cases hc
    rename_i hz
    cases hc
    simp only [opF, oToUnsafe] at hv
    split at hv
    · rename_i ev
      cases hv
      rw [ev] at r1
      exact ⟨rfl, rfl, v_toUnsafe h ho hs hd hz r1 (.inl ⟨rfl, rfl⟩)⟩
    · rename_i id off ev
      rw [ev] at r1
      split at hv
      · rename_i ty fz cs hg
        rw [nblt, lenR_eq] at hv
        by_cases hlt : off < cs.length
        · simp only [hlt, decide_true, cond_true, Option.some.injEq, Prod.mk.injEq] at hv
          obtain ⟨rfl, rfl, rfl⟩ := hv
          exact ⟨rfl, rfl, v_toUnsafe h ho hs hd hz r1 (.inr ⟨id, off, ty, fz, cs, rfl, rfl, hg, hlt⟩)⟩
        · simp [hlt] at hv
      · cases hv
    · cases hv
  · rename_i e hs hd
    split at hc
    · cases hc
    rename_i hz
    cases hc
    simp only [opF, oFromUnsafe] at hv
    split at hv
    · rename_i ev
      cases hv
      rw [ev] at r1
      exact ⟨rfl, rfl, v_fromUnsafe h ho hs hd hz r1 (.inl ⟨rfl, rfl⟩)⟩
    · rename_i id ev
      rw [ev] at r1
      split at hv
      · rename_i ty fz cs hg
        rw [nbeq, nbeq, lenR_eq, ← Bool.decide_and] at hv
        by_cases hlt : e = ty ∧ cs.length = S.P.cellsOf e
        · rw [decide_eq_true hlt] at hv
          simp only [cond_true, Option.some.injEq, Prod.mk.injEq] at hv
          obtain ⟨rfl, rfl, rfl⟩ := hv
          obtain ⟨rfl, hl⟩ := hlt
          exact ⟨rfl, rfl, v_fromUnsafe h ho hs hd hz r1 (.inr ⟨id, fz, cs, rfl, rfl, hg, hl⟩)⟩
        · rw [decide_eq_false hlt] at hv; cases hv
      · cases hv
    · cases hv
  · cases hc

theorem s_mkfn {f : Fn} {first caps : Array Operand} (ho : o.op = .makeFunc f first caps) : Snd S g0 m o a fr fr0 fr' σ' g bx k v := by
  cases f <;> simp only [cOp, ho, Option.map_eq_some_iff, Option.bind_eq_bind, Option.bind_eq_some_iff, Option.pure_def, reduceCtorEq] at hc
  obtain ⟨ao', ⟨s1, h1, s2, h2, hc⟩, he⟩ := hc
  cases he
  cases hc
  simp only [opF, oMkfn, Option.some.injEq, Prod.mk.injEq] at hv
  obtain ⟨rfl, rfl, rfl⟩ := hv
  exact ⟨rfl, rfl, v_mkfn h ho (srcs_rep h1 fun x hx => hr x (by simp [ho, Op.operands]; exact .inl (by simpa using hx))) (srcs_rep h2 fun x hx => hr x (by simp [ho, Op.operands]; exact .inr (by simpa using hx)))⟩

theorem s_mkmap {t : TypeId} {r : Option Operand} (ho : o.op = .makeMap t r) : Snd S g0 m o a fr fr0 fr' σ' g bx k v := by
  simp only [cOp, ho, Option.map_eq_some_iff] at hc
  obtain ⟨ao', hc, he⟩ := hc
  cases he
  split at hc
  · cases hc
    simp only [opF, oMkmap, Option.some.injEq, Prod.mk.injEq] at hv
    obtain ⟨rfl, rfl, rfl⟩ := hv
    exact ⟨rfl, rfl, v_mkmap h ho (by simp)⟩
  · rename_i x k' e' hu
    simp only [Option.map_eq_some_iff] at hc
    obtain ⟨sx, hsx, rfl⟩ := hc
    simp only [opF, oMkmapN] at hv
    split at hv
    case h_2 => cases hv
    rename_i kk z hz
    simp only [Option.some.injEq, Prod.mk.injEq] at hv
    obtain ⟨rfl, rfl, rfl⟩ := hv
    have hrx := hr x (by simp [ho, Op.operands]) sx hsx
    rw [hz] at hrx
    generalize hq : a.eval x = q at hrx
    cases hrx
    exact ⟨rfl, rfl, v_mkmap h ho (fun y hy => by cases hy; exact ⟨⟨_, _, hu⟩, _, _, hq⟩)⟩
  · cases hc

theorem s_mkslice {t : TypeId} {x y : Operand} (ho : o.op = .makeSlice t x y) : Snd S g0 m o a fr fr0 fr' σ' g bx k v := by
  simp only [cOp, ho, Option.map_eq_some_iff] at hc
  obtain ⟨ao', hc, he⟩ := hc
  cases he
  split at hc
  · rename_i e hu
    simp only [Option.bind_eq_bind, Option.bind_eq_some_iff, Option.pure_def] at hc
    obtain ⟨z, hz, hc⟩ := hc
    split at hc
    · cases hc
    · rename_i hcond
      have hcond := notnot hcond
      simp only [nbeq, nblt, Bool.and_eq_true, decide_eq_true_eq] at hcond
      simp only [Option.bind_eq_some_iff, Option.some.injEq] at hc
      obtain ⟨s1, h1, s2, h2, rfl⟩ := hc
      have r1 := hr x (by simp [ho, Op.operands]) s1 h1
      have r2 := hr y (by simp [ho, Op.operands]) s2 h2
      simp only [opF, oMkslice] at hv
      split at hv
      · rename_i l c e1 e2
        rw [e1] at r1
        rw [e2] at r2
        split at hv
        · rename_i hb
          simp only [nble, Bool.and_eq_true, decide_eq_true_eq] at hb
          cases hv
          exact ⟨rfl, rfl, v_mkslice h ho hu hz hcond.1 hcond.2 r1 r2 hb.1.1 hb.1.2 hb.2⟩
        · cases hv
      · cases hv
  · cases hc

theorem s_slice {t : TypeId} {x : Operand} {lo hi mx : Option Operand} (ho : o.op = .slice t x lo hi mx) : Snd S g0 m o a fr fr0 fr' σ' g bx k v := by
  simp only [cOp, ho, Option.map_eq_some_iff] at hc
  obtain ⟨ao', hc, he⟩ := hc
  cases he
  split at hc
  · cases hc
  rename_i hmh
  have key : ∀ sl sh sm, cOpt m env lo = some sl → cOpt m env hi = some sh → cOpt m env mx = some sm → OptRep g (sl.map (src fr stk)) (lo.map a.eval) ∧ OptRep g (sh.map (src fr stk)) (hi.map a.eval) ∧ OptRep g (sm.map (src fr stk)) (mx.map a.eval) ∧
      ((sm.map (src fr stk)).isSome → (sh.map (src fr stk)).isSome) := by
    intro sl sh sm h1 h2 h3
    refine ⟨opt_rep h1 fun y hy => hr y ?_, opt_rep h2 fun y hy => hr y ?_, opt_rep h3 fun y hy => hr y ?_, ?_⟩
    · subst hy; simp [ho, Op.operands]
    · subst hy; simp [ho, Op.operands]
    · subst hy; simp [ho, Op.operands]
    · intro hs
      cases mx with
      | none => simp only [cOpt, Option.some.injEq] at h3; subst h3; simp at hs
      | some y => cases hi with
        | none => simp at hmh
        | some z => simp only [cOpt, Option.map_eq_some_iff] at h2; obtain ⟨_, _, rfl⟩ := h2; rfl
  split at hc
  · rename_i e hu
    simp only [Option.bind_eq_bind, Option.bind_eq_some_iff, Option.pure_def, Option.some.injEq] at hc
    obtain ⟨i, hi', sx, hx, sl, hl, sh, hh, sm, hm, rfl⟩ := hc
    have r1 := hr x (by simp [ho, Op.operands]) sx hx
    obtain ⟨k1, k2, k3, k4⟩ := key sl sh sm hl hh hm
    simp only [opF, oSlice] at hv
    split at hv
    · rename_i v' hsl
      cases hv
      unfold sliceA at hsl
      split at hsl
      · cases hsl
      · exact ⟨rfl, rfl, v_sliceSl h ho hu ⟨i, hi'⟩ r1 k1 k2 k3 k4 hsl⟩
    · cases hv
  · rename_i hu
    simp only [Option.bind_eq_bind, Option.bind_eq_some_iff, Option.pure_def, Option.some.injEq] at hc
    obtain ⟨sx, hx, sl, hl, sh, hh, sm, hm, rfl⟩ := hc
    have r1 := hr x (by simp [ho, Op.operands]) sx hx
    obtain ⟨k1, k2, k3, k4⟩ := key sl sh sm hl hh hm
    simp only [opF, oSlice] at hv
    split at hv
    · rename_i v' hsl
      cases hv
      unfold sliceA at hsl
      split at hsl
      · rename_i e
        rw [e] at r1
        exact ⟨rfl, rfl, v_sliceStr h ho hu r1 k1 k2 k3 hsl⟩
      · cases hsl
    · cases hv
  · rename_i n e hu
    simp only [Option.bind_eq_bind, Option.bind_eq_some_iff, Option.pure_def, Option.some.injEq] at hc
    obtain ⟨i, hi', sx, hx, sl, hl, sh, hh, sm, hm, rfl⟩ := hc
    have r1 := hr x (by simp [ho, Op.operands]) sx hx
    obtain ⟨k1, k2, k3, k4⟩ := key sl sh sm hl hh hm
    simp only [opF, oSliceArr] at hv
    split at hv
    · rename_i v' hsl
      cases hv
      exact ⟨rfl, rfl, v_sliceArr h ho hu ⟨i, hi'⟩ r1 k1 k2 k3 k4 hsl⟩
    · cases hv
  · cases hc

theorem s_fld {t : TypeId} {x : Operand} {i : Nat} (ho : o.op = .fieldAddr t x i) (hp : ∀ s n a, ao ≠ .fldP s n a) : Snd S g0 m o a fr fr0 fr' σ' g bx k v := by
  simp only [cOp, ho, Option.bind_eq_bind, Option.bind_eq_some_iff, Option.pure_def] at hc
  obtain ⟨d, hu, hc⟩ := hc
  split at hc
  case h_2 => cases hc
  rename_i fs
  simp only [Option.bind_eq_some_iff] at hc
  obtain ⟨f, hf, hc⟩ := hc
  split at hc
  · cases hc
  rename_i hz
  simp only [Option.bind_eq_some_iff] at hc
  obtain ⟨⟨sx, q⟩, hs, hc⟩ := hc
  cases q with
  | priv s =>
    simp only at hc
    split at hc
    · cases hc; exact absurd rfl (hp _ _ _)
    · cases hc
  | val =>
    cases hc
    have r1 := hr x (by simp [ho, Op.operands]) sx (by simp [cSrc, hs])
    simp only [opF, oFld] at hv
    split at hv
    · rename_i e
      cases hv
      rw [e] at r1
      exact ⟨rfl, rfl, v_fld h ho hu hf hz r1 rfl⟩
    · rename_i e
      cases hv
      rw [e] at r1
      exact ⟨rfl, rfl, v_fld h ho hu hf hz r1 rfl⟩
    · cases hv

theorem s_getf {t : TypeId} {x : Operand} {i : Nat} (ho : o.op = .field t x i) : Snd S g0 m o a fr fr0 fr' σ' g bx k v := by
  simp only [cOp, ho, Option.map_eq_some_iff, Option.bind_eq_bind, Option.bind_eq_some_iff, Option.pure_def] at hc
  obtain ⟨ao', ⟨d, hu, hc⟩, he⟩ := hc
  cases he
  split at hc
  case h_2 => cases hc
  rename_i fs
  simp only [Option.bind_eq_some_iff, Option.some.injEq] at hc
  obtain ⟨f, hf, d', hd', sx, hx, rfl⟩ := hc
  have r1 := hr x (by simp [ho, Op.operands]) sx hx
  simp only [opF, oGetf] at hv
  split at hv
  · rename_i cs e
    rw [e] at r1
    split at hv
    · rename_i r hrd
      split at hv
      · rename_i w hp
        cases hv
        exact ⟨rfl, rfl, v_getf h ho hu hf (by rw [hd']; rfl) r1 hrd hp⟩
      · cases hv
    · cases hv
  · cases hv

theorem s_idx {t : TypeId} {x ix : Operand} (ho : o.op = .indexAddr t x ix) (hp : ∀ s n e a i, ao ≠ .idxPP s n e a i) : Snd S g0 m o a fr fr0 fr' σ' g bx k v := by
  simp only [cOp, ho, Option.bind_eq_bind, Option.bind_eq_some_iff, Option.pure_def] at hc
  obtain ⟨si, hi, hc⟩ := hc
  have r2 := hr ix (by simp [ho, Op.operands]) si hi
  split at hc
  · rename_i n e hu
    simp only [Option.bind_eq_some_iff] at hc
    obtain ⟨inf, hinf, ⟨sx, q⟩, hs, hc⟩ := hc
    cases q with
    | priv s =>
      simp only at hc
      split at hc
      · cases hc; exact absurd rfl (hp _ _ _ _ _)
      · cases hc
    | val =>
      cases hc
      have r1 := hr x (by simp [ho, Op.operands]) sx (by simp [cSrc, hs])
      simp only [opF, oIdxP] at hv
      split at hv
      · rename_i kk i ei
        rw [ei] at r2
        split at hv
        · rename_i hlt
          rw [nblt] at hlt
          have hlt := of_decide_eq_true hlt
          split at hv
          · rename_i e'
            cases hv
            rw [e'] at r1
            exact ⟨rfl, rfl, v_idxP h ho hu ⟨inf, hinf⟩ r2 hlt r1 rfl⟩
          · rename_i e'
            cases hv
            rw [e'] at r1
            exact ⟨rfl, rfl, v_idxP h ho hu ⟨inf, hinf⟩ r2 hlt r1 rfl⟩
          · cases hv
        · cases hv
      · cases hv
  · rename_i e hu
    simp only [Option.bind_eq_some_iff, Option.some.injEq, Prod.mk.injEq] at hc
    obtain ⟨inf, hinf, sx, hx, rfl, rfl⟩ := hc
    have r1 := hr x (by simp [ho, Op.operands]) sx hx
    simp only [opF, oIdxS] at hv
    split at hv
    · rename_i kk i ei
      rw [ei] at r2
      split at hv
      · rename_i id off len cap es ex
        rw [ex] at r1
        rw [nblt, nbeq, ← Bool.decide_and] at hv
        by_cases hcnd : i < len ∧ S.P.cellsOf e = es
        · rw [decide_eq_true hcnd] at hv
          cases hv
          exact ⟨rfl, rfl, v_idxS h ho hu ⟨inf, hinf⟩ r2 r1 (.inl ⟨id, off, len, cap, es, rfl, hcnd.1, hcnd.2, rfl⟩)⟩
        · rw [decide_eq_false hcnd] at hv; cases hv
      · rename_i tg cs len cap es ex
        rw [ex] at r1
        rw [nblt, nbeq, nblt, ← Bool.decide_and, ← Bool.decide_and] at hv
        by_cases hcnd : (i < len ∧ S.P.cellsOf e = es) ∧ 0 < S.P.cellsOf e
        · rw [decide_eq_true hcnd] at hv
          cases hv
          exact ⟨rfl, rfl, v_idxS h ho hu ⟨inf, hinf⟩ r2 r1 (.inr ⟨tg, cs, len, cap, es, rfl, hcnd.1.1, hcnd.1.2, by rw [← hcnd.1.2]; exact hcnd.2, rfl⟩)⟩
        · rw [decide_eq_false hcnd] at hv; cases hv
      · cases hv
    · cases hv
  · cases hc

theorem s_index {t : TypeId} {x ix : Operand} (ho : o.op = .index t x ix) : Snd S g0 m o a fr fr0 fr' σ' g bx k v := by
  simp only [cOp, ho, Option.map_eq_some_iff] at hc
  obtain ⟨ao', hc, he⟩ := hc
  cases he
  split at hc
  · rename_i n e hu
    simp only [Option.bind_eq_bind, Option.bind_eq_some_iff, Option.pure_def, Option.some.injEq] at hc
    obtain ⟨d, hd, sx, hx, si, hi, rfl⟩ := hc
    have r1 := hr x (by simp [ho, Op.operands]) sx hx
    have r2 := hr ix (by simp [ho, Op.operands]) si hi
    simp only [opF, oIdxA] at hv
    split at hv
    · rename_i kk i cs ei ex
      rw [ei] at r2
      rw [ex] at r1
      split at hv
      · rename_i hlt
        rw [nblt] at hlt
        split at hv
        · rename_i r hrd
          split at hv
          · rename_i w hp
            cases hv
            exact ⟨rfl, rfl, v_idxA h ho hu (by rw [hd]; rfl) r2 (of_decide_eq_true hlt) r1 hrd hp⟩
          · cases hv
        · cases hv
      · cases hv
    · cases hv
  · rename_i hu
    simp only [Option.bind_eq_bind, Option.bind_eq_some_iff, Option.pure_def, Option.some.injEq] at hc
    obtain ⟨sx, hx, si, hi, rfl⟩ := hc
    have r1 := hr x (by simp [ho, Op.operands]) sx hx
    have r2 := hr ix (by simp [ho, Op.operands]) si hi
    simp only [opF, oIdxStr] at hv
    split at hv
    · rename_i kk i s ei ex
      rw [ei] at r2
      rw [ex] at r1
      split at hv
      · rename_i b hb
        cases hv
        exact ⟨rfl, rfl, v_idxStr h ho hu r2 r1 hb⟩
      · cases hv
    · cases hv
  · cases hc

omit h hr hc hv in
theorem keyT_of {kt : TypeId} {isStr : Bool} (hk : (match S.P.underlying kt with | some (.int _) => some false | some .string => some true | _ => none : Option Bool) = some isStr) : KeyT S.P isStr kt := by
  split at hk
  · rename_i k hu; cases hk; exact .inl ⟨rfl, _, hu⟩
  · rename_i hu; cases hk; exact .inr ⟨rfl, hu⟩
  · cases hk

theorem s_lookup {t : TypeId} {x ix : Operand} {ok : Bool} (ho : o.op = .lookup t x ix ok) : Snd S g0 m o a fr fr0 fr' σ' g bx k v := by
  simp only [cOp, ho, Option.map_eq_some_iff] at hc
  obtain ⟨ao', hc, he⟩ := hc
  cases he
  split at hc
  · rename_i kt e hu
    simp only [Option.bind_eq_bind, Option.bind_eq_some_iff, Option.pure_def, Option.some.injEq] at hc
    obtain ⟨isStr, hk, z, hz, cz, hcz, sx, hx, si, hi, rfl⟩ := hc
    have r1 := hr x (by simp [ho, Op.operands]) sx hx
    have r2 := hr ix (by simp [ho, Op.operands]) si hi
    simp only [opF, oLookup] at hv
    split at hv
    · rename_i w hl
      cases hv
      exact ⟨rfl, rfl, v_lookup h ho hu (keyT_of hk) (by simpa [Option.bind_eq_some_iff] using hz) (cVal_rep hcz) r1 r2 hl⟩
    · cases hv
  · cases hc

theorem s_mapset {t : TypeId} {x ix y : Operand} (ho : o.op = .mapUpdate t x ix y ∨ o.op = .insert t x ix y) : Snd S g0 m o a fr fr0 fr' σ' g bx k v := by
  have hc' : ∃ kt e isStr sx si sy, S.P.underlying t = some (.map kt e) ∧ KeyT S.P isStr kt ∧ cSrc m env x = some sx ∧ cSrc m env ix = some si ∧ cSrc m env y = some sy ∧ ao = .mapset isStr sx si sy ∧ k = .val := by
    rcases ho with ho | ho <;>
    · simp only [cOp, ho, Option.map_eq_some_iff] at hc
      obtain ⟨ao', hc, he⟩ := hc
      cases he
      split at hc
      · rename_i kt e hu
        simp only [Option.bind_eq_bind, Option.bind_eq_some_iff, Option.pure_def, Option.some.injEq] at hc
        obtain ⟨isStr, hk, sx, hx, si, hi, sy, hy, rfl⟩ := hc
        exact ⟨kt, e, isStr, sx, si, sy, hu, keyT_of hk, hx, hi, hy, rfl, rfl⟩
      · cases hc
  obtain ⟨kt, e, isStr, sx, si, sy, hu, hk, hx, hi, hy, rfl, rfl⟩ := hc'
  have r1 := hr x (by rcases ho with ho | ho <;> simp [ho, Op.operands]) sx hx
  have r2 := hr ix (by rcases ho with ho | ho <;> simp [ho, Op.operands]) si hi
  have r3 := hr y (by rcases ho with ho | ho <;> simp [ho, Op.operands]) sy hy
  simp only [opF, oMapset] at hv
  split at hv
  · rename_i w hl
    cases hv
    exact ⟨rfl, rfl, v_mapset h ho hu hk r1 r2 r3 hl⟩
  · cases hv

theorem s_ext {x : Operand} {i : Nat} (ho : o.op = .extract x i) : Snd S g0 m o a fr fr0 fr' σ' g bx k v := by
  simp only [cOp, ho, Option.map_eq_some_iff, Option.bind_eq_bind, Option.bind_eq_some_iff, Option.pure_def, Option.some.injEq] at hc
  obtain ⟨ao', ⟨sx, hx, rfl⟩, he⟩ := hc
  cases he
  have r1 := hr x (by simp [ho, Op.operands]) sx hx
  simp only [opF, oExt] at hv
  split at hv
  · rename_i vs e
    rw [e] at r1
    split at hv
    · rename_i w hw
      cases hv
      exact ⟨rfl, rfl, v_ext h ho r1 hw⟩
    · cases hv
  · cases hv

end
end Go.Vm

/- The machine's operations against the model's: what is built in; functions without a body. -/
namespace Go.Vm
open Go
variable {S : Sys} {P : Program}
section
variable {g0 g : G} {m : Meta} {fr fr0 fr' stk : List AV} {a : Act} {σ σ' : Store} {bx : Nat → Option Nat} {env : RE} {o : Oper} {ao : AOp} {k : EK} {cf : ACall} {v : AV}

variable (h : St S g0 m fr0 a σ g bx) (hr : ORep g m env fr stk a o) (hc : cOp S.P m env o = some (ao, k)) (hv : opF ao cf fr stk σ = some (v, fr', σ'))
include h hr hc hv

theorem s_builtin {c : Call} {b : Builtin} (ho : o.op = .call c) (hb : c.callee = .builtin b) : Snd S g0 m o a fr fr0 fr' σ' g bx k v := by
  have hra : ∀ x ∈ c.args.toList, ∀ s, cSrc m env x = some s → Rep g (src fr stk s) (a.eval x) := fun x hx => hr x (by
    simp only [ho, Op.operands, Call.operands, hb]
    simpa using hx)
  simp only [cOp, ho, hb, Option.map_eq_some_iff] at hc
  obtain ⟨ao', hc, he⟩ := hc
  cases he
  split at hc
  · -- len
    rename_i x hargs
    simp only [Option.bind_eq_bind, Option.bind_eq_some_iff] at hc
    obtain ⟨t, ht, hc⟩ := hc
    have fin : ∀ kk sx, cSrc m env x = some sx → ao = .len kk sx → (match kk with | .sl => ∃ e, S.P.underlying t = some (.slice e) | .str => S.P.underlying t = some .string | .map => ∃ q e, S.P.underlying t = some (.map q e)) → Snd S g0 m o a fr fr0 fr' σ' g bx .val v := by
      intro kk sx hs e hu
      subst e
      have r1 := hra x (by simp [hargs]) sx hs
      simp only [opF, oLen] at hv
      split at hv
      · rename_i n hn
        cases hv
        exact ⟨rfl, rfl, v_len h ho hb hargs ht r1 hu hn⟩
      · cases hv
    split at hc
    · rename_i n e hu
      cases hc
      simp only [opF, oLenArr, Option.some.injEq, Prod.mk.injEq] at hv
      obtain ⟨rfl, rfl, rfl⟩ := hv
      exact ⟨rfl, rfl, v_lenArr h ho hb hargs ht hu⟩
    · rename_i e hu
      simp only [Option.bind_eq_some_iff, Option.pure_def, Option.some.injEq] at hc
      obtain ⟨sx, hs, rfl⟩ := hc
      exact fin .sl sx hs rfl ⟨e, hu⟩
    · rename_i hu
      simp only [Option.bind_eq_some_iff, Option.pure_def, Option.some.injEq] at hc
      obtain ⟨sx, hs, rfl⟩ := hc
      exact fin .str sx hs rfl hu
    · rename_i q e hu
      simp only [Option.bind_eq_some_iff, Option.pure_def, Option.some.injEq] at hc
      obtain ⟨sx, hs, rfl⟩ := hc
      exact fin .map sx hs rfl ⟨q, e, hu⟩
    · cases hc
  · -- append
    rename_i x y hargs
    simp only [Option.bind_eq_bind, Option.bind_eq_some_iff] at hc
    obtain ⟨t, ht, u, hu, hc⟩ := hc
    split at hc
    case isFalse => cases hc
    rename_i huk
    split at hc
    case h_2 => cases hc
    rename_i e hte
    simp only [Option.bind_eq_some_iff] at hc
    obtain ⟨z, hz, hc⟩ := hc
    split at hc
    · cases hc
    rename_i hcond
    have hcond := notnot hcond
    simp only [nbeq, nblt, nble, Bool.and_eq_true, decide_eq_true_eq] at hcond
    simp only [Option.bind_eq_some_iff, Option.pure_def, Option.some.injEq] at hc
    obtain ⟨sx, hx, sy, hy, rfl⟩ := hc
    have r1 := hra x (by simp [hargs]) sx hx
    have r2 := hra y (by simp [hargs]) sy hy
    have hinf : ∃ inf, S.P.info? e = some inf ∧ inf.zero = some z := by simpa [Option.bind_eq_some_iff] using hz
    obtain ⟨inf, hi, hzi⟩ := hinf
    have happ : AppT S.P c.argTypes e inf z := by
      refine ⟨⟨t, u, ht, hu, hte, ?_⟩, hi, hzi, hcond.1.1, hcond.1.2, hcond.2⟩
      unfold isRow at huk
      split at huk
      · rename_i e' hue; exact .inl ⟨e', hue⟩
      · rename_i hue; exact .inr hue
      · cases huk
    simp only [opF, oAppend] at hv
    split at hv
    · rename_i w σ2 hap
      cases hv
      exact ⟨rfl, rfl, v_append h ho hb hargs happ r1 r2 hap⟩
    · cases hv
  · -- copy
    rename_i x y hargs
    simp only [Option.bind_eq_bind, Option.bind_eq_some_iff] at hc
    obtain ⟨t, ht, hc⟩ := hc
    split at hc
    case h_2 => cases hc
    rename_i e hte
    simp only [Option.bind_eq_some_iff, Option.pure_def, Option.some.injEq] at hc
    obtain ⟨inf, hinf, sx, hx, sy, hy, rfl⟩ := hc
    have r1 := hra x (by simp [hargs]) sx hx
    have r2 := hra y (by simp [hargs]) sy hy
    simp only [opF, oCopy] at hv
    split at hv
    · rename_i w σ2 hap
      cases hv
      exact ⟨rfl, rfl, v_copy h ho hb hargs ht hte ⟨inf, hinf⟩ r1 r2 hap⟩
    · cases hv
  · -- min
    simp only [Option.bind_eq_bind, Option.bind_eq_some_iff, Option.pure_def, Option.some.injEq] at hc
    obtain ⟨ss, hs, rfl⟩ := hc
    simp only [opF, oMinmax] at hv
    split at hv
    · rename_i w hw
      cases hv
      exact ⟨rfl, rfl, v_minmax (mx := false) h ho hb (srcs_rep hs hra) hw⟩
    · cases hv
  · -- max
    simp only [Option.bind_eq_bind, Option.bind_eq_some_iff, Option.pure_def, Option.some.injEq] at hc
    obtain ⟨ss, hs, rfl⟩ := hc
    simp only [opF, oMinmax] at hv
    split at hv
    · rename_i w hw
      cases hv
      exact ⟨rfl, rfl, v_minmax (mx := true) h ho hb (srcs_rep hs hra) hw⟩
    · cases hv
  · -- the data of a slice
    rename_i x hargs
    simp only [Option.bind_eq_bind, Option.bind_eq_some_iff, Option.pure_def, Option.some.injEq] at hc
    obtain ⟨sx, hx, rfl⟩ := hc
    have r1 := hra x (by simp [hargs]) sx hx
    simp only [opF, oSliceData] at hv
    split at hv
    · rename_i e
      cases hv
      rw [e] at r1
      exact ⟨rfl, rfl, v_sliceData h ho hb hargs r1 (.inl ⟨rfl, rfl⟩)⟩
    · rename_i id off len cap es e
      rw [e] at r1
      split at hv
      · rename_i hlt
        rw [nblt] at hlt
        cases hv
        exact ⟨rfl, rfl, v_sliceData h ho hb hargs r1 (.inr ⟨id, off, len, cap, es, rfl, of_decide_eq_true hlt, rfl⟩)⟩
      · cases hv
    · cases hv
  · -- a text out of bytes
    rename_i x y hargs
    split at hc
    case h_2 => cases hc
    rename_i t it hts
    split at hc
    case h_2 => cases hc
    rename_i e hu
    split at hc
    · cases hc
    rename_i hone
    have hone := notnot hone
    rw [nbeq, decide_eq_true_eq] at hone
    simp only [Option.bind_eq_bind, Option.bind_eq_some_iff, Option.pure_def, Option.some.injEq] at hc
    obtain ⟨sx, hx, sy, hy, rfl⟩ := hc
    have r1 := hra x (by simp [hargs]) sx hx
    have r2 := hra y (by simp [hargs]) sy hy
    simp only [opF, oUnsafeStr] at hv
    split at hv
    · rename_i e1 e2
      cases hv
      rw [e1] at r1
      rw [e2] at r2
      exact ⟨rfl, rfl, v_unsafeStr h ho hb hargs hts hu hone r1 r2 (.inl ⟨rfl, rfl, rfl, rfl⟩)⟩
    · rename_i id n e1 e2
      rw [e1] at r1
      rw [e2] at r2
      rw [nbeq] at hv
      split at hv
      · rename_i h0
        have h0 := of_decide_eq_true h0
        cases hv
        exact ⟨rfl, rfl, v_unsafeStr h ho hb hargs hts hu hone r1 r2 (.inr (.inl ⟨id, rfl, h0, rfl, rfl⟩))⟩
      · rename_i h0
        have h0 : n ≠ 0 := fun e => h0 (decide_eq_true e)
        split at hv
        case h_2 => cases hv
        rename_i ty' fz cs hg
        rw [nbeq, nble, ← Bool.decide_and] at hv
        by_cases hcnd : e = ty' ∧ n ≤ 4611686018427387904
        · rw [decide_eq_true hcnd, cond_true] at hv
          obtain ⟨rfl, hn⟩ := hcnd
          split at hv
          · rename_i r hrd
            split at hv
            · rename_i l hl
              cases hv
              exact ⟨rfl, rfl, v_unsafeStr h ho hb hargs hts hu hone r1 r2 (.inr (.inr ⟨id, fz, cs, r, l, rfl, h0, hg, hn, hrd, hl, rfl, rfl⟩))⟩
            · cases hv
          · cases hv
        · rw [decide_eq_false hcnd] at hv; cases hv
    · cases hv
  · cases hc

/-- Functions without a body. -/
theorem s_extern (hx : ∀ p ∈ m.ext, ExtOK S.P p) {c : Call} {f : Nat} {fn : Func} (ho : o.op = .call c) (hb : c.callee = .value (.func f)) (hf : S.P.funcs[f]? = some fn) (hn : fn.body = none) : Snd S g0 m o a fr fr0 fr' σ' g bx k v := by
  have hra : ∀ x ∈ c.args.toList, ∀ s, cSrc m env x = some s → Rep g (src fr stk s) (a.eval x) := fun x hx => hr x (by
    simp only [ho, Op.operands, Call.operands, hb]
    simp at hx ⊢; exact .inr hx)
  simp only [cOp, ho, hb, Option.map_eq_some_iff, Option.bind_eq_bind, Option.bind_eq_some_iff] at hc
  obtain ⟨ao', ⟨fn', hf', hc⟩, he⟩ := hc
  rw [hf] at hf'
  cases hf'
  cases he
  rw [hn] at hc
  simp only at hc
  split at hc
  · rename_i q x hfind hargs
    simp only [Option.bind_eq_some_iff, Option.pure_def, Option.some.injEq] at hc
    obtain ⟨sx, hs, rfl⟩ := hc
    have r1 := hra x (by simp [hargs]) sx hs
    have hmem := List.mem_of_find?_eq_some hfind
    have hq : q = f := by have := List.find?_some hfind; exact beq_true this
    subst hq
    simp only [opF, oMov, Option.some.injEq, Prod.mk.injEq] at hv
    obtain ⟨rfl, rfl, rfl⟩ := hv
    exact ⟨rfl, rfl, v_ext0 h ho hb hargs (hx _ hmem) r1⟩
  · rename_i q x y hfind hargs
    simp only [Option.bind_eq_some_iff, Option.pure_def, Option.some.injEq] at hc
    obtain ⟨sx, hs, sy, hs2, rfl⟩ := hc
    have r1 := hra x (by simp [hargs]) sx hs
    have r2 := hra y (by simp [hargs]) sy hs2
    have hmem := List.mem_of_find?_eq_some hfind
    have hq : q = f := by have := List.find?_some hfind; exact beq_true this
    subst hq
    simp only [opF, oExtByte] at hv
    split at hv
    · rename_i s n e1 e2
      rw [e1] at r1
      rw [e2] at r2
      rw [nblt] at hv
      by_cases hlt : n < 256
      · simp only [hlt, decide_true, cond_true] at hv
        split at hv
        · rename_i i hi
          cases hv
          exact ⟨rfl, rfl, v_ext1 h ho hb hargs (hx _ hmem) r1 r2 hlt (by rw [hi])⟩
        · rename_i hi
          cases hv
          exact ⟨rfl, rfl, v_ext1 h ho hb hargs (hx _ hmem) r1 r2 hlt (by rw [hi])⟩
      · simp [hlt] at hv
    · cases hv
  · cases hc

end
end Go.Vm

/- An operation of the machine's, a step of the model's walk. -/
namespace Go.Vm
open Go
variable {S : Sys} {P : Program}

/-- No fence, in a round or in none. -/
def Fr (r : Option Nat) : Fence := { Fence.wide with round := r }
theorem callsIn_fr {r : Option Nat} {n : Nat} {f : FuncId} {args : Array Value} {w : World} {R : Ending → World → Prop} (h : Calls P f args w R) : CallsIn (Fr r) n P f args w R :=
  ⟨trivial, fun cs _ => let ⟨e, w', fr, r', s, x⟩ := h cs; ⟨e, w', fr, r', comesIn_wide.2 s, x⟩⟩
theorem calls_of_fr {r : Option Nat} {n : Nat} {f : FuncId} {args : Array Value} {w : World} {R : Ending → World → Prop} (h : CallsIn (Fr r) n P f args w R) : Calls P f args w R :=
  fun cs => let ⟨e, w', fr, r', s, x⟩ := h.2 cs (fun _ h => by simp [Fr, Fence.wide] at h); ⟨e, w', fr, r', comesIn_wide.1 s, x⟩
theorem roundIn_fr {r r' : Option Nat} {n n' l : Nat} {f : FuncId} {tmps : Array Value} {as bd : Code} {w : World} {R : Ending → World → Prop} (h : RoundIn (Fr r) n P l f tmps as bd w R) : RoundIn (Fr r') n' P l f tmps as bd w R :=
  ⟨trivial, fun c cs _ => h.2 c cs (fun _ h => by simp [Fr, Fence.wide] at h)⟩

/-- What is called, and how it ends. -/
def Invoked (P : Program) (fv : Value) (args : Array Value) (w : World) (R : Ending → World → Prop) : Prop :=
  match fv with
  | .func (.func f) first caps => ∃ as w', (invoke (.fn (.func f) caps) (first ++ args)).run P w = .ok (.enter f as) w' ∧ Calls P f as w' R
  | .func (.yield y) first caps => ∃ l f tmps assign body w', (invoke (.fn (.yield y) caps) (first ++ args)).run P w = .ok (.round l f tmps assign body) w' ∧ RoundIn (Fr none) 0 P l f tmps assign body w' R
  | _ => False

/-- How a call of the machine's ends, of the model's. -/
def EndsIn (S : Sys) (g : G) (v : AV) (σ' : Store) (e : Ending) (w' : World) : Prop := ∃ cv g', e = .returned cv ∧ g'.w = w' ∧ Ext g g' ∧ Inv S g' σ' ∧ Rep g' v cv

/-- Calls of the machine's are calls of the model's. -/
def CallOK (S : Sys) (cf : ACall) : Prop := ∀ fv args σ v σ', cf fv args σ = some (v, σ') → ∀ g cfv cargs, Inv S g σ → Rep g fv cfv → Reps g args cargs → Invoked S.P cfv cargs.toArray g.w (EndsIn S g v σ')

section
variable {g0 g : G} {m : Meta} {fr fr0 fr' stk : List AV} {a : Act} {σ σ' : Store} {bx : Nat → Option Nat} {env : RE} {o : Oper} {ao : AOp} {k : EK} {cf : ACall} {v : AV} {r : Option Nat} {n : Nat} {next : Act → World → Prop} {Q : Exit → Act → World → Prop}

theorem opRuns_wp {w w' : World} {cv : Value} (h : OpRuns P o a w cv w') (hd : ∀ c, o.op ≠ .defer c) (hn : next (a.put o.dst cv) w') : o.wpIn (Fr r) n P a w next Q := by
  refine ⟨fun _ _ => trivial, ?_⟩
  rw [Oper.semAt_eq _ _ _ hd]
  rcases h with h | ⟨h, rfl⟩ <;> rw [h]
  · exact hn
  · exact hn

theorem call_wp {c : Call} {f : Operand} (ho : o.op = .call c) (hc : c.callee = .value f) {w : World} {R : Ending → World → Prop} (h : Invoked P (a.eval f) (c.args.map a.eval) w R) (hR : ∀ e w', R e w' → ∃ cv, e = .returned cv ∧ next (a.put o.dst cv) w') : o.wpIn (Fr r) n P a w next Q := by
  refine ⟨fun _ _ => trivial, ?_⟩
  rw [Oper.semAt_eq _ _ _ (by simp [ho])]
  have hpost : ∀ e w', R e w' → (match e, w' with
      | .returned v, w'' => next (a.put o.dst v) w''
      | .panicked chain, w'' => Q (.panic chain) a w''
      | .outgrown, _ => LetsOut Q) := by
    intro e w' hr
    obtain ⟨cv, rfl, hn⟩ := hR e w' hr
    exact hn
  have he : ∀ fn first caps, a.eval f = .func fn first caps → (execOp a.eval o).run P w = (invoke (.fn fn caps) (first ++ c.args.map a.eval)).run P w := by
    intro fn first caps hf
    simp only [execOp, ho, resolve, hc, hf, Deferred.ofValue, Sem.run_bind, Sem.run_pure, Result.andThen_ok]
  unfold Invoked at h
  split at h
  · rename_i f' first caps hf
    obtain ⟨as, w', hi, hcl⟩ := h
    rw [he _ _ _ hf, hi]
    exact ⟨fun hd => by simp [Fr, Fence.wide] at hd, (callsIn_fr hcl).mono hpost⟩
  · rename_i y first caps hf
    obtain ⟨l, f', tmps, as, bd, w', hi, hcl⟩ := h
    rw [he _ _ _ hf, hi]
    exact ⟨fun hd => by simp [Fr, Fence.wide] at hd, (roundIn_fr hcl).mono hpost⟩
  · exact h.elim

def special : Op → Bool
  | .alloc _ | .box .. | .load .. | .store .. | .fieldAddr .. | .indexAddr .. => true
  | _ => false

theorem cOp_noDefer (hc : cOp P m env o = some (ao, k)) (c : Call) : o.op ≠ .defer c := by
  intro e
  simp [cOp, e] at hc

theorem op_pub_wp (hcf : CallOK S cf) (hx : ∀ p ∈ m.ext, ExtOK S.P p) (h : St S g0 m fr0 a σ g bx) (hr : ORep g m env fr stk a o) (hc : cOp S.P m env o = some (ao, k)) (hp : special o.op = true → pubOp ao = true) (hv : opF ao cf fr stk σ = some (v, fr', σ')) :
    fr' = fr ∧ k = .val ∧ ((∀ cv g', St S g0 m fr0 a σ' g' bx → Ext g g' → Rep g' v cv → next (a.put o.dst cv) g'.w) → o.wpIn (Fr r) n S.P a g.w next Q) := by
  have fin : Snd S g0 m o a fr fr0 fr' σ' g bx k v → fr' = fr ∧ k = .val ∧ ((∀ cv g', St S g0 m fr0 a σ' g' bx → Ext g g' → Rep g' v cv → next (a.put o.dst cv) g'.w) → o.wpIn (Fr r) n S.P a g.w next Q) := by
    rintro ⟨h1, h2, cv, g', hruns, hst, hext, hrep⟩
    exact ⟨h1, h2, fun hn => opRuns_wp hruns (cOp_noDefer hc) (hn cv g' hst hext hrep)⟩
  cases ho : o.op with
  | move x => exact fin (s_move h hr hc hv (.inl ho))
  | assign x => exact fin (s_move h hr hc hv (.inr ho))
  | pick c x y => exact fin (s_pick h hr hc hv ho)
  | alloc t => exact fin (s_alloc h hc hv ho fun s z e => by have hp := hp (by simp [ho, special]); subst e; simp [pubOp] at hp)
  | box t x => exact fin (s_box h hr hc hv ho fun s z e => by have hp := hp (by simp [ho, special]); subst e; simp [pubOp] at hp)
  | build t ps => exact fin (s_build h hr hc hv ho)
  | buildSlice t l ps => exact fin (s_bslice h hr hc hv ho)
  | load t x => exact fin (s_load h hr hc hv ho fun _ _ _ _ e => by have hp := hp (by simp [ho, special]); subst e; simp [pubOp] at hp)
  | store t x y => exact fin (s_store h hr hc hv ho fun _ _ _ _ e => by have hp := hp (by simp [ho, special]); subst e; simp [pubOp] at hp)
  | nilCheck x => exact fin (s_nilc h hr hc hv ho)
  | binOp op t x y u => exact fin (s_bin h hr hc hv ho)
  | unOp op t x => exact fin (s_un h hr hc hv ho)
  | convert s t x => exact fin (s_conv h hr hc hv ho)
  | makeFunc f x y => exact fin (s_mkfn h hr hc hv ho)
  | makeMap t x => exact fin (s_mkmap h hr hc hv ho)
  | makeSlice t x y => exact fin (s_mkslice h hr hc hv ho)
  | slice t x lo hi mx => exact fin (s_slice h hr hc hv ho)
  | fieldAddr t x i => exact fin (s_fld h hr hc hv ho fun _ _ _ e => by have hp := hp (by simp [ho, special]); subst e; simp [pubOp] at hp)
  | field t x i => exact fin (s_getf h hr hc hv ho)
  | indexAddr t x i => exact fin (s_idx h hr hc hv ho fun _ _ _ _ _ e => by have hp := hp (by simp [ho, special]); subst e; simp [pubOp] at hp)
  | index t x i => exact fin (s_index h hr hc hv ho)
  | lookup t x i ok => exact fin (s_lookup h hr hc hv ho)
  | mapUpdate t x i y => exact fin (s_mapset h hr hc hv (.inl ho))
  | insert t x i y => exact fin (s_mapset h hr hc hv (.inr ho))
  | extract x i => exact fin (s_ext h hr hc hv ho)
  | call c =>
    cases hb : c.callee with
    | builtin b => exact fin (s_builtin h hr hc hv ho hb)
    | invoke x name => simp [cOp, ho, hb] at hc
    | value f =>
      have hra : ∀ x ∈ c.args.toList, ∀ s, cSrc m env x = some s → Rep g (src fr stk s) (a.eval x) := fun x hx => hr x (by
        simp only [ho, Op.operands, Call.operands, hb]
        simp at hx ⊢; exact .inr hx)
      have hcall : ∀ fv ss, cSrcs m env c.args.toList = some ss → Rep g fv (a.eval f) → cf fv (srcs fr stk ss) σ = some (v, σ') → ((∀ cv g', St S g0 m fr0 a σ' g' bx → Ext g g' → Rep g' v cv → next (a.put o.dst cv) g'.w) → o.wpIn (Fr r) n S.P a g.w next Q) := by
        intro fv ss hs hfv hcl hn
        have hinv := hcf fv _ σ v σ' hcl g _ _ h.inv hfv (srcs_rep hs hra)
        rw [show (c.args.toList.map a.eval).toArray = c.args.map a.eval from by apply Array.ext'; simp] at hinv
        refine call_wp ho hb hinv fun e w' ⟨cv, g', he, hw, hext, hi, hrep⟩ => ⟨cv, he, ?_⟩
        subst hw
        exact hn cv g' (h.ext' hext hi) hext hrep
      by_cases hfn : ∃ q, f = .func q
      · obtain ⟨q, rfl⟩ := hfn
        have hc0 := hc
        simp only [cOp, ho, hb, Option.map_eq_some_iff, Option.bind_eq_bind, Option.bind_eq_some_iff] at hc0
        obtain ⟨ao', ⟨fn, hf, hc0⟩, he⟩ := hc0
        cases hbody : fn.body with
        | none => exact fin (s_extern h hr hc hv hx ho hb hf hbody)
        | some bd =>
          rw [hbody] at hc0
          simp only [Option.bind_eq_some_iff, Option.pure_def, Option.some.injEq] at hc0
          obtain ⟨ss, hs, rfl⟩ := hc0
          cases he
          simp only [opF, oCall] at hv
          split at hv
          · rename_i v' σ2 hcl
            cases hv
            exact ⟨rfl, rfl, hcall _ ss hs (.fn q [] [] #[] #[] rfl rfl (fun i c v hc => by simp at hc) (fun i c v hc => by simp at hc)) hcl⟩
          · cases hv
      · have hc0 := hc
        simp only [cOp, ho, hb, Option.map_eq_some_iff, Option.bind_eq_bind] at hc0
        obtain ⟨ao', hc0, he⟩ := hc0
        split at hc0
        · rename_i q e; cases e; exact absurd ⟨q, rfl⟩ hfn
        · rename_i f' _ e
          cases e
          simp only [Option.bind_eq_some_iff, Option.pure_def, Option.some.injEq] at hc0
          obtain ⟨sf, hsf, ss, hs, rfl⟩ := hc0
          cases he
          simp only [opF, oCallv] at hv
          split at hv
          · rename_i v' σ2 hcl
            cases hv
            exact ⟨rfl, rfl, hcall _ ss hs (hr f (by simp [ho, Op.operands, Call.operands, hb]) sf hsf) hcl⟩
          · cases hv
        · rename_i e; cases e
        · rename_i e; cases e
  | _ => simp [cOp, ho] at hc

end
end Go.Vm

/- A region in the order of its text. -/
namespace Go.Vm
open Go
variable {S : Sys} {P : Program}
section
variable {g0 g : G} {m : Meta} {fr fr0 fr' stk : List AV} {a : Act} {σ σ' : Store} {bx : Nat → Option Nat} {env : RE} {o : Oper} {ao : AOp} {k : EK} {cf : ACall} {v : AV} {r : Option Nat} {n : Nat} {next : Act → World → Prop} {Q : Exit → Act → World → Prop}

@[simp] theorem put_defers (a : Act) (d : Option Nat) (v : Value) : (a.put d v).defers = a.defers := by cases d <;> rfl

theorem op_text_wp (hcf : CallOK S cf) (hx : ∀ p ∈ m.ext, ExtOK S.P p) (hm : m.ok = true) (hgl : m.globals = S.gl) (h : St S g0 m fr a σ g bx) (he : EnvRep g bx a env stk) (hnd : newDst m env o.dst = true) (hc : cOp S.P m env o = some (ao, k)) {d : Option Nat} (hd : dstOf m k o.dst = some d)
    (hv : opF ao cf fr stk σ = some (v, fr', σ'))
    (hn : ∀ a' g' bx', a'.defers = a.defers → St S g0 m (putFr fr' v d) a' σ' g' bx' → EnvRep g' bx' a' ((o.dst, k) :: env) (v :: stk) → next a' g'.w) : o.wpIn (Fr r) n S.P a g.w next Q := by
  cases hp : pubOp ao || !special o.op with
  | true =>
    have hp : special o.op = true → pubOp ao = true := fun e => by simpa [e] using hp
    obtain ⟨rfl, rfl, hw⟩ := op_pub_wp (next := next) (Q := Q) (r := r) (n := n) hcf hx h (fun x _ s hs => src_val hgl h he hs) hc hp hv
    refine hw fun cv g' hst hext hrep => ?_
    obtain ⟨h1, h2⟩ := put_val hm hst (env_ext he (hext.mono h.inv)) hnd hrep hd
    exact hn _ g' bx (put_defers _ _ _) h1 h2
  | false =>
    simp only [Bool.or_eq_false_iff, Bool.not_eq_false'] at hp
    obtain ⟨hp, hsp⟩ := hp
    have hnod := cOp_noDefer hc
    have finV : VRes S g0 m o a fr' σ' g bx v → k = .val → o.wpIn (Fr r) n S.P a g.w next Q := by
      rintro ⟨cv, g', hruns, hst, hmono, hrep⟩ rfl
      obtain ⟨h1, h2⟩ := put_val hm hst (env_ext he hmono) hnd hrep hd
      exact opRuns_wp hruns hnod (hn _ g' bx (put_defers _ _ _) h1 h2)
    have finP : ∀ s, PRes S.P o a g.w bx s v → k = .priv s → (o.dst.bind m.slot).isNone = true → fr' = fr → σ' = σ → o.wpIn (Fr r) n S.P a g.w next Q := by
      rintro s ⟨off, b, rfl, hb, hruns⟩ rfl hno rfl rfl
      obtain ⟨h1, h2⟩ := put_priv h he hnd (v := .fp off) (cv := .pointer (some ⟨b, off, none⟩)) (.inr ⟨off, b, rfl, hb, rfl⟩) (Option.isNone_iff_eq_none.1 hno)
      simp only [dstOf, Option.some.injEq] at hd
      subst hd
      exact opRuns_wp hruns hnod (hn _ g bx (put_defers _ _ _) h1 h2)
    have finB : ∀ s z (ccs : Array Value) ty, (∃ t, o.dst = some t ∧ m.slot t = some (s, true)) → noPriv s env = true → OpRuns S.P o a g.w (.pointer (some ⟨g.w.heap.size, 0, none⟩)) (g.waste (.cells ccs ty (0, 0))).w → Reps g z ccs.toList → (∀ c ∈ z, one c = true) →
        k = .priv s → v = .fp 0 → fr' = lset fr s (.agg z) → σ' = σ → o.wpIn (Fr r) n S.P a g.w next Q := by
      rintro s z ccs ty ⟨t, hdst, hslot⟩ hnp hruns hreps hone rfl rfl rfl rfl
      rw [hdst] at hnd
      obtain ⟨bx', h1, h2⟩ := put_box h he hnd hslot hnp (ty := ty) hreps hone
      simp only [dstOf, Option.some.injEq] at hd
      subst hd
      rw [← hdst] at h1 h2
      exact opRuns_wp hruns hnod (hn _ _ bx' (put_defers _ _ _) h1 h2)
    cases ho : o.op with
    | alloc t =>
      simp only [cOp, ho, Option.bind_eq_bind, Option.bind_eq_some_iff, Option.pure_def] at hc
      obtain ⟨z, hz, hc⟩ := hc
      split at hc
      · rename_i s hs
        split at hc
        · rename_i hcnd
          simp only [Bool.and_eq_true] at hcnd
          cases hc
          simp only [opF, oAllocP, Option.some.injEq, Prod.mk.injEq] at hv
          obtain ⟨rfl, rfl, rfl⟩ := hv
          obtain ⟨ccs, h1, h2, h3⟩ := v_allocP (o := o) (a := a) ho hz g
          exact finB s z ccs t (by simpa [Option.bind_eq_some_iff] using hs) hcnd.1 h1 h2 h3 rfl rfl rfl rfl
        · cases hc
      · cases hc
        simp [pubOp] at hp
    | box t x =>
      simp only [cOp, ho, Option.bind_eq_bind, Option.bind_eq_some_iff, Option.pure_def] at hc
      obtain ⟨sx, hsx, hc⟩ := hc
      split at hc
      · rename_i s hs
        split at hc
        · rename_i hcnd
          simp only [Bool.and_eq_true] at hcnd
          cases hc
          simp only [opF, oBoxP] at hv
          split at hv
          · rename_i hst
            simp only [Option.some.injEq, Prod.mk.injEq] at hv
            obtain ⟨rfl, rfl, rfl⟩ := hv
            obtain ⟨ccs, h1, h2, h3⟩ := v_boxP (P := S.P) (o := o) (a := a) ho (src_val hgl h he hsx) hst
            exact finB s _ ccs t (by simpa [Option.bind_eq_some_iff] using hs) hcnd.1 h1 h2 h3 rfl rfl rfl rfl
          · cases hv
        · cases hc
      · cases hc
        simp [pubOp] at hp
    | load t x =>
      simp only [cOp, ho, Option.map_eq_some_iff, Option.bind_eq_bind, Option.bind_eq_some_iff, Option.pure_def] at hc
      obtain ⟨ao', ⟨d', hd', ⟨sx, q⟩, hs, hc⟩, hek⟩ := hc
      cases hek
      cases q with
      | val => cases hc; simp [pubOp] at hp
      | priv s =>
        cases hc
        simp only [opF, oLoadP] at hv
        split at hv
        · rename_i off cs e1 e2
          split at hv
          · rename_i rr hrd
            split at hv
            · rename_i w hpk
              cases hv
              exact finV (v_loadP h he ho (by rw [hd']; rfl) hs e1 e2 hrd hpk) rfl
            · cases hv
          · cases hv
        · cases hv
    | store t x y =>
      simp only [cOp, ho, Option.map_eq_some_iff, Option.bind_eq_bind, Option.bind_eq_some_iff, Option.pure_def] at hc
      obtain ⟨ao', ⟨sy, hy, hc⟩, hek⟩ := hc
      cases hek
      split at hc
      · cases hc
      rename_i hz
      simp only [Option.bind_eq_some_iff] at hc
      obtain ⟨⟨sx, q⟩, hs, hc⟩ := hc
      cases q with
      | val => cases hc; simp [pubOp] at hp
      | priv s =>
        cases hc
        simp only [opF, oStoreP] at hv
        split at hv
        · rename_i off cs e1 e2
          simp only [lenR_eq, nbeq, nble] at hv
          split at hv
          · rename_i hcnd
            simp only [Bool.and_eq_true, decide_eq_true_eq] at hcnd
            simp only [Option.some.injEq, Prod.mk.injEq] at hv
            obtain ⟨rfl, rfl, rfl⟩ := hv
            exact finV (v_storeP h he ho hz hs e1 e2 (src_val hgl h he hy) hcnd.2 hcnd.1.1 hcnd.1.2) rfl
          · cases hv
        · cases hv
    | fieldAddr t x i =>
      simp only [cOp, ho, Option.bind_eq_bind, Option.bind_eq_some_iff, Option.pure_def] at hc
      obtain ⟨dd, hu, hc⟩ := hc
      split at hc
      case h_2 => cases hc
      rename_i fs
      simp only [Option.bind_eq_some_iff] at hc
      obtain ⟨f, hf, hc⟩ := hc
      split at hc
      · cases hc
      rename_i hz
      simp only [Option.bind_eq_some_iff] at hc
      obtain ⟨⟨sx, q⟩, hs, hc⟩ := hc
      cases q with
      | val => cases hc; simp [pubOp] at hp
      | priv s =>
        simp only at hc
        split at hc
        · rename_i hno
          cases hc
          simp only [opF, oFldP] at hv
          split at hv
          · rename_i off cs e1 e2
            cases hv
            exact finP s (v_fldP h he ho hu hf hz hs e1 e2) rfl hno rfl rfl
          · cases hv
        · cases hc
    | indexAddr t x ix =>
      simp only [cOp, ho, Option.bind_eq_bind, Option.bind_eq_some_iff, Option.pure_def] at hc
      obtain ⟨si, hi, hc⟩ := hc
      split at hc
      · rename_i nn e hu
        simp only [Option.bind_eq_some_iff] at hc
        obtain ⟨inf, hinf, ⟨sx, q⟩, hs, hc⟩ := hc
        cases q with
        | val => cases hc; simp [pubOp] at hp
        | priv s =>
          simp only at hc
          split at hc
          · rename_i hno
            cases hc
            simp only [opF, oIdxPP] at hv
            split at hv
            · rename_i kk i ei
              split at hv
              · rename_i hlt
                rw [nblt] at hlt
                split at hv
                · rename_i off cs e1 e2
                  cases hv
                  have r2 := src_val hgl h he hi
                  rw [ei] at r2
                  exact finP s (v_idxPP h he ho hu ⟨inf, hinf⟩ r2 (of_decide_eq_true hlt) hs e1 e2) rfl hno rfl rfl
                · cases hv
              · cases hv
            · cases hv
          · cases hc
      · simp only [Option.bind_eq_some_iff, Option.some.injEq, Prod.mk.injEq] at hc
        obtain ⟨inf, hinf, sx, hx, rfl, rfl⟩ := hc
        simp [pubOp] at hp
      · cases hc
    | _ => simp [ho, special] at hsp


/-- What is told of a box of the function's own has no guard, or no slot. -/
theorem cOp_priv {s : Nat} (hc : cOp P m env o = some (ao, .priv s)) : o.guard.isNone = true ∨ (o.dst.bind m.slot).isNone = true := by
  cases ho : o.op with
  | alloc t =>
    simp only [cOp, ho, Option.bind_eq_bind, Option.bind_eq_some_iff, Option.pure_def] at hc
    obtain ⟨z, hz, hc⟩ := hc
    split at hc
    · split at hc
      · rename_i h
        simp only [Bool.and_eq_true] at h
        exact .inl h.2
      · cases hc
    · cases hc
  | box t x =>
    simp only [cOp, ho, Option.bind_eq_bind, Option.bind_eq_some_iff, Option.pure_def] at hc
    obtain ⟨z, hz, hc⟩ := hc
    split at hc
    · split at hc
      · rename_i h
        simp only [Bool.and_eq_true] at h
        exact .inl h.2
      · cases hc
    · cases hc
  | fieldAddr t x i =>
    simp only [cOp, ho, Option.bind_eq_bind, Option.bind_eq_some_iff, Option.pure_def] at hc
    obtain ⟨dd, hu, hc⟩ := hc
    split at hc
    case h_2 => cases hc
    simp only [Option.bind_eq_some_iff] at hc
    obtain ⟨f, hf, hc⟩ := hc
    split at hc
    · cases hc
    simp only [Option.bind_eq_some_iff] at hc
    obtain ⟨⟨sx, q⟩, hs, hc⟩ := hc
    cases q with
    | val => cases hc
    | priv s =>
      simp only at hc
      split at hc
      · rename_i hno; exact .inr hno
      · cases hc
  | indexAddr t x ix =>
    simp only [cOp, ho, Option.bind_eq_bind, Option.bind_eq_some_iff, Option.pure_def] at hc
    obtain ⟨si, hi, hc⟩ := hc
    split at hc
    · simp only [Option.bind_eq_some_iff] at hc
      obtain ⟨inf, hinf, ⟨sx, q⟩, hs, hc⟩ := hc
      cases q with
      | val => cases hc
      | priv s =>
        simp only at hc
        split at hc
        · rename_i hno; exact .inr hno
        · cases hc
    · simp only [Option.bind_eq_some_iff, Option.some.injEq, Prod.mk.injEq] at hc
      obtain ⟨_, _, _, _, _, h⟩ := hc
      cases h
    · cases hc
  | makeFunc f x y =>
    cases f with
    | func q =>
      simp only [cOp, ho, Option.map_eq_some_iff, Prod.mk.injEq] at hc
      obtain ⟨_, _, _, h⟩ := hc
      cases h
    | _ => simp [cOp, ho] at hc
  | _ =>
    first
      | (simp only [cOp, ho, Option.map_eq_some_iff, Prod.mk.injEq] at hc
         obtain ⟨_, _, _, h⟩ := hc
         cases h)
      | (simp [cOp, ho] at hc; done)

/-- What is passed over. -/
theorem skip_put (hm : m.ok = true) (h : St S g0 m fr a σ g bx) (he : EnvRep g bx a env stk) (hnd : newDst m env o.dst = true) (hc : cOp P m env o = some (ao, k)) {d : Option Nat} (hd : dstOf m k o.dst = some d) (hg : o.guard.isSome = true) :
    St S g0 m (putFr fr .undef d) (a.put o.dst undef) σ g bx ∧ EnvRep g bx (a.put o.dst undef) ((o.dst, k) :: env) (.undef :: stk) := by
  cases k with
  | val => exact put_val hm h he hnd .undef hd
  | priv s =>
    simp only [dstOf, Option.some.injEq] at hd
    subst hd
    rcases cOp_priv hc with h1 | h1
    · cases hgd : o.guard <;> simp [hgd] at h1 hg
    · exact put_priv h he hnd (.inl ⟨rfl, rfl⟩) (Option.isNone_iff_eq_none.1 h1)

/-- The operations behind. -/
def Behind (ops : Array Oper) (env : RE) (rest : List Oper) : Prop := ∃ pre, ops.toList = pre ++ rest ∧ env.map (·.1) = (pre.map (·.dst)).reverse

theorem behind_next {ops : Array Oper} {rest : List Oper} (h : Behind ops env (o :: rest)) (k : EK) : Behind ops ((o.dst, k) :: env) rest := by
  obtain ⟨pre, h1, h2⟩ := h
  exact ⟨pre ++ [o], by simp [h1], by simp [h2]⟩

theorem guard_spec {ops : Array Oper} {rest : List Oper} (hb : Behind ops env rest) (he : EnvRep g bx a env stk) {j : Nat} {b : Bool} {j' : Nat} {b' : Bool} (hgd : guardOf env (some (j, b)) = some (some (j', b'))) :
    b' = b ∧ ((lget stk j' = .undef ∧ yielded ops a.tmps j = none) ∨ (∃ c, lget stk j' = .bool c ∧ yielded ops a.tmps j = some c) ∨ ((∀ c, lget stk j' ≠ .bool c) ∧ lget stk j' ≠ .undef)) := by
  unfold guardOf at hgd
  split at hgd
  · cases ‹some (j, b) = none›
  rename_i j0 b0 e
  cases e
  rw [nblt] at hgd
  split at hgd
  case isFalse => cases hgd
  rename_i hlt
  have hlt := of_decide_eq_true hlt
  split at hgd
  case h_2 => cases hgd
  rename_i t henv
  cases hgd
  refine ⟨rfl, ?_⟩
  obtain ⟨y, hy, hr⟩ := Both.get he henv
  rw [lget_of hy]
  have hr : Rep g y (a.tmps.getD t undef) := hr
  obtain ⟨pre, h1, h2⟩ := hb
  have hl : env.length = pre.length := by have := congrArg List.length h2; simpa using this
  have hops : (ops[j]?).bind (·.dst) = some t := by
    have h3 : (env.map (·.1))[env.length - 1 - j]? = some (some t) := by rw [List.getElem?_map, henv]; rfl
    rw [h2, List.getElem?_reverse (by simp; omega)] at h3
    simp only [List.length_map] at h3
    rw [show pre.length - 1 - (env.length - 1 - j) = j by omega, List.getElem?_map, Option.map_eq_some_iff] at h3
    obtain ⟨o', ho', hd'⟩ := h3
    rw [← Array.getElem?_toList, h1, List.getElem?_append_left (by omega), ho']
    exact hd'
  have hyl : ∀ q, a.tmps.getD t undef = q → yielded ops a.tmps j = (match q with | .bool b => some b | _ => none) := by
    intro q hq
    unfold yielded
    rw [hops]
    simp only [Option.bind_some]
    rw [Array.getD_eq_getD_getElem?] at hq
    cases ht : a.tmps[t]? with
    | none =>
      rw [ht] at hq
      subst hq
      rfl
    | some u =>
      rw [ht] at hq
      simp only [Option.getD_some] at hq
      subst hq
      cases u <;> rfl
  cases hr' : y with
  | undef =>
    subst hr'
    left
    refine ⟨rfl, ?_⟩
    generalize hq : a.tmps.getD t undef = q at hr
    cases hr
    rw [hyl _ hq]
    rfl
  | bool c =>
    subst hr'
    right; left
    refine ⟨c, rfl, ?_⟩
    generalize hq : a.tmps.getD t undef = q at hr
    cases hr
    rw [hyl _ hq]
  | _ => right; right; exact ⟨by simp, by simp⟩


/-- An operation without a guard, and what stands behind. -/
noncomputable def runOp (d : Option Nat) (f : OpF) (k : RunF) : RunF :=
  match d with
  | some s => rOpS s f k
  | none => rOp f k

/-- A region's operations, one after the other. -/
theorem list_text (hcf : CallOK S cf) (hx : ∀ p ∈ m.ext, ExtOK S.P p) (hm : m.ok = true) (hgl : m.globals = S.gl) {ops : Array Oper} {ds : List Deferred} {frE : List AV} {σE : Store} : ∀ (rest : List Oper) (aops : List AOper) (env : RE) (stk fr : List AV) (a : Act) (σ : Store) (g : G) (bx : Nat → Option Nat),
    St S g0 m fr a σ g bx → EnvRep g bx a env stk → a.defers = ds → Behind ops env rest → cOps S.P m rest env = some aops → denOps aops cf fr stk σ = some (frE, σE) →
    (∀ a' g' bx', a'.defers = ds → St S g0 m frE a' σE g' bx' → Q .normal a' g'.w) → wpListIn (Fr r) n S.P ops Q rest a g.w
  | [], aops, env, stk, fr, a, σ, g, bx, h, he, hds, hb, hc, hv, hQ => by
    simp only [cOps, Option.some.injEq] at hc
    subst hc
    have hv' : some (fr, σ) = some (frE, σE) := hv
    cases hv'
    exact hQ a g bx hds h
  | o :: rest, aops, env, stk, fr, a, σ, g, bx, h, he, hds, hb, hc, hv, hQ => by
    simp only [cOps] at hc
    split at hc
    case h_2 => cases hc
    rename_i ao k hco
    split at hc
    case h_2 => cases hc
    rename_i rs hcs
    cases hc
    unfold cOper at hco
    split at hco
    · cases hco
    rename_i hnd
    have hnd : newDst m env o.dst = true := by simpa using hnd
    split at hco
    case h_2 => cases hco
    rename_i aop k' hcop
    split at hco
    case h_2 => cases hco
    rename_i d gd hd hgd
    cases hco
    -- what is done, what is passed over
    have hrun : ∀ v fr' σ', opF aop cf fr stk σ = some (v, fr', σ') → denOps rs cf (putFr fr' v d) (v :: stk) σ' = some (frE, σE) → o.wpIn (Fr r) n S.P a g.w (wpListIn (Fr r) n S.P ops Q rest) Q := by
      intro v fr' σ' hop hrest
      exact op_text_wp hcf hx hm hgl h he hnd hcop hd hop fun a' g' bx' hdf hst hent =>
        list_text hcf hx hm hgl rest rs _ _ _ a' σ' g' bx' hst hent (hdf.trans hds) (behind_next hb k) hcs hrest hQ
    have hskip : o.guard.isSome = true → denOps rs cf (putFr fr .undef d) (.undef :: stk) σ = some (frE, σE) → (∀ f, o.about S.P g.w a.eval = some f → (Fr r).fn f) ∧ wpListIn (Fr r) n S.P ops Q rest (a.put o.dst undef) g.w := by
      intro hg hrest
      obtain ⟨h1, h2⟩ := skip_put hm h he hnd hcop hd hg
      exact ⟨fun _ _ => trivial, list_text hcf hx hm hgl rest rs _ _ _ _ σ g bx h1 h2 (by simp [hds]) (behind_next hb k) hcs hrest hQ⟩
    -- the machine's step
    have hstep : denOps ({ dst := d, op := aop, guard := gd } :: rs) cf fr stk σ = some (frE, σE) →
        (gd = none ∧ ∃ v fr' σ', opF aop cf fr stk σ = some (v, fr', σ') ∧ denOps rs cf (putFr fr' v d) (v :: stk) σ' = some (frE, σE)) ∨
        ∃ j b, gd = some (j, b) ∧ ((∃ c, lget stk j = .bool c ∧ c = b ∧ ∃ v fr' σ', opF aop cf fr stk σ = some (v, fr', σ') ∧ denOps rs cf (putFr fr' v d) (v :: stk) σ' = some (frE, σE)) ∨
          (((∃ c, lget stk j = .bool c ∧ c ≠ b) ∨ lget stk j = .undef) ∧ denOps rs cf (putFr fr .undef d) (.undef :: stk) σ = some (frE, σE))) := by
      intro hv
      have hrun1 : ∀ (f : RunF), f = runOp d (opF aop) (denOps rs) → f cf fr stk σ = some (frE, σE) → ∃ v fr' σ', opF aop cf fr stk σ = some (v, fr', σ') ∧ denOps rs cf (putFr fr' v d) (v :: stk) σ' = some (frE, σE) := by
        intro f hf hfv
        subst hf
        cases d with
        | none =>
          simp only [runOp, rOp] at hfv
          split at hfv
          · rename_i v fr' σ' ho; exact ⟨v, fr', σ', ho, hfv⟩
          · cases hfv
        | some s =>
          simp only [runOp, rOpS] at hfv
          split at hfv
          · rename_i v fr' σ' ho; exact ⟨v, fr', σ', ho, hfv⟩
          · cases hfv
      cases gd with
      | none =>
        left
        refine ⟨rfl, hrun1 _ rfl ?_⟩
        cases d <;> exact hv
      | some jb =>
        obtain ⟨j, b⟩ := jb
        right
        refine ⟨j, b, rfl, ?_⟩
        have hv' : rGuard j b d (runOp d (opF aop) (denOps rs)) (denOps rs) cf fr stk σ = some (frE, σE) := by
          cases d <;> exact hv
        simp only [rGuard] at hv'
        split at hv'
        · rename_i c hj
          cases hcb : cond c b (!b) with
          | true =>
            rw [hcb, cond_true] at hv'
            exact .inl ⟨c, hj, by cases c <;> cases b <;> simp_all, hrun1 _ rfl hv'⟩
          | false =>
            rw [hcb, cond_false] at hv'
            refine .inr ⟨.inl ⟨c, hj, by cases c <;> cases b <;> simp_all⟩, ?_⟩
            cases d <;> exact hv'
        · rename_i hj
          refine .inr ⟨.inr hj, ?_⟩
          cases d <;> exact hv'
        · cases hv'
    unfold wpListIn
    rcases hstep hv with ⟨rfl, v, fr', σ', hop, hrest⟩ | ⟨j', b, rfl, hcase⟩
    · have hg0 : o.guard = none := by
        cases hg : o.guard with
        | none => rfl
        | some jb =>
          rw [hg] at hgd
          obtain ⟨j, b⟩ := jb
          simp only [guardOf] at hgd
          split at hgd
          · split at hgd <;> cases hgd
          · cases hgd
      rw [if_pos (by simp [Region.wanted, hg0])]
      exact hrun v fr' σ' hop hrest
    · cases hg : o.guard with
      | none => rw [hg] at hgd; simp [guardOf] at hgd
      | some jb =>
        obtain ⟨j, b0⟩ := jb
        rw [hg] at hgd
        obtain ⟨rfl, hsp⟩ := guard_spec hb he hgd
        rcases hcase with ⟨c, hj, rfl, v, fr', σ', hop, hrest⟩ | ⟨hj, hrest⟩
        · rcases hsp with ⟨h1, _⟩ | ⟨c', h1, h2⟩ | ⟨h1, _⟩
          · rw [hj] at h1; cases h1
          · rw [hj] at h1; cases h1
            rw [if_pos (by simp [Region.wanted, hg, h2])]
            exact hrun v fr' σ' hop hrest
          · exact absurd hj (h1 c)
        · have hnw : Region.wanted o (yielded ops a.tmps) = false := by
            rcases hsp with ⟨h1, h2⟩ | ⟨c', h1, h2⟩ | ⟨h1, h1'⟩
            · simp [Region.wanted, hg, h2]
            · rcases hj with ⟨c, hj, hne⟩ | hj
              · rw [hj] at h1; cases h1
                simp [Region.wanted, hg, h2, hne]
              · rw [hj] at h1; cases h1
            · rcases hj with ⟨c, hj, hne⟩ | hj
              · exact absurd hj (h1 c)
              · exact absurd hj h1'
          rw [if_neg (by simp [hnw])]
          exact hskip (by simp [hg]) hrest

end
end Go.Vm

/- Code of the machine's, walked in the model. -/
namespace Go.Vm
open Go
variable {S : Sys} {P : Program}

def exitOf : AExit → Exit
  | .normal => .normal
  | .exit id => .exit id
  | .goto l => .goto l
  | .ret => .ret

def Post (S : Sys) (g0 : G) (m : Meta) (res : Res) : Exit → Act → World → Prop := fun e a' w' => e = exitOf res.e ∧ ∃ g' bx', w' = g'.w ∧ St S g0 m res.fr a' res.σ g' bx'

/-- A piece of the machine's code does as one of the model's. -/
def CodeOK (S : Sys) (g0 : G) (m : Meta) (r : Option Nat) (n : Nat) (cf : ACall) (c : Code) (f : CodeF) : Prop :=
  ∀ N fr a σ g bx res, St S g0 m fr a σ g bx → f N cf fr σ = some res → c.wpIn (Fr r) n S.P (Post S g0 m res) a g.w

section
variable {g0 g : G} {m : Meta} {cf : ACall} {r : Option Nat} {n : Nat} {Q : Exit → Act → World → Prop}

theorem ok_skip : CodeOK S g0 m r n cf .skip sSkip := fun N fr a σ g bx res h hv => by
  simp only [sSkip, Option.some.injEq] at hv
  subst hv
  exact wpIn_skip ⟨rfl, g, bx, rfl, h⟩
theorem ok_label (l : Nat) : CodeOK S g0 m r n cf (.label l) sSkip := fun N fr a σ g bx res h hv => by
  simp only [sSkip, Option.some.injEq] at hv
  subst hv
  exact wpIn_label ⟨rfl, g, bx, rfl, h⟩
theorem ok_exit (id : Nat) : CodeOK S g0 m r n cf (.exit id) (sExit (.exit id)) := fun N fr a σ g bx res h hv => by
  simp only [sExit, Option.some.injEq] at hv
  subst hv
  exact wpIn_exit ⟨rfl, g, bx, rfl, h⟩
theorem ok_goto (l : Nat) : CodeOK S g0 m r n cf (.goto l) (sExit (.goto l)) := fun N fr a σ g bx res h hv => by
  simp only [sExit, Option.some.injEq] at hv
  subst hv
  exact wpIn_goto ⟨rfl, g, bx, rfl, h⟩
theorem ok_ret : CodeOK S g0 m r n cf .ret (sExit .ret) := fun N fr a σ g bx res h hv => by
  simp only [sExit, Option.some.injEq] at hv
  subst hv
  exact wpIn_ret ⟨rfl, g, bx, rfl, h⟩
theorem ok_none (c : Code) : CodeOK S g0 m r n cf c sNone := fun N fr a σ g bx res h hv => by cases hv

theorem ok_seq {x y : Code} {f k : CodeF} (hx : CodeOK S g0 m r n cf x f) (hy : CodeOK S g0 m r n cf y k) : CodeOK S g0 m r n cf (.seq x y) (sSeq f k) := fun N fr a σ g bx res h hv => by
  simp only [sSeq] at hv
  split at hv
  · rename_i fr' σ' h1
    refine wpIn_seq (wpIn_mono (hx N fr a σ g bx _ h h1) ?_)
    rintro e a' w' ⟨rfl, g', bx', rfl, hst⟩
    exact hy N fr' a' σ' g' bx' res hst hv
  · rename_i hno
    refine wpIn_seq (wpIn_mono (hx N fr a σ g bx _ h hv) ?_)
    rintro e a' w' ⟨rfl, g', bx', rfl, hst⟩
    obtain ⟨re, rfr, rσ⟩ := res
    cases re with
    | normal => exact absurd hv (hno rfr rσ)
    | exit id => exact ⟨rfl, g', bx', rfl, hst⟩
    | goto l => exact ⟨rfl, g', bx', rfl, hst⟩
    | ret => exact ⟨rfl, g', bx', rfl, hst⟩

theorem ok_cond (hgl : m.globals = S.gl) {c : Operand} {s : Src} (hs : cSrc m [] c = some s) {x y : Code} {f k : CodeF} (hx : CodeOK S g0 m r n cf x f) (hy : CodeOK S g0 m r n cf y k) : CodeOK S g0 m r n cf (.cond c x y) (sCond s f k) := fun N fr a σ g bx res h hv => by
  simp only [sCond] at hv
  split at hv
  case h_2 => cases hv
  rename_i t ht
  have hr := src_val hgl h (env := []) (stk := []) .nil hs
  rw [ht] at hr
  have hc : a.eval c = .bool t := by
    generalize a.eval c = q at hr
    cases hr; rfl
  cases t with
  | true => exact wpIn_cond_true hc (hx N fr a σ g bx res h hv)
  | false => exact wpIn_cond_false hc (hy N fr a σ g bx res h hv)

theorem ok_block (id : Nat) {x : Code} {f : CodeF} (hx : CodeOK S g0 m r n cf x f) : CodeOK S g0 m r n cf (.block id x) (sBlock id f) := fun N fr a σ g bx res h hv => by
  simp only [sBlock] at hv
  split at hv
  · rename_i i fr' σ' h1
    refine wpIn_block (wpIn_mono (hx N fr a σ g bx _ h h1) ?_)
    rintro e a' w' ⟨rfl, g', bx', rfl, hst⟩
    simp only [exitOf, Exit.inBlock]
    rw [nbeq] at hv
    by_cases hi : i = id
    · rw [if_pos hi]
      simp only [hi, decide_true, cond_true, Option.some.injEq] at hv
      subst hv
      exact ⟨rfl, g', bx', rfl, hst⟩
    · rw [if_neg hi]
      simp only [hi, decide_false, cond_false, Option.some.injEq] at hv
      subst hv
      exact ⟨rfl, g', bx', rfl, hst⟩
  · rename_i hno
    refine wpIn_block (wpIn_mono (hx N fr a σ g bx _ h hv) ?_)
    rintro e a' w' ⟨rfl, g', bx', rfl, hst⟩
    obtain ⟨re, rfr, rσ⟩ := res
    cases re with
    | normal => exact ⟨rfl, g', bx', rfl, hst⟩
    | exit id => exact absurd hv (hno id rfr rσ)
    | goto l => exact ⟨rfl, g', bx', rfl, hst⟩
    | ret => exact ⟨rfl, g', bx', rfl, hst⟩

theorem least {p : Nat → Prop} (h : ∃ k, p k) : ∃ k, p k ∧ ∀ j, p j → k ≤ j := by
  obtain ⟨k, hk⟩ := h
  induction k using Nat.strongRecOn with
  | _ k ih =>
    by_cases hs : ∃ j, j < k ∧ p j
    · obtain ⟨j, hj, hp⟩ := hs
      exact ih j hj hp
    · exact ⟨k, hk, fun j hp => Nat.le_of_not_lt fun hlt => hs ⟨j, hlt, hp⟩⟩

/-- A loop that ends within so many rounds. -/
theorem wpIn_loop_k {F : Fence} {c : Code} {a : Act} {w : World} (R : Nat → Act → World → Prop) (h0 : ∀ a w, ¬ R 0 a w) (round : ∀ j a w, R (j + 1) a w → c.wpIn F n P (Exit.then (fun a' w' => R j a' w') Q) a w) :
    ∀ k, R k a w → (Code.loop c).wpIn F n P Q a w := by
  intro k hk
  classical
  let μ : Act → World → Nat := fun a w => if h : ∃ k, R k a w then (least h).choose else 0
  have hμ : ∀ a w (h : ∃ k, R k a w), R (μ a w) a w ∧ ∀ j, R j a w → μ a w ≤ j := fun a w h => by
    have : μ a w = (least h).choose := dif_pos h
    rw [this]
    exact (least h).choose_spec
  refine wpIn_loop (fun a w => ∃ k, R k a w) μ ⟨k, hk⟩ fun a w hI => ?_
  obtain ⟨hspec, _⟩ := hμ a w hI
  cases hj : μ a w with
  | zero => rw [hj] at hspec; exact absurd hspec (h0 a w)
  | succ j =>
    rw [hj] at hspec
    refine wpIn_mono (round j a w hspec) fun e a' w' he => ?_
    cases e with
    | normal =>
      have he : R j a' w' := he
      exact ⟨⟨j, he⟩, Nat.lt_succ_of_le ((hμ a' w' ⟨j, he⟩).2 j he)⟩
    | _ => exact he

theorem ok_loop {x : Code} {f : CodeF} (hx : CodeOK S g0 m r n cf x f) : CodeOK S g0 m r n cf (.loop x) (sLoop f) := fun N fr a σ g bx res h hv => by
  let go : Nat → List AV → Store → Option Res := fun k => Nat.rec (fun _ _ => none) (fun _ ih fr σ => match f N cf fr σ with
    | some ⟨.normal, fr', σ'⟩ => ih fr' σ'
    | r => r) k
  have hgo : go N fr σ = some res := hv
  refine wpIn_loop_k (fun k a w => ∃ fr σ g bx, w = g.w ∧ St S g0 m fr a σ g bx ∧ go k fr σ = some res) (fun a w ⟨fr, σ, g, bx, _, _, h0⟩ => by cases h0) (fun j a w ⟨fr, σ, g, bx, hw, hst, hj⟩ => ?_) N ⟨fr, σ, g, bx, rfl, h, hgo⟩
  subst hw
  have hj' : (match f N cf fr σ with | some ⟨.normal, fr', σ'⟩ => go j fr' σ' | r => r) = some res := hj
  split at hj'
  · rename_i fr' σ' h1
    refine wpIn_mono (hx N fr a σ g bx _ hst h1) ?_
    rintro e a' w' ⟨rfl, g', bx', rfl, hst'⟩
    exact ⟨fr', σ', g', bx', rfl, hst', hj'⟩
  · rename_i hno
    refine wpIn_mono (hx N fr a σ g bx _ hst hj') ?_
    rintro e a' w' ⟨rfl, g', bx', rfl, hst'⟩
    obtain ⟨re, rfr, rσ⟩ := res
    cases re with
    | normal => exact absurd hj' (hno rfr rσ)
    | exit id => exact ⟨rfl, g', bx', rfl, hst'⟩
    | goto l => exact ⟨rfl, g', bx', rfl, hst'⟩
    | ret => exact ⟨rfl, g', bx', rfl, hst'⟩

/-- A region in the order of its text. -/
theorem ok_region (hcf : CallOK S cf) (hx : ∀ p ∈ m.ext, ExtOK S.P p) (hm : m.ok = true) (hgl : m.globals = S.gl) {id : Nat} {ops : Array Oper} {aops : List AOper} (hc : cOps S.P m ops.toList [] = some aops) :
    CodeOK S g0 m r n cf (.region id ops false) (sRegion (denOps aops)) := fun N fr a σ g bx res h hv => by
  simp only [sRegion] at hv
  split at hv
  case h_2 => cases hv
  rename_i fr' σ' h1
  cases hv
  exact wpIn_region_list (list_text hcf hx hm hgl ops.toList aops [] [] fr a σ g bx h .nil rfl ⟨[], rfl, rfl⟩ hc h1 fun a' g' bx' _ hst => ⟨rfl, g', bx', rfl, hst⟩)

/-! ### Scopes -/
theorem wpIn_scope_k {c : Code} {a : Act} {w : World} (R : Nat → Code → Act → World → Prop) (h0 : ∀ c a w, ¬ R 0 c a w)
    (pass : ∀ j c' a w, R (j + 1) c' a w → c'.wpIn Fence.wide n P (fun e a' w' => match e with
      | .goto l => (∃ rest, findLabel c l = some rest ∧ R j rest a' w') ∨ (findLabel c l = none ∧ Q (.goto l) a' w')
      | e => Q e a' w') a w) : ∀ k, R k c a w → (Code.scope c).wpIn Fence.wide n P Q a w := by
  intro k hk
  rw [wpIn_wide]
  intro b it cs
  have key : ∀ j c' a w, R j c' a w → ∃ e a' w', Q e a' w' ∧ Arrives P (lone (b.at a (.code c' :: .inScope c :: it)) cs w) b it cs e a' w' := by
    intro j
    induction j with
    | zero => intro c' a w hR; exact absurd hR (h0 c' a w)
    | succ j ih =>
      intro c' a w hR
      obtain ⟨e, a₁, w₁, hq, harr⟩ := wpIn_wide.1 (pass j c' a w hR) b (.inScope c :: it) cs
      cases e with
      | normal => exact ⟨.normal, a₁, w₁, hq, Steps.trans harr (.one step_inScope)⟩
      | exit id => exact ⟨.exit id, a₁, w₁, hq, fun k' hk => harr k' (by simp [exitTo, hk])⟩
      | goto l' =>
        rcases hq with ⟨rest, hf, hR'⟩ | ⟨hf, hq⟩
        · obtain ⟨e₂, a₂, w₂, hq₂, harr₂⟩ := ih rest a₁ w₁ hR'
          exact ⟨e₂, a₂, w₂, hq₂, .of_steps (harr _ (by simp [gotoIn, hf])) harr₂⟩
        · exact ⟨.goto l', a₁, w₁, hq, fun k' hk => harr k' (by simp [gotoIn, hf, hk])⟩
      | ret => exact ⟨_, a₁, w₁, hq, harr⟩
      | panic ch => exact ⟨_, a₁, w₁, hq, harr⟩
      | outgrown => exact ⟨_, a₁, w₁, hq, harr⟩
  obtain ⟨e, a', w', hq, harr⟩ := key k c a w hk
  exact ⟨e, a', w', hq, .of_steps (.one step_scope) harr⟩

/-- The rests behind the labels. -/
def LabelsOK (S : Sys) (g0 : G) (m : Meta) (r : Option Nat) (n : Nat) (cf : ACall) (c : Code) (L : List (Nat × CodeF)) : Prop :=
  ∀ l, match findLabel c l with
    | some rest => ∃ f, pickL l L = some f ∧ CodeOK S g0 m r n cf rest f
    | none => pickL l L = none

theorem ok_scope {x : Code} {f : CodeF} {L : List (Nat × CodeF)} (hx : CodeOK S g0 m none n cf x f) (hL : LabelsOK S g0 m none n cf x L) : CodeOK S g0 m none n cf (.scope x) (sScope f L) := fun N fr a σ g bx res h hv => by
  let go : Nat → CodeF → List AV → Store → Option Res := fun k => Nat.rec (fun _ _ _ => none) (fun _ ih c fr σ => match c N cf fr σ with
    | some ⟨.goto l, fr', σ'⟩ => match pickL l L with
      | some rest => ih rest fr' σ'
      | none => some ⟨.goto l, fr', σ'⟩
    | r => r) k
  have hgo : go N f fr σ = some res := hv
  refine wpIn_scope_k (fun k c a w => ∃ q fr σ g bx, CodeOK S g0 m none n cf c q ∧ w = g.w ∧ St S g0 m fr a σ g bx ∧ go k q fr σ = some res) (fun c a w ⟨q, fr, σ, g, bx, _, _, _, h0⟩ => by cases h0)
    (fun j c' a w ⟨q, fr, σ, g, bx, hq, hw, hst, hj⟩ => ?_) N ⟨f, fr, σ, g, bx, hx, rfl, h, hgo⟩
  subst hw
  have hj' : (match q N cf fr σ with
    | some ⟨.goto l, fr', σ'⟩ => match pickL l L with
      | some rest => go j rest fr' σ'
      | none => some ⟨.goto l, fr', σ'⟩
    | r => r) = some res := hj
  split at hj'
  · rename_i l fr' σ' h1
    refine wpIn_mono (hq N fr a σ g bx _ hst h1) ?_
    rintro e a' w' ⟨rfl, g', bx', rfl, hst'⟩
    have hl := hL l
    simp only [exitOf]
    split at hl
    · rename_i rest hf
      obtain ⟨q', hp, hok⟩ := hl
      rw [hp] at hj'
      exact .inl ⟨rest, hf, q', fr', σ', g', bx', hok, rfl, hst', hj'⟩
    · rename_i hf
      rw [hl] at hj'
      cases hj'
      exact .inr ⟨hf, rfl, g', bx', rfl, hst'⟩
  · rename_i hno
    refine wpIn_mono (hq N fr a σ g bx _ hst hj') ?_
    rintro e a' w' ⟨rfl, g', bx', rfl, hst'⟩
    obtain ⟨re, rfr, rσ⟩ := res
    cases re with
    | normal => exact ⟨rfl, g', bx', rfl, hst'⟩
    | exit id => exact ⟨rfl, g', bx', rfl, hst'⟩
    | goto l => exact absurd hj' (hno l rfr rσ)
    | ret => exact ⟨rfl, g', bx', rfl, hst'⟩

end
end Go.Vm

/- A region whose order of evaluation is drawn: words on runs, masks, stores. -/
namespace Go.Vm
open Go

theorem countP_flip (p q : Nat → Bool) (i : Nat) : ∀ (N : Nat), i < N → (∀ j, j ≠ i → p j = q j) → p i = true → q i = false → (List.range N).countP p = (List.range N).countP q + 1
  | 0, h, _, _, _ => by omega
  | N + 1, h, he, hp, hq => by
    rw [List.range_succ, List.countP_append, List.countP_append]
    by_cases e : i = N
    · subst e
      have : (List.range i).countP p = (List.range i).countP q := by
        apply List.countP_congr
        intro j hj
        rw [he j (by simp at hj; omega)]
      simp [this, hp, hq]
    · have ih := countP_flip p q i N (by omega) he hp hq
      have : [N].countP p = [N].countP q := by simp [List.countP_cons, he N (Ne.symm e)]
      omega

theorem countP_same (p q : Nat → Bool) (N : Nat) (h : ∀ j, j < N → p j = q j) : (List.range N).countP p = (List.range N).countP q := by
  apply List.countP_congr
  intro j hj
  rw [h j (by simpa using hj)]

theorem countP_le (p q : Nat → Bool) : ∀ (N : Nat), (∀ j, j < N → p j = true → q j = true) → (List.range N).countP p ≤ (List.range N).countP q
  | 0, _ => by simp
  | N + 1, h => by
    rw [List.range_succ, List.countP_append, List.countP_append]
    have := countP_le p q N fun j hj => h j (by omega)
    have h1 : [N].countP p ≤ [N].countP q := by
      have := h N (by omega)
      simp only [List.countP_cons, List.countP_nil, Nat.zero_add]
      cases hp : p N <;> cases hq : q N <;> simp_all
    omega

theorem countP_below (p : Nat → Bool) (i N : Nat) (h : i ≤ N) : (List.range N).countP (fun j => p j && decide (j < i)) = (List.range i).countP p := by
  induction N with
  | zero => have : i = 0 := by omega
            subst this; rfl
  | succ N ih =>
    by_cases e : i = N + 1
    · subst e
      apply List.countP_congr
      intro j hj
      have hlt : j < N + 1 := by simpa using hj
      simp [hlt]
    · rw [List.range_succ, List.countP_append, ih (by omega)]
      have : ¬ N < i := by omega
      simp [this]

/-! ### Values held against each other -/
theorem eqON_eq : ∀ {a b : Option Nat}, eqON a b = true → a = b
  | none, none, _ => rfl
  | some a, some b, h => by rw [beq_true (a := a) (b := b) h]
  | none, some _, h => by simp [eqON] at h
  | some _, none, h => by simp [eqON] at h
theorem all2_eq {f : AV → AV → Bool} (hf : ∀ a b, f a b = true → a = b) : ∀ {a b : List AV}, all2 f a b = true → a = b
  | [], [], _ => rfl
  | [], _ :: _, h => by simp [all2] at h
  | _ :: _, [], h => by simp [all2] at h
  | x :: xs, y :: ys, h => by
    have h' : cond (f x y) (all2 f xs ys) false = true := h
    cases e : f x y with
    | false => rw [e] at h'; cases h'
    | true =>
      rw [e] at h'
      rw [hf x y e, all2_eq hf h']
theorem cond_tt {x y : Bool} (h : cond x y (!y) = true) : x = y := by cases x <;> cases y <;> simp_all

theorem eqAV_eq : ∀ (n : Nat) (a b : AV), eqAV n a b = true → a = b
  | 0, a, b, h => by cases h
  | n + 1, a, b, h => by
    have ih := eqAV_eq n
    have h' : (match (generalizing := false) a, b with
      | .bool x, .bool y => cond x y (!y)
      | .int k x, .int j y => kindEq k j && ibeq x y
      | .str x, .str y => eqNat x y
      | .nilp, .nilp => true
      | .nils, .nils => true
      | .nilm, .nilm => true
      | .nilf, .nilf => true
      | .nilif, .nilif => true
      | .ptr i o, .ptr j p => Nat.beq i j && Nat.beq o p
      | .sl i o l c e, .sl i' o' l' c' e' => Nat.beq i i' && Nat.beq o o' && Nat.beq l l' && eqON c c' && Nat.beq e e'
      | .map i, .map j => Nat.beq i j
      | .agg x, .agg y => all2 (eqAV n) x y
      | .tup x, .tup y => all2 (eqAV n) x y
      | .lit t cs l c e, .lit t' cs' l' c' e' => cond t t' (!t') && Nat.beq l l' && eqON c c' && Nat.beq e e' && all2 (eqAV n) cs cs'
      | .plit t cs o, .plit t' cs' o' => cond t t' (!t') && Nat.beq o o' && all2 (eqAV n) cs cs'
      | _, _ => false) = true := h
    split at h'
    · rw [cond_tt h']
    · simp only [Bool.and_eq_true] at h'
      have := h'.2
      rw [ibeq_eq] at this
      rw [kindEq_eq h'.1, of_decide_eq_true this]
    · rw [eqNat_eq] at h'
      rw [of_decide_eq_true h']
    · rfl
    · rfl
    · rfl
    · rfl
    · rfl
    · simp only [Bool.and_eq_true] at h'
      rw [beq_true h'.1, beq_true h'.2]
    · simp only [Bool.and_eq_true] at h'
      obtain ⟨⟨⟨⟨h1, h2⟩, h3⟩, h4⟩, h5⟩ := h'
      rw [beq_true h1, beq_true h2, beq_true h3, eqON_eq h4, beq_true h5]
    · rw [beq_true h']
    · rw [all2_eq ih h']
    · rw [all2_eq ih h']
    · simp only [Bool.and_eq_true] at h'
      obtain ⟨⟨⟨⟨h1, h2⟩, h3⟩, h4⟩, h5⟩ := h'
      rw [cond_tt h1, beq_true h2, eqON_eq h3, beq_true h4, all2_eq ih h5]
    · simp only [Bool.and_eq_true] at h'
      obtain ⟨⟨h1, h2⟩, h3⟩ := h'
      rw [cond_tt h1, beq_true h2, all2_eq ih h3]
    · cases h'

/-! ### Operations and the store -/
theorem still_spec {ao : AOp} (hk : (skA ao).isMoves = false) (hr : (skA ao).isReads = false) {cf : ACall} {fr stk fr' : List AV} {σ σ' : Store} {v : AV} (h : opF ao cf fr stk σ = some (v, fr', σ')) :
    fr' = fr ∧ σ' = σ ∧ ∀ τ, opF ao cf fr stk τ = some (v, fr, τ) := by
  cases ao <;> simp only [skA, SK.isMoves, SK.isReads, reduceCtorEq] at hk hr <;> (try (cases hk; done)) <;> (try (cases hr; done)) <;>
    simp only [opF, oMov, oPick, oBuild, oNilc, oBin, oUn, oConvInt, oConvSS, oExtByte, oMkfn, oSlice, oFld, oGetf, oIdxP, oIdxS, oIdxA, oIdxStr, oExt, oLenArr, oMinmax, oSliceData, cond] at h ⊢ <;>
    (repeat' (split at h)) <;> (try (cases h; done)) <;> cases h <;> exact ⟨rfl, rfl, fun τ => by simp [*]⟩

theorem reads_spec {ao : AOp} (hr : (skA ao).isReads = true) {cf : ACall} {fr stk fr' : List AV} {σ σ' : Store} {v : AV} (h : opF ao cf fr stk σ = some (v, fr', σ')) : fr' = fr ∧ σ' = σ := by
  cases ao <;> simp only [skA, SK.isReads, reduceCtorEq] at hr <;> (try (cases hr; done)) <;>
    simp only [opF, oLoad, oEqv, oConvStr, oToUnsafe, oFromUnsafe, oSliceArr, oLookup, oLen, cond] at h <;>
    (repeat' (split at h)) <;> (try (cases h; done)) <;> cases h <;> exact ⟨rfl, rfl⟩

end Go.Vm

/- A region whose order of evaluation is drawn: one operation, in whatever order. -/
namespace Go.Vm
open Go

/-- What the compiler has seen ahead of an operation. -/
def envD (ops : List Oper) (i : Nat) : RE := ((ops.take i).map fun o => (o.dst, EK.val)).reverse

def Closed (ops : List Oper) (L : Nat → Bool) : Prop := ∀ (j : Nat) (o : Oper), ops[j]? = some o → L j = true → ∀ e ∈ o.after.toList, Region.binds .any e = true → L e.on = true

def mvA (a : AOper) : Bool := (skA a.op).isMoves
def mvsOf (as : List AOper) : List Bool := as.map mvA

/-- A run of the machine's, and what the compiler has checked. -/
structure Drawn (S : Sys) (m : Meta) (cf : ACall) (fr0 : List AV) (ops : List Oper) (as : List AOper) (ms : List Nat) (V : Nat → AV) (stk : Nat → List AV) (tsF : List Store) : Prop where
  hlen : as.length = ops.length
  comp : ∀ (j : Nat) (o : Oper), ops[j]? = some o → ∃ a, as[j]? = some a ∧ cOper S.P m (envD ops j) o = some (a, .val) ∧ pubOp a.op = true
  back : ∀ (j : Nat) (o : Oper), ops[j]? = some o → ∀ e ∈ o.after.toList, Region.binds .any e = true → e.on < j
  maskL : ∀ (L : Nat → Bool), Closed ops L → ∀ (j : Nat) (o : Oper), ops[j]? = some o → (∀ e ∈ o.after.toList, Region.binds .any e = true → L e.on = true) → ∀ i, ((ms[j]?).getD 0).testBit i = true → L i = true
  pair : ∀ (i j : Nat) (oi oj : Oper) (ai aj : AOper), i < j → ops[i]? = some oi → ops[j]? = some oj → as[i]? = some ai → as[j]? = some aj → pairOK oi oj (mvA ai) (mvA aj) (((ms[j]?).getD 0).testBit i) = true
  grd : ∀ (j : Nat) (o : Oper), ops[j]? = some o → guardOK o ((ms[j]?).getD 0) = true
  stkV : ∀ (i p : Nat), p < i → i ≤ ops.length → lget (stk i) p = V (i - 1 - p)
  run : ∀ (j : Nat) (a : AOper), as[j]? = some a → ∃ σ, tsF[cntTo (mvsOf as) as.length - cntTo (mvsOf as) j]? = some σ ∧
    ((wantD (stk j) a.guard = some true ∧ ∃ fr' σ', opF a.op cf fr0 (stk j) σ = some (V j, fr', σ') ∧ (mvA a = true → tsF[cntTo (mvsOf as) as.length - cntTo (mvsOf as) (j + 1)]? = some σ')) ∨
     (wantD (stk j) a.guard = some false ∧ V j = .undef ∧ (mvA a = true → tsF[cntTo (mvsOf as) as.length - cntTo (mvsOf as) (j + 1)]? = some σ)))
  chk : ∀ (j : Nat) (a : AOper) (c : Nat), as[j]? = some a → (skA a.op).isReads = true → loOf (mvsOf as) ((ms[j]?).getD 0) ≤ c → c ≤ hiOf (mvsOf as) ms j → wantD (stk j) a.guard = some true →
    ∃ σ, tsF[cntTo (mvsOf as) as.length - c]? = some σ ∧ ∃ fr' σ', opF a.op cf fr0 (stk j) σ = some (V j, fr', σ')

/-- How many moves of the store are done. -/
def cntL (as : List AOper) (L : Nat → Bool) : Nat := (List.range as.length).countP fun j => ((mvsOf as)[j]?).getD false && L j

/-- The state between: these operations are done, in whatever order. -/
structure DJ (S : Sys) (g0 : G) (m : Meta) (fr0 : List AV) (ops : List Oper) (as : List AOper) (V : Nat → AV) (tsF : List Store) (L : Nat → Bool) (a : Act) (g : G) (bx : Nat → Option Nat) (frx : List AV) (σ : Store) : Prop where
  st : St S g0 m frx a σ g bx
  store : tsF[cntTo (mvsOf as) as.length - cntL as L]? = some σ
  closed : Closed ops L
  out : ∀ s, (∀ (j : Nat) (aj : AOper), as[j]? = some aj → L j = true → aj.dst ≠ some s) → lget frx s = lget fr0 s
  in_ : ∀ (j : Nat) (aj : AOper) (s : Nat), as[j]? = some aj → L j = true → aj.dst = some s → lget frx s = V j
  vals : ∀ (j : Nat) (o : Oper) (t : Nat), ops[j]? = some o → L j = true → o.dst = some t → Rep g (V j) (a.tmps.getD t undef)

theorem cOper_parts {P : Program} {m : Meta} {env : RE} {o : Oper} {ao : AOper} {k : EK} (h : cOper P m env o = some (ao, k)) :
    newDst m env o.dst = true ∧ cOp P m env o = some (ao.op, k) ∧ dstOf m k o.dst = some ao.dst ∧ guardOf env o.guard = some ao.guard := by
  unfold cOper at h
  split at h
  · cases h
  rename_i hn
  split at h
  case h_2 => cases h
  rename_i aop k' hc
  split at h
  case h_2 => cases h
  rename_i d gd hd hg
  cases h
  exact ⟨by simpa using hn, hc, hd, hg⟩

theorem envD_get {ops : List Oper} {i p : Nat} {o : Oper} (hp : p < i) (ho : ops[p]? = some o) (hi : i ≤ ops.length) : (envD ops i)[i - 1 - p]? = some (o.dst, .val) := by
  have hl : (ops.take i).length = i := by simp; omega
  unfold envD
  rw [List.getElem?_reverse (by simp; omega)]
  simp only [List.length_map, hl]
  rw [List.getElem?_map, List.getElem?_take, if_pos (by omega), show i - 1 - (i - 1 - p) = p by omega, ho]
  rfl

theorem envD_of {ops : List Oper} {i q : Nat} {x : Option Nat × EK} (hi : i ≤ ops.length) (h : (envD ops i)[q]? = some x) : ∃ p o, p < i ∧ q = i - 1 - p ∧ ops[p]? = some o ∧ x = (o.dst, .val) := by
  have hl : (ops.take i).length = i := by simp; omega
  have hq : q < i := by
    have := (List.getElem?_eq_some_iff.1 h).1
    unfold envD at this
    simp at this; omega
  have ho : ops[i - 1 - q]? = some (ops[i - 1 - q]'(by omega)) := List.getElem?_eq_getElem (by omega)
  have := envD_get (i := i) (p := i - 1 - q) (by omega) ho hi
  rw [show i - 1 - (i - 1 - q) = q by omega, h] at this
  exact ⟨i - 1 - q, _, by omega, by omega, ho, by injection this⟩

theorem envIn_dst {ops : List Oper} {i p t : Nat} {o : Oper} (hp : p < i) (ho : ops[p]? = some o) (hi : i ≤ ops.length) (hd : o.dst = some t) : envIn (envD ops i) t 0 ≠ none := by
  intro h
  have := envIn_none _ _ _ h _ (List.mem_of_getElem? (envD_get hp ho hi))
  exact this hd

theorem pairOK_bit {oi oj : Oper} {mi mj b : Bool} (h : pairOK oi oj mi mj b = true) : b = true ∨ (¬ (mi = true ∧ mj = true) ∧ (∀ t, oi.dst = some t → t ∉ opTmps oj) ∧ (∀ t, oj.dst = some t → t ∉ opTmps oi)) := by
  unfold pairOK at h
  rcases Bool.or_eq_true _ _ ▸ h with h | h
  · exact .inl h
  · right
    simp only [Bool.and_eq_true, Bool.not_eq_true', Bool.and_eq_false_iff] at h
    refine ⟨fun ⟨h1, h2⟩ => ?_, fun t ht hm => ?_, fun t ht hm => ?_⟩
    · rcases h.1.1 with e | e <;> simp_all
    · have := h.1.2
      rw [ht] at this
      simp only [Bool.not_eq_true', List.any_eq_false] at this
      exact this t hm (by simp)
    · have := h.2
      rw [ht] at this
      simp only [Bool.not_eq_true', List.any_eq_false] at this
      exact this t hm (by simp)

theorem mem_opTmps {o : Oper} {t : Nat} (h : Operand.tmp t ∈ o.op.operands.toList) : t ∈ opTmps o :=
  List.mem_filterMap.2 ⟨.tmp t, h, rfl⟩

section
variable {S : Sys} {g0 g : G} {m : Meta} {cf : ACall} {fr0 frx : List AV} {a : Act} {ops : List Oper} {as : List AOper} {ms : List Nat} {V : Nat → AV} {stk : Nat → List AV} {tsF : List Store} {L : Nat → Bool} {bx : Nat → Option Nat} {σ : Store}
  {i : Nat} {o : Oper}

theorem Drawn.as_of (D : Drawn S m cf fr0 ops as ms V stk tsF) {j : Nat} {oj : Oper} (h : ops[j]? = some oj) : ∃ aj, as[j]? = some aj ∧ cOper S.P m (envD ops j) oj = some (aj, .val) ∧ pubOp aj.op = true := D.comp j oj h
theorem Drawn.ops_of (D : Drawn S m cf fr0 ops as ms V stk tsF) {j : Nat} {aj : AOper} (h : as[j]? = some aj) : ∃ oj, ops[j]? = some oj ∧ cOper S.P m (envD ops j) oj = some (aj, .val) ∧ pubOp aj.op = true := by
  have hlt := (List.getElem?_eq_some_iff.1 h).1
  rw [D.hlen] at hlt
  obtain ⟨aj', h1, h2, h3⟩ := D.comp j _ (List.getElem?_eq_getElem hlt)
  rw [h] at h1; cases h1
  exact ⟨_, List.getElem?_eq_getElem hlt, h2, h3⟩

/-- Nobody who must stand behind has been done. -/
theorem Drawn.unbit (D : Drawn S m cf fr0 ops as ms V stk tsF) (J : DJ S g0 m fr0 ops as V tsF L a g bx frx σ) (hun : L i = false) {j : Nat} {oj : Oper} (hj : ops[j]? = some oj) (hL : L j = true) : ((ms[j]?).getD 0).testBit i = false := by
  rw [Bool.eq_false_iff]
  intro hb
  have := D.maskL L J.closed j oj hj (J.closed j oj hj hL) i hb
  rw [hun] at this; cases this

/-- Two operations write no temporary, both. -/
theorem Drawn.dst_ne (D : Drawn S m cf fr0 ops as ms V stk tsF) {p q t : Nat} {op oq : Oper} (hp : ops[p]? = some op) (hq : ops[q]? = some oq) (hpt : op.dst = some t) (hqt : oq.dst = some t) : p = q := by
  have key : ∀ (p q : Nat) (op oq : Oper), p < q → ops[p]? = some op → ops[q]? = some oq → op.dst = some t → oq.dst = some t → False := by
    intro p q op oq hlt hp hq hpt hqt
    obtain ⟨aq, _, hc, _⟩ := D.comp q oq hq
    have hn := (cOper_parts hc).1
    rw [hqt] at hn
    exact envIn_dst hlt hp (Nat.le_of_lt (List.getElem?_eq_some_iff.1 hq).1) hpt (newDst_spec hn).1
  rcases Nat.lt_trichotomy p q with h | h | h
  · exact (key p q op oq h hp hq hpt hqt).elim
  · exact h
  · exact (key q p oq op h hq hp hqt hpt).elim

theorem Drawn.srcs (D : Drawn S m cf fr0 ops as ms V stk tsF) (hgl : m.globals = S.gl) (J : DJ S g0 m fr0 ops as V tsF L a g bx frx σ) (hi : ops[i]? = some o) (hun : L i = false) (hrd : ∀ e ∈ o.after.toList, Region.binds .any e = true → L e.on = true) :
    ORep g m (envD ops i) fr0 (stk i) a o := by
  have hil : i < ops.length := (List.getElem?_eq_some_iff.1 hi).1
  obtain ⟨ai, hai, hci, hpi⟩ := D.as_of hi
  intro x hx s hs
  unfold cSrc at hs
  split at hs
  case h_2 => cases hs
  rename_i s' hs'
  cases hs
  cases x with
  | const v =>
    simp only [cSrcK, Option.map_eq_some_iff, Prod.mk.injEq] at hs'
    obtain ⟨c, hc, rfl, _⟩ := hs'
    exact cVal_rep hc
  | func f =>
    simp only [cSrcK, Option.some.injEq, Prod.mk.injEq] at hs'
    obtain ⟨rfl, _⟩ := hs'
    exact .fn f [] [] #[] #[] rfl rfl (fun i c v hc => by simp at hc) (fun i c v hc => by simp at hc)
  | global gl =>
    simp only [cSrcK] at hs'
    split at hs'
    · rename_i g' cs hf
      simp only [Option.some.injEq, Prod.mk.injEq] at hs'
      obtain ⟨rfl, _⟩ := hs'
      have hmem := List.mem_of_find?_eq_some hf
      have hk : g' = gl := by have := List.find?_some hf; simpa using this
      subst hk
      exact J.st.inv.glob _ (hgl ▸ hmem)
    · cases hs'
  | tmp t =>
    simp only [cSrcK] at hs'
    split at hs'
    · rename_i q k hq
      simp only [Option.some.injEq, Prod.mk.injEq] at hs'
      obtain ⟨rfl, rfl⟩ := hs'
      obtain ⟨_, h2⟩ := envIn_spec _ _ _ _ _ hq
      simp only [Nat.sub_zero] at h2
      obtain ⟨p, op, hp, rfl, hop, hx'⟩ := envD_of (Nat.le_of_lt hil) h2
      have hdst : op.dst = some t := by injection hx' with e _; exact e.symm
      obtain ⟨ap, hap, _, _⟩ := D.as_of hop
      have hbit : ((ms[i]?).getD 0).testBit p = true := by
        rcases pairOK_bit (D.pair p i op o ap ai hp hop hi hap hai) with h | ⟨_, h, _⟩
        · exact h
        · exact absurd (mem_opTmps hx) (h t hdst)
      have hLp := D.maskL L J.closed i o hi hrd p hbit
      show Rep g (lget (stk i) (i - 1 - p)) _
      rw [D.stkV i _ (by omega) (Nat.le_of_lt hil), show i - 1 - (i - 1 - p) = p by omega]
      exact J.vals p op t hop hLp hdst
    · rename_i hnone
      split at hs'
      · rename_i sl hsl
        simp only [Option.some.injEq, Prod.mk.injEq] at hs'
        obtain ⟨rfl, _⟩ := hs'
        show Rep g (lget fr0 sl) _
        rw [← J.out sl]
        · exact J.st.slots t sl hsl
        · intro j aj haj hL hd
          obtain ⟨oj, hoj, hcj, _⟩ := D.ops_of haj
          obtain ⟨hnj, _, hdj, _⟩ := cOper_parts hcj
          rw [hd] at hdj
          -- who writes the slot writes the temporary
          have hdt : oj.dst = some t := by
            cases hod : oj.dst with
            | none => rw [hod] at hdj; simp [dstOf] at hdj
            | some t' =>
              rw [hod] at hdj
              simp only [dstOf] at hdj
              split at hdj
              · rename_i s2 hs2
                cases hdj
                rw [(Meta.slot_inj hs2 hsl).1]
              · cases hdj
              · cases hdj
          rcases Nat.lt_trichotomy j i with hlt | rfl | hlt
          · exact envIn_dst hlt hoj (Nat.le_of_lt hil) hdt hnone
          · rw [hun] at hL; cases hL
          · have hb := D.unbit J hun hoj hL
            rcases pairOK_bit (D.pair i j o oj ai aj hlt hi hoj hai haj) with h | ⟨_, _, h⟩
            · rw [hb] at h; cases h
            · exact h t hdt (mem_opTmps hx)
      · cases hs'
      · cases hs'

/-! ### How many moves are done -/
theorem mvs_get {j : Nat} (h : ((mvsOf as)[j]?).getD false = true) : ∃ aj, as[j]? = some aj ∧ mvA aj = true := by
  simp only [mvsOf, List.getElem?_map] at h
  cases e : as[j]? with
  | none => rw [e] at h; simp at h
  | some aj => rw [e] at h; exact ⟨aj, rfl, by simpa using h⟩
theorem mvs_of {j : Nat} {aj : AOper} (h : as[j]? = some aj) : ((mvsOf as)[j]?).getD false = mvA aj := by
  simp [mvsOf, List.getElem?_map, h]
theorem mvs_length : (mvsOf as).length = as.length := by simp [mvsOf]

theorem Drawn.cnt_moves (D : Drawn S m cf fr0 ops as ms V stk tsF) (J : DJ S g0 m fr0 ops as V tsF L a g bx frx σ) (hi : ops[i]? = some o) (hun : L i = false) (hrd : ∀ e ∈ o.after.toList, Region.binds .any e = true → L e.on = true) {ai : AOper} (hai : as[i]? = some ai) (hmv : mvA ai = true) :
    cntL as L = cntTo (mvsOf as) i := by
  have hil : i < as.length := (List.getElem?_eq_some_iff.1 hai).1
  unfold cntL cntTo
  rw [← countP_below _ i as.length (Nat.le_of_lt hil)]
  refine countP_same _ _ _ fun j hj => ?_
  cases hp : ((mvsOf as)[j]?).getD false with
  | false => simp
  | true =>
    obtain ⟨aj, haj, hmj⟩ := mvs_get hp
    obtain ⟨oj, hoj, _, _⟩ := D.ops_of haj
    simp only [Bool.true_and]
    rcases Nat.lt_trichotomy j i with hlt | rfl | hlt
    · have hb : ((ms[i]?).getD 0).testBit j = true := by
        rcases pairOK_bit (D.pair j i oj o aj ai hlt hoj hi haj hai) with h | ⟨h, _, _⟩
        · exact h
        · exact absurd ⟨hmj, hmv⟩ h
      rw [D.maskL L J.closed i o hi hrd j hb]
      simp [hlt]
    · rw [hun]; simp
    · have : ¬ j < i := by omega
      simp only [this, decide_false]
      rw [Bool.eq_false_iff]
      intro hL
      have hb := D.unbit J hun hoj hL
      rcases pairOK_bit (D.pair i j o oj ai aj hlt hi hoj hai haj) with h | ⟨h, _, _⟩
      · rw [hb] at h; cases h
      · exact h ⟨hmv, hmj⟩

theorem Drawn.cnt_lo (D : Drawn S m cf fr0 ops as ms V stk tsF) (J : DJ S g0 m fr0 ops as V tsF L a g bx frx σ) (hi : ops[i]? = some o) (hrd : ∀ e ∈ o.after.toList, Region.binds .any e = true → L e.on = true) :
    loOf (mvsOf as) ((ms[i]?).getD 0) ≤ cntL as L := by
  unfold loOf cntL
  rw [mvs_length]
  refine countP_le _ _ _ fun j _ h => ?_
  simp only [Bool.and_eq_true] at h ⊢
  exact ⟨h.1, D.maskL L J.closed i o hi hrd j h.2⟩

theorem Drawn.cnt_hi (D : Drawn S m cf fr0 ops as ms V stk tsF) (J : DJ S g0 m fr0 ops as V tsF L a g bx frx σ) (hun : L i = false) : cntL as L ≤ hiOf (mvsOf as) ms i := by
  unfold hiOf cntL
  rw [mvs_length]
  refine countP_le _ _ _ fun j _ h => ?_
  simp only [Bool.and_eq_true, Bool.not_eq_true'] at h ⊢
  refine ⟨h.1, ?_⟩
  obtain ⟨aj, haj, _⟩ := mvs_get h.1
  obtain ⟨oj, hoj, _, _⟩ := D.ops_of haj
  exact D.unbit J hun hoj h.2

/-- One more. -/
def plus (L : Nat → Bool) (i : Nat) : Nat → Bool := fun j => if j = i then true else L j
theorem plus_self (L : Nat → Bool) (i : Nat) : plus L i i = true := by simp [plus]
theorem plus_ne {j : Nat} (h : j ≠ i) : plus L i j = L j := by simp [plus, h]
theorem plus_of {j : Nat} (h : L j = true) : plus L i j = true := by unfold plus; split <;> simp [h]

theorem cntL_moves (hun : L i = false) {ai : AOper} (hai : as[i]? = some ai) (hmv : mvA ai = true) : cntL as (plus L i) = cntL as L + 1 := by
  have hil : i < as.length := (List.getElem?_eq_some_iff.1 hai).1
  refine countP_flip _ _ i as.length hil (fun j hj => by rw [plus_ne hj]) ?_ ?_
  · rw [mvs_of hai, hmv, plus_self]; rfl
  · rw [hun]; simp
theorem cntL_still {ai : AOper} (hai : as[i]? = some ai) (hmv : mvA ai = false) : cntL as (plus L i) = cntL as L := by
  refine countP_same _ _ _ fun j _ => ?_
  by_cases e : j = i
  · subst e; rw [mvs_of hai, hmv]; rfl
  · rw [plus_ne e]
theorem cntTo_succ (j : Nat) {aj : AOper} (haj : as[j]? = some aj) : cntTo (mvsOf as) (j + 1) = cntTo (mvsOf as) j + if mvA aj then 1 else 0 := by
  unfold cntTo
  rw [List.range_succ, List.countP_append]
  simp only [List.countP_cons, List.countP_nil, Nat.zero_add, mvs_of haj]

/-! ### The state behind one more operation -/
theorem Drawn.put (D : Drawn S m cf fr0 ops as ms V stk tsF) (hm : m.ok = true) (J : DJ S g0 m fr0 ops as V tsF L a g bx frx σ) (hi : ops[i]? = some o) (hrd : ∀ e ∈ o.after.toList, Region.binds .any e = true → L e.on = true) {ai : AOper} (hai : as[i]? = some ai)
    {g' : G} {σ' : Store} {cv : Value} (hst : St S g0 m frx a σ' g' bx) (hmono : Mono g g') (hrep : Rep g' (V i) cv) (hstore : tsF[cntTo (mvsOf as) as.length - cntL as (plus L i)]? = some σ') :
    DJ S g0 m fr0 ops as V tsF (plus L i) (a.put o.dst cv) g' bx (putFr frx (V i) ai.dst) σ' := by
  obtain ⟨ai', hai', hci, _⟩ := D.as_of hi
  rw [hai] at hai'; cases hai'
  obtain ⟨hn, _, hd, _⟩ := cOper_parts hci
  have hn0 : newDst m [] o.dst = true := by
    cases hod : o.dst with
    | none => rfl
    | some t =>
      rw [hod] at hn
      have := (newDst_spec hn).2
      simp [newDst, envIn, nblt, this]
  obtain ⟨h1, _⟩ := put_val (env := []) (stk := []) hm hst .nil hn0 hrep hd
  -- who writes a slot writes its temporary
  have hslot : ∀ (j : Nat) (aj : AOper) (s : Nat), as[j]? = some aj → aj.dst = some s → ∃ oj t, ops[j]? = some oj ∧ oj.dst = some t ∧ m.slot t = some (s, false) := by
    intro j aj s haj hds
    obtain ⟨oj, hoj, hcj, _⟩ := D.ops_of haj
    have hdj := (cOper_parts hcj).2.2.1
    rw [hds] at hdj
    cases hod : oj.dst with
    | none => rw [hod] at hdj; simp [dstOf] at hdj
    | some t' =>
      rw [hod] at hdj
      simp only [dstOf] at hdj
      split at hdj
      · rename_i s2 hs2
        cases hdj
        exact ⟨oj, t', hoj, hod, hs2⟩
      · cases hdj
      · cases hdj
  refine ⟨h1, hstore, ?_, ?_, ?_, ?_⟩
  · intro j oj hoj hL e he hb
    by_cases hji : j = i
    · subst hji
      rw [hi] at hoj; cases hoj
      exact plus_of (hrd e he hb)
    · rw [plus_ne hji] at hL
      exact plus_of (J.closed j oj hoj hL e he hb)
  · intro s hs
    have hne : ai.dst ≠ some s := hs i ai hai (plus_self _ _)
    have hold := J.out s fun j aj haj hL => hs j aj haj (plus_of hL)
    cases hdd : ai.dst with
    | none => exact hold
    | some s' =>
      show lget (lset frx s' (V i)) s = _
      rw [lget_lset_ne _ (fun e => hne (by rw [hdd, e]))]
      exact hold
  · intro j aj s haj hL hds
    by_cases hji : j = i
    · subst hji
      rw [hai] at haj; cases haj
      rw [hds]
      obtain ⟨_, t, _, _, hs⟩ := hslot j ai s hai hds
      exact lget_lset_self _ (by rw [J.st.frl]; exact Meta.slot_lt hs)
    · rw [plus_ne hji] at hL
      have hold := J.in_ j aj s haj hL hds
      cases hdd : ai.dst with
      | none => exact hold
      | some s' =>
        show lget (lset frx s' (V i)) s = _
        rw [lget_lset_ne _ ?_]
        · exact hold
        · intro e
          subst e
          obtain ⟨oj, t, hoj, hot, hs⟩ := hslot j aj s' haj hds
          obtain ⟨oi, t', hoi, hit, hs'⟩ := hslot i ai s' hai hdd
          have := (Meta.slot_inj hs hs').1
          subst this
          exact hji (D.dst_ne hoj hoi hot hit)
  · intro j oj t hoj hL hot
    by_cases hji : j = i
    · subst hji
      rw [hi] at hoj; cases hoj
      rw [hot] at hn ⊢
      show Rep g' (V j) ((a.tmps.setIfInBounds t cv).getD t undef)
      rw [getD_set_self cv (by rw [hst.size]; exact (newDst_spec hn).2)]
      exact hrep
    · rw [plus_ne hji] at hL
      have hold := (J.vals j oj t hoj hL hot).mono hmono
      cases hod : o.dst with
      | none => exact hold
      | some t' =>
        show Rep g' (V j) ((a.tmps.setIfInBounds t' cv).getD t undef)
        rw [getD_set_ne cv fun e => hji (by subst e; exact D.dst_ne hoj hi hot hod)]
        exact hold

/-! ### Guards -/
theorem Drawn.wanted (D : Drawn S m cf fr0 ops as ms V stk tsF) (J : DJ S g0 m fr0 ops as V tsF L a g bx frx σ) (hi : ops[i]? = some o) (hrd : ∀ e ∈ o.after.toList, Region.binds .any e = true → L e.on = true) {ai : AOper} (hai : as[i]? = some ai) {opsA : Array Oper} (hA : opsA.toList = ops) {b : Bool}
    (hw : wantD (stk i) ai.guard = some b) : Region.wanted o (yielded opsA a.tmps) = b := by
  have hil : i < ops.length := (List.getElem?_eq_some_iff.1 hi).1
  obtain ⟨ai', hai', hci, _⟩ := D.as_of hi
  rw [hai] at hai'; cases hai'
  have hg := (cOper_parts hci).2.2.2
  have hmask := D.grd i o hi
  cases hog : o.guard with
  | none =>
    rw [hog] at hg
    simp only [guardOf, Option.some.injEq] at hg
    rw [← hg] at hw
    simp only [wantD, Option.some.injEq] at hw
    subst hw
    simp [Region.wanted, hog]
  | some jb =>
    obtain ⟨j, b0⟩ := jb
    have hlen : (envD ops i).length = i := by unfold envD; simp; omega
    rw [hog] at hg
    unfold guardOf at hg
    split at hg
    · cases ‹some (j, b0) = none›
    rename_i j' b' e
    cases e
    rw [nblt, hlen] at hg
    split at hg
    case isFalse => cases hg
    rename_i hlt
    have hlt := of_decide_eq_true hlt
    split at hg
    case h_2 => cases hg
    rename_i t henv
    have hgd : ai.guard = some (i - 1 - j, b0) := by injection hg with e; exact e.symm
    obtain ⟨p, op, hp, hq, hop, hx⟩ := envD_of (Nat.le_of_lt hil) henv
    have hpj : p = j := by omega
    subst hpj
    have hdst : op.dst = some t := by injection hx with e _; exact e.symm
    simp only [guardOK, hog] at hmask
    have hLp := D.maskL L J.closed i o hi hrd p hmask
    have hr := J.vals p op t hop hLp hdst
    rw [hgd] at hw
    simp only [wantD] at hw
    rw [D.stkV i _ (by omega) (Nat.le_of_lt hil), show i - 1 - (i - 1 - p) = p by omega] at hw
    have hopA : (opsA[p]?).bind (·.dst) = some t := by
      rw [← Array.getElem?_toList, hA, hop]; exact hdst
    have hyl : ∀ q, a.tmps.getD t undef = q → yielded opsA a.tmps p = (match q with | .bool b => some b | _ => none) := by
      intro q hq
      unfold yielded
      rw [hopA]
      simp only [Option.bind_some]
      rw [Array.getD_eq_getD_getElem?] at hq
      cases ht : a.tmps[t]? with
      | none =>
        rw [ht] at hq
        subst hq
        rfl
      | some u =>
        rw [ht] at hq
        simp only [Option.getD_some] at hq
        subst hq
        cases u <;> rfl
    simp only [Region.wanted, hog]
    split at hw
    · rename_i c hc
      rw [hc] at hr
      generalize hq : a.tmps.getD t undef = q at hr
      cases hr
      rw [hyl _ hq]
      simp only [Option.some.injEq] at hw
      subst hw
      cases c <;> cases b0 <;> rfl
    · rename_i hc
      rw [hc] at hr
      generalize hq : a.tmps.getD t undef = q at hr
      cases hr
      rw [hyl _ hq]
      simp only [Option.some.injEq] at hw
      subst hw
      rfl
    · cases hw

/-- One operation that may come next. -/
theorem Drawn.step (D : Drawn S m cf fr0 ops as ms V stk tsF) (hcf : CallOK S cf) (hx : ∀ p ∈ m.ext, ExtOK S.P p) (hm : m.ok = true) (hgl : m.globals = S.gl) (J : DJ S g0 m fr0 ops as V tsF L a g bx frx σ) (hi : ops[i]? = some o) (hun : L i = false)
    (hrd : ∀ e ∈ o.after.toList, Region.binds .any e = true → L e.on = true) {opsA : Array Oper} (hA : opsA.toList = ops) {r : Option Nat} {n : Nat} {K : Act → World → Prop} {Q : Exit → Act → World → Prop}
    (hK : ∀ a' g' frx' σ', DJ S g0 m fr0 ops as V tsF (plus L i) a' g' bx frx' σ' → K a' g'.w) : wpOpIn (Fr r) n S.P opsA Q i K a g.w := by
  obtain ⟨ai, hai, hci, hpi⟩ := D.as_of hi
  obtain ⟨_, hcop, _, _⟩ := cOper_parts hci
  have hiA : opsA[i]? = some o := by rw [← Array.getElem?_toList, hA]; exact hi
  obtain ⟨σr, hσr, hrun⟩ := D.run i ai hai
  have hore := D.srcs hgl J hi hun hrd
  unfold wpOpIn
  rw [hiA]
  simp only
  rcases hrun with ⟨hw, fr', σ', hop, hmvs⟩ | ⟨hw, hv, hmvs⟩
  · rw [if_pos (D.wanted J hi hrd hai hA hw)]
    -- the operation at the store that is
    obtain ⟨fr2, σ2, hop2, hst2⟩ : ∃ fr2 σ2, opF ai.op cf fr0 (stk i) σ = some (V i, fr2, σ2) ∧ tsF[cntTo (mvsOf as) as.length - cntL as (plus L i)]? = some σ2 := by
      cases hmv : mvA ai with
      | true =>
        have hc := D.cnt_moves J hi hun hrd hai hmv
        have : σ = σr := by
          have h1 := J.store
          rw [hc, hσr] at h1
          cases h1; rfl
        subst this
        refine ⟨fr', σ', hop, ?_⟩
        rw [cntL_moves hun hai hmv, hc]
        have := hmvs hmv
        rw [cntTo_succ i hai, hmv] at this
        exact this
      | false =>
        rw [cntL_still hai hmv]
        cases hrk : (skA ai.op).isReads with
        | true =>
          obtain ⟨σ3, h3, fr3, σ4, h4⟩ := D.chk i ai (cntL as L) hai hrk (D.cnt_lo J hi hrd) (D.cnt_hi J hun) hw
          have : σ = σ3 := by
            have h1 := J.store
            rw [h3] at h1
            cases h1; rfl
          subst this
          obtain ⟨_, rfl⟩ := reads_spec hrk h4
          exact ⟨fr3, _, h4, J.store⟩
        | false =>
          obtain ⟨_, _, hall⟩ := still_spec hmv hrk hop
          exact ⟨fr0, σ, hall σ, J.store⟩
    obtain ⟨rfl, _, hwp⟩ := op_pub_wp (next := K) (Q := Q) (r := r) (n := n) hcf hx J.st hore hcop (fun _ => hpi) hop2
    refine hwp fun cv g' hst hext hrep => ?_
    exact hK _ g' _ _ (D.put hm J hi hrd hai hst (hext.mono J.st.inv) hrep hst2)
  · rw [if_neg (by rw [D.wanted J hi hrd hai hA hw]; simp)]
    refine ⟨fun _ _ => trivial, ?_⟩
    have hmono : Mono g g := (Ext.refl g).mono J.st.inv
    refine hK _ g _ _ (D.put hm J hi hrd hai J.st hmono (by rw [hv]; exact .undef) ?_)
    cases hmv : mvA ai with
    | true =>
      have hc := D.cnt_moves J hi hun hrd hai hmv
      have : σ = σr := by
        have h1 := J.store
        rw [hc, hσr] at h1
        cases h1; rfl
      subst this
      rw [cntL_moves hun hai hmv, hc]
      have := hmvs hmv
      rw [cntTo_succ i hai, hmv] at this
      exact this
    | false =>
      rw [cntL_still hai hmv]
      exact J.store

end
end Go.Vm

/- A region whose order of evaluation is drawn: all orders; the run of the machine's. -/
namespace Go.Vm
open Go
variable {S : Sys}

/-! ### What the compiler has checked -/
theorem cOpsD_spec {P : Program} {m : Meta} : ∀ (r : List Oper) (env : RE) (as : List AOper), cOpsD P m r env = some as →
    as.length = r.length ∧ ∀ (j : Nat) (o : Oper), r[j]? = some o → ∃ a, as[j]? = some a ∧ cOper P m (envD r j ++ env) o = some (a, .val) ∧ pubOp a.op = true
  | [], env, as, h => by
    simp only [cOpsD, Option.some.injEq] at h
    subst h
    exact ⟨rfl, fun j o h => by simp at h⟩
  | o :: r, env, as, h => by
    unfold cOpsD at h
    split at h
    case h_2 => cases h
    rename_i a ha
    split at h
    case isFalse => cases h
    rename_i hp
    split at h
    case h_2 => cases h
    rename_i rs hrs
    cases h
    obtain ⟨h1, h2⟩ := cOpsD_spec r _ rs hrs
    refine ⟨by simp [h1], fun j o' ho' => ?_⟩
    cases j with
    | zero =>
      simp only [List.getElem?_cons_zero, Option.some.injEq] at ho'
      subst ho'
      exact ⟨a, rfl, by simpa [envD] using ha, hp⟩
    | succ j =>
      obtain ⟨a', k1, k2, k3⟩ := h2 j o' (by simpa using ho')
      refine ⟨a', by simpa using k1, ?_, k3⟩
      have : envD (o :: r) (j + 1) ++ env = envD r j ++ (o.dst, .val) :: env := by simp [envD]
      rw [this]
      exact k2

theorem masks_spec : ∀ (r : List Oper) (ms : List Nat), (masks r ms).length = ms.length + r.length ∧ (masks r ms).take ms.length = ms ∧
    ∀ (j : Nat) (o : Oper), r[j]? = some o → (masks r ms)[ms.length + j]? = some (maskOf ((masks r ms).take (ms.length + j)) o)
  | [], ms => ⟨by simp [masks], by simp [masks], fun j o h => by simp at h⟩
  | o :: r, ms => by
    obtain ⟨h1, h2, h3⟩ := masks_spec r (ms ++ [maskOf ms o])
    have h2' : (masks (o :: r) ms).take ms.length = ms := by
      have := congrArg (List.take ms.length) h2
      rw [List.take_take] at this
      simpa [masks] using this
    refine ⟨by simp [masks, h1]; omega, h2', fun j o' ho' => ?_⟩
    cases j with
    | zero =>
      simp only [List.getElem?_cons_zero, Option.some.injEq] at ho'
      subst ho'
      rw [Nat.add_zero, h2']
      have := congrArg (fun l => l[ms.length]?) h2
      simp only [List.getElem?_take] at this
      rw [if_pos (by simp)] at this
      simp only [masks]
      rw [this]
      simp
    | succ j =>
      have := h3 j o' (by simpa using ho')
      simp only [List.length_append, List.length_cons, List.length_nil, Nat.zero_add] at this
      rw [show ms.length + (j + 1) = ms.length + 1 + j by omega]
      exact this

theorem maskOf_bit {ms : List Nat} {o : Oper} {i : Nat} (h : (maskOf ms o).testBit i = true) : ∃ e ∈ o.after.toList, Region.binds .any e = true ∧ (i = e.on ∨ ((ms[e.on]?).getD 0).testBit i = true) := by
  have key : ∀ (l : List Edge) (s : Nat), (l.foldl (fun s e => if Region.binds .any e then s ||| (2 ^ e.on ||| (ms[e.on]?).getD 0) else s) s).testBit i = true → s.testBit i = true ∨ ∃ e ∈ l, Region.binds .any e = true ∧ (i = e.on ∨ ((ms[e.on]?).getD 0).testBit i = true) := by
    intro l
    induction l with
    | nil => intro s h; exact .inl h
    | cons e l ih =>
      intro s h
      rw [List.foldl_cons] at h
      rcases ih _ h with h | ⟨e', he', h1, h2⟩
      · split at h
        · rename_i hb
          rw [Nat.testBit_or, Nat.testBit_or] at h
          simp only [Bool.or_eq_true, Nat.testBit_two_pow] at h
          rcases h with h | h | h
          · exact .inl h
          · exact .inr ⟨e, by simp, hb, .inl (by simpa using (of_decide_eq_true h).symm)⟩
          · exact .inr ⟨e, by simp, hb, .inr h⟩
        · exact .inl h
      · exact .inr ⟨e', by simp [he'], h1, h2⟩
  rcases key _ 0 h with h | h
  · simp at h
  · exact h

theorem mask_listed {ops : List Oper} (hback : ∀ (j : Nat) (o : Oper), ops[j]? = some o → ∀ e ∈ o.after.toList, Region.binds .any e = true → e.on < j) {L : Nat → Bool} (hcl : Closed ops L) : ∀ (j : Nat) (o : Oper), ops[j]? = some o →
    (∀ e ∈ o.after.toList, Region.binds .any e = true → L e.on = true) → ∀ i, (((masks ops [])[j]?).getD 0).testBit i = true → L i = true := by
  intro j
  induction j using Nat.strongRecOn with
  | _ j ih =>
    intro o ho hL i hb
    obtain ⟨_, _, h3⟩ := masks_spec ops []
    have := h3 j o ho
    simp only [List.length_nil, Nat.zero_add] at this
    rw [this] at hb
    obtain ⟨e, he, hbd, hcase⟩ := maskOf_bit hb
    rcases hcase with rfl | hcase
    · exact hL e he hbd
    · have hlt := hback j o ho e he hbd
      have hjl : j < ops.length := (List.getElem?_eq_some_iff.1 ho).1
      rw [List.getElem?_take, if_pos hlt] at hcase
      have ho' : ops[e.on]? = some (ops[e.on]'(by omega)) := List.getElem?_eq_getElem (by omega)
      exact ih e.on hlt _ ho' (hcl e.on _ ho' (hL e he hbd)) i hcase

theorem pairsOK_spec {oj : Oper} {mj : Bool} {mask : Nat} : ∀ (l : List (Oper × Bool)) (n : Nat), pairsOK oj mj mask l n = true → ∀ (i : Nat) (oi : Oper) (mi : Bool), l[i]? = some (oi, mi) → pairOK oi oj mi mj (mask.testBit (n + i)) = true
  | [], n, _, i, oi, mi, h => by simp at h
  | (o, m) :: l, n, h, i, oi, mi, hi => by
    simp only [pairsOK, Bool.and_eq_true] at h
    cases i with
    | zero => simp at hi; obtain ⟨rfl, rfl⟩ := hi; exact h.1
    | succ i =>
      have := pairsOK_spec l (n + 1) h.2 i oi mi (by simpa using hi)
      rw [show n + (i + 1) = n + 1 + i by omega]
      exact this

theorem drawOK_spec : ∀ (l : List (Oper × Bool × Nat)) (pre : List (Oper × Bool)), drawOK l pre = true → ∀ (j : Nat) (o : Oper) (mv : Bool) (mask : Nat), l[j]? = some (o, mv, mask) →
    edgesBack o (pre.length + j) = true ∧ guardOK o mask = true ∧ ∀ (i : Nat) (oi : Oper) (mi : Bool), i < pre.length + j → (pre ++ l.map fun x => (x.1, x.2.1))[i]? = some (oi, mi) → pairOK oi o mi mv (mask.testBit i) = true
  | [], pre, _, j, o, mv, mask, h => by simp at h
  | (o0, m0, k0) :: l, pre, h, j, o, mv, mask, hj => by
    simp only [drawOK, Bool.and_eq_true] at h
    obtain ⟨⟨⟨h1, h2⟩, h3⟩, h4⟩ := h
    cases j with
    | zero =>
      simp at hj
      obtain ⟨rfl, rfl, rfl⟩ := hj
      refine ⟨h1, h2, fun i oi mi hi ho => ?_⟩
      have := pairsOK_spec pre 0 h3 i oi mi (by rw [List.getElem?_append_left (by omega)] at ho; exact ho)
      rwa [Nat.zero_add] at this
    | succ j =>
      obtain ⟨k1, k2, k3⟩ := drawOK_spec l _ h4 j o mv mask (by simpa using hj)
      simp only [List.length_append, List.length_cons, List.length_nil, Nat.zero_add] at k1 k3
      rw [show pre.length + (j + 1) = pre.length + 1 + j by omega]
      exact ⟨k1, k2, fun i oi mi hi ho => k3 i oi mi hi (by simpa using ho)⟩

/-! ### The run -/
theorem denD_spec : ∀ (ds : List DOper) (cf : ACall) (fr env : List AV) (ts : List Store) (envF : List AV) (tsF : List Store), denD ds cf fr env ts = some (envF, tsF) →
    ∃ (stk : Nat → List AV) (T : Nat → List Store) (V : Nat → AV), stk 0 = env ∧ T 0 = ts ∧ stk ds.length = envF ∧ T ds.length = tsF ∧ ∀ (j : Nat) (d : DOper), ds[j]? = some d → ∃ σ r, stk (j + 1) = V j :: stk j ∧ T j = σ :: r ∧
      ((wantD (stk j) d.guard = some true ∧ ∃ fr' σ', opF d.op cf fr (stk j) σ = some (V j, fr', σ') ∧ T (j + 1) = cond d.moves (σ' :: σ :: r) (σ :: r)) ∨
       (wantD (stk j) d.guard = some false ∧ V j = .undef ∧ T (j + 1) = cond d.moves (σ :: σ :: r) (σ :: r)))
  | [], cf, fr, env, ts, envF, tsF, h => by
    have h' : some (env, ts) = some (envF, tsF) := h
    cases h'
    exact ⟨fun _ => env, fun _ => ts, fun _ => .undef, rfl, rfl, rfl, rfl, fun j d h => by simp at h⟩
  | ⟨op, gd, mv⟩ :: ds, cf, fr, env, ts, envF, tsF, h => by
    -- what the first one does
    have key : ∃ σ r v ts', ts = σ :: r ∧ denD ds cf fr (v :: env) ts' = some (envF, tsF) ∧
        ((wantD env gd = some true ∧ ∃ fr' σ', opF op cf fr env σ = some (v, fr', σ') ∧ ts' = cond mv (σ' :: σ :: r) (σ :: r)) ∨
         (wantD env gd = some false ∧ v = .undef ∧ ts' = cond mv (σ :: σ :: r) (σ :: r))) := by
      have hop : ∀ (w : wantD env gd = some true), dOp (opF op) mv (denD ds) cf fr env ts = some (envF, tsF) → ∃ σ r v ts', ts = σ :: r ∧ denD ds cf fr (v :: env) ts' = some (envF, tsF) ∧
          ((wantD env gd = some true ∧ ∃ fr' σ', opF op cf fr env σ = some (v, fr', σ') ∧ ts' = cond mv (σ' :: σ :: r) (σ :: r)) ∨
           (wantD env gd = some false ∧ v = .undef ∧ ts' = cond mv (σ :: σ :: r) (σ :: r))) := by
        intro w h
        simp only [dOp] at h
        split at h
        case h_2 => cases h
        rename_i σ r _
        split at h
        case h_2 => cases h
        rename_i v fr' σ' ho
        exact ⟨σ, r, v, _, rfl, h, .inl ⟨w, fr', σ', ho, rfl⟩⟩
      cases gd with
      | none => exact hop rfl h
      | some g =>
        have h' : dGuard (some g) (dOp (opF op) mv (denD ds)) (dSkip mv (denD ds)) cf fr env ts = some (envF, tsF) := h
        simp only [dGuard] at h'
        split at h'
        · rename_i hw; exact hop hw h'
        · rename_i hw
          simp only [dSkip] at h'
          split at h'
          case h_2 => cases h'
          rename_i x σ r
          exact ⟨σ, r, _, _, rfl, h', .inr ⟨hw, rfl, rfl⟩⟩
        · cases h'
    obtain ⟨σ, r, v, ts', rfl, hrest, hcase⟩ := key
    obtain ⟨stk, T, V, h1, h2, h3, h4, h5⟩ := denD_spec ds cf fr (v :: env) ts' envF tsF hrest
    refine ⟨fun j => match j with | 0 => env | j + 1 => stk j, fun j => match j with | 0 => σ :: r | j + 1 => T j, fun j => match j with | 0 => v | j + 1 => V j, rfl, rfl, h3, h4, fun j d hd => ?_⟩
    cases j with
    | zero =>
      simp at hd
      subst hd
      exact ⟨σ, r, h1, rfl, by rw [show (fun j => match j with | 0 => σ :: r | j + 1 => T j) (0 + 1) = ts' from h2]; exact hcase⟩
    | succ j => exact h5 j d (by simpa using hd)

/-- Where the stores of a run lie. -/
theorem trace_at {N : Nat} {stk : Nat → List AV} {T : Nat → List Store} {V : Nat → AV} {mv : Nat → Bool} (h0 : stk 0 = []) (σ0 : Store) (hT0 : T 0 = [σ0]) (hs : ∀ j, j < N → stk (j + 1) = V j :: stk j)
    (hT : ∀ j, j < N → ∃ x, T (j + 1) = cond (mv j) (x :: T j) (T j)) :
    (∀ i, i ≤ N → (stk i).length = i ∧ stk i = (stk N).drop (N - i) ∧ ∀ p, p < i → lget (stk i) p = V (i - 1 - p)) ∧
    (∀ i, i ≤ N → (T i).length = (List.range i).countP mv + 1 ∧ T i = (T N).drop ((List.range N).countP mv - (List.range i).countP mv)) := by
  have a1 : ∀ i, i ≤ N → (stk i).length = i ∧ ∀ p, p < i → lget (stk i) p = V (i - 1 - p) := by
    intro i
    induction i with
    | zero => intro _; exact ⟨by rw [h0]; rfl, fun p hp => by omega⟩
    | succ i ih =>
      intro hi
      obtain ⟨k1, k2⟩ := ih (by omega)
      rw [hs i (by omega)]
      refine ⟨by simp [k1], fun p hp => ?_⟩
      cases p with
      | zero => simp
      | succ p => rw [lget_succ, k2 p (by omega), show i + 1 - 1 - (p + 1) = i - 1 - p by omega]
  have a2 : ∀ d i, i + d = N → stk i = (stk N).drop d := by
    intro d
    induction d with
    | zero => intro i hi; have : i = N := by omega
              subst this; simp
    | succ d ih =>
      intro i hi
      have h1 := ih (i + 1) (by omega)
      rw [hs i (by omega)] at h1
      have : stk i = (V i :: stk i).drop 1 := rfl
      rw [this, h1, List.drop_drop]
  have b1 : ∀ i, i ≤ N → (T i).length = (List.range i).countP mv + 1 := by
    intro i
    induction i with
    | zero => intro _; rw [hT0]; rfl
    | succ i ih =>
      intro hi
      obtain ⟨x, hx⟩ := hT i (by omega)
      rw [hx, List.range_succ, List.countP_append]
      cases hm : mv i <;> simp [hm, ih (by omega)]
  have b2 : ∀ d i, i + d = N → T i = (T N).drop ((List.range N).countP mv - (List.range i).countP mv) := by
    intro d
    induction d with
    | zero => intro i hi; have : i = N := by omega
              subst this; simp
    | succ d ih =>
      intro i hi
      have h1 := ih (i + 1) (by omega)
      obtain ⟨x, hx⟩ := hT i (by omega)
      have hle : (List.range (i + 1)).countP mv ≤ (List.range N).countP mv := by
        have := countP_below mv (i + 1) N (by omega)
        rw [← this]
        exact countP_le _ _ _ fun j _ h => by simp only [Bool.and_eq_true] at h; exact h.1
      rw [List.range_succ, List.countP_append] at h1 hle
      cases hm : mv i with
      | false =>
        rw [hx, hm] at h1
        simp only [cond_false, List.countP_cons, List.countP_nil, hm, Bool.false_eq_true, if_false, Nat.add_zero] at h1
        exact h1
      | true =>
        rw [hx, hm] at h1
        simp only [cond_true, List.countP_cons, List.countP_nil, hm, if_true, Nat.zero_add] at h1 hle
        have : T i = (x :: T i).drop 1 := rfl
        rw [this, h1, List.drop_drop]
        congr 1
        omega
  exact ⟨fun i hi => ⟨(a1 i hi).1, by have := a2 (N - i) i (by omega); exact this, (a1 i hi).2⟩, fun i hi => ⟨b1 i hi, b2 (N - i) i (by omega)⟩⟩

theorem nthS_eq : ∀ (ts : List Store) (n : Nat), nthS ts n = ts[n]?
  | [], n => by simp [nthS]
  | x :: ts, 0 => rfl
  | x :: ts, n + 1 => by
    show nthS ts n = _
    rw [nthS_eq ts n]; rfl

theorem chkAt_spec {f : OpF} {cf : ACall} {fr env : List AV} {v : AV} {ts : List Store} : ∀ (l : List Nat), chkAt f cf fr env v ts l = true → ∀ c ∈ l, ∃ σ, ts[c]? = some σ ∧ ∃ fr' σ', f cf fr env σ = some (v, fr', σ')
  | [], _, c, hc => by simp at hc
  | x :: l, h, c, hc => by
    have h' : (match nthS ts x with
      | some σ => match f cf fr env σ with
        | some (v', _, _) => cond (eqAV 8 v' v) (chkAt f cf fr env v ts l) false
        | none => false
      | none => false) = true := h
    split at h'
    case h_2 => cases h'
    rename_i σ hσ
    split at h'
    case h_2 => cases h'
    rename_i v' fr' σ' ho
    cases he : eqAV 8 v' v with
    | false => rw [he] at h'; cases h'
    | true =>
      rw [he, cond_true] at h'
      rcases List.mem_cons.1 hc with rfl | hc
      · rw [nthS_eq] at hσ
        exact ⟨σ, hσ, fr', σ', by rw [ho, eqAV_eq 8 v' v he]⟩
      · exact chkAt_spec l h' c hc

theorem chkAll_spec {cf : ACall} {fr env : List AV} {ts : List Store} : ∀ (cs : List DChk), chkAll cs cf fr env ts = true → ∀ d ∈ cs, chkOne d cf fr env ts = true
  | [], _, d, hd => by simp at hd
  | x :: cs, h, d, hd => by
    have h' : cond (chkOne x cf fr env ts) (chkAll cs cf fr env ts) false = true := h
    cases hx : chkOne x cf fr env ts with
    | false => rw [hx] at h'; cases h'
    | true =>
      rw [hx, cond_true] at h'
      rcases List.mem_cons.1 hd with rfl | hd
      · exact hx
      · exact chkAll_spec cs h' d hd

theorem drop_head {α : Type} {l r : List α} {x : α} {d : Nat} (h : x :: r = l.drop d) : l[d]? = some x := by
  have := congrArg (fun l => l[0]?) h
  simpa using this.symm

theorem cnt_le {as : List AOper} {j : Nat} (h : j ≤ as.length) : cntTo (mvsOf as) j ≤ cntTo (mvsOf as) as.length := by
  unfold cntTo
  rw [← countP_below _ j as.length h]
  exact countP_le _ _ _ fun j _ h => by simp only [Bool.and_eq_true] at h; exact h.1
theorem hi_le {as : List AOper} {ms : List Nat} {j : Nat} : hiOf (mvsOf as) ms j ≤ cntTo (mvsOf as) as.length := by
  unfold hiOf cntTo
  rw [mvs_length]
  exact countP_le _ _ _ fun j _ h => by simp only [Bool.and_eq_true] at h; exact h.1

theorem drawn_of {m : Meta} {cf : ACall} {fr0 : List AV} {ops : List Oper} {as : List AOper} {σ0 : Store} {envF : List AV} {tsF : List Store} (hc : cOpsD S.P m ops [] = some as) (hok : drawOK (ops.zip ((mvsOf as).zip (masks ops []))) [] = true)
    (hrun : denD (as.map fun a => { op := a.op, guard := a.guard, moves := mvA a }) cf fr0 [] [σ0] = some (envF, tsF))
    (hchk : chkAll (as.zipIdx.filterMap fun p => chkOf (mvsOf as) (masks ops []) p.1 p.2) cf fr0 envF tsF = true) :
    ∃ V stk, Drawn S m cf fr0 ops as (masks ops []) V stk tsF ∧ (∀ j, j < ops.length → lget envF (ops.length - 1 - j) = V j) ∧ tsF[cntTo (mvsOf as) as.length]? = some σ0 := by
  obtain ⟨hlen, hcomp⟩ := cOpsD_spec ops [] as hc
  obtain ⟨stk, T, V, h1, h2, h3, h4, h5⟩ := denD_spec _ _ _ _ _ _ _ hrun
  simp only [List.length_map] at h3 h4
  have hd : ∀ (j : Nat) (a : AOper), as[j]? = some a → (as.map fun a => ({ op := a.op, guard := a.guard, moves := mvA a } : DOper))[j]? = some { op := a.op, guard := a.guard, moves := mvA a } := fun j a h => by
    rw [List.getElem?_map, h]; rfl
  have has : ∀ j, j < as.length → ∃ a, as[j]? = some a := fun j hj => ⟨_, List.getElem?_eq_getElem hj⟩
  obtain ⟨hstk, hT⟩ := trace_at (N := as.length) (stk := stk) (T := T) (V := V) (mv := fun j => ((mvsOf as)[j]?).getD false) h1 σ0 h2
    (fun j hj => by
      obtain ⟨a, ha⟩ := has j hj
      obtain ⟨σ, r, k1, _⟩ := h5 j _ (hd j a ha)
      exact k1)
    (fun j hj => by
      obtain ⟨a, ha⟩ := has j hj
      obtain ⟨σ, r, _, k2, k3⟩ := h5 j _ (hd j a ha)
      rw [mvs_of ha, k2]
      rcases k3 with ⟨_, _, σ', _, k⟩ | ⟨_, _, k⟩
      · exact ⟨σ', k⟩
      · exact ⟨σ, k⟩)
  have hTd : ∀ i, i ≤ as.length → T i = tsF.drop (cntTo (mvsOf as) as.length - cntTo (mvsOf as) i) := fun i hi => by rw [← h4]; exact (hT i hi).2
  have hrunF : ∀ (j : Nat) (a : AOper), as[j]? = some a → ∃ σ, tsF[cntTo (mvsOf as) as.length - cntTo (mvsOf as) j]? = some σ ∧
    ((wantD (stk j) a.guard = some true ∧ ∃ fr' σ', opF a.op cf fr0 (stk j) σ = some (V j, fr', σ') ∧ (mvA a = true → tsF[cntTo (mvsOf as) as.length - cntTo (mvsOf as) (j + 1)]? = some σ')) ∨
     (wantD (stk j) a.guard = some false ∧ V j = .undef ∧ (mvA a = true → tsF[cntTo (mvsOf as) as.length - cntTo (mvsOf as) (j + 1)]? = some σ))) := by
    intro j a ha
    have hj : j < as.length := (List.getElem?_eq_some_iff.1 ha).1
    obtain ⟨σ, r, _, k2, k3⟩ := h5 j _ (hd j a ha)
    have e1 := hTd j (Nat.le_of_lt hj)
    rw [k2] at e1
    have e2 := hTd (j + 1) hj
    refine ⟨σ, drop_head e1, ?_⟩
    rcases k3 with ⟨hw, fr', σ', hop, k⟩ | ⟨hw, hv, k⟩
    · refine .inl ⟨hw, fr', σ', hop, fun hm => ?_⟩
      simp only [hm, cond_true] at k
      rw [k] at e2
      exact drop_head e2
    · refine .inr ⟨hw, hv, fun hm => ?_⟩
      simp only [hm, cond_true] at k
      rw [k] at e2
      exact drop_head e2
  -- the compiler's checks
  have hok' : ∀ (j : Nat) (o : Oper) (a : AOper), ops[j]? = some o → as[j]? = some a → edgesBack o j = true ∧ guardOK o (((masks ops [])[j]?).getD 0) = true ∧
      ∀ (i : Nat) (oi : Oper) (ai : AOper), i < j → ops[i]? = some oi → as[i]? = some ai → pairOK oi o (mvA ai) (mvA a) ((((masks ops [])[j]?).getD 0).testBit i) = true := by
    intro j o a ho ha
    have hml := (masks_spec ops []).1
    simp only [List.length_nil, Nat.zero_add] at hml
    have hjl : j < ops.length := (List.getElem?_eq_some_iff.1 ho).1
    obtain ⟨mk, hmk⟩ : ∃ mk, (masks ops [])[j]? = some mk := ⟨_, List.getElem?_eq_getElem (by omega)⟩
    have hz : ∀ (i : Nat) (oi : Oper) (ai : AOper) (mk : Nat), ops[i]? = some oi → as[i]? = some ai → (masks ops [])[i]? = some mk → (ops.zip ((mvsOf as).zip (masks ops [])))[i]? = some (oi, mvA ai, mk) := by
      intro i oi ai mk h1 h2 h3
      have : (mvsOf as)[i]? = some (mvA ai) := by simp [mvsOf, List.getElem?_map, h2]
      rw [List.getElem?_zip_eq_some]
      exact ⟨h1, List.getElem?_zip_eq_some.2 ⟨this, h3⟩⟩
    obtain ⟨k1, k2, k3⟩ := drawOK_spec _ [] hok j o (mvA a) mk (hz j o a mk ho ha hmk)
    rw [hmk]
    simp only [List.length_nil, Nat.zero_add, List.nil_append] at k1 k3
    refine ⟨k1, k2, fun i oi ai hij hoi hai => k3 i oi (mvA ai) hij ?_⟩
    obtain ⟨mi, hmi⟩ : ∃ mk, (masks ops [])[i]? = some mk := ⟨_, List.getElem?_eq_getElem (by omega)⟩
    rw [List.getElem?_map, hz i oi ai mi hoi hai hmi]
    rfl
  have hcomp' : ∀ (j : Nat) (o : Oper), ops[j]? = some o → ∃ a, as[j]? = some a ∧ cOper S.P m (envD ops j) o = some (a, .val) ∧ pubOp a.op = true := fun j o ho => by
    obtain ⟨a, k1, k2, k3⟩ := hcomp j o ho
    exact ⟨a, k1, by simpa using k2, k3⟩
  have hback : ∀ (j : Nat) (o : Oper), ops[j]? = some o → ∀ e ∈ o.after.toList, Region.binds .any e = true → e.on < j := by
    intro j o ho e he hb
    obtain ⟨a, ha, _⟩ := hcomp' j o ho
    have := List.all_eq_true.1 (hok' j o a ho ha).1 e he
    simp only [hb, Bool.not_true, Bool.false_or, nblt] at this
    exact of_decide_eq_true this
  refine ⟨V, stk, ⟨hlen, hcomp', hback, fun L hL => mask_listed hback hL, fun i j oi oj ai aj hij hoi hoj hai haj => (hok' j oj aj hoj haj).2.2 i oi ai hij hoi hai, fun j o ho => ?_, fun i p hp hi => ((hstk i (by omega)).2.2 p hp), hrunF, ?_⟩, fun j hj => ?_, ?_⟩
  · obtain ⟨a, ha, _⟩ := hcomp' j o ho
    exact (hok' j o a ho ha).2.1
  · intro j a c ha hr hlo hhi hw
    have hj : j < as.length := (List.getElem?_eq_some_iff.1 ha).1
    by_cases hc0 : c = cntTo (mvsOf as) j
    · obtain ⟨σ, k1, k2⟩ := hrunF j a ha
      subst hc0
      rcases k2 with ⟨_, fr', σ', k, _⟩ | ⟨k, _⟩
      · exact ⟨σ, k1, fr', σ', k⟩
      · rw [hw] at k; cases k
    · have hck : c ≤ cntTo (mvsOf as) as.length := Nat.le_trans hhi hi_le
      let l := (List.range (cntTo (mvsOf as) (mvsOf as).length + 1)).filter fun c => Nat.ble (loOf (mvsOf as) (((masks ops [])[j]?).getD 0)) c && Nat.ble c (hiOf (mvsOf as) (masks ops []) j) && !Nat.beq c (cntTo (mvsOf as) j)
      have hmem : c ∈ l := by
        simp only [l, List.mem_filter, List.mem_range, mvs_length, nble, nbeq, Bool.and_eq_true, decide_eq_true_eq, Bool.not_eq_true', decide_eq_false_iff_not]
        exact ⟨by omega, ⟨hlo, hhi⟩, hc0⟩
      have hne : l.isEmpty = false := by
        cases hl : l with
        | nil => rw [hl] at hmem; simp at hmem
        | cons => rfl
      have hck' : chkOf (mvsOf as) (masks ops []) a j = some { back := (mvsOf as).length - 1 - j, op := a.op, guard := a.guard, at_ := l.map (cntTo (mvsOf as) (mvsOf as).length - ·) } := by
        unfold chkOf
        rw [if_pos hr]
        show (if l.isEmpty then none else _) = _
        rw [hne]
        rfl
      have hone := chkAll_spec _ hchk { back := (mvsOf as).length - 1 - j, op := a.op, guard := a.guard, at_ := l.map (cntTo (mvsOf as) (mvsOf as).length - ·) }
        (List.mem_filterMap.2 ⟨(a, j), List.mk_mem_zipIdx_iff_getElem?.2 ha, hck'⟩)
      unfold chkOne at hone
      have henv : dropN ((mvsOf as).length - 1 - j) envF = V j :: stk j := by
        rw [dropN_eq, mvs_length, ← h3]
        have e1 := (hstk (j + 1) hj).2.1
        obtain ⟨σ, r, k1, _⟩ := h5 j _ (hd j a ha)
        rw [k1] at e1
        rw [e1]
        congr 1
        omega
      simp only [henv, hw] at hone
      obtain ⟨σ, k1, k2⟩ := chkAt_spec _ hone (cntTo (mvsOf as) as.length - c) (List.mem_map.2 ⟨c, hmem, by rw [mvs_length]⟩)
      exact ⟨σ, k1, k2⟩
  · have := (hstk as.length (Nat.le_refl _)).2.2 (ops.length - 1 - j) (by omega)
    rw [← h3, this, hlen]
    congr 1
    omega
  · have e1 := hTd 0 (Nat.zero_le _)
    rw [h2] at e1
    have : cntTo (mvsOf as) 0 = 0 := rfl
    rw [this, Nat.sub_zero] at e1
    exact drop_head e1

/-! ### All orders -/
section
variable {g0 : G} {m : Meta} {cf : ACall} {fr0 : List AV} {ops : List Oper} {as : List AOper} {ms : List Nat} {V : Nat → AV} {stk : Nat → List AV} {tsF : List Store} {bx : Nat → Option Nat} {r : Option Nat} {n : Nat} {Q : Exit → Act → World → Prop}

theorem Drawn.any (D : Drawn S m cf fr0 ops as ms V stk tsF) (hcf : CallOK S cf) (hx : ∀ p ∈ m.ext, ExtOK S.P p) (hm : m.ok = true) (hgl : m.globals = S.gl) {opsA : Array Oper} (hA : opsA.toList = ops)
    (hQ : ∀ L a g frx σ, (∀ j, j < ops.length → L j = true) → DJ S g0 m fr0 ops as V tsF L a g bx frx σ → Q .normal a g.w) : ∀ (fuel : Nat) (listed : Array Bool) (a : Act) (g : G) (frx : List AV) (σ : Store), listed.size = ops.length →
      DJ S g0 m fr0 ops as V tsF (fun j => listed.getD j false) a g bx frx σ → (List.range ops.length).countP (fun j => !(listed.getD j false)) ≤ fuel → wpAnyIn (Fr r) n S.P .any opsA Q fuel listed a g.w := by
  have hget : ∀ (listed : Array Bool) j, j < listed.size → listed.getD j true = listed.getD j false := fun listed j hj => by simp [Array.getD, hj]
  -- nobody may come next: all are done
  have hall : ∀ (listed : Array Bool), listed.size = ops.length → Region.ready .any opsA listed = [] → ∀ j, j < ops.length → listed.getD j false = true := by
    intro listed hsz hr j hj
    apply Classical.byContradiction
    intro hn
    have hex : ∃ j, j < ops.length ∧ listed.getD j false = false := ⟨j, hj, by simpa using hn⟩
    obtain ⟨k, ⟨hk1, hk2⟩, hmin⟩ := least hex
    have ho : ops[k]? = some (ops[k]'hk1) := List.getElem?_eq_getElem hk1
    have hmem : k ∈ Region.ready .any opsA listed := by
      rw [mem_ready]
      refine ⟨by rw [hget _ _ (by omega)]; exact hk2, ops[k]'hk1, by rw [← Array.getElem?_toList, hA]; exact ho, fun e he hb => ?_⟩
      have hlt := D.back k _ ho e (by simpa using he) hb
      cases hL : listed.getD e.on false with
      | true => rfl
      | false =>
        have := hmin e.on ⟨by omega, hL⟩
        omega
    rw [hr] at hmem
    cases hmem
  intro fuel
  induction fuel with
  | zero =>
    intro listed a g frx σ hsz J hcnt
    have hL : ∀ j, j < ops.length → listed.getD j false = true := by
      intro j hj
      have h0 : (List.range ops.length).countP (fun j => !(listed.getD j false)) = 0 := by omega
      rw [List.countP_eq_zero] at h0
      have := h0 j (by simpa using hj)
      simpa using this
    refine ⟨?_, hQ _ a g frx σ hL J⟩
    cases hr : Region.ready .any opsA listed with
    | nil => rfl
    | cons k ks =>
      have hk : k ∈ Region.ready .any opsA listed := by rw [hr]; simp
      obtain ⟨h1, o, h2, _⟩ := mem_ready.1 hk
      rw [← Array.getElem?_toList, hA] at h2
      have hkl : k < ops.length := (List.getElem?_eq_some_iff.1 h2).1
      rw [hget _ _ (by omega), hL k hkl] at h1
      cases h1
  | succ fuel ih =>
    intro listed a g frx σ hsz J hcnt
    refine ⟨fun hr => hQ _ a g frx σ (hall listed hsz hr) J, fun i hi => ?_⟩
    obtain ⟨h1, o, h2, h3⟩ := mem_ready.1 hi
    rw [← Array.getElem?_toList, hA] at h2
    have hil : i < ops.length := (List.getElem?_eq_some_iff.1 h2).1
    rw [hget _ _ (by omega)] at h1
    have hplus : (fun j => (listed.setIfInBounds i true).getD j false) = plus (fun j => listed.getD j false) i := by
      funext j
      unfold plus
      by_cases e : j = i
      · subst e
        simp [Array.getD, hsz, hil]
      · rw [if_neg e]
        simp only [Array.getD_eq_getD_getElem?, Array.getElem?_setIfInBounds, if_neg (Ne.symm e)]
    refine D.step hcf hx hm hgl J h2 h1 (fun e he hb => h3 e (by simpa using he) hb) hA fun a' g' frx' σ' J' => ?_
    refine ih _ a' g' frx' σ' (by simpa using hsz) (by rw [hplus]; exact J') ?_
    have hflip := countP_flip (fun j => !(listed.getD j false)) (fun j => !((listed.setIfInBounds i true).getD j false)) i ops.length hil (fun j hj => by
        have := congrFun hplus j
        rw [show (listed.setIfInBounds i true).getD j false = plus (fun j => listed.getD j false) i j from this, plus_ne hj]) (by simp [h1])
        (by rw [show (listed.setIfInBounds i true).getD i false = plus (fun j => listed.getD j false) i i from congrFun hplus i, plus_self]; rfl)
    omega

theorem writeD_length : ∀ (ws : List (Nat × Nat)) (env fr : List AV), (writeD env ws fr).length = fr.length
  | [], env, fr => rfl
  | p :: ws, env, fr => by
    show (writeD env ws (lset fr p.1 (lget env p.2))).length = _
    rw [writeD_length]; simp
theorem writeD_out {s : Nat} {env : List AV} : ∀ (ws : List (Nat × Nat)) (fr : List AV), (∀ p ∈ ws, p.1 ≠ s) → lget (writeD env ws fr) s = lget fr s
  | [], fr, _ => rfl
  | p :: ws, fr, h => by
    show lget (writeD env ws (lset fr p.1 (lget env p.2))) s = _
    rw [writeD_out ws _ fun q hq => h q (by simp [hq]), lget_lset_ne _ (h p (by simp))]
theorem writeD_in {s : Nat} {v : AV} {env : List AV} : ∀ (ws : List (Nat × Nat)) (fr : List AV), (∀ p ∈ ws, p.1 = s → lget env p.2 = v) → (∃ p ∈ ws, p.1 = s) → s < fr.length → lget (writeD env ws fr) s = v
  | [], fr, _, h, _ => by obtain ⟨p, hp, _⟩ := h; simp at hp
  | p :: ws, fr, h, hex, hl => by
    show lget (writeD env ws (lset fr p.1 (lget env p.2))) s = _
    by_cases hw : ∃ q ∈ ws, q.1 = s
    · exact writeD_in ws _ (fun q hq => h q (by simp [hq])) hw (by simpa using hl)
    · have hp : p.1 = s := by
        obtain ⟨q, hq, e⟩ := hex
        rcases List.mem_cons.1 hq with rfl | hq
        · exact e
        · exact absurd ⟨q, hq, e⟩ hw
      rw [writeD_out ws _ fun q hq e => hw ⟨q, hq, e⟩, hp, lget_lset_self _ hl]
      exact h p (by simp) hp

theorem frame_ext {a b : List AV} (hl : a.length = b.length) (h : ∀ s, lget a s = lget b s) : a = b := by
  apply List.ext_getElem? fun i => ?_
  by_cases hi : i < a.length
  · have := h i
    rw [lget_eq, lget_eq, List.getElem?_eq_getElem hi, List.getElem?_eq_getElem (by omega)] at this
    rw [List.getElem?_eq_getElem hi, List.getElem?_eq_getElem (by omega)]
    simpa using this
  · rw [List.getElem?_eq_none (by omega), List.getElem?_eq_none (by omega)]

/-- A region whose order of evaluation is drawn. -/
theorem ok_regionD (hcf : CallOK S cf) (hx : ∀ p ∈ m.ext, ExtOK S.P p) (hm : m.ok = true) (hgl : m.globals = S.gl) (hmix : S.P.follows .mixedOrders = true) {id : Nat} {opsA : Array Oper} {ac : ACode} (hc : cDraw S.P m opsA.toList = some ac) :
    CodeOK S g0 m r n cf (.region id opsA true) (den ac) := by
  intro N fr a σ g bx res h hv
  unfold cDraw at hc
  split at hc
  case h_2 => cases hc
  rename_i as has
  simp only at hc
  split at hc
  case isFalse => cases hc
  rename_i hok
  cases hc
  simp only [den, sRegionD] at hv
  split at hv
  case h_2 => cases hv
  rename_i envF tsF hrun
  cases hck : chkAll (as.zipIdx.filterMap fun p => chkOf (mvsOf as) (masks opsA.toList []) p.1 p.2) cf fr envF tsF with
  | false =>
    rw [show (as.map fun a => (skA a.op).isMoves) = mvsOf as from rfl, hck] at hv
    cases hv
  | true =>
  rw [show (as.map fun a => (skA a.op).isMoves) = mvsOf as from rfl, hck, cond_true] at hv
  split at hv
  case h_2 => cases hv
  rename_i σE tsR
  cases hv
  obtain ⟨V, stk, D, hV, hσ0⟩ := drawn_of has hok hrun hck
  refine wpIn_region_any hmix ?_
  have hst : St S g0 m fr a σ g.drew bx := h.ext' (Ext.drew g) h.inv.drew
  have hrep : ∀ j, ((Array.replicate opsA.size false).getD j false) = false := fun j => by
    simp only [Array.getD_eq_getD_getElem?, Array.getElem?_replicate]
    split <;> rfl
  have h0 : cntL as (fun j => (Array.replicate opsA.size false).getD j false) = 0 := by
    unfold cntL
    rw [List.countP_eq_zero]
    intro j _
    simp only [hrep]; simp
  have J0 : DJ S g0 m fr opsA.toList as V (σE :: tsR) (fun j => (Array.replicate opsA.size false).getD j false) a g.drew bx fr σ := by
    refine ⟨hst, by rw [h0]; exact hσ0, fun j o _ hL => ?_, fun s _ => rfl, fun j aj s _ hL => ?_, fun j o t _ hL => ?_⟩
    all_goals (rw [hrep] at hL; cases hL)
  refine D.any hcf hx hm hgl rfl ?_ opsA.size _ a g.drew fr σ (by simp) J0 ?_
  · -- all is done
    intro L a' g' frx σ' hL J
    refine ⟨rfl, g', bx, rfl, ?_⟩
    have hk : cntL as L = cntTo (mvsOf as) as.length := by
      unfold cntL cntTo
      refine countP_same _ _ _ fun j hj => ?_
      rw [hL j (by have := D.hlen; simp at this ⊢; omega), Bool.and_true]
    have hs := J.store
    rw [hk, Nat.sub_self] at hs
    simp at hs
    subst hs
    have hfr : frx = writeD envF (as.zipIdx.filterMap fun p => p.1.dst.map fun s => (s, as.length - 1 - p.2)) fr := by
      refine frame_ext (by rw [writeD_length, J.st.frl, h.frl]) fun s => ?_
      have hmem : ∀ p ∈ (as.zipIdx.filterMap fun p => p.1.dst.map fun s => (s, as.length - 1 - p.2)), ∃ (j : Nat) (aj : AOper), as[j]? = some aj ∧ aj.dst = some p.1 ∧ p.2 = as.length - 1 - j := by
        intro p hp
        obtain ⟨q, hq, he⟩ := List.mem_filterMap.1 hp
        obtain ⟨aj, j⟩ := q
        have hq := List.mk_mem_zipIdx_iff_getElem?.1 hq
        simp only [Option.map_eq_some_iff] at he
        obtain ⟨s, hs, rfl⟩ := he
        exact ⟨j, aj, hq, hs, rfl⟩
      by_cases hw : ∃ (j : Nat) (aj : AOper), as[j]? = some aj ∧ aj.dst = some s
      · obtain ⟨j, aj, haj, hds⟩ := hw
        have hjl : j < as.length := (List.getElem?_eq_some_iff.1 haj).1
        symm
        refine writeD_in _ _ (fun p hp he => ?_) ⟨(s, as.length - 1 - j), List.mem_filterMap.2 ⟨(aj, j), List.mk_mem_zipIdx_iff_getElem?.2 haj, by simp [hds]⟩, rfl⟩ ?_
        · obtain ⟨k, ak, hak, hdk, hp2⟩ := hmem p hp
          have hkl : k < as.length := (List.getElem?_eq_some_iff.1 hak).1
          rw [hp2, D.hlen, hV k (by have := D.hlen; omega)]
          exact (J.in_ k ak s hak (hL k (by have := D.hlen; omega)) (by rw [hdk, he])).symm
        · obtain ⟨oj, hoj, hcj, _⟩ := D.ops_of haj
          have hdj := (cOper_parts hcj).2.2.1
          rw [hds] at hdj
          rw [h.frl]
          cases hod : oj.dst with
          | none => rw [hod] at hdj; simp [dstOf] at hdj
          | some t' =>
            rw [hod] at hdj
            simp only [dstOf] at hdj
            split at hdj
            · rename_i s2 hs2
              cases hdj
              exact Meta.slot_lt hs2
            · cases hdj
            · cases hdj
      · rw [writeD_out _ _ fun p hp e => ?_]
        · exact J.out s fun j aj haj _ hd => hw ⟨j, aj, haj, hd⟩
        · obtain ⟨k, ak, hak, hdk, _⟩ := hmem p hp
          exact hw ⟨k, ak, hak, by rw [hdk, e]⟩
    rw [← hfr]
    exact J.st
  · have := List.countP_le_length (p := fun j => !((Array.replicate opsA.size false).getD j false)) (l := List.range opsA.toList.length)
    simpa using this

end
end Go.Vm

/- A range over a function. -/
namespace Go.Vm
open Go
variable {S : Sys} {P : Program}
section
variable {g0 g : G} {m : Meta} {cf : ACall} {r : Option Nat} {n : Nat} {Q : Exit → Act → World → Prop}

theorem putObj_loop {w : World} {b : Nat} {lp : Loop} (hh : w.heap[b]? = some (.loop lp)) (ob : Obj) : Alike1 w (w.putObj b ob) b ∧ (w.putObj b ob).heap[b]? = some ob := by
  have hlt := lt_of_some hh
  refine ⟨⟨by simp, fun k hk => World.putObj_heap_other hk, fun cs ty fz h => ?_, rfl, rfl, rfl⟩, World.putObj_heap_same hlt⟩
  rw [hh] at h; cases h

theorem ok_range (hcf : CallOK S cf) (hm : m.ok = true) (hgl : m.globals = S.gl) (hext : m.ext = S.ext) {f : Operand} {ps : Array Nat} {as bd : Code} (hl : LoopsOK S m (.rangeFunc f ps as bd)) {s : Src} (hs : cSrc m [] f = some s) {pl : List Nat} (hp : cParams m ps.toList = some pl) :
    CodeOK S g0 m none n cf (.rangeFunc f ps as bd) (sRangeFunc s pl (lidOf m f)) := fun N fr a σ g bx res h hv => by
  obtain ⟨hopen, ⟨lfn, a', b', hlf, hca, hcb, hda, hdb⟩, hna, hnb⟩ := hl
  simp only [sRangeFunc] at hv
  split at hv
  case h_2 => cases hv
  rename_i q xs ys hsrc
  split at hv
  case h_2 => cases hv
  rename_i v σ1 hcall
  have hrf := src_val hgl h (env := []) (stk := []) .nil hs
  rw [hsrc] at hrf
  refine wpIn_rangeFunc (F := Fr none) fun fn _ => ?_
  have hfv : ∃ first caps, a.eval f = .func (.func q) first caps := by
    generalize a.eval f = u at hrf
    cases hrf
    exact ⟨_, _, rfl⟩
  obtain ⟨first, caps, hfv⟩ := hfv
  let mk : Deferred := { target := .collected g.w.heap.size, args := #[] }
  let rec0 : Loop := { state := .ready, pending := none, fn, tmps := a.tmps, params := ps, assign := as, body := bd, defers := g.w.heap.size }
  let g1 := g.waste (.deferred (some []))
  let g2 := g1.alloc (.loop rec0)
  have hsz1 : g1.w.heap.size = g.w.heap.size + 1 := by simp [g1, G.waste]
  have e1 : Ext g g1 := Ext.waste g _
  have i1 : Inv S g1 σ := h.inv.waste _
  have e2 : Ext g1 g2 := i1.ext_alloc _
  have m2 : Mono g g2 := (e1.trans e2).mono h.inv
  have hheap2 : g2.w.heap[g1.w.heap.size]? = some (.loop rec0) := Array.getElem?_push_size
  have i2 : Inv S g2 (σ.new (.loop true none fr pl (lidOf m f))) := by
    refine i1.alloc _ _ (.loop true none fr pl _ rec0 rfl hheap2 ⟨⟨rfl, rfl⟩, m, lfn, a', b', hlf, hca, hcb, hda, hdb, hna, hnb, hp, hopen, hm, h.size, hgl, hext, h.frl, h.slots.mono m2⟩)
  have hwe : g2.w = (g.w.alloc (.deferred (some []))).alloc (.loop rec0) := rfl
  have hyield : Rep g2 (.yield σ.next) (.func (.yield (g.w.heap.size + 1)) #[] #[]) := by
    rw [h.inv.nx]
    refine .yield _ _ (by simp [g2, g1, G.alloc, G.waste]) fun p hp' => ?_
    have : g2.φ g.nx = some (g1.w.heap.size, 0) := by simp [g2, g1, G.alloc, G.waste]
    rw [this] at hp'
    cases hp'
    rw [hsz1]
  have hinv := hcf _ _ _ _ _ hcall g2 (a.eval f) [.func (.yield (g.w.heap.size + 1)) #[] #[]] i2 (hrf.mono m2) (.cons hyield .nil)
  rw [hfv] at hinv
  obtain ⟨args, w2, hi, hcl⟩ := hinv
  refine ⟨g.w.heap.size + 1, [mk], g2.w, { target := .fn (.func q) caps, args := first ++ #[.func (.yield (g.w.heap.size + 1)) #[] #[]] }, g2.w, q, args, w2, ?_, ?_, fun _ _ => trivial, hi, fun hd => by simp [Fr, Fence.wide] at hd, ?_⟩
  · exact run_enterLoop_outer fn a.tmps ps as bd
  · rw [show resolve a.eval (rangeCall f (g.w.heap.size + 1)) 0 = Deferred.ofValue (a.eval f) #[.func (.yield (g.w.heap.size + 1)) #[] #[]] from by simp [resolve, Act.eval], hfv]
    rfl
  · refine (callsIn_fr (hcl)).mono ?_
    rintro e w3 ⟨cv, g3, rfl, rfl, e3, i3, _⟩
    -- the record
    unfold rangeEnd at hv
    split at hv
    case h_2 => cases hv
    rename_i rd pend fr' ps' lid' hg3
    obtain ⟨p, hp3, hb3⟩ := i3.live _ _ hg3
    have hid : σ.next < g2.nx := by rw [h.inv.nx]; simp [g2, g1, G.alloc, G.waste]
    have hp2 := e3.phi _ hid p hp3
    have hpe : p = (g1.w.heap.size, 0) := by
      rw [h.inv.nx] at hp2
      have : g2.φ g.nx = some (g1.w.heap.size, 0) := by simp [g2, g1, G.alloc, G.waste]
      rw [this] at hp2; cases hp2; rfl
    subst hpe
    cases hb3 with | loop _ _ _ _ _ r3 h03 hh3 hl3 =>
    have hh3' : g3.w.heap[g.w.heap.size + 1]? = some (.loop r3) := by rw [← hsz1]; exact hh3
    obtain ⟨hstate, _⟩ := hl3
    obtain ⟨halike, hput⟩ := putObj_loop hh3' (.loop { r3 with state := .exhausted })
    let g3k := g3.kill σ.next
    let g4 : G := { g3k with w := g3.w.putObj (g.w.heap.size + 1) (.loop { r3 with state := .exhausted }) }
    have ik : Inv S g3k (σ1.del σ.next) := i3.kill _
    have hno : ∀ id p, g3k.φ id = some p → p.1 ≠ g.w.heap.size + 1 := by
      intro id p hp' e
      simp only [g3k, G.kill] at hp'
      split at hp'
      · cases hp'
      · rename_i hne
        exact hne (i3.inj id σ.next p _ hp' hp3 (by rw [e, hsz1]))
    have hown := i3.own _ _ hp3
    rw [hsz1] at hown
    have m4 : Mono g3k g4 := Mono.priv hown.2.1 hown.2.2 halike
    have i4 : Inv S g4 (σ1.del σ.next) := ik.same m4 rfl rfl (fun id p hp' => halike.other p.1 (hno id p hp')) (fun k hk => ⟨by rw [show g4.w.heap.size = g3.w.heap.size from halike.size]; exact ik.fro k hk, fun id p hp' e => (ik.own id p hp').2.1 (e ▸ hk)⟩)
      (fun k hk => ⟨by rw [show g4.w.heap.size = g3.w.heap.size from halike.size]; exact ik.bor k hk, fun id p hp' e => (ik.own id p hp').2.2 (e ▸ hk)⟩)
    have e3k : Ext g2 g3k := e3.trans (Ext.kill g3 σ.next)
    have eg4 : Ext g g4 := Ext.priv ((e1.trans e2).trans e3k) (by omega) halike
    have marks2 : MarksOK g0 g2 (mk :: a.defers) := by
      obtain ⟨bs, q1, q2, q3⟩ := h.marks.ext (e1.trans e2)
      refine ⟨g.w.heap.size :: bs, by rw [q1]; rfl, List.nodup_cons.2 ⟨fun hmem => ?_, q2⟩, fun b hb => ?_⟩
      · obtain ⟨bs', q1', q2', q3'⟩ := h.marks
        have : bs = bs' := by
          have := q1.symm.trans q1'
          have hinj : Function.Injective (fun b => ({ target := .collected b, args := #[] } : Deferred)) := fun x y e => by
            simp only [Deferred.mk.injEq, Target.collected.injEq] at e; exact e.1
          exact (List.map_inj_right fun x y e => hinj e).1 this
        subst this
        have := lt_of_some (q3' _ hmem).2.2.2.2
        omega
      · rcases List.mem_cons.1 hb with rfl | hb
        · refine ⟨fun id p hp' e => ?_, fun hf => ?_, fun hf => ?_, h.ext.size, ?_⟩
          · simp only [g2, g1, G.alloc, G.waste] at hp'
            split at hp'
            · cases hp'; simp at e
            · have := (h.inv.own id p hp').1; omega
          · exact absurd (h.inv.fro _ hf) (Nat.lt_irrefl _)
          · exact absurd (h.inv.bor _ hf) (Nat.lt_irrefl _)
          · have : g.w.heap.size < g1.w.heap.size := by omega
            rw [show g2.w.heap[g.w.heap.size]? = g1.w.heap[g.w.heap.size]? from heap_push_lt this]
            exact Array.getElem?_push_size
        · exact q3 b hb
    have marks4 : MarksOK g0 g4 (mk :: a.defers) := (marks2.ext e3k).alike halike (by rw [show g3k.w = g3.w from rfl, hh3']; simp)
    have hst : St S g0 m fr { a with defers := [mk] ++ a.defers } (σ1.del σ.next) g4 bx :=
      let hm4 := eg4.mono h.inv
      ⟨h.ext.trans eg4, i4, h.slots.mono hm4, h.size, h.frl, h.boxes.ext eg4 hm4, marks4⟩
    have hbusy : ∀ {x : Option Code}, r3.state ≠ .busy → r3.pending = x → (Instr.endLoop (g.w.heap.size + 1)).run S.P g3.w = .ok x g4.w := by
      intro x hb hx
      subst hx
      rw [run_endLoop hh3' hb]
    cases pend with
    | none =>
      cases rd with
      | false => cases hv
      | true =>
        simp only [cond_true, Option.some.injEq] at hv
        subst hv
        exact ⟨none, g4.w, hbusy (by rw [hstate.1]; simp) hstate.2, rfl, g4, bx, rfl, hst⟩
    | some ex =>
      simp only [Option.some.injEq] at hv
      subst hv
      cases rd with
      | true => exact hstate.elim
      | false =>
        obtain ⟨q1, q2, q3⟩ := hstate
        cases ex with
        | normal => exact absurd rfl q3
        | exit id => exact ⟨some (.exit id), g4.w, hbusy (by rw [q1]; simp) q2, wpIn_exit ⟨rfl, g4, bx, rfl, hst⟩⟩
        | goto l => exact ⟨some (.goto l), g4.w, hbusy (by rw [q1]; simp) q2, wpIn_goto ⟨rfl, g4, bx, rfl, hst⟩⟩
        | ret => exact ⟨some .ret, g4.w, hbusy (by rw [q1]; simp) q2, wpIn_ret ⟨rfl, g4, bx, rfl, hst⟩⟩

end
end Go.Vm

