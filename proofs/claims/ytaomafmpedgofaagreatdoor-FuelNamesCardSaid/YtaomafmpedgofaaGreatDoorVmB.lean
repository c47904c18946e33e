/- The machine of values, blocks and calls, and what it has to do with the model: part 2 of 4. -/
import Derived.Test.YtaomafmpedgofaaGreatDoorVmA
import Derived.Laws.BytesString
import Derived.MapKept
import Derived.Laws.MakeOwn
import Derived.Laws.Append
import Derived.Lib.UnsafeStr
/- Operations that look at values and memory and leave both as they are: comparisons by type, addresses, parts, lengths. -/
namespace Go.Vm
open Go
variable {S : Sys} {P : Program}
section
variable {g0 g : G} {m : Meta} {fr stk : List AV} {a : Act} {σ : Store} {bx : Nat → Option Nat} {env : RE} {o : Oper}

theorem ce_of {ks : List K1} : ∀ {xs ys : List AV} {cxs cys : List Value} {r : Bool}, eqCells ks xs ys = some r → Reps g xs cxs → Reps g ys cys → CE ks cxs cys r := by
  induction ks with
  | nil =>
    intro xs ys cxs cys r h hx hy
    cases xs <;> cases ys <;> simp [eqCells] at h
    subst h
    cases hx; cases hy; exact .nil
  | cons k ks ih =>
    intro xs ys cxs cys r h hx hy
    cases xs with
    | nil => simp [eqCells] at h
    | cons x xs => cases ys with
      | nil => simp [eqCells] at h
      | cons y ys =>
        have h' : (match eqK k x y, eqCells ks xs ys with | some a, some b => some (a && b) | _, _ => none) = some r := h
        cases h1 : eqK k x y with
        | none => rw [h1] at h'; cases h'
        | some r1 => cases h2 : eqCells ks xs ys with
          | none => rw [h1, h2] at h'; cases h'
          | some r2 =>
            rw [h1, h2] at h'
            cases h'
            cases hx with | cons rx tx => cases hy with | cons ry ty =>
            have htl := ih h2 tx ty
            cases k <;> cases rx <;> (try (simp only [eqK, reduceCtorEq] at h1; done)) <;> cases ry <;> (try (simp only [eqK, reduceCtorEq] at h1; done))
            · rename_i k1 n1 k2 n2
              simp only [eqK] at h1
              cases hk : kindEq k1 k2 <;> rw [hk] at h1 <;> simp only [cond_true, cond_false, reduceCtorEq, Option.some.injEq, ibeq_eq] at h1
              have := kindEq_eq hk
              subst this; subst h1
              exact .int _ _ _ htl
            · simp only [eqK, Option.some.injEq, eqNat_eq] at h1
              subst h1
              exact .str _ _ htl
            · rename_i b1 b2
              simp only [eqK, Option.some.injEq] at h1
              subst h1
              have : (cond b1 b2 (!b2)) = decide (b1 = b2) := by cases b1 <;> cases b2 <;> rfl
              rw [this]
              exact .bool _ _ htl

theorem live_of (h : Inv S g σ) {id : Nat} {b : Blk} (hg : σ.get id = some b) : ∃ p, g.φ id = some p ∧ BlkRep S g p b := h.live id b hg

theorem eqi_ptr_nil (d : Nat) {t e : TypeId} (hu : P.underlying t = some (.pointer e)) (b : Option Addr) (w : World) : (Op.equalIn (d + 1) t (.pointer none) (.pointer b)).run P w = .ok b.isNone w := by
  simp only [Op.equalIn, Sem.run_bind, run_underlying hu, Result.andThen_ok]; rfl
theorem eqi_ptr_nil' (d : Nat) {t e : TypeId} (hu : P.underlying t = some (.pointer e)) (b : Option Addr) (w : World) : (Op.equalIn (d + 1) t (.pointer b) (.pointer none)).run P w = .ok b.isNone w := by
  cases b <;> (simp only [Op.equalIn, Sem.run_bind, run_underlying hu, Result.andThen_ok]; rfl)
theorem eqi_ptr (d : Nat) {t e : TypeId} (hu : P.underlying t = some (.pointer e)) (hsz : P.cellsOf e ≠ 0) (b o1 o2 : Nat) (w : World) :
    (Op.equalIn (d + 1) t (.pointer (some ⟨b, o1, none⟩)) (.pointer (some ⟨b, o2, none⟩))).run P w = .ok (decide (o1 = o2)) w := by
  simp only [Op.equalIn, Sem.run_bind, run_underlying hu, Result.andThen_ok, run_size (info_of_cells hsz), Sem.run_ite, hsz, ne_eq, not_false_eq_true, if_true, sameAddr, beq_self_eq_true, Sem.run_pure]
  congr 1
  show decide (_ = _) = _
  apply decide_eq_decide.2
  constructor
  · intro e; injection e
  · intro e; subst e; rfl
theorem eqi_sl_nil (d : Nat) {t e : TypeId} (hu : P.underlying t = some (.slice e)) (b : Option Addr) (l c l' c' : Nat) (w : World) : (Op.equalIn (d + 1) t (.slice none l c) (.slice b l' c')).run P w = .ok b.isNone w := by
  simp only [Op.equalIn, Sem.run_bind, run_underlying hu, Result.andThen_ok]; rfl
theorem eqi_sl_nil' (d : Nat) {t e : TypeId} (hu : P.underlying t = some (.slice e)) (b : Option Addr) (l c l' c' : Nat) (w : World) : (Op.equalIn (d + 1) t (.slice b l c) (.slice none l' c')).run P w = .ok b.isNone w := by
  cases b <;> (simp only [Op.equalIn, Sem.run_bind, run_underlying hu, Result.andThen_ok]; rfl)
theorem eqi_map_nil (d : Nat) {t k e : TypeId} (hu : P.underlying t = some (.map k e)) (b : Option Nat) (w : World) : (Op.equalIn (d + 1) t (.map none) (.map b)).run P w = .ok b.isNone w := by
  simp only [Op.equalIn, Sem.run_bind, run_underlying hu, Result.andThen_ok]; rfl
theorem eqi_map_nil' (d : Nat) {t k e : TypeId} (hu : P.underlying t = some (.map k e)) (b : Option Nat) (w : World) : (Op.equalIn (d + 1) t (.map b) (.map none)).run P w = .ok b.isNone w := by
  cases b <;> (simp only [Op.equalIn, Sem.run_bind, run_underlying hu, Result.andThen_ok]; rfl)
theorem eqi_fn_nil (d : Nat) {t : TypeId} {ps rs : Array TypeId} {v : Bool} (hu : P.underlying t = some (.func ps rs v)) (w : World) : (Op.equalIn (d + 1) t .nilFunc .nilFunc).run P w = .ok true w := by
  simp only [Op.equalIn, Sem.run_bind, run_underlying hu, Result.andThen_ok]; rfl
theorem eqi_fn_l (d : Nat) {t : TypeId} {ps rs : Array TypeId} {v : Bool} (hu : P.underlying t = some (.func ps rs v)) (f : Fn) (x y : Array Value) (w : World) : (Op.equalIn (d + 1) t .nilFunc (.func f x y)).run P w = .ok false w := by
  simp only [Op.equalIn, Sem.run_bind, run_underlying hu, Result.andThen_ok]; rfl
theorem eqi_fn_r (d : Nat) {t : TypeId} {ps rs : Array TypeId} {v : Bool} (hu : P.underlying t = some (.func ps rs v)) (f : Fn) (x y : Array Value) (w : World) : (Op.equalIn (d + 1) t (.func f x y) .nilFunc).run P w = .ok false w := by
  simp only [Op.equalIn, Sem.run_bind, run_underlying hu, Result.andThen_ok]; rfl

/-- What comparing two values by a type takes. -/
def EqOK (S : Sys) (g : G) (t : TypeId) (cx cy : Value) (r : Bool) : Prop :=
  (∀ d, (Op.equalIn (d + 8) t cx cy).run S.P g.w = .ok r g.w) ∧ (∀ w' op x' y', (eqGuard op t x' y' cx cy).run S.P w' = .ok () w') ∧
      (∀ op, op = .eql ∨ op = .neq → binOp op t cx cy = (match op with | .eql => do pure (.bool (← Op.equal t cx cy)) | _ => do pure (.bool (!(← Op.equal t cx cy)))))

theorem EqOK.mk' {t : TypeId} {cx cy : Value} {r : Bool} (h : ∀ d, (Op.equalIn (d + 8) t cx cy).run S.P g.w = .ok r g.w) (h1 : ∀ cs, cx ≠ .agg cs) (h2 : cx ≠ .nilIface)
    (h3 : ∀ op, op = .eql ∨ op = .neq → binOp op t cx cy = (match op with | .eql => do pure (.bool (← Op.equal t cx cy)) | _ => do pure (.bool (!(← Op.equal t cx cy))))) : EqOK S g t cx cy r :=
  ⟨h, fun _ op x' y' => run_guard op t x' y' h1 h2, h3⟩

theorem eqA_bool {t : TypeId} (hu : S.P.underlying t = some .bool) {x y : AV} {cx cy : Value} (hx : Rep g x cx) (hy : Rep g y cy) {r : Bool} (hr : eqA σ .bool x y = some r) : EqOK S g t cx cy r := by
  simp only [eqA] at hr
  unfold eqK at hr
  split at hr
  case h_3 h =>
    cases hx; cases hy
    rename_i b1 b2
    cases hr
    refine EqOK.mk' (fun d => ?_) (by simp) (by simp) fun op ho => by rcases ho with rfl | rfl <;> rfl
    rw [show (cond b1 b2 (!b2)) = (b1 == b2) from by cases b1 <;> cases b2 <;> rfl]
    exact run_equalIn_bool g.w (d + 7) t b1 b2 hu
  all_goals first | contradiction | cases hr

theorem eqA_ptr (h : Inv S g σ) {t e : TypeId} (hu : S.P.underlying t = some (.pointer e)) (hsz : S.P.cellsOf e ≠ 0) {x y : AV} {cx cy : Value} (hx : Rep g x cx) (hy : Rep g y cy) {r : Bool}
    (hr : eqA σ .ptr x y = some r) : EqOK S g t cx cy r := by
  by_cases hp : ∃ i a1 j a2, x = .ptr i a1 ∧ y = .ptr j a2
  · obtain ⟨i, a1, j, a2, rfl, rfl⟩ := hp
    simp only [eqA, nbeq] at hr
    by_cases hij : i = j
    · subst hij
      simp only [decide_true, cond_true] at hr
      cases hg : σ.get i with
      | none => rw [hg] at hr; cases hr
      | some blk =>
        rw [hg] at hr
        simp only [Option.some.injEq] at hr
        obtain ⟨p, hp, _⟩ := h.live i blk hg
        cases hx with | ptr _ _ ad1 _ h1 => cases hy with | ptr _ _ ad2 _ h2 =>
        have e1 := h1 p hp
        have e2 := h2 p hp
        subst e1; subst e2
        refine EqOK.mk' (fun d => ?_) (by simp) (by simp) fun op ho => by rcases ho with rfl | rfl <;> rfl
        rw [eqi_ptr (d + 7) hu hsz, ← hr]
        congr 1
        exact decide_eq_decide.2 (by omega)
    · simp [hij] at hr
  · have hr' : eqPtr x y = some r := by
      cases x <;> cases y <;> first | exact hr | exact absurd ⟨_, _, _, _, rfl, rfl⟩ hp
    unfold eqPtr at hr'
    split at hr' <;> cases hr' <;> cases hx <;> cases hy <;> refine EqOK.mk' (fun d => ?_) (by simp) (by simp) fun op ho => by rcases ho with rfl | rfl <;> rfl
    · exact eqi_ptr_nil (d + 7) hu _ _
    · exact eqi_ptr_nil (d + 7) hu _ _
    · exact eqi_ptr_nil' (d + 7) hu _ _
    · exact eqi_ptr_nil (d + 7) hu _ _
    · exact eqi_ptr_nil' (d + 7) hu _ _

theorem eqA_slice {t e : TypeId} (hu : S.P.underlying t = some (.slice e)) {x y : AV} {cx cy : Value} (hx : Rep g x cx) (hy : Rep g y cy) {r : Bool} (hr : eqSl x y = some r) : EqOK S g t cx cy r := by
  unfold eqSl at hr
  split at hr <;> cases hr <;> cases hx <;> cases hy <;> refine EqOK.mk' (fun d => ?_) (by simp) (by simp) fun op ho => by rcases ho with rfl | rfl <;> rfl
  · exact eqi_sl_nil (d + 7) hu _ _ _ _ _ _
  · exact eqi_sl_nil (d + 7) hu _ _ _ _ _ _
  · exact eqi_sl_nil' (d + 7) hu _ _ _ _ _ _
  · exact eqi_sl_nil (d + 7) hu _ _ _ _ _ _
  · exact eqi_sl_nil' (d + 7) hu _ _ _ _ _ _

theorem eqA_map {t k e : TypeId} (hu : S.P.underlying t = some (.map k e)) {x y : AV} {cx cy : Value} (hx : Rep g x cx) (hy : Rep g y cy) {r : Bool} (hr : eqMap x y = some r) : EqOK S g t cx cy r := by
  unfold eqMap at hr
  split at hr <;> cases hr <;> cases hx <;> cases hy <;> refine EqOK.mk' (fun d => ?_) (by simp) (by simp) fun op ho => by rcases ho with rfl | rfl <;> rfl
  · exact eqi_map_nil (d + 7) hu _ _
  · exact eqi_map_nil (d + 7) hu _ _
  · exact eqi_map_nil' (d + 7) hu _ _
  · exact eqi_map_nil (d + 7) hu _ _
  · exact eqi_map_nil' (d + 7) hu _ _

theorem eqA_fn {t : TypeId} {ps rs : Array TypeId} {v : Bool} (hu : S.P.underlying t = some (.func ps rs v)) {x y : AV} {cx cy : Value} (hx : Rep g x cx) (hy : Rep g y cy) {r : Bool} (hr : eqFn x y = some r) : EqOK S g t cx cy r := by
  unfold eqFn at hr
  split at hr <;> cases hr <;> cases hx <;> cases hy <;> refine EqOK.mk' (fun d => ?_) (by simp) (by simp) fun op ho => by rcases ho with rfl | rfl <;> rfl
  · exact eqi_fn_nil (d + 7) hu _
  · exact eqi_fn_l (d + 7) hu _ _ _ _
  · exact eqi_fn_r (d + 7) hu _ _ _ _
  · exact eqi_fn_l (d + 7) hu _ _ _ _
  · exact eqi_fn_r (d + 7) hu _ _ _ _

theorem eqA_agg {t : TypeId} (hagg : isAggT S.P t = true) (hgd : S.P.eqGuardType S.P.depth t = false) {ks : List K1} (hf : flatT S.P 8 t = some ks) {xs ys : List AV} {cx cy : Value} (hx : Rep g (.agg xs) cx) (hy : Rep g (.agg ys) cy)
    {r : Bool} (hr : eqCells ks xs ys = some r) : EqOK S g t cx cy r := by
  obtain ⟨cxs, rfl, rx, _⟩ := hx.agg_inv
  obtain ⟨cys, rfl, ry, _⟩ := hy.agg_inv
  have hce := ce_of hr rx ry
  refine ⟨fun d => ?_, fun w' op x' y' => run_eqGuard_agg w' op t x' y' _ _ hgd, fun op ho => by rcases ho with rfl | rfl <;> rfl⟩
  have := run_flat g.w 8 t ks hf d cxs cys r hce
  simpa only [mkV, hagg, if_true] using this

theorem eqA_spec (h : Inv S g σ) {t : TypeId} {k : TK} (hk : cTK S.P t = some k) {x y : AV} {cx cy : Value} (hx : Rep g x cx) (hy : Rep g y cy) {r : Bool} (hr : eqA σ k x y = some r) : EqOK S g t cx cy r := by
  unfold cTK at hk
  split at hk
  · rename_i hu; cases hk; exact eqA_bool hu hx hy hr
  · rename_i e hu
    split at hk
    · cases hk
    · rename_i hsz
      cases hk
      exact eqA_ptr h hu (by rw [nbeq] at hsz; simpa using hsz) hx hy hr
  · rename_i hu; cases hk; exact eqA_slice hu hx hy hr
  · rename_i hu; cases hk; exact eqA_map hu hx hy hr
  · rename_i hu; cases hk; exact eqA_fn hu hx hy hr
  · rename_i hu
    split at hk
    · cases hk
    · rename_i hgd
      split at hk
      · rename_i ks hf
        cases hk
        unfold eqA at hr
        split at hr <;> try (rename_i hh; cases hh)
        all_goals first | contradiction | skip
        all_goals exact eqA_agg (by simp [isAggT, hu]) (by simpa using hgd) hf hx hy hr
      · cases hk
  · rename_i hu
    split at hk
    · cases hk
    · rename_i hgd
      split at hk
      · rename_i ks hf
        cases hk
        unfold eqA at hr
        split at hr <;> try (rename_i hh; cases hh)
        all_goals first | contradiction | skip
        all_goals exact eqA_agg (by simp [isAggT, hu]) (by simpa using hgd) hf hx hy hr
      · cases hk
  · cases hk

theorem v_eqv (h : St S g0 m fr a σ g bx) {op : BinOp} {t u : TypeId} {x y : Operand} (ho : o.op = .binOp op t x y u) {neg : Bool} (hop : op = cond neg .neq .eql) {k : TK} (hk : cTK S.P t = some k)
    {vx vy : AV} (hx : Rep g vx (a.eval x)) (hy : Rep g vy (a.eval y)) {r : Bool} (hr : eqA σ k vx vy = some r) : VOut S g0 m o a fr σ g bx (.bool (cond neg (!r) r)) := by
  obtain ⟨h1, h2, h3⟩ := eqA_spec h.inv hk hx hy hr
  have heq : (Op.equal t (a.eval x) (a.eval y)).run S.P g.w = .ok r g.w := h1 9992
  refine VOut.pure h (cv := .bool (cond neg (!r) r)) ?_ (.bool _)
  cases neg
  · simp only [cond_false] at hop ⊢
    subst hop
    simp only [execOp, ho, Sem.run_bind, h2, Result.andThen_ok, h3 .eql (.inl rfl), heq, Sem.run_pure]
  · simp only [cond_true] at hop ⊢
    subst hop
    simp only [execOp, ho, Sem.run_bind, h2, Result.andThen_ok, h3 .neq (.inr rfl), heq, Sem.run_pure]

end
end Go.Vm

/- Operations that look at values and memory and leave both as they are: conversions, addresses, parts, lengths, cuts. -/
namespace Go.Vm
open Go
variable {S : Sys} {P : Program}
section
variable {g0 g : G} {m : Meta} {fr stk : List AV} {a : Act} {σ : Store} {bx : Nat → Option Nat} {env : RE} {o : Oper}

theorem v_convInt (h : St S g0 m fr a σ g bx) {s d : TypeId} {x : Operand} (ho : o.op = .convert s d x) {k k0 j : IntKind} {n : Int} (hs : S.P.underlying s = some (.int k0)) (hd : S.P.underlying d = some (.int k)) (hx : Rep g (.int j n) (a.eval x)) :
    VOut S g0 m o a fr σ g bx (mkI k n) := by
  generalize hcx : a.eval x = cx at hx
  cases hx
  rw [mkI_eq]
  refine VOut.pure h (cv := .int k (k.wrap n)) ?_ (.int _ _)
  simp only [execOp, ho, hcx, convert, Sem.run_bind, run_underlying hs, run_underlying hd, Result.andThen_ok]
  rfl

theorem v_convSS (h : St S g0 m fr a σ g bx) {s d : TypeId} {x : Operand} (ho : o.op = .convert s d x) (hs : S.P.underlying s = some .string) (hd : S.P.underlying d = some .string) {l : List Nat} (hx : Rep g (.str l) (a.eval x)) :
    VOut S g0 m o a fr σ g bx (.str l) := by
  refine VOut.pure h (cv := a.eval x) ?_ hx
  generalize hcx : a.eval x = cx at hx
  cases hx
  simp only [execOp, ho, hcx, convert, Sem.run_bind, run_underlying hs, run_underlying hd, Result.andThen_ok]
  rfl

theorem bytesOf_spec : ∀ {cs : List AV} {vs : List Value} {l : List Nat}, bytesOf cs = some l → Reps g cs vs → vs = l.map (fun n => .int .u8 (Int.ofNat n)) ∧ ∀ n ∈ l, n < 256
  | [], vs, l, h, hr => by cases h; cases hr; exact ⟨rfl, by simp⟩
  | c :: cs, vs, l, h, hr => by
    unfold bytesOf at h
    split at h
    · cases h
      rename_i he; cases he
    · rename_i n r he
      cases he
      split at h
      · rename_i l' hl'
        split at h
        · rename_i hlt
          cases h
          rw [nblt] at hlt
          cases hr with | cons r1 t1 =>
          cases r1
          obtain ⟨rfl, h2⟩ := bytesOf_spec hl' t1
          exact ⟨rfl, by simpa using ⟨of_decide_eq_true hlt, h2⟩⟩
        · cases h
      · cases h
    · cases h

theorem foldl_push : ∀ (l : List Nat) (b : ByteArray), (∀ n ∈ l, n < 256) → toNats ((l.map Int.ofNat).foldl (fun r n => r.push (UInt8.ofNat n.toNat)) b) = toNats b ++ l
  | [], b, _ => by simp
  | n :: l, b, h => by
    simp only [List.map_cons, List.foldl_cons]
    rw [foldl_push l _ fun k hk => h k (by simp [hk])]
    have : toNats (b.push (UInt8.ofNat (Int.ofNat n).toNat)) = toNats b ++ [n] := by
      unfold toNats
      simp [ByteArray.data_push, Nat.mod_eq_of_lt (h n (by simp))]
    rw [this]; simp

theorem live_row (h : Inv S g σ) {id : Nat} {ty fz : Nat} {cs : List AV} (hg : σ.get id = some (.cells ty fz cs)) : ∃ p vs, g.φ id = some p ∧ RowAt g p.1 p.2 cs vs := by
  obtain ⟨p, hp, hb⟩ := h.live id _ hg
  obtain ⟨vs, hv⟩ := blk_row hb
  exact ⟨p, vs, hp, hv⟩

/-- The first cells of a slice, or a text. -/
theorem first_spec (h : Inv S g σ) {es : Nat} {v : AV} {cv : Value} {cs : List AV} {len : Nat} (hr : Rep g v cv) (hrow : rowOf σ es v = some cs) (hl : lenA v = some len) :
    (Builtin.lenOf cv).run P g.w = .ok len g.w ∧ cs.length = len * es ∧ (∀ c ∈ cs, one c = true) ∧
      ∀ n, n ≤ len → ∃ vs, (Builtin.firstCells es n cv).run P g.w = .ok vs.toArray g.w ∧ Reps g (cs.take (n * es)) vs := by
  cases hr <;> simp only [lenA, Option.some.injEq, reduceCtorEq] at hl
  · rename_i b
    subst hl
    simp only [rowOf] at hrow
    split at hrow
    · rename_i he
      have := beq_true he
      subst this
      cases hrow
      refine ⟨by rw [toNats_length]; rfl, by simp, by simp [one], fun n hn => ⟨((toNats b).take n).map fun (q : Nat) => .int .u8 (Int.ofNat q), ?_, ?_⟩⟩
      · unfold Builtin.firstCells
        simp only [Sem.run_pure]
        congr 1
        apply Array.ext'
        have : (b.extract 0 n).data.toList = b.data.toList.take n := by simp [ByteArray.data_extract]
        simp only [Array.toList_map, this, toNats, ← List.map_take, List.map_map]
        rfl
      · rw [Nat.mul_one, ← List.map_take]
        generalize (toNats b).take n = l
        induction l with
        | nil => exact .nil
        | cons q l ih => exact .cons (.int _ _) ih
    · cases hrow
  · subst hl
    simp only [rowOf, Option.some.injEq] at hrow
    subst hrow
    exact ⟨rfl, by simp, by simp, fun n hn => ⟨[], by simp [Builtin.firstCells], by simp; exact .nil⟩⟩
  · rename_i id off len' cap es' ad ccap hn hle hcap hphi
    subst hl
    simp only [rowOf] at hrow
    split at hrow
    · rename_i ty fz bcs hg
      obtain ⟨p, vs, hp, hrw⟩ := live_row h hg
      obtain ⟨hadr, _⟩ := hphi p hp
      rw [readN_eq] at hrow
      split at hrow
      · rename_i hrl
        cases hrow
        refine ⟨rfl, by simp; omega, fun c hc => hrw.ones c (List.mem_of_mem_drop (List.mem_of_mem_take hc)), fun n hn' => ⟨(vs.drop off).take (n * es), ?_, ?_⟩⟩
        · have hnl : n * es ≤ len' * es := Nat.mul_le_mul_right _ hn'
          have hvl := hrw.reps.length
          have hlen : n * es = ((vs.drop off).take (n * es)).length := by simp; omega
          unfold Builtin.firstCells
          rcases hadr with h0 | h0
          · have : n = 0 := by omega
            subst this
            simp [loadCells, loadCellsFrom]
          · subst h0
            exact run_loadCells' (hrw.sub off (n * es)) hlen
        · rw [List.take_take, Nat.min_eq_left (Nat.mul_le_mul_right _ hn')]
          exact (hrw.reps.drop off).take _
      · cases hrow
    · cases hrow
  · rename_i t cs' len' cap es' b base ccap sp vs hlen hle hcap hs hok h1 hvl hc hrr
    subst hl
    simp only [rowOf] at hrow
    rw [takeN_eq] at hrow
    split at hrow
    · rename_i hrl
      cases hrow
      have hrow : RowAt g b base cs' vs := ⟨forall2_of hvl hrr, h1, hc⟩
      refine ⟨rfl, by simp; omega, fun c hc => h1 c (List.mem_of_mem_take hc), fun n hn' => ⟨vs.take (n * es), ?_, ?_⟩⟩
      · have hnl : n * es ≤ len' * es := Nat.mul_le_mul_right _ hn'
        unfold Builtin.firstCells
        by_cases hz : n * es = 0
        · rw [hz]; simp [loadCells, loadCellsFrom]
        · have hne : cs' ≠ [] := by intro e; subst e; simp at hrl; omega
          have hsp := (hs hne).2.2
          subst hsp
          have hrow' : RowAt g b base (cs'.take (n * es)) (vs.take (n * es)) := by simpa using hrow.sub 0 (n * es)
          exact run_loadCells' hrow' (by simp; omega)
      · rw [List.take_take, Nat.min_eq_left (Nat.mul_le_mul_right _ hn')]
        exact hrow.reps.take _
    · cases hrow

theorem v_mkfn (h : St S g0 m fr a σ g bx) {f : Nat} {first caps : Array Operand} (ho : o.op = .makeFunc (.func f) first caps) {as bs : List AV} (ha : Reps g as (first.toList.map a.eval)) (hb : Reps g bs (caps.toList.map a.eval)) :
    VOut S g0 m o a fr σ g bx (.fn f as bs) := by
  refine VOut.pure h (cv := .func (.func f) (first.map a.eval) (caps.map a.eval)) ?_ ?_
  · simp only [execOp, ho, Instr.makeFunc, Sem.run_bind]; rfl
  · obtain ⟨l1, r1⟩ := of_forall2 ha
    obtain ⟨l2, r2⟩ := of_forall2 hb
    refine .fn f as bs _ _ (by simpa using l1) (by simpa using l2) (fun i c v hc hv => r1 i c v hc ?_) (fun i c v hc hv => r2 i c v hc ?_)
    · rw [← Array.getElem?_toList] at hv; simpa using hv
    · rw [← Array.getElem?_toList] at hv; simpa using hv

theorem v_ext (h : St S g0 m fr a σ g bx) {x : Operand} {i : Nat} (ho : o.op = .extract x i) {vs : List AV} {v : AV} (hx : Rep g (.tup vs) (a.eval x)) (hv : vs[i]? = some v) : VOut S g0 m o a fr σ g bx v := by
  generalize hcx : a.eval x = cx at hx
  obtain ⟨cs, rfl, hr⟩ := hx.tup_inv
  obtain ⟨cv, hcv, hrep⟩ := Both.get hr hv
  refine VOut.pure h (cv := cv) ?_ hrep
  simp [execOp, ho, hcx, Instr.extract, hcv]

theorem part_spec {t : TypeId} (ht : (P.underlying t).isSome) {cs : List AV} {cvs : List Value} {off : Nat} (hr : Reps g cs cvs) (h1 : ∀ c ∈ cs, one c = true) {r : List AV} {v : AV} (hrd : readN cs off (P.cellsOf t) = some r)
    (hp : pack (isAggT P t) r = some v) : ∃ cv, (part t cvs.toArray off).run P g.w = .ok cv g.w ∧ Rep g v cv := by
  obtain ⟨d, hd⟩ := Option.isSome_iff_exists.1 ht
  rw [readN_eq] at hrd
  split at hrd
  case isFalse => cases hrd
  rename_i hle
  cases hrd
  have hlen := hr.length
  unfold pack at hp
  by_cases ha : isAggT P t = true
  · rw [ha] at hp
    simp only [if_true, Option.some.injEq] at hp
    subst hp
    refine ⟨mkV P t ((cvs.drop off).take (P.cellsOf t)), ?_, ?_⟩
    · unfold part mkV
      simp only [Sem.run_bind, run_isAgg' hd, Result.andThen_ok, ha, if_true, run_size (info_of_underlying hd), Sem.run_pure]
      congr 2
      apply Array.ext'
      simp
    · simp only [mkV, ha, if_true]
      exact Rep.agg' (fun c hc => h1 c (List.mem_of_mem_drop (List.mem_of_mem_take hc))) ((hr.drop off).take _)
  · rw [if_neg ha] at hp
    split at hp
    case h_2 => cases hp
    rename_i he
    cases hp
    have ha' : isAggT P t = false := by simpa using ha
    have hl1 : ((cs.drop off).take (P.cellsOf t)).length = 1 := by rw [he]; rfl
    simp only [List.length_take, List.length_drop] at hl1
    have hg : cs[off]? = some v := by
      have : ((cs.drop off).take (P.cellsOf t))[0]? = some v := by rw [he]; rfl
      rw [List.getElem?_take] at this
      split at this
      · simpa using this
      · cases this
    obtain ⟨y, hy, hry⟩ := Both.get hr hg
    refine ⟨y, ?_, hry⟩
    unfold part
    simp only [Sem.run_bind, run_isAgg' hd, Result.andThen_ok, ha', Bool.false_eq_true, if_false]
    simp [hy]

theorem v_getf (h : St S g0 m fr a σ g bx) {t : TypeId} {x : Operand} {i : Nat} (ho : o.op = .field t x i) {fs : Array Field} {f : Field} (hu : S.P.underlying t = some (.struct fs)) (hf : fs[i]? = some f) (ht : (S.P.underlying f.type).isSome)
    {cs r : List AV} {v : AV} (hx : Rep g (.agg cs) (a.eval x)) (hrd : readN cs f.offset (S.P.cellsOf f.type) = some r) (hp : pack (isAggT S.P f.type) r = some v) : VOut S g0 m o a fr σ g bx v := by
  generalize hcx : a.eval x = cx at hx
  obtain ⟨cvs, rfl, hr, h1⟩ := hx.agg_inv
  obtain ⟨cv, hrun, hrep⟩ := part_spec ht hr h1 hrd hp
  refine VOut.pure h (cv := cv) ?_ hrep
  simp only [execOp, ho, hcx, Instr.field, Sem.run_bind, run_underlying hu, Result.andThen_ok, hf, asAgg, Sem.run_pure, hrun]

theorem asN_spec {y i : Nat} {v : AV} {cv : Value} (h : asN y v = some i) (hr : Rep g v cv) : ∃ k, cv = .int k (Int.ofNat i) ∧ i ≤ y := by
  unfold asN at h
  split at h
  · rename_i k n
    rw [nble] at h
    split at h
    · cases h
      rename_i hle
      cases hr
      exact ⟨k, rfl, of_decide_eq_true hle⟩
    · cases h
  · cases h

theorem v_idxA (h : St S g0 m fr a σ g bx) {t e : TypeId} {x ix : Operand} (ho : o.op = .index t x ix) {n : Nat} (hu : S.P.underlying t = some (.array n e)) (ht : (S.P.underlying e).isSome) {k : IntKind} {i : Nat}
    (hi : Rep g (.int k (.ofNat i)) (a.eval ix)) (hlt : i < n) {cs r : List AV} {v : AV} (hx : Rep g (.agg cs) (a.eval x)) (hrd : readN cs (i * S.P.cellsOf e) (S.P.cellsOf e) = some r) (hp : pack (isAggT S.P e) r = some v) :
    VOut S g0 m o a fr σ g bx v := by
  generalize hcx : a.eval x = cx at hx
  generalize hci : a.eval ix = ci at hi
  cases hi
  obtain ⟨cvs, rfl, hr, h1⟩ := hx.agg_inv
  obtain ⟨cv, hrun, hrep⟩ := part_spec ht hr h1 hrd hp
  obtain ⟨d, hd⟩ := Option.isSome_iff_exists.1 ht
  refine VOut.pure h (cv := cv) ?_ hrep
  simp only [execOp, ho, hcx, hci, Instr.index, asIntOf, Sem.run_bind, run_underlying hu, Result.andThen_ok, Sem.run_pure, Sem.run_ite, run_size (info_of_underlying hd)]
  rw [if_pos ⟨by exact Int.natCast_nonneg i, by exact Int.ofNat_lt.2 hlt⟩]
  simp only [Result.andThen_ok, Int.ofNat_eq_natCast, Int.toNat_natCast, hrun]

theorem v_idxStr (h : St S g0 m fr a σ g bx) {t : TypeId} {x ix : Operand} (ho : o.op = .index t x ix) (hu : S.P.underlying t = some .string) {k : IntKind} {i b : Nat} (hi : Rep g (.int k (.ofNat i)) (a.eval ix)) {s : List Nat}
    (hx : Rep g (.str s) (a.eval x)) (hb : s[i]? = some b) : VOut S g0 m o a fr σ g bx (.int .u8 (.ofNat b)) := by
  generalize hcx : a.eval x = cx at hx
  generalize hci : a.eval ix = ci at hi
  cases hi
  cases hx
  rename_i bs
  simp only [toNats, List.getElem?_map, Option.map_eq_some_iff] at hb
  obtain ⟨c, hc, rfl⟩ := hb
  refine VOut.pure h (cv := .int .u8 c.toNat) ?_ (.int _ _)
  have hc' : bs[i]? = some c := by
    obtain ⟨hlt, he⟩ := List.getElem?_eq_some_iff.1 hc
    rw [getElem?_pos bs i (by simpa using hlt)]
    congr 1
  simp only [execOp, ho, hcx, hci, Instr.index, asIntOf, Sem.run_bind, run_underlying hu, Result.andThen_ok, Sem.run_pure]
  rw [if_pos (show (0 : Int) ≤ Int.ofNat i from Int.natCast_nonneg i)]
  simp only [Int.ofNat_eq_natCast, Int.toNat_natCast, hc', Sem.run_pure, Result.andThen_ok]


theorem v_convStr (h : St S g0 m fr a σ g bx) {s d e : TypeId} {x : Operand} (ho : o.op = .convert s d x) (hs : S.P.underlying s = some (.slice e)) (he : S.P.underlying e = some (.int .u8)) (hd : S.P.underlying d = some .string) {v : AV} {cs : List AV}
    {l : List Nat} (hx : Rep g v (a.eval x)) (hn : ∀ q, v ≠ .str q) (hrow : rowOf σ 1 v = some cs) (hb : bytesOf cs = some l) : VOut S g0 m o a fr σ g bx (.str l) := by
  generalize hcx : a.eval x = cx at hx
  have hlen : ∃ len, lenA v = some len := by
    cases v <;> first | exact ⟨_, rfl⟩ | (simp [rowOf] at hrow; done)
  obtain ⟨len, hlen⟩ := hlen
  obtain ⟨_, hcl, _, hf⟩ := first_spec (P := S.P) h.inv hx hrow hlen
  obtain ⟨vs, hrun, hreps⟩ := hf len (Nat.le_refl _)
  rw [List.take_of_length_le (by omega)] at hreps
  obtain ⟨rfl, h256⟩ := bytesOf_spec hb hreps
  have key : ∃ bs, (Conv.bytesToString cx).run S.P g.w = .ok (.string bs) g.w ∧ toNats bs = l := by
    cases hx
    case str => exact absurd rfl (hn _)
    case nils =>
      simp only [rowOf, Option.some.injEq] at hrow
      subst hrow
      cases hb
      exact ⟨.empty, rfl, rfl⟩
    case sl =>
      simp only [lenA, Option.some.injEq] at hlen
      subst hlen
      simp only [Builtin.firstCells, Nat.mul_one] at hrun
      refine ⟨_, run_bytesToString g.w _ _ _ (l.map Int.ofNat) ?_, ?_⟩
      · rw [hrun]; simp
      · rw [foldl_push l _ h256]; rfl
    case lit =>
      simp only [lenA, Option.some.injEq] at hlen
      subst hlen
      simp only [Builtin.firstCells, Nat.mul_one] at hrun
      refine ⟨_, run_bytesToString g.w _ _ _ (l.map Int.ofNat) ?_, ?_⟩
      · rw [hrun]; simp
      · rw [foldl_push l _ h256]; rfl
    all_goals simp [rowOf] at hrow
  obtain ⟨bs, hr, rfl⟩ := key
  refine VOut.pure h (cv := .string bs) ?_ (.str bs)
  have hns : ∀ q, cx ≠ .string q := by
    intro q e; subst e
    cases hx
    exact hn _ rfl
  have hni : ∀ k q, cx ≠ .int k q := by
    intro k q e; subst e
    cases hx
    simp [rowOf] at hrow
  have : (convert s d cx).run S.P g.w = .ok (.string bs) g.w := by
    unfold convert
    simp only [Sem.run_bind, run_underlying hs, run_underlying hd, Result.andThen_ok]
    cases cx <;> first | exact absurd rfl (hns _) | exact absurd rfl (hni _ _) | (simp only [run_underlying he, Result.andThen_ok, hr])
  simp only [execOp, ho, hcx, Sem.run_bind, this, Result.andThen_ok]
  rfl

theorem lenK_spec (h : Inv S g σ) {k : LK} {v : AV} {cv : Value} {n : Nat} (hr : Rep g v cv) (hn : lenK σ k v = some n) {t : TypeId} {ty : TypeId} {ats : Array TypeId} (ht : ats[0]? = some t)
    (hu : match k with | .sl => ∃ e, S.P.underlying t = some (.slice e) | .str => S.P.underlying t = some .string | .map => ∃ q e, S.P.underlying t = some (.map q e)) :
    (Builtin.len_ ats ty #[cv]).run S.P g.w = .ok (.int .i64 (.ofNat n)) g.w := by
  cases k
  · obtain ⟨e, hu⟩ := hu
    cases hr <;> simp only [lenK, Option.some.injEq, reduceCtorEq] at hn <;> subst hn <;> simp only [Builtin.len_, ht, List.getElem?_toArray, List.getElem?_cons_zero, Sem.run_bind, run_underlying hu, Result.andThen_ok] <;> rfl
  · cases hr <;> simp only [lenK, Option.some.injEq, reduceCtorEq] at hn
    subst hn
    have hu' : S.P.underlying t = some .string := hu
    simp only [Builtin.len_, ht, List.getElem?_toArray, List.getElem?_cons_zero, Sem.run_bind, run_underlying hu', Result.andThen_ok, toNats_length]
    rfl
  · obtain ⟨q, e, hu⟩ := hu
    cases hr <;> simp only [lenK, Option.some.injEq, reduceCtorEq] at hn
    · subst hn
      simp only [Builtin.len_, ht, List.getElem?_toArray, List.getElem?_cons_zero, Sem.run_bind, run_underlying hu, Result.andThen_ok]
      rfl
    · rename_i id r hid hphi
      split at hn
      · rename_i ks vs hg
        cases hn
        obtain ⟨p, hp, hb⟩ := h.live id _ hg
        cases hb with | map _ _ es clock h0 hh hk hv' hkey =>
        have := hphi p hp
        subst this
        have hkl := hk.length
        simp at hkl
        simp only [Builtin.len_, ht, List.getElem?_toArray, List.getElem?_cons_zero, Sem.run_bind, run_underlying hu, Result.andThen_ok, getObj, Sem.run, hh, Sem.run_pure, lenR_eq, hkl]
        rfl
      · cases hn
    · rename_i t' ks vs r es clock hs hh hk hv' ho ho' hkey hks hvs
      subst hn
      simp only [Builtin.len_, ht, List.getElem?_toArray, List.getElem?_cons_zero, Sem.run_bind, run_underlying hu, Result.andThen_ok, getObj, Sem.run, hh, Sem.run_pure, lenR_eq, hk]
      rfl

theorem run_builtin {c : Call} {b : Builtin} (ho : o.op = .call c) (hc : c.callee = .builtin b) (w : World) : (execOp a.eval o).run P w = (builtin b c.argTypes o.type (c.args.map fun | .const _ => true | _ => false) (c.args.map a.eval)).run P w := by
  simp only [execOp, ho, resolve, hc, Sem.run_bind, Sem.run_pure, Result.andThen_ok, invoke]
  rfl

theorem v_len (h : St S g0 m fr a σ g bx) {c : Call} (ho : o.op = .call c) (hc : c.callee = .builtin .len) {x : Operand} (ha : c.args.toList = [x]) {t : TypeId} (ht : c.argTypes[0]? = some t) {k : LK} {v : AV} {n : Nat} (hx : Rep g v (a.eval x))
    (hu : match k with | .sl => ∃ e, S.P.underlying t = some (.slice e) | .str => S.P.underlying t = some .string | .map => ∃ q e, S.P.underlying t = some (.map q e)) (hn : lenK σ k v = some n) :
    VOut S g0 m o a fr σ g bx (.int .i64 (.ofNat n)) := by
  have hargs : c.args = #[x] := Array.toList_inj.1 (by simpa using ha)
  refine VOut.pure h (cv := .int .i64 (.ofNat n)) ?_ (.int _ _)
  rw [run_builtin ho hc]
  have := lenK_spec h.inv hx hn (ty := o.type) ht hu
  simp only [builtin, hargs, List.map_toArray, List.map_cons, List.map_nil, Sem.run_bind, this, Result.andThen_ok]
  rfl

theorem v_lenArr (h : St S g0 m fr a σ g bx) {c : Call} (ho : o.op = .call c) (hc : c.callee = .builtin .len) {x : Operand} (ha : c.args.toList = [x]) {t : TypeId} (ht : c.argTypes[0]? = some t) {n : Nat} {e : TypeId}
    (hu : S.P.underlying t = some (.array n e)) : VOut S g0 m o a fr σ g bx (.int .i64 (.ofNat n)) := by
  have hargs : c.args = #[x] := Array.toList_inj.1 (by simpa using ha)
  refine VOut.pure h (cv := .int .i64 (.ofNat n)) ?_ (.int _ _)
  rw [run_builtin ho hc]
  simp only [builtin, hargs, List.map_toArray, List.map_cons, List.map_nil, Sem.run_bind, Builtin.len_, ht, List.getElem?_toArray, List.getElem?_cons_zero, run_underlying hu, Result.andThen_ok]
  rfl

/-! ### Addresses -/
def isRef : AV → Bool
  | .ptr .. | .plit .. | .fn .. | .yield _ => true
  | _ => false

theorem v_nilc (h : St S g0 m fr a σ g bx) {x : Operand} (ho : o.op = .nilCheck x) {v : AV} (hx : Rep g v (a.eval x)) (hv : isRef v = true) : VOut S g0 m o a fr σ g bx v := by
  refine VOut.pure h (cv := a.eval x) ?_ hx
  generalize hcx : a.eval x = cx at hx
  cases hx <;> first | (simp [isRef] at hv; done) | (simp only [execOp, ho, hcx]; rfl)

theorem run_fieldAt {t : TypeId} {fs : Array Field} {f : Field} {i : Nat} (hu : P.underlying t = some (.struct fs)) (hf : fs[i]? = some f) (hz : P.cellsOf f.type ≠ 0) (ad : Addr) (w : World) :
    (Instr.fieldAt t (.pointer (some ad)) i).run P w = .ok (.pointer (some (ad.add f.offset))) w := by
  simp only [Instr.fieldAt, Sem.run_bind, run_underlying hu, Result.andThen_ok, hf, Instr.sureAddr, Sem.run_pure, fieldPlace, run_size (info_of_cells hz), Sem.run_ite, hz, if_false]

/-- An address moved on. -/
theorem ptr_add {id off : Nat} {ad : Addr} (h : Rep g (.ptr id off) (.pointer (some ad))) (n : Nat) : Rep g (.ptr id (off + n)) (.pointer (some (ad.add n))) := by
  cases h with | ptr _ _ _ hn hphi =>
  refine .ptr id _ _ hn fun p hp => ?_
  rw [hphi p hp, addr_add, Nat.add_assoc]
theorem plit_add {q : Bool} {cs : List AV} {off : Nat} {cv : Value} (h : Rep g (.plit q cs off) cv) (n : Nat) : ∃ ad, cv = .pointer (some ad) ∧ Rep g (.plit q cs (off + n)) (.pointer (some (ad.add n))) := by
  cases h with | plit _ _ _ b base vs hs hb hok h1 hvl hc hr =>
  refine ⟨_, rfl, ?_⟩
  rw [addr_add, Nat.add_assoc]
  exact .plit q cs (off + n) b base vs hs hb hok h1 hvl hc hr

/-- An address, moved on. -/
def movedA (n : Nat) : AV → Option AV
  | .ptr id off => some (.ptr id (off + n))
  | .plit q cs off => some (.plit q cs (off + n))
  | _ => none
theorem moved_spec {n : Nat} {v w : AV} {cv : Value} (h : movedA n v = some w) (hr : Rep g v cv) : ∃ ad, cv = .pointer (some ad) ∧ Rep g w (.pointer (some (ad.add n))) := by
  unfold movedA at h
  split at h <;> cases h
  · cases hr with | ptr _ _ ad hn hphi => exact ⟨ad, rfl, ptr_add (.ptr _ _ ad hn hphi) n⟩
  · exact plit_add hr n

theorem v_fld (h : St S g0 m fr a σ g bx) {t : TypeId} {x : Operand} {i : Nat} (ho : o.op = .fieldAddr t x i) {fs : Array Field} {f : Field} (hu : S.P.underlying t = some (.struct fs)) (hf : fs[i]? = some f) (hz : S.P.cellsOf f.type ≠ 0)
    {v w : AV} (hx : Rep g v (a.eval x)) (hv : movedA f.offset v = some w) : VOut S g0 m o a fr σ g bx w := by
  generalize hcx : a.eval x = cx at hx
  obtain ⟨ad, rfl, hr⟩ := moved_spec hv hx
  refine VOut.pure h ?_ hr
  simp only [execOp, ho, hcx, Sem.run_bind, run_fieldAt hu hf hz, Result.andThen_ok]
  rfl

theorem run_indexAt_arr {t e : TypeId} {n : Nat} (hu : P.underlying t = some (.array n e)) (hz : ∃ i, P.info? e = some i) {k : IntKind} {i : Nat} (hlt : i < n) (ad : Addr) (w : World) :
    (Instr.indexAt t (.pointer (some ad)) (.int k (.ofNat i))).run P w = .ok (.pointer (some (ad.add (i * P.cellsOf e)))) w := by
  simp only [Instr.indexAt, asIntOf, Sem.run_bind, Sem.run_pure, Result.andThen_ok, run_underlying hu, Instr.sureAddr]
  rw [if_pos ⟨Int.natCast_nonneg i, Int.ofNat_lt.2 hlt⟩]
  simp only [Sem.run_bind, run_size hz, Result.andThen_ok, Sem.run_pure]
  rfl

theorem v_idxP (h : St S g0 m fr a σ g bx) {t e : TypeId} {x ix : Operand} (ho : o.op = .indexAddr t x ix) {n : Nat} (hu : S.P.underlying t = some (.array n e)) (hz : ∃ i, S.P.info? e = some i) {k : IntKind} {i : Nat}
    (hi : Rep g (.int k (.ofNat i)) (a.eval ix)) (hlt : i < n) {v w : AV} (hx : Rep g v (a.eval x)) (hv : movedA (i * S.P.cellsOf e) v = some w) : VOut S g0 m o a fr σ g bx w := by
  generalize hcx : a.eval x = cx at hx
  generalize hci : a.eval ix = ci at hi
  cases hi
  obtain ⟨ad, rfl, hr⟩ := moved_spec hv hx
  refine VOut.pure h ?_ hr
  simp only [execOp, ho, hcx, hci, Sem.run_bind, run_indexAt_arr hu hz hlt, Result.andThen_ok]
  rfl

theorem run_indexAt_sl {t e : TypeId} (hu : P.underlying t = some (.slice e)) (hz : ∃ i, P.info? e = some i) {k : IntKind} {i len cap : Nat} (hlt : i < len) (ad : Addr) (w : World) :
    (Instr.indexAt t (.slice (some ad) len cap) (.int k (.ofNat i))).run P w = .ok (.pointer (some (ad.add (i * P.cellsOf e)))) w := by
  simp only [Instr.indexAt, asIntOf, Sem.run_bind, Sem.run_pure, Result.andThen_ok, run_underlying hu]
  rw [if_pos ⟨Int.natCast_nonneg i, Int.ofNat_lt.2 hlt⟩]
  simp only [Sem.run_bind, run_size hz, Result.andThen_ok, Sem.run_pure]
  rfl

theorem v_idxS (h : St S g0 m fr a σ g bx) {t e : TypeId} {x ix : Operand} (ho : o.op = .indexAddr t x ix) (hu : S.P.underlying t = some (.slice e)) (hz : ∃ i, S.P.info? e = some i) {k : IntKind} {i : Nat}
    (hi : Rep g (.int k (.ofNat i)) (a.eval ix)) {v w : AV} (hx : Rep g v (a.eval x))
    (hv : (∃ id off len cap es, v = .sl id off len cap es ∧ i < len ∧ S.P.cellsOf e = es ∧ w = .ptr id (off + i * es)) ∨
      ∃ q cs len cap es, v = .lit q cs len cap es ∧ i < len ∧ S.P.cellsOf e = es ∧ 0 < es ∧ w = .plit q cs (i * es)) : VOut S g0 m o a fr σ g bx w := by
  generalize hcx : a.eval x = cx at hx
  generalize hci : a.eval ix = ci at hi
  cases hi
  rcases hv with ⟨id, off, len, cap, es, rfl, hlt, rfl, rfl⟩ | ⟨q, cs, len, cap, es, rfl, hlt, rfl, hpos, rfl⟩
  · cases hx with | sl _ _ _ _ _ ad ccap hn hl hcap hphi =>
    refine VOut.pure h (cv := .pointer (some (ad.add (i * S.P.cellsOf e)))) ?_ (.ptr id _ _ hn fun p hp => ?_)
    · simp only [execOp, ho, hcx, hci, Sem.run_bind, run_indexAt_sl hu hz hlt, Result.andThen_ok]; rfl
    · obtain ⟨h0 | h0, _⟩ := hphi p hp
      · omega
      · rw [h0, addr_add, Nat.add_assoc]
  · cases hx with | lit _ _ _ _ _ b base ccap sp vs hlen hl hcap hs hok h1 hvl hc hr =>
    have hne : cs ≠ [] := by
      intro e'; subst e'
      simp only [List.length_nil] at hlen
      have : 0 < len * S.P.cellsOf e := Nat.mul_pos (by omega) hpos
      omega
    obtain ⟨k1, k2, k3⟩ := hs hne
    subst k3
    refine VOut.pure h (cv := .pointer (some ⟨b, base + i * S.P.cellsOf e, none⟩)) ?_ (.plit q cs _ b base vs k1 k2 hok h1 hvl hc hr)
    simp only [execOp, ho, hcx, hci, Sem.run_bind, run_indexAt_sl hu hz hlt, Result.andThen_ok, addr_add]; rfl

/-! ### Reading -/
theorem load_spec (h : Inv S g σ) {t : TypeId} (ht : (P.underlying t).isSome) {x v : AV} {cv : Value} (hx : Rep g x cv) (hv : loadA σ (P.cellsOf t) (isAggT P t) x = some v) :
    ∃ r, (Instr.loadAt t cv).run P g.w = .ok r g.w ∧ Rep g v r := by
  unfold loadA at hv
  split at hv
  · rename_i id off
    split at hv
    · rename_i ty fz cs hg
      split at hv
      · rename_i r hrd
        obtain ⟨p, vs, hp, hrow⟩ := live_row h hg
        cases hx with | ptr _ _ ad hn hphi =>
        rw [hphi p hp]
        rw [readN_eq] at hrd
        split at hrd
        · rename_i hle
          cases hrd
          obtain ⟨cv, h1, h2⟩ := run_loadVar' (hrow.sub off (P.cellsOf t)) ht (by simp; omega) hv
          exact ⟨cv, by simp only [Instr.loadAt, Instr.sureAddr, Sem.run_bind, Sem.run_pure, Result.andThen_ok, h1], h2⟩
        · cases hrd
      · cases hv
    · cases hv
  · rename_i q cs off
    split at hv
    · rename_i r hrd
      cases hx with | plit _ _ _ b base vs hs hb hok h1 hvl hc hr =>
      have hrow : RowAt g b base cs vs := ⟨forall2_of hvl hr, h1, hc⟩
      rw [readN_eq] at hrd
      split at hrd
      · rename_i hle
        cases hrd
        obtain ⟨cv, h1, h2⟩ := run_loadVar' (hrow.sub off (P.cellsOf t)) ht (by simp; omega) hv
        exact ⟨cv, by simp only [Instr.loadAt, Instr.sureAddr, Sem.run_bind, Sem.run_pure, Result.andThen_ok, h1], h2⟩
      · cases hrd
    · cases hv
  · cases hv

theorem v_load (h : St S g0 m fr a σ g bx) {t : TypeId} {x : Operand} (ho : o.op = .load t x) (ht : (S.P.underlying t).isSome) {vx v : AV} (hx : Rep g vx (a.eval x)) (hv : loadA σ (S.P.cellsOf t) (isAggT S.P t) vx = some v) :
    VOut S g0 m o a fr σ g bx v := by
  obtain ⟨r, h1, h2⟩ := load_spec h.inv ht hx hv
  refine VOut.pure h (cv := r) ?_ h2
  simp only [execOp, ho, Sem.run_bind, h1, Result.andThen_ok]
  rfl

end
end Go.Vm

/- Cuts, look-ups, least and greatest. -/
namespace Go.Vm
open Go
variable {S : Sys} {P : Program}
section
variable {g0 g : G} {m : Meta} {fr stk : List AV} {a : Act} {σ : Store} {bx : Nat → Option Nat} {env : RE} {o : Oper}

theorem run_bound {y y' i : Nat} {v : AV} {cv : Value} (h : asN y v = some i) (hr : Rep g v cv) (hy : y ≤ y') (code : BoundsCode) (w : World) : (Instr.sliceBound cv y' code).run P w = .ok i w := by
  obtain ⟨k, rfl, hle⟩ := asN_spec h hr
  simp only [Instr.sliceBound, asIntOf, Sem.run_bind, Sem.run_pure, Result.andThen_ok]
  rw [if_pos ⟨Int.natCast_nonneg i, Int.ofNat_le.2 (Nat.le_trans hle hy)⟩]
  rfl

def OptRep (g : G) : Option AV → Option Value → Prop
  | none, none => True
  | some v, some cv => Rep g v cv
  | _, _ => False

theorem optN_le {y d i : Nat} {v : Option AV} (h : optN y d v = some i) (hd : d ≤ y) : i ≤ y := by
  cases v with
  | none => simp only [optN, Option.some.injEq] at h; omega
  | some v =>
    simp only [optN, asN] at h
    split at h
    · rw [nble] at h; split at h
      · cases h; rename_i hle; exact of_decide_eq_true hle
      · cases h
    · cases h

/-- 'x[lo:hi]', its bounds. -/
theorem run_bounds2 {y len cap h l : Nat} {lo hi : Option AV} {clo chi : Option Value} (hlo : OptRep g lo clo) (hhi : OptRep g hi chi) (hh : optN y len hi = some h) (hl : optN h 0 lo = some l) (hy : y ≤ cap) (b : Bool) (w : World) :
    (Instr.sliceBounds b len cap clo chi none).run P w = .ok (l, h, cap) w := by
  unfold Instr.sliceBounds
  cases hi with
  | none => cases chi with
    | some _ => exact hhi.elim
    | none =>
      simp only [optN, Option.some.injEq] at hh
      subst hh
      cases lo with
      | none => cases clo with
        | some _ => exact hlo.elim
        | none =>
          simp only [optN, Option.some.injEq] at hl
          subst hl
          rfl
      | some lo => cases clo with
        | none => exact hlo.elim
        | some clo => simp only [Sem.run_bind, Sem.run_pure, Result.andThen_ok, run_bound (P := P) hl hlo (Nat.le_refl _)]
  | some hi => cases chi with
    | none => exact hhi.elim
    | some chi =>
      cases lo with
      | none => cases clo with
        | some _ => exact hlo.elim
        | none =>
          simp only [optN, Option.some.injEq] at hl
          subst hl
          simp only [Sem.run_bind, Sem.run_pure, Result.andThen_ok, run_bound (P := P) hh hhi hy]
      | some lo => cases clo with
        | none => exact hlo.elim
        | some clo => simp only [Sem.run_bind, Sem.run_pure, Result.andThen_ok, run_bound (P := P) hh hhi hy, run_bound (P := P) hl hlo (Nat.le_refl _)]

/-- 'x[lo:hi:mx]', its bounds. -/
theorem run_bounds3 {y len cap h l q : Nat} {lo hi mx : Option AV} {clo chi cmx : Option Value} (hlo : OptRep g lo clo) (hhi : OptRep g hi chi) (hmx : OptRep g mx cmx) (hm : mx.isSome) (hi' : hi.isSome)
    (hq : optN y y mx = some q) (hh : optN q len hi = some h) (hl : optN h 0 lo = some l) (hy : y ≤ cap) (b : Bool) (w : World) :
    (Instr.sliceBounds b len cap clo chi cmx).run P w = .ok (l, h, q) w := by
  cases mx with
  | none => cases hm
  | some mx => cases cmx with
    | none => exact hmx.elim
    | some cmx => cases hi with
      | none => cases hi'
      | some hi => cases chi with
        | none => exact hhi.elim
        | some chi =>
          unfold Instr.sliceBounds
          cases lo with
          | none => cases clo with
            | some _ => exact hlo.elim
            | none =>
              simp only [optN, Option.some.injEq] at hl
              subst hl
              simp only [Sem.run_bind, Sem.run_pure, Result.andThen_ok, run_bound (P := P) hq hmx hy, run_bound (P := P) hh hhi (Nat.le_refl _)]
          | some lo => cases clo with
            | none => exact hlo.elim
            | some clo => simp only [Sem.run_bind, Sem.run_pure, Result.andThen_ok, run_bound (P := P) hq hmx hy, run_bound (P := P) hh hhi (Nat.le_refl _), run_bound (P := P) hl hlo (Nat.le_refl _)]

theorem optRep_map {lo : Option Operand} {s : Option AV} (h : ∀ x, lo = some x → ∃ v, s = some v ∧ Rep g v (a.eval x)) (hn : lo = none → s = none) : OptRep g s (lo.map a.eval) := by
  cases lo with
  | none => rw [hn rfl]; trivial
  | some x => obtain ⟨v, rfl, hv⟩ := h x rfl; exact hv

theorem v_sliceStr (h : St S g0 m fr a σ g bx) {t : TypeId} {x : Operand} {lo hi mx : Option Operand} (ho : o.op = .slice t x lo hi mx) (hu : S.P.underlying t = some .string) {s : List Nat} (hx : Rep g (.str s) (a.eval x))
    {l h' r : Option AV} (hl : OptRep g l (lo.map a.eval)) (hh : OptRep g h' (hi.map a.eval)) (hm : OptRep g r (mx.map a.eval)) {v : AV} (hv : sliceStr s l h' r = some v) : VOut S g0 m o a fr σ g bx v := by
  generalize hcx : a.eval x = cx at hx
  cases hx
  rename_i b
  unfold sliceStr at hv
  split at hv
  · cases hv
  · have hmx : mx.map a.eval = none := by
      cases hmm : mx.map a.eval with
      | none => rfl
      | some q => rw [hmm] at hm; exact hm.elim
    split at hv
    · cases hv
    · rename_i hq hhq
      split at hv
      · cases hv
      · rename_i lq hlq
        cases hv
        rw [toNats_length] at hhq
        refine VOut.pure h (cv := .string (b.extract lq hq)) ?_ ?_
        · simp only [execOp, ho, hcx, Instr.sliceAt, Instr.slice, Sem.run_bind, run_underlying hu, Result.andThen_ok, hmx, Option.isSome_none, Bool.false_eq_true, if_false, run_bounds2 (P := S.P) hl hh hhq hlq (Nat.le_refl _), Sem.run_pure]
        · have : ((toNats b).take hq).drop lq = toNats (b.extract lq hq) := by
            unfold toNats; simp [ByteArray.data_extract, List.drop_take]
          rw [this]; exact .str _

theorem v_sliceSl (h : St S g0 m fr a σ g bx) {t e : TypeId} {x : Operand} {lo hi mx : Option Operand} (ho : o.op = .slice t x lo hi mx) (hu : S.P.underlying t = some (.slice e)) (hz : ∃ i, S.P.info? e = some i) {vx : AV} (hx : Rep g vx (a.eval x))
    {l h' r : Option AV} (hl : OptRep g l (lo.map a.eval)) (hh : OptRep g h' (hi.map a.eval)) (hm : OptRep g r (mx.map a.eval)) (hmh : r.isSome → h'.isSome) {v : AV} (hv : sliceSl (S.P.cellsOf e) vx l h' r = some v) : VOut S g0 m o a fr σ g bx v := by
  generalize hcx : a.eval x = cx at hx
  have run : ∀ (ad : Option Addr) (len cap lq hq mq : Nat), cx = .slice ad len cap → (Instr.sliceBounds true len cap (lo.map a.eval) (hi.map a.eval) (mx.map a.eval)).run S.P g.w = .ok (lq, hq, mq) g.w →
      (execOp a.eval o).run S.P g.w = .ok (.value (.slice (if mq = lq then ad else ad.map (·.add (lq * S.P.cellsOf e))) (hq - lq) (mq - lq))) g.w := by
    intro ad len cap lq hq mq he hb
    simp only [execOp, ho, hcx, he, Instr.sliceAt, Instr.slice, Sem.run_bind, run_underlying hu, Result.andThen_ok, hb, run_size hz, Sem.run_pure]
  unfold sliceSl at hv
  split at hv
  · cases hx
    split at hv
    · cases hv
    · rename_i mq hmq
      split at hv
      · cases hv
      · rename_i hq hhq
        split at hv
        · cases hv
        · rename_i lq hlq
          cases hv
          have m0 := optN_le hmq (Nat.le_refl _)
          have h0 := optN_le hhq (Nat.le_refl _)
          have l0 := optN_le hlq (Nat.zero_le _)
          have hb : (Instr.sliceBounds true 0 0 (lo.map a.eval) (hi.map a.eval) (mx.map a.eval)).run S.P g.w = .ok (0, 0, 0) g.w := by
            have hh0 : hq = 0 := by omega
            have hl0 : lq = 0 := by omega
            subst hh0; subst hl0
            cases r with
            | none =>
              cases hmm : mx.map a.eval with
              | none => exact run_bounds2 hl hh hhq hlq (Nat.le_refl _) _ _
              | some q => rw [hmm] at hm; exact hm.elim
            | some r =>
              have hm0 : mq = 0 := by omega
              subst hm0
              exact run_bounds3 hl hh hm rfl (hmh rfl) hmq hhq hlq (Nat.le_refl _) _ _
          refine VOut.pure h (run none 0 0 0 0 0 rfl hb) .nils
  · rename_i id off len cap es
    rw [nbeq] at hv
    by_cases hes : S.P.cellsOf e = es
    case neg => simp [hes] at hv
    simp only [hes, decide_true, cond_true] at hv
    cases hx with | sl _ _ _ _ _ ad ccap hn hle hcap hphi =>
    -- what comes of the bounds
    have fin : ∀ (lq hq mq : Nat) (cap' : Option Nat), (Instr.sliceBounds true len ccap (lo.map a.eval) (hi.map a.eval) (mx.map a.eval)).run S.P g.w = .ok (lq, hq, mq) g.w → lq ≤ hq → hq ≤ mq → mq ≤ ccap →
        (∀ c, cap' = some c → mq - lq = c) → (cap' = none → cap = none ∧ mq = ccap) → VOut S g0 m o a fr σ g bx (.sl id (off + lq * es) (hq - lq) cap' es) := by
      intro lq hq mq cap' hb q1 q2 q3 q4 q5
      refine VOut.pure h (run _ _ _ lq hq mq rfl hb) ?_
      have hadr : (if mq = lq then some ad else (some ad).map (·.add (lq * S.P.cellsOf e))) = some (if mq = lq then ad else ad.add (lq * es)) := by
        rw [hes]; split <;> rfl
      rw [hadr]
      refine .sl id _ _ _ _ _ _ hn (by omega) q4 fun p hp => ?_
      obtain ⟨hA, cs, ty, fz, hh', hB, hC⟩ := hphi p hp
      refine ⟨?_, cs, ty, fz, hh', fun hc => ?_, ?_⟩
      · by_cases hml : mq = lq
        · exact .inl (by omega)
        · refine .inr ?_
          rw [if_neg hml]
          rcases hA with hA | hA
          · omega
          · rw [hA, addr_add, Nat.add_assoc]
      · obtain ⟨k1, k2⟩ := q5 hc
        have := hB k1
        rw [← this, k2]
        have : lq * es + (ccap - lq) * es = ccap * es := by rw [← Nat.add_mul]; congr 1; omega
        omega
      · have : lq * es + (mq - lq) * es ≤ ccap * es := by rw [← Nat.add_mul]; exact Nat.mul_le_mul_right _ (by omega)
        omega
    have two : ∀ y hq lq, r = none → optN y len h' = some hq → optN hq 0 l = some lq → len ≤ y → y ≤ ccap → (Instr.sliceBounds true len ccap (lo.map a.eval) (hi.map a.eval) (mx.map a.eval)).run S.P g.w = .ok (lq, hq, ccap) g.w := by
      intro y hq lq hr' hhq hlq hy hy'
      subst hr'
      cases hmm : mx.map a.eval with
      | none => exact run_bounds2 hl hh hhq hlq hy' _ _
      | some q => rw [hmm] at hm; exact hm.elim
    split at hv
    · rename_i c
      have hcc := hcap c rfl
      subst hcc
      split at hv
      · cases hv
      · rename_i mq hmq
        split at hv
        · cases hv
        · rename_i hq hhq
          split at hv
          · cases hv
          · rename_i lq hlq
            cases hv
            have l0 := optN_le hlq (Nat.zero_le _)
            have m0 := optN_le hmq (Nat.le_refl _)
            cases r with
            | none =>
              simp only [optN, Option.some.injEq] at hmq
              subst hmq
              have h0 := optN_le hhq hle
              exact fin lq hq _ _ (two _ hq lq rfl hhq hlq hle (Nat.le_refl _)) l0 h0 (Nat.le_refl _) (fun c hc => by cases hc; rfl) (fun hc => by cases hc)
            | some rv =>
              have hhs := hmh rfl
              cases h' with
              | none => cases hhs
              | some hv' =>
                have h0 : hq ≤ mq := by
                  simp only [optN] at hhq
                  cases hmm : hi.map a.eval with
                  | none => rw [hmm] at hh; exact hh.elim
                  | some ch => rw [hmm] at hh; obtain ⟨_, _, hle'⟩ := asN_spec hhq hh; exact hle'
                exact fin lq hq mq _ (run_bounds3 hl hh hm rfl rfl hmq hhq hlq (Nat.le_refl _) _ _) l0 h0 m0 (fun c hc => by cases hc; rfl) (fun hc => by cases hc)
    · split at hv
      · rename_i mv
        split at hv
        · cases hv
        · rename_i mq hmq
          split at hv
          · cases hv
          · rename_i hq hhq
            split at hv
            · cases hv
            · rename_i lq hlq
              cases hv
              have l0 := optN_le hlq (Nat.zero_le _)
              have hhs := hmh rfl
              cases h' with
              | none => cases hhs
              | some hv' =>
                have h0 : hq ≤ mq := by
                  simp only [optN] at hhq
                  cases hmm : hi.map a.eval with
                  | none => rw [hmm] at hh; exact hh.elim
                  | some ch => rw [hmm] at hh; obtain ⟨_, _, hle'⟩ := asN_spec hhq hh; exact hle'
                have m0 : mq ≤ len := by
                  cases hmm : mx.map a.eval with
                  | none => rw [hmm] at hm; exact hm.elim
                  | some ch => rw [hmm] at hm; obtain ⟨_, _, hle'⟩ := asN_spec hmq hm; exact hle'
                exact fin lq hq mq _ (run_bounds3 (y := len) hl hh hm rfl rfl hmq hhq hlq hle _ _) l0 h0 (by omega) (fun c hc => by cases hc; rfl) (fun hc => by cases hc)
      · split at hv
        · cases hv
        · rename_i hq hhq
          split at hv
          · cases hv
          · rename_i lq hlq
            cases hv
            have l0 := optN_le hlq (Nat.zero_le _)
            have h0 := optN_le hhq (Nat.le_refl _)
            exact fin lq hq ccap _ (two len hq lq rfl hhq hlq (Nat.le_refl _) hle) l0 (by omega) (Nat.le_refl _) (fun c hc => by cases hc) (fun _ => ⟨rfl, rfl⟩)
  · rename_i q cs len cap es
    rw [nbeq] at hv
    by_cases hes : S.P.cellsOf e = es
    case neg => simp [hes] at hv
    simp only [hes, decide_true, cond_true] at hv
    cases hx with | lit _ _ _ _ _ b base ccap sp vs hlen hle hcap hs hok h1 hvl hc hr' =>
    have fin : ∀ (lq hq mq : Nat) (cap' : Option Nat), (Instr.sliceBounds true len ccap (lo.map a.eval) (hi.map a.eval) (mx.map a.eval)).run S.P g.w = .ok (lq, hq, mq) g.w → lq ≤ hq → hq ≤ len → hq ≤ mq → mq ≤ ccap →
        (∀ c, cap' = some c → mq - lq = c) → VOut S g0 m o a fr σ g bx (.lit q ((cs.take (hq * es)).drop (lq * es)) (hq - lq) cap' es) := by
      intro lq hq mq cap' hb q1 q2 q3 q4 q5
      have hql : hq * es ≤ len * es := Nat.mul_le_mul_right _ q2
      have hlh : lq * es ≤ hq * es := Nat.mul_le_mul_right _ q1
      refine VOut.pure h (run _ _ _ lq hq mq rfl hb) ?_
      have hsub : ∀ c ∈ (cs.take (hq * es)).drop (lq * es), c ∈ cs := fun c hc => List.mem_of_mem_take (List.mem_of_mem_drop hc)
      have hcl : ((cs.take (hq * es)).drop (lq * es)).length = (hq - lq) * es := by
        rw [Nat.sub_mul]; simp; omega
      have hres : ∀ ad : Addr, ((cs.take (hq * es)).drop (lq * es) ≠ [] → ad = ⟨b, base + lq * es, none⟩) → Rep g (.lit q ((cs.take (hq * es)).drop (lq * es)) (hq - lq) cap' es) (.slice (some ad) (hq - lq) (mq - lq)) := by
        intro ad had
        by_cases hne : (cs.take (hq * es)).drop (lq * es) = []
        · rw [hne]
          rw [hne] at hcl
          obtain ⟨b', o', s'⟩ := ad
          exact .lit q [] _ cap' es b' o' _ s' [] hcl (by omega) q5 (fun e => absurd rfl e) (by simp) (by simp) rfl (fun i v hi => by simp at hi) (fun i c v hi => by simp at hi)
        · have := had hne
          subst this
          have hcsne : cs ≠ [] := by intro e'; subst e'; simp at hne
          refine .lit q _ _ cap' es b (base + lq * es) _ none ((vs.take (hq * es)).drop (lq * es)) hcl (by omega) q5 (fun _ => ⟨(hs hcsne).1, (hs hcsne).2.1, rfl⟩) (fun c hc' => hok c (hsub c hc')) (fun c hc' => h1 c (hsub c hc')) (by simp; omega) (fun i v hi => ?_) (fun i c v hi hi' => ?_)
          · rw [List.getElem?_drop, List.getElem?_take] at hi
            split at hi
            · have := hc _ v hi; rwa [← Nat.add_assoc] at this
            · cases hi
          · rw [List.getElem?_drop, List.getElem?_take] at hi hi'
            split at hi
            · rename_i hlt; rw [if_pos hlt] at hi'; exact hr' _ c v hi hi'
            · cases hi
      by_cases hml : mq = lq
      · rw [if_pos hml]
        exact hres _ fun hne => by
          exfalso; apply hne
          have : hq - lq = 0 := by omega
          rw [this] at hcl; simp at hcl; exact List.eq_nil_of_length_eq_zero (by simp; omega)
      · rw [if_neg hml]
        simp only [Option.map_some]
        refine hres _ fun hne => ?_
        have hcsne : cs ≠ [] := by intro e'; subst e'; simp at hne
        rw [(hs hcsne).2.2, addr_add, hes]
    split at hv
    · rename_i mv
      split at hv
      · cases hv
      · rename_i mq hmq
        split at hv
        · cases hv
        · rename_i hq hhq
          split at hv
          · cases hv
          · rename_i lq hlq
            cases hv
            have l0 := optN_le hlq (Nat.zero_le _)
            have hhs := hmh rfl
            cases h' with
            | none => cases hhs
            | some hv' =>
              have h0 : hq ≤ mq := by
                simp only [optN] at hhq
                cases hmm : hi.map a.eval with
                | none => rw [hmm] at hh; exact hh.elim
                | some ch => rw [hmm] at hh; obtain ⟨_, _, hle'⟩ := asN_spec hhq hh; exact hle'
              have m0 : mq ≤ len := by
                cases hmm : mx.map a.eval with
                | none => rw [hmm] at hm; exact hm.elim
                | some ch => rw [hmm] at hm; obtain ⟨_, _, hle'⟩ := asN_spec hmq hm; exact hle'
              exact fin lq hq mq _ (run_bounds3 (y := len) hl hh hm rfl rfl hmq hhq hlq hle _ _) l0 (by omega) h0 (by omega) (fun c hc => by cases hc; rfl)
    · split at hv
      · cases hv
      · rename_i hq hhq
        split at hv
        · cases hv
        · rename_i lq hlq
          cases hv
          have l0 := optN_le hlq (Nat.zero_le _)
          have h0 := optN_le hhq (Nat.le_refl _)
          have two : (Instr.sliceBounds true len ccap (lo.map a.eval) (hi.map a.eval) (mx.map a.eval)).run S.P g.w = .ok (lq, hq, ccap) g.w := by
            cases hmm : mx.map a.eval with
            | none => exact run_bounds2 hl hh hhq hlq hle _ _
            | some q => rw [hmm] at hm; exact hm.elim
          exact fin lq hq ccap _ two l0 h0 (by omega) (Nat.le_refl _) (fun c hc => by
            cases cap with
            | none => cases hc
            | some c' => have := hcap c' rfl; simp at hc; omega)
  · cases hv

end
end Go.Vm

/- Maps, least and greatest, cuts of arrays. -/
namespace Go.Vm
open Go
variable {S : Sys} {P : Program}
section
variable {g0 g : G} {m : Meta} {fr stk : List AV} {a : Act} {σ : Store} {bx : Nat → Option Nat} {env : RE} {o : Oper}

theorem v_sliceArr (h : St S g0 m fr a σ g bx) {t e : TypeId} {x : Operand} {lo hi mx : Option Operand} (ho : o.op = .slice t x lo hi mx) {n : Nat} (hu : S.P.underlying t = some (.array n e)) (hz : ∃ i, S.P.info? e = some i) {vx : AV} (hx : Rep g vx (a.eval x))
    {l h' r : Option AV} (hl : OptRep g l (lo.map a.eval)) (hh : OptRep g h' (hi.map a.eval)) (hm : OptRep g r (mx.map a.eval)) (hmh : r.isSome → h'.isSome) {v : AV} (hv : sliceArr σ n (S.P.cellsOf e) vx l h' r = some v) : VOut S g0 m o a fr σ g bx v := by
  generalize hcx : a.eval x = cx at hx
  unfold sliceArr at hv
  split at hv
  case h_2 => cases hv
  rename_i id off
  split at hv
  case h_2 => cases hv
  rename_i ty fz cs hg
  rw [nble, lenR_eq] at hv
  by_cases hcs : off + n * S.P.cellsOf e ≤ cs.length
  case neg => simp [hcs] at hv
  simp only [hcs, decide_true, cond_true] at hv
  split at hv
  · cases hv
  rename_i mq hmq
  split at hv
  · cases hv
  rename_i hq hhq
  split at hv
  · cases hv
  rename_i lq hlq
  cases hv
  obtain ⟨p, hp, hb⟩ := h.inv.live id _ hg
  cases hx with | ptr _ _ ad hn hphi =>
  have had := hphi p hp
  subst had
  have hmn := optN_le hmq (Nat.le_refl _)
  have l0 := optN_le hlq (Nat.zero_le _)
  have hb' : (Instr.sliceBounds false n n (lo.map a.eval) (hi.map a.eval) (mx.map a.eval)).run S.P g.w = .ok (lq, hq, mq) g.w ∧ hq ≤ mq := by
    cases r with
    | none =>
      simp only [optN, Option.some.injEq] at hmq
      subst hmq
      cases hmm : mx.map a.eval with
      | none => exact ⟨run_bounds2 hl hh hhq hlq (Nat.le_refl _) _ _, optN_le hhq (Nat.le_refl _)⟩
      | some q => rw [hmm] at hm; exact hm.elim
    | some r =>
      cases h' with
      | none => cases hmh rfl
      | some hv' =>
        refine ⟨run_bounds3 hl hh hm rfl rfl hmq ?_ hlq (Nat.le_refl _) _ _, ?_⟩
        · simpa only [optN] using hhq
        · simp only [optN] at hhq
          cases hmm : hi.map a.eval with
          | none => rw [hmm] at hh; exact hh.elim
          | some ch => rw [hmm] at hh; obtain ⟨_, _, hle'⟩ := asN_spec hhq hh; exact hle'
  obtain ⟨hb', h0⟩ := hb'
  cases hb with | cells _ _ _ ccs frz pre vs post hh' hc hpre hr h1 hf =>
  have hsz : p.2 + cs.length ≤ ccs.size := by
    have := congrArg List.length hc
    simp at this
    have := hr.length
    omega
  refine VOut.pure h (cv := .slice (some (if mq = lq then ⟨p.1, p.2 + off, none⟩ else (⟨p.1, p.2 + off, none⟩ : Addr).add (lq * S.P.cellsOf e))) (hq - lq) (mq - lq)) ?_ ?_
  · simp only [execOp, ho, hcx, Instr.sliceAt, Instr.sureAddr, Sem.run_bind, run_underlying hu, Result.andThen_ok, Sem.run_pure, hb', run_size hz]
  · refine .sl id _ _ _ _ _ _ hn (by omega) (fun c hc => by cases hc; rfl) fun p' hp' => ?_
    rw [hp] at hp'; cases hp'
    refine ⟨?_, ccs, ty, frz, hh', fun hc => (by cases hc), ?_⟩
    · by_cases hml : mq = lq
      · exact .inl (by omega)
      · rw [if_neg hml, addr_add, Nat.add_assoc]; exact .inr rfl
    · have e1 : lq * S.P.cellsOf e + (mq - lq) * S.P.cellsOf e ≤ n * S.P.cellsOf e := by rw [← Nat.add_mul]; exact Nat.mul_le_mul_right _ (by omega)
      omega

/-! ### Maps -/
theorem checkKey_spec {isStr : Bool} {kt : TypeId} (hk : (isStr = false ∧ ∃ k, P.underlying kt = some (.int k)) ∨ (isStr = true ∧ P.underlying kt = some .string)) (cv : Value) (b : Bool) (n : Nat) (w : World) :
    (Instr.checkKey b (n + 1) kt cv).run P w = .ok () w := by
  have hu : ∃ d, P.underlying kt = some d ∧ ((∃ k, d = .int k) ∨ d = .string) := by
    rcases hk with ⟨_, k, h⟩ | ⟨_, h⟩
    · exact ⟨_, h, .inl ⟨k, rfl⟩⟩
    · exact ⟨_, h, .inr rfl⟩
  obtain ⟨d, hd, hd'⟩ := hu
  unfold Instr.checkKey
  simp only [Sem.run_bind, run_underlying hd, Result.andThen_ok]
  rcases hd' with ⟨k, rfl⟩ | rfl <;> rfl

theorem eq1_now {isStr : Bool} {d : TypeDesc} (hd : (isStr = false ∧ ∃ k, d = .int k) ∨ (isStr = true ∧ d = .string)) {x y : AV} {cx cy : Value} {r : Bool} (hk : keyOf isStr x = true) (hx : Rep g x cx) (hy : Rep g y cy) (h : eq1 x y = some r) :
    Instr.sameNow d cx cy = some r := by
  unfold eq1 at h
  split at h
  · rename_i k a j b
    cases hk' : kindEq k j <;> rw [hk'] at h <;> simp only [cond_true, cond_false, reduceCtorEq, Option.some.injEq] at h
    have := kindEq_eq hk'
    subst this; subst h
    cases hx; cases hy
    rcases hd with ⟨_, k', rfl⟩ | ⟨rfl, _⟩
    · simp only [Instr.sameNow, if_true, ibeq_eq]; rfl
    · simp [keyOf] at hk
  · cases h
    cases hx; cases hy
    rcases hd with ⟨rfl, _⟩ | ⟨_, rfl⟩
    · simp [keyOf] at hk
    · simp only [Instr.sameNow, eqNat_eq, ← beq_bytes]
  · cases h

theorem findK_spec {isStr : Bool} {d : TypeDesc} (hd : (isStr = false ∧ ∃ k, d = .int k) ∨ (isStr = true ∧ d = .string)) {k : AV} {ck : Value} (hk : keyOf isStr k = true) (hck : Rep g k ck) :
    ∀ {es : List MapEntry} {ks vs : List AV} {i : Nat} {r : Option (Nat × AV)}, Reps g ks (es.map (·.key)) → Reps g vs (es.map (·.val)) → findK k ks vs i = some r →
      (r = none ∧ Instr.findNow d ck es i = some none) ∨ ∃ j v e, r = some (i + j, v) ∧ es[j]? = some e ∧ ks[j]?.isSome ∧ Instr.findNow d ck es i = some (some (i + j, e.val)) ∧ Rep g v e.val ∧ vs[j]? = some v ∧
        Instr.sameNow d ck e.key = some true
  | [], ks, vs, i, r, h1, h2, h => by
    cases h1; cases h2
    have : r = none := by
      have h' : some none = some r := h
      cases h'; rfl
    exact .inl ⟨this, rfl⟩
  | e :: es, ks, vs, i, r, h1, h2, h => by
    cases h1 with | cons r1 t1 => cases h2 with | cons r2 t2 =>
    rename_i x xs v vs
    have h' : (match eq1 k x with | some true => some (some (i, v)) | some false => findK k xs vs (i + 1) | none => none) = some r := h
    split at h'
    · rename_i he
      cases h'
      have hn := eq1_now hd hk hck r1 he
      exact .inr ⟨0, v, e, rfl, rfl, rfl, by unfold Instr.findNow; rw [hn]; rfl, r2, rfl, hn⟩
    · rename_i he
      have hn := eq1_now hd hk hck r1 he
      rcases findK_spec hd hk hck t1 t2 h' with ⟨q1, q2⟩ | ⟨j, v', e', q1, q2, q3, q4, q5, q6, q7⟩
      · exact .inl ⟨q1, by unfold Instr.findNow; rw [hn]; exact q2⟩
      · exact .inr ⟨j + 1, v', e', by rw [q1]; congr 2; omega, by simpa using q2, by simpa using q3, by unfold Instr.findNow; rw [hn]; simp only; rw [q4]; congr 3; omega, q5, by simpa using q6, q7⟩
    · cases h'

theorem findKey_run {kt : TypeId} {d : TypeDesc} (hu : P.underlying kt = some d) {ck : Value} {es : List MapEntry} {r : Option (Nat × Value)} (h : Instr.findNow d ck es 0 = some r) (w : World) : (Instr.findKey kt ck es).run P w = .ok r w := by
  unfold Instr.findKey
  simp only [Sem.run_bind, run_underlying hu, Result.andThen_ok, h, Sem.run_pure]

def KeyT (P : Program) (isStr : Bool) (kt : TypeId) : Prop := (isStr = false ∧ ∃ k, P.underlying kt = some (.int k)) ∨ (isStr = true ∧ P.underlying kt = some .string)

theorem KeyT.desc {isStr : Bool} {kt : TypeId} (h : KeyT P isStr kt) : ∃ d, P.underlying kt = some d ∧ ((isStr = false ∧ ∃ k, d = .int k) ∨ (isStr = true ∧ d = .string)) := by
  rcases h with ⟨h1, k, h2⟩ | ⟨h1, h2⟩
  · exact ⟨_, h2, .inl ⟨h1, k, rfl⟩⟩
  · exact ⟨_, h2, .inr ⟨h1, rfl⟩⟩

theorem reps_of_arr {ks : List AV} {es : Array MapEntry} {f : MapEntry → Value} (hl : ks.length = es.size) (h : ∀ (i : Nat) (c : AV) (e : MapEntry), ks[i]? = some c → es[i]? = some e → Rep g c (f e)) : Reps g ks (es.toList.map f) :=
  forall2_of (by simpa using hl) fun i c v hc hv => by
    rw [List.getElem?_map, Option.map_eq_some_iff] at hv
    obtain ⟨e, he, rfl⟩ := hv
    exact h i c e hc (by rwa [Array.getElem?_toList] at he)

theorem v_lookup (h : St S g0 m fr a σ g bx) {t kt et : TypeId} {x ix : Operand} {ok : Bool} (ho : o.op = .lookup t x ix ok) (hu : S.P.underlying t = some (.map kt et)) {isStr : Bool} (hk : KeyT S.P isStr kt) {z : Value} (hz : (S.P.info? et).bind (·.zero) = some z)
    {zero : AV} (hzr : Rep g zero z) {vm vk v : AV} (hm : Rep g vm (a.eval x)) (hkr : Rep g vk (a.eval ix)) (hv : lookupA isStr σ zero ok vm vk = some v) : VOut S g0 m o a fr σ g bx v := by
  generalize hcm : a.eval x = cm at hm
  generalize hck : a.eval ix = ck at hkr
  obtain ⟨d, hd, hd'⟩ := hk.desc
  unfold lookupA at hv
  simp only at hv
  split at hv
  case isFalse => cases hv
  rename_i hkey
  -- the entries, and what is found
  have key : ∃ (es : Array MapEntry) (r : Option (Nat × AV)), ((cm = .map none ∧ es = #[]) ∨ ∃ b clock, cm = .map (some b) ∧ g.w.heap[b]? = some (.map es clock)) ∧
      ((r = none ∧ Instr.findNow d ck es.toList 0 = some none) ∨ ∃ j u e, r = some (j, u) ∧ Instr.findNow d ck es.toList 0 = some (some (j, e)) ∧ Rep g u e) ∧
      v = (match r with | some (_, u) => if ok then .tup [u, .bool true] else u | none => if ok then .tup [zero, .bool false] else zero) := by
    split at hv
    · cases hm
      refine ⟨#[], none, .inl ⟨rfl, rfl⟩, .inl ⟨rfl, rfl⟩, ?_⟩
      simp only [Option.some.injEq] at hv
      exact hv.symm
    · rename_i id
      cases hm with | map _ r hid hphi =>
      split at hv
      case h_2 => cases hv
      rename_i ks vs hg
      obtain ⟨p, hp, hb⟩ := h.inv.live id _ hg
      cases hb with | map _ _ es clock h0 hh hks hvs hkeys =>
      have := hphi p hp
      subst this
      cases hf : findK vk ks vs 0 with
      | none => rw [hf] at hv; cases hv
      | some r =>
        rw [hf] at hv
        rcases findK_spec hd' hkey hkr hks hvs hf with ⟨rfl, q2⟩ | ⟨j, u, e, rfl, q2, q3, q4, q5, q6, q7⟩
        · exact ⟨es, none, .inr ⟨_, clock, rfl, hh⟩, .inl ⟨rfl, q2⟩, by simpa using hv.symm⟩
        · exact ⟨es, some (0 + j, u), .inr ⟨_, clock, rfl, hh⟩, .inr ⟨_, u, e.val, rfl, q4, q5⟩, by simpa using hv.symm⟩
    · rename_i tg ks vs
      cases hm with | mlit _ _ _ r es clock hs hh hk' hv' hok hok' hkeys hks hvs =>
      cases hf : findK vk ks vs 0 with
      | none => rw [hf] at hv; cases hv
      | some r' =>
        rw [hf] at hv
        rcases findK_spec hd' hkey hkr (reps_of_arr hk' hks) (reps_of_arr hv' hvs) hf with ⟨rfl, q2⟩ | ⟨j, u, e, rfl, q2, q3, q4, q5, q6, q7⟩
        · exact ⟨es, none, .inr ⟨_, clock, rfl, hh⟩, .inl ⟨rfl, q2⟩, by simpa using hv.symm⟩
        · exact ⟨es, some (0 + j, u), .inr ⟨_, clock, rfl, hh⟩, .inr ⟨_, u, e.val, rfl, q4, q5⟩, by simpa using hv.symm⟩
    · cases hv
  obtain ⟨es, r, hcm', hfind, rfl⟩ := key
  have hchk : (Instr.checkKey es.isEmpty 10000 kt ck).run S.P g.w = .ok () g.w := checkKey_spec hk ck _ 9999 _
  have fin : ∀ cv, (Instr.lookup t cm ck ok).run S.P g.w = .ok cv g.w → Rep g (match r with | some (_, u) => if ok then .tup [u, .bool true] else u | none => if ok then .tup [zero, .bool false] else zero) cv →
      VOut S g0 m o a fr σ g bx (match r with | some (_, u) => if ok then .tup [u, .bool true] else u | none => if ok then .tup [zero, .bool false] else zero) := by
    intro cv h1 h2
    refine VOut.pure h (cv := cv) ?_ h2
    simp only [execOp, ho, hcm, hck, Sem.run_bind, h1, Result.andThen_ok]
    rfl
  have tup2 : ∀ {u : AV} {cu : Value} (b : Bool), Rep g u cu → Rep g (.tup [u, .bool b]) (.tuple #[cu, .bool b]) := fun b hu => Rep.tup' (.cons hu (.cons (.bool b) .nil))
  rcases hfind with ⟨rfl, hf⟩ | ⟨j, u, e, rfl, hf, hru⟩
  · refine fin (if ok then .tuple #[z, .bool false] else z) ?_ ?_
    · rcases hcm' with ⟨rfl, rfl⟩ | ⟨b, clock, rfl, hh⟩
      · simp only [Instr.lookup, Sem.run_bind, run_underlying hu, Result.andThen_ok, hchk, findKey_run hd hf, run_zero hz, Sem.run_pure]
      · simp only [Instr.lookup, Sem.run_bind, run_underlying hu, Result.andThen_ok, getObj, Sem.run, hh, hchk, findKey_run hd hf, run_zero hz, Sem.run_pure]
    · cases ok
      · exact hzr
      · exact tup2 false hzr
  · refine fin (if ok then .tuple #[e, .bool true] else e) ?_ ?_
    · rcases hcm' with ⟨rfl, rfl⟩ | ⟨b, clock, rfl, hh⟩
      · simp only [Instr.lookup, Sem.run_bind, run_underlying hu, Result.andThen_ok, hchk, findKey_run hd hf, Sem.run_pure]
      · simp only [Instr.lookup, Sem.run_bind, run_underlying hu, Result.andThen_ok, getObj, Sem.run, hh, hchk, findKey_run hd hf, Sem.run_pure]
    · cases ok
      · exact hru
      · exact tup2 true hru

end
end Go.Vm

/- Operations that make memory, and stores. -/
namespace Go.Vm
open Go
variable {S : Sys} {P : Program}
section
variable {g0 g : G} {m : Meta} {fr stk : List AV} {a : Act} {σ : Store} {bx : Nat → Option Nat} {env : RE} {o : Oper}

/-- A new block of cells, some more behind. -/
theorem new_cells (h : Inv S g σ) {cs : List AV} {vs : List Value} (hr : Reps g cs vs) (h1 : ∀ c ∈ cs, one c = true) (ty fz : Nat) {ccs : Array Value} {post : List Value} (hc : ccs.toList = vs ++ post) :
    Ext g (g.alloc (.cells ccs ty (0, 0))) ∧ Inv S (g.alloc (.cells ccs ty (0, 0))) (σ.new (.cells ty fz cs)) := by
  have he := h.ext_alloc (.cells ccs ty (0, 0))
  refine ⟨he, h.alloc _ _ (.cells ty fz cs ccs (0, 0) [] vs post ?_ (by simpa using hc) rfl (hr.mono (he.mono h)) h1 (.inl rfl))⟩
  exact Array.getElem?_push_size

theorem ptr_new (h : Inv S g σ) (ob : Obj) : Rep (g.alloc ob) (.ptr σ.next 0) (.pointer (some ⟨g.w.heap.size, 0, none⟩)) := by
  rw [h.nx]
  refine .ptr _ _ _ (by simp [G.alloc]) fun p hp => ?_
  simp only [G.alloc, if_true, Option.some.injEq] at hp
  rw [← hp]

theorem cVal_cells {v : Value} {c : AV} (h : cVal v = some c) : Reps g c.cells v.cells.toList ∧ ∀ x ∈ c.cells, one x = true := by
  refine cells_rep (cVal_rep h) ?_
  unfold cVal at h
  split at h
  · split at h
    · cases h; rfl
    · cases h
  · unfold cVal1 at h
    split at h <;> cases h <;> rfl

theorem zeroC_spec {t : TypeId} {z : List AV} (h : zeroC P t = some z) : ∃ v, (P.info? t).bind (·.zero) = some v ∧ Reps g z v.cells.toList ∧ ∀ x ∈ z, one x = true := by
  unfold zeroC at h
  split at h
  · rename_i v hv
    rw [Option.map_eq_some_iff] at h
    obtain ⟨c, hc, rfl⟩ := h
    obtain ⟨h1, h2⟩ := cVal_cells (g := g) hc
    exact ⟨v, hv, h1, h2⟩
  · cases h

theorem v_alloc (h : St S g0 m fr a σ g bx) {t : TypeId} (ho : o.op = .alloc t) {z : List AV} (hz : zeroC S.P t = some z) : VOut S g0 m o a fr (σ.new (.cells t 0 z)) g bx (.ptr σ.next 0) := by
  obtain ⟨v, hv, hr, h1⟩ := zeroC_spec (g := g) hz
  obtain ⟨he, hi⟩ := new_cells h.inv hr h1 t 0 (ccs := v.cells) (post := []) (by simp)
  refine VOut.next h ?_ he hi (ptr_new h.inv _)
  simp only [execOp, ho, Instr.alloc, Sem.run_bind, run_zero hv, Result.andThen_ok, newVar, newRow, run_newObj, Sem.run_pure]
  rfl

theorem v_box (h : St S g0 m fr a σ g bx) {t : TypeId} {x : Operand} (ho : o.op = .box t x) {v : AV} (hx : Rep g v (a.eval x)) (hs : storable v = true) : VOut S g0 m o a fr (σ.new (.cells t 0 v.cells)) g bx (.ptr σ.next 0) := by
  obtain ⟨hr, h1⟩ := cells_rep hx hs
  obtain ⟨he, hi⟩ := new_cells h.inv hr h1 t 0 (ccs := (a.eval x).cells) (post := []) (by simp)
  refine VOut.next h ?_ he hi (ptr_new h.inv _)
  simp only [execOp, ho, Instr.box, Sem.run_bind, newVar, newRow, run_newObj, Result.andThen_ok, Sem.run_pure]
  rfl

theorem v_mkmap (h : St S g0 m fr a σ g bx) {t : TypeId} {r : Option Operand} (ho : o.op = .makeMap t r) (hr : ∀ x, r = some x → (∃ k e, S.P.underlying t = some (.map k e)) ∧ ∃ k n, a.eval x = .int k n) : VOut S g0 m o a fr (σ.new (.map [] [])) g bx (.map σ.next) := by
  have he := h.inv.ext_alloc (.map #[] 0)
  have hi : Inv S (g.alloc (.map #[] 0)) (σ.new (.map [] [])) := h.inv.alloc _ _ (.map [] [] #[] 0 rfl Array.getElem?_push_size .nil .nil (by simp))
  refine VOut.next h (cv := .map (some g.w.heap.size)) ?_ he hi ?_
  · cases r with
    | none =>
      simp only [execOp, ho, Option.map_none, Instr.makeMap, Sem.run_bind, run_newObj, Result.andThen_ok, Sem.run_pure]
      rfl
    | some x =>
      obtain ⟨⟨k, e, hu⟩, k', n, hx⟩ := hr x rfl
      simp only [execOp, ho, Option.map_some, Instr.makeMap, Sem.run_bind, run_underlying hu, hx, asInt, asIntOf, run_newObj, Result.andThen_ok, Sem.run_pure]
      rfl
  · rw [h.inv.nx]
    refine .map _ _ (by simp [G.alloc]) fun p hp => ?_
    simp only [G.alloc, if_true, Option.some.injEq] at hp
    rw [← hp]

/-! ### Structs and arrays put together -/
theorem foldl_set : ∀ (vs : List Value) (k off : Nat) (cells : Array Value), off + k + vs.length ≤ cells.size →
    ((vs.zipIdx k).foldl (fun cs (p : Value × Nat) => cs.setIfInBounds (off + p.2) p.1) cells).toList = cells.toList.take (off + k) ++ vs ++ cells.toList.drop (off + k + vs.length)
  | [], k, off, cells, _ => by simp
  | v :: vs, k, off, cells, h => by
    simp only [List.length_cons] at h
    simp only [List.zipIdx_cons, List.foldl_cons]
    rw [foldl_set vs (k + 1) off _ (by simp; omega)]
    have hsz : off + k < cells.toList.length := by simp; omega
    simp only [Array.toList_setIfInBounds, List.length_cons]
    have e1 : (cells.toList.set (off + k) v).take (off + (k + 1)) = cells.toList.take (off + k) ++ [v] := by
      rw [show off + (k + 1) = (off + k) + 1 by omega, List.take_succ_eq_append_getElem (by simpa using hsz)]
      simp [List.take_set_of_le]
    have e2 : (cells.toList.set (off + k) v).drop (off + (k + 1) + vs.length) = cells.toList.drop (off + k + (vs.length + 1)) := by
      rw [List.drop_set_of_lt (by omega), show off + (k + 1) + vs.length = off + k + (vs.length + 1) by omega]
    rw [e1, e2]
    simp

theorem fill_spec {place : Nat → Option (Nat × Nat)} : ∀ {l : List (Nat × Operand)} {ps : List (Nat × Nat × Src)} {z cs : List AV} {cz : Array Value},
    (∀ p ∈ l, ∀ s, cSrc m env p.2 = some s → Rep g (src fr stk s) (a.eval p.2)) → cParts m env place l = some ps → fillA fr stk ps z = some cs → Reps g z cz.toList → (∀ c ∈ z, one c = true) →
    ∃ ccs, Instr.fill place cz (l.map fun p => (p.1, a.eval p.2)) = some ccs ∧ Reps g cs ccs.toList ∧ (∀ c ∈ cs, one c = true) ∧ cs.length = z.length
  | [], ps, z, cs, cz, _, hp, hf, hr, h1 => by
    simp only [cParts, Option.some.injEq] at hp
    subst hp
    have : z = cs := by
      have h' : some z = some cs := hf
      cases h'; rfl
    subst this
    exact ⟨cz, rfl, hr, h1, rfl⟩
  | (i, x) :: l, ps, z, cs, cz, hop, hp, hf, hr, h1 => by
    unfold cParts at hp
    split at hp
    case h_2 => cases hp
    rename_i off size s rs hpl hs hrs
    cases hp
    have hf' : cond (Nat.beq (lenR (src fr stk s).cells) size && Nat.ble (off + size) (lenR z) && storable (src fr stk s)) (fillA fr stk rs (writeAt z off (src fr stk s).cells)) none = some cs := hf
    rw [nbeq, nble, lenR_eq, lenR_eq] at hf'
    by_cases hc : (src fr stk s).cells.length = size ∧ off + size ≤ z.length
    case neg =>
      rw [← Bool.decide_and, decide_eq_false hc] at hf'
      cases hf'
    rw [← Bool.decide_and, decide_eq_true hc] at hf'
    cases hst : storable (src fr stk s) with
    | false => rw [hst] at hf'; cases hf'
    | true =>
    rw [hst] at hf'
    simp only [Bool.and_self, cond_true] at hf'
    obtain ⟨hc1, hc2⟩ := hc
    have hx := hop (i, x) (by simp) s hs
    have hlz := hr.length
    simp only [Array.length_toList] at hlz
    -- the part's cells
    have hcells := cells_rep hx hst
    obtain ⟨hrc, hoc⟩ := hcells
    have hcl := hrc.length
    simp only [Array.length_toList] at hcl
    have hfold := foldl_set (a.eval x).cells.toList 0 off cz (by simp; omega)
    have hw := writeAt_eq off z (src fr stk s).cells (by omega)
    obtain ⟨ccs, k1, k2, k3, k4⟩ := fill_spec (l := l) (z := writeAt z off (src fr stk s).cells) (cz := (a.eval x).cells.zipIdx.foldl (fun cs (p : Value × Nat) => cs.setIfInBounds (off + p.2) p.1) cz) (fun p hp => hop p (by simp [hp])) hrs hf'
      (by
        rw [hw]
        have e : ((a.eval x).cells.zipIdx.foldl (fun cs (p : Value × Nat) => cs.setIfInBounds (off + p.2) p.1) cz).toList = cz.toList.take off ++ (a.eval x).cells.toList ++ cz.toList.drop (off + (src fr stk s).cells.length) := by
          rw [← Array.foldl_toList, Array.toList_zipIdx, hfold]
          simp only [Nat.add_zero, Array.length_toList]
          rw [hcl]
        rw [e]
        exact ((hr.take off).append hrc).append (hr.drop _))
      (by
        rw [hw]
        intro c hc
        simp only [List.mem_append] at hc
        rcases hc with (hc | hc) | hc
        · exact h1 c (List.mem_of_mem_take hc)
        · exact hoc c hc
        · exact h1 c (List.mem_of_mem_drop hc))
    refine ⟨ccs, ?_, k2, k3, k4.trans (by rw [hw]; simp; omega)⟩
    unfold Instr.fill
    simp only [List.map_cons, hpl]
    rw [if_neg (by simp only [Bool.or_eq_true, ne_eq, decide_eq_true_eq, not_or]; omega)]
    exact k1

end
end Go.Vm

/- Stores; structs, arrays, slices put together; slices made. -/
namespace Go.Vm
open Go
variable {S : Sys} {P : Program}
section
variable {g0 g : G} {m : Meta} {fr stk : List AV} {a : Act} {σ : Store} {bx : Nat → Option Nat} {env : RE} {o : Oper}

theorem run_places {fs : Array Field} (h : ∀ f ∈ fs.toList, (P.info? f.type).isSome) (w : World) : (fs.mapM fun f => do pure (f.offset, ← sizeOf f.type) : Sem (Array (Nat × Nat))).run P w = .ok (fs.map fun f => (f.offset, P.cellsOf f.type)) w := by
  have key : ∀ l : List Field, (∀ f ∈ l, (P.info? f.type).isSome) → (l.mapM fun f => do pure (f.offset, ← sizeOf f.type) : Sem (List (Nat × Nat))).run P w = .ok (l.map fun f => (f.offset, P.cellsOf f.type)) w := by
    intro l
    induction l with
    | nil => intro _; rfl
    | cons f l ih =>
      intro hl
      obtain ⟨i, hi⟩ := Option.isSome_iff_exists.1 (hl f (by simp))
      simp only [List.mapM_cons, Sem.run_bind, run_size ⟨i, hi⟩, Result.andThen_ok, Sem.run_pure, ih fun f hf => hl f (by simp [hf]), List.map_cons]
  rw [Array.mapM_eq_mapM_toList]
  simp only [Sem.run_map, key fs.toList h, Result.andThen_ok]
  congr 1
  apply Array.ext'
  simp

theorem v_build {fr0 : List AV} (h : St S g0 m fr0 a σ g bx) {t : TypeId} {parts : Array (Nat × Operand)} (ho : o.op = .build t parts) {z : List AV} (hz : zeroC S.P t = some z) {place : Nat → Option (Nat × Nat)}
    (hpl : (∃ fs : Array Field, S.P.underlying t = some (.struct fs) ∧ (∀ f ∈ fs.toList, (S.P.info? f.type).isSome) ∧ place = fun i => (fs[i]?).map fun (f : Field) => (f.offset, S.P.cellsOf f.type)) ∨
      ∃ n e, S.P.underlying t = some (.array n e) ∧ (∃ i, S.P.info? e = some i) ∧ place = fun (i : Nat) => some (i * S.P.cellsOf e, S.P.cellsOf e))
    {ps : List (Nat × Nat × Src)} (hop : ∀ p ∈ parts.toList, ∀ s, cSrc m env p.2 = some s → Rep g (src fr stk s) (a.eval p.2)) (hps : cParts m env place parts.toList = some ps) {cs : List AV} (hf : fillA fr stk ps z = some cs) : VOut S g0 m o a fr0 σ g bx (.agg cs) := by
  obtain ⟨v, hv, hr, h1⟩ := zeroC_spec (g := g) hz
  obtain ⟨ccs, k1, k2, k3, k4⟩ := fill_spec hop hps hf hr h1
  refine VOut.pure h (cv := .agg ccs) ?_ (by simpa using Rep.agg' k3 k2)
  have hpt : (parts.map fun (p : Nat × Operand) => (p.1, a.eval p.2)).toList = parts.toList.map fun p => (p.1, a.eval p.2) := by simp
  rcases hpl with ⟨fs, hu, hall, rfl⟩ | ⟨n, e, hu, hi, rfl⟩
  · have hplace : (fun i => (fs.map fun (f : Field) => (f.offset, S.P.cellsOf f.type))[i]?) = fun (i : Nat) => (fs[i]?).map fun (f : Field) => (f.offset, S.P.cellsOf f.type) := by funext i; simp
    simp only [execOp, ho, Instr.build, Sem.run_bind, run_zero hv, Result.andThen_ok, run_underlying hu, run_places hall, hplace]
    rw [show (parts.map fun (x : Nat × Operand) => (x.1, a.eval x.2)).toList = parts.toList.map fun p => (p.1, a.eval p.2) from hpt, k1]
    rfl
  · simp only [execOp, ho, Instr.build, Sem.run_bind, run_zero hv, Result.andThen_ok, run_underlying hu, run_size hi]
    rw [show (parts.map fun (x : Nat × Operand) => (x.1, a.eval x.2)).toList = parts.toList.map fun p => (p.1, a.eval p.2) from hpt, k1]
    rfl

theorem repZ_get (z : List AV) : ∀ (n i : Nat), i < n * z.length → (repZ z n)[i]? = z[i % z.length]?
  | 0, i, h => by simp at h
  | n + 1, i, h => by
    rw [repZ_succ]
    by_cases hi : i < z.length
    · rw [List.getElem?_append_left hi, Nat.mod_eq_of_lt hi]
    · rw [List.getElem?_append_right (by omega), repZ_get z n (i - z.length) (by rw [Nat.succ_mul] at h; omega)]
      congr 1
      rw [← Nat.mod_eq_sub_mod (by omega)]
theorem repZ_length (z : List AV) : ∀ n, (repZ z n).length = n * z.length
  | 0 => by simp
  | n + 1 => by rw [repZ_succ]; simp [repZ_length z n, Nat.succ_mul, Nat.add_comm]

/-- Zeros in a row. -/
theorem zeros_reps {z : List AV} {cz : Array Value} (hr : Reps g z cz.toList) (n : Nat) : Reps g (repZ z n) ((Array.range (n * cz.size)).map (fun i => cz[i % cz.size]!)).toList := by
  have hl := hr.length
  simp only [Array.length_toList] at hl
  refine forall2_of (by rw [repZ_length]; simp [hl]) fun i c v hc hv => ?_
  have hlt : i < n * z.length := by have := (List.getElem?_eq_some_iff.1 hc).1; rwa [repZ_length] at this
  rw [repZ_get z n i hlt] at hc
  have hpos : 0 < z.length := by
    rcases Nat.eq_zero_or_pos z.length with h0 | h0
    · rw [h0] at hlt; simp at hlt
    · exact h0
  have hlt2 : i % z.length < cz.size := by rw [← hl]; exact Nat.mod_lt _ hpos
  have : v = cz[i % z.length]'hlt2 := by
    rw [Array.getElem?_toList] at hv
    simp only [Array.getElem?_map, Option.map_eq_some_iff] at hv
    obtain ⟨j, hj, rfl⟩ := hv
    have : j = i := by
      rw [Array.getElem?_range] at hj
      split at hj
      · cases hj; rfl
      · cases hj
    subst this
    rw [← hl, getElem!_pos cz (j % z.length) hlt2]
  subst this
  exact (of_forall2 hr).2 _ c _ hc (by simp [hlt2])
theorem repZ_one {z : List AV} (h : ∀ c ∈ z, one c = true) (n : Nat) : ∀ c ∈ repZ z n, one c = true := by
  induction n with
  | zero => simp
  | succ n ih => rw [repZ_succ]; intro c hc; rcases List.mem_append.1 hc with hc | hc; exact h c hc; exact ih c hc

theorem v_bslice {fr0 : List AV} (h : St S g0 m fr0 a σ g bx) {t e : TypeId} {len : Nat} {parts : Array (Nat × Operand)} (ho : o.op = .buildSlice t len parts) (hu : S.P.underlying t = some (.slice e)) {z : List AV} (hz : zeroC S.P e = some z)
    (hzl : z.length = S.P.cellsOf e) (hpos : 0 < S.P.cellsOf e) (hle : len * S.P.cellsOf e ≤ 16777216) {ps : List (Nat × Nat × Src)} (hop : ∀ p ∈ parts.toList, ∀ s, cSrc m env p.2 = some s → Rep g (src fr stk s) (a.eval p.2)) (hps : cParts m env (fun i => some (i * S.P.cellsOf e, S.P.cellsOf e)) parts.toList = some ps) {cs : List AV}
    (hf : fillA fr stk ps (repZ z len) = some cs) : VOut S g0 m o a fr0 (σ.new (.cells e 0 cs)) g bx (.sl σ.next 0 len (some len) (S.P.cellsOf e)) := by
  obtain ⟨v, hv, hr, h1⟩ := zeroC_spec (g := g) hz
  have hcz : v.cells.size = S.P.cellsOf e := by have := hr.length; simp at this; omega
  have hzr := zeros_reps hr len
  obtain ⟨ccs, k1, k2, k3, k4⟩ := fill_spec hop hps hf hzr (repZ_one h1 len)
  obtain ⟨hext, hinv⟩ := new_cells h.inv k2 k3 e 0 (ccs := ccs) (post := []) (by simp)
  have hcl : ccs.size = len * S.P.cellsOf e := by have := k2.length; simp at this; rw [← this, k4, repZ_length, hzl]
  refine VOut.next h (cv := .slice (some ⟨g.w.heap.size, 0, none⟩) len len) ?_ hext hinv ?_
  · have hpt : (parts.map fun (p : Nat × Operand) => (p.1, a.eval p.2)).toList = parts.toList.map fun p => (p.1, a.eval p.2) := by simp
    have hzc : (if len * S.P.cellsOf e = 0 then pure #[] else do pure (← zeroValue e).cells : Sem (Array Value)).run S.P g.w = .ok (if len * S.P.cellsOf e = 0 then #[] else v.cells) g.w := by
      split
      · rfl
      · simp only [Sem.run_bind, run_zero hv, Result.andThen_ok, Sem.run_pure]
    have harr : ((Array.range (len * S.P.cellsOf e)).map fun i => (if len * S.P.cellsOf e = 0 then (#[] : Array Value) else v.cells)[i % (if len * S.P.cellsOf e = 0 then (#[] : Array Value) else v.cells).size]!) = (Array.range (len * v.cells.size)).map (fun i => v.cells[i % v.cells.size]!) := by
      by_cases h0 : len * S.P.cellsOf e = 0
      · rw [h0, hcz, h0]; simp
      · simp only [h0, if_false, hcz]
    simp only [execOp, ho, Instr.buildSlice, Sem.run_bind, run_underlying hu, Result.andThen_ok, run_size (info_of_cells (show S.P.cellsOf e ≠ 0 by omega)), Sem.run_ite, run_unsupported]
    rw [if_neg (by omega)]
    simp only [Sem.run_pure, Result.andThen_ok, run_zero hv, Result.andThen_ite]
    by_cases h0 : len * S.P.cellsOf e = 0
    · simp only [h0, if_true]
      have harr' := harr
      simp only [h0, if_true] at harr'
      rw [harr', show (parts.map fun (x : Nat × Operand) => (x.1, a.eval x.2)).toList = parts.toList.map fun p => (p.1, a.eval p.2) from hpt, k1]
      rfl
    · simp only [h0, if_false]
      have harr' := harr
      simp only [h0, if_false] at harr'
      rw [harr', show (parts.map fun (x : Nat × Operand) => (x.1, a.eval x.2)).toList = parts.toList.map fun p => (p.1, a.eval p.2) from hpt, k1]
      rfl
  · rw [h.inv.nx]
    refine .sl _ _ _ _ _ _ _ (by simp [G.alloc]) (Nat.le_refl _) (fun c hc => by cases hc; rfl) fun p hp => ?_
    simp only [G.alloc, if_true, Option.some.injEq] at hp
    subst hp
    refine ⟨.inr rfl, ccs, e, (0, 0), Array.getElem?_push_size, ?_, ?_⟩
    · intro hc; cases hc
    · simp [hcl]

theorem v_mkslice (h : St S g0 m fr a σ g bx) {t e : TypeId} {x y : Operand} (ho : o.op = .makeSlice t x y) (hu : S.P.underlying t = some (.slice e)) {z : List AV} (hz : zeroC S.P e = some z) (hzl : z.length = S.P.cellsOf e) (hpos : 0 < S.P.cellsOf e)
    {k k' : IntKind} {l c : Nat} (hx : Rep g (.int k (.ofNat l)) (a.eval x)) (hy : Rep g (.int k' (.ofNat c)) (a.eval y)) (hlc : l ≤ c) (hb : c * S.P.bytesOf e ≤ maxBytes) (hc62 : c ≤ 2 ^ 62) :
    VOut S g0 m o a fr (σ.new (.cells e 0 (repZ z c))) g bx (.sl σ.next 0 l (some c) (S.P.cellsOf e)) := by
  generalize hcx : a.eval x = cx at hx
  generalize hcy : a.eval y = cy at hy
  cases hx; cases hy
  obtain ⟨v, hv, hr, h1⟩ := zeroC_spec (g := g) hz
  have hcz : v.cells.size = S.P.cellsOf e := by have := hr.length; simp at this; omega
  have hzr := zeros_reps hr c
  obtain ⟨hext, hinv⟩ := new_cells h.inv hzr (repZ_one h1 c) e 0 (ccs := (Array.range (c * v.cells.size)).map (fun i => v.cells[i % v.cells.size]!)) (post := []) (by simp)
  obtain ⟨inf, hinf⟩ := info_of_cells (show S.P.cellsOf e ≠ 0 by omega)
  have hbytes : inf.bytes = S.P.bytesOf e := by simp [Program.bytesOf, hinf]
  have e62 : (2 : Nat) ^ 62 = 4611686018427387904 := by decide
  have emb : maxBytes = 70368744177664 := by decide
  rw [e62] at hc62
  rw [emb] at hb
  have hzi : inf.zero = some v := by simpa [hinf] using hv
  have hsz : inf.size = S.P.cellsOf e := by simp [Program.cellsOf, hinf]
  have hm : (inf.bytes : Int) * (c : Int) ≤ 281474976710656 := by
    have : ((inf.bytes * c : Nat) : Int) ≤ 281474976710656 := by rw [hbytes, Nat.mul_comm]; omega
    rwa [Int.natCast_mul] at this
  have hrun := run_make (P := S.P) g.w t e inf v hu hinf hzi k k' (l : Int) (c : Int) (by omega) (by omega) hm (by omega)
  refine VOut.next h (cv := .slice (some ⟨g.w.heap.size, 0, none⟩) l c) ?_ hext hinv ?_
  · simp only [Int.toNat_natCast, hsz, ← hcz] at hrun
    simp only [execOp, ho, hcx, hcy, Int.ofNat_eq_natCast, Sem.run_bind, hrun, Result.andThen_ok]
    rfl
  · rw [h.inv.nx]
    refine .sl _ _ _ _ _ _ _ (by simp [G.alloc]) hlc (fun c hc => by cases hc; rfl) fun p hp => ?_
    simp only [G.alloc, if_true, Option.some.injEq] at hp
    subst hp
    refine ⟨.inr rfl, _, e, (0, 0), Array.getElem?_push_size, ?_, ?_⟩
    · intro hc; cases hc
    · simp [hcz]

end
end Go.Vm

/- Stores into live blocks: cells, maps; copies and appends. -/
namespace Go.Vm
open Go
variable {S : Sys} {P : Program}
section
variable {g0 g : G} {m : Meta} {fr stk : List AV} {a : Act} {σ : Store} {bx : Nat → Option Nat} {env : RE} {o : Oper}

/-- Cells written into a live block. -/
theorem write_spec (h : Inv S g σ) {id off : Nat} {cs : List AV} {vs : List Value} {σ' : Store} (hw : σ.write id off cs = some σ') (hr : Reps g cs vs) (h1 : ∀ c ∈ cs, one c = true) :
    ∃ w', Ext g { g with w := w' } ∧ Inv S { g with w := w' } σ' ∧ ∀ p ad, g.φ id = some p → (cs ≠ [] → ad = ⟨p.1, p.2 + off, none⟩) → (storeCells ad vs).run P g.w = .ok () w' := by
  unfold Store.write at hw
  split at hw
  case h_2 => cases hw
  rename_i ty fz bcs hg
  simp only [lenR_eq, nble, nbeq] at hw
  split at hw
  case isFalse => cases hw
  rename_i hc
  simp only [Bool.and_eq_true, Bool.or_eq_true, decide_eq_true_eq] at hc
  obtain ⟨hle, hfz⟩ := hc
  cases hw
  obtain ⟨p, hp, hb⟩ := h.live id _ hg
  cases hb with | cells _ _ _ ccs frz pre bvs post hh hcc hpre hbr hb1 hf =>
  have hbl := hbr.length
  have hvl := hr.length
  have hw := writeAt_eq off bcs cs hle
  have hones : ∀ c ∈ writeAt bcs off cs, one c = true := by
    rw [hw]
    intro c hc
    simp only [List.mem_append] at hc
    rcases hc with (hc | hc) | hc
    · exact hb1 c (List.mem_of_mem_take hc)
    · exact h1 c hc
    · exact hb1 c (List.mem_of_mem_drop hc)
  by_cases hne : cs = []
  · subst hne
    cases hr
    refine ⟨g.w, .refl g, ?_, fun p' ad _ _ => rfl⟩
    have := h.set (w' := g.w) hg hp (Alike1.refl g.w p.1) (b1 := .cells ty fz (writeAt bcs off [])) (.cells ty fz _ ccs frz pre bvs post hh hcc hpre (by rw [hw]; simpa using hbr) hones hf)
    exact this
  · have hsz : p.2 + off + 0 + vs.length ≤ ccs.size := by
      have := congrArg List.length hcc
      simp at this
      omega
    have hpos : 0 < cs.length := List.length_pos_iff.2 hne
    obtain ⟨w', ccs', hrun, ha, hh', hc'⟩ := run_storeCells' (P := P) (b := p.1) (ty := ty) (fr := frz) (o := p.2 + off) vs 0 g.w ccs hh hsz
      (fun v hv => by
        obtain ⟨i, hi⟩ := List.getElem?_of_mem hv
        have hlt : i < cs.length := by have := (List.getElem?_eq_some_iff.1 hi).1; omega
        exact one_oneCell ((of_forall2 hr).2 i _ v (List.getElem?_eq_getElem hlt) hi) (h1 _ (List.getElem_mem hlt)))
      (fun j _ hj => by
        rcases hfz with hfz | hfz
        · have := hf.out (i := off + j) (by omega); rwa [← Nat.add_assoc] at this
        · omega)
    have hext : Ext g { g with w := w' } := Ext.set hp ha
    refine ⟨w', hext, ?_, fun p' ad hp' had => ?_⟩
    · have hm := hext.mono h
      refine h.set hg hp ha (.cells ty fz _ ccs' frz pre (bvs.take off ++ vs ++ bvs.drop (off + cs.length)) post hh' ?_ hpre ?_ hones hf)
      · rw [hc', hcc]
        have e1 : (pre ++ bvs ++ post).take (p.2 + off + 0) = pre ++ bvs.take off := by
          rw [List.append_assoc, List.take_append, List.take_append]
          rw [List.take_of_length_le (by omega), show p.2 + off + 0 - pre.length = off by omega, show off - bvs.length = 0 by omega]
          simp
        have e2 : (pre ++ bvs ++ post).drop (p.2 + off + 0 + vs.length) = bvs.drop (off + cs.length) ++ post := by
          rw [List.append_assoc, List.drop_append, List.drop_append]
          rw [List.drop_of_length_le (by omega), show p.2 + off + 0 + vs.length - pre.length = off + cs.length by omega, show off + cs.length - bvs.length = 0 by omega]
          simp
        rw [e1, e2]; simp
      · rw [hw]
        exact Reps.mono hm (((hbr.take off).append hr).append (hbr.drop _))
    · rw [hp] at hp'; cases hp'
      rw [had hne]
      exact hrun

theorem Ext.same_w {g : G} : Ext g { g with w := g.w } := Ext.refl g

theorem v_store (h : St S g0 m fr a σ g bx) {t : TypeId} {x y : Operand} (ho : o.op = .store t x y) {vx vy : AV} (hx : Rep g vx (a.eval x)) (hy : Rep g vy (a.eval y)) {σ' : Store} (hv : storeA σ (S.P.cellsOf t) vx vy = some σ') (hz : S.P.cellsOf t ≠ 0) :
    VOut S g0 m o a fr σ' g bx .undef := by
  unfold storeA at hv
  split at hv
  case h_2 => cases hv
  rename_i id off
  simp only [lenR_eq, nbeq] at hv
  split at hv
  case isFalse => cases hv
  rename_i hc
  simp only [Bool.and_eq_true, decide_eq_true_eq] at hc
  obtain ⟨hl, hs⟩ := hc
  obtain ⟨hr, h1⟩ := cells_rep hy hs
  have hcl := hr.length
  obtain ⟨w', hext, hinv, hrun⟩ := write_spec (P := S.P) h.inv hv hr h1
  generalize hcx : a.eval x = cx at hx
  cases hx with | ptr _ _ ad hn hphi =>
  have hlive : ∃ p, g.φ id = some p := by
    unfold Store.write at hv
    split at hv
    · rename_i hg
      obtain ⟨p, hp, _⟩ := h.inv.live id _ hg
      exact ⟨p, hp⟩
    · cases hv
  obtain ⟨p, hp⟩ := hlive
  refine VOut.skip h (g' := { g with w := w' }) ?_ hext hinv
  have := hrun p ad hp (fun _ => hphi p hp)
  simp only [execOp, ho, hcx, Instr.storeAt, Instr.sureAddr, storeVar, Sem.run_bind, Sem.run_pure, Result.andThen_ok, run_size (info_of_cells hz), Sem.run_ite]
  rw [if_neg (by simp at hcl ⊢; omega)]
  simp only [this, Result.andThen_ok]

theorem v_copy (h : St S g0 m fr a σ g bx) {c : Call} (ho : o.op = .call c) (hc : c.callee = .builtin .copy) {x y : Operand} (ha : c.args.toList = [x, y]) {t e : TypeId} (ht : c.argTypes[0]? = some t) (hu : S.P.underlying t = some (.slice e)) (hz : ∃ i, S.P.info? e = some i)
    {vx vy v : AV} {σ' : Store} (hx : Rep g vx (a.eval x)) (hy : Rep g vy (a.eval y)) (hv : copyA σ (S.P.cellsOf e) vx vy = some (v, σ')) : VOut S g0 m o a fr σ' g bx v := by
  have hargs : c.args = #[x, y] := Array.toList_inj.1 (by simpa using ha)
  unfold copyA at hv
  split at hv
  case h_2 => cases hv
  rename_i la lb ys hla hlb hrow
  simp only at hv
  obtain ⟨hlen, hyl, hy1, hfirst⟩ := first_spec (P := S.P) h.inv hy hrow hlb
  obtain ⟨vs, hfr, hreps⟩ := hfirst (min lb la) (Nat.min_le_left _ _)
  rw [takeN_eq] at hv
  split at hv
  · cases hv
  rename_i r hr
  split at hr
  case isFalse => cases hr
  cases hr
  have hmin : Nat.min lb la = min lb la := rfl
  split at hv
  · -- nil
    cases hv
    cases hla
    generalize hcx : a.eval x = cx at hx
    cases hx
    refine VOut.pure h (cv := goInt ((min lb 0 : Nat) : Int)) ?_ (.int _ _)
    rw [run_builtin ho hc]
    simp only [builtin, hargs, List.map_toArray, List.map_cons, List.map_nil, hcx, Builtin.copy_, ht, List.getElem?_toArray, List.getElem?_cons_zero, List.getElem?_cons_succ, Sem.run_bind, run_underlying hu, Result.andThen_ok, hlen, run_size hz, Sem.run_pure]
    simp only [show ∀ a b : Nat, Nat.min a b = min a b from fun _ _ => rfl, hfr, Result.andThen_ok]
  · rename_i id off len cap es
    split at hv
    case h_2 => cases hv
    rename_i σ1 hw
    cases hv
    simp only [lenA, Option.some.injEq] at hla
    subst hla
    generalize hcx : a.eval x = cx at hx
    cases hx with | sl _ _ _ _ _ ad ccap hn hle hcap hphi =>
    have hones : ∀ c ∈ ys.take (min lb len * S.P.cellsOf e), one c = true := fun c hc => hy1 c (List.mem_of_mem_take hc)
    obtain ⟨w', hext, hinv, hrun⟩ := write_spec (P := S.P) h.inv hw hreps hones
    have hlive : ∃ p, g.φ id = some p := by
      unfold Store.write at hw
      split at hw
      · rename_i hg
        obtain ⟨p, hp, _⟩ := h.inv.live id _ hg
        exact ⟨p, hp⟩
      · cases hw
    obtain ⟨p, hp⟩ := hlive
    have hst := hrun p ad hp (fun hne => by
      obtain ⟨hA, _⟩ := hphi p hp
      rcases hA with hA | hA
      · exfalso
        apply hne
        have : min lb len = 0 := by omega
        rw [this]; simp
      · exact hA)
    refine VOut.next h (g' := { g with w := w' }) (cv := goInt ((min lb len : Nat) : Int)) ?_ hext hinv (.int _ _)
    rw [run_builtin ho hc]
    simp only [builtin, hargs, List.map_toArray, List.map_cons, List.map_nil, hcx, Builtin.copy_, ht, List.getElem?_toArray, List.getElem?_cons_zero, List.getElem?_cons_succ, Sem.run_bind, run_underlying hu, Result.andThen_ok, hlen, run_size hz, Sem.run_pure]
    simp only [show ∀ a b : Nat, Nat.min a b = min a b from fun _ _ => rfl, hfr, Result.andThen_ok, hst]
  · cases hv

end
end Go.Vm

/- Appends. -/
namespace Go.Vm
open Go
variable {S : Sys} {P : Program}
section
variable {g0 g : G} {m : Meta} {fr stk : List AV} {a : Act} {σ : Store} {bx : Nat → Option Nat} {env : RE} {o : Oper}

/-- What is known of an append's types. -/
structure AppT (P : Program) (ats : Array TypeId) (e : TypeId) (inf : TypeInfo) (z : Value) : Prop where
  types : ∃ t u, ats[0]? = some t ∧ ats[1]? = some u ∧ P.underlying t = some (.slice e) ∧ ((∃ e', P.underlying u = some (.slice e')) ∨ P.underlying u = some .string)
  info : P.info? e = some inf
  zero : inf.zero = some z
  pos : 0 < P.cellsOf e
  bytes : P.bytesOf e ≤ 1048576
  zsize : z.cells.size = P.cellsOf e

theorem AppT.size {ats : Array TypeId} {e : TypeId} {inf : TypeInfo} {z : Value} (h : AppT P ats e inf z) : inf.size = P.cellsOf e := by simp [Program.cellsOf, h.info]
theorem AppT.byt {ats : Array TypeId} {e : TypeId} {inf : TypeInfo} {z : Value} (h : AppT P ats e inf z) : inf.bytes = P.bytesOf e := by simp [Program.bytesOf, h.info]

/-- There is room. -/
theorem run_app_in {ats : Array TypeId} {e : TypeId} {inf : TypeInfo} {z : Value} (h : AppT P ats e inf z) (ty : TypeId) {base : Option Addr} {sLen sCap n : Nat} {cy : Value} {w w' : World} {vs : List Value} (hlen : (Builtin.lenOf cy).run P w = .ok n w)
    (hf : (Builtin.firstCells (P.cellsOf e) n cy).run P w = .ok vs.toArray w) (hroom : sLen + n ≤ sCap)
    (hst : ∀ ad, base = some ad → (storeCells (ad.add (sLen * P.cellsOf e)) vs).run P w = .ok () w') (hn : base = none → w' = w) :
    (Builtin.append_ ats ty #[.slice base sLen sCap, cy]).run P w = .ok (.slice base (sLen + n) sCap) w' := by
  obtain ⟨t, u, h1, h2, h3, h4⟩ := h.types
  have hz : (match ats[1]? with | some xType => do pure ((← underlying xType) matches .int _) | none => pure false : Sem Bool).run P w = .ok false w := by
    rw [h2]
    rcases h4 with ⟨e', h4⟩ | h4 <;> simp only [Sem.run_bind, run_underlying h4, Result.andThen_ok, Sem.run_pure]
  have hs : (sizeOf e).run P w = .ok (P.cellsOf e) w := run_size ⟨inf, h.info⟩
  rcases h4 with ⟨e', h4⟩ | h4
  all_goals
    cases base with
    | none =>
      have := hn rfl
      subst this
      simp only [Builtin.append_, h1, h2, List.getElem?_toArray, List.getElem?_cons_zero, List.getElem?_cons_succ, Sem.run_bind, run_underlying h3, run_underlying h4, Result.andThen_ok, hs, Sem.run_pure, Bool.false_eq_true, if_false, hlen, hroom, if_true, Bool.not_false, hf]
    | some ad =>
      simp only [Builtin.append_, h1, h2, List.getElem?_toArray, List.getElem?_cons_zero, List.getElem?_cons_succ, Sem.run_bind, run_underlying h3, run_underlying h4, Result.andThen_ok, hs, Sem.run_pure, Bool.false_eq_true, if_false, hlen, hroom, if_true, Bool.not_false, hf, hst ad rfl]

/-- There is no room: a new row. -/
theorem run_app_new {ats : Array TypeId} {e : TypeId} {inf : TypeInfo} {z : Value} (h : AppT P ats e inf z) (ty : TypeId) {base : Option Addr} {sLen sCap n : Nat} {cy : Value} {w : World} {os vs : List Value} (hlen : (Builtin.lenOf cy).run P w = .ok n w)
    (hf : (Builtin.firstCells (P.cellsOf e) n cy).run P w.drew = .ok vs.toArray w.drew) (ho : (Builtin.firstCells (P.cellsOf e) sLen (.slice base sLen sCap)).run P w.drew = .ok os.toArray w.drew)
    (hroom : ¬ sLen + n ≤ sCap) (hb : (sLen + n) * P.bytesOf e ≤ maxBytes) (hi : sLen + n ≤ 4611686018427387904) :
    ∃ ncap rest, sLen + n ≤ ncap ∧ (Builtin.append_ ats ty #[.slice base sLen sCap, cy]).run P w = .ok (.slice (some ⟨w.heap.size, 0, none⟩) (sLen + n) ncap) { w.drew with heap := w.heap.push (.cells (os.toArray ++ vs.toArray ++ rest) e) } ∧
      rest.size = (ncap - (sLen + n)) * z.cells.size := by
  obtain ⟨t, u, h1, h2, h3, h4⟩ := h.types
  have hs : (sizeOf e).run P w = .ok (P.cellsOf e) w := run_size ⟨inf, h.info⟩
  have emb : maxBytes = 70368744177664 := by decide
  rw [emb] at hb
  have hfit : Builtin.nextslicecap (sLen + n) sCap * inf.bytes ≤ 281474976710656 := growslice_fits (by omega) (by rw [h.byt]; omega)
  have hz : (zeroValue e).run P w.drew = .ok z w.drew := run_zero (by simp [h.info, h.zero])
  have hti : (typeInfo e).run P w = .ok inf w := run_typeInfo w h.info
  have htd : (typeInfo e).run P w.drew = .ok inf w.drew := run_typeInfo _ h.info
  have c1 : ¬ (((sLen + n : Nat) : Int) > IntKind.i64.max ∧ (False ∨ inf.bytes = 0)) := by
    intro hc
    have : ((sLen + n : Nat) : Int) > IntKind.i64.max := hc.1
    simp only [IntKind.max, IntKind.signed, IntKind.bits, if_true, Nat.reduceSub, Int.reducePow, Int.reduceSub] at this
    omega
  have c2 : ¬ (Builtin.nextslicecap (sLen + n) sCap * inf.bytes > 2 ^ 48) := by
    have : (2 : Nat) ^ 48 = 281474976710656 := by decide
    omega
  let q : Question := .appendCap (sLen + n) sCap e
  have hq : (choose q).run P w = .ok (q.cut (w.tape w.drawn q)) w.drew := by rw [run_choose]; rfl
  refine ⟨q.cut (w.tape w.drawn q), Builtin.zeroCells z.cells (q.cut (w.tape w.drawn q) - (sLen + n)), Nat.le_add_right _ _, ?_, by simp [Builtin.zeroCells]⟩
  rcases h4 with ⟨e', h4⟩ | h4
  all_goals
    simp only [Builtin.append_, h1, h2, List.getElem?_toArray, List.getElem?_cons_zero, List.getElem?_cons_succ, Sem.run_bind, run_underlying h3, run_underlying h4, Result.andThen_ok, hs, Sem.run_pure, Bool.false_eq_true, if_false, hlen, hroom, Bool.not_false, if_true, hti, Sem.run_ite]
    rw [if_neg c1, if_neg c2]
    have hq' := hq
    simp only [q] at hq'
    simp only [hq', Result.andThen_ok, htd, run_askRoom, ho, hf, hz, newRow, run_newObj, Sem.run_bind, Sem.run_pure]
    rfl


/-! ### A name given up, a block named anew -/
def G.kill (g : G) (id : Nat) : G := { g with φ := fun i => if i = id then none else g.φ i }
theorem Ext.kill (g : G) (id : Nat) : Ext g (g.kill id) where
  nx := Nat.le_refl _
  phi := fun i _ p hp => by
    simp only [G.kill] at hp
    split at hp
    · cases hp
    · exact hp
  phiNew := fun i _ p hp => by
    simp only [G.kill] at hp
    split at hp
    · cases hp
    · exact .inr ⟨i, p, hp, rfl⟩
  size := Nat.le_refl _
  keep := fun _ _ _ => rfl
  fro := fun _ h => h
  froNew := fun _ h => .inl h
  bor := rfl
  shape := fun _ cs _ fz h => ⟨cs, fz, h, rfl⟩
  os := rfl
  tape := rfl
  output := rfl
theorem Inv.kill {g : G} {σ : Store} (hi : Inv S g σ) (id : Nat) : Inv S (g.kill id) (σ.del id) := by
  have hm := (Ext.kill g id).mono hi
  refine ⟨hi.nx, fun i h => ?_, fun i b h => ?_, fun i h => ?_, fun i j p q hp hq => ?_, fun i p hp => ?_, hi.fro, hi.bor, fun p hp => (hi.glob p hp).mono hm, fun i p hp => ?_⟩
  · simp only [G.kill]
    split
    · rfl
    · exact hi.dom i h
  · rw [Store.get_del] at h
    split at h
    · cases h
    · rename_i e
      obtain ⟨p, hp, hr⟩ := hi.live i b h
      exact ⟨p, by simp [G.kill, Ne.symm e, hp], hr.mono hm rfl⟩
  · rw [Store.get_del] at h
    split at h
    · rename_i e; subst e; simp [G.kill]
    · rename_i e; simp [G.kill, Ne.symm e, hi.dead i h]
  · simp only [G.kill] at hp hq
    split at hp <;> split at hq <;> try (first | cases hp | cases hq)
    exact hi.inj i j p q hp hq
  · simp only [G.kill] at hp
    split at hp
    · cases hp
    · exact hi.own i p hp
  · simp only [G.kill] at hp
    split at hp
    · cases hp
    · exact hi.base i p hp

def G.rename (g : G) (id : Nat) (p : Nat × Nat) (w' : World) : G := { g with w := w', φ := fun i => if i = g.nx then some p else if i = id then none else g.φ i, nx := g.nx + 1 }
theorem Inv.ext_rename {g : G} {σ : Store} (_hi : Inv S g σ) {id : Nat} {p : Nat × Nat} (hp : g.φ id = some p) {w' : World} (ha : Alike1 g.w w' p.1) : Ext g (g.rename id p w') where
  nx := Nat.le_succ _
  phi := fun i hlt q hq => by
    simp only [G.rename] at hq
    rw [if_neg (by omega)] at hq
    split at hq
    · cases hq
    · exact hq
  phiNew := fun i hle q hq => by
    simp only [G.rename] at hq
    split at hq
    · cases hq; exact .inr ⟨id, p, hp, rfl⟩
    · split at hq
      · cases hq
      · exact .inr ⟨i, q, hq, rfl⟩
  size := by simp [G.rename, ha.size]
  keep := fun b _ hn => ha.other b fun e => hn id p hp e.symm
  fro := fun _ h => h
  froNew := fun _ h => .inl h
  bor := rfl
  shape := fun b cs ty fz h => by
    by_cases e : b = p.1
    · subst e; exact ha.shape cs ty fz h
    · exact ⟨cs, fz, by rw [← h]; exact ha.other b e, rfl⟩
  os := ha.os
  tape := ha.tape
  output := ha.output

theorem Inv.rename {g : G} {σ : Store} (hi : Inv S g σ) {id : Nat} {p : Nat × Nat} (hp : g.φ id = some p) {w' : World} (ha : Alike1 g.w w' p.1) {b1 : Blk}
    (hb : BlkRep S (g.rename id p w') p b1) : Inv S (g.rename id p w') ((σ.del id).new b1) := by
  have hm := (hi.ext_rename hp ha).mono hi
  refine ⟨by simp [G.rename, Store.new, Store.del, hi.nx], fun i h => ?_, fun j b h => ?_, fun j h => ?_, fun i j q r hq hr e => ?_, fun j q hq => ?_, fun b h => ?_, fun b h => ?_, fun p hp => (hi.glob p hp).mono hm, fun j q hq => ?_⟩
  · simp only [G.rename] at h ⊢
    rw [if_neg (by omega)]
    split
    · rfl
    · exact hi.dom i (by omega)
  · rw [Store.get_new] at h
    simp only [Store.del, hi.nx] at h
    split at h
    · rename_i e
      cases h; subst e
      exact ⟨p, by simp [G.rename], hb⟩
    · rename_i e
      rw [show (⟨g.nx, delB σ.bs id⟩ : Store) = σ.del id from by rw [← hi.nx]; rfl, Store.get_del] at h
      split at h
      · cases h
      · rename_i e2
        obtain ⟨q, hq, hr⟩ := hi.live j b h
        exact ⟨q, by simp [G.rename, Ne.symm e, Ne.symm e2, hq], hr.mono hm (ha.other q.1 fun e3 => e2 (hi.inj id j p q hp hq e3.symm))⟩
  · rw [Store.get_new] at h
    simp only [Store.del, hi.nx] at h
    split at h
    · cases h
    · rename_i e
      rw [show (⟨g.nx, delB σ.bs id⟩ : Store) = σ.del id from by rw [← hi.nx]; rfl, Store.get_del] at h
      split at h
      · rename_i e2; subst e2; simp [G.rename, Ne.symm e]
      · rename_i e2; simp [G.rename, Ne.symm e, Ne.symm e2, hi.dead j h]
  · simp only [G.rename] at hq hr
    split at hq <;> split at hr
    · omega
    · split at hr
      · cases hr
      · rename_i e1 e2 e3
        cases hq
        exact absurd (hi.inj id j _ _ hp hr e).symm e3
    · split at hq
      · cases hq
      · rename_i e1 e2 e3
        cases hr
        exact absurd (hi.inj i id _ _ hq hp e) e3
    · split at hq
      · cases hq
      · split at hr
        · cases hr
        · exact hi.inj i j q r hq hr e
  · simp only [G.rename] at hq ⊢
    rw [ha.size]
    split at hq
    · cases hq; exact hi.own id _ hp
    · split at hq
      · cases hq
      · exact hi.own j q hq
  · simp only [G.rename]; rw [ha.size]; exact hi.fro b h
  · simp only [G.rename]; rw [ha.size]; exact hi.bor b h
  · simp only [G.rename] at hq
    split at hq
    · cases hq; exact hi.base id _ hp
    · split at hq
      · cases hq
      · exact hi.base j q hq

/-- A new row: old cells, new cells. -/
theorem grow_spec (hi : Inv S g σ) {ats : Array TypeId} {e : TypeId} {inf : TypeInfo} {z : Value} (h : AppT S.P ats e inf z) (ty : TypeId) {base : Option Addr} {sLen sCap n : Nat} {cy : Value} {vx vy : AV} {os ys : List AV}
    (hx : Rep g vx (.slice base sLen sCap)) (hy : Rep g vy cy) (hrx : rowOf σ (S.P.cellsOf e) vx = some os) (hlx : lenA vx = some sLen) (hry : rowOf σ (S.P.cellsOf e) vy = some ys) (hly : lenA vy = some n)
    (hroom : ¬ sLen + n ≤ sCap) (hb : (sLen + n) * S.P.bytesOf e ≤ maxBytes) (hl : sLen + n ≤ 4611686018427387904) {g1 : G} {σ1 : Store} (hi1 : Inv S g1 σ1) (e1 : Ext g.drew g1) (hw : g1.w = g.w.drew) (fz : Nat) :
    ∃ cv g', (Builtin.append_ ats ty #[.slice base sLen sCap, cy]).run S.P g.w = .ok cv g'.w ∧ Ext g g' ∧ Inv S g' (σ1.new (.cells e fz (app os ys))) ∧ Rep g' (.sl σ1.next 0 (sLen + n) none (S.P.cellsOf e)) cv := by
  have hid := hi.drew
  have hmd := (Ext.drew g).mono hi
  obtain ⟨hleny, _, _, _⟩ := first_spec (P := S.P) hi hy hry hly
  obtain ⟨_, hyl, hy1, hyf⟩ := first_spec (P := S.P) hid (hy.mono hmd) hry hly
  obtain ⟨_, hxl, hx1, hxf⟩ := first_spec (P := S.P) hid (hx.mono hmd) hrx hlx
  obtain ⟨yv, hyr, hyreps⟩ := hyf n (Nat.le_refl _)
  obtain ⟨xv, hxr, hxreps⟩ := hxf sLen (Nat.le_refl _)
  rw [List.take_of_length_le (by omega)] at hyreps hxreps
  obtain ⟨ncap, rest, hnc, hrun, hrs⟩ := run_app_new h ty hleny hyr hxr hroom hb hl
  have hm1 := e1.mono hid
  have hreps : Reps g1 (app os ys) (xv ++ yv) := by rw [app_eq]; exact Reps.mono hm1 (hxreps.append hyreps)
  obtain ⟨he2, hi2⟩ := new_cells hi1 hreps (by rw [app_eq]; intro c hc; rcases List.mem_append.1 hc with hc | hc; exact hx1 c hc; exact hy1 c hc) e fz (ccs := xv.toArray ++ yv.toArray ++ rest) (post := rest.toList) (by simp)
  have hwe : (g1.alloc (.cells (xv.toArray ++ yv.toArray ++ rest) e)).w = { g.w.drew with heap := g.w.heap.push (.cells (xv.toArray ++ yv.toArray ++ rest) e) } := by
    simp only [G.alloc, hw]; rfl
  refine ⟨_, g1.alloc (.cells (xv.toArray ++ yv.toArray ++ rest) e), by rw [hwe]; exact hrun, ((Ext.drew g).trans e1).trans he2, hi2, ?_⟩
  rw [hi1.nx]
  have hxl' := hxreps.length
  have hyl' := hyreps.length
  refine .sl _ _ _ _ _ _ _ (by simp [G.alloc]) hnc (fun c hc => by cases hc) fun p hp => ?_
  simp only [G.alloc, if_true, Option.some.injEq] at hp
  subst hp
  have hsz : g1.w.heap.size = g.w.heap.size := by rw [hw]; rfl
  have hz := h.zsize
  have hcsz : 0 + 0 + ncap * S.P.cellsOf e = (xv.toArray ++ yv.toArray ++ rest).size := by
    simp only [Array.size_append, List.size_toArray, hrs, hz]
    rw [← hxl', ← hyl', hxl, hyl]
    have : ncap = (sLen + n) + (ncap - (sLen + n)) := by omega
    rw [this, Nat.add_mul, Nat.add_mul]
    simp only [Nat.zero_add, Nat.add_sub_cancel_left]
  exact ⟨.inr (by rw [hsz]), _, e, (0, 0), Array.getElem?_push_size, fun _ => by simpa using hcsz, by simpa using Nat.le_of_eq hcsz⟩

end
end Go.Vm

/- Appends, the whole. -/
namespace Go.Vm
open Go
variable {S : Sys} {P : Program}
section
variable {g0 g : G} {m : Meta} {fr stk : List AV} {a : Act} {σ : Store} {bx : Nat → Option Nat} {env : RE} {o : Oper}

theorem write_live (h : Inv S g σ) {id off : Nat} {cs : List AV} {σ' : Store} (hw : σ.write id off cs = some σ') : ∃ p, g.φ id = some p := by
  unfold Store.write at hw
  split at hw
  · rename_i hg
    obtain ⟨p, hp, _⟩ := h.live id _ hg
    exact ⟨p, hp⟩
  · cases hw

/-- There is room in a live row. -/
theorem app_write (h : Inv S g σ) {ats : Array TypeId} {e : TypeId} {inf : TypeInfo} {z : Value} (ht : AppT S.P ats e inf z) (ty : TypeId) {cx cy : Value} {vy : AV} {ys : List AV} {n id off len : Nat} {cap cap' : Option Nat} {σ' : Store}
    (hx : Rep g (.sl id off len cap (S.P.cellsOf e)) cx) (hy : Rep g vy cy) (hry : rowOf σ (S.P.cellsOf e) vy = some ys) (hly : lenA vy = some n) (hroom : ∀ ad ccap, cx = .slice (some ad) len ccap → len + n ≤ ccap) (hc' : cap' = cap)
    (hw : σ.write id (off + len * S.P.cellsOf e) ys = some σ') :
    ∃ cv g', (Builtin.append_ ats ty #[cx, cy]).run S.P g.w = .ok cv g'.w ∧ Ext g g' ∧ Inv S g' σ' ∧ Rep g' (.sl id off (len + n) cap' (S.P.cellsOf e)) cv := by
  subst hc'
  obtain ⟨hleny, hyl, hy1, hyf⟩ := first_spec (P := S.P) h hy hry hly
  obtain ⟨vs, hfr, hreps⟩ := hyf n (Nat.le_refl _)
  rw [List.take_of_length_le (by omega)] at hreps
  obtain ⟨w', hext, hinv, hrun⟩ := write_spec (P := S.P) h hw hreps hy1
  obtain ⟨p, hp⟩ := write_live h hw
  have hm := hext.mono h
  cases hx with | sl _ _ _ _ _ ad ccap hn hle hcap hphi =>
  have hr := hroom ad ccap rfl
  have hst := hrun p (ad.add (len * S.P.cellsOf e)) hp (fun hne => by
    obtain ⟨hA, _⟩ := hphi p hp
    rcases hA with hA | hA
    · exfalso
      apply hne
      have : n = 0 := by omega
      subst this
      exact List.eq_nil_of_length_eq_zero (by omega)
    · rw [hA, addr_add, Nat.add_assoc])
  refine ⟨_, { g with w := w' }, run_app_in ht ty hleny hfr hr (w' := w') (fun ad' e' => by cases e'; exact hst) (fun e' => by cases e'), hext, hinv, ?_⟩
  refine .sl _ _ _ _ _ _ _ hn hr hcap fun q hq => ?_
  obtain ⟨h1, cs, ty', fz, hh, h2, h3⟩ := hphi q hq
  obtain ⟨cs', fz', hh', hz⟩ := hm.shape id q hn hq cs ty' fz hh
  exact ⟨h1, cs', ty', fz', hh', by rw [hz]; exact h2, by rw [hz]; exact h3⟩

/-- Nothing is put behind. -/
theorem app_nothing (h : Inv S g σ) {ats : Array TypeId} {e : TypeId} {inf : TypeInfo} {z : Value} (ht : AppT S.P ats e inf z) (ty : TypeId) {base : Option Addr} {sLen sCap : Nat} {cy : Value} {vy : AV} {ys : List AV} 
    (hy : Rep g vy cy) (hry : rowOf σ (S.P.cellsOf e) vy = some ys) (hly : lenA vy = some 0) (hle : sLen ≤ sCap) :
    (Builtin.append_ ats ty #[.slice base sLen sCap, cy]).run S.P g.w = .ok (.slice base sLen sCap) g.w := by
  obtain ⟨hleny, hyl, hy1, hyf⟩ := first_spec (P := S.P) h hy hry hly
  obtain ⟨vs, hfr, hreps⟩ := hyf 0 (Nat.le_refl _)
  have : vs = [] := by
    have := hreps.length
    simp at this
    exact List.eq_nil_of_length_eq_zero this.symm
  subst this
  exact run_app_in ht ty hleny hfr (by omega) (fun ad _ => rfl) (fun _ => rfl)

theorem append_spec (h : Inv S g σ) {ats : Array TypeId} {e : TypeId} {inf : TypeInfo} {z : Value} (ht : AppT S.P ats e inf z) (ty : TypeId) {cx cy : Value} {vx vy v : AV} {σ' : Store}
    (hx : Rep g vx cx) (hy : Rep g vy cy) (hv : appendA σ e (S.P.cellsOf e) (S.P.bytesOf e) vx vy = some (v, σ')) :
    ∃ cv g', (Builtin.append_ ats ty #[cx, cy]).run S.P g.w = .ok cv g'.w ∧ Ext g g' ∧ Inv S g' σ' ∧ Rep g' v cv := by
  unfold appendA at hv
  split at hv
  case h_2 => cases hv
  rename_i ys n hry hly
  have hgrow : ∀ {len n : Nat} {old ys : List AV} {v : AV} {σ' : Store}, growA σ e (S.P.cellsOf e) (S.P.bytesOf e) len n old ys = some (v, σ') → (len + n) * S.P.bytesOf e ≤ maxBytes ∧ len + n ≤ 4611686018427387904 ∧
      v = .sl σ.next 0 (len + n) none (S.P.cellsOf e) ∧ σ' = σ.new (.cells e 0 (app old ys)) := by
    intro len n old ys v σ' hg
    unfold growA at hg
    rw [nble, nble, ← Bool.decide_and] at hg
    by_cases hc : (len + n) * S.P.bytesOf e ≤ maxBytes ∧ len + n ≤ 4611686018427387904
    · rw [decide_eq_true hc] at hg
      cases hg
      exact ⟨hc.1, hc.2, rfl, rfl⟩
    · rw [decide_eq_false hc] at hg; cases hg
  split at hv
  · -- nil
    generalize hcx : cx = cx' at hx
    cases hx
    rw [nbeq] at hv
    by_cases hn : n = 0
    · subst hn
      simp only [decide_true, cond_true, Option.some.injEq, Prod.mk.injEq] at hv
      obtain ⟨rfl, rfl⟩ := hv
      exact ⟨_, g, app_nothing h ht ty hy hry hly (Nat.le_refl _), .refl g, h, .nils⟩
    · rw [decide_eq_false hn] at hv
      obtain ⟨hb, hl, rfl, rfl⟩ := hgrow hv
      exact grow_spec h ht ty .nils hy rfl rfl hry hly (by omega) hb hl h.drew (.refl _) rfl 0
  · rename_i id off len cap es'
    rw [nbeq] at hv
    by_cases hes : S.P.cellsOf e = es'
    case neg => rw [decide_eq_false hes] at hv; cases hv
    subst hes
    simp only [decide_true, cond_true] at hv
    unfold appendSl at hv
    split at hv
    case h_2 => cases hv
    rename_i ty' fz cs hg
    obtain ⟨p, vs, hp, hrw⟩ := live_row h hg
    split at hv
    · -- the capacity is known
      rename_i c
      rw [nble] at hv
      by_cases hc : len + n ≤ c
      · simp only [hc, decide_true, cond_true] at hv
        split at hv
        case h_2 => cases hv
        rename_i σ1 hw
        cases hv
        refine app_write h ht ty hx hy hry hly (fun ad ccap hcx => ?_) rfl hw
        subst hcx
        cases hx with | sl _ _ _ _ _ _ _ hn hle hcap hphi => rw [hcap c rfl]; exact hc
      · simp only [hc, decide_false, cond_false] at hv
        split at hv
        case h_2 => cases hv
        rename_i old hold
        obtain ⟨hb, hl, rfl, rfl⟩ := hgrow hv
        generalize hcx : cx = cx' at hx
        cases hx with | sl _ _ _ _ _ ad ccap hn hle hcap hphi =>
        exact grow_spec h ht ty (vx := .sl id off len (some c) (S.P.cellsOf e)) (.sl _ _ _ _ _ ad ccap hn hle hcap hphi) hy (by simp only [rowOf, hg]; exact hold) rfl hry hly (by rw [hcap c rfl]; exact hc) hb hl h.drew (.refl _) rfl 0
    · rw [nbeq] at hv
      by_cases hn0 : n = 0
      · subst hn0
        simp only [decide_true, cond_true, Option.some.injEq, Prod.mk.injEq] at hv
        obtain ⟨rfl, rfl⟩ := hv
        generalize hcx : cx = cx' at hx
        cases hx with | sl _ _ _ _ _ ad ccap hn hle hcap hphi =>
        exact ⟨_, g, app_nothing h ht ty hy hry hly hle, .refl g, h, .sl _ _ _ _ _ ad ccap hn hle hcap hphi⟩
      · simp only [hn0, decide_false, cond_false, nble, lenR_eq] at hv
        have hroomy : ∀ ad ccap, cx = .slice (some ad) len ccap → off + (len + n) * S.P.cellsOf e ≤ cs.length → len + n ≤ ccap := by
          intro ad ccap hcx hle2
          subst hcx
          cases hx with | sl _ _ _ _ _ _ _ hn hle hcap hphi =>
          obtain ⟨_, ccs, ty2, fz2, hh, h2, _⟩ := hphi p hp
          obtain ⟨p', hp', hb⟩ := h.live id _ hg
          rw [hp] at hp'; cases hp'
          cases hb with | cells _ _ _ ccs' frz pre bvs post hh' hcc hpre hbr hb1 hf =>
          rw [hh] at hh'
          cases hh'
          have hsz := congrArg List.length hcc
          simp only [Array.length_toList, List.length_append] at hsz
          have hbl := hbr.length
          have h2 := h2 rfl
          have : (len + n) * S.P.cellsOf e ≤ ccap * S.P.cellsOf e := by omega
          exact Nat.le_of_mul_le_mul_right this ht.pos
        by_cases hfit : off + (len + n) * S.P.cellsOf e ≤ cs.length
        · simp only [hfit, decide_true, cond_true] at hv
          split at hv
          case h_2 => cases hv
          rename_i σ1 hw
          cases hv
          exact app_write h ht ty hx hy hry hly (fun ad ccap hcx => hroomy ad ccap hcx hfit) rfl hw
        · simp only [hfit, decide_false, cond_false, nbeq] at hv
          by_cases hc : (off = 0 ∧ fz ≤ len * S.P.cellsOf e) ∧ e = ty'
          case neg =>
            rw [← Bool.decide_and, ← Bool.decide_and, decide_eq_false hc] at hv
            cases hv
          obtain ⟨⟨rfl, hfz⟩, rfl⟩ := hc
          simp only [decide_true, hfz, Bool.and_self, cond_true] at hv
          split at hv
          case h_2 => cases hv
          rename_i old hold
          unfold moveA at hv
          rw [nble, nble, ← Bool.decide_and] at hv
          by_cases hbd : (len + n) * S.P.bytesOf e ≤ maxBytes ∧ len + n ≤ 4611686018427387904
          case neg => rw [decide_eq_false hbd] at hv; cases hv
          simp only [hbd, and_self, decide_true, cond_true, Option.some.injEq, Prod.mk.injEq] at hv
          obtain ⟨rfl, rfl⟩ := hv
          generalize hcx : cx = cx' at hx
          have hx' := hx
          cases hx with | sl _ _ _ _ _ ad ccap hn hle hcap hphi =>
          by_cases hroom : len + n ≤ ccap
          · -- in place
            obtain ⟨hleny, hyl, hy1, hyf⟩ := first_spec (P := S.P) h hy hry hly
            obtain ⟨yv, hfr, hreps⟩ := hyf n (Nat.le_refl _)
            rw [List.take_of_length_le (by omega)] at hreps
            obtain ⟨hA, ccs, ty2, fz2, hh, h2, h3⟩ := hphi p hp
            obtain ⟨p', hp', hb⟩ := h.live id _ hg
            rw [hp] at hp'; cases hp'
            cases hb with | cells _ _ _ ccs' frz pre bvs post hh' hcc hpre hbr hb1 hf =>
            rw [hh] at hh'
            cases hh'
            have hA' : ad = ⟨p.1, p.2 + 0, none⟩ := hA.resolve_left (by omega)
            have hsz := congrArg List.length hcc
            simp only [Array.length_toList, List.length_append] at hsz
            have hbl := hbr.length
            have hyvl := hreps.length
            have hmul : (len + n) * S.P.cellsOf e ≤ ccap * S.P.cellsOf e := Nat.mul_le_mul_right _ hroom
            have hmul2 : (len + n) * S.P.cellsOf e = len * S.P.cellsOf e + n * S.P.cellsOf e := Nat.add_mul _ _ _
            obtain ⟨w', ccs'', hrun, ha, hh'', hc''⟩ := run_storeCells' (P := S.P) (b := p.1) (o := p.2 + len * S.P.cellsOf e) yv 0 g.w ccs hh (by omega)
              (fun v hv => by
                obtain ⟨i, hi⟩ := List.getElem?_of_mem hv
                have hlt : i < ys.length := by have := (List.getElem?_eq_some_iff.1 hi).1; omega
                exact one_oneCell ((of_forall2 hreps).2 i _ v (List.getElem?_eq_getElem hlt) hi) (hy1 _ (List.getElem_mem hlt)))
              (fun j _ hj => by
                have := hf.out (i := len * S.P.cellsOf e + j) (by omega)
                rwa [← Nat.add_assoc] at this)
            have hext := h.ext_rename hp ha
            have hm := hext.mono h
            rw [readN_eq] at hold
            split at hold
            case isFalse => cases hold
            rename_i hol
            cases hold
            simp only [List.drop_zero, Nat.sub_zero] at hol ⊢
            have hinv := h.rename hp ha (b1 := .cells e fz (app (cs.take (len * S.P.cellsOf e)) ys))
              (.cells e fz _ ccs'' _ pre (bvs.take (len * S.P.cellsOf e) ++ yv) ((bvs ++ post).drop (len * S.P.cellsOf e + yv.length)) hh'' (by
                rw [hc'', hcc]
                have e1 : (pre ++ bvs ++ post).take (p.2 + len * S.P.cellsOf e + 0) = pre ++ bvs.take (len * S.P.cellsOf e) := by
                  rw [List.append_assoc, List.take_append, List.take_append]
                  rw [List.take_of_length_le (by omega), show p.2 + len * S.P.cellsOf e + 0 - pre.length = len * S.P.cellsOf e by omega, show len * S.P.cellsOf e - bvs.length = 0 by omega]
                  simp
                have e2 : (pre ++ bvs ++ post).drop (p.2 + len * S.P.cellsOf e + 0 + yv.length) = (bvs ++ post).drop (len * S.P.cellsOf e + yv.length) := by
                  rw [List.append_assoc, List.drop_append]
                  rw [List.drop_of_length_le (by omega), show p.2 + len * S.P.cellsOf e + 0 + yv.length - pre.length = len * S.P.cellsOf e + yv.length by omega]
                  simp
                rw [e1, e2]; simp) hpre (by rw [app_eq]; exact Reps.mono hm ((hbr.take _).append hreps))
                (by rw [app_eq]; intro c hc; rcases List.mem_append.1 hc with hc | hc; exact hb1 c (List.mem_of_mem_take hc); exact hy1 c hc) hf)
            refine ⟨_, g.rename id p w', run_app_in ht ty hleny hfr hroom (w' := w') (fun ad' e' => ?_) (fun e' => by cases e'), hext, hinv, ?_⟩
            · cases e'
              rw [hA', addr_add, Nat.add_zero]
              exact hrun
            · rw [h.nx]
              refine .sl _ _ _ _ _ _ _ (by simp [G.rename]) hroom (fun c hc => by cases hc) fun q hq => ?_
              simp only [G.rename, if_true, Option.some.injEq] at hq
              subst hq
              obtain ⟨cs3, fz3, hh3, hz3⟩ := ha.shape ccs e _ hh
              exact ⟨.inr hA', cs3, e, fz3, hh3, fun _ => by rw [hz3]; exact h2 rfl, by rw [hz3]; exact h3⟩
          · exact grow_spec h ht ty hx' hy (by simp only [rowOf, hg]; exact hold) rfl hry hly hroom hbd.1 hbd.2 (h.drew.kill id) (.kill _ _) rfl fz
  · rename_i t cs len cap es'
    rw [nbeq] at hv
    by_cases hes : S.P.cellsOf e = es'
    case neg => rw [decide_eq_false hes] at hv; cases hv
    subst hes
    simp only [decide_true, cond_true, nbeq] at hv
    by_cases hn0 : n = 0
    · subst hn0
      simp only [decide_true, cond_true, Option.some.injEq, Prod.mk.injEq] at hv
      obtain ⟨rfl, rfl⟩ := hv
      have hx' := hx
      cases hx with | lit _ _ _ _ _ b base ccap sp vs hlen hle hcap hs hok h1 hvl hc hrr =>
      exact ⟨_, g, app_nothing h ht ty hy hry hly hle, .refl g, h, hx'⟩
    · simp only [hn0, decide_false, cond_false] at hv
      split at hv
      case h_2 => cases hv
      rename_i c
      rw [nble] at hv
      by_cases hc : len + n ≤ c
      · simp [hc] at hv
      · simp only [hc, decide_false, cond_false] at hv
        split at hv
        case h_2 => cases hv
        rename_i old hold
        obtain ⟨hb, hl, rfl, rfl⟩ := hgrow hv
        have hx' := hx
        cases hx with | lit _ _ _ _ _ b base ccap sp vs hlen hle hcap hs hok h1 hvl hc' hrr =>
        exact grow_spec h ht ty hx' hy (by simp only [rowOf]; exact hold) rfl hry hly (by rw [hcap c rfl]; exact hc) hb hl h.drew (.refl _) rfl 0
  · cases hv

theorem v_append (h : St S g0 m fr a σ g bx) {c : Call} (ho : o.op = .call c) (hc : c.callee = .builtin .append) {x y : Operand} (ha : c.args.toList = [x, y]) {e : TypeId} {inf : TypeInfo} {z : Value} (ht : AppT S.P c.argTypes e inf z)
    {vx vy v : AV} {σ' : Store} (hx : Rep g vx (a.eval x)) (hy : Rep g vy (a.eval y)) (hv : appendA σ e (S.P.cellsOf e) (S.P.bytesOf e) vx vy = some (v, σ')) : VOut S g0 m o a fr σ' g bx v := by
  have hargs : c.args = #[x, y] := Array.toList_inj.1 (by simpa using ha)
  obtain ⟨cv, g', hrun, hext, hinv, hrep⟩ := append_spec h.inv ht o.type hx hy hv
  refine VOut.next h (cv := cv) ?_ hext hinv hrep
  rw [run_builtin ho hc]
  simp only [builtin, hargs, List.map_toArray, List.map_cons, List.map_nil]
  simp only [Sem.run_bind, hrun, Result.andThen_ok, Sem.run_pure]

end
end Go.Vm

/- Stores into maps; least and greatest; the bytes of texts; what is known of functions without a body. -/
namespace Go.Vm
open Go
variable {S : Sys} {P : Program}
section
variable {g0 g : G} {m : Meta} {fr stk : List AV} {a : Act} {σ : Store} {bx : Nat → Option Nat} {env : RE} {o : Oper}

theorem getMap {w : World} {r : Nat} {es : Array MapEntry} {clock : Nat} (hb : w.heap[r]? = some (.map es clock)) : (getObj r).run P w = .ok (.map es clock) w := by
  simp [getObj, Sem.run, hb]

theorem setMap {w : World} {r : Nat} {es : Array MapEntry} {clock : Nat} (ob : Obj) (hb : w.heap[r]? = some (.map es clock)) : (setObj r ob).run P w = .ok () { w with heap := w.heap.setIfInBounds r ob } := by
  simp [setObj, Sem.run, hb]

theorem sameNow_eq {d : TypeDesc} (hd : (∃ k, d = .int k) ∨ d = .string) {x y : Value} (h : Instr.sameNow d x y = some true) : x = y ∧ Instr.sameBits 10000 x y = true := by
  rcases hd with ⟨k, rfl⟩ | rfl
  · cases x <;> cases y <;> simp only [Instr.sameNow, reduceCtorEq] at h
    rename_i k1 a k2 b
    split at h
    · rename_i e
      subst e
      simp only [Option.some.injEq, beq_iff_eq] at h
      subst h
      exact ⟨rfl, by simp [Instr.sameBits]⟩
    · cases h
  · cases x <;> cases y <;> simp only [Instr.sameNow, reduceCtorEq, Option.some.injEq] at h
    have h' := h
    rw [beq_bytes, decide_eq_true_eq] at h'
    have := toNats_inj.1 h'
    subst this
    exact ⟨rfl, by simpa [Instr.sameBits] using h⟩

theorem putObj_alike {w : World} {b : Nat} {es : Array MapEntry} {cl : Nat} (hh : w.heap[b]? = some (.map es cl)) (ob : Obj) :
    Alike1 w { w with heap := w.heap.setIfInBounds b ob } b ∧ (w.heap.setIfInBounds b ob)[b]? = some ob := by
  have hlt := lt_of_some hh
  refine ⟨⟨by simp, fun k hk => ?_, fun cs ty fz h => ?_, rfl, rfl, rfl⟩, ?_⟩
  · simp only [Array.getElem?_setIfInBounds]
    rw [if_neg (fun e => hk e.symm)]
  · rw [hh] at h; cases h
  · simp [hlt]

theorem v_mapset (h : St S g0 m fr a σ g bx) {t kt et : TypeId} {x ix y : Operand} (ho : o.op = .mapUpdate t x ix y ∨ o.op = .insert t x ix y) (hu : S.P.underlying t = some (.map kt et)) {isStr : Bool} (hk : KeyT S.P isStr kt)
    {vm vk v : AV} {σ' : Store} (hm : Rep g vm (a.eval x)) (hkr : Rep g vk (a.eval ix)) (hvr : Rep g v (a.eval y)) (hv : mapsetA isStr σ vm vk v = some σ') : VOut S g0 m o a fr σ' g bx .undef := by
  generalize hcm : a.eval x = cm at hm
  generalize hck : a.eval ix = ck at hkr
  obtain ⟨d, hd, hd'⟩ := hk.desc
  unfold mapsetA at hv
  split at hv
  case h_2 => cases hv
  rename_i id
  split at hv
  case h_2 => cases hv
  rename_i ks vs hg
  split at hv
  case isFalse => cases hv
  rename_i hkey
  simp only [Bool.and_eq_true] at hkey
  cases hm with | map _ r hid hphi =>
  obtain ⟨p, hp, hb⟩ := h.inv.live id _ hg
  cases hb with | map _ _ es clock h0 hh hks hvs hkeys =>
  have := hphi p hp
  subst this
  have hchk : (Instr.checkKey false 10000 kt ck).run S.P g.w = .ok () g.w := checkKey_spec hk ck _ 9999 _
  have hk1 : keyable vk = true := by
    cases vk <;> simp [keyOf] at hkey <;> rfl
  have hop : ∀ w, (Instr.mapUpdate t (.map (some p.1)) ck (a.eval y)).run S.P g.w = .ok () w → (execOp a.eval o).run S.P g.w = .ok .skip w := by
    intro w hw
    rcases ho with ho | ho <;> simp only [execOp, ho, hcm, hck, Sem.run_bind, hw, Result.andThen_ok] <;> rfl
  have hd'' : (∃ k, d = .int k) ∨ d = .string := hd'.imp (fun x => x.2) (fun x => x.2)
  split at hv
  · rename_i i u hf
    cases hv
    rcases findK_spec hd' hkey.1 hkr hks hvs hf with ⟨q1, q2⟩ | ⟨j, u', e, q1, q2, q3, q4, q5, q6, q7⟩
    · cases q1
    · simp only [Option.some.injEq, Prod.mk.injEq] at q1
      obtain ⟨rfl, rfl⟩ := q1
      rw [Nat.zero_add] at q4 ⊢
      obtain ⟨hke, hsb⟩ := sameNow_eq hd'' q7
      obtain ⟨ha, hh'⟩ := putObj_alike hh (.map (es.modify j fun e => { e with key := ck, val := a.eval y }) clock)
      have hext := Ext.set hp ha
      have hmn := hext.mono h.inv
      have hjl : j < es.size := by have := (List.getElem?_eq_some_iff.1 q2).1; simpa using this
      have hkeysame : (es.modify j fun e => { e with key := ck, val := a.eval y }).toList.map (·.key) = es.toList.map (·.key) := by
        apply List.ext_getElem?
        intro i
        simp only [List.getElem?_map, Array.getElem?_toList, Array.getElem?_modify]
        split
        · rename_i e'
          subst e'
          rw [Array.getElem?_toList] at q2
          rw [q2]
          simp [hke]
        · rfl
      have hvalset : (es.modify j fun e => { e with key := ck, val := a.eval y }).toList.map (·.val) = (es.toList.map (·.val)).set j (a.eval y) := by
        apply List.ext_getElem?
        intro i
        simp only [List.getElem?_map, Array.getElem?_toList, Array.getElem?_modify, List.getElem?_set]
        split
        · rename_i e'
          subst e'
          simp [hjl]
        · rfl
      refine VOut.skip h (g' := { g with w := { g.w with heap := g.w.heap.setIfInBounds p.1 (.map (es.modify j fun e => { e with key := ck, val := a.eval y }) clock) } }) (hop _ ?_) hext
        (h.inv.set hg hp ha (.map ks (lset vs j v) _ clock h0 hh' (by rw [hkeysame]; exact hks.mono hmn) ?_ hkeys))
      · simp only [Instr.mapUpdate, Sem.run_bind, run_underlying hu, Result.andThen_ok, getMap hh, hchk, findKey_run hd q4, Instr.keyThatStays]
        have : ((es[j]?).map (·.key)).getD ck = ck := by
          rw [Array.getElem?_toList] at q2
          rw [q2]; simp [hke]
        rw [this]
        have hsb' : Instr.sameBits 10000 ck ck = true := by rw [← hke] at hsb; exact hsb
        simp only [hsb', if_true, Sem.run_pure, Result.andThen_ok]
        exact setMap _ hh
      · rw [hvalset, lset_eq]
        have hvs' : Reps { g with w := { g.w with heap := g.w.heap.setIfInBounds p.1 (.map (es.modify j fun e => { e with key := ck, val := a.eval y }) clock) } } vs (es.toList.map (·.val)) := hvs.mono hmn
        exact forall2_of (by simp [hvs'.length]) fun i c cv hc hcv => by
          rw [List.getElem?_set] at hc hcv
          split at hc
          · rename_i e'
            rw [if_pos e'] at hcv
            split at hc
            · split at hcv
              · cases hc; cases hcv; exact hvr.mono hmn
              · cases hcv
            · cases hc
          · rename_i e'
            rw [if_neg e'] at hcv
            exact (of_forall2 hvs').2 i c cv hc hcv
  · rename_i hf
    cases hv
    rcases findK_spec hd' hkey.1 hkr hks hvs hf with ⟨q1, q2⟩ | ⟨j, u', e, q1, _⟩
    · obtain ⟨ha, hh'⟩ := putObj_alike hh (.map (es.push { key := ck, val := a.eval y, born := clock }) (clock + 1))
      have hext := Ext.set hp ha
      have hmn := hext.mono h.inv
      refine VOut.skip h (g' := { g with w := { g.w with heap := g.w.heap.setIfInBounds p.1 (.map (es.push { key := ck, val := a.eval y, born := clock }) (clock + 1)) } }) (hop _ ?_) hext
        (h.inv.set hg hp ha (.map _ _ _ _ h0 hh' ?_ ?_ ?_))
      · simp only [Instr.mapUpdate, Sem.run_bind, run_underlying hu, Result.andThen_ok, getMap hh, hchk, findKey_run hd q2, Instr.keyThatStays]
        exact setMap _ hh
      · rw [app_eq]
        simp only [Array.toList_push, List.map_append, List.map_cons, List.map_nil]
        exact (Reps.mono hmn hks).append (.cons (hkr.mono hmn) .nil)
      · rw [app_eq]
        simp only [Array.toList_push, List.map_append, List.map_cons, List.map_nil]
        exact (Reps.mono hmn hvs).append (.cons (hvr.mono hmn) .nil)
      · rw [app_eq]
        intro c hc
        rcases List.mem_append.1 hc with hc | hc
        · exact hkeys c hc
        · simp at hc; subst hc; exact hk1
    · cases q1
  · cases hv

/-! ### Least and greatest -/
theorem mm2_none (mx : Bool) : ∀ l : List AV, l.foldl (mm2 mx) none = none
  | [] => rfl
  | x :: l => by rw [List.foldl_cons]; exact mm2_none mx l

theorem minmax_spec (mx : Bool) (w : World) : ∀ (xs : List AV) (vs : List Value) (k : IntKind) (n : Int) (v : AV), Reps g xs vs → xs.foldl (mm2 mx) (some (.int k n)) = some v →
    ∃ cv, (vs.foldlM (if mx then Builtin.max2 else Builtin.min2) (.int k n)).run P w = .ok cv w ∧ Rep g v cv
  | [], vs, k, n, v, hr, h => by
    cases hr
    simp at h
    subst h
    exact ⟨_, rfl, .int _ _⟩
  | x :: xs, vs, k, n, v, hr, h => by
    cases hr with | cons hx hr =>
    rename_i cv cvs
    rw [List.foldl_cons] at h
    cases hx <;> (try (simp only [mm2, mm2_none, reduceCtorEq] at h; done))
    rename_i j b
    simp only [mm2] at h
    split at h
    · rename_i hk
      have := kindEq_eq hk
      subst this
      obtain ⟨cv, h1, h2⟩ := minmax_spec mx w xs cvs k _ v hr h
      refine ⟨cv, ?_, h2⟩
      rw [List.foldlM_cons]
      cases mx <;> simpa [Builtin.max2, Builtin.min2, Sem.run_bind, Result.andThen_ok] using h1
    · rw [mm2_none] at h; cases h

theorem v_minmax (h : St S g0 m fr a σ g bx) {c : Call} {mx : Bool} (ho : o.op = .call c) (hc : c.callee = .builtin (if mx then .max else .min)) {xs : List AV} (hx : Reps g xs (c.args.toList.map a.eval)) {v : AV} (hv : minmaxA mx xs = some v) : VOut S g0 m o a fr σ g bx v := by
  unfold minmaxA at hv
  split at hv
  · cases hv
  rename_i x r
  generalize hargs : c.args.toList.map a.eval = vs at hx
  cases hx with | cons hx hr =>
  rename_i cx cvs
  have key : ∃ k n, x = .int k n ∨ (r = [] ∧ v = x) := by
    cases r with
    | nil => simp at hv; exact ⟨.i8, 0, .inr ⟨rfl, hv.symm⟩⟩
    | cons y r =>
      rw [List.foldl_cons] at hv
      cases x <;> first
        | exact ⟨_, _, .inl rfl⟩
        | (simp only [mm2, mm2_none, reduceCtorEq] at hv; done)
  have harr : c.args.map a.eval = (cx :: cvs).toArray := by apply Array.ext'; simpa using hargs
  obtain ⟨k, n, hkey⟩ := key
  have fin : ∀ cv, (cvs.foldlM (if mx then Builtin.max2 else Builtin.min2) cx).run S.P g.w = .ok cv g.w → Rep g v cv → VOut S g0 m o a fr σ g bx v := by
    intro cv h1 h2
    refine VOut.pure h (cv := cv) ?_ h2
    rw [run_builtin ho hc, harr]
    cases mx
    · simp only [builtin, Builtin.min_, Bool.false_eq_true, if_false] at h1 ⊢
      simp only [Sem.run_bind, h1, Result.andThen_ok, Sem.run_pure]
    · simp only [builtin, Builtin.max_, if_true] at h1 ⊢
      simp only [Sem.run_bind, h1, Result.andThen_ok, Sem.run_pure]
  rcases hkey with rfl | ⟨rfl, rfl⟩
  · cases hx
    obtain ⟨cv, h1, h2⟩ := minmax_spec (P := S.P) mx g.w r cvs k n v hr hv
    exact fin cv h1 h2
  · cases hr
    exact fin cx rfl hx

end
end Go.Vm

/- Addresses without a type; the bytes of texts; functions without a body. -/
namespace Go.Vm
open Go
variable {S : Sys} {P : Program}
section
variable {g0 g : G} {m : Meta} {fr stk : List AV} {a : Act} {σ : Store} {bx : Nat → Option Nat} {env : RE} {o : Oper}

theorem shape_cells {w : World} {b : Nat} {ccs : Array Value} {ty : Nat} {fz : Nat × Nat} (hh : w.heap[b]? = some (.cells ccs ty fz)) : w.shape? b = some (ty, ccs.size) := by
  simp [World.shape?, hh]

theorem run_viewAt_cells {w : World} {b : Nat} {ccs : Array Value} {ty : Nat} {fz : Nat × Nat} (hh : w.heap[b]? = some (.cells ccs ty fz)) : (viewAt b).run P w = .ok none w := by
  simp only [viewAt, Sem.run_bind, run_shape, shape_cells hh, Result.andThen_ok, Option.isSome_some, if_true, Sem.run_pure]

theorem run_seenAt_cells {w : World} {ad : Addr} {ccs : Array Value} {ty : Nat} {fz : Nat × Nat} (hh : w.heap[ad.block]? = some (.cells ccs ty fz)) : (Conv.seenAt ad).run P w = .ok ad w := by
  simp only [Conv.seenAt, Sem.run_bind, run_viewAt_cells hh, Result.andThen_ok, Sem.run_pure]

theorem liesAt_self {e : TypeId} (hc : P.cellsOf e ≠ 0) (count : Nat) (hn : 1 ≤ count) : liesAt P P.depth e count 0 e 1 = true := by
  have hd : P.depth = (2 * (P.types.size + Made.depth) + 1) + 1 := rfl
  rw [hd]
  simp only [liesAt, Bool.or_eq_true]
  left
  rw [hd]
  simp [rowAt, hc, hn, sameLayout]

theorem v_toUnsafe (h : St S g0 m fr a σ g bx) {s t e : TypeId} {x : Operand} (ho : o.op = .convert s t x) (hs : S.P.underlying s = some (.pointer e)) (ht : S.P.underlying t = some .unsafePointer) (hz : S.P.cellsOf e ≠ 0)
    {vx v : AV} (hx : Rep g vx (a.eval x)) (hv : (vx = .nilp ∧ v = .nilp) ∨ ∃ id off ty fz cs, vx = .ptr id off ∧ v = .ptr id off ∧ σ.get id = some (.cells ty fz cs) ∧ off < cs.length) : VOut S g0 m o a fr σ g bx v := by
  generalize hcx : a.eval x = cx at hx
  have hconv : ∀ w cv, (Conv.unsafePointer s t cx).run S.P g.w = .ok cv w → (convert s t cx).run S.P g.w = .ok cv w := by
    intro w cv hw
    simp only [convert, Sem.run_bind, run_underlying hs, run_underlying ht, Result.andThen_ok]
    exact hw
  rcases hv with ⟨rfl, rfl⟩ | ⟨id, off, ty, fz, cs, rfl, rfl, hg, hlt⟩
  · cases hx
    refine VOut.pure h (cv := .pointer none) ?_ .nilp
    have : (Conv.unsafePointer s t (.pointer none)).run S.P g.w = .ok (.pointer none) g.w := by
      simp only [Conv.unsafePointer, Sem.run_bind, run_underlying hs, run_underlying ht, Result.andThen_ok, Sem.run_pure]
    simp only [execOp, ho, hcx, Sem.run_bind, hconv _ _ this, Result.andThen_ok, Sem.run_pure]
  · have hx' := hx
    cases hx with | ptr _ _ ad hn hphi =>
    obtain ⟨p, hp, hb⟩ := h.inv.live id _ hg
    cases hb with | cells _ _ _ ccs frz pre bvs post hh hcc hpre hbr hb1 hf =>
    have := hphi p hp
    subst this
    refine VOut.pure h (cv := .pointer (some ⟨p.1, p.2 + off, none⟩)) ?_ hx'
    have hsz := congrArg List.length hcc
    simp only [Array.length_toList, List.length_append] at hsz
    have hbl := hbr.length
    have : (Conv.unsafePointer s t (.pointer (some ⟨p.1, p.2 + off, none⟩))).run S.P g.w = .ok (.pointer (some ⟨p.1, p.2 + off, none⟩)) g.w := by
      simp only [Conv.unsafePointer, Sem.run_bind, run_underlying hs, run_underlying ht, Result.andThen_ok, run_seenAt_cells (ad := ⟨p.1, p.2 + off, none⟩) hh, cellsIn, run_shape, shape_cells hh, Sem.run_pure, run_size (info_of_cells hz), Sem.run_ite]
      rw [if_neg]
      simp only [hz, decide_false, Bool.false_or, Bool.and_eq_true, decide_eq_true_eq, not_and]
      omega
    simp only [execOp, ho, hcx, Sem.run_bind, hconv _ _ this, Result.andThen_ok, Sem.run_pure]

theorem v_fromUnsafe (h : St S g0 m fr a σ g bx) {s t e : TypeId} {x : Operand} (ho : o.op = .convert s t x) (hs : S.P.underlying s = some .unsafePointer) (ht : S.P.underlying t = some (.pointer e)) (hz : S.P.cellsOf e ≠ 0)
    {vx v : AV} (hx : Rep g vx (a.eval x)) (hv : (vx = .nilp ∧ v = .nilp) ∨ ∃ id fz cs, vx = .ptr id 0 ∧ v = .ptr id 0 ∧ σ.get id = some (.cells e fz cs) ∧ cs.length = S.P.cellsOf e) : VOut S g0 m o a fr σ g bx v := by
  generalize hcx : a.eval x = cx at hx
  have hconv : ∀ w cv, (Conv.unsafePointer s t cx).run S.P g.w = .ok cv w → (convert s t cx).run S.P g.w = .ok cv w := by
    intro w cv hw
    simp only [convert, Sem.run_bind, run_underlying hs, run_underlying ht, Result.andThen_ok]
    exact hw
  rcases hv with ⟨rfl, rfl⟩ | ⟨id, fz, cs, rfl, rfl, hg, hlt⟩
  · cases hx
    refine VOut.pure h (cv := .pointer none) ?_ .nilp
    have : (Conv.unsafePointer s t (.pointer none)).run S.P g.w = .ok (.pointer none) g.w := by
      simp only [Conv.unsafePointer, Sem.run_bind, run_underlying hs, run_underlying ht, Result.andThen_ok, Sem.run_pure]
    simp only [execOp, ho, hcx, Sem.run_bind, hconv _ _ this, Result.andThen_ok, Sem.run_pure]
  · have hx' := hx
    cases hx with | ptr _ _ ad hn hphi =>
    obtain ⟨p, hp, hb⟩ := h.inv.live id _ hg
    cases hb with | cells _ _ _ ccs frz pre bvs post hh hcc hpre hbr hb1 hf =>
    have := hphi p hp
    subst this
    have hb0 := h.inv.base id p hp
    refine VOut.pure h (cv := .pointer (some ⟨p.1, p.2 + 0, none⟩)) ?_ hx'
    have hsz := congrArg List.length hcc
    simp only [Array.length_toList, List.length_append] at hsz
    have hbl := hbr.length
    have hlies : liesAt S.P S.P.depth e (ccs.size / S.P.cellsOf e) (p.2 + 0) e 1 = true := by
      rw [hb0]
      exact liesAt_self hz _ (Nat.div_pos (by omega) (by omega))
    have : (Conv.unsafePointer s t (.pointer (some ⟨p.1, p.2 + 0, none⟩))).run S.P g.w = .ok (.pointer (some ⟨p.1, p.2 + 0, none⟩)) g.w := by
      simp only [Conv.unsafePointer, Sem.run_bind, run_underlying hs, run_underlying ht, Result.andThen_ok, run_seenAt_cells (ad := ⟨p.1, p.2 + 0, none⟩) hh, run_size (info_of_cells hz), hz, Bool.false_or, variablesAt, run_program, run_shape, shape_cells hh, hlies, Sem.run_pure, decide_false, if_true]
    simp only [execOp, ho, hcx, Sem.run_bind, hconv _ _ this, Result.andThen_ok, Sem.run_pure]

theorem v_sliceData (h : St S g0 m fr a σ g bx) {c : Call} (ho : o.op = .call c) (hc : c.callee = .builtin .unsafeSliceData) {x : Operand} (ha : c.args.toList = [x]) {vx v : AV} (hx : Rep g vx (a.eval x))
    (hv : (vx = .nils ∧ v = .nilp) ∨ ∃ id off len cap es, vx = .sl id off len cap es ∧ 0 < len ∧ v = .ptr id off) : VOut S g0 m o a fr σ g bx v := by
  have hargs : c.args = #[x] := Array.toList_inj.1 (by simpa using ha)
  generalize hcx : a.eval x = cx at hx
  rcases hv with ⟨rfl, rfl⟩ | ⟨id, off, len, cap, es, rfl, hpos, rfl⟩
  · cases hx
    refine VOut.pure h (cv := .pointer none) ?_ .nilp
    rw [run_builtin ho hc]
    simp only [builtin, hargs, List.map_toArray, List.map_cons, List.map_nil, hcx, Sem.run_bind, Lib.run_unsafeSliceData_nil, Sem.run_pure, Result.andThen_ok]
  · cases hx with | sl _ _ _ _ _ ad ccap hn hle hcap hphi =>
    refine VOut.pure h (cv := .pointer (some ad)) ?_ (.ptr _ _ _ hn fun p hp => ((hphi p hp).1.resolve_left (by omega)))
    rw [run_builtin ho hc]
    simp only [builtin, hargs, List.map_toArray, List.map_cons, List.map_nil, hcx, Sem.run_bind, Lib.run_unsafeSliceData_row _ _ _ _ _ _ (show ccap ≠ 0 by omega), Sem.run_pure, Result.andThen_ok]

theorem freeze_alike {w : World} {b ty n : Nat} {ccs : Array Value} {lo hi : Nat} (hn : n ≠ 0) (hh : w.heap[b]? = some (.cells ccs ty (lo, hi))) :
    Alike1 w (w.freeze ⟨b, 0, none⟩ n) b ∧ (w.freeze ⟨b, 0, none⟩ n).heap[b]? = some (.cells ccs ty (if lo == hi then (0, 0 + n) else (min lo 0, max hi (0 + n)))) := by
  have key : (w.freeze ⟨b, 0, none⟩ n).heap[b]? = some (.cells ccs ty (if lo == hi then (0, 0 + n) else (min lo 0, max hi (0 + n)))) := by
    obtain ⟨hlt, he⟩ := Array.getElem?_eq_some_iff.1 hh
    simp only [World.freeze, if_neg hn]
    rw [Array.getElem?_eq_getElem (by rw [Array.size_modify]; exact hlt), Array.getElem_modify_self, he]
  refine ⟨⟨by simp [World.freeze, hn], fun k hk => ?_, fun cs ty' fz h => ?_, by simp [World.freeze, hn], by simp [World.freeze, hn], by simp [World.freeze, hn]⟩, key⟩
  · simp only [World.freeze, if_neg hn, Array.getElem?_modify]
    rw [if_neg (fun e => hk e.symm)]
  · rw [hh] at h; cases h
    exact ⟨_, _, key, rfl⟩

theorem toNats_mk {l : List Nat} (h : ∀ n ∈ l, n < 256) : toNats ⟨(l.map fun n => UInt8.ofNat n).toArray⟩ = l := by
  unfold toNats
  simp only [List.map_map]
  apply List.ext_getElem?
  intro i
  rw [List.getElem?_map]
  cases hi : l[i]? with
  | none => rfl
  | some n =>
    have := h n (List.mem_of_getElem? hi)
    simp [Nat.mod_eq_of_lt this]

theorem v_unsafeStr (h : St S g0 m fr a σ g bx) {c : Call} (ho : o.op = .call c) (hc : c.callee = .builtin .unsafeString) {x y : Operand} (ha : c.args.toList = [x, y]) {pt it e : TypeId} (hts : c.argTypes.toList = [pt, it])
    (hp : S.P.underlying pt = some (.pointer e)) (he : S.P.cellsOf e = 1) {vx v : AV} {n : Nat} {σ' : Store} (hx : Rep g vx (a.eval x)) (hy : Rep g (.int .i64 (.ofNat n)) (a.eval y))
    (hv : (vx = .nilp ∧ n = 0 ∧ v = .str [] ∧ σ' = σ) ∨ (∃ id, vx = .ptr id 0 ∧ n = 0 ∧ v = .str [] ∧ σ' = σ) ∨
      ∃ id fz cs r l, vx = .ptr id 0 ∧ n ≠ 0 ∧ σ.get id = some (.cells e fz cs) ∧ n ≤ 4611686018427387904 ∧ readN cs 0 n = some r ∧ bytesOf r = some l ∧ v = .str l ∧ σ' = σ.set id (.cells e (max fz n) cs)) : VOut S g0 m o a fr σ' g bx v := by
  have hargs : c.args = #[x, y] := Array.toList_inj.1 (by simpa using ha)
  have htys : c.argTypes = #[pt, it] := Array.toList_inj.1 (by simpa using hts)
  generalize hcx : a.eval x = cx at hx
  generalize hcy : a.eval y = cy at hy
  cases hy
  have hemp : toNats .empty = [] := rfl
  have hnone : ∀ p, (Builtin.unsafeString_ #[pt, it] o.type #[.pointer p, .int .i64 (.ofNat 0)]).run S.P g.w = .ok (.string .empty) g.w := fun p => Lib.run_unsafeString_none g.w pt it o.type p
  rcases hv with ⟨rfl, rfl, rfl, rfl⟩ | ⟨id, rfl, rfl, rfl, rfl⟩ | ⟨id, fz, cs, r, l, rfl, hn, hg, hn62, hr, hl, rfl, rfl⟩
  · cases hx
    refine VOut.pure h (cv := .string .empty) ?_ (by rw [← hemp]; exact .str _)
    rw [run_builtin ho hc]
    simp only [builtin, hargs, htys, List.map_toArray, List.map_cons, List.map_nil, hcx, hcy, Sem.run_bind, hnone, Sem.run_pure, Result.andThen_ok]
  · cases hx
    refine VOut.pure h (cv := .string .empty) ?_ (by rw [← hemp]; exact .str _)
    rw [run_builtin ho hc]
    simp only [builtin, hargs, htys, List.map_toArray, List.map_cons, List.map_nil, hcx, hcy, Sem.run_bind, hnone, Sem.run_pure, Result.andThen_ok]
  · cases hx with | ptr _ _ ad hlt hphi =>
    obtain ⟨p, hpp, hb⟩ := h.inv.live id _ hg
    have hb' := hb
    cases hb with | cells _ _ _ ccs frz pre bvs post hh hcc hpre hbr hb1 hf =>
    have hb0 := h.inv.base id p hpp
    have := hphi p hpp
    rw [hb0] at this
    simp only [Nat.add_zero] at this
    subst this
    obtain ⟨lo, hi⟩ := frz
    rw [readN_eq] at hr
    split at hr
    case isFalse => cases hr
    rename_i hrl
    simp only [Nat.sub_zero, List.drop_zero] at hrl hr
    cases hr
    have hpre0 : pre = [] := List.eq_nil_of_length_eq_zero (hpre.trans hb0)
    subst hpre0
    have hsz := congrArg List.length hcc
    simp only [Array.length_toList, List.length_append, List.length_nil] at hsz
    have hbl := hbr.length
    obtain ⟨hvs, h256⟩ := bytesOf_spec hl (hbr.take n)
    have hll : l.length = n := by
      have := congrArg List.length hvs
      simp at this
      omega
    let bs : List UInt8 := l.map fun n => UInt8.ofNat n
    have hbsl : bs.length = n := by simp [bs, hll]
    obtain ⟨halike, hh'⟩ := freeze_alike (n := n) hn hh
    have hrun := Lib.run_unsafeString_row (P := S.P) g.w pt it o.type e hp he p.1 ccs.size (shape_cells hh) bs (by intro e; rw [e] at hbsl; exact hn hbsl.symm) (by rw [hbsl]; omega) (by rw [hbsl]; omega)
      (fun j x hj => by
        rw [addr_add, Nat.zero_add]
        simp only [World.cell?, hh, Option.isSome_none, Bool.false_eq_true, if_false]
        rw [← Array.getElem?_toList, hcc]
        have hjn : j < n := by have := (List.getElem?_eq_some_iff.1 hj).1; omega
        simp only [List.nil_append]
        rw [List.getElem?_append_left (by omega)]
        have h1 : (bvs.take n)[j]? = bvs[j]? := by rw [List.getElem?_take, if_pos hjn]
        rw [← h1, hvs, List.getElem?_map]
        simp only [bs, List.getElem?_map, Option.map_eq_some_iff] at hj ⊢
        obtain ⟨q, hq, rfl⟩ := hj
        refine ⟨q, hq, ?_⟩
        have := h256 q (List.mem_of_getElem? hq)
        simp [Nat.mod_eq_of_lt this])
    rw [hbsl] at hrun
    have hext := Ext.set (g := g) hpp halike
    refine VOut.next h (g' := { g with w := g.w.freeze ⟨p.1, 0, none⟩ n }) (cv := .string ⟨bs.toArray⟩) ?_ hext (h.inv.set hg hpp halike (.cells e _ cs ccs _ [] bvs post hh' hcc hpre (hbr.mono (hext.mono h.inv)) hb1 ?_)) ?_
    · rw [run_builtin ho hc]
      simp only [builtin, hargs, htys, List.map_toArray, List.map_cons, List.map_nil, hcx, hcy, Sem.run_bind, Int.ofNat_eq_natCast, hrun, Sem.run_pure, Result.andThen_ok]
    · rw [hb0]
      unfold FrzOK at hf ⊢
      split
      · right; simp only; omega
      · rename_i hne
        right
        rcases hf with hf | hf
        · exact absurd (by simpa using hf) hne
        · simp only at hf ⊢; omega
    · rw [← toNats_mk h256]
      exact .str _

/-! ### Functions without a body -/
/-- What a function without a body does: nothing; the place of a byte. -/
def ExtOK (P : Program) : Nat × Bool → Prop
  | (f, false) => ∀ (w : World) (v : Value), (callFunc f #[v]).run P w = .ok (.value v) w
  | (f, true) => ∀ (w : World) (s : ByteArray) (c : Nat), c < 256 → (callFunc f #[.string s, .int .u8 (.ofNat c)]).run P w =
      .ok (.value (goInt (match (List.range s.size).find? fun i => s[i]! == UInt8.ofNat c with | some i => (i : Int) | none => -1))) w

theorem run_callFn {c : Call} {f : Nat} (ho : o.op = .call c) (hc : c.callee = .value (.func f)) (w : World) : (execOp a.eval o).run P w = (callFunc f (c.args.map a.eval)).run P w := by
  simp only [execOp, ho, resolve, hc, Act.eval, Deferred.ofValue, Sem.run_bind, Sem.run_pure, Result.andThen_ok, invoke]
  simp

theorem v_ext0 (h : St S g0 m fr a σ g bx) {c : Call} {f : Nat} (ho : o.op = .call c) (hc : c.callee = .value (.func f)) {x : Operand} (ha : c.args.toList = [x]) (hx : ExtOK S.P (f, false)) {v : AV} (hr : Rep g v (a.eval x)) : VOut S g0 m o a fr σ g bx v := by
  have hargs : c.args = #[x] := Array.toList_inj.1 (by simpa using ha)
  refine VOut.pure h (cv := a.eval x) ?_ hr
  rw [run_callFn ho hc, hargs]
  simp only [List.map_toArray, List.map_cons, List.map_nil]
  exact hx g.w (a.eval x)

theorem findB_eq (c : Nat) : ∀ (s : List Nat) (i : Nat), findB c s i = ((List.range s.length).find? fun j => s[j]? == some c).map (i + ·)
  | [], i => rfl
  | x :: s, i => by
    show cond (Nat.beq x c) (some i) (findB c s (i + 1)) = _
    rw [nbeq, findB_eq c s (i + 1), List.length_cons, List.range_succ_eq_map, List.find?_cons]
    by_cases h : x = c
    · subst h; simp
    · simp only [h, decide_false, cond_false, List.getElem?_cons_zero]
      rw [show (some x == some c) = false by simpa using h]
      simp only [List.find?_map, Option.map_map]
      congr 1
      · funext j; simp; omega
      
theorem find_congr {p q : Nat → Bool} : ∀ {l : List Nat}, (∀ i ∈ l, p i = q i) → l.find? p = l.find? q
  | [], _ => rfl
  | x :: l, h => by rw [List.find?_cons, List.find?_cons, h x (by simp), find_congr fun i hi => h i (by simp [hi])]

theorem v_ext1 (h : St S g0 m fr a σ g bx) {c : Call} {f : Nat} (ho : o.op = .call c) (hc : c.callee = .value (.func f)) {x y : Operand} (ha : c.args.toList = [x, y]) (hx : ExtOK S.P (f, true)) {s : List Nat} {q : Nat} (hr : Rep g (.str s) (a.eval x)) (hq : Rep g (.int .u8 (.ofNat q)) (a.eval y)) (hlt : q < 256)
    {v : AV} (hv : v = match findB q s 0 with | some i => .int .i64 (Int.ofNat i) | none => .int .i64 (-1)) : VOut S g0 m o a fr σ g bx v := by
  have hargs : c.args = #[x, y] := Array.toList_inj.1 (by simpa using ha)
  generalize hcx : a.eval x = cx at hr
  generalize hcy : a.eval y = cy at hq
  cases hr with | str b =>
  cases hq
  have hrun := hx g.w b q hlt
  have hfind : ((List.range b.size).find? fun i => b[i]! == UInt8.ofNat q) = findB q (toNats b) 0 := by
    rw [findB_eq, toNats_length]
    simp only [Nat.zero_add, Option.map_id']
    refine find_congr fun i hi => ?_
    have hi := List.mem_range.1 hi
    have e1 : b[i]! = b.data[i]'hi := by
      rw [getElem!_pos b i hi]; rfl
    have e2 : (toNats b)[i]? = some (b.data[i]'hi).toNat := by
      unfold toNats
      rw [List.getElem?_map, Array.getElem?_toList, Array.getElem?_eq_getElem hi]
      rfl
    rw [e1, e2]
    by_cases hq : b.data[i]'hi = UInt8.ofNat q
    · rw [hq]; simp [Nat.mod_eq_of_lt hlt]
    · have : (b.data[i]'hi).toNat ≠ q := fun e => hq (by rw [← e]; simp)
      rw [beq_eq_false_iff_ne.2 hq, beq_eq_false_iff_ne.2 (by simpa using this)]
  rw [hfind] at hrun
  subst hv
  cases hb : findB q (toNats b) 0 with
  | none =>
    rw [hb] at hrun
    refine VOut.pure h (cv := goInt (-1)) ?_ (.int _ _)
    rw [run_callFn ho hc, hargs]
    simp only [List.map_toArray, List.map_cons, List.map_nil, hcx, hcy]
    exact hrun
  | some i =>
    rw [hb] at hrun
    refine VOut.pure h (cv := goInt (i : Int)) ?_ (.int _ _)
    rw [run_callFn ho hc, hargs]
    simp only [List.map_toArray, List.map_cons, List.map_nil, hcx, hcy]
    exact hrun

end
end Go.Vm

/- What an operation leaves: its value, put; boxes of the function's own. -/
namespace Go.Vm
open Go
variable {S : Sys} {P : Program}
section
variable {g0 g : G} {m : Meta} {fr stk : List AV} {a : Act} {σ : Store} {bx : Nat → Option Nat} {env : RE} {o : Oper}

theorem getD_set_self {xs : Array Value} {t : Nat} (v : Value) (h : t < xs.size) : (xs.setIfInBounds t v).getD t undef = v := by
  simp [h]
theorem getD_set_ne {xs : Array Value} {t t' : Nat} (v : Value) (h : t ≠ t') : (xs.setIfInBounds t v).getD t' undef = xs.getD t' undef := by
  simp only [Array.getD_eq_getD_getElem?, Array.getElem?_setIfInBounds, if_neg h]

noncomputable def putFr (fr : List AV) (v : AV) : Option Nat → List AV
  | some s => lset fr s v
  | none => fr

/-- The rest of a region's values stays. -/
theorem env_put (he : EnvRep g bx a env stk) {t : Nat} {cv : Value} (hn : envIn env t 0 = none) : EnvRep g bx (a.put (some t) cv) env stk := by
  have hne := envIn_none env t 0 hn
  clear hn
  induction he with
  | nil => exact .nil
  | cons hx _ ih =>
    rename_i e v es vs _
    refine .cons ?_ (ih fun e he => hne e (by simp [he]))
    have h1 := hne e (by simp)
    obtain ⟨d, k⟩ := e
    cases d with
    | none => trivial
    | some t' =>
      have : t ≠ t' := fun e => h1 (by simp [e])
      cases k <;> simpa only [EntRep, Act.put, getD_set_ne cv this] using hx

theorem env_ext {g' : G} (he : EnvRep g bx a env stk) (hm : Mono g g') : EnvRep g' bx a env stk := by
  induction he with
  | nil => exact .nil
  | cons hx _ ih =>
    rename_i e v es vs _
    refine .cons ?_ ih
    obtain ⟨d, k⟩ := e
    cases d with
    | none => trivial
    | some t' =>
      cases k
      · exact Rep.mono hm hx
      · exact hx

theorem newDst_spec {t : Nat} (h : newDst m env (some t) = true) : envIn env t 0 = none ∧ t < m.n := by
  simp only [newDst, Bool.and_eq_true, Option.isNone_iff_eq_none, nblt, decide_eq_true_eq] at h
  exact h

theorem put_val (_hmk : m.ok = true) (h : St S g0 m fr a σ g bx) (he : EnvRep g bx a env stk) {dst : Option Nat} (hn : newDst m env dst = true) {v : AV} {cv : Value} (hr : Rep g v cv) {d : Option Nat} (hd : dstOf m .val dst = some d) :
    St S g0 m (putFr fr v d) (a.put dst cv) σ g bx ∧ EnvRep g bx (a.put dst cv) ((dst, .val) :: env) (v :: stk) := by
  cases dst with
  | none =>
    simp only [dstOf, Option.some.injEq] at hd
    subst hd
    exact ⟨h, .cons trivial he⟩
  | some t =>
    obtain ⟨hni, hlt⟩ := newDst_spec hn
    have htl : t < a.tmps.size := by rw [h.size]; exact hlt
    have hent : EnvRep g bx (a.put (some t) cv) ((some t, .val) :: env) (v :: stk) := .cons (by
      show Rep g v ((a.tmps.setIfInBounds t cv).getD t undef)
      rw [getD_set_self cv htl]; exact hr) (env_put he hni)
    refine ⟨?_, hent⟩
    simp only [dstOf] at hd
    split at hd
    · rename_i s hs
      cases hd
      refine ⟨h.ext, h.inv, fun t' s' hs' => ?_, by simp [Act.put, h.size], by simp [putFr, h.frl], ⟨fun t' s' hs' => ?_, h.boxes.own, h.boxes.inj, h.boxes.none⟩, h.marks⟩
      · by_cases e : t = t'
        · subst e
          rw [hs] at hs'; cases hs'
          show Rep g (lget (lset fr s v) s) ((a.tmps.setIfInBounds t cv).getD t undef)
          rw [getD_set_self cv htl, lget_lset_self v (by rw [h.frl]; exact Meta.slot_lt hs)]
          exact hr
        · have hne : s ≠ s' := fun e' => e (by subst e'; exact (Meta.slot_inj hs hs').1)
          show Rep g (lget (lset fr s v) s') ((a.tmps.setIfInBounds t cv).getD t' undef)
          rw [getD_set_ne cv e, lget_lset_ne v hne]
          exact h.slots t' s' hs'
      · have e : t ≠ t' := fun e => by subst e; rw [hs] at hs'; cases hs'
        have hne : s ≠ s' := fun e' => by subst e'; exact e (Meta.slot_inj hs hs').1
        simp only [putFr, lget_lset_ne v hne]
        have := h.boxes.rep t' s' hs'
        rwa [show (a.put (some t) cv).tmps.getD t' undef = a.tmps.getD t' undef from getD_set_ne cv e]
    · cases hd
    · rename_i hs
      cases hd
      refine ⟨h.ext, h.inv, fun t' s' hs' => ?_, by simp [Act.put, h.size], by simp [putFr, h.frl], ⟨fun t' s' hs' => ?_, h.boxes.own, h.boxes.inj, h.boxes.none⟩, h.marks⟩
      · have e : t ≠ t' := fun e => by subst e; rw [hs] at hs'; cases hs'
        show Rep g (lget fr s') ((a.tmps.setIfInBounds t cv).getD t' undef)
        rw [getD_set_ne cv e]
        exact h.slots t' s' hs'
      · have e : t ≠ t' := fun e => by subst e; rw [hs] at hs'; cases hs'
        have := h.boxes.rep t' s' hs'
        rwa [show (a.put (some t) cv).tmps.getD t' undef = a.tmps.getD t' undef from getD_set_ne cv e]

/-- An address in a box of the function's own, put. -/
theorem put_priv (h : St S g0 m fr a σ g bx) (he : EnvRep g bx a env stk) {dst : Option Nat} (hn : newDst m env dst = true) {v : AV} {cv : Value} {s : Nat} (hr : (v = .undef ∧ cv = undef) ∨ ∃ off b, v = .fp off ∧ bx s = some b ∧ cv = .pointer (some ⟨b, off, none⟩))
    (hd : dst.bind m.slot = none) : St S g0 m fr (a.put dst cv) σ g bx ∧ EnvRep g bx (a.put dst cv) ((dst, .priv s) :: env) (v :: stk) := by
  cases dst with
  | none => exact ⟨h, .cons trivial he⟩
  | some t =>
    obtain ⟨hni, hlt⟩ := newDst_spec hn
    have htl : t < a.tmps.size := by rw [h.size]; exact hlt
    simp only [Option.bind_some] at hd
    refine ⟨⟨h.ext, h.inv, fun t' s' hs' => ?_, by simp [Act.put, h.size], h.frl, ⟨fun t' s' hs' => ?_, h.boxes.own, h.boxes.inj, h.boxes.none⟩, h.marks⟩, .cons ?_ (env_put he hni)⟩
    · have e : t ≠ t' := fun e => by subst e; rw [hd] at hs'; cases hs'
      show Rep g (lget fr s') ((a.tmps.setIfInBounds t cv).getD t' undef)
      rw [getD_set_ne cv e]
      exact h.slots t' s' hs'
    · have e : t ≠ t' := fun e => by subst e; rw [hd] at hs'; cases hs'
      have := h.boxes.rep t' s' hs'
      rwa [show (a.put (some t) cv).tmps.getD t' undef = a.tmps.getD t' undef from getD_set_ne cv e]
    · show (v = .undef ∧ (a.tmps.setIfInBounds t cv).getD t undef = undef) ∨ _
      rw [getD_set_self cv htl]
      rcases hr with ⟨h1, h2⟩ | ⟨off, b, h1, h2, h3⟩
      · exact .inl ⟨h1, h2⟩
      · refine .inr ⟨off, b, h1, h2, ?_⟩
        show (a.tmps.setIfInBounds t cv).getD t undef = _
        rw [getD_set_self cv htl]; exact h3

/-- A box of the function's own, new, put. -/
theorem put_box (h : St S g0 m fr a σ g bx) (he : EnvRep g bx a env stk) {t s : Nat} (hn : newDst m env (some t) = true) (hs : m.slot t = some (s, true)) (hnp : noPriv s env = true) {cs : List AV} {ccs : Array Value} {ty : Nat} (hr : Reps g cs ccs.toList) (h1 : ∀ c ∈ cs, one c = true) :
    ∃ bx', St S g0 m (lset fr s (.agg cs)) (a.put (some t) (.pointer (some ⟨g.w.heap.size, 0, none⟩))) σ (g.waste (.cells ccs ty (0, 0))) bx' ∧
      EnvRep (g.waste (.cells ccs ty (0, 0))) bx' (a.put (some t) (.pointer (some ⟨g.w.heap.size, 0, none⟩))) ((some t, .priv s) :: env) (.fp 0 :: stk) := by
  obtain ⟨hni, hlt⟩ := newDst_spec hn
  have htl : t < a.tmps.size := by rw [h.size]; exact hlt
  have hext := Ext.waste g (.cells ccs ty (0, 0))
  have hm := hext.mono h.inv
  let bx' : Nat → Option Nat := fun j => if j = s then some g.w.heap.size else bx j
  have hb := h.boxes.ext hext hm
  have hlive : ∀ id p, g.φ id = some p → p.1 ≠ g.w.heap.size := fun id p hp => by have := (h.inv.own id p hp).1; omega
  refine ⟨bx', ⟨h.ext.trans hext, h.inv.waste _, fun t' s' hs' => ?_, by simp [Act.put, h.size], by simp [h.frl], ⟨fun t' s' hs' => ?_, fun j b hj => ?_, fun i j b hi hj => ?_, fun j hj => ?_⟩, h.marks.ext hext⟩, .cons ?_ ?_⟩
  · have e : t ≠ t' := fun e => by subst e; rw [hs] at hs'; cases hs'
    have hne : s ≠ s' := fun e' => by subst e'; exact e (Meta.slot_inj hs hs').1
    show Rep _ (lget (lset fr s (.agg cs)) s') ((a.tmps.setIfInBounds t _).getD t' undef)
    rw [getD_set_ne _ e, lget_lset_ne _ hne]
    exact (h.slots t' s' hs').mono hm
  · by_cases e : t = t'
    · subst e
      rw [hs] at hs'; cases hs'
      right
      refine ⟨cs, g.w.heap.size, ccs, ty, ?_, by simp [bx'], ?_, Array.getElem?_push_size, hr.mono hm, h1⟩
      · exact lget_lset_self _ (by rw [h.frl]; exact Meta.slot_lt hs)
      · exact getD_set_self _ htl
    · have hne : s ≠ s' := fun e' => e (by subst e'; exact (Meta.slot_inj hs hs').1)
      have := hb.rep t' s' hs'
      rw [lget_lset_ne _ hne, show (a.put (some t) (.pointer (some ⟨g.w.heap.size, 0, none⟩))).tmps.getD t' undef = a.tmps.getD t' undef from getD_set_ne _ e]
      simpa only [bx', if_neg (Ne.symm hne)] using this
  · by_cases e : j = s
    · subst e
      simp only [bx', if_true, Option.some.injEq] at hj
      subst hj
      exact ⟨hlive, fun hf => absurd (h.inv.fro _ hf) (Nat.lt_irrefl _), fun hf => absurd (h.inv.bor _ hf) (Nat.lt_irrefl _), by simp [G.waste], h.ext.size⟩
    · simp only [bx', if_neg e] at hj
      exact hb.own j b hj
  · by_cases e : i = s <;> by_cases e' : j = s
    · rw [e, e']
    · simp only [bx', e, e', if_true, if_false, Option.some.injEq] at hi hj
      subst hi
      exact absurd (h.boxes.own j _ hj).2.2.2.1 (Nat.lt_irrefl _)
    · simp only [bx', e, e', if_true, if_false, Option.some.injEq] at hi hj
      subst hj
      exact absurd (h.boxes.own i _ hi).2.2.2.1 (Nat.lt_irrefl _)
    · simp only [bx', e, e', if_false] at hi hj
      exact h.boxes.inj i j b hi hj
  · have : j ≠ s := fun e => hj t (by rw [e]; exact hs)
    simp only [bx', if_neg this]
    exact h.boxes.none j hj
  · right
    exact ⟨0, g.w.heap.size, rfl, by simp [bx'], getD_set_self _ htl⟩
  · have he' := env_put (cv := .pointer (some ⟨g.w.heap.size, 0, none⟩)) (env_ext he hm) hni
    clear he hn hni
    induction he' with
    | nil => exact .nil
    | cons hx _ ih =>
      rename_i e v es vs _
      obtain ⟨d, k⟩ := e
      refine .cons ?_ (ih ?_)
      · cases d with
        | none => trivial
        | some t' =>
          cases k with
          | val => exact hx
          | priv s' =>
            simp only [noPriv, Bool.and_eq_true, Bool.not_eq_true'] at hnp
            have hne : s ≠ s' := beq_false hnp.1
            rcases hx with hx | ⟨off, b, h1, h2, h3⟩
            · exact .inl hx
            · exact .inr ⟨off, b, h1, by simp only [bx', if_neg (Ne.symm hne)]; exact h2, h3⟩
      · cases k with
        | val => exact hnp
        | priv s' => simp only [noPriv, Bool.and_eq_true] at hnp; exact hnp.2

end
end Go.Vm

