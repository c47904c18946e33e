/-
  FuelNames: the law's function, called with no argument, returns true, whatever the tape. What is proved: the tied card of the row (the first form). Conditions: those of the given row and card alone.
-/
import Derived.Test.YtaomafmpedgofaaGreatDoorTop
import Derived.Test.YtaomafmpedgofaaGreatDoorCards
import Derived.Test.YtaomafmpedgofaaGreatDoorTie
import Derived.WalkKit
import Derived.ProofKit
import Derived.OpenShut
namespace Go.Proofs.YtaomafmpedgofaaGreatDoor.fuelNames
open Go Go.Vm Go.ChangeShapes Go.WideShapes Go.ChangeAt Go.RowKit
set_option maxRecDepth 100000

theorem own : ownKnob Tryz.prog.godebug = none := by kernel_rfl
theorem gl_0 : (Rows.fuelNamesRow.laid[0]?).bind (glOne Tryz.prog) = some (5, gl5) := by kernel_rfl
theorem gl_1 : (Rows.fuelNamesRow.laid[1]?).bind (glOne Tryz.prog) = some (6, gl6) := by kernel_rfl
theorem gl_2 : (Rows.fuelNamesRow.laid[2]?).bind (glOne Tryz.prog) = some (2, gl2) := by kernel_rfl
theorem gl_3 : (Rows.fuelNamesRow.laid[3]?).bind (glOne Tryz.prog) = some (0, gl0) := by kernel_rfl
theorem gl_4 : (Rows.fuelNamesRow.laid[4]?).bind (glOne Tryz.prog) = some (3, gl3) := by kernel_rfl
theorem gl_5 : (Rows.fuelNamesRow.laid[5]?).bind (glOne Tryz.prog) = some (1, gl1) := by kernel_rfl
theorem gls : ∀ p ∈ S.gl, GlQ Tryz.prog Rows.fuelNamesRow.laid p := (List.forall_mem_cons.2 ⟨gl_at 0 gl_0, (List.forall_mem_cons.2 ⟨gl_at 1 gl_1, (List.forall_mem_cons.2 ⟨gl_at 2 gl_2, (List.forall_mem_cons.2 ⟨gl_at 3 gl_3, (List.forall_mem_cons.2 ⟨gl_at 4 gl_4, (List.forall_mem_cons.2 ⟨gl_at 5 gl_5, (List.forall_mem_nil _)⟩)⟩)⟩)⟩)⟩)⟩)
theorem laidPlain : (Rows.fuelNamesRow.laid.filter fun x => x.2.handleName?.isSome) = [] := by kernel_rfl
theorem met {W : World} (h : laidMetH Tryz.prog Rows.fuelNamesRow.laid W) : laidMet Tryz.prog Rows.fuelNamesRow.laid W := by
  unfold laidMetH at h
  rw [laidPlain] at h
  exact h
theorem globals {W : World} (h : laidMetH Tryz.prog Rows.fuelNamesRow.laid W) : ∀ p ∈ S.gl, Rep (G.start W S.gl) (.plit false p.2 0) (.pointer (some ⟨p.1, 0, none⟩)) :=
  glob_rep (met h) gls

theorem contract (H : Type) (enc : TypeId × Value → H) (W : World) (args : Array Value) (ds gs : List (DataW H)) (before : List MemPlace)
    (hW : DataW.Whole enc Tryz.prog Tryz.f3.params.toList Rows.fuelNamesSpec.vars false W args.toList ds gs before) (hL : laidMetH Tryz.prog Rows.fuelNamesRow.laid W) :
    Calls Tryz.prog 3 args W fun e W' => ∃ v, e = .returned v ∧ Rows.fuelNamesSpec.post enc Tryz.prog Tryz.f3 false true false false W args v W' := by
  have hW' := hW
  obtain ⟨p, q, hA0, hV, rfl, hfz, hnd⟩ := hW
  have hA : DataW.TrodAll enc Tryz.prog W 0 (fun _ => true) true Tryz.f3.params.toList args.toList ds p := hA0
  rw [Tryz.params3] at hA
  have hargs : args.toList = [] ∧ ds = [] ∧ p = [] := by
    cases ha : args.toList <;> cases hd : ds <;> rw [ha, hd] at hA <;> first | exact ⟨rfl, rfl, hA⟩ | exact hA.elim
  obtain ⟨h1, rfl, rfl⟩ := hargs
  obtain rfl : args = #[] := Array.toList_inj.1 (by simpa using h1)
  obtain ⟨rfl, rfl⟩ := trodVars_none hV
  obtain ⟨σ', hc⟩ := topCalls (globals hL)
  refine hc.mono ?_
  rintro e W' ⟨cv, g', rfl, rfl, hext, _, hrep⟩
  cases hrep
  exact ⟨_, rfl, [], [], [], [], [], [], hW', trodAll_cons_mk (shut_bool Tryz.underlying4 _) trodAll_mk0, by rw [Tryz.params3]; exact trodAll_mk0, rfl, kept_of_ext hext (fun _ => rfl) _, fun h => nomatch h⟩

/-- A world for the witness: the settled one, the listed variables holding what their initialisers lay. -/
noncomputable def setVar (h : Array Obj) (p : Nat × Array Value) : Array Obj := h.modify p.1 fun
  | .cells _ t frozen => .cells p.2 t frozen
  | o => o
noncomputable def laidWorld (os : Os) : World :=
  { World.holding Tryz.prog os ⟨#[], #[], []⟩ with heap := ([(5, #[.int .u8 0, .int .u8 1, .int .u8 28, .int .u8 2, .int .u8 29, .int .u8 14, .int .u8 24, .int .u8 3, .int .u8 30, .int .u8 22, .int .u8 20, .int .u8 15, .int .u8 25, .int .u8 17, .int .u8 4, .int .u8 8, .int .u8 31, .int .u8 27, .int .u8 13, .int .u8 23, .int .u8 21, .int .u8 19, .int .u8 16, .int .u8 7, .int .u8 26, .int .u8 12, .int .u8 18, .int .u8 6, .int .u8 11, .int .u8 5, .int .u8 10, .int .u8 9]), (6, #[.int .u8 0, .int .u8 1, .int .u8 56, .int .u8 2, .int .u8 57, .int .u8 49, .int .u8 28, .int .u8 3, .int .u8 61, .int .u8 58, .int .u8 42, .int .u8 50, .int .u8 38, .int .u8 29, .int .u8 17, .int .u8 4, .int .u8 62, .int .u8 47, .int .u8 59, .int .u8 36, .int .u8 45, .int .u8 43, .int .u8 51, .int .u8 22, .int .u8 53, .int .u8 39, .int .u8 33, .int .u8 30, .int .u8 24, .int .u8 18, .int .u8 12, .int .u8 5, .int .u8 63, .int .u8 55, .int .u8 48, .int .u8 27, .int .u8 60, .int .u8 41, .int .u8 37, .int .u8 16, .int .u8 46, .int .u8 35, .int .u8 44, .int .u8 21, .int .u8 52, .int .u8 32, .int .u8 23, .int .u8 11, .int .u8 54, .int .u8 26, .int .u8 40, .int .u8 15, .int .u8 34, .int .u8 20, .int .u8 31, .int .u8 10, .int .u8 25, .int .u8 14, .int .u8 19, .int .u8 9, .int .u8 13, .int .u8 8, .int .u8 7, .int .u8 6]), (2, #[.int .u64 1, .int .u64 10, .int .u64 100, .int .u64 1000, .int .u64 10000, .int .u64 100000, .int .u64 1000000, .int .u64 10000000, .int .u64 100000000, .int .u64 1000000000, .int .u64 10000000000, .int .u64 100000000000, .int .u64 1000000000000, .int .u64 10000000000000, .int .u64 100000000000000, .int .u64 1000000000000000, .int .u64 10000000000000000, .int .u64 100000000000000000, .int .u64 1000000000000000000, .int .u64 10000000000000000000]), (0, #[.int .i64 0, .int .i64 0, .int .i64 0, .int .i64 0, .int .i64 0, .int .i64 0, .int .i64 0, .int .i64 0, .int .i64 2, .int .i64 (-1), .int .i64 2, .int .i64 (-1), .int .i64 1, .int .i64 1, .int .i64 1, .int .i64 1, .int .i64 1, .int .i64 1, .int .i64 1, .int .i64 1]), (3, #[.int .i64 0, .int .i64 1, .string ⟨#[63]⟩, .int .i64 0, .int .i64 (-1), .string ⟨#[42]⟩, .int .i64 1, .int .i64 (-1), .string ⟨#[43]⟩]), (1, #[.string ⟨#[]⟩, .string ⟨#[]⟩, .string ⟨#[]⟩, .string ⟨#[]⟩, .string ⟨#[]⟩, .string ⟨#[]⟩, .string ⟨#[]⟩, .string ⟨#[]⟩, .string ⟨#[]⟩, .string ⟨#[]⟩, .string ⟨#[]⟩, .string ⟨#[]⟩, .string ⟨#[]⟩, .string ⟨#[32]⟩, .string ⟨#[]⟩, .string ⟨#[]⟩, .string ⟨#[32, 47, 32]⟩, .string ⟨#[]⟩, .string ⟨#[]⟩, .string ⟨#[]⟩, .string ⟨#[]⟩, .string ⟨#[38]⟩, .string ⟨#[]⟩, .string ⟨#[]⟩, .string ⟨#[33]⟩, .string ⟨#[]⟩, .string ⟨#[]⟩, .string ⟨#[60]⟩, .string ⟨#[]⟩, .string ⟨#[62]⟩])] : List (Nat × Array Value)).foldl setVar (World.holding Tryz.prog os ⟨#[], #[], []⟩).heap }
theorem laid_met (os : Os) : laidMet Tryz.prog Rows.fuelNamesRow.laid ((laidWorld os).forCall (fun _ _ => 0) ⟨#[], #[], []⟩).memory :=
  laidMet_of_run' 8 (by kernel_rfl) (by kernel_rfl)
theorem reads (os : Os) {H : Type} (enc : TypeId × Value → H) : ∃ places, DataW.whole enc Tryz.prog ((laidWorld os).forCall (fun _ _ => 0) ⟨#[], #[], []⟩).memory Tryz.f3.params.toList Rows.fuelNamesSpec.vars false (#[] : Array Value).toList 8 = some ([], [], places) :=
  ⟨[], by kernel_rfl⟩

theorem lifted (os : Os) (started : os.Started) (H : Type) (enc : TypeId × Value → H) (F : Stop.Interp) :
    ReturnsInHanded {} Tryz.checked os 3 .any ((OpenSpec.ofChange Rows.fuelNamesSpec).preRow enc Tryz.prog Tryz.f3 Rows.fuelNamesRow.domain false Rows.fuelNamesRow.laid) (((OpenSpec.ofChange Rows.fuelNamesSpec).at F).post enc Tryz.prog Tryz.f3 false true false false) := by
  obtain ⟨places, hx⟩ := reads os enc
  refine returnsInHanded_of_row (C := Tryz.checked) (s := OpenSpec.ofChange Rows.fuelNamesSpec) own started (by kernel_rfl) Tryz.func3
    (witness_row_at (enc := enc) (C := Tryz.checked) false (laidWorld os) #[] rfl (by kernel_rfl) (by kernel_rfl) (by kernel_rfl)
      (OpenSpec.preRow_of_cond 8 hx (by kernel_rfl) (fun k hk => by cases hk) (by kernel_rfl) (laid_met os))) ?_
  intro W base args ds gs before hval hW _ _ _ hL _ _
  exact contract H enc W args ds gs before hW hL

theorem said : Rows.FuelNamesSaid :=
  OpenClaim.holds_of_cond 3 Tryz.f3 rfl rfl rfl rfl rfl rfl rfl ⟨rfl, rfl, rfl, rfl, rfl⟩ rfl rfl rfl rfl rfl (by kernel_rfl) Tryz.func3 (by kernel_rfl)
    (of_decide_eq_true (by kernel_rfl)) (by unfold Func.isWrapper; first | (rw [if_pos (by decide +kernel)]; kernel_rfl) | (rw [if_neg (by decide +kernel)]; exact ⟨rfl, rfl⟩))
    (fun os started H enc _ F => by rw [OpenClaim.pre_eq_preRow]; exact lifted os started H enc F)

theorem plain (f : FuncId) (fn : Func) (hf : Tryz.pinned.checked.prog.funcNamed "bonsai/bonsailaw17.FuelNames" = some f) (hfn : Tryz.pinned.checked.prog.funcs[f]? = some fn) :
    false = Tryz.pinned.checked.prog.looks [] ∧ ∀ (j : Nat) t, fn.params[j]? = some t → Tryz.pinned.checked.prog.wantsStandIn t = false := by
  obtain rfl : f = 3 := Option.some.inj ((show Tryz.prog.funcNamed "bonsai/bonsailaw17.FuelNames" = some 3 by kernel_rfl).symm.trans hf) |>.symm
  obtain rfl : fn = Tryz.f3 := (Option.some.inj (Tryz.func3.symm.trans hfn)).symm
  refine ⟨by kernel_rfl, fun j t ht => ?_⟩
  rw [Tryz.params3] at ht
  simp at ht

end Go.Proofs.YtaomafmpedgofaaGreatDoor.fuelNames
namespace Go.Proofs.YtaomafmpedgofaaGreatDoor
open Go
/-- The law's tied card. -/
theorem fuelNames_card : Rows.FuelNamesCardSaid :=
  Claim7.holds_tied_plain_at .later [] _ _ _ _ fuelNames.said (fun _ h => by cases h) (by kernel_rfl) (fun _ h => by cases h) fuelNames_row_tie rfl ⟨rfl, rfl⟩ (by kernel_rfl) rfl fuelNames.plain (by kernel_rfl)
end Go.Proofs.YtaomafmpedgofaaGreatDoor
