import Derived.Test.YtaomafmpedgofaaGreatDoorTab3
namespace Go.Proofs.YtaomafmpedgofaaGreatDoor
open Go Go.Vm
set_option maxRecDepth 1000000
theorem top : isT (call K3 S.funs 100000 400 (.fn 3 [] []) [] ⟨0, []⟩) = true := by kernel_rfl
theorem topCalls {W : World} (hg : ∀ p ∈ S.gl, Rep (G.start W S.gl) (.plit false p.2 0) (.pointer (some ⟨p.1, 0, none⟩))) : ∃ σ', Calls Tryz.prog 3 #[] W (EndsIn S (G.start W S.gl) (.bool true) σ') :=
  let ⟨σ', h⟩ := isT_spec top
  ⟨σ', closed_calls (cargs := []) funsOK known3 mix extOK h hg .nil⟩
end Go.Proofs.YtaomafmpedgofaaGreatDoor
