import Derived.Test.YtaomafmpedgofaaGreatDoorFuns
import Derived.Test.YtaomafmpedgofaaGreatDoorVmD
import Derived.KernelRfl
namespace Go.Proofs.YtaomafmpedgofaaGreatDoor
open Go Go.Vm
set_option maxRecDepth 1000000
theorem ext114 : ExtOK Tryz.prog (114, false) := extOK_same Tryz.func114 (by kernel_rfl) (by kernel_rfl) (by kernel_rfl) (by kernel_rfl)
theorem ext175 : ExtOK Tryz.prog (175, true) := extOK_byte Tryz.func175 (by kernel_rfl) (by kernel_rfl) (by kernel_rfl) (by kernel_rfl)
theorem extOK : ∀ p ∈ S.ext, ExtOK S.P p := (List.forall_mem_cons.2 ⟨ext114, (List.forall_mem_cons.2 ⟨ext175, (fun _ h => nomatch h)⟩)⟩)
theorem mix : S.P.follows .mixedOrders = true := by kernel_rfl
noncomputable def K0 : Known := fun _ => none
theorem known0 : KnownOK S K0 := known_none fun _ => rfl
end Go.Proofs.YtaomafmpedgofaaGreatDoor
