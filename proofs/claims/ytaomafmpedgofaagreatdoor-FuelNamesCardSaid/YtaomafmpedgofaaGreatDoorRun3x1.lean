import Derived.Test.YtaomafmpedgofaaGreatDoorTab2
namespace Go.Proofs.YtaomafmpedgofaaGreatDoor
open Go Go.Vm
set_option maxRecDepth 1000000
noncomputable def x39 : List AV := [(.str [97, 32, 60, 45, 32, 34, 120, 34, 32, 46, 32, 47, 32, 98, 32, 98, 32, 60, 45, 32, 33, 46]), (.int .i64 1), (.int .i64 0), (.int .i64 26)]
noncomputable def y39 : AV := (.bool true)
theorem r39 : RunsTo S 7 x39 y39 := runsTo_of (K := K2) known2 (n := 100000) (k := 400) (by kernel_rfl)
end Go.Proofs.YtaomafmpedgofaaGreatDoor
