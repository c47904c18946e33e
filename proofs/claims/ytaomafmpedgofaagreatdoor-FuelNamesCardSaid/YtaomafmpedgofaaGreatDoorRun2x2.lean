import Derived.Test.YtaomafmpedgofaaGreatDoorTab1
namespace Go.Proofs.YtaomafmpedgofaaGreatDoor
open Go Go.Vm
set_option maxRecDepth 1000000
noncomputable def x35 : List AV := [(.str [97, 32, 60, 45, 32, 34, 120, 34, 42]), (.int .i64 3), (.int .i64 0), (.int .i64 28)]
noncomputable def y35 : AV := (.bool true)
theorem r35 : RunsTo S 7 x35 y35 := runsTo_of (K := K1) known1 (n := 100000) (k := 400) (by kernel_rfl)
noncomputable def x36 : List AV := [(.str [97, 32, 60, 45, 32, 34, 120, 34, 123, 50, 44, 57, 125]), (.int .i64 3), (.int .i64 1), (.int .i64 65)]
noncomputable def y36 : AV := (.bool true)
theorem r36 : RunsTo S 7 x36 y36 := runsTo_of (K := K1) known1 (n := 100000) (k := 400) (by kernel_rfl)
noncomputable def x37 : List AV := [(.str [97, 32, 60, 45, 32, 34, 120, 34, 123, 48, 125]), (.int .i64 3), (.int .i64 0), (.int .i64 28)]
noncomputable def y37 : AV := (.bool true)
theorem r37 : RunsTo S 7 x37 y37 := runsTo_of (K := K1) known1 (n := 100000) (k := 400) (by kernel_rfl)
noncomputable def x38 : List AV := [(.str [97, 32, 60, 45, 32, 38, 60, 110, 58, 32, 46, 62]), (.int .i64 0), (.int .i64 0), (.int .i64 5)]
noncomputable def y38 : AV := (.bool true)
theorem r38 : RunsTo S 7 x38 y38 := runsTo_of (K := K1) known1 (n := 100000) (k := 400) (by kernel_rfl)
end Go.Proofs.YtaomafmpedgofaaGreatDoor
