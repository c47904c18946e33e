import Derived.Test.YtaomafmpedgofaaGreatDoorRun1x1
import Derived.Test.YtaomafmpedgofaaGreatDoorRun1x2
import Derived.Test.YtaomafmpedgofaaGreatDoorRun1x3
import Derived.Test.YtaomafmpedgofaaGreatDoorRun1x4
namespace Go.Proofs.YtaomafmpedgofaaGreatDoor
open Go Go.Vm
set_option maxRecDepth 1000000
noncomputable def T1 : List (Nat × List (List AV × AV)) := [(10, [(x8, y8)]), (25, [(x20, y20), (x23, y23)]), (45, [(x2, y2), (x6, y6), (x15, y15), (x17, y17)]), (84, [(x1, y1), (x3, y3), (x4, y4), (x5, y5), (x7, y7), (x9, y9), (x10, y10), (x11, y11), (x12, y12), (x13, y13), (x14, y14), (x16, y16), (x18, y18), (x19, y19), (x21, y21), (x22, y22)])]
noncomputable def K1 : Known := tabK T1
theorem tab1 : TabRuns S T1 := ⟨⟨r8, trivial⟩, ⟨⟨r20, ⟨r23, trivial⟩⟩, ⟨⟨r2, ⟨r6, ⟨r15, ⟨r17, trivial⟩⟩⟩⟩, ⟨⟨r1, ⟨r3, ⟨r4, ⟨r5, ⟨r7, ⟨r9, ⟨r10, ⟨r11, ⟨r12, ⟨r13, ⟨r14, ⟨r16, ⟨r18, ⟨r19, ⟨r21, ⟨r22, trivial⟩⟩⟩⟩⟩⟩⟩⟩⟩⟩⟩⟩⟩⟩⟩⟩, trivial⟩⟩⟩⟩
theorem known1 : KnownOK S K1 := known_tab funsOK mix extOK (tabRuns_mem tab1)
end Go.Proofs.YtaomafmpedgofaaGreatDoor
