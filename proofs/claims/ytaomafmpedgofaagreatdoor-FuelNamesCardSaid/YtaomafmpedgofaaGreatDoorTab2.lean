import Derived.Test.YtaomafmpedgofaaGreatDoorRun2x1
import Derived.Test.YtaomafmpedgofaaGreatDoorRun2x2
namespace Go.Proofs.YtaomafmpedgofaaGreatDoor
open Go Go.Vm
set_option maxRecDepth 1000000
noncomputable def T2 : List (Nat × List (List AV × AV)) := [(6, [(x26, y26), (x27, y27), (x28, y28), (x29, y29), (x30, y30), (x31, y31), (x32, y32)]), (7, [(x35, y35), (x36, y36), (x37, y37), (x38, y38)]), (10, [(x8, y8)]), (12, [(x25, y25)]), (24, [(x24, y24), (x33, y33)]), (25, [(x20, y20), (x23, y23)]), (41, [(x34, y34)]), (45, [(x2, y2), (x6, y6), (x15, y15), (x17, y17)]), (84, [(x1, y1), (x3, y3), (x4, y4), (x5, y5), (x7, y7), (x9, y9), (x10, y10), (x11, y11), (x12, y12), (x13, y13), (x14, y14), (x16, y16), (x18, y18), (x19, y19), (x21, y21), (x22, y22)])]
noncomputable def K2 : Known := tabK T2
theorem tab2 : TabRuns S T2 := ⟨⟨r26, ⟨r27, ⟨r28, ⟨r29, ⟨r30, ⟨r31, ⟨r32, trivial⟩⟩⟩⟩⟩⟩⟩, ⟨⟨r35, ⟨r36, ⟨r37, ⟨r38, trivial⟩⟩⟩⟩, ⟨⟨r8, trivial⟩, ⟨⟨r25, trivial⟩, ⟨⟨r24, ⟨r33, trivial⟩⟩, ⟨⟨r20, ⟨r23, trivial⟩⟩, ⟨⟨r34, trivial⟩, ⟨⟨r2, ⟨r6, ⟨r15, ⟨r17, trivial⟩⟩⟩⟩, ⟨⟨r1, ⟨r3, ⟨r4, ⟨r5, ⟨r7, ⟨r9, ⟨r10, ⟨r11, ⟨r12, ⟨r13, ⟨r14, ⟨r16, ⟨r18, ⟨r19, ⟨r21, ⟨r22, trivial⟩⟩⟩⟩⟩⟩⟩⟩⟩⟩⟩⟩⟩⟩⟩⟩, trivial⟩⟩⟩⟩⟩⟩⟩⟩⟩
theorem known2 : KnownOK S K2 := known_tab funsOK mix extOK (tabRuns_mem tab2)
end Go.Proofs.YtaomafmpedgofaaGreatDoor
