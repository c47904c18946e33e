import Derived.Test.YtaomafmpedgofaaGreatDoorText0
import Derived.KernelRfl
namespace Go.Proofs.YtaomafmpedgofaaGreatDoor
open Go Go.Vm
set_option maxRecDepth 100000
/- bonsai/bonsailaw17.FuelNames -/
noncomputable def m3 : Meta := { slots := [(0, false), (2, false), (3, false), (5, false), (7, false), (9, false), (11, false), (12, false), (13, false), (14, false), (15, false), (16, false), (17, false), (19, false), (20, false), (21, false), (25, false), (59, false), (85, false), (102, false), (103, false), (104, false), (105, false), (117, false)], globals := gl, lid := 224, n := 217, ext := ext }
noncomputable def e3 : CodeF := (sSeq (sRegion (rOpS 0 (oMov (.const (.bool false))) rDone))
 (sSeq (sSeq (sRegion (rOp (oCall 5 []) (rOp (oUn .not (.env 0)) (rOp (oMov (.env 0)) (rOpS 16 (oPick (.env 0) (.const (.bool true)) (.const (.bool false))) rDone)))))
 (sCond (.slot 16) (sSeq (sRegion (rOpS 0 (oMov (.const (.bool false))) rDone))
 (sExit .ret)) sSkip))
 (sSeq (sSeq (sRegion (rOp (oCall 6 [(.const (.str [97, 32, 60, 45, 32, 34, 34])), (.const (.int .i64 1))]) (rOp (oUn .not (.env 0)) (rOp (oMov (.env 0)) (rOpG 0 false (oCall 6 [(.const (.str [97, 32, 60, 45, 32, 91, 97, 45, 122, 93, 32, 46])), (.const (.int .i64 3))]) (rOpG 1 false (oUn .not (.env 0)) (rOp (oPick (.env 2) (.const (.bool true)) (.env 0)) (rOp (oMov (.env 0)) (rOpG 0 false (oCall 6 [(.const (.str [97, 32, 60, 45, 32, 98, 32, 98, 32, 60, 45, 32, 34, 97, 98, 99, 34])), (.const (.int .i64 5))]) (rOpG 1 false (oUn .not (.env 0)) (rOp (oPick (.env 2) (.const (.bool true)) (.env 0)) (rOp (oMov (.env 0)) (rOpG 0 false (oCall 6 [(.const (.str [97, 32, 60, 45, 32, 34, 120, 34, 42])), (.const (.int .i64 3))]) (rOpG 1 false (oUn .not (.env 0)) (rOp (oPick (.env 2) (.const (.bool true)) (.env 0)) (rOp (oMov (.env 0)) (rOpG 0 false (oCall 6 [(.const (.str [97, 32, 60, 45, 32, 34, 120, 34, 43])), (.const (.int .i64 4))]) (rOpG 1 false (oUn .not (.env 0)) (rOp (oPick (.env 2) (.const (.bool true)) (.env 0)) (rOp (oMov (.env 0)) (rOpG 0 false (oCall 6 [(.const (.str [97, 32, 60, 45, 32, 34, 120, 34, 63])), (.const (.int .i64 4))]) (rOpG 1 false (oUn .not (.env 0)) (rOp (oPick (.env 2) (.const (.bool true)) (.env 0)) (rOp (oMov (.env 0)) (rOpG 0 false (oCall 6 [(.const (.str [97, 32, 60, 45, 32, 34, 120, 34, 123, 48, 125])), (.const (.int .i64 3))]) (rOpG 1 false (oUn .not (.env 0)) (rOp (oPick (.env 2) (.const (.bool true)) (.env 0)) (rOp (oMov (.env 0)) (rOpG 0 false (oCall 6 [(.const (.str [97, 32, 60, 45, 32, 34, 120, 34, 123, 51, 44, 125])), (.const (.int .i64 6))]) (rOpG 1 false (oUn .not (.env 0)) (rOp (oPick (.env 2) (.const (.bool true)) (.env 0)) (rOp (oMov (.env 0)) (rOpG 0 false (oCall 6 [(.const (.str [97, 32, 60, 45, 32, 33, 38, 60, 110, 58, 32, 91, 120, 93, 62])), (.const (.int .i64 4))]) (rOpG 1 false (oUn .not (.env 0)) (rOpS 17 (oPick (.env 2) (.const (.bool true)) (.env 0)) rDone)))))))))))))))))))))))))))))))))))
 (sCond (.slot 17) (sSeq (sRegion (rOpS 0 (oMov (.const (.bool false))) rDone))
 (sExit .ret)) sSkip))
 (sSeq (sSeq (sRegion (rOp (oCall 7 [(.const (.str [97, 32, 60, 45, 32, 34, 34])), (.const (.int .i64 0)), (.const (.int .i64 0)), (.const (.int .i64 1))]) (rOp (oUn .not (.env 0)) (rOp (oMov (.env 0)) (rOpG 0 false (oCall 7 [(.const (.str [97, 32, 60, 45, 32, 34, 34])), (.const (.int .i64 5)), (.const (.int .i64 7)), (.const (.int .i64 13))]) (rOpG 1 false (oUn .not (.env 0)) (rOp (oPick (.env 2) (.const (.bool true)) (.env 0)) (rOp (oMov (.env 0)) (rOpG 0 false (oCall 7 [(.const (.str [97, 32, 60, 45, 32, 34, 120, 34, 32, 46, 32, 47, 32, 98, 32, 98, 32, 60, 45, 32, 33, 46])), (.const (.int .i64 1)), (.const (.int .i64 0)), (.const (.int .i64 26))]) (rOpG 1 false (oUn .not (.env 0)) (rOp (oPick (.env 2) (.const (.bool true)) (.env 0)) (rOp (oMov (.env 0)) (rOpG 0 false (oCall 7 [(.const (.str [97, 32, 60, 45, 32, 34, 120, 34, 42])), (.const (.int .i64 3)), (.const (.int .i64 0)), (.const (.int .i64 28))]) (rOpG 1 false (oUn .not (.env 0)) (rOp (oPick (.env 2) (.const (.bool true)) (.env 0)) (rOp (oMov (.env 0)) (rOpG 0 false (oCall 7 [(.const (.str [97, 32, 60, 45, 32, 34, 120, 34, 123, 50, 44, 57, 125])), (.const (.int .i64 3)), (.const (.int .i64 1)), (.const (.int .i64 65))]) (rOpG 1 false (oUn .not (.env 0)) (rOp (oPick (.env 2) (.const (.bool true)) (.env 0)) (rOp (oMov (.env 0)) (rOpG 0 false (oCall 7 [(.const (.str [97, 32, 60, 45, 32, 34, 120, 34, 123, 48, 125])), (.const (.int .i64 3)), (.const (.int .i64 0)), (.const (.int .i64 28))]) (rOpG 1 false (oUn .not (.env 0)) (rOp (oPick (.env 2) (.const (.bool true)) (.env 0)) (rOp (oMov (.env 0)) (rOpG 0 false (oCall 7 [(.const (.str [97, 32, 60, 45, 32, 38, 60, 110, 58, 32, 46, 62])), (.const (.int .i64 0)), (.const (.int .i64 0)), (.const (.int .i64 5))]) (rOpG 1 false (oUn .not (.env 0)) (rOpS 18 (oPick (.env 2) (.const (.bool true)) (.env 0)) rDone)))))))))))))))))))))))))))
 (sCond (.slot 18) (sSeq (sRegion (rOpS 0 (oMov (.const (.bool false))) rDone))
 (sExit .ret)) sSkip))
 (sSeq (sSeq (sRegion (rOp (oBuild [(.int .i64 0), (.int .i64 0), (.int .i64 0), (.int .i64 0)] [(0, 1, (.const (.int .i64 0))), (1, 1, (.const (.int .i64 0))), (2, 1, (.const (.int .i64 0))), (3, 1, (.const (.int .i64 0)))]) (rOp (oBuild [(.int .i64 0), (.int .i64 0), (.int .i64 0), (.int .i64 0)] [(0, 1, (.const (.int .i64 1))), (1, 1, (.const (.int .i64 0))), (2, 1, (.const (.int .i64 0))), (3, 1, (.const (.int .i64 4)))]) (rOp (oBuild [(.int .i64 0), (.int .i64 0), (.int .i64 0), (.int .i64 0)] [(0, 1, (.const (.int .i64 1))), (1, 1, (.const (.int .i64 0))), (2, 1, (.const (.int .i64 5))), (3, 1, (.const (.int .i64 9)))]) (rOp (oBuild [(.int .i64 0), (.int .i64 0), (.int .i64 0), (.int .i64 0)] [(0, 1, (.const (.int .i64 (-1)))), (1, 1, (.const (.int .i64 2))), (2, 1, (.const (.int .i64 2))), (3, 1, (.const (.int .i64 0)))]) (rOp (oBuild [(.int .i64 0), (.int .i64 0), (.int .i64 0), (.int .i64 0)] [(0, 1, (.const (.int .i64 2))), (1, 1, (.const (.int .i64 (-1)))), (2, 1, (.const (.int .i64 2))), (3, 1, (.const (.int .i64 0)))]) (rOp (oBuild [(.int .i64 0), (.int .i64 0), (.int .i64 0), (.int .i64 0)] [(0, 1, (.const (.int .i64 2))), (1, 1, (.const (.int .i64 2))), (2, 1, (.const (.int .i64 (-1)))), (3, 1, (.const (.int .i64 0)))]) (rOp (oBuild [(.int .i64 0), (.int .i64 0), (.int .i64 0), (.int .i64 0)] [(0, 1, (.const (.int .i64 0))), (1, 1, (.const (.int .i64 9))), (2, 1, (.const (.int .i64 3))), (3, 1, (.const (.int .i64 3)))]) (rOp (oBuild [(.int .i64 0), (.int .i64 0), (.int .i64 0), (.int .i64 0)] [(0, 1, (.const (.int .i64 9223372036854775807))), (1, 1, (.const (.int .i64 9223372036854775807))), (2, 1, (.const (.int .i64 9223372036854775807))), (3, 1, (.const (.int .i64 1099511627776)))]) (rOp (oBuild [(.int .i64 0), (.int .i64 0), (.int .i64 0), (.int .i64 0)] [(0, 1, (.const (.int .i64 1))), (1, 1, (.const (.int .i64 1048576))), (2, 1, (.const (.int .i64 0))), (3, 1, (.const (.int .i64 1099511627776)))]) (rOp (oBuild [(.int .i64 0), (.int .i64 0), (.int .i64 0), (.int .i64 0)] [(0, 1, (.const (.int .i64 1))), (1, 1, (.const (.int .i64 1048573))), (2, 1, (.const (.int .i64 0))), (3, 1, (.const (.int .i64 1099510579198)))]) (rOp (oBuild [(.int .i64 0), (.int .i64 0), (.int .i64 0), (.int .i64 0)] [(0, 1, (.const (.int .i64 9223372036854775807))), (1, 1, (.const (.int .i64 0))), (2, 1, (.const (.int .i64 0))), (3, 1, (.const (.int .i64 1099511627776)))]) (rOp (oBuild [(.int .i64 0), (.int .i64 0), (.int .i64 0), (.int .i64 0)] [(0, 1, (.const (.int .i64 1))), (1, 1, (.const (.int .i64 0))), (2, 1, (.const (.int .i64 9223372036854775807))), (3, 1, (.const (.int .i64 1099511627776)))]) (rOp (oBuild [(.int .i64 0), (.int .i64 0), (.int .i64 0), (.int .i64 0)] [(0, 1, (.const (.int .i64 0))), (1, 1, (.const (.int .i64 9223372036854775807))), (2, 1, (.const (.int .i64 9223372036854775807))), (3, 1, (.const (.int .i64 1099511627776)))]) (rOp (oBuild [(.int .i64 0), (.int .i64 0), (.int .i64 0), (.int .i64 0)] [(0, 1, (.const (.int .i64 0))), (1, 1, (.const (.int .i64 9223372036854775807))), (2, 1, (.const (.int .i64 1))), (3, 1, (.const (.int .i64 1)))]) (rOp (oBuild [(.int .i64 0), (.int .i64 0), (.int .i64 0), (.int .i64 0)] [(0, 1, (.const (.int .i64 274877906944))), (1, 1, (.const (.int .i64 0))), (2, 1, (.const (.int .i64 0))), (3, 1, (.const (.int .i64 1099511627776)))]) (rOp (oBuild [(.int .i64 0), (.int .i64 0), (.int .i64 0), (.int .i64 0)] [(0, 1, (.const (.int .i64 274877906943))), (1, 1, (.const (.int .i64 0))), (2, 1, (.const (.int .i64 3))), (3, 1, (.const (.int .i64 1099511627775)))]) (rOpS 19 (oBslice 25 4 16 [(.int .i64 0), (.int .i64 0), (.int .i64 0), (.int .i64 0)] [(0, 4, (.env 15)), (4, 4, (.env 14)), (8, 4, (.env 13)), (12, 4, (.env 12)), (16, 4, (.env 11)), (20, 4, (.env 10)), (24, 4, (.env 9)), (28, 4, (.env 8)), (32, 4, (.env 7)), (36, 4, (.env 6)), (40, 4, (.env 5)), (44, 4, (.env 4)), (48, 4, (.env 3)), (52, 4, (.env 2)), (56, 4, (.env 1)), (60, 4, (.env 0))]) (rOpS 20 (oLen .sl (.env 0)) (rOpS 21 (oMov (.const (.int .i64 0))) rDone))))))))))))))))))))
 (sBlock 0 (sLoop (sSeq (sRegion (rOpS 22 (oBin .lss (.slot 21) (.slot 20)) rDone))
 (sSeq (sCond (.slot 22) sSkip (sExit (.exit 0)))
 (sSeq (sBlock 1 (sSeq (sRegion (rOp (oIdxS 4 (.slot 19) (.slot 21)) (rOp (oLoad 4 true (.env 0)) (rOpS 1 (oAlloc 25 [(.int .i64 0), (.int .i64 0), (.int .i64 0), (.int .i64 0)]) (rOp (oStore 4 (.env 0) (.env 1)) rDone)))))
 (sSeq (sRegionD (dOp (oIdxP 4 1 (.slot 1) (.const (.int .i64 0))) false (dOp (oLoad 1 false (.env 0)) false (dOp (oIdxP 4 1 (.slot 1) (.const (.int .i64 1))) false (dOp (oLoad 1 false (.env 0)) false (dOp (oIdxP 4 1 (.slot 1) (.const (.int .i64 2))) false (dOp (oLoad 1 false (.env 0)) false (dOp (oCall 8 [(.env 4), (.env 2), (.env 0)]) true (dOp (oIdxP 4 1 (.slot 1) (.const (.int .i64 3))) false (dOp (oLoad 1 false (.env 0)) false (dOp (oBin .neq (.env 2) (.env 0)) false dDone)))))))))) [⟨1, .load 1 false (.env 0), none, [1]⟩] [(23, 0)])
 (sCond (.slot 23) (sSeq (sRegion (rOpS 0 (oMov (.const (.bool false))) rDone))
 (sExit .ret)) sSkip))))
 (sRegion (rOp (oBin .add (.slot 21) (.const (.int .i64 1))) (rOpS 21 (oMov (.env 0)) rDone)))))))))
 (sSeq (sRegion (rOp (oCall 9 [(.const (.str [97, 32, 60, 45, 32, 97]))]) (rOpS 2 (oAlloc 30 [.nils]) (rOp (oStore 1 (.env 0) (.env 1)) rDone))))
 (sSeq (sRegion (rOp (oBuild [.nils] []) (rOp (oCall 10 [(.env 0)]) (rOp (oMov (.env 0)) (rOp (oExt (.env 0) 0) (rOp (oExt (.env 1) 1) (rOp (oMov (.env 1)) (rOpS 3 (oMov (.env 1)) rDone))))))))
 (sSeq (sRegion (rOp (oBuild [.nils] []) (rOp (oCall 11 [(.env 0), (.const (.int .i64 1)), (.const (.int .i64 1))]) (rOp (oMov (.env 0)) (rOp (oExt (.env 0) 0) (rOp (oExt (.env 1) 1) (rOp (oMov (.env 1)) (rOpS 4 (oMov (.env 1)) rDone))))))))
 (sSeq (sRegion (rOp (oBuild [.nils] []) (rOp (oCall 12 [(.env 0), (.const (.str []))]) (rOp (oMov (.env 0)) (rOp (oExt (.env 0) 0) (rOp (oExt (.env 1) 1) (rOp (oMov (.env 1)) (rOpS 5 (oMov (.env 1)) rDone))))))))
 (sSeq (sRegion (rOp (oLoad 1 true (.slot 2)) (rOp (oCall 12 [(.env 0), (.const (.str []))]) (rOp (oMov (.env 0)) (rOp (oExt (.env 0) 0) (rOp (oExt (.env 1) 1) (rOp (oMov (.env 1)) (rOpS 6 (oMov (.env 1)) rDone))))))))
 (sSeq (sRegion (rOp (oLoad 1 true (.slot 2)) (rOp (oCall 11 [(.env 0), (.const (.int .i64 (-1))), (.const (.int .i64 1))]) (rOp (oMov (.env 0)) (rOp (oExt (.env 0) 0) (rOp (oExt (.env 1) 1) (rOpS 7 (oMov (.env 1)) (rOpS 8 (oMov (.env 1)) rDone))))))))
 (sSeq (sRegion (rOp (oLoad 1 true (.slot 2)) (rOp (oCall 11 [(.env 0), (.const (.int .i64 1)), (.const (.int .i64 (-1)))]) (rOp (oMov (.env 0)) (rOp (oExt (.env 0) 0) (rOp (oExt (.env 1) 1) (rOpS 9 (oMov (.env 1)) (rOpS 10 (oMov (.env 1)) rDone))))))))
 (sSeq (sRegion (rOp (oLoad 1 true (.slot 2)) (rOp (oCall 11 [(.env 0), (.const (.int .i64 9223372036854775807)), (.const (.int .i64 1))]) (rOp (oMov (.env 0)) (rOp (oExt (.env 0) 0) (rOp (oExt (.env 1) 1) (rOpS 11 (oMov (.env 1)) (rOpS 12 (oMov (.env 1)) rDone))))))))
 (sSeq (sRegionD (dOp (oLoad 1 true (.slot 2)) false (dOp (oMkslice 5 1 1 [(.int .u8 0)] (.const (.int .i64 4097)) (.const (.int .i64 4097))) true (dOp (oConvStr (.env 0)) false (dOp (oCall 12 [(.env 2), (.env 0)]) true (dOp (oMov (.env 0)) false (dOp (oExt (.env 0) 0) false (dOp (oExt (.env 1) 1) false (dOp (oMov (.env 1)) false (dOp (oMov (.env 1)) false dDone))))))))) [⟨8, .load 1 true (.slot 2), none, [1]⟩] [(13, 0)])
 (sSeq (sRegion (rOp (oCall 9 [(.const (.str [97, 32, 60, 45, 32, 60, 110, 58, 32, 34, 34, 62, 123, 57, 125]))]) (rOp (oCall 12 [(.env 0), (.const (.str []))]) (rOp (oMov (.env 0)) (rOp (oExt (.env 0) 0) (rOp (oExt (.env 1) 1) (rOpS 14 (oMov (.env 1)) (rOpS 15 (oMov (.env 1)) rDone))))))))
 (sSeq (sRegion (rOp (oMov (.slot 3)) (rOp (oBin .eql (.env 0) (.const (.int .i64 4))) (rOp (oMov (.env 0)) (rOpG 0 true (oMov (.slot 4)) (rOpG 1 true (oBin .eql (.env 0) (.const (.int .i64 4))) (rOp (oPick (.env 2) (.env 0) (.const (.bool false))) (rOp (oMov (.env 0)) (rOpG 0 true (oMov (.slot 5)) (rOpG 1 true (oBin .eql (.env 0) (.const (.int .i64 4))) (rOp (oPick (.env 2) (.env 0) (.const (.bool false))) (rOp (oMov (.env 0)) (rOpG 0 true (oMov (.slot 6)) (rOpG 1 true (oBin .eql (.env 0) (.const (.int .i64 5))) (rOp (oPick (.env 2) (.env 0) (.const (.bool false))) (rOp (oMov (.env 0)) (rOpG 0 true (oMov (.slot 7)) (rOpG 1 true (oBin .eql (.env 0) (.const (.int .i64 0))) (rOp (oPick (.env 2) (.env 0) (.const (.bool false))) (rOp (oMov (.env 0)) (rOpG 0 true (oMov (.slot 8)) (rOpG 1 true (oBin .eql (.env 0) (.const (.int .i64 0))) (rOp (oPick (.env 2) (.env 0) (.const (.bool false))) (rOp (oMov (.env 0)) (rOpG 0 true (oMov (.slot 9)) (rOpG 1 true (oBin .eql (.env 0) (.const (.int .i64 0))) (rOp (oPick (.env 2) (.env 0) (.const (.bool false))) (rOp (oMov (.env 0)) (rOpG 0 true (oMov (.slot 10)) (rOpG 1 true (oBin .eql (.env 0) (.const (.int .i64 0))) (rOp (oPick (.env 2) (.env 0) (.const (.bool false))) (rOp (oMov (.env 0)) (rOpG 0 true (oMov (.slot 11)) (rOpG 1 true (oBin .eql (.env 0) (.const (.int .i64 1099511627776))) (rOp (oPick (.env 2) (.env 0) (.const (.bool false))) (rOp (oMov (.env 0)) (rOpG 0 true (oMov (.slot 12)) (rOpG 1 true (oBin .eql (.env 0) (.const (.int .i64 0))) (rOp (oPick (.env 2) (.env 0) (.const (.bool false))) (rOp (oMov (.env 0)) (rOpG 0 true (oMov (.slot 13)) (rOpG 1 true (oBin .eql (.env 0) (.const (.int .i64 40))) (rOp (oPick (.env 2) (.env 0) (.const (.bool false))) (rOp (oMov (.env 0)) (rOpG 0 true (oMov (.slot 15)) (rOpG 1 true (oBin .eql (.env 0) (.const (.int .i64 0))) (rOp (oPick (.env 2) (.env 0) (.const (.bool false))) (rOp (oMov (.env 0)) (rOpG 0 true (oMov (.slot 14)) (rOpG 1 true (oBin .eql (.env 0) (.const (.int .i64 93))) (rOp (oPick (.env 2) (.env 0) (.const (.bool false))) (rOpS 0 (oMov (.env 0)) rDone))))))))))))))))))))))))))))))))))))))))))))))))))))
 (sExit .ret)))))))))))))))))
noncomputable def k3 : Code := codeIn Tryz.f3
theorem h3 : (cCode Tryz.prog m3 k3).map den = some e3 := by kernel_rfl
noncomputable def fn3 : AFunc := { real := true, nslots := 24, params := [], results := [.slot 0], assign := sNone, body := e3 }
/- bonsai/bonsailaw17.awake -/
noncomputable def m5 : Meta := { slots := [(0, false), (1, false), (2, false)], globals := gl, lid := 560, n := 27, ext := ext }
noncomputable def e5 : CodeF := (sSeq (sRegion (rOpS 0 (oMov (.const (.bool false))) rDone))
 (sSeq (sRegion (rOp (oCall 9 [(.const (.str [97, 32, 60, 45, 32, 34, 120, 34, 32, 97, 32, 47, 32, 34, 34]))]) (rOp (oCall 12 [(.env 0), (.const (.str [120, 120]))]) (rOp (oMov (.env 0)) (rOp (oExt (.env 0) 0) (rOp (oExt (.env 1) 1) (rOpS 1 (oMov (.env 1)) (rOpS 2 (oMov (.env 1)) rDone))))))))
 (sSeq (sRegion (rOp (oCall 6 [(.const (.str [97, 32, 60, 45, 32, 34, 120, 34, 32, 97, 32, 47, 32, 34, 34])), (.const (.int .i64 6))]) (rOp (oMov (.env 0)) (rOpG 0 true (oCall 8 [(.const (.int .i64 6)), (.const (.int .i64 2)), (.const (.int .i64 0))]) (rOpG 1 true (oBin .eql (.env 0) (.const (.int .i64 108))) (rOp (oPick (.env 2) (.env 0) (.const (.bool false))) (rOp (oMov (.env 0)) (rOpG 0 true (oCall 7 [(.const (.str [97, 32, 60, 45, 32, 34, 120, 34, 32, 97, 32, 47, 32, 34, 34])), (.const (.int .i64 2)), (.const (.int .i64 0)), (.const (.int .i64 30))]) (rOp (oPick (.env 1) (.env 0) (.const (.bool false))) (rOp (oMov (.env 0)) (rOpG 0 true (oCall 6 [(.const (.str [97, 32, 60, 45, 32, 34, 97, 98, 34, 123, 50, 44, 53, 125])), (.const (.int .i64 11))]) (rOp (oPick (.env 1) (.env 0) (.const (.bool false))) (rOp (oMov (.env 0)) (rOpG 0 true (oMov (.slot 1)) (rOpG 1 true (oBin .eql (.env 0) (.const (.int .i64 108))) (rOp (oPick (.env 2) (.env 0) (.const (.bool false))) (rOp (oMov (.env 0)) (rOpG 0 true (oMov (.slot 2)) (rOpG 1 true (oBin .eql (.env 0) (.const (.int .i64 0))) (rOp (oPick (.env 2) (.env 0) (.const (.bool false))) (rOpS 0 (oMov (.env 0)) rDone)))))))))))))))))))))
 (sExit .ret))))
noncomputable def k5 : Code := codeIn Tryz.f5
theorem h5 : (cCode Tryz.prog m5 k5).map den = some e5 := by kernel_rfl
noncomputable def fn5 : AFunc := { real := true, nslots := 3, params := [], results := [.slot 0], assign := sNone, body := e5 }
/- bonsai/bonsailaw17.weighs -/
noncomputable def m6 : Meta := { slots := [(0, false), (1, false), (4, false), (5, false), (6, false)], globals := gl, lid := 588, n := 20, ext := ext }
noncomputable def e6 : CodeF := (sSeq (sRegion (rOpS 2 (oMov (.const (.bool false))) rDone))
 (sSeq (sRegion (rOp (oMov (.slot 0)) (rOp (oCall 9 [(.env 0)]) (rOp (oCall 10 [(.env 0)]) (rOp (oMov (.env 0)) (rOp (oExt (.env 0) 0) (rOp (oExt (.env 1) 1) (rOpS 3 (oMov (.env 1)) (rOpS 4 (oMov (.env 1)) rDone)))))))))
 (sSeq (sRegion (rOp (oMov (.slot 4)) (rOp (oBin .eql (.env 0) (.const (.int .i64 0))) (rOp (oMov (.env 0)) (rOpG 0 true (oMov (.slot 3)) (rOpG 1 true (oMov (.slot 1)) (rOpG 2 true (oBin .eql (.env 1) (.env 0)) (rOp (oPick (.env 3) (.env 0) (.const (.bool false))) (rOpS 2 (oMov (.env 0)) rDone)))))))))
 (sExit .ret))))
noncomputable def k6 : Code := codeIn Tryz.f6
theorem h6 : (cCode Tryz.prog m6 k6).map den = some e6 := by kernel_rfl
noncomputable def fn6 : AFunc := { real := true, nslots := 5, params := [(some 0), (some 1)], results := [.slot 2], assign := sNone, body := e6 }
/- bonsai/bonsailaw17.closer -/
noncomputable def m7 : Meta := { slots := [(0, false), (1, false), (2, false), (3, false), (8, false), (9, false), (10, false)], globals := gl, lid := 609, n := 26, ext := ext }
noncomputable def e7 : CodeF := (sSeq (sRegion (rOpS 4 (oMov (.const (.bool false))) rDone))
 (sSeq (sRegion (rOp (oMov (.slot 0)) (rOp (oCall 9 [(.env 0)]) (rOp (oMov (.slot 1)) (rOp (oMov (.slot 2)) (rOp (oCall 11 [(.env 2), (.env 1), (.env 0)]) (rOp (oMov (.env 0)) (rOp (oExt (.env 0) 0) (rOp (oExt (.env 1) 1) (rOpS 5 (oMov (.env 1)) (rOpS 6 (oMov (.env 1)) rDone)))))))))))
 (sSeq (sRegion (rOp (oMov (.slot 6)) (rOp (oBin .eql (.env 0) (.const (.int .i64 0))) (rOp (oMov (.env 0)) (rOpG 0 true (oMov (.slot 5)) (rOpG 1 true (oMov (.slot 3)) (rOpG 2 true (oBin .eql (.env 1) (.env 0)) (rOp (oPick (.env 3) (.env 0) (.const (.bool false))) (rOpS 4 (oMov (.env 0)) rDone)))))))))
 (sExit .ret))))
noncomputable def k7 : Code := codeIn Tryz.f7
theorem h7 : (cCode Tryz.prog m7 k7).map den = some e7 := by kernel_rfl
noncomputable def fn7 : AFunc := { real := true, nslots := 7, params := [(some 0), (some 1), (some 2), (some 3)], results := [.slot 4], assign := sNone, body := e7 }
/- bonsai/fuel.Bound -/
noncomputable def m8 : Meta := { slots := [(0, false), (1, false), (2, false), (6, false), (7, false), (17, false)], globals := gl, lid := 636, n := 29, ext := ext }
noncomputable def e8 : CodeF := (sSeq (sRegion (rOpS 3 (oMov (.const (.int .i64 0))) rDone))
 (sSeq (sSeq (sRegion (rOp (oMov (.slot 0)) (rOp (oBin .lss (.env 0) (.const (.int .i64 0))) (rOp (oMov (.env 0)) (rOpG 0 false (oMov (.slot 1)) (rOpG 1 false (oBin .lss (.env 0) (.const (.int .i64 0))) (rOp (oPick (.env 2) (.const (.bool true)) (.env 0)) (rOp (oMov (.env 0)) (rOpG 0 false (oMov (.slot 2)) (rOpG 1 false (oBin .lss (.env 0) (.const (.int .i64 0))) (rOpS 5 (oPick (.env 2) (.const (.bool true)) (.env 0)) rDone)))))))))))
 (sCond (.slot 5) (sSeq (sRegion (rOpS 3 (oMov (.const (.int .i64 0))) rDone))
 (sExit .ret)) sSkip))
 (sSeq (sRegion (rOp (oMov (.slot 0)) (rOp (oMov (.slot 1)) (rOp (oCall 23 [(.env 0), (.const (.int .i64 1)), (.const (.int .i64 1099511627776))]) (rOp (oCall 22 [(.env 2), (.env 0), (.const (.int .i64 1099511627776))]) (rOpS 4 (oMov (.env 0)) rDone))))))
 (sSeq (sRegion (rOp (oMov (.slot 4)) (rOp (oMov (.slot 1)) (rOp (oCall 23 [(.env 0), (.const (.int .i64 4)), (.const (.int .i64 1099511627776))]) (rOp (oCall 22 [(.env 2), (.env 0), (.const (.int .i64 1099511627776))]) (rOpS 4 (oMov (.env 0)) rDone))))))
 (sSeq (sRegion (rOp (oMov (.slot 4)) (rOp (oMov (.slot 2)) (rOp (oCall 23 [(.env 1), (.env 0), (.const (.int .i64 1099511627776))]) (rOpS 3 (oMov (.env 0)) rDone)))))
 (sExit .ret))))))
noncomputable def k8 : Code := codeIn Tryz.f8
theorem h8 : (cCode Tryz.prog m8 k8).map den = some e8 := by kernel_rfl
noncomputable def fn8 : AFunc := { real := true, nslots := 6, params := [(some 0), (some 1), (some 2)], results := [.slot 3], assign := sNone, body := e8 }
/- bonsai/bonsailaw17.read -/
noncomputable def m9 : Meta := { slots := [(0, false), (2, true), (3, true)], globals := gl, lid := 666, n := 13, ext := ext }
noncomputable def e9 : CodeF := (sSeq (sRegion (rOp (oAllocP 1 [.nils]) rDone))
 (sSeq (sRegion (rOp (oMov (.slot 0)) (rOp (oCall 24 [(.env 0)]) (rOp (oMov (.env 0)) (rOp (oExt (.env 0) 0) (rOp (oExt (.env 1) 1) (rOp (oExt (.env 2) 2) (rOp (oAllocP 2 [.nils]) (rOp (oStoreP 2 1 (.env 0) (.env 3)) (rOp (oMov (.env 3)) (rOp (oMov (.env 3)) rDone)))))))))))
 (sSeq (sRegion (rOp (oLoadP 2 1 true (.const (.fp 0))) (rOp (oStoreP 1 1 (.const (.fp 0)) (.env 0)) rDone)))
 (sExit .ret))))
noncomputable def k9 : Code := codeIn Tryz.f9
theorem h9 : (cCode Tryz.prog m9 k9).map den = some e9 := by kernel_rfl
noncomputable def fn9 : AFunc := { real := true, nslots := 3, params := [(some 0)], results := [.cellP 1 1 true], assign := sNone, body := e9 }
/- bonsai/fuel.Weight -/
noncomputable def m10 : Meta := { slots := [(0, false), (1, true), (2, false), (3, false), (4, false), (8, false)], globals := gl, lid := 680, n := 12, ext := ext }
noncomputable def e10 : CodeF := (sSeq (sRegion (rOp (oBoxP 1 (.slot 0)) (rOpS 2 (oMov (.const (.int .i64 0))) (rOpS 3 (oMov (.const (.int .i64 0))) rDone))))
 (sSeq (sSeq (sRegion (rOp (oLoadP 1 1 true (.const (.fp 0))) (rOp (oCall 25 [(.env 0)]) (rOpS 4 (oMov (.env 0)) rDone))))
 (sSeq (sRegion (rOp (oMov (.slot 4)) (rOpS 5 (oBin .neq (.env 0) (.const (.int .i64 0))) rDone)))
 (sCond (.slot 5) (sSeq (sRegion (rOp (oMov (.slot 4)) (rOpS 2 (oMov (.const (.int .i64 0))) (rOpS 3 (oMov (.env 1)) rDone))))
 (sExit .ret)) sSkip)))
 (sSeq (sRegion (rOp (oLoadP 1 1 true (.const (.fp 0))) (rOp (oCall 26 [(.env 0)]) (rOpS 2 (oMov (.env 0)) (rOpS 3 (oMov (.const (.int .i64 0))) rDone)))))
 (sExit .ret))))
noncomputable def k10 : Code := codeIn Tryz.f10
theorem h10 : (cCode Tryz.prog m10 k10).map den = some e10 := by kernel_rfl
noncomputable def fn10 : AFunc := { real := true, nslots := 6, params := [(some 0)], results := [.slot 2, .slot 3], assign := sNone, body := e10 }
/- bonsai/fuel.Closer -/
noncomputable def m11 : Meta := { slots := [(0, false), (1, false), (2, false), (3, false), (4, false), (6, false), (7, false), (8, false), (9, false), (10, false), (11, false), (15, false), (22, false), (24, false), (25, false), (30, false), (31, false), (33, false)], globals := gl, lid := 693, n := 52, ext := ext }
noncomputable def e11 : CodeF := (sSeq (sRegion (rOpS 3 (oBox 30 (.slot 0)) (rOpS 4 (oBox 3 (.slot 1)) (rOpS 5 (oMov (.const (.int .i64 0))) (rOpS 6 (oMov (.const (.int .i64 0))) rDone)))))
 (sSeq (sSeq (sRegion (rOp (oLoad 1 true (.slot 3)) (rOp (oCall 25 [(.env 0)]) (rOpS 7 (oMov (.env 0)) rDone))))
 (sSeq (sRegion (rOp (oMov (.slot 7)) (rOpS 11 (oBin .neq (.env 0) (.const (.int .i64 0))) rDone)))
 (sCond (.slot 11) (sSeq (sRegion (rOp (oMov (.slot 7)) (rOpS 5 (oMov (.const (.int .i64 0))) (rOpS 6 (oMov (.env 1)) rDone))))
 (sExit .ret)) sSkip)))
 (sSeq (sSeq (sRegion (rOp (oLoad 1 false (.slot 4)) (rOp (oBin .lss (.env 0) (.const (.int .i64 0))) (rOp (oMov (.env 0)) (rOpG 0 false (oMov (.slot 2)) (rOpG 1 false (oBin .lss (.env 0) (.const (.int .i64 0))) (rOpS 12 (oPick (.env 2) (.const (.bool true)) (.env 0)) rDone)))))))
 (sCond (.slot 12) (sSeq (sRegion (rOpS 5 (oMov (.const (.int .i64 0))) (rOpS 6 (oMov (.const (.int .i64 0))) rDone)))
 (sExit .ret)) sSkip))
 (sSeq (sRegion (rOpS 8 (oAlloc 3 [(.int .i64 0)]) (rOp (oStore 1 (.env 0) (.const (.int .i64 0))) rDone)))
 (sSeq (sSeq (sRegion (rOp (oLoad 1 true (.slot 3)) (rOpS 13 (oCall 27 [(.env 0)]) rDone)))
 (sBlock 0 (sRangeFunc (.slot 13) [14] 717)))
 (sSeq (sRegionD (dOp (oLoad 1 false (.slot 8)) false (dOp (oLoad 1 false (.slot 4)) false (dOp (oCall 23 [(.env 0), (.const (.int .i64 1)), (.const (.int .i64 1099511627776))]) true (dOp (oCall 22 [(.env 2), (.env 0), (.const (.int .i64 1099511627776))]) true (dOp (oStore 1 (.slot 8) (.env 0)) true dDone))))) [⟨4, .load 1 false (.slot 8), none, [2]⟩] [])
 (sSeq (sRegion (rOp (oLoad 1 false (.slot 8)) (rOp (oMov (.slot 2)) (rOp (oCall 23 [(.env 1), (.env 0), (.const (.int .i64 1099511627776))]) (rOpS 5 (oMov (.env 0)) (rOpS 6 (oMov (.const (.int .i64 0))) rDone))))))
 (sExit .ret))))))))
noncomputable def k11 : Code := codeIn Tryz.f11
theorem h11 : (cCode Tryz.prog m11 k11).map den = some e11 := by kernel_rfl
noncomputable def fn11 : AFunc := { real := true, nslots := 18, params := [(some 0), (some 1), (some 2)], results := [.slot 5, .slot 6], assign := sNone, body := e11 }
noncomputable def a717 : CodeF := (sRegion (rOpS 9 (oAlloc 67 [(.int .u8 0), (.int .u64 0), (.int .u64 0), (.int .u64 0), (.int .u64 0), (.str []), (.int .i64 0), (.int .i64 0), .nils]) (rOp (oStore 9 (.env 0) (.slot 14)) rDone)))
noncomputable def b717 : CodeF := (sBlock 1 (sSeq (sRegion (rOp (oFld 8 (.slot 9)) (rOp (oLoad 1 false (.env 0)) (rOp (oLen .sl (.env 0)) (rOpS 10 (oMov (.env 0)) rDone)))))
 (sSeq (sSeq (sRegion (rOp (oFld 0 (.slot 9)) (rOpS 15 (oLoad 1 false (.env 0)) rDone)))
 (sBlock 2 (sSeq (sRegion (rOp (oBin .eql (.slot 15) (.const (.int .u8 3))) (rOpS 16 (oMov (.env 0)) rDone)))
 (sCond (.slot 16) (sRegion (rOpS 10 (oMov (.const (.int .i64 1))) rDone)) (sSeq (sRegion (rOp (oBin .eql (.slot 15) (.const (.int .u8 6))) (rOpS 17 (oMov (.env 0)) rDone)))
 (sCond (.slot 17) (sRegionD (dOp (oLoad 1 false (.slot 4)) false (dOp (oCall 23 [(.env 0), (.const (.int .i64 2)), (.const (.int .i64 1099511627776))]) true (dOp (oFld 7 (.slot 9)) false (dOp (oLoad 1 false (.env 0)) false (dOp (oMinmax true [(.env 0), (.const (.int .i64 0))]) false (dOp (oCall 23 [(.env 3), (.env 0), (.const (.int .i64 1099511627776))]) true (dOp (oMov (.env 0)) false dDone))))))) [⟨3, .load 1 false (.env 0), none, [2]⟩] [(10, 0)]) sSkip))))))
 (sRegionD (dOp (oLoad 1 false (.slot 8)) false (dOp (oMov (.slot 10)) false (dOp (oCall 23 [(.env 0), (.const (.int .i64 1)), (.const (.int .i64 1099511627776))]) true (dOp (oCall 23 [(.env 2), (.env 0), (.const (.int .i64 1099511627776))]) true (dOp (oStore 1 (.slot 8) (.env 0)) true dDone))))) [⟨4, .load 1 false (.slot 8), none, [2]⟩] []))))
noncomputable def fn717 : AFunc := { real := false, nslots := 0, params := [], results := [], assign := a717, body := b717 }
theorem lp11 : (loopsOf Tryz.prog m11 k11).map (List.map fun x => (x.1, den x.2.1, den x.2.2)) = some [(717, a717, b717)] := by kernel_rfl
/- bonsai/fuel.Enough -/
noncomputable def m12 : Meta := { slots := [(0, false), (1, false), (2, true), (4, false), (5, false), (6, false), (7, false), (8, false), (16, false), (24, false)], globals := gl, lid := 746, n := 32, ext := ext }
noncomputable def e12 : CodeF := (sSeq (sRegion (rOp (oBoxP 2 (.slot 0)) (rOpS 3 (oMov (.const (.int .i64 0))) (rOpS 4 (oMov (.const (.int .i64 0))) rDone))))
 (sSeq (sRegion (rOp (oLoadP 2 1 true (.const (.fp 0))) (rOp (oMov (.slot 1)) (rOp (oCall 28 [(.env 1), (.env 0)]) (rOp (oMov (.env 0)) (rOp (oExt (.env 0) 0) (rOp (oExt (.env 1) 1) (rOpS 5 (oMov (.env 1)) (rOpS 6 (oMov (.env 1)) rDone)))))))))
 (sSeq (sSeq (sRegion (rOp (oMov (.slot 6)) (rOpS 8 (oBin .neq (.env 0) (.const (.int .i64 0))) rDone)))
 (sCond (.slot 8) (sSeq (sRegion (rOp (oMov (.slot 6)) (rOpS 3 (oMov (.const (.int .i64 0))) (rOpS 4 (oMov (.env 1)) rDone))))
 (sExit .ret)) sSkip))
 (sSeq (sRegion (rOp (oMov (.slot 5)) (rOp (oCall 14 [(.env 0), (.const (.int .i64 0)), (.const (.int .i64 0))]) (rOp (oMov (.env 0)) (rOp (oExt (.env 0) 0) (rOp (oExt (.env 1) 1) (rOpS 7 (oMov (.env 1)) (rOpS 6 (oMov (.env 1)) rDone))))))))
 (sSeq (sSeq (sRegion (rOp (oMov (.slot 6)) (rOpS 9 (oBin .neq (.env 0) (.const (.int .i64 0))) rDone)))
 (sCond (.slot 9) (sSeq (sRegion (rOp (oMov (.slot 6)) (rOpS 3 (oMov (.const (.int .i64 0))) (rOpS 4 (oMov (.env 1)) rDone))))
 (sExit .ret)) sSkip))
 (sSeq (sRegion (rOp (oLoadP 2 1 true (.const (.fp 0))) (rOp (oCall 26 [(.env 0)]) (rOp (oMov (.slot 1)) (rOp (oLen .str (.env 0)) (rOp (oMov (.slot 7)) (rOp (oCall 8 [(.env 3), (.env 1), (.env 0)]) (rOpS 3 (oMov (.env 0)) (rOpS 4 (oMov (.const (.int .i64 0))) rDone)))))))))
 (sExit .ret)))))))
noncomputable def k12 : Code := codeIn Tryz.f12
theorem h12 : (cCode Tryz.prog m12 k12).map den = some e12 := by kernel_rfl
noncomputable def fn12 : AFunc := { real := true, nslots := 10, params := [(some 0), (some 1)], results := [.slot 3, .slot 4], assign := sNone, body := e12 }
/- (*bonsai/table.Table).Count -/
noncomputable def m14 : Meta := { slots := [(0, false), (1, false), (2, false), (6, false), (7, false), (8, false), (10, false), (15, false), (33, false), (36, false), (38, false)], globals := gl, lid := 809, n := 40, ext := ext }
noncomputable def e14 : CodeF := (sSeq (sRegion (rOpS 3 (oMov (.const (.int .i64 0))) (rOpS 4 (oMov (.const (.int .i64 0))) rDone)))
 (sSeq (sSeq (sRegion (rOp (oMov (.slot 0)) (rOpS 6 (oEqv false .ptr (.env 0) (.const .nilp)) rDone)))
 (sCond (.slot 6) (sSeq (sRegion (rOpS 3 (oMov (.const (.int .i64 0))) (rOpS 4 (oMov (.const (.int .i64 2))) rDone)))
 (sExit .ret)) sSkip))
 (sSeq (sSeq (sRegion (rOp (oMov (.slot 0)) (rOp (oMov (.slot 1)) (rOp (oMov (.slot 2)) (rOp (oCall 29 [(.env 2), (.env 1), (.env 0)]) (rOpS 7 (oUn .not (.env 0)) rDone))))))
 (sCond (.slot 7) (sSeq (sRegion (rOpS 3 (oMov (.const (.int .i64 0))) (rOpS 4 (oMov (.const (.int .i64 1))) rDone)))
 (sExit .ret)) sSkip))
 (sSeq (sRegionD (dOp (oMov (.slot 0)) false (dOp (oNilc (.env 0)) false (dOp (oFld 4 (.env 0)) false (dOp (oLoad 1 false (.env 0)) false (dOp (oMov (.slot 0)) false (dOp (oNilc (.env 0)) false (dOp (oFld 2 (.env 0)) false (dOp (oLoad 1 false (.env 0)) false (dOp (oMov (.slot 1)) false (dOp (oIdxS 1 (.env 1) (.env 0)) false (dOp (oLoad 1 false (.env 0)) false (dOp (oIdxS 1 (.env 7) (.env 0)) false (dOp (oLoad 1 false (.env 0)) false (dOp (oMov (.slot 2)) false (dOp (oIdxS 4 (.env 1) (.env 0)) false (dOp (oLoad 4 true (.env 0)) false (dOp (oAlloc 76 [(.int .i64 0), (.int .i32 0), (.int .u8 0), (.int .u8 0)]) true (dOp (oStore 4 (.env 0) (.env 1)) true dDone)))))))))))))))))) [⟨14, .load 1 false (.env 0), none, [1]⟩, ⟨10, .load 1 false (.env 0), none, [1]⟩, ⟨7, .load 1 false (.env 0), none, [1]⟩, ⟨5, .load 1 false (.env 0), none, [1]⟩, ⟨2, .load 4 true (.env 0), none, [1]⟩] [(5, 1)])
 (sSeq (sRegion (rOp (oFld 2 (.slot 5)) (rOpS 8 (oLoad 1 false (.env 0)) rDone)))
 (sBlock 0 (sSeq (sRegion (rOp (oBin .eql (.slot 8) (.const (.int .u8 0))) (rOpS 9 (oMov (.env 0)) rDone)))
 (sCond (.slot 9) (sSeq (sRegion (rOpS 3 (oMov (.const (.int .i64 0))) (rOpS 4 (oMov (.const (.int .i64 5))) rDone)))
 (sExit .ret)) (sSeq (sRegion (rOp (oBin .eql (.slot 8) (.const (.int .u8 1))) (rOpS 10 (oMov (.env 0)) rDone)))
 (sCond (.slot 10) (sSeq (sRegion (rOpS 3 (oMov (.const (.int .i64 0))) (rOpS 4 (oMov (.const (.int .i64 0))) rDone)))
 (sExit .ret)) (sSeq (sRegion (rOp (oFld 0 (.slot 5)) (rOp (oLoad 1 false (.env 0)) (rOpS 3 (oMov (.env 0)) (rOpS 4 (oMov (.const (.int .i64 0))) rDone)))))
 (sExit .ret))))))))))))
noncomputable def k14 : Code := codeIn Tryz.f14
theorem h14 : (cCode Tryz.prog m14 k14).map den = some e14 := by kernel_rfl
noncomputable def fn14 : AFunc := { real := true, nslots := 11, params := [(some 0), (some 1), (some 2)], results := [.slot 3, .slot 4], assign := sNone, body := e14 }
/- bonsai/fuel.times[int] -/
noncomputable def m22 : Meta := { slots := [(0, false), (1, false), (2, false), (6, false), (15, false)], globals := gl, lid := 1335, n := 20, ext := ext }
noncomputable def e22 : CodeF := (sSeq (sRegion (rOpS 3 (oMov (.const (.int .i64 0))) rDone))
 (sSeq (sSeq (sRegion (rOp (oMov (.slot 0)) (rOp (oBin .neq (.env 0) (.const (.int .i64 0))) (rOp (oMov (.env 0)) (rOpG 0 true (oMov (.slot 1)) (rOpG 1 true (oMov (.slot 2)) (rOpG 2 true (oMov (.slot 0)) (rOpG 3 true (oBin .quo (.env 1) (.env 0)) (rOpG 4 true (oBin .gtr (.env 3) (.env 0)) (rOpS 4 (oPick (.env 5) (.env 0) (.const (.bool false))) rDone))))))))))
 (sCond (.slot 4) (sSeq (sRegion (rOp (oMov (.slot 2)) (rOpS 3 (oMov (.env 0)) rDone)))
 (sExit .ret)) sSkip))
 (sSeq (sRegion (rOp (oMov (.slot 0)) (rOp (oMov (.slot 1)) (rOp (oBin .mul (.env 1) (.env 0)) (rOpS 3 (oMov (.env 0)) rDone)))))
 (sExit .ret))))
noncomputable def k22 : Code := codeIn Tryz.f22
theorem h22 : (cCode Tryz.prog m22 k22).map den = some e22 := by kernel_rfl
noncomputable def fn22 : AFunc := { real := true, nslots := 5, params := [(some 0), (some 1), (some 2)], results := [.slot 3], assign := sNone, body := e22 }
/- bonsai/fuel.add[int] -/
noncomputable def m23 : Meta := { slots := [(0, false), (1, false), (2, false), (6, false), (16, false)], globals := gl, lid := 1356, n := 21, ext := ext }
noncomputable def e23 : CodeF := (sSeq (sRegion (rOpS 3 (oMov (.const (.int .i64 0))) rDone))
 (sSeq (sSeq (sRegion (rOp (oMov (.slot 0)) (rOp (oMov (.slot 2)) (rOp (oBin .gtr (.env 1) (.env 0)) (rOp (oMov (.env 0)) (rOpG 0 false (oMov (.slot 1)) (rOpG 1 false (oMov (.slot 2)) (rOpG 2 false (oMov (.slot 0)) (rOpG 3 false (oBin .sub (.env 1) (.env 0)) (rOpG 4 false (oBin .gtr (.env 3) (.env 0)) (rOpS 4 (oPick (.env 5) (.const (.bool true)) (.env 0)) rDone)))))))))))
 (sCond (.slot 4) (sSeq (sRegion (rOp (oMov (.slot 2)) (rOpS 3 (oMov (.env 0)) rDone)))
 (sExit .ret)) sSkip))
 (sSeq (sRegion (rOp (oMov (.slot 0)) (rOp (oMov (.slot 1)) (rOp (oBin .add (.env 1) (.env 0)) (rOpS 3 (oMov (.env 0)) rDone)))))
 (sExit .ret))))
noncomputable def k23 : Code := codeIn Tryz.f23
theorem h23 : (cCode Tryz.prog m23 k23).map den = some e23 := by kernel_rfl
noncomputable def fn23 : AFunc := { real := true, nslots := 5, params := [(some 0), (some 1), (some 2)], results := [.slot 3], assign := sNone, body := e23 }
/- bonsai/parse.Grammar -/
noncomputable def m24 : Meta := { slots := [(0, false), (2, true), (3, false), (4, false), (5, false), (13, false), (23, false)], globals := gl, lid := 1378, n := 32, ext := ext }
noncomputable def e24 : CodeF := (sSeq (sRegion (rOp (oAllocP 1 [.nils]) (rOpS 2 (oMov (.const (.int .i64 0))) (rOpS 3 (oMov (.const (.int .i64 0))) rDone))))
 (sSeq (sRegion (rOp (oMov (.slot 0)) (rOp (oCall 41 [(.env 0)]) (rOp (oMov (.env 0)) (rOp (oExt (.env 0) 0) (rOp (oExt (.env 1) 1) (rOp (oExt (.env 2) 2) (rOpS 4 (oMov (.env 2)) (rOpS 2 (oMov (.env 2)) (rOpS 3 (oMov (.env 2)) rDone))))))))))
 (sSeq (sSeq (sRegion (rOp (oMov (.slot 3)) (rOpS 5 (oBin .neq (.env 0) (.const (.int .i64 0))) rDone)))
 (sCond (.slot 5) (sSeq (sRegion (rOp (oBuild [.nils] []) (rOp (oMov (.slot 2)) (rOp (oMov (.slot 3)) (rOp (oStoreP 1 1 (.const (.fp 0)) (.env 2)) (rOpS 2 (oMov (.env 2)) (rOpS 3 (oMov (.env 2)) rDone)))))))
 (sExit .ret)) sSkip))
 (sSeq (sSeq (sRegion (rOp (oMov (.slot 4)) (rOp (oCall 42 [(.env 0)]) (rOp (oMov (.env 0)) (rOp (oExt (.env 0) 0) (rOp (oExt (.env 1) 1) (rOpS 2 (oMov (.env 1)) (rOpS 3 (oMov (.env 1)) rDone))))))))
 (sSeq (sRegion (rOp (oMov (.slot 3)) (rOpS 6 (oBin .neq (.env 0) (.const (.int .i64 0))) rDone)))
 (sCond (.slot 6) (sSeq (sRegion (rOp (oBuild [.nils] []) (rOp (oMov (.slot 2)) (rOp (oMov (.slot 3)) (rOp (oStoreP 1 1 (.const (.fp 0)) (.env 2)) (rOpS 2 (oMov (.env 2)) (rOpS 3 (oMov (.env 2)) rDone)))))))
 (sExit .ret)) sSkip)))
 (sSeq (sRegion (rOp (oMov (.slot 4)) (rOp (oNilc (.env 0)) (rOp (oFld 5 (.env 0)) (rOp (oLoad 1 false (.env 0)) (rOp (oBuild [.nils] [(0, 1, (.env 0))]) (rOp (oStoreP 1 1 (.const (.fp 0)) (.env 0)) (rOpS 2 (oMov (.const (.int .i64 0))) (rOpS 3 (oMov (.const (.int .i64 0))) rDone)))))))))
 (sExit .ret))))))
noncomputable def k24 : Code := codeIn Tryz.f24
theorem h24 : (cCode Tryz.prog m24 k24).map den = some e24 := by kernel_rfl
noncomputable def fn24 : AFunc := { real := true, nslots := 7, params := [(some 0)], results := [.cellP 1 1 true, .slot 2, .slot 3], assign := sNone, body := e24 }
/- bonsai/gram.May -/
noncomputable def m25 : Meta := { slots := [(0, false), (1, false), (2, false), (4, false), (5, false), (6, false), (7, false), (9, false), (11, false), (13, false), (17, false), (19, false), (20, false), (21, false), (22, false), (34, false), (37, false), (43, false), (44, false), (45, false), (46, false), (57, false), (64, false), (65, false), (66, false), (69, false), (78, false)], globals := gl, lid := 1411, n := 79, ext := ext }
noncomputable def e25 : CodeF := (sSeq (sRegion (rOpS 1 (oBox 30 (.slot 0)) (rOpS 2 (oAlloc 32 [(.int .i64 0)]) rDone)))
 (sSeq (sSeq (sRegion (rOp (oFld 0 (.slot 1)) (rOp (oLoad 1 false (.env 0)) (rOp (oLen .sl (.env 0)) (rOpS 10 (oBin .eql (.env 0) (.const (.int .i64 0))) rDone)))))
 (sCond (.slot 10) (sSeq (sRegion (rOp (oStore 1 (.slot 2) (.const (.int .i64 4))) rDone))
 (sExit .ret)) sSkip))
 (sSeq (sSeq (sRegion (rOp (oFld 0 (.slot 1)) (rOpS 11 (oLoad 1 false (.env 0)) (rOpS 12 (oLen .sl (.env 0)) (rOpS 13 (oMov (.const (.int .i64 0))) rDone)))))
 (sBlock 0 (sLoop (sSeq (sRegion (rOpS 14 (oBin .lss (.slot 13) (.slot 12)) rDone))
 (sSeq (sCond (.slot 14) sSkip (sExit (.exit 0)))
 (sSeq (sBlock 1 (sSeq (sRegion (rOp (oIdxS 3 (.slot 11) (.slot 13)) (rOp (oLoad 3 true (.env 0)) (rOpS 3 (oAlloc 100 [(.str []), .nils, (.int .i64 0)]) (rOp (oStore 3 (.env 0) (.env 1)) rDone)))))
 (sSeq (sRegion (rOp (oFld 0 (.slot 3)) (rOp (oLoad 1 false (.env 0)) (rOp (oCall 43 [(.env 0)]) (rOp (oUn .not (.env 0)) (rOp (oMov (.env 0)) (rOpG 0 false (oFld 1 (.slot 3)) (rOpG 1 false (oLoad 2 true (.env 0)) (rOpG 2 false (oCall 44 [(.env 0)]) (rOpG 3 false (oUn .not (.env 0)) (rOpS 15 (oPick (.env 4) (.const (.bool true)) (.env 0)) rDone)))))))))))
 (sCond (.slot 15) (sSeq (sRegion (rOp (oStore 1 (.slot 2) (.const (.int .i64 4))) rDone))
 (sExit .ret)) sSkip))))
 (sRegion (rOp (oBin .add (.slot 13) (.const (.int .i64 1))) (rOpS 13 (oMov (.env 0)) rDone)))))))))
 (sSeq (sSeq (sRegion (rOp (oLoad 1 true (.slot 1)) (rOpS 16 (oCall 45 [(.env 0)]) rDone)))
 (sCond (.slot 16) (sSeq (sRegion (rOp (oStore 1 (.slot 2) (.const (.int .i64 40))) rDone))
 (sExit .ret)) sSkip))
 (sSeq (sRegion (rOp (oFld 0 (.slot 1)) (rOp (oLoad 1 false (.env 0)) (rOp (oLen .sl (.env 0)) (rOp (oMkmapN (.env 0)) (rOpS 4 (oAlloc 103 [.nilm]) (rOp (oStore 1 (.env 0) (.env 1)) rDone)))))))
 (sSeq (sSeq (sRegion (rOp (oFld 0 (.slot 1)) (rOpS 17 (oLoad 1 false (.env 0)) (rOpS 18 (oLen .sl (.env 0)) (rOpS 19 (oMov (.const (.int .i64 0))) rDone)))))
 (sBlock 2 (sLoop (sSeq (sRegion (rOpS 20 (oBin .lss (.slot 19) (.slot 18)) rDone))
 (sSeq (sCond (.slot 20) sSkip (sExit (.exit 2)))
 (sSeq (sBlock 3 (sSeq (sRegion (rOp (oMov (.slot 19)) (rOp (oIdxS 3 (.slot 17) (.slot 19)) (rOp (oLoad 3 true (.env 0)) (rOpS 6 (oAlloc 100 [(.str []), .nils, (.int .i64 0)]) (rOpS 5 (oMov (.env 3)) (rOp (oStore 3 (.env 1) (.env 2)) rDone)))))))
 (sSeq (sSeq (sRegion (rOp (oLoad 1 false (.slot 4)) (rOp (oFld 0 (.slot 6)) (rOp (oLoad 1 false (.env 0)) (rOp (oLookup true (.int .i64 0) true (.env 2) (.env 0)) (rOp (oMov (.env 0)) (rOp (oExt (.env 0) 0) (rOp (oExt (.env 1) 1) (rOp (oMov (.env 1)) (rOpS 7 (oMov (.env 1)) rDone))))))))))
 (sSeq (sRegion (rOpS 21 (oMov (.slot 7)) rDone))
 (sCond (.slot 21) (sSeq (sRegion (rOp (oStore 1 (.slot 2) (.const (.int .i64 6))) rDone))
 (sExit .ret)) sSkip)))
 (sRegion (rOp (oLoad 1 false (.slot 4)) (rOp (oFld 0 (.slot 6)) (rOp (oLoad 1 false (.env 0)) (rOp (oMov (.slot 5)) (rOp (oMapset true (.env 3) (.env 1) (.env 0)) rDone)))))))))
 (sRegion (rOp (oBin .add (.slot 19) (.const (.int .i64 1))) (rOpS 19 (oMov (.env 0)) rDone)))))))))
 (sSeq (sSeq (sRegion (rOp (oLoad 1 true (.slot 1)) (rOpS 22 (oCall 46 [(.env 0)]) rDone)))
 (sBlock 4 (sRangeFunc (.slot 22) [23, 24] 1475)))
 (sSeq (sRegion (rOp (oStore 1 (.slot 2) (.const (.int .i64 0))) rDone))
 (sExit .ret)))))))))
noncomputable def k25 : Code := codeIn Tryz.f25
theorem h25 : (cCode Tryz.prog m25 k25).map den = some e25 := by kernel_rfl
noncomputable def fn25 : AFunc := { real := true, nslots := 27, params := [(some 0)], results := [.cell 2 1 false], assign := sNone, body := e25 }
noncomputable def a1475 : CodeF := (sRegion (rOpS 8 (oAlloc 67 [(.int .u8 0), (.int .u64 0), (.int .u64 0), (.int .u64 0), (.int .u64 0), (.str []), (.int .i64 0), (.int .i64 0), .nils]) (rOp (oStore 9 (.env 0) (.slot 24)) rDone)))
noncomputable def b1475 : CodeF := (sBlock 5 (sSeq (sSeq (sRegion (rOp (oFld 0 (.slot 8)) (rOp (oLoad 1 false (.env 0)) (rOpS 25 (oBin .neq (.env 0) (.const (.int .u8 3))) rDone))))
 (sCond (.slot 25) (sExit (.exit 5)) sSkip))
 (sSeq (sRegion (rOp (oLoad 1 false (.slot 4)) (rOp (oFld 5 (.slot 8)) (rOp (oLoad 1 false (.env 0)) (rOp (oLookup true (.int .i64 0) true (.env 2) (.env 0)) (rOp (oMov (.env 0)) (rOp (oExt (.env 0) 0) (rOp (oExt (.env 1) 1) (rOp (oMov (.env 1)) (rOpS 9 (oMov (.env 1)) rDone))))))))))
 (sSeq (sRegion (rOp (oMov (.slot 9)) (rOpS 26 (oUn .not (.env 0)) rDone)))
 (sCond (.slot 26) (sSeq (sRegion (rOp (oStore 1 (.slot 2) (.const (.int .i64 41))) rDone))
 (sExit .ret)) sSkip)))))
noncomputable def fn1475 : AFunc := { real := false, nslots := 0, params := [], results := [], assign := a1475, body := b1475 }
theorem lp25 : (loopsOf Tryz.prog m25 k25).map (List.map fun x => (x.1, den x.2.1, den x.2.2)) = some [(1475, a1475, b1475)] := by kernel_rfl
/- bonsai/fuel.weight -/
noncomputable def m26 : Meta := { slots := [(0, false), (1, false), (2, false), (3, false), (4, false), (6, false), (7, false), (11, false), (12, false), (19, false)], globals := gl, lid := 1491, n := 30, ext := ext }
noncomputable def e26 : CodeF := (sSeq (sRegion (rOpS 1 (oBox 30 (.slot 0)) (rOpS 2 (oMov (.const (.int .i64 0))) rDone)))
 (sSeq (sRegion (rOpS 3 (oAlloc 3 [(.int .i64 0)]) (rOp (oStore 1 (.env 0) (.const (.int .i64 0))) rDone)))
 (sSeq (sSeq (sRegion (rOp (oLoad 1 true (.slot 1)) (rOpS 5 (oCall 27 [(.env 0)]) rDone)))
 (sBlock 0 (sRangeFunc (.slot 5) [6] 1497)))
 (sSeq (sRegion (rOp (oLoad 1 false (.slot 3)) (rOpS 2 (oMov (.env 0)) rDone)))
 (sExit .ret)))))
noncomputable def k26 : Code := codeIn Tryz.f26
theorem h26 : (cCode Tryz.prog m26 k26).map den = some e26 := by kernel_rfl
noncomputable def fn26 : AFunc := { real := true, nslots := 10, params := [(some 0)], results := [.slot 2], assign := sNone, body := e26 }
noncomputable def a1497 : CodeF := (sRegion (rOpS 4 (oAlloc 67 [(.int .u8 0), (.int .u64 0), (.int .u64 0), (.int .u64 0), (.int .u64 0), (.str []), (.int .i64 0), (.int .i64 0), .nils]) (rOp (oStore 9 (.env 0) (.slot 6)) rDone)))
noncomputable def b1497 : CodeF := (sBlock 1 (sSeq (sRegion (rOp (oLoad 1 false (.slot 3)) (rOp (oCall 23 [(.env 0), (.const (.int .i64 1)), (.const (.int .i64 1099511627776))]) (rOp (oStore 1 (.slot 3) (.env 0)) rDone))))
 (sSeq (sRegion (rOp (oFld 0 (.slot 4)) (rOpS 7 (oLoad 1 false (.env 0)) rDone)))
 (sBlock 2 (sSeq (sRegion (rOp (oBin .eql (.slot 7) (.const (.int .u8 2))) (rOpS 8 (oMov (.env 0)) rDone)))
 (sCond (.slot 8) (sRegion (rOp (oLoad 1 false (.slot 3)) (rOp (oFld 5 (.slot 4)) (rOp (oLoad 1 false (.env 0)) (rOp (oLen .str (.env 0)) (rOp (oCall 23 [(.env 3), (.env 0), (.const (.int .i64 1099511627776))]) (rOp (oStore 1 (.slot 3) (.env 0)) rDone))))))) (sSeq (sRegion (rOp (oBin .eql (.slot 7) (.const (.int .u8 6))) (rOpS 9 (oMov (.env 0)) rDone)))
 (sCond (.slot 9) (sRegion (rOp (oLoad 1 false (.slot 3)) (rOp (oFld 6 (.slot 4)) (rOp (oLoad 1 false (.env 0)) (rOp (oFld 7 (.slot 4)) (rOp (oLoad 1 false (.env 0)) (rOp (oMinmax true [(.env 0), (.const (.int .i64 0))]) (rOp (oBin .add (.env 3) (.env 0)) (rOp (oCall 23 [(.env 6), (.env 0), (.const (.int .i64 1099511627776))]) (rOp (oStore 1 (.slot 3) (.env 0)) rDone)))))))))) sSkip))))))))
noncomputable def fn1497 : AFunc := { real := false, nslots := 0, params := [], results := [], assign := a1497, body := b1497 }
theorem lp26 : (loopsOf Tryz.prog m26 k26).map (List.map fun x => (x.1, den x.2.1, den x.2.2)) = some [(1497, a1497, b1497)] := by kernel_rfl
/- bonsai/fuel.nodes -/
noncomputable def m27 : Meta := { slots := [(0, false), (1, false), (2, false)], globals := gl, lid := 1522, n := 4, ext := ext }
noncomputable def e27 : CodeF := (sSeq (sRegion (rOpS 1 (oBox 30 (.slot 0)) (rOpS 2 (oMov (.const .nilf)) rDone)))
 (sSeq (sRegion (rOp (oMkfn 47 [] [(.slot 1)]) (rOpS 2 (oMov (.env 0)) rDone)))
 (sExit .ret)))
noncomputable def k27 : Code := codeIn Tryz.f27
theorem h27 : (cCode Tryz.prog m27 k27).map den = some e27 := by kernel_rfl
noncomputable def fn27 : AFunc := { real := true, nslots := 3, params := [(some 0)], results := [.slot 2], assign := sNone, body := e27 }
/- bonsai/table.New -/
noncomputable def m28 : Meta := { slots := [(0, false), (1, false), (2, true), (4, false), (5, false), (6, false), (7, false), (8, false), (10, false), (12, true), (16, false), (20, false), (27, false), (28, false), (29, false), (30, false), (55, false), (56, false), (57, false), (58, false), (65, false)], globals := gl, lid := 1527, n := 85, ext := ext }
noncomputable def e28 : CodeF := (sSeq (sRegion (rOp (oBoxP 2 (.slot 0)) (rOpS 3 (oMov (.const .nilp)) (rOpS 4 (oMov (.const (.int .i64 0))) rDone))))
 (sSeq (sSeq (sRegion (rOp (oLoadP 2 1 true (.const (.fp 0))) (rOp (oCall 25 [(.env 0)]) (rOpS 5 (oMov (.env 0)) rDone))))
 (sSeq (sRegion (rOp (oMov (.slot 5)) (rOpS 10 (oBin .neq (.env 0) (.const (.int .i64 0))) rDone)))
 (sCond (.slot 10) (sSeq (sRegion (rOp (oMov (.slot 5)) (rOpS 3 (oMov (.const .nilp)) (rOpS 4 (oMov (.env 1)) rDone))))
 (sExit .ret)) sSkip)))
 (sSeq (sSeq (sRegion (rOp (oMov (.slot 1)) (rOp (oLen .str (.env 0)) (rOpS 11 (oBin .gtr (.env 0) (.const (.int .i64 4096))) rDone))))
 (sCond (.slot 11) (sSeq (sRegion (rOpS 3 (oMov (.const .nilp)) (rOpS 4 (oMov (.const (.int .i64 40))) rDone)))
 (sExit .ret)) sSkip))
 (sSeq (sRegion (rOp (oMov (.slot 1)) (rOp (oLoadP 2 1 true (.const (.fp 0))) (rOp (oCall 48 [(.env 0)]) (rOp (oBuild [(.str []), .nils, .nils, .nils, .nils] [(0, 1, (.env 2)), (1, 1, (.env 0))]) (rOp (oBox 74 (.env 0)) (rOpS 6 (oMov (.env 0)) rDone)))))))
 (sSeq (sRegion (rOpS 7 (oMov (.const (.int .i64 0))) rDone))
 (sSeq (sSeq (sRegion (rOp (oFldP 2 0 (.const (.fp 0))) (rOpS 12 (oLoadP 2 1 false (.env 0)) (rOpS 13 (oLen .sl (.env 0)) (rOpS 14 (oMov (.const (.int .i64 0))) rDone)))))
 (sBlock 0 (sLoop (sSeq (sRegion (rOpS 15 (oBin .lss (.slot 14) (.slot 13)) rDone))
 (sSeq (sCond (.slot 15) sSkip (sExit (.exit 0)))
 (sSeq (sBlock 1 (sSeq (sRegion (rOp (oIdxS 3 (.slot 12) (.slot 14)) (rOp (oLoad 3 true (.env 0)) (rOpS 8 (oAlloc 100 [(.str []), .nils, (.int .i64 0)]) (rOp (oStore 3 (.env 0) (.env 1)) rDone)))))
 (sSeq (sRegionD (dOp (oMov (.slot 6)) false (dOp (oMov (.slot 6)) false (dOp (oNilc (.env 0)) false (dOp (oFld 2 (.env 0)) false (dOp (oLoad 1 false (.env 0)) false (dOp (oMov (.slot 7)) false (dOp (oFld 1 (.slot 8)) false (dOp (oFld 1 (.env 0)) false (dOp (oLoad 1 false (.env 0)) false (dOp (oBin .add (.env 3) (.env 0)) false (dOp (oBslice 3 1 1 [(.int .i64 0)] [(0, 1, (.env 0))]) true (dOp (oAppend 3 1 8 (.env 6) (.env 0)) true (dOp (oNilc (.env 11)) false (dOp (oFld 2 (.env 0)) false (dOp (oStore 1 (.env 0) (.env 2)) true dDone))))))))))))))) [⟨10, .load 1 false (.env 0), none, [2]⟩] [])
 (sRegion (rOp (oMov (.slot 7)) (rOp (oFld 1 (.slot 8)) (rOp (oFld 0 (.env 0)) (rOp (oLoad 1 false (.env 0)) (rOp (oLen .sl (.env 0)) (rOp (oBin .add (.env 4) (.env 0)) (rOpS 7 (oMov (.env 0)) rDone)))))))))))
 (sRegion (rOp (oBin .add (.slot 14) (.const (.int .i64 1))) (rOpS 14 (oMov (.env 0)) rDone)))))))))
 (sSeq (sSeq (sRegion (rOp (oFldP 2 0 (.const (.fp 0))) (rOpS 16 (oLoadP 2 1 false (.env 0)) (rOpS 17 (oLen .sl (.env 0)) (rOpS 18 (oMov (.const (.int .i64 0))) rDone)))))
 (sBlock 2 (sLoop (sSeq (sRegion (rOpS 19 (oBin .lss (.slot 18) (.slot 17)) rDone))
 (sSeq (sCond (.slot 19) sSkip (sExit (.exit 2)))
 (sSeq (sBlock 3 (sSeq (sRegion (rOp (oIdxS 3 (.slot 16) (.slot 18)) (rOp (oLoad 3 true (.env 0)) (rOp (oAllocP 9 [(.str []), .nils, (.int .i64 0)]) (rOp (oStoreP 9 3 (.env 0) (.env 1)) rDone)))))
 (sSeq (sRegion (rOp (oMov (.slot 6)) (rOp (oFldP 9 1 (.const (.fp 0))) (rOp (oLoadP 9 2 true (.env 0)) (rOp (oCall 32 [(.env 2), (.env 0)]) (rOpS 20 (oUn .not (.env 0)) rDone))))))
 (sCond (.slot 20) (sSeq (sRegion (rOpS 3 (oMov (.const .nilp)) (rOpS 4 (oMov (.const (.int .i64 41))) rDone)))
 (sExit .ret)) sSkip))))
 (sRegion (rOp (oBin .add (.slot 18) (.const (.int .i64 1))) (rOpS 18 (oMov (.env 0)) rDone)))))))))
 (sSeq (sRegion (rOp (oMov (.slot 6)) (rOp (oMov (.slot 6)) (rOp (oNilc (.env 0)) (rOp (oFld 3 (.env 0)) (rOp (oLoad 1 false (.env 0)) (rOp (oLen .sl (.env 0)) (rOp (oMov (.slot 1)) (rOp (oLen .str (.env 0)) (rOp (oBin .add (.env 0) (.const (.int .i64 1))) (rOp (oCall 33 [(.env 3), (.env 0)]) (rOp (oNilc (.env 9)) (rOp (oFld 4 (.env 0)) (rOp (oStore 1 (.env 0) (.env 2)) rDone))))))))))))))
 (sSeq (sRegion (rOp (oMov (.slot 6)) (rOp (oMov (.slot 6)) (rOp (oLoadP 2 1 true (.const (.fp 0))) (rOp (oCall 49 [(.env 1), (.env 0)]) (rOp (oCall 34 [(.env 3), (.env 0), (.const (.int .i64 0))]) rDone))))))
 (sSeq (sRegion (rOp (oMov (.slot 6)) (rOpS 3 (oMov (.env 0)) (rOpS 4 (oMov (.const (.int .i64 0))) rDone))))
 (sExit .ret)))))))))))
noncomputable def k28 : Code := codeIn Tryz.f28
theorem h28 : (cCode Tryz.prog m28 k28).map den = some e28 := by kernel_rfl
noncomputable def fn28 : AFunc := { real := true, nslots := 21, params := [(some 0), (some 1)], results := [.slot 3, .slot 4], assign := sNone, body := e28 }
/- (*bonsai/table.Table).there -/
noncomputable def m29 : Meta := { slots := [(0, false), (1, false), (2, false), (6, false)], globals := gl, lid := 1613, n := 31, ext := ext }
noncomputable def e29 : CodeF := (sSeq (sRegion (rOpS 3 (oMov (.const (.bool false))) rDone))
 (sSeq (sRegion (rOp (oMov (.slot 1)) (rOp (oBin .geq (.env 0) (.const (.int .i64 0))) (rOp (oMov (.env 0)) (rOpG 0 true (oMov (.slot 1)) (rOpG 1 true (oMov (.slot 0)) (rOpG 2 true (oNilc (.env 0)) (rOpG 3 true (oFld 2 (.env 0)) (rOpG 4 true (oLoad 1 false (.env 0)) (rOpG 5 true (oLen .sl (.env 0)) (rOpG 6 true (oBin .lss (.env 5) (.env 0)) (rOp (oPick (.env 7) (.env 0) (.const (.bool false))) (rOp (oMov (.env 0)) (rOpG 0 true (oMov (.slot 2)) (rOpG 1 true (oBin .geq (.env 0) (.const (.int .i64 0))) (rOp (oPick (.env 2) (.env 0) (.const (.bool false))) (rOp (oMov (.env 0)) (rOpG 0 true (oMov (.slot 2)) (rOpG 1 true (oMov (.slot 0)) (rOpG 2 true (oNilc (.env 0)) (rOpG 3 true (oFld 0 (.env 0)) (rOpG 4 true (oLoad 1 false (.env 0)) (rOpG 5 true (oLen .str (.env 0)) (rOpG 6 true (oBin .leq (.env 5) (.env 0)) (rOp (oPick (.env 7) (.env 0) (.const (.bool false))) (rOpS 3 (oMov (.env 0)) rDone))))))))))))))))))))))))))
 (sExit .ret)))
noncomputable def k29 : Code := codeIn Tryz.f29
theorem h29 : (cCode Tryz.prog m29 k29).map den = some e29 := by kernel_rfl
noncomputable def fn29 : AFunc := { real := true, nslots := 4, params := [(some 0), (some 1), (some 2)], results := [.slot 3], assign := sNone, body := e29 }
/- bonsai/tree.May -/
noncomputable def m31 : Meta := { slots := [(0, false), (1, true), (2, false)], globals := gl, lid := 1691, n := 16, ext := ext }
noncomputable def e31 : CodeF := (sSeq (sRegion (rOp (oBoxP 1 (.slot 0)) (rOpS 2 (oMov (.const (.bool false))) rDone)))
 (sSeq (sRegion (rOp (oFldP 1 0 (.const (.fp 0))) (rOp (oLoadP 1 1 false (.env 0)) (rOp (oLen .sl (.env 0)) (rOp (oBin .leq (.env 0) (.const (.int .i64 1024))) (rOp (oMov (.env 0)) (rOpG 0 true (oLoadP 1 2 true (.const (.fp 0))) (rOpG 1 true (oCall 53 [(.env 0)]) (rOp (oPick (.env 2) (.env 0) (.const (.bool false))) (rOp (oMov (.env 0)) (rOpG 0 true (oLoadP 1 2 true (.const (.fp 0))) (rOpG 1 true (oCall 54 [(.env 0)]) (rOpG 2 true (oBin .leq (.env 0) (.const (.int .i64 32))) (rOp (oPick (.env 3) (.env 0) (.const (.bool false))) (rOpS 2 (oMov (.env 0)) rDone)))))))))))))))
 (sExit .ret)))
noncomputable def k31 : Code := codeIn Tryz.f31
theorem h31 : (cCode Tryz.prog m31 k31).map den = some e31 := by kernel_rfl
noncomputable def fn31 : AFunc := { real := true, nslots := 3, params := [(some 0)], results := [.slot 2], assign := sNone, body := e31 }
/- (*bonsai/table.Table).place -/
noncomputable def m32 : Meta := { slots := [(0, false), (1, false), (3, true), (4, false), (5, false), (7, false), (8, false), (9, false), (10, false), (11, false), (18, false), (19, false), (20, false), (21, false), (29, false), (30, false), (31, false), (32, false), (45, false), (54, false)], globals := gl, lid := 1708, n := 76, ext := ext }
noncomputable def e32 : CodeF := (sSeq (sRegion (rOp (oBoxP 2 (.slot 1)) (rOpS 3 (oMov (.const (.bool false))) rDone)))
 (sSeq (sRegion (rOp (oMov (.slot 0)) (rOp (oNilc (.env 0)) (rOp (oFld 3 (.env 0)) (rOp (oLoad 1 false (.env 0)) (rOp (oLen .sl (.env 0)) (rOpS 4 (oMov (.env 0)) rDone)))))))
 (sSeq (sSeq (sRegion (rOp (oFldP 2 0 (.const (.fp 0))) (rOpS 10 (oLoadP 2 1 false (.env 0)) (rOpS 11 (oLen .sl (.env 0)) (rOpS 12 (oMov (.const (.int .i64 0))) rDone)))))
 (sBlock 0 (sLoop (sSeq (sRegion (rOpS 13 (oBin .lss (.slot 12) (.slot 11)) rDone))
 (sSeq (sCond (.slot 13) sSkip (sExit (.exit 0)))
 (sSeq (sBlock 1 (sSeq (sRegion (rOp (oIdxS 9 (.slot 10) (.slot 12)) (rOp (oLoad 9 true (.env 0)) (rOpS 5 (oAlloc 67 [(.int .u8 0), (.int .u64 0), (.int .u64 0), (.int .u64 0), (.int .u64 0), (.str []), (.int .i64 0), (.int .i64 0), .nils]) (rOp (oStore 9 (.env 0) (.env 1)) rDone)))))
 (sSeq (sRegion (rOp (oFld 8 (.slot 5)) (rOp (oLoad 1 false (.env 0)) (rOp (oLen .sl (.env 0)) (rOp (oMkslice 3 1 8 [(.int .i64 0)] (.env 0) (.env 0)) (rOpS 6 (oMov (.env 0)) rDone))))))
 (sSeq (sSeq (sRegion (rOp (oFld 8 (.slot 5)) (rOpS 14 (oLoad 1 false (.env 0)) (rOpS 15 (oLen .sl (.env 0)) (rOpS 16 (oMov (.const (.int .i64 0))) rDone)))))
 (sBlock 2 (sLoop (sSeq (sRegion (rOpS 17 (oBin .lss (.slot 16) (.slot 15)) rDone))
 (sSeq (sCond (.slot 17) sSkip (sExit (.exit 2)))
 (sSeq (sBlock 3 (sSeq (sRegion (rOp (oMov (.slot 16)) (rOp (oIdxS 1 (.slot 14) (.slot 16)) (rOp (oLoad 1 false (.env 0)) (rOpS 7 (oMov (.env 2)) (rOpS 8 (oMov (.env 1)) rDone))))))
 (sRegion (rOp (oMov (.slot 6)) (rOp (oMov (.slot 7)) (rOp (oMov (.slot 4)) (rOp (oMov (.slot 8)) (rOp (oBin .add (.env 1) (.env 0)) (rOp (oIdxS 1 (.env 4) (.env 3)) (rOp (oStore 1 (.env 0) (.env 1)) rDone))))))))))
 (sRegion (rOp (oBin .add (.slot 16) (.const (.int .i64 1))) (rOpS 16 (oMov (.env 0)) rDone)))))))))
 (sSeq (sSeq (sRegion (rOp (oFld 0 (.slot 5)) (rOp (oLoad 1 false (.env 0)) (rOpS 18 (oBin .eql (.env 0) (.const (.int .u8 3))) rDone))))
 (sCond (.slot 18) (sSeq (sRegionD (dOp (oMov (.slot 0)) false (dOp (oNilc (.env 0)) false (dOp (oFld 1 (.env 0)) false (dOp (oLoad 1 false (.env 0)) false (dOp (oFld 5 (.slot 5)) false (dOp (oLoad 1 false (.env 0)) false (dOp (oCall 55 [(.env 2), (.env 0)]) true (dOp (oMov (.env 0)) false dDone)))))))) [] [(9, 0)])
 (sSeq (sSeq (sRegion (rOp (oMov (.slot 9)) (rOpS 19 (oBin .lss (.env 0) (.const (.int .i64 0))) rDone)))
 (sCond (.slot 19) (sSeq (sRegion (rOpS 3 (oMov (.const (.bool false))) rDone))
 (sExit .ret)) sSkip))
 (sRegion (rOp (oMov (.slot 0)) (rOp (oNilc (.env 0)) (rOp (oFld 2 (.env 0)) (rOp (oLoad 1 false (.env 0)) (rOp (oMov (.slot 9)) (rOp (oIdxS 1 (.env 1) (.env 0)) (rOp (oLoad 1 false (.env 0)) (rOp (oBslice 3 1 1 [(.int .i64 0)] [(0, 1, (.env 0))]) (rOpS 6 (oMov (.env 0)) rDone)))))))))))) sSkip))
 (sSeq (sRegion (rOp (oMov (.slot 6)) (rOp (oFld 8 (.slot 5)) (rOp (oStore 1 (.env 0) (.env 1)) rDone))))
 (sRegionD (dOp (oMov (.slot 0)) false (dOp (oMov (.slot 0)) false (dOp (oNilc (.env 0)) false (dOp (oFld 3 (.env 0)) false (dOp (oLoad 1 false (.env 0)) false (dOp (oLoad 9 true (.slot 5)) false (dOp (oBslice 67 9 1 [(.int .u8 0), (.int .u64 0), (.int .u64 0), (.int .u64 0), (.int .u64 0), (.str []), (.int .i64 0), (.int .i64 0), .nils] [(0, 9, (.env 0))]) true (dOp (oAppend 67 9 96 (.env 2) (.env 0)) true (dOp (oNilc (.env 7)) false (dOp (oFld 3 (.env 0)) false (dOp (oStore 1 (.env 0) (.env 2)) true dDone))))))))))) [⟨6, .load 1 false (.env 0), none, [2]⟩] [])))))))
 (sRegion (rOp (oBin .add (.slot 12) (.const (.int .i64 1))) (rOpS 12 (oMov (.env 0)) rDone)))))))))
 (sSeq (sRegion (rOpS 3 (oMov (.const (.bool true))) rDone))
 (sExit .ret)))))
noncomputable def k32 : Code := codeIn Tryz.f32
theorem h32 : (cCode Tryz.prog m32 k32).map den = some e32 := by kernel_rfl
noncomputable def fn32 : AFunc := { real := true, nslots := 20, params := [(some 0), (some 1)], results := [.slot 3], assign := sNone, body := e32 }
/- bonsai/table.grid -/
noncomputable def m33 : Meta := { slots := [(0, false), (1, false), (4, false), (5, false), (6, false), (7, false), (15, false), (16, false), (17, false)], globals := gl, lid := 1785, n := 37, ext := ext }
noncomputable def e33 : CodeF := (sSeq (sRegion (rOpS 2 (oMov (.const .nils)) rDone))
 (sSeq (sRegion (rOp (oMov (.slot 0)) (rOp (oMov (.slot 1)) (rOp (oBin .mul (.env 1) (.env 0)) (rOp (oMkslice 76 4 16 [(.int .i64 0), (.int .i32 0), (.int .u8 0), (.int .u8 0)] (.env 0) (.env 0)) (rOpS 3 (oMov (.env 0)) rDone))))))
 (sSeq (sRegion (rOp (oMov (.slot 0)) (rOp (oMkslice 77 1 24 [.nils] (.env 0) (.env 0)) (rOpS 4 (oMov (.env 0)) rDone))))
 (sSeq (sSeq (sRegion (rOp (oMov (.slot 4)) (rOpS 6 (oLen .sl (.env 0)) (rOpS 7 (oMov (.const (.int .i64 0))) rDone))))
 (sBlock 0 (sLoop (sSeq (sRegion (rOpS 8 (oBin .lss (.slot 7) (.slot 6)) rDone))
 (sSeq (sCond (.slot 8) sSkip (sExit (.exit 0)))
 (sSeq (sBlock 1 (sSeq (sRegion (rOp (oMov (.slot 7)) (rOpS 5 (oMov (.env 0)) rDone)))
 (sRegion (rOp (oMov (.slot 4)) (rOp (oMov (.slot 5)) (rOp (oMov (.slot 3)) (rOp (oMov (.slot 5)) (rOp (oMov (.slot 1)) (rOp (oBin .mul (.env 1) (.env 0)) (rOp (oMov (.slot 5)) (rOp (oBin .add (.env 0) (.const (.int .i64 1))) (rOp (oMov (.slot 1)) (rOp (oBin .mul (.env 1) (.env 0)) (rOp (oMov (.slot 5)) (rOp (oBin .add (.env 0) (.const (.int .i64 1))) (rOp (oMov (.slot 1)) (rOp (oBin .mul (.env 1) (.env 0)) (rOp (oSlice false 4 (.env 11) (some (.env 8)) (some (.env 4)) (some (.env 0))) (rOp (oIdxS 1 (.env 14) (.env 13)) (rOp (oStore 1 (.env 0) (.env 1)) rDone))))))))))))))))))))
 (sRegion (rOp (oBin .add (.slot 7) (.const (.int .i64 1))) (rOpS 7 (oMov (.env 0)) rDone)))))))))
 (sSeq (sRegion (rOp (oMov (.slot 4)) (rOpS 2 (oMov (.env 0)) rDone)))
 (sExit .ret))))))
noncomputable def k33 : Code := codeIn Tryz.f33
theorem h33 : (cCode Tryz.prog m33 k33).map den = some e33 := by kernel_rfl
noncomputable def fn33 : AFunc := { real := true, nslots := 9, params := [(some 0), (some 1)], results := [.slot 2], assign := sNone, body := e33 }
/- (*bonsai/table.Table).fill -/
noncomputable def m34 : Meta := { slots := [(0, false), (1, false), (2, false), (6, false), (7, false), (8, false), (20, false)], globals := gl, lid := 1823, n := 31, ext := ext }
noncomputable def e34 : CodeF := (sSeq (sRegion (rOp (oCall 56 []) (rOpS 3 (oAlloc 118 [.nilf, .nilf, .nilf, .nilf, .nilf, .nilf, .nilf, .nilf, .nilf, .nilf]) (rOp (oStore 10 (.env 0) (.env 1)) rDone))))
 (sSeq (sRegion (rOp (oMov (.slot 1)) (rOp (oLen .sl (.env 0)) (rOp (oMkslice 3 1 8 [(.int .i64 0)] (.const (.int .i64 0)) (.env 0)) (rOpS 4 (oMov (.env 0)) rDone)))))
 (sSeq (sRegion (rOp (oMov (.slot 0)) (rOp (oNilc (.env 0)) (rOp (oFld 0 (.env 0)) (rOp (oLoad 1 false (.env 0)) (rOp (oLen .str (.env 0)) (rOpS 5 (oMov (.env 0)) rDone)))))))
 (sBlock 0 (sLoop (sSeq (sSeq (sRegion (rOp (oMov (.slot 5)) (rOp (oMov (.slot 2)) (rOpS 6 (oBin .geq (.env 1) (.env 0)) rDone))))
 (sCond (.slot 6) sSkip (sExit (.exit 0))))
 (sSeq (sBlock 1 (sRegionD (dOp (oMov (.slot 0)) false (dOp (oLoad 10 true (.slot 3)) false (dOp (oMov (.slot 1)) false (dOp (oMov (.slot 4)) false (dOp (oSlice false 1 (.env 0) none (some (.const (.int .i64 0))) none) false (dOp (oMov (.slot 5)) false (dOp (oCall 57 [(.env 5), (.env 4), (.env 3), (.env 1), (.env 0)]) true (dOp (oMov (.slot 1)) false (dOp (oMov (.env 1)) false (dOp (oMov (.env 1)) false dDone)))))))))) [] [(1, 1), (4, 0)]))
 (sRegion (rOp (oMov (.slot 5)) (rOp (oBin .sub (.env 0) (.const (.int .i64 1))) (rOpS 5 (oMov (.env 0)) rDone)))))))))))
noncomputable def k34 : Code := codeIn Tryz.f34
theorem h34 : (cCode Tryz.prog m34 k34).map den = some e34 := by kernel_rfl
noncomputable def fn34 : AFunc := { real := true, nslots := 7, params := [(some 0), (some 1), (some 2)], results := [], assign := sNone, body := e34 }
end Go.Proofs.YtaomafmpedgofaaGreatDoor
