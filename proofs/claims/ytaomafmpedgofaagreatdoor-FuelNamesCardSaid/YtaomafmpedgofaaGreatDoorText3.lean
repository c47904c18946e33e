import Derived.Test.YtaomafmpedgofaaGreatDoorText0
import Derived.KernelRfl
namespace Go.Proofs.YtaomafmpedgofaaGreatDoor
open Go Go.Vm
set_option maxRecDepth 100000
/- slices.Backward[[]bonsai/api.Def,bonsai/api.Def] -/
noncomputable def m70 : Meta := { slots := [(0, false), (1, false), (2, false)], globals := gl, lid := 3193, n := 4, ext := ext }
noncomputable def e70 : CodeF := (sSeq (sRegion (rOpS 1 (oBox 28 (.slot 0)) (rOpS 2 (oMov (.const .nilf)) rDone)))
 (sSeq (sRegion (rOp (oMkfn 102 [] [(.slot 1)]) (rOpS 2 (oMov (.env 0)) rDone)))
 (sExit .ret)))
noncomputable def k70 : Code := codeIn Tryz.f70
theorem h70 : (cCode Tryz.prog m70 k70).map den = some e70 := by kernel_rfl
noncomputable def fn70 : AFunc := { real := true, nslots := 3, params := [(some 0)], results := [.slot 2], assign := sNone, body := e70 }
/- bonsai/tree.Fits -/
noncomputable def m73 : Meta := { slots := [(0, false), (1, false), (2, false), (4, false), (5, false), (6, false), (10, false), (32, false), (34, false), (35, false), (39, false), (49, false), (51, false), (57, false), (59, false), (85, false)], globals := gl, lid := 3297, n := 107, ext := ext }
noncomputable def e73 : CodeF := (sSeq (sRegion (rOpS 2 (oBox 67 (.slot 0)) (rOpS 3 (oMov (.const (.bool false))) rDone)))
 (sSeq (sSeq (sRegion (rOp (oFld 0 (.slot 2)) (rOp (oLoad 1 false (.env 0)) (rOp (oConvInt .i64 (.env 0)) (rOpS 6 (oBin .geq (.env 0) (.const (.int .i64 10))) rDone)))))
 (sCond (.slot 6) (sSeq (sRegion (rOpS 3 (oMov (.const (.bool false))) rDone))
 (sExit .ret)) sSkip))
 (sSeq (sRegionD (dOp (oFld 0 (.slot 2)) false (dOp (oLoad 1 false (.env 0)) false (dOp (oIdxP 10 2 (.const (.plit false gl0 0)) (.env 0)) false (dOp (oIdxP 2 1 (.env 0) (.const (.int .i64 0))) false (dOp (oLoad 1 false (.env 0)) false (dOp (oFld 0 (.slot 2)) false (dOp (oLoad 1 false (.env 0)) false (dOp (oIdxP 10 2 (.const (.plit false gl0 0)) (.env 0)) false (dOp (oIdxP 2 1 (.env 0) (.const (.int .i64 1))) false (dOp (oLoad 1 false (.env 0)) false (dOp (oMov (.env 5)) false (dOp (oMov (.env 1)) false dDone)))))))))))) [] [(4, 1), (5, 0)])
 (sSeq (sSeq (sRegion (rOp (oMov (.slot 1)) (rOp (oMov (.slot 4)) (rOp (oBin .lss (.env 1) (.env 0)) (rOp (oMov (.env 0)) (rOpG 0 false (oMov (.slot 5)) (rOpG 1 false (oBin .geq (.env 0) (.const (.int .i64 0))) (rOpG 2 false (oMov (.env 0)) (rOpG 0 true (oMov (.slot 1)) (rOpG 1 true (oMov (.slot 5)) (rOpG 2 true (oBin .gtr (.env 1) (.env 0)) (rOpG 6 false (oPick (.env 3) (.env 0) (.const (.bool false))) (rOpS 7 (oPick (.env 7) (.const (.bool true)) (.env 0)) rDone)))))))))))))
 (sCond (.slot 7) (sSeq (sRegion (rOpS 3 (oMov (.const (.bool false))) rDone))
 (sExit .ret)) sSkip))
 (sSeq (sSeq (sRegion (rOp (oFld 0 (.slot 2)) (rOpS 8 (oLoad 1 false (.env 0)) rDone)))
 (sBlock 0 (sSeq (sRegion (rOp (oBin .eql (.slot 8) (.const (.int .u8 1))) (rOpS 9 (oMov (.env 0)) rDone)))
 (sCond (.slot 9) (sRegion (rOp (oBuild [(.int .u64 0), (.int .u64 0), (.int .u64 0), (.int .u64 0)] []) (rOp (oFld 1 (.slot 2)) (rOp (oStore 4 (.env 0) (.env 1)) rDone)))) (sSeq (sRegion (rOp (oBin .eql (.slot 8) (.const (.int .u8 2))) (rOpS 10 (oMov (.env 0)) rDone)))
 (sCond (.slot 10) (sSeq (sSeq (sRegion (rOp (oFld 5 (.slot 2)) (rOp (oLoad 1 false (.env 0)) (rOp (oBin .eql (.env 0) (.const (.str []))) (rOp (oMov (.env 0)) (rOpG 0 false (oFld 5 (.slot 2)) (rOpG 1 false (oLoad 1 false (.env 0)) (rOpG 2 false (oLen .str (.env 0)) (rOpG 3 false (oBin .gtr (.env 0) (.const (.int .i64 255))) (rOpS 11 (oPick (.env 4) (.const (.bool true)) (.env 0)) rDone))))))))))
 (sCond (.slot 11) (sSeq (sRegion (rOpS 3 (oMov (.const (.bool false))) rDone))
 (sExit .ret)) sSkip))
 (sRegion (rOp (oFld 5 (.slot 2)) (rOp (oStore 1 (.env 0) (.const (.str []))) rDone)))) (sSeq (sSeq (sRegion (rOp (oBin .eql (.slot 8) (.const (.int .u8 3))) (rOpS 12 (oMov (.env 0)) rDone)))
 (sCond (.slot 12) sSkip (sRegion (rOp (oBin .eql (.slot 8) (.const (.int .u8 9))) (rOpS 12 (oMov (.env 0)) rDone)))))
 (sCond (.slot 12) (sSeq (sSeq (sRegion (rOp (oFld 5 (.slot 2)) (rOp (oLoad 1 false (.env 0)) (rOp (oCall 43 [(.env 0)]) (rOpS 13 (oUn .not (.env 0)) rDone)))))
 (sCond (.slot 13) (sSeq (sRegion (rOpS 3 (oMov (.const (.bool false))) rDone))
 (sExit .ret)) sSkip))
 (sRegion (rOp (oFld 5 (.slot 2)) (rOp (oStore 1 (.env 0) (.const (.str []))) rDone)))) (sSeq (sRegion (rOp (oBin .eql (.slot 8) (.const (.int .u8 6))) (rOpS 14 (oMov (.env 0)) rDone)))
 (sCond (.slot 14) (sSeq (sSeq (sRegion (rOp (oFld 6 (.slot 2)) (rOp (oLoad 1 false (.env 0)) (rOp (oBin .lss (.env 0) (.const (.int .i64 0))) (rOp (oMov (.env 0)) (rOpG 0 false (oFld 6 (.slot 2)) (rOpG 1 false (oLoad 1 false (.env 0)) (rOpG 2 false (oBin .gtr (.env 0) (.const (.int .i64 99))) (rOp (oPick (.env 3) (.const (.bool true)) (.env 0)) (rOp (oMov (.env 0)) (rOpG 0 false (oFld 7 (.slot 2)) (rOpG 1 false (oLoad 1 false (.env 0)) (rOpG 2 false (oBin .neq (.env 0) (.const (.int .i64 (-1)))) (rOpG 3 false (oMov (.env 0)) (rOpG 0 true (oFld 7 (.slot 2)) (rOpG 1 true (oLoad 1 false (.env 0)) (rOpG 2 true (oFld 6 (.slot 2)) (rOpG 3 true (oLoad 1 false (.env 0)) (rOpG 4 true (oBin .lss (.env 2) (.env 0)) (rOpG 5 true (oMov (.env 0)) (rOpG 0 false (oFld 7 (.slot 2)) (rOpG 1 false (oLoad 1 false (.env 0)) (rOpG 2 false (oBin .gtr (.env 0) (.const (.int .i64 99))) (rOpG 9 true (oPick (.env 3) (.const (.bool true)) (.env 0)) (rOpG 14 false (oPick (.env 10) (.env 0) (.const (.bool false))) (rOpS 15 (oPick (.env 15) (.const (.bool true)) (.env 0)) rDone))))))))))))))))))))))))))
 (sCond (.slot 15) (sSeq (sRegion (rOpS 3 (oMov (.const (.bool false))) rDone))
 (sExit .ret)) sSkip))
 (sRegion (rOp (oFld 6 (.slot 2)) (rOp (oStore 1 (.env 0) (.const (.int .i64 0))) (rOp (oFld 7 (.slot 2)) (rOp (oStore 1 (.env 0) (.const (.int .i64 0))) rDone)))))) sSkip))))))))))
 (sSeq (sRegion (rOp (oFld 1 (.slot 2)) (rOp (oLoad 4 true (.env 0)) (rOp (oBuild [(.int .u64 0), (.int .u64 0), (.int .u64 0), (.int .u64 0)] []) (rOp (oEqv false (.agg [.int, .int, .int, .int]) (.env 1) (.env 0)) (rOp (oMov (.env 0)) (rOpG 0 true (oFld 5 (.slot 2)) (rOpG 1 true (oLoad 1 false (.env 0)) (rOpG 2 true (oBin .eql (.env 0) (.const (.str []))) (rOp (oPick (.env 3) (.env 0) (.const (.bool false))) (rOp (oMov (.env 0)) (rOpG 0 true (oFld 6 (.slot 2)) (rOpG 1 true (oLoad 1 false (.env 0)) (rOpG 2 true (oBin .eql (.env 0) (.const (.int .i64 0))) (rOp (oPick (.env 3) (.env 0) (.const (.bool false))) (rOp (oMov (.env 0)) (rOpG 0 true (oFld 7 (.slot 2)) (rOpG 1 true (oLoad 1 false (.env 0)) (rOpG 2 true (oBin .eql (.env 0) (.const (.int .i64 0))) (rOp (oPick (.env 3) (.env 0) (.const (.bool false))) (rOpS 3 (oMov (.env 0)) rDone)))))))))))))))))))))
 (sExit .ret)))))))
noncomputable def k73 : Code := codeIn Tryz.f73
theorem h73 : (cCode Tryz.prog m73 k73).map den = some e73 := by kernel_rfl
noncomputable def fn73 : AFunc := { real := true, nslots := 16, params := [(some 0), (some 1)], results := [.slot 3], assign := sNone, body := e73 }
/- (*bonsai/table.Table).empty -/
noncomputable def m74 : Meta := { slots := [(0, false), (1, false), (2, false), (6, true)], globals := gl, lid := 3405, n := 9, ext := ext }
noncomputable def e74 : CodeF := (sSeq (sRegion (rOp (oAllocP 3 [(.int .i64 0), (.int .i32 0), (.int .u8 0), (.int .u8 0)]) rDone))
 (sSeq (sRegion (rOp (oMov (.slot 2)) (rOp (oCall 104 [(.env 0)]) (rOp (oStoreP 3 4 (.const (.fp 0)) (.env 0)) rDone))))
 (sExit .ret)))
noncomputable def k74 : Code := codeIn Tryz.f74
theorem h74 : (cCode Tryz.prog m74 k74).map den = some e74 := by kernel_rfl
noncomputable def fn74 : AFunc := { real := true, nslots := 4, params := [(some 0), (some 1), (some 2)], results := [.cellP 3 4 true], assign := sNone, body := e74 }
/- (*bonsai/table.Table).set -/
noncomputable def m75 : Meta := { slots := [(0, false), (1, false), (2, false), (6, true), (30, false)], globals := gl, lid := 3415, n := 35, ext := ext }
noncomputable def e75 : CodeF := (sSeq (sRegion (rOp (oAllocP 3 [(.int .i64 0), (.int .i32 0), (.int .u8 0), (.int .u8 0)]) rDone))
 (sSeq (sSeq (sRegionD (dOp (oMov (.slot 2)) false (dOp (oMov (.slot 0)) false (dOp (oNilc (.env 0)) false (dOp (oFld 0 (.env 0)) false (dOp (oLoad 1 false (.env 0)) false (dOp (oLen .str (.env 0)) false (dOp (oBin .lss (.env 5) (.env 0)) false (dOp (oMov (.env 0)) false (dOpG (0, true) (oMov (.slot 0)) false (dOpG (1, true) (oNilc (.env 0)) false (dOpG (2, true) (oFld 3 (.env 0)) false (dOpG (3, true) (oLoad 1 false (.env 0)) false (dOpG (4, true) (oMov (.slot 1)) false (dOpG (5, true) (oIdxS 9 (.env 1) (.env 0)) false (dOpG (6, true) (oFld 1 (.env 0)) false (dOpG (7, true) (oLoad 4 true (.env 0)) false (dOpG (8, true) (oMov (.slot 0)) false (dOpG (9, true) (oNilc (.env 0)) false (dOpG (10, true) (oFld 0 (.env 0)) false (dOpG (11, true) (oLoad 1 false (.env 0)) false (dOpG (12, true) (oMov (.slot 2)) false (dOpG (13, true) (oIdxStr (.env 1) (.env 0)) false (dOpG (14, true) (oCall 105 [(.env 6), (.env 0)]) true (dOp (oPick (.env 15) (.env 0) (.const (.bool false))) false dDone)))))))))))))))))))))))) [] [(4, 0)])
 (sCond (.slot 4) (sSeq (sRegion (rOp (oMov (.slot 2)) (rOp (oBin .add (.env 0) (.const (.int .i64 1))) (rOp (oCall 104 [(.env 0)]) (rOp (oStoreP 3 4 (.const (.fp 0)) (.env 0)) rDone)))))
 (sExit .ret)) sSkip))
 (sSeq (sRegion (rOp (oBuild [(.int .i64 0), (.int .i32 0), (.int .u8 0), (.int .u8 0)] [(2, 1, (.const (.int .u8 1)))]) (rOp (oStoreP 3 4 (.const (.fp 0)) (.env 0)) rDone)))
 (sExit .ret))))
noncomputable def k75 : Code := codeIn Tryz.f75
theorem h75 : (cCode Tryz.prog m75 k75).map den = some e75 := by kernel_rfl
noncomputable def fn75 : AFunc := { real := true, nslots := 5, params := [(some 0), (some 1), (some 2)], results := [.cellP 3 4 true], assign := sNone, body := e75 }
/- (*bonsai/table.Table).text -/
noncomputable def m76 : Meta := { slots := [(0, false), (1, false), (2, false), (6, true), (7, false), (23, false)], globals := gl, lid := 3451, n := 30, ext := ext }
noncomputable def e76 : CodeF := (sSeq (sRegion (rOp (oAllocP 3 [(.int .i64 0), (.int .i32 0), (.int .u8 0), (.int .u8 0)]) rDone))
 (sSeq (sRegion (rOp (oMov (.slot 0)) (rOp (oNilc (.env 0)) (rOp (oFld 3 (.env 0)) (rOp (oLoad 1 false (.env 0)) (rOp (oMov (.slot 1)) (rOp (oIdxS 9 (.env 1) (.env 0)) (rOp (oFld 5 (.env 0)) (rOp (oLoad 1 false (.env 0)) (rOpS 4 (oMov (.env 0)) rDone))))))))))
 (sSeq (sSeq (sRegion (rOp (oMov (.slot 0)) (rOp (oNilc (.env 0)) (rOp (oFld 0 (.env 0)) (rOp (oLoad 1 false (.env 0)) (rOp (oMov (.slot 2)) (rOp (oSlice true 0 (.env 1) (some (.env 0)) none none) (rOp (oMov (.slot 4)) (rOpS 5 (oCall 106 [(.env 1), (.env 0)]) rDone)))))))))
 (sCond (.slot 5) (sSeq (sRegion (rOp (oMov (.slot 2)) (rOp (oMov (.slot 4)) (rOp (oLen .str (.env 0)) (rOp (oBin .add (.env 2) (.env 0)) (rOp (oCall 104 [(.env 0)]) (rOp (oStoreP 3 4 (.const (.fp 0)) (.env 0)) rDone)))))))
 (sExit .ret)) sSkip))
 (sSeq (sRegion (rOp (oBuild [(.int .i64 0), (.int .i32 0), (.int .u8 0), (.int .u8 0)] [(2, 1, (.const (.int .u8 1)))]) (rOp (oStoreP 3 4 (.const (.fp 0)) (.env 0)) rDone)))
 (sExit .ret)))))
noncomputable def k76 : Code := codeIn Tryz.f76
theorem h76 : (cCode Tryz.prog m76 k76).map den = some e76 := by kernel_rfl
noncomputable def fn76 : AFunc := { real := true, nslots := 6, params := [(some 0), (some 1), (some 2)], results := [.cellP 3 4 true], assign := sNone, body := e76 }
/- (*bonsai/table.Table).rule -/
noncomputable def m77 : Meta := { slots := [(0, false), (1, false), (2, false), (6, true)], globals := gl, lid := 3482, n := 11, ext := ext }
noncomputable def e77 : CodeF := (sSeq (sRegion (rOp (oAllocP 3 [(.int .i64 0), (.int .i32 0), (.int .u8 0), (.int .u8 0)]) rDone))
 (sSeq (sRegion (rOp (oMov (.slot 0)) (rOp (oMov (.slot 1)) (rOp (oMov (.slot 2)) (rOp (oCall 107 [(.env 2), (.env 1), (.env 0)]) (rOp (oStoreP 3 4 (.const (.fp 0)) (.env 0)) rDone))))))
 (sExit .ret)))
noncomputable def k77 : Code := codeIn Tryz.f77
theorem h77 : (cCode Tryz.prog m77 k77).map den = some e77 := by kernel_rfl
noncomputable def fn77 : AFunc := { real := true, nslots := 4, params := [(some 0), (some 1), (some 2)], results := [.cellP 3 4 true], assign := sNone, body := e77 }
/- (*bonsai/table.Table).seq -/
noncomputable def m78 : Meta := { slots := [(0, false), (1, false), (2, false), (6, true), (7, false), (9, false), (10, false), (20, false), (21, false), (22, false), (23, false), (39, false)], globals := gl, lid := 3494, n := 54, ext := ext }
noncomputable def e78 : CodeF := (sSeq (sRegion (rOp (oAllocP 3 [(.int .i64 0), (.int .i32 0), (.int .u8 0), (.int .u8 0)]) rDone))
 (sSeq (sRegion (rOp (oMov (.slot 2)) (rOp (oCall 104 [(.env 0)]) (rOpS 4 (oAlloc 76 [(.int .i64 0), (.int .i32 0), (.int .u8 0), (.int .u8 0)]) (rOp (oStore 4 (.env 0) (.env 1)) rDone)))))
 (sSeq (sSeq (sRegion (rOp (oMov (.slot 0)) (rOp (oNilc (.env 0)) (rOp (oFld 3 (.env 0)) (rOp (oLoad 1 false (.env 0)) (rOp (oMov (.slot 1)) (rOp (oIdxS 9 (.env 1) (.env 0)) (rOp (oFld 8 (.env 0)) (rOpS 7 (oLoad 1 false (.env 0)) (rOpS 8 (oLen .sl (.env 0)) (rOpS 9 (oMov (.const (.int .i64 0))) rDone)))))))))))
 (sBlock 0 (sLoop (sSeq (sRegion (rOpS 10 (oBin .lss (.slot 9) (.slot 8)) rDone))
 (sSeq (sCond (.slot 10) sSkip (sExit (.exit 0)))
 (sSeq (sBlock 1 (sSeq (sRegion (rOp (oIdxS 1 (.slot 7) (.slot 9)) (rOp (oLoad 1 false (.env 0)) (rOpS 5 (oMov (.env 0)) rDone))))
 (sSeq (sRegionD (dOp (oMov (.slot 0)) false (dOp (oNilc (.env 0)) false (dOp (oFld 4 (.env 0)) false (dOp (oLoad 1 false (.env 0)) false (dOp (oMov (.slot 5)) false (dOp (oIdxS 1 (.env 1) (.env 0)) false (dOp (oLoad 1 false (.env 0)) false (dOp (oFld 1 (.slot 4)) false (dOp (oLoad 1 false (.env 0)) false (dOp (oIdxS 4 (.env 2) (.env 0)) false (dOp (oLoad 4 true (.env 0)) false (dOp (oAlloc 76 [(.int .i64 0), (.int .i32 0), (.int .u8 0), (.int .u8 0)]) true (dOp (oStore 4 (.env 0) (.env 1)) true dDone))))))))))))) [⟨9, .load 1 false (.env 0), none, [1]⟩, ⟨6, .load 1 false (.env 0), none, [1]⟩, ⟨4, .load 1 false (.env 0), none, [1]⟩, ⟨2, .load 4 true (.env 0), none, [1]⟩] [(6, 1)])
 (sSeq (sSeq (sRegion (rOp (oFld 2 (.slot 6)) (rOp (oLoad 1 false (.env 0)) (rOpS 11 (oBin .neq (.env 0) (.const (.int .u8 2))) rDone))))
 (sCond (.slot 11) (sSeq (sRegion (rOp (oFld 2 (.slot 6)) (rOp (oLoad 1 false (.env 0)) (rOp (oBuild [(.int .i64 0), (.int .i32 0), (.int .u8 0), (.int .u8 0)] [(2, 1, (.env 0))]) (rOp (oStoreP 3 4 (.const (.fp 0)) (.env 0)) rDone)))))
 (sExit .ret)) sSkip))
 (sSeq (sRegion (rOp (oFld 1 (.slot 6)) (rOp (oLoad 1 false (.env 0)) (rOp (oFld 1 (.slot 4)) (rOp (oStore 1 (.env 0) (.env 1)) rDone)))))
 (sRegion (rOp (oFld 0 (.slot 4)) (rOp (oLoad 1 false (.env 0)) (rOp (oFld 0 (.slot 6)) (rOp (oLoad 1 false (.env 0)) (rOp (oCall 108 [(.env 2), (.env 0)]) (rOp (oFld 0 (.slot 4)) (rOp (oStore 1 (.env 0) (.env 1)) rDone)))))))))))))
 (sRegion (rOp (oBin .add (.slot 9) (.const (.int .i64 1))) (rOpS 9 (oMov (.env 0)) rDone)))))))))
 (sSeq (sRegion (rOp (oLoad 4 true (.slot 4)) (rOp (oStoreP 3 4 (.const (.fp 0)) (.env 0)) rDone)))
 (sExit .ret)))))
noncomputable def k78 : Code := codeIn Tryz.f78
theorem h78 : (cCode Tryz.prog m78 k78).map den = some e78 := by kernel_rfl
noncomputable def fn78 : AFunc := { real := true, nslots := 12, params := [(some 0), (some 1), (some 2)], results := [.cellP 3 4 true], assign := sNone, body := e78 }
/- (*bonsai/table.Table).choice -/
noncomputable def m79 : Meta := { slots := [(0, false), (1, false), (2, false), (6, true), (8, false), (9, true), (17, false), (18, false), (19, false), (20, false), (35, false)], globals := gl, lid := 3549, n := 39, ext := ext }
noncomputable def e79 : CodeF := (sSeq (sRegion (rOp (oAllocP 3 [(.int .i64 0), (.int .i32 0), (.int .u8 0), (.int .u8 0)]) rDone))
 (sSeq (sSeq (sRegion (rOp (oMov (.slot 0)) (rOp (oNilc (.env 0)) (rOp (oFld 3 (.env 0)) (rOp (oLoad 1 false (.env 0)) (rOp (oMov (.slot 1)) (rOp (oIdxS 9 (.env 1) (.env 0)) (rOp (oFld 8 (.env 0)) (rOpS 6 (oLoad 1 false (.env 0)) (rOpS 7 (oLen .sl (.env 0)) (rOpS 8 (oMov (.const (.int .i64 0))) rDone)))))))))))
 (sBlock 0 (sLoop (sSeq (sRegion (rOpS 9 (oBin .lss (.slot 8) (.slot 7)) rDone))
 (sSeq (sCond (.slot 9) sSkip (sExit (.exit 0)))
 (sSeq (sBlock 1 (sSeq (sRegion (rOp (oIdxS 1 (.slot 6) (.slot 8)) (rOp (oLoad 1 false (.env 0)) (rOpS 4 (oMov (.env 0)) rDone))))
 (sSeq (sRegion (rOp (oMov (.slot 0)) (rOp (oNilc (.env 0)) (rOp (oFld 4 (.env 0)) (rOp (oLoad 1 false (.env 0)) (rOp (oMov (.slot 4)) (rOp (oIdxS 1 (.env 1) (.env 0)) (rOp (oLoad 1 false (.env 0)) (rOp (oMov (.slot 2)) (rOp (oIdxS 4 (.env 1) (.env 0)) (rOp (oLoad 4 true (.env 0)) (rOp (oAllocP 5 [(.int .i64 0), (.int .i32 0), (.int .u8 0), (.int .u8 0)]) (rOp (oStoreP 5 4 (.env 0) (.env 1)) rDone)))))))))))))
 (sSeq (sRegion (rOp (oFldP 5 2 (.const (.fp 0))) (rOp (oLoadP 5 1 false (.env 0)) (rOpS 10 (oBin .neq (.env 0) (.const (.int .u8 1))) rDone))))
 (sCond (.slot 10) (sSeq (sRegion (rOp (oLoadP 5 4 true (.const (.fp 0))) (rOp (oStoreP 3 4 (.const (.fp 0)) (.env 0)) rDone)))
 (sExit .ret)) sSkip)))))
 (sRegion (rOp (oBin .add (.slot 8) (.const (.int .i64 1))) (rOpS 8 (oMov (.env 0)) rDone)))))))))
 (sSeq (sRegion (rOp (oBuild [(.int .i64 0), (.int .i32 0), (.int .u8 0), (.int .u8 0)] [(2, 1, (.const (.int .u8 1)))]) (rOp (oStoreP 3 4 (.const (.fp 0)) (.env 0)) rDone)))
 (sExit .ret))))
noncomputable def k79 : Code := codeIn Tryz.f79
theorem h79 : (cCode Tryz.prog m79 k79).map den = some e79 := by kernel_rfl
noncomputable def fn79 : AFunc := { real := true, nslots := 11, params := [(some 0), (some 1), (some 2)], results := [.cellP 3 4 true], assign := sNone, body := e79 }
/- (*bonsai/table.Table).rep -/
noncomputable def m80 : Meta := { slots := [(0, false), (1, false), (2, false), (6, true), (7, false), (8, false), (9, false), (10, false), (20, false), (30, false), (60, false), (66, false)], globals := gl, lid := 3589, n := 77, ext := ext }
noncomputable def e80 : CodeF := (sSeq (sRegion (rOp (oAllocP 3 [(.int .i64 0), (.int .i32 0), (.int .u8 0), (.int .u8 0)]) rDone))
 (sSeq (sRegion (rOp (oMov (.slot 0)) (rOp (oNilc (.env 0)) (rOp (oFld 3 (.env 0)) (rOp (oLoad 1 false (.env 0)) (rOp (oMov (.slot 1)) (rOp (oIdxS 9 (.env 1) (.env 0)) (rOp (oLoad 9 true (.env 0)) (rOpS 4 (oAlloc 67 [(.int .u8 0), (.int .u64 0), (.int .u64 0), (.int .u64 0), (.int .u64 0), (.str []), (.int .i64 0), (.int .i64 0), .nils]) (rOp (oStore 9 (.env 0) (.env 1)) rDone))))))))))
 (sSeq (sSeq (sRegion (rOp (oFld 7 (.slot 4)) (rOp (oLoad 1 false (.env 0)) (rOpS 8 (oBin .eql (.env 0) (.const (.int .i64 (-1)))) rDone))))
 (sCond (.slot 8) (sSeq (sRegion (rOp (oMov (.slot 0)) (rOp (oMov (.slot 1)) (rOp (oMov (.slot 2)) (rOp (oCall 109 [(.env 2), (.env 1), (.env 0)]) (rOp (oStoreP 3 4 (.const (.fp 0)) (.env 0)) rDone))))))
 (sExit .ret)) sSkip))
 (sSeq (sRegion (rOp (oMov (.slot 2)) (rOp (oCall 104 [(.env 0)]) (rOpS 5 (oAlloc 76 [(.int .i64 0), (.int .i32 0), (.int .u8 0), (.int .u8 0)]) (rOp (oStore 4 (.env 0) (.env 1)) rDone)))))
 (sSeq (sSeq (sRegion (rOpS 6 (oMov (.const (.int .i64 0))) rDone))
 (sBlock 0 (sLoop (sSeq (sSeq (sRegion (rOp (oMov (.slot 6)) (rOp (oFld 7 (.slot 4)) (rOp (oLoad 1 false (.env 0)) (rOpS 9 (oBin .lss (.env 2) (.env 0)) rDone)))))
 (sCond (.slot 9) sSkip (sExit (.exit 0))))
 (sSeq (sBlock 1 (sSeq (sRegionD (dOp (oMov (.slot 0)) false (dOp (oNilc (.env 0)) false (dOp (oFld 4 (.env 0)) false (dOp (oLoad 1 false (.env 0)) false (dOp (oFld 8 (.slot 4)) false (dOp (oLoad 1 false (.env 0)) false (dOp (oIdxS 1 (.env 0) (.const (.int .i64 0))) false (dOp (oLoad 1 false (.env 0)) false (dOp (oIdxS 1 (.env 4) (.env 0)) false (dOp (oLoad 1 false (.env 0)) false (dOp (oFld 1 (.slot 5)) false (dOp (oLoad 1 false (.env 0)) false (dOp (oIdxS 4 (.env 2) (.env 0)) false (dOp (oLoad 4 true (.env 0)) false (dOp (oAlloc 76 [(.int .i64 0), (.int .i32 0), (.int .u8 0), (.int .u8 0)]) true (dOp (oStore 4 (.env 0) (.env 1)) true dDone)))))))))))))))) [⟨12, .load 1 false (.env 0), none, [1]⟩, ⟨10, .load 1 false (.env 0), none, [1]⟩, ⟨8, .load 1 false (.env 0), none, [1]⟩, ⟨6, .load 1 false (.env 0), none, [1]⟩, ⟨4, .load 1 false (.env 0), none, [1]⟩, ⟨2, .load 4 true (.env 0), none, [1]⟩] [(7, 1)])
 (sSeq (sSeq (sRegion (rOp (oFld 2 (.slot 7)) (rOp (oLoad 1 false (.env 0)) (rOp (oBin .eql (.env 0) (.const (.int .u8 0))) (rOp (oMov (.env 0)) (rOpG 0 false (oFld 2 (.slot 7)) (rOpG 1 false (oLoad 1 false (.env 0)) (rOpG 2 false (oBin .eql (.env 0) (.const (.int .u8 1))) (rOpG 3 false (oMov (.env 0)) (rOpG 0 true (oMov (.slot 6)) (rOpG 1 true (oFld 6 (.slot 4)) (rOpG 2 true (oLoad 1 false (.env 0)) (rOpG 3 true (oBin .lss (.env 2) (.env 0)) (rOpG 8 false (oPick (.env 4) (.env 0) (.const (.bool false))) (rOpS 10 (oPick (.env 9) (.const (.bool true)) (.env 0)) rDone)))))))))))))))
 (sCond (.slot 10) (sSeq (sRegion (rOp (oFld 2 (.slot 7)) (rOp (oLoad 1 false (.env 0)) (rOp (oBuild [(.int .i64 0), (.int .i32 0), (.int .u8 0), (.int .u8 0)] [(2, 1, (.env 0))]) (rOp (oStoreP 3 4 (.const (.fp 0)) (.env 0)) rDone)))))
 (sExit .ret)) sSkip))
 (sSeq (sSeq (sRegion (rOp (oFld 2 (.slot 7)) (rOp (oLoad 1 false (.env 0)) (rOpS 11 (oBin .eql (.env 0) (.const (.int .u8 1))) rDone))))
 (sCond (.slot 11) (sExit (.exit 0)) sSkip))
 (sSeq (sRegion (rOp (oFld 1 (.slot 7)) (rOp (oLoad 1 false (.env 0)) (rOp (oFld 1 (.slot 5)) (rOp (oStore 1 (.env 0) (.env 1)) rDone)))))
 (sRegion (rOp (oFld 0 (.slot 5)) (rOp (oLoad 1 false (.env 0)) (rOp (oFld 0 (.slot 7)) (rOp (oLoad 1 false (.env 0)) (rOp (oCall 108 [(.env 2), (.env 0)]) (rOp (oFld 0 (.slot 5)) (rOp (oStore 1 (.env 0) (.env 1)) rDone)))))))))))))
 (sRegion (rOp (oMov (.slot 6)) (rOp (oBin .add (.env 0) (.const (.int .i64 1))) (rOpS 6 (oMov (.env 0)) rDone)))))))))
 (sSeq (sRegion (rOp (oLoad 4 true (.slot 5)) (rOp (oStoreP 3 4 (.const (.fp 0)) (.env 0)) rDone)))
 (sExit .ret)))))))
noncomputable def k80 : Code := codeIn Tryz.f80
theorem h80 : (cCode Tryz.prog m80 k80).map den = some e80 := by kernel_rfl
noncomputable def fn80 : AFunc := { real := true, nslots := 12, params := [(some 0), (some 1), (some 2)], results := [.cellP 3 4 true], assign := sNone, body := e80 }
/- (*bonsai/table.Table).and -/
noncomputable def m81 : Meta := { slots := [(0, false), (1, false), (2, false), (6, true), (7, true), (14, false)], globals := gl, lid := 3667, n := 20, ext := ext }
noncomputable def e81 : CodeF := (sSeq (sRegion (rOp (oAllocP 3 [(.int .i64 0), (.int .i32 0), (.int .u8 0), (.int .u8 0)]) rDone))
 (sSeq (sRegion (rOp (oMov (.slot 0)) (rOp (oMov (.slot 1)) (rOp (oMov (.slot 2)) (rOp (oCall 107 [(.env 2), (.env 1), (.env 0)]) (rOp (oAllocP 4 [(.int .i64 0), (.int .i32 0), (.int .u8 0), (.int .u8 0)]) (rOp (oStoreP 4 4 (.env 0) (.env 1)) rDone)))))))
 (sSeq (sSeq (sRegion (rOp (oFldP 4 2 (.const (.fp 0))) (rOp (oLoadP 4 1 false (.env 0)) (rOpS 5 (oBin .eql (.env 0) (.const (.int .u8 2))) rDone))))
 (sCond (.slot 5) (sSeq (sRegion (rOp (oMov (.slot 2)) (rOp (oCall 104 [(.env 0)]) (rOp (oStoreP 3 4 (.const (.fp 0)) (.env 0)) rDone))))
 (sExit .ret)) sSkip))
 (sSeq (sRegion (rOp (oFldP 4 2 (.const (.fp 0))) (rOp (oLoadP 4 1 false (.env 0)) (rOp (oBuild [(.int .i64 0), (.int .i32 0), (.int .u8 0), (.int .u8 0)] [(2, 1, (.env 0))]) (rOp (oStoreP 3 4 (.const (.fp 0)) (.env 0)) rDone)))))
 (sExit .ret)))))
noncomputable def k81 : Code := codeIn Tryz.f81
theorem h81 : (cCode Tryz.prog m81 k81).map den = some e81 := by kernel_rfl
noncomputable def fn81 : AFunc := { real := true, nslots := 6, params := [(some 0), (some 1), (some 2)], results := [.cellP 3 4 true], assign := sNone, body := e81 }
/- (*bonsai/table.Table).not -/
noncomputable def m82 : Meta := { slots := [(0, false), (1, false), (2, false), (6, true), (11, false), (12, false), (16, false)], globals := gl, lid := 3688, n := 20, ext := ext }
noncomputable def e82 : CodeF := (sSeq (sRegion (rOp (oAllocP 3 [(.int .i64 0), (.int .i32 0), (.int .u8 0), (.int .u8 0)]) rDone))
 (sSeq (sSeq (sRegion (rOp (oMov (.slot 0)) (rOp (oMov (.slot 1)) (rOp (oMov (.slot 2)) (rOp (oCall 107 [(.env 2), (.env 1), (.env 0)]) (rOpS 4 (oGetf 2 1 false (.env 0)) rDone))))))
 (sBlock 0 (sSeq (sRegion (rOp (oBin .eql (.slot 4) (.const (.int .u8 1))) (rOpS 5 (oMov (.env 0)) rDone)))
 (sCond (.slot 5) (sSeq (sRegion (rOp (oMov (.slot 2)) (rOp (oCall 104 [(.env 0)]) (rOp (oStoreP 3 4 (.const (.fp 0)) (.env 0)) rDone))))
 (sExit .ret)) (sSeq (sRegion (rOp (oBin .eql (.slot 4) (.const (.int .u8 2))) (rOpS 6 (oMov (.env 0)) rDone)))
 (sCond (.slot 6) (sSeq (sRegion (rOp (oBuild [(.int .i64 0), (.int .i32 0), (.int .u8 0), (.int .u8 0)] [(2, 1, (.const (.int .u8 1)))]) (rOp (oStoreP 3 4 (.const (.fp 0)) (.env 0)) rDone)))
 (sExit .ret)) sSkip))))))
 (sSeq (sRegion (rOp (oBuild [(.int .i64 0), (.int .i32 0), (.int .u8 0), (.int .u8 0)] []) (rOp (oStoreP 3 4 (.const (.fp 0)) (.env 0)) rDone)))
 (sExit .ret))))
noncomputable def k82 : Code := codeIn Tryz.f82
theorem h82 : (cCode Tryz.prog m82 k82).map den = some e82 := by kernel_rfl
noncomputable def fn82 : AFunc := { real := true, nslots := 7, params := [(some 0), (some 1), (some 2)], results := [.cellP 3 4 true], assign := sNone, body := e82 }
/- (*bonsai/table.Table).capture -/
noncomputable def m83 : Meta := { slots := [(0, false), (1, false), (2, false), (6, true), (7, true), (14, false)], globals := gl, lid := 3709, n := 20, ext := ext }
noncomputable def e83 : CodeF := (sSeq (sRegion (rOp (oAllocP 3 [(.int .i64 0), (.int .i32 0), (.int .u8 0), (.int .u8 0)]) rDone))
 (sSeq (sRegion (rOp (oMov (.slot 0)) (rOp (oMov (.slot 1)) (rOp (oMov (.slot 2)) (rOp (oCall 107 [(.env 2), (.env 1), (.env 0)]) (rOp (oAllocP 4 [(.int .i64 0), (.int .i32 0), (.int .u8 0), (.int .u8 0)]) (rOp (oStoreP 4 4 (.env 0) (.env 1)) rDone)))))))
 (sSeq (sSeq (sRegion (rOp (oFldP 4 2 (.const (.fp 0))) (rOp (oLoadP 4 1 false (.env 0)) (rOpS 5 (oBin .eql (.env 0) (.const (.int .u8 2))) rDone))))
 (sCond (.slot 5) (sRegion (rOp (oFldP 4 0 (.const (.fp 0))) (rOp (oLoadP 4 1 false (.env 0)) (rOp (oCall 108 [(.env 0), (.const (.int .i64 1))]) (rOp (oFldP 4 0 (.const (.fp 0))) (rOp (oStoreP 4 1 (.env 0) (.env 1)) rDone)))))) sSkip))
 (sSeq (sRegion (rOp (oLoadP 4 4 true (.const (.fp 0))) (rOp (oStoreP 3 4 (.const (.fp 0)) (.env 0)) rDone)))
 (sExit .ret)))))
noncomputable def k83 : Code := codeIn Tryz.f83
theorem h83 : (cCode Tryz.prog m83 k83).map den = some e83 := by kernel_rfl
noncomputable def fn83 : AFunc := { real := true, nslots := 6, params := [(some 0), (some 1), (some 2)], results := [.cellP 3 4 true], assign := sNone, body := e83 }
/- bonsai/lex.Words -/
noncomputable def m84 : Meta := { slots := [(0, false), (2, false), (3, false), (4, false), (5, false), (6, false), (9, false), (11, false), (12, false), (13, false), (15, false)], globals := gl, lid := 3730, n := 24, ext := ext }
noncomputable def e84 : CodeF := (sSeq (sRegion (rOpS 1 (oAlloc 95 [.nils]) (rOpS 2 (oAlloc 3 [(.int .i64 0)]) (rOpS 3 (oAlloc 32 [(.int .i64 0)]) rDone))))
 (sSeq (sSeq (sRegion (rOp (oMov (.slot 0)) (rOp (oLen .str (.env 0)) (rOpS 6 (oBin .gtr (.env 0) (.const (.int .i64 65536))) rDone))))
 (sCond (.slot 6) (sSeq (sRegion (rOp (oStore 1 (.slot 1) (.const .nils)) (rOp (oStore 1 (.slot 2) (.const (.int .i64 65536))) (rOp (oStore 1 (.slot 3) (.const (.int .i64 40))) rDone))))
 (sExit .ret)) sSkip))
 (sSeq (sSeq (sRegion (rOp (oMov (.slot 0)) (rOpS 7 (oCall 110 [(.env 0)]) rDone)))
 (sBlock 0 (sRangeFunc (.slot 7) [8, 9] 3741)))
 (sSeq (sRegion (rOp (oLoad 1 false (.slot 1)) (rOp (oStore 1 (.slot 1) (.env 0)) (rOp (oStore 1 (.slot 2) (.const (.int .i64 0))) (rOp (oStore 1 (.slot 3) (.const (.int .i64 0))) rDone)))))
 (sExit .ret)))))
noncomputable def k84 : Code := codeIn Tryz.f84
theorem h84 : (cCode Tryz.prog m84 k84).map den = some e84 := by kernel_rfl
noncomputable def fn84 : AFunc := { real := true, nslots := 11, params := [(some 0)], results := [.cell 1 1 false, .cell 2 1 false, .cell 3 1 false], assign := sNone, body := e84 }
noncomputable def a3741 : CodeF := (sSeq (sRegion (rOpS 4 (oAlloc 137 [(.int .u8 0), (.int .i64 0), (.int .i64 0), (.str []), (.int .u64 0), (.int .u64 0), (.int .u64 0), (.int .u64 0), (.int .i64 0), (.int .i64 0)]) (rOp (oStore 10 (.env 0) (.slot 8)) rDone)))
 (sRegion (rOpS 5 (oMov (.slot 9)) rDone)))
noncomputable def b3741 : CodeF := (sBlock 1 (sSeq (sSeq (sRegion (rOp (oMov (.slot 5)) (rOpS 10 (oBin .neq (.env 0) (.const (.int .i64 0))) rDone)))
 (sCond (.slot 10) (sSeq (sRegionD (dOp (oFld 1 (.slot 4)) false (dOp (oLoad 1 false (.env 0)) false (dOp (oMov (.slot 5)) false (dOp (oStore 1 (.slot 1) (.const .nils)) true (dOp (oStore 1 (.slot 2) (.env 2)) true (dOp (oStore 1 (.slot 3) (.env 2)) true dDone)))))) [⟨4, .load 1 false (.env 0), none, [2]⟩] [])
 (sExit .ret)) sSkip))
 (sRegion (rOp (oLoad 1 false (.slot 1)) (rOp (oLoad 10 true (.slot 4)) (rOp (oBslice 137 10 1 [(.int .u8 0), (.int .i64 0), (.int .i64 0), (.str []), (.int .u64 0), (.int .u64 0), (.int .u64 0), (.int .u64 0), (.int .i64 0), (.int .i64 0)] [(0, 10, (.env 0))]) (rOp (oAppend 137 10 88 (.env 2) (.env 0)) (rOp (oStore 1 (.slot 1) (.env 0)) rDone))))))))
noncomputable def fn3741 : AFunc := { real := false, nslots := 0, params := [], results := [], assign := a3741, body := b3741 }
theorem lp84 : (loopsOf Tryz.prog m84 k84).map (List.map fun x => (x.1, den x.2.1, den x.2.2)) = some [(3741, a3741, b3741)] := by kernel_rfl
/- (*bonsai/parse.reader).leaf -/
noncomputable def m85 : Meta := { slots := [(0, false), (2, true), (3, false), (4, false), (5, true), (9, false), (32, false), (42, false), (49, false)], globals := gl, lid := 3755, n := 64, ext := ext }
noncomputable def e85 : CodeF := (sSeq (sRegion (rOp (oAllocP 1 [(.int .u8 0), (.int .u64 0), (.int .u64 0), (.int .u64 0), (.int .u64 0), (.str []), (.int .i64 0), (.int .i64 0), .nils]) (rOpS 2 (oMov (.const (.bool false))) rDone)))
 (sSeq (sRegion (rOp (oMov (.slot 0)) (rOp (oCall 88 [(.env 0), (.const (.int .i64 0))]) (rOpS 3 (oAlloc 137 [(.int .u8 0), (.int .i64 0), (.int .i64 0), (.str []), (.int .u64 0), (.int .u64 0), (.int .u64 0), (.int .u64 0), (.int .i64 0), (.int .i64 0)]) (rOp (oStore 10 (.env 0) (.env 1)) rDone)))))
 (sSeq (sRegion (rOp (oAllocP 4 [(.int .u8 0), (.int .u64 0), (.int .u64 0), (.int .u64 0), (.int .u64 0), (.str []), (.int .i64 0), (.int .i64 0), .nils]) rDone))
 (sSeq (sBlock 0 (sSeq (sRegion (rOp (oFld 0 (.slot 3)) (rOp (oLoad 1 false (.env 0)) (rOp (oBin .eql (.env 0) (.const (.int .u8 1))) (rOp (oMov (.env 0)) (rOpG 0 true (oMov (.slot 0)) (rOpG 1 true (oCall 88 [(.env 0), (.const (.int .i64 1))]) (rOpG 2 true (oGetf 0 1 false (.env 0)) (rOpG 3 true (oBin .neq (.env 0) (.const (.int .u8 2))) (rOp (oPick (.env 4) (.env 0) (.const (.bool false))) (rOpS 5 (oMov (.env 0)) rDone)))))))))))
 (sCond (.slot 5) (sSeq (sRegionD (dOp (oMov (.slot 0)) false (dOp (oMov (.slot 0)) false (dOp (oNilc (.env 0)) false (dOp (oFld 7 (.env 0)) false (dOp (oLoad 1 false (.env 0)) false (dOp (oLoad 10 true (.slot 3)) false (dOp (oBslice 137 10 1 [(.int .u8 0), (.int .i64 0), (.int .i64 0), (.str []), (.int .u64 0), (.int .u64 0), (.int .u64 0), (.int .u64 0), (.int .i64 0), (.int .i64 0)] [(0, 10, (.env 0))]) true (dOp (oAppend 137 10 88 (.env 2) (.env 0)) true (dOp (oNilc (.env 7)) false (dOp (oFld 7 (.env 0)) false (dOp (oStore 1 (.env 0) (.env 2)) true dDone))))))))))) [⟨6, .load 1 false (.env 0), none, [2]⟩] [])
 (sRegion (rOp (oFld 3 (.slot 3)) (rOp (oLoad 1 false (.env 0)) (rOp (oBuild [(.int .u8 0), (.int .u64 0), (.int .u64 0), (.int .u64 0), (.int .u64 0), (.str []), (.int .i64 0), (.int .i64 0), .nils] [(0, 1, (.const (.int .u8 3))), (5, 1, (.env 0))]) (rOp (oStoreP 4 9 (.const (.fp 0)) (.env 0)) rDone)))))) (sSeq (sRegion (rOp (oFld 0 (.slot 3)) (rOp (oLoad 1 false (.env 0)) (rOp (oBin .eql (.env 0) (.const (.int .u8 15))) (rOp (oMov (.env 0)) (rOpG 0 true (oFld 3 (.slot 3)) (rOpG 1 true (oLoad 1 false (.env 0)) (rOpG 2 true (oBin .eql (.env 0) (.const (.str []))) (rOp (oPick (.env 3) (.env 0) (.const (.bool false))) (rOpS 6 (oMov (.env 0)) rDone))))))))))
 (sCond (.slot 6) (sRegion (rOp (oBuild [(.int .u8 0), (.int .u64 0), (.int .u64 0), (.int .u64 0), (.int .u64 0), (.str []), (.int .i64 0), (.int .i64 0), .nils] [(0, 1, (.const (.int .u8 0)))]) (rOp (oStoreP 4 9 (.const (.fp 0)) (.env 0)) rDone))) (sSeq (sRegion (rOp (oFld 0 (.slot 3)) (rOp (oLoad 1 false (.env 0)) (rOp (oBin .eql (.env 0) (.const (.int .u8 15))) (rOpS 7 (oMov (.env 0)) rDone)))))
 (sCond (.slot 7) (sRegion (rOp (oFld 3 (.slot 3)) (rOp (oLoad 1 false (.env 0)) (rOp (oBuild [(.int .u8 0), (.int .u64 0), (.int .u64 0), (.int .u64 0), (.int .u64 0), (.str []), (.int .i64 0), (.int .i64 0), .nils] [(0, 1, (.const (.int .u8 2))), (5, 1, (.env 0))]) (rOp (oStoreP 4 9 (.const (.fp 0)) (.env 0)) rDone))))) (sSeq (sRegion (rOp (oFld 0 (.slot 3)) (rOp (oLoad 1 false (.env 0)) (rOp (oBin .eql (.env 0) (.const (.int .u8 16))) (rOpS 8 (oMov (.env 0)) rDone)))))
 (sCond (.slot 8) (sRegion (rOp (oFld 4 (.slot 3)) (rOp (oLoad 4 true (.env 0)) (rOp (oBuild [(.int .u8 0), (.int .u64 0), (.int .u64 0), (.int .u64 0), (.int .u64 0), (.str []), (.int .i64 0), (.int .i64 0), .nils] [(0, 1, (.const (.int .u8 1))), (1, 4, (.env 0))]) (rOp (oStoreP 4 9 (.const (.fp 0)) (.env 0)) rDone))))) (sSeq (sRegion (rOp (oBuild [(.int .u8 0), (.int .u64 0), (.int .u64 0), (.int .u64 0), (.int .u64 0), (.str []), (.int .i64 0), (.int .i64 0), .nils] []) (rOp (oStoreP 1 9 (.const (.fp 0)) (.env 0)) (rOpS 2 (oMov (.const (.bool false))) rDone))))
 (sExit .ret)))))))))))
 (sSeq (sRegion (rOp (oMov (.slot 0)) (rOp (oNilc (.env 0)) (rOp (oFld 2 (.env 0)) (rOp (oLoad 1 false (.env 0)) (rOp (oBin .add (.env 0) (.const (.int .i64 1))) (rOp (oNilc (.env 4)) (rOp (oFld 2 (.env 0)) (rOp (oStore 1 (.env 0) (.env 2)) rDone)))))))))
 (sSeq (sRegion (rOp (oLoadP 4 9 true (.const (.fp 0))) (rOp (oStoreP 1 9 (.const (.fp 0)) (.env 0)) (rOpS 2 (oMov (.const (.bool true))) rDone))))
 (sExit .ret)))))))
noncomputable def k85 : Code := codeIn Tryz.f85
theorem h85 : (cCode Tryz.prog m85 k85).map den = some e85 := by kernel_rfl
noncomputable def fn85 : AFunc := { real := true, nslots := 9, params := [(some 0)], results := [.cellP 1 9 true, .slot 2], assign := sNone, body := e85 }
/- (*bonsai/parse.reader).primary -/
noncomputable def m86 : Meta := { slots := [(0, false), (1, false), (4, false), (5, false), (6, false), (7, false), (13, false), (40, false)], globals := gl, lid := 3820, n := 68, ext := ext }
noncomputable def e86 : CodeF := (sSeq (sSeq (sRegion (rOp (oMov (.slot 0)) (rOp (oCall 111 [(.env 0)]) (rOp (oMov (.env 0)) (rOp (oExt (.env 0) 0) (rOp (oExt (.env 1) 1) (rOpS 2 (oMov (.env 1)) (rOpS 3 (oMov (.env 1)) rDone))))))))
 (sBlock 0 (sLoop (sSeq (sSeq (sRegion (rOpS 6 (oMov (.slot 3)) rDone))
 (sCond (.slot 6) sSkip (sExit (.exit 0))))
 (sSeq (sBlock 1 (sRegion (rOp (oMov (.slot 2)) (rOp (oMov (.slot 1)) (rOp (oCallv (.env 1) [(.env 0)]) (rOpS 1 (oMov (.env 0)) rDone))))))
 (sRegion (rOp (oMov (.slot 0)) (rOp (oCall 111 [(.env 0)]) (rOp (oMov (.env 0)) (rOp (oExt (.env 0) 0) (rOp (oExt (.env 1) 1) (rOpS 2 (oMov (.env 1)) (rOpS 3 (oMov (.env 1)) rDone)))))))))))))
 (sSeq (sRegionD (dOp (oMov (.slot 0)) false (dOp (oNilc (.env 0)) false (dOp (oFld 4 (.env 0)) false (dOp (oLoad 1 false (.env 0)) false (dOp (oMov (.slot 0)) false (dOp (oNilc (.env 0)) false (dOp (oFld 4 (.env 0)) false (dOp (oLoad 1 false (.env 0)) false (dOp (oLen .sl (.env 0)) false (dOp (oBin .sub (.env 0) (.const (.int .i64 1))) false (dOp (oIdxS 5 (.env 6) (.env 0)) false (dOp (oMov (.env 0)) false dDone)))))))))))) [] [(4, 0)])
 (sSeq (sSeq (sRegion (rOp (oMov (.slot 4)) (rOp (oNilc (.env 0)) (rOp (oFld 4 (.env 0)) (rOp (oLoad 1 false (.env 0)) (rOp (oLen .sl (.env 0)) (rOp (oBin .sub (.env 0) (.const (.int .i64 1))) (rOpS 5 (oMov (.env 0)) rDone))))))))
 (sBlock 2 (sLoop (sSeq (sSeq (sRegion (rOp (oMov (.slot 5)) (rOpS 7 (oBin .geq (.env 0) (.const (.int .i64 0))) rDone)))
 (sCond (.slot 7) sSkip (sExit (.exit 2))))
 (sSeq (sBlock 3 (sRegion (rOp (oMov (.slot 0)) (rOp (oMov (.slot 4)) (rOp (oNilc (.env 0)) (rOp (oFld 4 (.env 0)) (rOp (oLoad 1 false (.env 0)) (rOp (oMov (.slot 5)) (rOp (oIdxS 1 (.env 1) (.env 0)) (rOp (oLoad 1 false (.env 0)) (rOp (oBuild [(.int .u8 0), (.int .u64 0), (.int .u64 0), (.int .u64 0), (.int .u64 0), (.str []), (.int .i64 0), (.int .i64 0), .nils] [(0, 1, (.env 0))]) (rOp (oMov (.slot 1)) (rOp (oBslice 3 1 1 [(.int .i64 0)] [(0, 1, (.env 0))]) (rOp (oCall 87 [(.env 10), (.env 2), (.env 0)]) (rOpS 1 (oMov (.env 0)) rDone)))))))))))))))
 (sRegion (rOp (oMov (.slot 5)) (rOp (oBin .sub (.env 0) (.const (.int .i64 1))) (rOpS 5 (oMov (.env 0)) rDone)))))))))
 (sSeq (sRegion (rOp (oMov (.slot 4)) (rOp (oNilc (.env 0)) (rOp (oFld 4 (.env 0)) (rOp (oStore 1 (.env 0) (.const .nils)) rDone)))))
 (sRegion (rOp (oMov (.slot 4)) (rOp (oMov (.slot 4)) (rOp (oNilc (.env 0)) (rOp (oFld 3 (.env 0)) (rOp (oLoad 1 false (.env 0)) (rOp (oMov (.slot 1)) (rOp (oBslice 3 1 1 [(.int .i64 0)] [(0, 1, (.env 0))]) (rOp (oAppend 3 1 8 (.env 2) (.env 0)) (rOp (oNilc (.env 7)) (rOp (oFld 3 (.env 0)) (rOp (oStore 1 (.env 0) (.env 2)) rDone))))))))))))))))
noncomputable def k86 : Code := codeIn Tryz.f86
theorem h86 : (cCode Tryz.prog m86 k86).map den = some e86 := by kernel_rfl
noncomputable def fn86 : AFunc := { real := true, nslots := 8, params := [(some 0), (some 1)], results := [], assign := sNone, body := e86 }
/- (*bonsai/parse.reader).add -/
noncomputable def m87 : Meta := { slots := [(0, false), (1, false), (2, false), (4, false), (6, false)], globals := gl, lid := 3889, n := 25, ext := ext }
noncomputable def e87 : CodeF := (sSeq (sRegion (rOpS 3 (oBox 67 (.slot 1)) (rOpS 4 (oMov (.const (.int .i64 0))) rDone)))
 (sSeq (sRegion (rOp (oMov (.slot 2)) (rOp (oFld 8 (.slot 3)) (rOp (oStore 1 (.env 0) (.env 1)) rDone))))
 (sSeq (sRegionD (dOp (oMov (.slot 0)) false (dOp (oMov (.slot 0)) false (dOp (oNilc (.env 0)) false (dOp (oFld 3 (.env 0)) false (dOp (oLoad 1 false (.env 0)) false (dOp (oLoad 9 true (.slot 3)) false (dOp (oBslice 67 9 1 [(.int .u8 0), (.int .u64 0), (.int .u64 0), (.int .u64 0), (.int .u64 0), (.str []), (.int .i64 0), (.int .i64 0), .nils] [(0, 9, (.env 0))]) true (dOp (oAppend 67 9 96 (.env 2) (.env 0)) true (dOp (oNilc (.env 7)) false (dOp (oFld 3 (.env 0)) false (dOp (oStore 1 (.env 0) (.env 2)) true dDone))))))))))) [⟨6, .load 1 false (.env 0), none, [2]⟩] [])
 (sSeq (sRegion (rOp (oMov (.slot 0)) (rOp (oNilc (.env 0)) (rOp (oFld 3 (.env 0)) (rOp (oLoad 1 false (.env 0)) (rOp (oLen .sl (.env 0)) (rOp (oBin .sub (.env 0) (.const (.int .i64 1))) (rOpS 4 (oMov (.env 0)) rDone))))))))
 (sExit .ret)))))
noncomputable def k87 : Code := codeIn Tryz.f87
theorem h87 : (cCode Tryz.prog m87 k87).map den = some e87 := by kernel_rfl
noncomputable def fn87 : AFunc := { real := true, nslots := 5, params := [(some 0), (some 1), (some 2)], results := [.slot 4], assign := sNone, body := e87 }
/- (*bonsai/parse.reader).word -/
noncomputable def m88 : Meta := { slots := [(0, false), (1, false), (4, false), (16, false)], globals := gl, lid := 3915, n := 30, ext := ext }
noncomputable def e88 : CodeF := (sSeq (sRegion (rOpS 2 (oAlloc 137 [(.int .u8 0), (.int .i64 0), (.int .i64 0), (.str []), (.int .u64 0), (.int .u64 0), (.int .u64 0), (.int .u64 0), (.int .i64 0), (.int .i64 0)]) rDone))
 (sSeq (sSeq (sRegionD (dOp (oMov (.slot 0)) false (dOp (oNilc (.env 0)) false (dOp (oFld 2 (.env 0)) false (dOp (oLoad 1 false (.env 0)) false (dOp (oMov (.slot 1)) false (dOp (oBin .add (.env 1) (.env 0)) false (dOp (oMov (.slot 0)) false (dOp (oNilc (.env 0)) false (dOp (oFld 0 (.env 0)) false (dOp (oLoad 1 false (.env 0)) false (dOp (oLen .sl (.env 0)) false (dOp (oBin .geq (.env 5) (.env 0)) false dDone)))))))))))) [] [(3, 0)])
 (sCond (.slot 3) (sSeq (sRegion (rOp (oBuild [(.int .u8 0), (.int .i64 0), (.int .i64 0), (.str []), (.int .u64 0), (.int .u64 0), (.int .u64 0), (.int .u64 0), (.int .i64 0), (.int .i64 0)] []) (rOp (oStore 10 (.slot 2) (.env 0)) rDone)))
 (sExit .ret)) sSkip))
 (sSeq (sRegionD (dOp (oMov (.slot 0)) false (dOp (oNilc (.env 0)) false (dOp (oFld 0 (.env 0)) false (dOp (oLoad 1 false (.env 0)) false (dOp (oMov (.slot 0)) false (dOp (oNilc (.env 0)) false (dOp (oFld 2 (.env 0)) false (dOp (oLoad 1 false (.env 0)) false (dOp (oMov (.slot 1)) false (dOp (oBin .add (.env 1) (.env 0)) false (dOp (oIdxS 10 (.env 6) (.env 0)) false (dOp (oLoad 10 true (.env 0)) false (dOp (oStore 10 (.slot 2) (.env 0)) true dDone))))))))))))) [] [])
 (sExit .ret))))
noncomputable def k88 : Code := codeIn Tryz.f88
theorem h88 : (cCode Tryz.prog m88 k88).map den = some e88 := by kernel_rfl
noncomputable def fn88 : AFunc := { real := true, nslots := 4, params := [(some 0), (some 1)], results := [.cell 2 10 true], assign := sNone, body := e88 }
/- bonsai/parse.head -/
noncomputable def m89 : Meta := { slots := [(0, false), (2, false), (4, false)], globals := gl, lid := 3946, n := 5, ext := ext }
noncomputable def e89 : CodeF := (sSeq (sRegion (rOpS 1 (oMov (.const (.int .u8 0))) rDone))
 (sSeq (sSeq (sRegion (rOp (oMov (.slot 0)) (rOpS 2 (oBin .eql (.env 0) (.const (.int .u8 4))) rDone)))
 (sCond (.slot 2) (sSeq (sRegion (rOpS 1 (oMov (.const (.int .u8 7))) rDone))
 (sExit .ret)) sSkip))
 (sSeq (sRegion (rOpS 1 (oMov (.const (.int .u8 8))) rDone))
 (sExit .ret))))
noncomputable def k89 : Code := codeIn Tryz.f89
theorem h89 : (cCode Tryz.prog m89 k89).map den = some e89 := by kernel_rfl
noncomputable def fn89 : AFunc := { real := true, nslots := 3, params := [(some 0)], results := [.slot 1], assign := sNone, body := e89 }
/- (*bonsai/parse.reader).begin -/
noncomputable def m90 : Meta := { slots := [(0, false), (2, false), (3, false), (7, false), (24, false)], globals := gl, lid := 3952, n := 35, ext := ext }
noncomputable def e90 : CodeF := (sSeq (sRegion (rOpS 1 (oMov (.const (.bool false))) rDone))
 (sSeq (sRegion (rOp (oBuild [(.int .u8 0), (.str []), .nils, .nils, .nils] [(0, 1, (.const (.int .u8 10)))]) (rOpS 2 (oAlloc 154 [(.int .u8 0), (.str []), .nils, .nils, .nils]) (rOp (oStore 5 (.env 0) (.env 1)) rDone))))
 (sSeq (sSeq (sRegion (rOp (oMov (.slot 0)) (rOp (oCall 92 [(.env 0), (.const (.int .u8 9))]) (rOpS 3 (oUn .not (.env 0)) rDone))))
 (sCond (.slot 3) (sSeq (sRegion (rOp (oMov (.slot 0)) (rOp (oCall 88 [(.env 0), (.const (.int .i64 1))]) (rOp (oGetf 3 1 false (.env 0)) (rOp (oBuild [(.int .u8 0), (.str []), .nils, .nils, .nils] [(0, 1, (.const (.int .u8 12))), (1, 1, (.env 0))]) (rOp (oStore 5 (.slot 2) (.env 0)) rDone))))))
 (sSeq (sRegion (rOp (oMov (.slot 0)) (rOp (oCall 92 [(.env 0), (.const (.int .u8 11))]) (rOp (oUn .not (.env 0)) (rOp (oMov (.env 0)) (rOpG 0 false (oMov (.slot 0)) (rOpG 1 false (oCall 92 [(.env 0), (.const (.int .u8 1))]) (rOpG 2 false (oUn .not (.env 0)) (rOp (oPick (.env 3) (.const (.bool true)) (.env 0)) (rOp (oMov (.env 0)) (rOpG 0 false (oMov (.slot 0)) (rOpG 1 false (oCall 92 [(.env 0), (.const (.int .u8 13))]) (rOpG 2 false (oUn .not (.env 0)) (rOpS 4 (oPick (.env 3) (.const (.bool true)) (.env 0)) rDone))))))))))))))
 (sCond (.slot 4) (sSeq (sRegion (rOpS 1 (oMov (.const (.bool false))) rDone))
 (sExit .ret)) sSkip))) sSkip))
 (sSeq (sRegionD (dOp (oMov (.slot 0)) false (dOp (oMov (.slot 0)) false (dOp (oNilc (.env 0)) false (dOp (oFld 4 (.env 0)) false (dOp (oLoad 1 false (.env 0)) false (dOp (oLoad 5 true (.slot 2)) false (dOp (oBslice 154 5 1 [(.int .u8 0), (.str []), .nils, .nils, .nils] [(0, 5, (.env 0))]) true (dOp (oAppend 154 5 96 (.env 2) (.env 0)) true (dOp (oNilc (.env 7)) false (dOp (oFld 4 (.env 0)) false (dOp (oStore 1 (.env 0) (.env 2)) true dDone))))))))))) [⟨6, .load 1 false (.env 0), none, [2]⟩] [])
 (sSeq (sRegion (rOpS 1 (oMov (.const (.bool true))) rDone))
 (sExit .ret))))))
noncomputable def k90 : Code := codeIn Tryz.f90
theorem h90 : (cCode Tryz.prog m90 k90).map den = some e90 := by kernel_rfl
noncomputable def fn90 : AFunc := { real := true, nslots := 5, params := [(some 0)], results := [.slot 1], assign := sNone, body := e90 }
/- (*bonsai/parse.reader).join -/
noncomputable def m91 : Meta := { slots := [(0, false), (1, false), (2, false), (6, false), (8, false), (9, false), (14, false)], globals := gl, lid := 3988, n := 24, ext := ext }
noncomputable def e91 : CodeF := (sSeq (sRegion (rOpS 3 (oMov (.const (.int .i64 0))) rDone))
 (sSeq (sSeq (sRegion (rOp (oMov (.slot 2)) (rOpS 4 (oLen .sl (.env 0)) rDone)))
 (sBlock 0 (sSeq (sRegion (rOp (oBin .eql (.slot 4) (.const (.int .i64 0))) (rOpS 5 (oMov (.env 0)) rDone)))
 (sCond (.slot 5) (sSeq (sRegion (rOp (oMov (.slot 0)) (rOp (oBuild [(.int .u8 0), (.int .u64 0), (.int .u64 0), (.int .u64 0), (.int .u64 0), (.str []), (.int .i64 0), (.int .i64 0), .nils] [(0, 1, (.const (.int .u8 0)))]) (rOp (oCall 87 [(.env 1), (.env 0), (.const .nils)]) (rOpS 3 (oMov (.env 0)) rDone)))))
 (sExit .ret)) (sSeq (sRegion (rOp (oBin .eql (.slot 4) (.const (.int .i64 1))) (rOpS 6 (oMov (.env 0)) rDone)))
 (sCond (.slot 6) (sSeq (sRegion (rOp (oMov (.slot 2)) (rOp (oIdxS 1 (.env 0) (.const (.int .i64 0))) (rOp (oLoad 1 false (.env 0)) (rOpS 3 (oMov (.env 0)) rDone)))))
 (sExit .ret)) sSkip))))))
 (sSeq (sRegion (rOp (oMov (.slot 0)) (rOp (oMov (.slot 1)) (rOp (oBuild [(.int .u8 0), (.int .u64 0), (.int .u64 0), (.int .u64 0), (.int .u64 0), (.str []), (.int .i64 0), (.int .i64 0), .nils] [(0, 1, (.env 0))]) (rOp (oMov (.slot 2)) (rOp (oCall 87 [(.env 3), (.env 1), (.env 0)]) (rOpS 3 (oMov (.env 0)) rDone)))))))
 (sExit .ret))))
noncomputable def k91 : Code := codeIn Tryz.f91
theorem h91 : (cCode Tryz.prog m91 k91).map den = some e91 := by kernel_rfl
noncomputable def fn91 : AFunc := { real := true, nslots := 7, params := [(some 0), (some 1), (some 2)], results := [.slot 3], assign := sNone, body := e91 }
/- (*bonsai/parse.reader).accept -/
noncomputable def m92 : Meta := { slots := [(0, false), (1, false), (4, false), (9, false)], globals := gl, lid := 4013, n := 17, ext := ext }
noncomputable def e92 : CodeF := (sSeq (sRegion (rOpS 2 (oMov (.const (.bool false))) rDone))
 (sSeq (sSeq (sRegion (rOp (oMov (.slot 0)) (rOp (oCall 88 [(.env 0), (.const (.int .i64 0))]) (rOp (oGetf 0 1 false (.env 0)) (rOp (oMov (.slot 1)) (rOpS 3 (oBin .neq (.env 1) (.env 0)) rDone))))))
 (sCond (.slot 3) (sSeq (sRegion (rOpS 2 (oMov (.const (.bool false))) rDone))
 (sExit .ret)) sSkip))
 (sSeq (sRegion (rOp (oMov (.slot 0)) (rOp (oNilc (.env 0)) (rOp (oFld 2 (.env 0)) (rOp (oLoad 1 false (.env 0)) (rOp (oBin .add (.env 0) (.const (.int .i64 1))) (rOp (oNilc (.env 4)) (rOp (oFld 2 (.env 0)) (rOp (oStore 1 (.env 0) (.env 2)) rDone)))))))))
 (sSeq (sRegion (rOpS 2 (oMov (.const (.bool true))) rDone))
 (sExit .ret)))))
noncomputable def k92 : Code := codeIn Tryz.f92
theorem h92 : (cCode Tryz.prog m92 k92).map den = some e92 := by kernel_rfl
noncomputable def fn92 : AFunc := { real := true, nslots := 4, params := [(some 0), (some 1)], results := [.slot 2], assign := sNone, body := e92 }
/- bonsai/expr.Make -/
noncomputable def m93 : Meta := { slots := [(0, false), (1, true), (2, true), (3, false), (4, false), (5, false), (6, false), (7, false), (8, false), (9, false), (11, false), (14, false), (22, false), (23, false), (24, false), (25, false), (30, false), (31, false), (32, false), (33, false)], globals := gl, lid := 4031, n := 61, ext := ext }
noncomputable def e93 : CodeF := (sSeq (sRegion (rOp (oBoxP 1 (.slot 0)) (rOp (oAllocP 2 [.nils, (.int .i64 0)]) (rOpS 3 (oMov (.const (.bool false))) rDone))))
 (sSeq (sSeq (sRegion (rOp (oLoadP 1 2 true (.const (.fp 0))) (rOp (oCall 53 [(.env 0)]) (rOpS 11 (oUn .not (.env 0)) rDone))))
 (sCond (.slot 11) (sSeq (sRegion (rOp (oBuild [.nils, (.int .i64 0)] []) (rOp (oStoreP 2 2 (.const (.fp 0)) (.env 0)) (rOpS 3 (oMov (.const (.bool false))) rDone))))
 (sExit .ret)) sSkip))
 (sSeq (sRegion (rOpS 4 (oAlloc 182 [.nils]) rDone))
 (sSeq (sRegion (rOp (oCall 112 []) (rOpS 5 (oAlloc 184 [.nilf, .nilf, .nilf, .nilf, .nilf, .nilf, .nilf, .nilf, .nilf, .nilf]) (rOp (oStore 10 (.env 0) (.env 1)) rDone))))
 (sSeq (sRegion (rOp (oFldP 1 0 (.const (.fp 0))) (rOp (oLoadP 1 1 false (.env 0)) (rOp (oLen .sl (.env 0)) (rOp (oMkslice 3 1 8 [(.int .i64 0)] (.env 0) (.env 0)) (rOpS 6 (oMov (.env 0)) rDone))))))
 (sSeq (sSeq (sRegion (rOp (oFldP 1 0 (.const (.fp 0))) (rOpS 12 (oLoadP 1 1 false (.env 0)) (rOpS 13 (oLen .sl (.env 0)) (rOpS 14 (oMov (.const (.int .i64 0))) rDone)))))
 (sBlock 0 (sLoop (sSeq (sRegion (rOpS 15 (oBin .lss (.slot 14) (.slot 13)) rDone))
 (sSeq (sCond (.slot 15) sSkip (sExit (.exit 0)))
 (sSeq (sBlock 1 (sSeq (sRegion (rOp (oMov (.slot 14)) (rOp (oIdxS 9 (.slot 12) (.slot 14)) (rOp (oLoad 9 true (.env 0)) (rOpS 8 (oAlloc 67 [(.int .u8 0), (.int .u64 0), (.int .u64 0), (.int .u64 0), (.int .u64 0), (.str []), (.int .i64 0), (.int .i64 0), .nils]) (rOpS 7 (oMov (.env 3)) (rOp (oStore 9 (.env 1) (.env 2)) rDone)))))))
 (sSeq (sRegion (rOpS 9 (oMov (.const .nils)) rDone))
 (sSeq (sSeq (sRegion (rOp (oFld 8 (.slot 8)) (rOpS 16 (oLoad 1 false (.env 0)) (rOpS 17 (oLen .sl (.env 0)) (rOpS 18 (oMov (.const (.int .i64 0))) rDone)))))
 (sBlock 2 (sLoop (sSeq (sRegion (rOpS 19 (oBin .lss (.slot 18) (.slot 17)) rDone))
 (sSeq (sCond (.slot 19) sSkip (sExit (.exit 2)))
 (sSeq (sBlock 3 (sSeq (sRegion (rOp (oIdxS 1 (.slot 16) (.slot 18)) (rOp (oLoad 1 false (.env 0)) (rOpS 10 (oMov (.env 0)) rDone))))
 (sRegion (rOp (oMov (.slot 9)) (rOp (oMov (.slot 6)) (rOp (oMov (.slot 10)) (rOp (oIdxS 1 (.env 1) (.env 0)) (rOp (oLoad 1 false (.env 0)) (rOp (oBslice 3 1 1 [(.int .i64 0)] [(0, 1, (.env 0))]) (rOp (oAppend 3 1 8 (.env 5) (.env 0)) (rOpS 9 (oMov (.env 0)) rDone)))))))))))
 (sRegion (rOp (oBin .add (.slot 18) (.const (.int .i64 1))) (rOpS 18 (oMov (.env 0)) rDone)))))))))
 (sRegionD (dOp (oMov (.slot 6)) false (dOp (oMov (.slot 7)) false (dOp (oFld 0 (.slot 8)) false (dOp (oLoad 1 false (.env 0)) false (dOp (oIdxP 10 1 (.slot 5) (.env 0)) false (dOp (oLoad 1 false (.env 0)) false (dOp (oLoad 9 true (.slot 8)) false (dOp (oMov (.slot 9)) false (dOp (oCallv (.env 2) [(.slot 4), (.env 1), (.env 0)]) true (dOp (oIdxS 1 (.env 8) (.env 7)) false (dOp (oStore 1 (.env 0) (.env 1)) true dDone))))))))))) [] [])))))
 (sRegion (rOp (oBin .add (.slot 14) (.const (.int .i64 1))) (rOpS 14 (oMov (.env 0)) rDone)))))))))
 (sSeq (sRegion (rOp (oMov (.slot 6)) (rOp (oFldP 1 1 (.const (.fp 0))) (rOp (oLoadP 1 1 false (.env 0)) (rOp (oIdxS 1 (.env 2) (.env 0)) (rOp (oLoad 1 false (.env 0)) (rOp (oCall 113 [(.slot 4), (.env 0)]) (rOp (oStoreP 2 2 (.const (.fp 0)) (.env 0)) (rOpS 3 (oMov (.const (.bool true))) rDone)))))))))
 (sExit .ret))))))))
noncomputable def k93 : Code := codeIn Tryz.f93
theorem h93 : (cCode Tryz.prog m93 k93).map den = some e93 := by kernel_rfl
noncomputable def fn93 : AFunc := { real := true, nslots := 20, params := [(some 0)], results := [.cellP 2 2 true, .slot 3], assign := sNone, body := e93 }
/- (*strings.Builder).copyCheck -/
noncomputable def m95 : Meta := { slots := [(0, false), (6, false), (19, false)], globals := gl, lid := 4158, n := 20, ext := ext }
noncomputable def e95 : CodeF := (sSeq (sRegion (rOp (oMov (.slot 0)) (rOp (oNilc (.env 0)) (rOp (oFld 0 (.env 0)) (rOp (oLoad 1 false (.env 0)) (rOpS 1 (oEqv false .ptr (.env 0) (.const .nilp)) rDone))))))
 (sCond (.slot 1) (sRegion (rOp (oMov (.slot 0)) (rOp (oMov (.slot 0)) (rOp (oToUnsafe (.env 0)) (rOp (oMov (.env 0)) (rOp (oFromUnsafe 128 2 (.env 0)) (rOp (oNilc (.env 4)) (rOp (oFld 0 (.env 0)) (rOp (oStore 1 (.env 0) (.env 2)) rDone))))))))) (sSeq (sRegion (rOp (oMov (.slot 0)) (rOp (oNilc (.env 0)) (rOp (oFld 0 (.env 0)) (rOp (oLoad 1 false (.env 0)) (rOp (oMov (.slot 0)) (rOpS 2 (oEqv true .ptr (.env 1) (.env 0)) rDone)))))))
 (sCond (.slot 2) sNone sSkip))))
noncomputable def k95 : Code := codeIn Tryz.f95
theorem h95 : (cCode Tryz.prog m95 k95).map den = some e95 := by kernel_rfl
noncomputable def fn95 : AFunc := { real := true, nslots := 3, params := [(some 0)], results := [], assign := sNone, body := e95 }
/- strconv.Itoa -/
noncomputable def m96 : Meta := { slots := [(0, false), (2, false)], globals := gl, lid := 4179, n := 5, ext := ext }
noncomputable def e96 : CodeF := (sSeq (sRegion (rOpS 1 (oMov (.const (.str []))) rDone))
 (sSeq (sRegion (rOp (oMov (.slot 0)) (rOp (oCall 115 [(.env 0)]) (rOpS 1 (oMov (.env 0)) rDone))))
 (sExit .ret)))
noncomputable def k96 : Code := codeIn Tryz.f96
theorem h96 : (cCode Tryz.prog m96 k96).map den = some e96 := by kernel_rfl
noncomputable def fn96 : AFunc := { real := true, nslots := 2, params := [(some 0)], results := [.slot 1], assign := sNone, body := e96 }
/- strings.Clone -/
noncomputable def m97 : Meta := { slots := [(0, false), (2, false)], globals := gl, lid := 4185, n := 5, ext := ext }
noncomputable def e97 : CodeF := (sSeq (sRegion (rOpS 1 (oMov (.const (.str []))) rDone))
 (sSeq (sRegion (rOp (oMov (.slot 0)) (rOp (oCall 116 [(.env 0)]) (rOpS 1 (oMov (.env 0)) rDone))))
 (sExit .ret)))
noncomputable def k97 : Code := codeIn Tryz.f97
theorem h97 : (cCode Tryz.prog m97 k97).map den = some e97 := by kernel_rfl
noncomputable def fn97 : AFunc := { real := true, nslots := 2, params := [(some 0)], results := [.slot 1], assign := sNone, body := e97 }
/- bonsai/name.Letter -/
noncomputable def m98 : Meta := { slots := [(0, false), (2, false)], globals := gl, lid := 4191, n := 21, ext := ext }
noncomputable def e98 : CodeF := (sSeq (sRegion (rOpS 1 (oMov (.const (.bool false))) rDone))
 (sSeq (sRegion (rOp (oMov (.slot 0)) (rOp (oBin .geq (.env 0) (.const (.int .u8 97))) (rOp (oMov (.env 0)) (rOpG 0 true (oMov (.slot 0)) (rOpG 1 true (oBin .leq (.env 0) (.const (.int .u8 122))) (rOp (oPick (.env 2) (.env 0) (.const (.bool false))) (rOp (oMov (.env 0)) (rOpG 0 false (oMov (.slot 0)) (rOpG 1 false (oBin .geq (.env 0) (.const (.int .u8 65))) (rOpG 2 false (oMov (.env 0)) (rOpG 0 true (oMov (.slot 0)) (rOpG 1 true (oBin .leq (.env 0) (.const (.int .u8 90))) (rOpG 5 false (oPick (.env 2) (.env 0) (.const (.bool false))) (rOp (oPick (.env 6) (.const (.bool true)) (.env 0)) (rOp (oMov (.env 0)) (rOpG 0 false (oMov (.slot 0)) (rOpG 1 false (oBin .eql (.env 0) (.const (.int .u8 95))) (rOp (oPick (.env 2) (.const (.bool true)) (.env 0)) (rOpS 1 (oMov (.env 0)) rDone))))))))))))))))))))
 (sExit .ret)))
noncomputable def k98 : Code := codeIn Tryz.f98
theorem h98 : (cCode Tryz.prog m98 k98).map den = some e98 := by kernel_rfl
noncomputable def fn98 : AFunc := { real := true, nslots := 2, params := [(some 0)], results := [.slot 1], assign := sNone, body := e98 }
/- bonsai/name.digit -/
noncomputable def m99 : Meta := { slots := [(0, false), (2, false)], globals := gl, lid := 4213, n := 9, ext := ext }
noncomputable def e99 : CodeF := (sSeq (sRegion (rOpS 1 (oMov (.const (.bool false))) rDone))
 (sSeq (sRegion (rOp (oMov (.slot 0)) (rOp (oBin .geq (.env 0) (.const (.int .u8 48))) (rOp (oMov (.env 0)) (rOpG 0 true (oMov (.slot 0)) (rOpG 1 true (oBin .leq (.env 0) (.const (.int .u8 57))) (rOp (oPick (.env 2) (.env 0) (.const (.bool false))) (rOpS 1 (oMov (.env 0)) rDone))))))))
 (sExit .ret)))
noncomputable def k99 : Code := codeIn Tryz.f99
theorem h99 : (cCode Tryz.prog m99 k99).map den = some e99 := by kernel_rfl
noncomputable def fn99 : AFunc := { real := true, nslots := 2, params := [(some 0)], results := [.slot 1], assign := sNone, body := e99 }
/- bonsai/tree.Size -/
noncomputable def m100 : Meta := { slots := [(0, false), (1, true), (2, false), (5, false)], globals := gl, lid := 4223, n := 9, ext := ext }
noncomputable def e100 : CodeF := (sSeq (sRegion (rOp (oBoxP 1 (.slot 0)) (rOpS 2 (oMov (.const (.int .i64 0))) rDone)))
 (sSeq (sSeq (sRegion (rOp (oLoadP 1 2 true (.const (.fp 0))) (rOp (oCall 53 [(.env 0)]) (rOpS 3 (oUn .not (.env 0)) rDone))))
 (sCond (.slot 3) (sSeq (sRegion (rOpS 2 (oMov (.const (.int .i64 0))) rDone))
 (sExit .ret)) sSkip))
 (sSeq (sRegion (rOp (oFldP 1 0 (.const (.fp 0))) (rOp (oLoadP 1 1 false (.env 0)) (rOp (oLen .sl (.env 0)) (rOpS 2 (oMov (.env 0)) rDone)))))
 (sExit .ret))))
noncomputable def k100 : Code := codeIn Tryz.f100
theorem h100 : (cCode Tryz.prog m100 k100).map den = some e100 := by kernel_rfl
noncomputable def fn100 : AFunc := { real := true, nslots := 4, params := [(some 0)], results := [.slot 2], assign := sNone, body := e100 }
/- bonsai/print.Grammar -/
noncomputable def m101 : Meta := { slots := [(0, false), (1, true), (2, false), (3, false), (5, true), (6, false), (8, false), (9, false), (10, false), (11, false), (17, false)], globals := gl, lid := 4233, n := 22, ext := ext }
noncomputable def e101 : CodeF := (sSeq (sRegion (rOp (oBoxP 1 (.slot 0)) (rOpS 2 (oMov (.const (.str []))) rDone)))
 (sSeq (sRegion (rOpS 3 (oAlloc 128 [.nilp, .nils]) rDone))
 (sSeq (sSeq (sRegion (rOp (oFldP 1 0 (.const (.fp 0))) (rOpS 6 (oLoadP 1 1 false (.env 0)) (rOpS 7 (oLen .sl (.env 0)) (rOpS 8 (oMov (.const (.int .i64 0))) rDone)))))
 (sBlock 0 (sLoop (sSeq (sRegion (rOpS 9 (oBin .lss (.slot 8) (.slot 7)) rDone))
 (sSeq (sCond (.slot 9) sSkip (sExit (.exit 0)))
 (sSeq (sBlock 1 (sSeq (sRegion (rOp (oIdxS 3 (.slot 6) (.slot 8)) (rOp (oLoad 3 true (.env 0)) (rOp (oAllocP 4 [(.str []), .nils, (.int .i64 0)]) (rOp (oStoreP 4 3 (.env 0) (.env 1)) rDone)))))
 (sSeq (sRegion (rOp (oLoadP 4 3 true (.const (.fp 0))) (rOp (oCall 117 [(.env 0)]) (rOpS 5 (oMov (.env 0)) rDone))))
 (sSeq (sSeq (sRegion (rOp (oMov (.slot 5)) (rOpS 10 (oBin .eql (.env 0) (.const (.str []))) rDone)))
 (sCond (.slot 10) (sSeq (sRegion (rOpS 2 (oMov (.const (.str []))) rDone))
 (sExit .ret)) sSkip))
 (sRegion (rOp (oMov (.slot 5)) (rOp (oCall 62 [(.slot 3), (.env 0)]) rDone)))))))
 (sRegion (rOp (oBin .add (.slot 8) (.const (.int .i64 1))) (rOpS 8 (oMov (.env 0)) rDone)))))))))
 (sSeq (sRegion (rOp (oCall 64 [(.slot 3)]) (rOpS 2 (oMov (.env 0)) rDone)))
 (sExit .ret)))))
noncomputable def k101 : Code := codeIn Tryz.f101
theorem h101 : (cCode Tryz.prog m101 k101).map den = some e101 := by kernel_rfl
noncomputable def fn101 : AFunc := { real := true, nslots := 11, params := [(some 0)], results := [.slot 2], assign := sNone, body := e101 }
/- slices.Backward[[]bonsai/api.Def,bonsai/api.Def]$1 -/
noncomputable def m102 : Meta := { slots := [(0, false), (1, false), (3, false), (8, false), (18, false)], globals := gl, lid := 4256, n := 19, ext := ext }
noncomputable def e102 : CodeF := (sSeq (sRegion (rOp (oLoad 1 false (.slot 1)) (rOp (oLen .sl (.env 0)) (rOp (oBin .sub (.env 0) (.const (.int .i64 1))) (rOpS 2 (oMov (.env 0)) rDone)))))
 (sBlock 0 (sLoop (sSeq (sSeq (sRegion (rOp (oMov (.slot 2)) (rOpS 3 (oBin .geq (.env 0) (.const (.int .i64 0))) rDone)))
 (sCond (.slot 3) sSkip (sExit (.exit 0))))
 (sSeq (sBlock 1 (sSeq (sRegion (rOp (oMov (.slot 0)) (rOp (oMov (.slot 2)) (rOp (oLoad 1 false (.slot 1)) (rOp (oMov (.slot 2)) (rOp (oIdxS 3 (.env 1) (.env 0)) (rOp (oLoad 3 true (.env 0)) (rOp (oCallv (.env 5) [(.env 4), (.env 0)]) (rOpS 4 (oUn .not (.env 0)) rDone)))))))))
 (sCond (.slot 4) (sExit .ret) sSkip)))
 (sRegion (rOp (oMov (.slot 2)) (rOp (oBin .sub (.env 0) (.const (.int .i64 1))) (rOpS 2 (oMov (.env 0)) rDone)))))))))
noncomputable def k102 : Code := codeIn Tryz.f102
theorem h102 : (cCode Tryz.prog m102 k102).map den = some e102 := by kernel_rfl
noncomputable def fn102 : AFunc := { real := true, nslots := 5, params := [(some 0), (some 1)], results := [], assign := sNone, body := e102 }
/- bonsai/table.match -/
noncomputable def m104 : Meta := { slots := [(0, false), (2, true)], globals := gl, lid := 4309, n := 6, ext := ext }
noncomputable def e104 : CodeF := (sSeq (sRegion (rOp (oAllocP 1 [(.int .i64 0), (.int .i32 0), (.int .u8 0), (.int .u8 0)]) rDone))
 (sSeq (sRegion (rOp (oMov (.slot 0)) (rOp (oConvInt .i32 (.env 0)) (rOp (oBuild [(.int .i64 0), (.int .i32 0), (.int .u8 0), (.int .u8 0)] [(2, 1, (.const (.int .u8 2))), (1, 1, (.env 0))]) (rOp (oStoreP 1 4 (.const (.fp 0)) (.env 0)) rDone)))))
 (sExit .ret)))
noncomputable def k104 : Code := codeIn Tryz.f104
theorem h104 : (cCode Tryz.prog m104 k104).map den = some e104 := by kernel_rfl
noncomputable def fn104 : AFunc := { real := true, nslots := 2, params := [(some 0)], results := [.cellP 1 4 true], assign := sNone, body := e104 }
/- bonsai/set.Has -/
noncomputable def m105 : Meta := { slots := [(0, false), (1, false), (2, true), (4, false)], globals := gl, lid := 4316, n := 14, ext := ext }
noncomputable def e105 : CodeF := (sSeq (sRegion (rOp (oBoxP 2 (.slot 0)) (rOpS 3 (oMov (.const (.bool false))) rDone)))
 (sSeq (sRegion (rOp (oMov (.slot 1)) (rOp (oBin .quo (.env 0) (.const (.int .u8 64))) (rOp (oIdxPP 2 4 1 (.const (.fp 0)) (.env 0)) (rOp (oLoadP 2 1 false (.env 0)) (rOp (oMov (.slot 1)) (rOp (oBin .rem (.env 0) (.const (.int .u8 64))) (rOp (oBin .shr (.env 2) (.env 0)) (rOp (oBin .and (.env 0) (.const (.int .u64 1))) (rOp (oBin .eql (.env 0) (.const (.int .u64 1))) (rOpS 3 (oMov (.env 0)) rDone)))))))))))
 (sExit .ret)))
noncomputable def k105 : Code := codeIn Tryz.f105
theorem h105 : (cCode Tryz.prog m105 k105).map den = some e105 := by kernel_rfl
noncomputable def fn105 : AFunc := { real := true, nslots := 4, params := [(some 0), (some 1)], results := [.slot 3], assign := sNone, body := e105 }
end Go.Proofs.YtaomafmpedgofaaGreatDoor
