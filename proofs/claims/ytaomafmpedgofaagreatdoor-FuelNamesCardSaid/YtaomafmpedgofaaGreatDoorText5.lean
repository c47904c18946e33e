import Derived.Test.YtaomafmpedgofaaGreatDoorText0
import Derived.KernelRfl
namespace Go.Proofs.YtaomafmpedgofaaGreatDoor
open Go Go.Vm
set_option maxRecDepth 100000
/- bonsai/lex.named -/
noncomputable def m136 : Meta := { slots := [(0, false), (1, false), (4, true), (5, false), (6, false)], globals := gl, lid := 5274, n := 20, ext := ext }
noncomputable def e136 : CodeF := (sSeq (sRegion (rOp (oAllocP 2 [(.int .u8 0), (.int .i64 0), (.int .i64 0), (.str []), (.int .u64 0), (.int .u64 0), (.int .u64 0), (.int .u64 0), (.int .i64 0), (.int .i64 0)]) (rOpS 3 (oMov (.const (.bool false))) rDone)))
 (sSeq (sRegion (rOp (oMov (.slot 0)) (rOp (oMov (.slot 1)) (rOp (oSlice true 0 (.env 1) (some (.env 0)) none none) (rOp (oCall 66 [(.env 0)]) (rOpS 4 (oMov (.env 0)) rDone))))))
 (sSeq (sRegion (rOp (oMov (.slot 1)) (rOp (oMov (.slot 1)) (rOp (oMov (.slot 4)) (rOp (oLen .str (.env 0)) (rOp (oBin .add (.env 2) (.env 0)) (rOp (oMov (.slot 4)) (rOp (oBuild [(.int .u8 0), (.int .i64 0), (.int .i64 0), (.str []), (.int .u64 0), (.int .u64 0), (.int .u64 0), (.int .u64 0), (.int .i64 0), (.int .i64 0)] [(0, 1, (.const (.int .u8 1))), (1, 1, (.env 5)), (2, 1, (.env 1)), (3, 1, (.env 0))]) (rOp (oMov (.slot 4)) (rOp (oCall 43 [(.env 0)]) (rOp (oStoreP 2 10 (.const (.fp 0)) (.env 2)) (rOpS 3 (oMov (.env 1)) rDone))))))))))))
 (sExit .ret))))
noncomputable def k136 : Code := codeIn Tryz.f136
theorem h136 : (cCode Tryz.prog m136 k136).map den = some e136 := by kernel_rfl
noncomputable def fn136 : AFunc := { real := true, nslots := 5, params := [(some 0), (some 1)], results := [.cellP 2 10 true, .slot 3], assign := sNone, body := e136 }
/- strings.IndexByte -/
noncomputable def m137 : Meta := { slots := [(0, false), (1, false), (4, false)], globals := gl, lid := 5295, n := 8, ext := ext }
noncomputable def e137 : CodeF := (sSeq (sRegion (rOpS 2 (oMov (.const (.int .i64 0))) rDone))
 (sSeq (sRegion (rOp (oMov (.slot 0)) (rOp (oMov (.slot 1)) (rOp (oCall 155 [(.env 1), (.env 0)]) (rOpS 2 (oMov (.env 0)) rDone)))))
 (sExit .ret)))
noncomputable def k137 : Code := codeIn Tryz.f137
theorem h137 : (cCode Tryz.prog m137 k137).map den = some e137 := by kernel_rfl
noncomputable def fn137 : AFunc := { real := true, nslots := 3, params := [(some 0), (some 1)], results := [.slot 2], assign := sNone, body := e137 }
/- (*bonsai/expr.arena).add -/
noncomputable def m138 : Meta := { slots := [(0, false), (1, false), (3, false), (4, false)], globals := gl, lid := 5304, n := 21, ext := ext }
noncomputable def e138 : CodeF := (sSeq (sRegion (rOpS 2 (oBox 67 (.slot 1)) (rOpS 3 (oMov (.const (.int .i64 0))) rDone)))
 (sSeq (sRegionD (dOp (oMov (.slot 0)) false (dOp (oMov (.slot 0)) false (dOp (oNilc (.env 0)) false (dOp (oFld 0 (.env 0)) false (dOp (oLoad 1 false (.env 0)) false (dOp (oLoad 9 true (.slot 2)) false (dOp (oBslice 67 9 1 [(.int .u8 0), (.int .u64 0), (.int .u64 0), (.int .u64 0), (.int .u64 0), (.str []), (.int .i64 0), (.int .i64 0), .nils] [(0, 9, (.env 0))]) true (dOp (oAppend 67 9 96 (.env 2) (.env 0)) true (dOp (oNilc (.env 7)) false (dOp (oFld 0 (.env 0)) false (dOp (oStore 1 (.env 0) (.env 2)) true dDone))))))))))) [⟨6, .load 1 false (.env 0), none, [2]⟩] [])
 (sSeq (sRegion (rOp (oMov (.slot 0)) (rOp (oNilc (.env 0)) (rOp (oFld 0 (.env 0)) (rOp (oLoad 1 false (.env 0)) (rOp (oLen .sl (.env 0)) (rOp (oBin .sub (.env 0) (.const (.int .i64 1))) (rOpS 3 (oMov (.env 0)) rDone))))))))
 (sExit .ret))))
noncomputable def k138 : Code := codeIn Tryz.f138
theorem h138 : (cCode Tryz.prog m138 k138).map den = some e138 := by kernel_rfl
noncomputable def fn138 : AFunc := { real := true, nslots := 4, params := [(some 0), (some 1)], results := [.slot 3], assign := sNone, body := e138 }
/- (*bonsai/expr.arena).join -/
noncomputable def m139 : Meta := { slots := [(0, false), (1, false), (2, false), (3, false), (4, false), (5, false), (7, true), (8, false), (9, false), (10, false), (12, false), (14, false), (15, false), (16, false), (17, false), (25, false), (26, false), (31, false)], globals := gl, lid := 5326, n := 40, ext := ext }
noncomputable def e139 : CodeF := (sSeq (sRegion (rOpS 4 (oBox 186 (.slot 0)) (rOpS 5 (oBox 67 (.slot 1)) (rOp (oBoxP 6 (.slot 3)) (rOpS 7 (oMov (.const (.int .i64 0))) rDone)))))
 (sSeq (sRegion (rOpS 8 (oAlloc 65 [.nils]) rDone))
 (sSeq (sRegion (rOp (oMkfn 156 [] [(.slot 5), (.slot 4), (.slot 8)]) (rOpS 9 (oMov (.env 0)) rDone)))
 (sSeq (sSeq (sRegion (rOpS 11 (oMov (.slot 2)) (rOpS 12 (oLen .sl (.env 0)) (rOpS 13 (oMov (.const (.int .i64 0))) rDone))))
 (sBlock 0 (sLoop (sSeq (sRegion (rOpS 14 (oBin .lss (.slot 13) (.slot 12)) rDone))
 (sSeq (sCond (.slot 14) sSkip (sExit (.exit 0)))
 (sSeq (sBlock 1 (sSeq (sRegion (rOp (oIdxS 1 (.slot 11) (.slot 13)) (rOp (oLoad 1 false (.env 0)) (rOpS 10 (oMov (.env 0)) rDone))))
 (sRegion (rOp (oMov (.slot 9)) (rOp (oMov (.slot 10)) (rOp (oCallv (.env 1) [(.env 0)]) rDone))))))
 (sRegion (rOp (oBin .add (.slot 13) (.const (.int .i64 1))) (rOpS 13 (oMov (.env 0)) rDone)))))))))
 (sSeq (sSeq (sRegion (rOp (oLoad 1 false (.slot 8)) (rOpS 15 (oLen .sl (.env 0)) rDone)))
 (sBlock 2 (sSeq (sRegion (rOp (oBin .eql (.slot 15) (.const (.int .i64 0))) (rOpS 16 (oMov (.env 0)) rDone)))
 (sCond (.slot 16) (sSeq (sRegion (rOp (oLoad 1 false (.slot 4)) (rOp (oLoadP 6 9 true (.const (.fp 0))) (rOp (oCall 138 [(.env 1), (.env 0)]) (rOpS 7 (oMov (.env 0)) rDone)))))
 (sExit .ret)) (sSeq (sRegion (rOp (oBin .eql (.slot 15) (.const (.int .i64 1))) (rOpS 17 (oMov (.env 0)) rDone)))
 (sCond (.slot 17) (sSeq (sRegion (rOp (oLoad 1 false (.slot 8)) (rOp (oIdxS 1 (.env 0) (.const (.int .i64 0))) (rOp (oLoad 1 false (.env 0)) (rOpS 7 (oMov (.env 0)) rDone)))))
 (sExit .ret)) sSkip))))))
 (sSeq (sRegion (rOp (oLoad 1 false (.slot 4)) (rOp (oLoad 9 true (.slot 5)) (rOp (oLoad 1 false (.slot 8)) (rOp (oCall 123 [(.env 2), (.env 1), (.env 0)]) (rOpS 7 (oMov (.env 0)) rDone))))))
 (sExit .ret)))))))
noncomputable def k139 : Code := codeIn Tryz.f139
theorem h139 : (cCode Tryz.prog m139 k139).map den = some e139 := by kernel_rfl
noncomputable def fn139 : AFunc := { real := true, nslots := 18, params := [(some 0), (some 1), (some 2), (some 3)], results := [.slot 7], assign := sNone, body := e139 }
/- slices.Backward[[]int,int] -/
noncomputable def m140 : Meta := { slots := [(0, false), (1, false), (2, false)], globals := gl, lid := 5367, n := 4, ext := ext }
noncomputable def e140 : CodeF := (sSeq (sRegion (rOpS 1 (oBox 65 (.slot 0)) (rOpS 2 (oMov (.const .nilf)) rDone)))
 (sSeq (sRegion (rOp (oMkfn 157 [] [(.slot 1)]) (rOpS 2 (oMov (.env 0)) rDone)))
 (sExit .ret)))
noncomputable def k140 : Code := codeIn Tryz.f140
theorem h140 : (cCode Tryz.prog m140 k140).map den = some e140 := by kernel_rfl
noncomputable def fn140 : AFunc := { real := true, nslots := 3, params := [(some 0)], results := [.slot 2], assign := sNone, body := e140 }
/- internal/strconv.small -/
noncomputable def m141 : Meta := { slots := [(0, false), (2, false), (4, false)], globals := gl, lid := 5372, n := 15, ext := ext }
noncomputable def e141 : CodeF := (sSeq (sRegion (rOpS 1 (oMov (.const (.str []))) rDone))
 (sSeq (sSeq (sRegion (rOp (oMov (.slot 0)) (rOpS 2 (oBin .lss (.env 0) (.const (.int .i64 10))) rDone)))
 (sCond (.slot 2) (sSeq (sRegion (rOp (oMov (.slot 0)) (rOp (oMov (.slot 0)) (rOp (oBin .add (.env 0) (.const (.int .i64 1))) (rOp (oSlice true 0 (.const (.str [48, 49, 50, 51, 52, 53, 54, 55, 56, 57, 97, 98, 99, 100, 101, 102, 103, 104, 105, 106, 107, 108, 109, 110, 111, 112, 113, 114, 115, 116, 117, 118, 119, 120, 121, 122])) (some (.env 2)) (some (.env 0)) none) (rOpS 1 (oMov (.env 0)) rDone))))))
 (sExit .ret)) sSkip))
 (sSeq (sRegion (rOp (oMov (.slot 0)) (rOp (oBin .mul (.env 0) (.const (.int .i64 2))) (rOp (oMov (.slot 0)) (rOp (oBin .mul (.env 0) (.const (.int .i64 2))) (rOp (oBin .add (.env 0) (.const (.int .i64 2))) (rOp (oSlice true 0 (.const (.str [48, 48, 48, 49, 48, 50, 48, 51, 48, 52, 48, 53, 48, 54, 48, 55, 48, 56, 48, 57, 49, 48, 49, 49, 49, 50, 49, 51, 49, 52, 49, 53, 49, 54, 49, 55, 49, 56, 49, 57, 50, 48, 50, 49, 50, 50, 50, 51, 50, 52, 50, 53, 50, 54, 50, 55, 50, 56, 50, 57, 51, 48, 51, 49, 51, 50, 51, 51, 51, 52, 51, 53, 51, 54, 51, 55, 51, 56, 51, 57, 52, 48, 52, 49, 52, 50, 52, 51, 52, 52, 52, 53, 52, 54, 52, 55, 52, 56, 52, 57, 53, 48, 53, 49, 53, 50, 53, 51, 53, 52, 53, 53, 53, 54, 53, 55, 53, 56, 53, 57, 54, 48, 54, 49, 54, 50, 54, 51, 54, 52, 54, 53, 54, 54, 54, 55, 54, 56, 54, 57, 55, 48, 55, 49, 55, 50, 55, 51, 55, 52, 55, 53, 55, 54, 55, 55, 55, 56, 55, 57, 56, 48, 56, 49, 56, 50, 56, 51, 56, 52, 56, 53, 56, 54, 56, 55, 56, 56, 56, 57, 57, 48, 57, 49, 57, 50, 57, 51, 57, 52, 57, 53, 57, 54, 57, 55, 57, 56, 57, 57])) (some (.env 3)) (some (.env 0)) none) (rOpS 1 (oMov (.env 0)) rDone))))))))
 (sExit .ret))))
noncomputable def k141 : Code := codeIn Tryz.f141
theorem h141 : (cCode Tryz.prog m141 k141).map den = some e141 := by kernel_rfl
noncomputable def fn141 : AFunc := { real := true, nslots := 3, params := [(some 0)], results := [.slot 1], assign := sNone, body := e141 }
/- internal/strconv.numDigits -/
noncomputable def m142 : Meta := { slots := [(0, false), (2, false), (3, false)], globals := gl, lid := 5388, n := 15, ext := ext }
noncomputable def e142 : CodeF := (sSeq (sRegion (rOpS 1 (oMov (.const (.int .i64 0))) rDone))
 (sSeq (sRegion (rOp (oMov (.slot 0)) (rOp (oCall 159 [(.env 0)]) (rOp (oCall 158 [(.env 0)]) (rOpS 2 (oMov (.env 0)) rDone)))))
 (sSeq (sRegion (rOp (oMov (.slot 2)) (rOp (oMov (.slot 0)) (rOp (oMov (.slot 2)) (rOp (oIdxP 20 1 (.const (.plit false gl2 0)) (.env 0)) (rOp (oLoad 1 false (.env 0)) (rOp (oBin .geq (.env 3) (.env 0)) (rOp (oCall 160 [(.env 0)]) (rOp (oBin .add (.env 6) (.env 0)) (rOpS 1 (oMov (.env 0)) rDone))))))))))
 (sExit .ret))))
noncomputable def k142 : Code := codeIn Tryz.f142
theorem h142 : (cCode Tryz.prog m142 k142).map den = some e142 := by kernel_rfl
noncomputable def fn142 : AFunc := { real := true, nslots := 3, params := [(some 0)], results := [.slot 1], assign := sNone, body := e142 }
/- internal/strconv.formatBase10 -/
noncomputable def m143 : Meta := { slots := [(0, false), (1, false), (4, false), (5, false), (6, false), (7, false), (8, false), (9, false), (10, false), (11, false), (12, false), (13, false), (14, false), (15, false), (16, false), (20, false), (99, false), (139, false), (161, false)], globals := gl, lid := 5404, n := 167, ext := ext }
noncomputable def e143 : CodeF := (sSeq (sRegion (rOp (oMov (.slot 0)) (rOp (oLen .sl (.env 0)) (rOpS 2 (oMov (.env 0)) rDone))))
 (sSeq (sBlock 0 (sLoop (sSeq (sSeq (sRegion (rOp (oMov (.slot 2)) (rOpS 15 (oBin .geq (.env 0) (.const (.int .i64 8))) rDone)))
 (sCond (.slot 15) sSkip (sExit (.exit 0))))
 (sBlock 1 (sSeq (sRegion (rOp (oMov (.slot 1)) (rOp (oBin .rem (.env 0) (.const (.int .u64 100000000))) (rOp (oConvInt .u32 (.env 0)) (rOpS 3 (oMov (.env 0)) rDone)))))
 (sSeq (sRegion (rOp (oMov (.slot 1)) (rOp (oBin .quo (.env 0) (.const (.int .u64 100000000))) (rOpS 1 (oMov (.env 0)) rDone))))
 (sSeq (sRegion (rOp (oMov (.slot 3)) (rOp (oBin .quo (.env 0) (.const (.int .u32 10000))) (rOp (oMov (.slot 3)) (rOp (oBin .rem (.env 0) (.const (.int .u32 10000))) (rOpS 4 (oMov (.env 2)) (rOpS 5 (oMov (.env 1)) rDone)))))))
 (sSeq (sRegion (rOp (oMov (.slot 5)) (rOp (oBin .quo (.env 0) (.const (.int .u32 100))) (rOp (oBin .mul (.env 0) (.const (.int .u32 2))) (rOp (oMov (.slot 5)) (rOp (oBin .rem (.env 0) (.const (.int .u32 100))) (rOp (oBin .mul (.env 0) (.const (.int .u32 2))) (rOpS 6 (oMov (.env 3)) (rOpS 7 (oMov (.env 1)) rDone)))))))))
 (sSeq (sRegion (rOp (oMov (.slot 4)) (rOp (oBin .quo (.env 0) (.const (.int .u32 100))) (rOp (oBin .mul (.env 0) (.const (.int .u32 2))) (rOp (oMov (.slot 4)) (rOp (oBin .rem (.env 0) (.const (.int .u32 100))) (rOp (oBin .mul (.env 0) (.const (.int .u32 2))) (rOpS 8 (oMov (.env 3)) (rOpS 9 (oMov (.env 1)) rDone)))))))))
 (sSeq (sRegionD (dOp (oMov (.slot 0)) false (dOp (oMov (.slot 2)) false (dOp (oBin .sub (.env 0) (.const (.int .i64 1))) false (dOp (oMov (.slot 0)) false (dOp (oMov (.slot 2)) false (dOp (oBin .sub (.env 0) (.const (.int .i64 2))) false (dOp (oMov (.slot 7)) false (dOp (oBin .add (.env 0) (.const (.int .u32 1))) false (dOp (oIdxStr (.const (.str [48, 48, 48, 49, 48, 50, 48, 51, 48, 52, 48, 53, 48, 54, 48, 55, 48, 56, 48, 57, 49, 48, 49, 49, 49, 50, 49, 51, 49, 52, 49, 53, 49, 54, 49, 55, 49, 56, 49, 57, 50, 48, 50, 49, 50, 50, 50, 51, 50, 52, 50, 53, 50, 54, 50, 55, 50, 56, 50, 57, 51, 48, 51, 49, 51, 50, 51, 51, 51, 52, 51, 53, 51, 54, 51, 55, 51, 56, 51, 57, 52, 48, 52, 49, 52, 50, 52, 51, 52, 52, 52, 53, 52, 54, 52, 55, 52, 56, 52, 57, 53, 48, 53, 49, 53, 50, 53, 51, 53, 52, 53, 53, 53, 54, 53, 55, 53, 56, 53, 57, 54, 48, 54, 49, 54, 50, 54, 51, 54, 52, 54, 53, 54, 54, 54, 55, 54, 56, 54, 57, 55, 48, 55, 49, 55, 50, 55, 51, 55, 52, 55, 53, 55, 54, 55, 55, 55, 56, 55, 57, 56, 48, 56, 49, 56, 50, 56, 51, 56, 52, 56, 53, 56, 54, 56, 55, 56, 56, 56, 57, 57, 48, 57, 49, 57, 50, 57, 51, 57, 52, 57, 53, 57, 54, 57, 55, 57, 56, 57, 57])) (.env 0)) false (dOp (oMov (.slot 7)) false (dOp (oIdxStr (.const (.str [48, 48, 48, 49, 48, 50, 48, 51, 48, 52, 48, 53, 48, 54, 48, 55, 48, 56, 48, 57, 49, 48, 49, 49, 49, 50, 49, 51, 49, 52, 49, 53, 49, 54, 49, 55, 49, 56, 49, 57, 50, 48, 50, 49, 50, 50, 50, 51, 50, 52, 50, 53, 50, 54, 50, 55, 50, 56, 50, 57, 51, 48, 51, 49, 51, 50, 51, 51, 51, 52, 51, 53, 51, 54, 51, 55, 51, 56, 51, 57, 52, 48, 52, 49, 52, 50, 52, 51, 52, 52, 52, 53, 52, 54, 52, 55, 52, 56, 52, 57, 53, 48, 53, 49, 53, 50, 53, 51, 53, 52, 53, 53, 53, 54, 53, 55, 53, 56, 53, 57, 54, 48, 54, 49, 54, 50, 54, 51, 54, 52, 54, 53, 54, 54, 54, 55, 54, 56, 54, 57, 55, 48, 55, 49, 55, 50, 55, 51, 55, 52, 55, 53, 55, 54, 55, 55, 55, 56, 55, 57, 56, 48, 56, 49, 56, 50, 56, 51, 56, 52, 56, 53, 56, 54, 56, 55, 56, 56, 56, 57, 57, 48, 57, 49, 57, 50, 57, 51, 57, 52, 57, 53, 57, 54, 57, 55, 57, 56, 57, 57])) (.env 0)) false (dOp (oIdxS 1 (.env 10) (.env 8)) false (dOp (oStore 1 (.env 0) (.env 3)) true (dOp (oIdxS 1 (.env 9) (.env 7)) false (dOp (oStore 1 (.env 0) (.env 3)) true dDone))))))))))))))) [] [])
 (sSeq (sRegionD (dOp (oMov (.slot 0)) false (dOp (oMov (.slot 2)) false (dOp (oBin .sub (.env 0) (.const (.int .i64 3))) false (dOp (oMov (.slot 0)) false (dOp (oMov (.slot 2)) false (dOp (oBin .sub (.env 0) (.const (.int .i64 4))) false (dOp (oMov (.slot 6)) false (dOp (oBin .add (.env 0) (.const (.int .u32 1))) false (dOp (oIdxStr (.const (.str [48, 48, 48, 49, 48, 50, 48, 51, 48, 52, 48, 53, 48, 54, 48, 55, 48, 56, 48, 57, 49, 48, 49, 49, 49, 50, 49, 51, 49, 52, 49, 53, 49, 54, 49, 55, 49, 56, 49, 57, 50, 48, 50, 49, 50, 50, 50, 51, 50, 52, 50, 53, 50, 54, 50, 55, 50, 56, 50, 57, 51, 48, 51, 49, 51, 50, 51, 51, 51, 52, 51, 53, 51, 54, 51, 55, 51, 56, 51, 57, 52, 48, 52, 49, 52, 50, 52, 51, 52, 52, 52, 53, 52, 54, 52, 55, 52, 56, 52, 57, 53, 48, 53, 49, 53, 50, 53, 51, 53, 52, 53, 53, 53, 54, 53, 55, 53, 56, 53, 57, 54, 48, 54, 49, 54, 50, 54, 51, 54, 52, 54, 53, 54, 54, 54, 55, 54, 56, 54, 57, 55, 48, 55, 49, 55, 50, 55, 51, 55, 52, 55, 53, 55, 54, 55, 55, 55, 56, 55, 57, 56, 48, 56, 49, 56, 50, 56, 51, 56, 52, 56, 53, 56, 54, 56, 55, 56, 56, 56, 57, 57, 48, 57, 49, 57, 50, 57, 51, 57, 52, 57, 53, 57, 54, 57, 55, 57, 56, 57, 57])) (.env 0)) false (dOp (oMov (.slot 6)) false (dOp (oIdxStr (.const (.str [48, 48, 48, 49, 48, 50, 48, 51, 48, 52, 48, 53, 48, 54, 48, 55, 48, 56, 48, 57, 49, 48, 49, 49, 49, 50, 49, 51, 49, 52, 49, 53, 49, 54, 49, 55, 49, 56, 49, 57, 50, 48, 50, 49, 50, 50, 50, 51, 50, 52, 50, 53, 50, 54, 50, 55, 50, 56, 50, 57, 51, 48, 51, 49, 51, 50, 51, 51, 51, 52, 51, 53, 51, 54, 51, 55, 51, 56, 51, 57, 52, 48, 52, 49, 52, 50, 52, 51, 52, 52, 52, 53, 52, 54, 52, 55, 52, 56, 52, 57, 53, 48, 53, 49, 53, 50, 53, 51, 53, 52, 53, 53, 53, 54, 53, 55, 53, 56, 53, 57, 54, 48, 54, 49, 54, 50, 54, 51, 54, 52, 54, 53, 54, 54, 54, 55, 54, 56, 54, 57, 55, 48, 55, 49, 55, 50, 55, 51, 55, 52, 55, 53, 55, 54, 55, 55, 55, 56, 55, 57, 56, 48, 56, 49, 56, 50, 56, 51, 56, 52, 56, 53, 56, 54, 56, 55, 56, 56, 56, 57, 57, 48, 57, 49, 57, 50, 57, 51, 57, 52, 57, 53, 57, 54, 57, 55, 57, 56, 57, 57])) (.env 0)) false (dOp (oIdxS 1 (.env 10) (.env 8)) false (dOp (oStore 1 (.env 0) (.env 3)) true (dOp (oIdxS 1 (.env 9) (.env 7)) false (dOp (oStore 1 (.env 0) (.env 3)) true dDone))))))))))))))) [] [])
 (sSeq (sRegionD (dOp (oMov (.slot 0)) false (dOp (oMov (.slot 2)) false (dOp (oBin .sub (.env 0) (.const (.int .i64 5))) false (dOp (oMov (.slot 0)) false (dOp (oMov (.slot 2)) false (dOp (oBin .sub (.env 0) (.const (.int .i64 6))) false (dOp (oMov (.slot 9)) false (dOp (oBin .add (.env 0) (.const (.int .u32 1))) false (dOp (oIdxStr (.const (.str [48, 48, 48, 49, 48, 50, 48, 51, 48, 52, 48, 53, 48, 54, 48, 55, 48, 56, 48, 57, 49, 48, 49, 49, 49, 50, 49, 51, 49, 52, 49, 53, 49, 54, 49, 55, 49, 56, 49, 57, 50, 48, 50, 49, 50, 50, 50, 51, 50, 52, 50, 53, 50, 54, 50, 55, 50, 56, 50, 57, 51, 48, 51, 49, 51, 50, 51, 51, 51, 52, 51, 53, 51, 54, 51, 55, 51, 56, 51, 57, 52, 48, 52, 49, 52, 50, 52, 51, 52, 52, 52, 53, 52, 54, 52, 55, 52, 56, 52, 57, 53, 48, 53, 49, 53, 50, 53, 51, 53, 52, 53, 53, 53, 54, 53, 55, 53, 56, 53, 57, 54, 48, 54, 49, 54, 50, 54, 51, 54, 52, 54, 53, 54, 54, 54, 55, 54, 56, 54, 57, 55, 48, 55, 49, 55, 50, 55, 51, 55, 52, 55, 53, 55, 54, 55, 55, 55, 56, 55, 57, 56, 48, 56, 49, 56, 50, 56, 51, 56, 52, 56, 53, 56, 54, 56, 55, 56, 56, 56, 57, 57, 48, 57, 49, 57, 50, 57, 51, 57, 52, 57, 53, 57, 54, 57, 55, 57, 56, 57, 57])) (.env 0)) false (dOp (oMov (.slot 9)) false (dOp (oIdxStr (.const (.str [48, 48, 48, 49, 48, 50, 48, 51, 48, 52, 48, 53, 48, 54, 48, 55, 48, 56, 48, 57, 49, 48, 49, 49, 49, 50, 49, 51, 49, 52, 49, 53, 49, 54, 49, 55, 49, 56, 49, 57, 50, 48, 50, 49, 50, 50, 50, 51, 50, 52, 50, 53, 50, 54, 50, 55, 50, 56, 50, 57, 51, 48, 51, 49, 51, 50, 51, 51, 51, 52, 51, 53, 51, 54, 51, 55, 51, 56, 51, 57, 52, 48, 52, 49, 52, 50, 52, 51, 52, 52, 52, 53, 52, 54, 52, 55, 52, 56, 52, 57, 53, 48, 53, 49, 53, 50, 53, 51, 53, 52, 53, 53, 53, 54, 53, 55, 53, 56, 53, 57, 54, 48, 54, 49, 54, 50, 54, 51, 54, 52, 54, 53, 54, 54, 54, 55, 54, 56, 54, 57, 55, 48, 55, 49, 55, 50, 55, 51, 55, 52, 55, 53, 55, 54, 55, 55, 55, 56, 55, 57, 56, 48, 56, 49, 56, 50, 56, 51, 56, 52, 56, 53, 56, 54, 56, 55, 56, 56, 56, 57, 57, 48, 57, 49, 57, 50, 57, 51, 57, 52, 57, 53, 57, 54, 57, 55, 57, 56, 57, 57])) (.env 0)) false (dOp (oIdxS 1 (.env 10) (.env 8)) false (dOp (oStore 1 (.env 0) (.env 3)) true (dOp (oIdxS 1 (.env 9) (.env 7)) false (dOp (oStore 1 (.env 0) (.env 3)) true dDone))))))))))))))) [] [])
 (sSeq (sRegionD (dOp (oMov (.slot 0)) false (dOp (oMov (.slot 2)) false (dOp (oBin .sub (.env 0) (.const (.int .i64 7))) false (dOp (oMov (.slot 0)) false (dOp (oMov (.slot 2)) false (dOp (oBin .sub (.env 0) (.const (.int .i64 8))) false (dOp (oMov (.slot 8)) false (dOp (oBin .add (.env 0) (.const (.int .u32 1))) false (dOp (oIdxStr (.const (.str [48, 48, 48, 49, 48, 50, 48, 51, 48, 52, 48, 53, 48, 54, 48, 55, 48, 56, 48, 57, 49, 48, 49, 49, 49, 50, 49, 51, 49, 52, 49, 53, 49, 54, 49, 55, 49, 56, 49, 57, 50, 48, 50, 49, 50, 50, 50, 51, 50, 52, 50, 53, 50, 54, 50, 55, 50, 56, 50, 57, 51, 48, 51, 49, 51, 50, 51, 51, 51, 52, 51, 53, 51, 54, 51, 55, 51, 56, 51, 57, 52, 48, 52, 49, 52, 50, 52, 51, 52, 52, 52, 53, 52, 54, 52, 55, 52, 56, 52, 57, 53, 48, 53, 49, 53, 50, 53, 51, 53, 52, 53, 53, 53, 54, 53, 55, 53, 56, 53, 57, 54, 48, 54, 49, 54, 50, 54, 51, 54, 52, 54, 53, 54, 54, 54, 55, 54, 56, 54, 57, 55, 48, 55, 49, 55, 50, 55, 51, 55, 52, 55, 53, 55, 54, 55, 55, 55, 56, 55, 57, 56, 48, 56, 49, 56, 50, 56, 51, 56, 52, 56, 53, 56, 54, 56, 55, 56, 56, 56, 57, 57, 48, 57, 49, 57, 50, 57, 51, 57, 52, 57, 53, 57, 54, 57, 55, 57, 56, 57, 57])) (.env 0)) false (dOp (oMov (.slot 8)) false (dOp (oIdxStr (.const (.str [48, 48, 48, 49, 48, 50, 48, 51, 48, 52, 48, 53, 48, 54, 48, 55, 48, 56, 48, 57, 49, 48, 49, 49, 49, 50, 49, 51, 49, 52, 49, 53, 49, 54, 49, 55, 49, 56, 49, 57, 50, 48, 50, 49, 50, 50, 50, 51, 50, 52, 50, 53, 50, 54, 50, 55, 50, 56, 50, 57, 51, 48, 51, 49, 51, 50, 51, 51, 51, 52, 51, 53, 51, 54, 51, 55, 51, 56, 51, 57, 52, 48, 52, 49, 52, 50, 52, 51, 52, 52, 52, 53, 52, 54, 52, 55, 52, 56, 52, 57, 53, 48, 53, 49, 53, 50, 53, 51, 53, 52, 53, 53, 53, 54, 53, 55, 53, 56, 53, 57, 54, 48, 54, 49, 54, 50, 54, 51, 54, 52, 54, 53, 54, 54, 54, 55, 54, 56, 54, 57, 55, 48, 55, 49, 55, 50, 55, 51, 55, 52, 55, 53, 55, 54, 55, 55, 55, 56, 55, 57, 56, 48, 56, 49, 56, 50, 56, 51, 56, 52, 56, 53, 56, 54, 56, 55, 56, 56, 56, 57, 57, 48, 57, 49, 57, 50, 57, 51, 57, 52, 57, 53, 57, 54, 57, 55, 57, 56, 57, 57])) (.env 0)) false (dOp (oIdxS 1 (.env 10) (.env 8)) false (dOp (oStore 1 (.env 0) (.env 3)) true (dOp (oIdxS 1 (.env 9) (.env 7)) false (dOp (oStore 1 (.env 0) (.env 3)) true dDone))))))))))))))) [] [])
 (sRegion (rOp (oMov (.slot 2)) (rOp (oBin .sub (.env 0) (.const (.int .i64 8))) (rOpS 2 (oMov (.env 0)) rDone)))))))))))))))))
 (sSeq (sRegion (rOp (oMov (.slot 1)) (rOp (oConvInt .u32 (.env 0)) (rOpS 10 (oMov (.env 0)) rDone))))
 (sSeq (sSeq (sRegion (rOp (oMov (.slot 2)) (rOpS 16 (oBin .geq (.env 0) (.const (.int .i64 4))) rDone)))
 (sCond (.slot 16) (sSeq (sRegion (rOp (oMov (.slot 10)) (rOp (oBin .rem (.env 0) (.const (.int .u32 10000))) (rOpS 11 (oMov (.env 0)) rDone))))
 (sSeq (sRegion (rOp (oMov (.slot 10)) (rOp (oBin .quo (.env 0) (.const (.int .u32 10000))) (rOpS 10 (oMov (.env 0)) rDone))))
 (sSeq (sRegion (rOp (oMov (.slot 11)) (rOp (oBin .quo (.env 0) (.const (.int .u32 100))) (rOp (oBin .mul (.env 0) (.const (.int .u32 2))) (rOp (oMov (.slot 11)) (rOp (oBin .rem (.env 0) (.const (.int .u32 100))) (rOp (oBin .mul (.env 0) (.const (.int .u32 2))) (rOpS 12 (oMov (.env 3)) (rOpS 13 (oMov (.env 1)) rDone)))))))))
 (sSeq (sRegionD (dOp (oMov (.slot 0)) false (dOp (oMov (.slot 2)) false (dOp (oBin .sub (.env 0) (.const (.int .i64 1))) false (dOp (oMov (.slot 0)) false (dOp (oMov (.slot 2)) false (dOp (oBin .sub (.env 0) (.const (.int .i64 2))) false (dOp (oMov (.slot 13)) false (dOp (oBin .add (.env 0) (.const (.int .u32 1))) false (dOp (oIdxStr (.const (.str [48, 48, 48, 49, 48, 50, 48, 51, 48, 52, 48, 53, 48, 54, 48, 55, 48, 56, 48, 57, 49, 48, 49, 49, 49, 50, 49, 51, 49, 52, 49, 53, 49, 54, 49, 55, 49, 56, 49, 57, 50, 48, 50, 49, 50, 50, 50, 51, 50, 52, 50, 53, 50, 54, 50, 55, 50, 56, 50, 57, 51, 48, 51, 49, 51, 50, 51, 51, 51, 52, 51, 53, 51, 54, 51, 55, 51, 56, 51, 57, 52, 48, 52, 49, 52, 50, 52, 51, 52, 52, 52, 53, 52, 54, 52, 55, 52, 56, 52, 57, 53, 48, 53, 49, 53, 50, 53, 51, 53, 52, 53, 53, 53, 54, 53, 55, 53, 56, 53, 57, 54, 48, 54, 49, 54, 50, 54, 51, 54, 52, 54, 53, 54, 54, 54, 55, 54, 56, 54, 57, 55, 48, 55, 49, 55, 50, 55, 51, 55, 52, 55, 53, 55, 54, 55, 55, 55, 56, 55, 57, 56, 48, 56, 49, 56, 50, 56, 51, 56, 52, 56, 53, 56, 54, 56, 55, 56, 56, 56, 57, 57, 48, 57, 49, 57, 50, 57, 51, 57, 52, 57, 53, 57, 54, 57, 55, 57, 56, 57, 57])) (.env 0)) false (dOp (oMov (.slot 13)) false (dOp (oIdxStr (.const (.str [48, 48, 48, 49, 48, 50, 48, 51, 48, 52, 48, 53, 48, 54, 48, 55, 48, 56, 48, 57, 49, 48, 49, 49, 49, 50, 49, 51, 49, 52, 49, 53, 49, 54, 49, 55, 49, 56, 49, 57, 50, 48, 50, 49, 50, 50, 50, 51, 50, 52, 50, 53, 50, 54, 50, 55, 50, 56, 50, 57, 51, 48, 51, 49, 51, 50, 51, 51, 51, 52, 51, 53, 51, 54, 51, 55, 51, 56, 51, 57, 52, 48, 52, 49, 52, 50, 52, 51, 52, 52, 52, 53, 52, 54, 52, 55, 52, 56, 52, 57, 53, 48, 53, 49, 53, 50, 53, 51, 53, 52, 53, 53, 53, 54, 53, 55, 53, 56, 53, 57, 54, 48, 54, 49, 54, 50, 54, 51, 54, 52, 54, 53, 54, 54, 54, 55, 54, 56, 54, 57, 55, 48, 55, 49, 55, 50, 55, 51, 55, 52, 55, 53, 55, 54, 55, 55, 55, 56, 55, 57, 56, 48, 56, 49, 56, 50, 56, 51, 56, 52, 56, 53, 56, 54, 56, 55, 56, 56, 56, 57, 57, 48, 57, 49, 57, 50, 57, 51, 57, 52, 57, 53, 57, 54, 57, 55, 57, 56, 57, 57])) (.env 0)) false (dOp (oIdxS 1 (.env 10) (.env 8)) false (dOp (oStore 1 (.env 0) (.env 3)) true (dOp (oIdxS 1 (.env 9) (.env 7)) false (dOp (oStore 1 (.env 0) (.env 3)) true dDone))))))))))))))) [] [])
 (sSeq (sRegionD (dOp (oMov (.slot 0)) false (dOp (oMov (.slot 2)) false (dOp (oBin .sub (.env 0) (.const (.int .i64 3))) false (dOp (oMov (.slot 0)) false (dOp (oMov (.slot 2)) false (dOp (oBin .sub (.env 0) (.const (.int .i64 4))) false (dOp (oMov (.slot 12)) false (dOp (oBin .add (.env 0) (.const (.int .u32 1))) false (dOp (oIdxStr (.const (.str [48, 48, 48, 49, 48, 50, 48, 51, 48, 52, 48, 53, 48, 54, 48, 55, 48, 56, 48, 57, 49, 48, 49, 49, 49, 50, 49, 51, 49, 52, 49, 53, 49, 54, 49, 55, 49, 56, 49, 57, 50, 48, 50, 49, 50, 50, 50, 51, 50, 52, 50, 53, 50, 54, 50, 55, 50, 56, 50, 57, 51, 48, 51, 49, 51, 50, 51, 51, 51, 52, 51, 53, 51, 54, 51, 55, 51, 56, 51, 57, 52, 48, 52, 49, 52, 50, 52, 51, 52, 52, 52, 53, 52, 54, 52, 55, 52, 56, 52, 57, 53, 48, 53, 49, 53, 50, 53, 51, 53, 52, 53, 53, 53, 54, 53, 55, 53, 56, 53, 57, 54, 48, 54, 49, 54, 50, 54, 51, 54, 52, 54, 53, 54, 54, 54, 55, 54, 56, 54, 57, 55, 48, 55, 49, 55, 50, 55, 51, 55, 52, 55, 53, 55, 54, 55, 55, 55, 56, 55, 57, 56, 48, 56, 49, 56, 50, 56, 51, 56, 52, 56, 53, 56, 54, 56, 55, 56, 56, 56, 57, 57, 48, 57, 49, 57, 50, 57, 51, 57, 52, 57, 53, 57, 54, 57, 55, 57, 56, 57, 57])) (.env 0)) false (dOp (oMov (.slot 12)) false (dOp (oIdxStr (.const (.str [48, 48, 48, 49, 48, 50, 48, 51, 48, 52, 48, 53, 48, 54, 48, 55, 48, 56, 48, 57, 49, 48, 49, 49, 49, 50, 49, 51, 49, 52, 49, 53, 49, 54, 49, 55, 49, 56, 49, 57, 50, 48, 50, 49, 50, 50, 50, 51, 50, 52, 50, 53, 50, 54, 50, 55, 50, 56, 50, 57, 51, 48, 51, 49, 51, 50, 51, 51, 51, 52, 51, 53, 51, 54, 51, 55, 51, 56, 51, 57, 52, 48, 52, 49, 52, 50, 52, 51, 52, 52, 52, 53, 52, 54, 52, 55, 52, 56, 52, 57, 53, 48, 53, 49, 53, 50, 53, 51, 53, 52, 53, 53, 53, 54, 53, 55, 53, 56, 53, 57, 54, 48, 54, 49, 54, 50, 54, 51, 54, 52, 54, 53, 54, 54, 54, 55, 54, 56, 54, 57, 55, 48, 55, 49, 55, 50, 55, 51, 55, 52, 55, 53, 55, 54, 55, 55, 55, 56, 55, 57, 56, 48, 56, 49, 56, 50, 56, 51, 56, 52, 56, 53, 56, 54, 56, 55, 56, 56, 56, 57, 57, 48, 57, 49, 57, 50, 57, 51, 57, 52, 57, 53, 57, 54, 57, 55, 57, 56, 57, 57])) (.env 0)) false (dOp (oIdxS 1 (.env 10) (.env 8)) false (dOp (oStore 1 (.env 0) (.env 3)) true (dOp (oIdxS 1 (.env 9) (.env 7)) false (dOp (oStore 1 (.env 0) (.env 3)) true dDone))))))))))))))) [] [])
 (sRegion (rOp (oMov (.slot 2)) (rOp (oBin .sub (.env 0) (.const (.int .i64 4))) (rOpS 2 (oMov (.env 0)) rDone))))))))) sSkip))
 (sSeq (sSeq (sRegion (rOp (oMov (.slot 2)) (rOpS 17 (oBin .geq (.env 0) (.const (.int .i64 2))) rDone)))
 (sCond (.slot 17) (sSeq (sRegion (rOp (oMov (.slot 10)) (rOp (oBin .rem (.env 0) (.const (.int .u32 100))) (rOp (oBin .mul (.env 0) (.const (.int .u32 2))) (rOpS 14 (oMov (.env 0)) rDone)))))
 (sSeq (sRegion (rOp (oMov (.slot 10)) (rOp (oBin .quo (.env 0) (.const (.int .u32 100))) (rOpS 10 (oMov (.env 0)) rDone))))
 (sSeq (sRegionD (dOp (oMov (.slot 0)) false (dOp (oMov (.slot 2)) false (dOp (oBin .sub (.env 0) (.const (.int .i64 1))) false (dOp (oMov (.slot 0)) false (dOp (oMov (.slot 2)) false (dOp (oBin .sub (.env 0) (.const (.int .i64 2))) false (dOp (oMov (.slot 14)) false (dOp (oBin .add (.env 0) (.const (.int .u32 1))) false (dOp (oIdxStr (.const (.str [48, 48, 48, 49, 48, 50, 48, 51, 48, 52, 48, 53, 48, 54, 48, 55, 48, 56, 48, 57, 49, 48, 49, 49, 49, 50, 49, 51, 49, 52, 49, 53, 49, 54, 49, 55, 49, 56, 49, 57, 50, 48, 50, 49, 50, 50, 50, 51, 50, 52, 50, 53, 50, 54, 50, 55, 50, 56, 50, 57, 51, 48, 51, 49, 51, 50, 51, 51, 51, 52, 51, 53, 51, 54, 51, 55, 51, 56, 51, 57, 52, 48, 52, 49, 52, 50, 52, 51, 52, 52, 52, 53, 52, 54, 52, 55, 52, 56, 52, 57, 53, 48, 53, 49, 53, 50, 53, 51, 53, 52, 53, 53, 53, 54, 53, 55, 53, 56, 53, 57, 54, 48, 54, 49, 54, 50, 54, 51, 54, 52, 54, 53, 54, 54, 54, 55, 54, 56, 54, 57, 55, 48, 55, 49, 55, 50, 55, 51, 55, 52, 55, 53, 55, 54, 55, 55, 55, 56, 55, 57, 56, 48, 56, 49, 56, 50, 56, 51, 56, 52, 56, 53, 56, 54, 56, 55, 56, 56, 56, 57, 57, 48, 57, 49, 57, 50, 57, 51, 57, 52, 57, 53, 57, 54, 57, 55, 57, 56, 57, 57])) (.env 0)) false (dOp (oMov (.slot 14)) false (dOp (oIdxStr (.const (.str [48, 48, 48, 49, 48, 50, 48, 51, 48, 52, 48, 53, 48, 54, 48, 55, 48, 56, 48, 57, 49, 48, 49, 49, 49, 50, 49, 51, 49, 52, 49, 53, 49, 54, 49, 55, 49, 56, 49, 57, 50, 48, 50, 49, 50, 50, 50, 51, 50, 52, 50, 53, 50, 54, 50, 55, 50, 56, 50, 57, 51, 48, 51, 49, 51, 50, 51, 51, 51, 52, 51, 53, 51, 54, 51, 55, 51, 56, 51, 57, 52, 48, 52, 49, 52, 50, 52, 51, 52, 52, 52, 53, 52, 54, 52, 55, 52, 56, 52, 57, 53, 48, 53, 49, 53, 50, 53, 51, 53, 52, 53, 53, 53, 54, 53, 55, 53, 56, 53, 57, 54, 48, 54, 49, 54, 50, 54, 51, 54, 52, 54, 53, 54, 54, 54, 55, 54, 56, 54, 57, 55, 48, 55, 49, 55, 50, 55, 51, 55, 52, 55, 53, 55, 54, 55, 55, 55, 56, 55, 57, 56, 48, 56, 49, 56, 50, 56, 51, 56, 52, 56, 53, 56, 54, 56, 55, 56, 56, 56, 57, 57, 48, 57, 49, 57, 50, 57, 51, 57, 52, 57, 53, 57, 54, 57, 55, 57, 56, 57, 57])) (.env 0)) false (dOp (oIdxS 1 (.env 10) (.env 8)) false (dOp (oStore 1 (.env 0) (.env 3)) true (dOp (oIdxS 1 (.env 9) (.env 7)) false (dOp (oStore 1 (.env 0) (.env 3)) true dDone))))))))))))))) [] [])
 (sRegion (rOp (oMov (.slot 2)) (rOp (oBin .sub (.env 0) (.const (.int .i64 2))) (rOpS 2 (oMov (.env 0)) rDone))))))) sSkip))
 (sSeq (sRegion (rOp (oMov (.slot 2)) (rOpS 18 (oBin .gtr (.env 0) (.const (.int .i64 0))) rDone)))
 (sCond (.slot 18) (sRegion (rOp (oMov (.slot 0)) (rOp (oMov (.slot 10)) (rOp (oBin .add (.const (.int .u32 48)) (.env 0)) (rOp (oConvInt .u8 (.env 0)) (rOp (oIdxS 1 (.env 3) (.const (.int .i64 0))) (rOp (oStore 1 (.env 0) (.env 1)) rDone))))))) sSkip)))))))
noncomputable def k143 : Code := codeIn Tryz.f143
theorem h143 : (cCode Tryz.prog m143 k143).map den = some e143 := by kernel_rfl
noncomputable def fn143 : AFunc := { real := true, nslots := 19, params := [(some 0), (some 1)], results := [], assign := sNone, body := e143 }
/- internal/strconv.formatBits -/
noncomputable def m144 : Meta := { slots := [(0, false), (1, false), (2, false), (3, false), (4, false), (10, false), (11, false), (12, false), (13, false), (14, false), (15, false), (16, false), (17, false), (18, false), (28, false), (30, false), (34, false), (46, false), (68, false), (89, false), (94, false)], globals := gl, lid := 5572, n := 102, ext := ext }
noncomputable def e144 : CodeF := (sSeq (sRegion (rOpS 5 (oMov (.const .nils)) (rOpS 6 (oMov (.const (.str []))) rDone)))
 (sSeq (sSeq (sRegion (rOp (oMov (.slot 2)) (rOp (oBin .lss (.env 0) (.const (.int .i64 2))) (rOp (oMov (.env 0)) (rOpG 0 false (oMov (.slot 2)) (rOpG 1 false (oBin .eql (.env 0) (.const (.int .i64 10))) (rOp (oPick (.env 2) (.const (.bool true)) (.env 0)) (rOp (oMov (.env 0)) (rOpG 0 false (oMov (.slot 2)) (rOpG 1 false (oBin .gtr (.env 0) (.const (.int .i64 36))) (rOpS 14 (oPick (.env 2) (.const (.bool true)) (.env 0)) rDone)))))))))))
 (sCond (.slot 14) sNone sSkip))
 (sSeq (sRegion (rOpS 7 (oAlloc 236 [(.int .u8 0), (.int .u8 0), (.int .u8 0), (.int .u8 0), (.int .u8 0), (.int .u8 0), (.int .u8 0), (.int .u8 0), (.int .u8 0), (.int .u8 0), (.int .u8 0), (.int .u8 0), (.int .u8 0), (.int .u8 0), (.int .u8 0), (.int .u8 0), (.int .u8 0), (.int .u8 0), (.int .u8 0), (.int .u8 0), (.int .u8 0), (.int .u8 0), (.int .u8 0), (.int .u8 0), (.int .u8 0), (.int .u8 0), (.int .u8 0), (.int .u8 0), (.int .u8 0), (.int .u8 0), (.int .u8 0), (.int .u8 0), (.int .u8 0), (.int .u8 0), (.int .u8 0), (.int .u8 0), (.int .u8 0), (.int .u8 0), (.int .u8 0), (.int .u8 0), (.int .u8 0), (.int .u8 0), (.int .u8 0), (.int .u8 0), (.int .u8 0), (.int .u8 0), (.int .u8 0), (.int .u8 0), (.int .u8 0), (.int .u8 0), (.int .u8 0), (.int .u8 0), (.int .u8 0), (.int .u8 0), (.int .u8 0), (.int .u8 0), (.int .u8 0), (.int .u8 0), (.int .u8 0), (.int .u8 0), (.int .u8 0), (.int .u8 0), (.int .u8 0), (.int .u8 0), (.int .u8 0)]) rDone))
 (sSeq (sRegion (rOpS 8 (oMov (.const (.int .i64 65))) rDone))
 (sSeq (sSeq (sRegion (rOpS 15 (oMov (.slot 3)) rDone))
 (sCond (.slot 15) (sRegion (rOp (oMov (.slot 1)) (rOp (oUn .neg (.env 0)) (rOpS 1 (oMov (.env 0)) rDone)))) sSkip))
 (sSeq (sSeq (sRegion (rOp (oMov (.slot 2)) (rOpS 16 (oCall 161 [(.env 0)]) rDone)))
 (sCond (.slot 16) (sSeq (sRegion (rOp (oMov (.slot 2)) (rOp (oConvInt .u64 (.env 0)) (rOp (oCall 162 [(.env 0)]) (rOp (oConvInt .u64 (.env 0)) (rOpS 9 (oMov (.env 0)) rDone))))))
 (sSeq (sRegion (rOp (oMov (.slot 2)) (rOp (oConvInt .u64 (.env 0)) (rOpS 10 (oMov (.env 0)) rDone))))
 (sSeq (sRegion (rOp (oMov (.slot 2)) (rOp (oConvInt .u64 (.env 0)) (rOp (oBin .sub (.env 0) (.const (.int .u64 1))) (rOpS 11 (oMov (.env 0)) rDone)))))
 (sSeq (sBlock 0 (sLoop (sSeq (sSeq (sRegion (rOp (oMov (.slot 1)) (rOp (oMov (.slot 10)) (rOpS 17 (oBin .geq (.env 1) (.env 0)) rDone))))
 (sCond (.slot 17) sSkip (sExit (.exit 0))))
 (sBlock 1 (sSeq (sRegion (rOp (oMov (.slot 8)) (rOp (oBin .sub (.env 0) (.const (.int .i64 1))) (rOpS 8 (oMov (.env 0)) rDone))))
 (sSeq (sRegion (rOp (oMov (.slot 8)) (rOp (oMov (.slot 1)) (rOp (oMov (.slot 11)) (rOp (oBin .and (.env 1) (.env 0)) (rOp (oIdxStr (.const (.str [48, 49, 50, 51, 52, 53, 54, 55, 56, 57, 97, 98, 99, 100, 101, 102, 103, 104, 105, 106, 107, 108, 109, 110, 111, 112, 113, 114, 115, 116, 117, 118, 119, 120, 121, 122])) (.env 0)) (rOp (oIdxP 65 1 (.slot 7) (.env 4)) (rOp (oStore 1 (.env 0) (.env 1)) rDone))))))))
 (sRegion (rOp (oMov (.slot 1)) (rOp (oMov (.slot 9)) (rOp (oBin .shr (.env 1) (.env 0)) (rOpS 1 (oMov (.env 0)) rDone)))))))))))
 (sSeq (sRegion (rOp (oMov (.slot 8)) (rOp (oBin .sub (.env 0) (.const (.int .i64 1))) (rOpS 8 (oMov (.env 0)) rDone))))
 (sRegion (rOp (oMov (.slot 8)) (rOp (oMov (.slot 1)) (rOp (oIdxStr (.const (.str [48, 49, 50, 51, 52, 53, 54, 55, 56, 57, 97, 98, 99, 100, 101, 102, 103, 104, 105, 106, 107, 108, 109, 110, 111, 112, 113, 114, 115, 116, 117, 118, 119, 120, 121, 122])) (.env 0)) (rOp (oIdxP 65 1 (.slot 7) (.env 2)) (rOp (oStore 1 (.env 0) (.env 1)) rDone))))))))))) (sSeq (sRegion (rOp (oMov (.slot 2)) (rOp (oConvInt .u64 (.env 0)) (rOpS 12 (oMov (.env 0)) rDone))))
 (sSeq (sBlock 2 (sLoop (sSeq (sSeq (sRegion (rOp (oMov (.slot 1)) (rOp (oMov (.slot 12)) (rOpS 18 (oBin .geq (.env 1) (.env 0)) rDone))))
 (sCond (.slot 18) sSkip (sExit (.exit 2))))
 (sBlock 3 (sSeq (sRegion (rOp (oMov (.slot 8)) (rOp (oBin .sub (.env 0) (.const (.int .i64 1))) (rOpS 8 (oMov (.env 0)) rDone))))
 (sSeq (sRegion (rOp (oMov (.slot 1)) (rOp (oMov (.slot 12)) (rOp (oBin .quo (.env 1) (.env 0)) (rOpS 13 (oMov (.env 0)) rDone)))))
 (sSeq (sRegion (rOp (oMov (.slot 8)) (rOp (oMov (.slot 1)) (rOp (oMov (.slot 13)) (rOp (oMov (.slot 12)) (rOp (oBin .mul (.env 1) (.env 0)) (rOp (oBin .sub (.env 3) (.env 0)) (rOp (oIdxStr (.const (.str [48, 49, 50, 51, 52, 53, 54, 55, 56, 57, 97, 98, 99, 100, 101, 102, 103, 104, 105, 106, 107, 108, 109, 110, 111, 112, 113, 114, 115, 116, 117, 118, 119, 120, 121, 122])) (.env 0)) (rOp (oIdxP 65 1 (.slot 7) (.env 6)) (rOp (oStore 1 (.env 0) (.env 1)) rDone))))))))))
 (sRegion (rOp (oMov (.slot 13)) (rOpS 1 (oMov (.env 0)) rDone))))))))))
 (sSeq (sRegion (rOp (oMov (.slot 8)) (rOp (oBin .sub (.env 0) (.const (.int .i64 1))) (rOpS 8 (oMov (.env 0)) rDone))))
 (sRegion (rOp (oMov (.slot 8)) (rOp (oMov (.slot 1)) (rOp (oIdxStr (.const (.str [48, 49, 50, 51, 52, 53, 54, 55, 56, 57, 97, 98, 99, 100, 101, 102, 103, 104, 105, 106, 107, 108, 109, 110, 111, 112, 113, 114, 115, 116, 117, 118, 119, 120, 121, 122])) (.env 0)) (rOp (oIdxP 65 1 (.slot 7) (.env 2)) (rOp (oStore 1 (.env 0) (.env 1)) rDone)))))))))))
 (sSeq (sSeq (sRegion (rOpS 19 (oMov (.slot 3)) rDone))
 (sCond (.slot 19) (sSeq (sRegion (rOp (oMov (.slot 8)) (rOp (oBin .sub (.env 0) (.const (.int .i64 1))) (rOpS 8 (oMov (.env 0)) rDone))))
 (sRegion (rOp (oMov (.slot 8)) (rOp (oIdxP 65 1 (.slot 7) (.env 0)) (rOp (oStore 1 (.env 0) (.const (.int .u8 45))) rDone))))) sSkip))
 (sSeq (sSeq (sRegion (rOpS 20 (oMov (.slot 4)) rDone))
 (sCond (.slot 20) (sSeq (sRegion (rOp (oMov (.slot 0)) (rOp (oMov (.slot 8)) (rOp (oSliceArr 65 1 (.slot 7) (some (.env 0)) none none) (rOp (oAppend 5 1 1 (.env 2) (.env 0)) (rOpS 5 (oMov (.env 0)) rDone))))))
 (sExit .ret)) sSkip))
 (sSeq (sRegion (rOp (oMov (.slot 8)) (rOp (oSliceArr 65 1 (.slot 7) (some (.env 0)) none none) (rOp (oConvStr (.env 0)) (rOpS 6 (oMov (.env 0)) rDone)))))
 (sExit .ret))))))))))
noncomputable def k144 : Code := codeIn Tryz.f144
theorem h144 : (cCode Tryz.prog m144 k144).map den = some e144 := by kernel_rfl
noncomputable def fn144 : AFunc := { real := true, nslots := 21, params := [(some 0), (some 1), (some 2), (some 3), (some 4)], results := [.slot 5, .slot 6], assign := sNone, body := e144 }
/- (*strings.Builder).WriteByte -/
noncomputable def m145 : Meta := { slots := [(0, false), (1, false), (4, false)], globals := gl, lid := 5675, n := 17, ext := ext }
noncomputable def e145 : CodeF := (sSeq (sRegion (rOpS 2 (oMov (.const .nilif)) rDone))
 (sSeq (sRegion (rOp (oMov (.slot 0)) (rOp (oCall 95 [(.env 0)]) rDone)))
 (sSeq (sRegion (rOp (oMov (.slot 0)) (rOp (oMov (.slot 0)) (rOp (oNilc (.env 0)) (rOp (oFld 1 (.env 0)) (rOp (oLoad 1 false (.env 0)) (rOp (oMov (.slot 1)) (rOp (oBslice 5 1 1 [(.int .u8 0)] [(0, 1, (.env 0))]) (rOp (oAppend 5 1 1 (.env 2) (.env 0)) (rOp (oNilc (.env 7)) (rOp (oFld 1 (.env 0)) (rOp (oStore 1 (.env 0) (.env 2)) rDone))))))))))))
 (sSeq (sRegion (rOpS 2 (oMov (.const .nilif)) rDone))
 (sExit .ret)))))
noncomputable def k145 : Code := codeIn Tryz.f145
theorem h145 : (cCode Tryz.prog m145 k145).map den = some e145 := by kernel_rfl
noncomputable def fn145 : AFunc := { real := true, nslots := 3, params := [(some 0), (some 1)], results := [.slot 2], assign := sNone, body := e145 }
/- bonsai/print.ahead -/
noncomputable def m146 : Meta := { slots := [(0, false), (1, false), (2, false), (4, false), (5, false), (11, false), (16, false), (20, false)], globals := gl, lid := 5693, n := 36, ext := ext }
noncomputable def e146 : CodeF := (sSeq (sRegion (rOpS 1 (oBox 67 (.slot 0)) (rOpS 2 (oMov (.const (.str []))) rDone)))
 (sSeq (sSeq (sRegion (rOp (oFld 0 (.slot 1)) (rOpS 3 (oLoad 1 false (.env 0)) rDone)))
 (sBlock 0 (sSeq (sSeq (sRegion (rOp (oBin .eql (.slot 3) (.const (.int .u8 0))) (rOpS 4 (oMov (.env 0)) rDone)))
 (sCond (.slot 4) sSkip (sRegion (rOp (oBin .eql (.slot 3) (.const (.int .u8 2))) (rOpS 4 (oMov (.env 0)) rDone)))))
 (sCond (.slot 4) (sSeq (sRegion (rOp (oFld 5 (.slot 1)) (rOp (oLoad 1 false (.env 0)) (rOp (oCall 163 [(.env 0)]) (rOpS 2 (oMov (.env 0)) rDone)))))
 (sExit .ret)) (sSeq (sRegion (rOp (oBin .eql (.slot 3) (.const (.int .u8 1))) (rOpS 5 (oMov (.env 0)) rDone)))
 (sCond (.slot 5) (sSeq (sRegion (rOp (oFld 1 (.slot 1)) (rOp (oLoad 4 true (.env 0)) (rOp (oCall 164 [(.env 0)]) (rOpS 2 (oMov (.env 0)) rDone)))))
 (sExit .ret)) (sSeq (sRegion (rOp (oBin .eql (.slot 3) (.const (.int .u8 3))) (rOpS 6 (oMov (.env 0)) rDone)))
 (sCond (.slot 6) (sSeq (sRegion (rOp (oFld 5 (.slot 1)) (rOp (oLoad 1 false (.env 0)) (rOpS 2 (oMov (.env 0)) rDone))))
 (sExit .ret)) (sSeq (sRegion (rOp (oBin .eql (.slot 3) (.const (.int .u8 9))) (rOpS 7 (oMov (.env 0)) rDone)))
 (sCond (.slot 7) (sSeq (sRegionD (dOp (oFld 0 (.slot 1)) false (dOp (oLoad 1 false (.env 0)) false (dOp (oIdxP 10 3 (.const (.plit false gl1 0)) (.env 0)) false (dOp (oFld 0 (.env 0)) false (dOp (oLoad 1 false (.env 0)) false (dOp (oFld 5 (.slot 1)) false (dOp (oLoad 1 false (.env 0)) false (dOp (oBin .add (.env 2) (.env 0)) false (dOp (oBin .add (.env 0) (.const (.str [58, 32]))) false (dOp (oMov (.env 0)) false dDone)))))))))) [] [(2, 0)])
 (sExit .ret)) sSkip))))))))))
 (sSeq (sRegion (rOp (oFld 0 (.slot 1)) (rOp (oLoad 1 false (.env 0)) (rOp (oIdxP 10 3 (.const (.plit false gl1 0)) (.env 0)) (rOp (oFld 0 (.env 0)) (rOp (oLoad 1 false (.env 0)) (rOpS 2 (oMov (.env 0)) rDone)))))))
 (sExit .ret))))
noncomputable def k146 : Code := codeIn Tryz.f146
theorem h146 : (cCode Tryz.prog m146 k146).map den = some e146 := by kernel_rfl
noncomputable def fn146 : AFunc := { real := true, nslots := 8, params := [(some 0)], results := [.slot 2], assign := sNone, body := e146 }
/- bonsai/print.wraps -/
noncomputable def m147 : Meta := { slots := [(0, false), (1, false), (4, false), (5, false), (6, false), (10, false), (20, false)], globals := gl, lid := 5730, n := 40, ext := ext }
noncomputable def e147 : CodeF := (sSeq (sRegion (rOpS 2 (oMov (.const (.bool false))) rDone))
 (sSeq (sSeq (sRegion (rOpS 3 (oMov (.slot 0)) rDone))
 (sBlock 0 (sSeq (sRegion (rOp (oBin .eql (.slot 3) (.const (.int .u8 5))) (rOpS 4 (oMov (.env 0)) rDone)))
 (sCond (.slot 4) (sSeq (sRegion (rOp (oMov (.slot 1)) (rOp (oBin .eql (.env 0) (.const (.int .u8 5))) (rOpS 2 (oMov (.env 0)) rDone))))
 (sExit .ret)) (sSeq (sSeq (sRegion (rOp (oBin .eql (.slot 3) (.const (.int .u8 4))) (rOpS 5 (oMov (.env 0)) rDone)))
 (sCond (.slot 5) sSkip (sSeq (sRegion (rOp (oBin .eql (.slot 3) (.const (.int .u8 7))) (rOpS 5 (oMov (.env 0)) rDone)))
 (sCond (.slot 5) sSkip (sRegion (rOp (oBin .eql (.slot 3) (.const (.int .u8 8))) (rOpS 5 (oMov (.env 0)) rDone)))))))
 (sCond (.slot 5) (sSeq (sRegion (rOp (oMov (.slot 1)) (rOp (oBin .eql (.env 0) (.const (.int .u8 4))) (rOp (oMov (.env 0)) (rOpG 0 false (oMov (.slot 1)) (rOpG 1 false (oBin .eql (.env 0) (.const (.int .u8 5))) (rOp (oPick (.env 2) (.const (.bool true)) (.env 0)) (rOpS 2 (oMov (.env 0)) rDone))))))))
 (sExit .ret)) (sSeq (sRegion (rOp (oBin .eql (.slot 3) (.const (.int .u8 6))) (rOpS 6 (oMov (.env 0)) rDone)))
 (sCond (.slot 6) (sSeq (sRegion (rOp (oMov (.slot 1)) (rOp (oBin .eql (.env 0) (.const (.int .u8 4))) (rOp (oMov (.env 0)) (rOpG 0 false (oMov (.slot 1)) (rOpG 1 false (oBin .eql (.env 0) (.const (.int .u8 5))) (rOp (oPick (.env 2) (.const (.bool true)) (.env 0)) (rOp (oMov (.env 0)) (rOpG 0 false (oMov (.slot 1)) (rOpG 1 false (oBin .eql (.env 0) (.const (.int .u8 6))) (rOp (oPick (.env 2) (.const (.bool true)) (.env 0)) (rOp (oMov (.env 0)) (rOpG 0 false (oMov (.slot 1)) (rOpG 1 false (oBin .eql (.env 0) (.const (.int .u8 7))) (rOp (oPick (.env 2) (.const (.bool true)) (.env 0)) (rOp (oMov (.env 0)) (rOpG 0 false (oMov (.slot 1)) (rOpG 1 false (oBin .eql (.env 0) (.const (.int .u8 8))) (rOp (oPick (.env 2) (.const (.bool true)) (.env 0)) (rOpS 2 (oMov (.env 0)) rDone))))))))))))))))))))
 (sExit .ret)) sSkip))))))))
 (sSeq (sRegion (rOpS 2 (oMov (.const (.bool false))) rDone))
 (sExit .ret))))
noncomputable def k147 : Code := codeIn Tryz.f147
theorem h147 : (cCode Tryz.prog m147 k147).map den = some e147 := by kernel_rfl
noncomputable def fn147 : AFunc := { real := true, nslots := 7, params := [(some 0), (some 1)], results := [.slot 2], assign := sNone, body := e147 }
/- bonsai/print.behind -/
noncomputable def m148 : Meta := { slots := [(0, false), (1, true), (2, false), (5, false)], globals := gl, lid := 5771, n := 16, ext := ext }
noncomputable def e148 : CodeF := (sSeq (sRegion (rOp (oBoxP 1 (.slot 0)) (rOpS 2 (oMov (.const (.str []))) rDone)))
 (sSeq (sSeq (sRegion (rOp (oFldP 1 0 (.const (.fp 0))) (rOp (oLoadP 1 1 false (.env 0)) (rOpS 3 (oBin .eql (.env 0) (.const (.int .u8 6))) rDone))))
 (sCond (.slot 3) (sSeq (sRegion (rOp (oFldP 1 6 (.const (.fp 0))) (rOp (oLoadP 1 1 false (.env 0)) (rOp (oFldP 1 7 (.const (.fp 0))) (rOp (oLoadP 1 1 false (.env 0)) (rOp (oCall 165 [(.env 2), (.env 0)]) (rOpS 2 (oMov (.env 0)) rDone)))))))
 (sExit .ret)) sSkip))
 (sSeq (sRegion (rOp (oFldP 1 0 (.const (.fp 0))) (rOp (oLoadP 1 1 false (.env 0)) (rOp (oIdxP 10 3 (.const (.plit false gl1 0)) (.env 0)) (rOp (oFld 2 (.env 0)) (rOp (oLoad 1 false (.env 0)) (rOpS 2 (oMov (.env 0)) rDone)))))))
 (sExit .ret))))
noncomputable def k148 : Code := codeIn Tryz.f148
theorem h148 : (cCode Tryz.prog m148 k148).map den = some e148 := by kernel_rfl
noncomputable def fn148 : AFunc := { real := true, nslots := 4, params := [(some 0)], results := [.slot 2], assign := sNone, body := e148 }
/- strings.Cut -/
noncomputable def m149 : Meta := { slots := [(0, false), (1, false), (4, false), (5, false), (6, false)], globals := gl, lid := 5788, n := 13, ext := ext }
noncomputable def e149 : CodeF := (sSeq (sRegion (rOpS 2 (oMov (.const (.str []))) (rOpS 3 (oMov (.const (.str []))) (rOpS 4 (oMov (.const (.bool false))) rDone))))
 (sSeq (sRegion (rOp (oMov (.slot 0)) (rOp (oMov (.slot 1)) (rOp (oCall 166 [(.env 1), (.env 0)]) (rOp (oExt (.env 0) 0) (rOp (oExt (.env 1) 1) (rOp (oExt (.env 2) 2) (rOpS 2 (oMov (.env 2)) (rOpS 3 (oMov (.env 2)) (rOpS 4 (oMov (.env 2)) rDone))))))))))
 (sExit .ret)))
noncomputable def k149 : Code := codeIn Tryz.f149
theorem h149 : (cCode Tryz.prog m149 k149).map den = some e149 := by kernel_rfl
noncomputable def fn149 : AFunc := { real := true, nslots := 5, params := [(some 0), (some 1)], results := [.slot 2, .slot 3, .slot 4], assign := sNone, body := e149 }
/- bonsai/name.Num -/
noncomputable def m150 : Meta := { slots := [(0, false), (1, false), (4, false), (5, false), (6, false), (7, false), (8, false), (9, false), (21, false), (25, false), (32, false), (45, false), (55, false)], globals := gl, lid := 5802, n := 57, ext := ext }
noncomputable def e150 : CodeF := (sSeq (sRegion (rOpS 2 (oMov (.const (.int .i64 0))) (rOpS 3 (oMov (.const (.int .i64 0))) rDone)))
 (den (.scope (.seq (.region [⟨(some 4), .mov (.const (.int .i64 0)), none⟩, ⟨(some 5), .mov (.const (.bool false)), none⟩])
 (.seq (.seq (.region [⟨none, .mov (.slot 0), none⟩, ⟨none, .bin .eql (.env 0) (.const (.str [])), none⟩, ⟨none, .mov (.env 0), none⟩, ⟨none, .mov (.slot 0), (some (0, false))⟩, ⟨none, .idxStr (.env 0) (.const (.int .i64 0)), (some (1, false))⟩, ⟨none, .bin .eql (.env 0) (.const (.int .u8 48)), (some (2, false))⟩, ⟨none, .mov (.env 0), (some (3, false))⟩, ⟨none, .mov (.slot 0), (some (0, true))⟩, ⟨none, .len .str (.env 0), (some (1, true))⟩, ⟨none, .bin .gtr (.env 0) (.const (.int .i64 1)), (some (2, true))⟩, ⟨none, .pick (.env 3) (.env 0) (.const (.bool false)), (some (7, false))⟩, ⟨(some 8), .pick (.env 8) (.const (.bool true)) (.env 0), none⟩])
 (.cond (.slot 8) (.goto 0) .skip))
 (.seq (.seq (.region [⟨(some 6), .mov (.const (.int .i64 0)), none⟩])
 (.block 0 (.loop (.seq (.seq (.region [⟨none, .mov (.slot 6), none⟩, ⟨none, .mov (.slot 0), none⟩, ⟨none, .len .str (.env 0), none⟩, ⟨(some 9), .bin .lss (.env 2) (.env 0), none⟩])
 (.cond (.slot 9) .skip (.exit 0)))
 (.seq (.block 1 (.seq (.seq (.region [⟨none, .mov (.slot 0), none⟩, ⟨none, .mov (.slot 6), none⟩, ⟨none, .idxStr (.env 1) (.env 0), none⟩, ⟨none, .call 99 [(.env 0)], none⟩, ⟨(some 10), .un .not (.env 0), none⟩])
 (.cond (.slot 10) (.goto 0) .skip))
 (.seq (.region [⟨none, .mov (.slot 0), none⟩, ⟨none, .mov (.slot 6), none⟩, ⟨none, .idxStr (.env 1) (.env 0), none⟩, ⟨none, .bin .sub (.env 0) (.const (.int .u8 48)), none⟩, ⟨none, .convInt .i64 (.env 0), none⟩, ⟨(some 7), .mov (.env 0), none⟩])
 (.seq (.seq (.region [⟨none, .mov (.slot 5), none⟩, ⟨none, .mov (.env 0), none⟩, ⟨none, .mov (.slot 4), (some (0, false))⟩, ⟨none, .mov (.slot 7), (some (1, false))⟩, ⟨none, .bin .sub (.const (.int .i64 9223372036854775807)) (.env 0), (some (2, false))⟩, ⟨none, .bin .quo (.env 0) (.const (.int .i64 10)), (some (3, false))⟩, ⟨none, .bin .gtr (.env 3) (.env 0), (some (4, false))⟩, ⟨(some 11), .pick (.env 5) (.const (.bool true)) (.env 0), none⟩])
 (.cond (.slot 11) (.seq (.region [⟨(some 5), .mov (.const (.bool true)), none⟩])
 (.exit 1)) .skip))
 (.region [⟨none, .mov (.slot 4), none⟩, ⟨none, .bin .mul (.env 0) (.const (.int .i64 10)), none⟩, ⟨none, .mov (.slot 7), none⟩, ⟨none, .bin .add (.env 1) (.env 0), none⟩, ⟨(some 4), .mov (.env 0), none⟩])))))
 (.region [⟨none, .mov (.slot 6), none⟩, ⟨none, .bin .add (.env 0) (.const (.int .i64 1)), none⟩, ⟨(some 6), .mov (.env 0), none⟩]))))))
 (.seq (.seq (.region [⟨none, .mov (.slot 5), none⟩, ⟨none, .mov (.env 0), none⟩, ⟨none, .mov (.slot 4), (some (0, false))⟩, ⟨none, .mov (.slot 1), (some (1, false))⟩, ⟨none, .bin .gtr (.env 1) (.env 0), (some (2, false))⟩, ⟨(some 12), .pick (.env 3) (.const (.bool true)) (.env 0), none⟩])
 (.cond (.slot 12) (.seq (.region [⟨(some 2), .mov (.const (.int .i64 0)), none⟩, ⟨(some 3), .mov (.const (.int .i64 40)), none⟩])
 .ret) .skip))
 (.seq (.seq (.region [⟨none, .mov (.slot 4), none⟩, ⟨(some 2), .mov (.env 0), none⟩, ⟨(some 3), .mov (.const (.int .i64 0)), none⟩])
 .ret)
 (.seq (.label 0)
 (.seq (.region [⟨(some 2), .mov (.const (.int .i64 0)), none⟩, ⟨(some 3), .mov (.const (.int .i64 4)), none⟩])
 .ret))))))))))
noncomputable def k150 : Code := codeIn Tryz.f150
theorem h150 : (cCode Tryz.prog m150 k150).map den = some e150 := by kernel_rfl
noncomputable def fn150 : AFunc := { real := true, nslots := 13, params := [(some 0), (some 1)], results := [.slot 2, .slot 3], assign := sNone, body := e150 }
theorem lp150 : (loopsOf Tryz.prog m150 k150).map (List.map fun x => (x.1, den x.2.1, den x.2.2)) = some [] := by kernel_rfl
/- bonsai/quote.Unliteral -/
noncomputable def m151 : Meta := { slots := [(0, false), (2, false), (3, false), (4, false), (5, false), (6, false), (7, false), (11, false), (12, false), (17, false), (31, false)], globals := gl, lid := 5860, n := 42, ext := ext }
noncomputable def e151 : CodeF := (sSeq (sRegion (rOpS 1 (oMov (.const (.str []))) (rOpS 2 (oMov (.const (.int .i64 0))) (rOpS 3 (oMov (.const (.int .i64 0))) rDone))))
 (sSeq (sRegion (rOp (oMov (.slot 0)) (rOp (oCall 167 [(.env 0), (.const (.str [34])), (.const (.int .u8 34)), (.const (.int .u8 34))]) (rOpS 4 (oMov (.env 0)) rDone))))
 (sSeq (sRegion (rOpS 5 (oAlloc 37 [.nils]) rDone))
 (sSeq (sSeq (sRegion (rOp (oMov (.slot 4)) (rOpS 7 (oCall 168 [(.env 0)]) rDone)))
 (sBlock 0 (sRangeFunc (.slot 7) [8] 5871)))
 (sSeq (sBlock 2 (sSeq (sRegion (rOp (oMov (.slot 4)) (rOp (oNilc (.env 0)) (rOp (oFld 5 (.env 0)) (rOp (oLoad 1 false (.env 0)) (rOp (oBin .neq (.env 0) (.const (.int .i64 0))) (rOpS 9 (oMov (.env 0)) rDone)))))))
 (sCond (.slot 9) (sSeq (sRegionD (dOp (oMov (.slot 4)) false (dOp (oNilc (.env 0)) false (dOp (oFld 4 (.env 0)) false (dOp (oLoad 1 false (.env 0)) false (dOp (oMov (.slot 4)) false (dOp (oNilc (.env 0)) false (dOp (oFld 5 (.env 0)) false (dOp (oLoad 1 false (.env 0)) false (dOp (oMov (.const (.str []))) false (dOp (oMov (.env 5)) false (dOp (oMov (.env 2)) false dDone))))))))))) [] [(1, 2), (2, 1), (3, 0)])
 (sExit .ret)) (sSeq (sRegion (rOp (oLoad 1 false (.slot 5)) (rOp (oLen .sl (.env 0)) (rOp (oBin .gtr (.env 0) (.const (.int .i64 255))) (rOpS 10 (oMov (.env 0)) rDone)))))
 (sCond (.slot 10) (sSeq (sRegion (rOpS 1 (oMov (.const (.str []))) (rOpS 2 (oMov (.const (.int .i64 0))) (rOpS 3 (oMov (.const (.int .i64 40))) rDone))))
 (sExit .ret)) sSkip)))))
 (sSeq (sRegionD (dOp (oLoad 1 false (.slot 5)) false (dOp (oConvStr (.env 0)) false (dOp (oMov (.slot 4)) false (dOp (oNilc (.env 0)) false (dOp (oFld 4 (.env 0)) false (dOp (oLoad 1 false (.env 0)) false (dOp (oBin .add (.env 0) (.const (.int .i64 1))) false (dOp (oMov (.env 5)) false (dOp (oMov (.env 1)) false (dOp (oMov (.const (.int .i64 0))) false dDone)))))))))) [] [(1, 2), (2, 1), (3, 0)])
 (sExit .ret)))))))
noncomputable def k151 : Code := codeIn Tryz.f151
theorem h151 : (cCode Tryz.prog m151 k151).map den = some e151 := by kernel_rfl
noncomputable def fn151 : AFunc := { real := true, nslots := 11, params := [(some 0)], results := [.slot 1, .slot 2, .slot 3], assign := sNone, body := e151 }
noncomputable def a5871 : CodeF := (sRegion (rOpS 6 (oMov (.slot 8)) rDone))
noncomputable def b5871 : CodeF := (sBlock 1 (sRegion (rOp (oLoad 1 false (.slot 5)) (rOp (oMov (.slot 6)) (rOp (oBslice 5 1 1 [(.int .u8 0)] [(0, 1, (.env 0))]) (rOp (oAppend 5 1 1 (.env 2) (.env 0)) (rOp (oStore 1 (.slot 5) (.env 0)) rDone)))))))
noncomputable def fn5871 : AFunc := { real := false, nslots := 0, params := [], results := [], assign := a5871, body := b5871 }
theorem lp151 : (loopsOf Tryz.prog m151 k151).map (List.map fun x => (x.1, den x.2.1, den x.2.2)) = some [(5871, a5871, b5871)] := by kernel_rfl
/- bonsai/quote.Unclass -/
noncomputable def m152 : Meta := { slots := [(0, false), (2, false), (3, false), (4, false), (5, false), (6, false), (7, false), (8, false), (9, false), (10, false), (22, false), (35, false), (36, false), (44, false), (47, false), (64, false), (74, false)], globals := gl, lid := 5903, n := 83, ext := ext }
noncomputable def e152 : CodeF := (sSeq (sRegion (rOpS 1 (oAlloc 64 [(.int .u64 0), (.int .u64 0), (.int .u64 0), (.int .u64 0)]) (rOpS 2 (oMov (.const (.int .i64 0))) (rOpS 3 (oMov (.const (.int .i64 0))) rDone))))
 (sSeq (sRegion (rOp (oMov (.slot 0)) (rOp (oCall 167 [(.env 0), (.const (.str [93, 45, 94])), (.const (.int .u8 91)), (.const (.int .u8 93))]) (rOpS 4 (oAlloc 241 [.nilp]) (rOp (oStore 1 (.env 0) (.env 1)) rDone)))))
 (sSeq (sRegion (rOp (oLoad 1 false (.slot 4)) (rOp (oNilc (.env 0)) (rOp (oFld 5 (.env 0)) (rOp (oLoad 1 false (.env 0)) (rOp (oBin .eql (.env 0) (.const (.int .i64 0))) (rOp (oMov (.env 0)) (rOpG 0 true (oLoad 1 false (.slot 4)) (rOpG 1 true (oCall 169 [(.env 0), (.const (.int .u8 94))]) (rOp (oPick (.env 2) (.env 0) (.const (.bool false))) (rOpS 5 (oMov (.env 0)) rDone)))))))))))
 (sSeq (sSeq (sRegion (rOpS 10 (oMov (.slot 5)) rDone))
 (sCond (.slot 10) (sRegion (rOp (oLoad 1 false (.slot 4)) (rOp (oNilc (.env 0)) (rOp (oFld 4 (.env 0)) (rOp (oLoad 1 false (.env 0)) (rOp (oBin .add (.env 0) (.const (.int .i64 1))) (rOp (oNilc (.env 4)) (rOp (oFld 4 (.env 0)) (rOp (oStore 1 (.env 0) (.env 2)) rDone))))))))) sSkip))
 (sSeq (sRegion (rOp (oLoad 1 false (.slot 4)) (rOp (oNilc (.env 0)) (rOp (oFld 4 (.env 0)) (rOp (oLoad 1 false (.env 0)) (rOpS 6 (oAlloc 3 [(.int .i64 0)]) (rOp (oStore 1 (.env 0) (.env 1)) rDone)))))))
 (sSeq (sSeq (sRegion (rOp (oLoad 1 false (.slot 4)) (rOpS 11 (oCall 168 [(.env 0)]) rDone)))
 (sBlock 0 (sRangeFunc (.slot 11) [12] 5938)))
 (sSeq (sSeq (sRegion (rOp (oLoad 1 false (.slot 4)) (rOp (oNilc (.env 0)) (rOp (oFld 5 (.env 0)) (rOp (oLoad 1 false (.env 0)) (rOpS 15 (oBin .neq (.env 0) (.const (.int .i64 0))) rDone))))))
 (sCond (.slot 15) (sSeq (sRegionD (dOp (oBuild [(.int .u64 0), (.int .u64 0), (.int .u64 0), (.int .u64 0)] []) false (dOp (oLoad 1 false (.slot 4)) false (dOp (oNilc (.env 0)) false (dOp (oFld 4 (.env 0)) false (dOp (oLoad 1 false (.env 0)) false (dOp (oLoad 1 false (.slot 4)) false (dOp (oNilc (.env 0)) false (dOp (oFld 5 (.env 0)) false (dOp (oLoad 1 false (.env 0)) false (dOp (oStore 4 (.slot 1) (.env 8)) true (dOp (oMov (.env 5)) false (dOp (oMov (.env 2)) false dDone)))))))))))) [⟨10, .load 1 false (.slot 4), none, [0]⟩, ⟨7, .load 1 false (.env 0), none, [0]⟩, ⟨6, .load 1 false (.slot 4), none, [0]⟩, ⟨3, .load 1 false (.env 0), none, [0]⟩] [(2, 1), (3, 0)])
 (sExit .ret)) sSkip))
 (sSeq (sSeq (sRegion (rOpS 16 (oMov (.slot 5)) rDone))
 (sCond (.slot 16) (sRegion (rOp (oLoad 4 true (.slot 1)) (rOp (oCall 174 [(.env 0)]) (rOp (oStore 4 (.slot 1) (.env 0)) rDone)))) sSkip))
 (sSeq (sRegionD (dOp (oLoad 4 true (.slot 1)) false (dOp (oLoad 1 false (.slot 4)) false (dOp (oNilc (.env 0)) false (dOp (oFld 4 (.env 0)) false (dOp (oLoad 1 false (.env 0)) false (dOp (oBin .add (.env 0) (.const (.int .i64 1))) false (dOp (oStore 4 (.slot 1) (.env 5)) true (dOp (oMov (.env 1)) false (dOp (oMov (.const (.int .i64 0))) false dDone))))))))) [⟨7, .load 1 false (.slot 4), none, [0]⟩, ⟨4, .load 1 false (.env 0), none, [0]⟩] [(2, 1), (3, 0)])
 (sExit .ret))))))))))
noncomputable def k152 : Code := codeIn Tryz.f152
theorem h152 : (cCode Tryz.prog m152 k152).map den = some e152 := by kernel_rfl
noncomputable def fn152 : AFunc := { real := true, nslots := 17, params := [(some 0)], results := [.cell 1 4 true, .slot 2, .slot 3], assign := sNone, body := e152 }
noncomputable def a5938 : CodeF := (sRegion (rOpS 7 (oMov (.slot 12)) rDone))
noncomputable def b5938 : CodeF := (sBlock 1 (sSeq (sRegion (rOp (oLoad 1 false (.slot 4)) (rOp (oMov (.slot 7)) (rOp (oCall 170 [(.env 1), (.env 0)]) (rOp (oMov (.env 0)) (rOp (oExt (.env 0) 0) (rOp (oExt (.env 1) 1) (rOpS 8 (oMov (.env 1)) (rOpS 9 (oMov (.env 1)) rDone)))))))))
 (sSeq (sSeq (sRegion (rOp (oMov (.slot 9)) (rOpS 13 (oUn .not (.env 0)) rDone)))
 (sCond (.slot 13) (sExit (.exit 0)) sSkip))
 (sSeq (sSeq (sRegion (rOp (oMov (.slot 8)) (rOp (oMov (.slot 7)) (rOpS 14 (oBin .lss (.env 1) (.env 0)) rDone))))
 (sCond (.slot 14) (sSeq (sRegion (rOp (oLoad 1 false (.slot 4)) (rOp (oLoad 1 false (.slot 6)) (rOp (oCall 171 [(.env 1), (.env 0)]) rDone))))
 (sExit (.exit 0))) sSkip))
 (sSeq (sRegionD (dOp (oLoad 4 true (.slot 1)) false (dOp (oMov (.slot 7)) false (dOp (oMov (.slot 8)) false (dOp (oCall 173 [(.env 1), (.env 0)]) true (dOp (oCall 172 [(.env 3), (.env 0)]) true (dOp (oStore 4 (.slot 1) (.env 0)) true dDone)))))) [⟨5, .load 4 true (.slot 1), none, [2]⟩] [])
 (sRegion (rOp (oLoad 1 false (.slot 4)) (rOp (oNilc (.env 0)) (rOp (oFld 4 (.env 0)) (rOp (oLoad 1 false (.env 0)) (rOp (oStore 1 (.slot 6) (.env 0)) rDone)))))))))))
noncomputable def fn5938 : AFunc := { real := false, nslots := 0, params := [], results := [], assign := a5938, body := b5938 }
theorem lp152 : (loopsOf Tryz.prog m152 k152).map (List.map fun x => (x.1, den x.2.1, den x.2.2)) = some [(5938, a5938, b5938)] := by kernel_rfl
/- bonsai/set.All -/
noncomputable def m153 : Meta := { slots := [(0, true)], globals := gl, lid := 5987, n := 3, ext := ext }
noncomputable def e153 : CodeF := (sSeq (sRegion (rOp (oAllocP 0 [(.int .u64 0), (.int .u64 0), (.int .u64 0), (.int .u64 0)]) rDone))
 (sSeq (sRegion (rOp (oBuild [(.int .u64 0), (.int .u64 0), (.int .u64 0), (.int .u64 0)] []) (rOp (oCall 174 [(.env 0)]) (rOp (oStoreP 0 4 (.const (.fp 0)) (.env 0)) rDone))))
 (sExit .ret)))
noncomputable def k153 : Code := codeIn Tryz.f153
theorem h153 : (cCode Tryz.prog m153 k153).map den = some e153 := by kernel_rfl
noncomputable def fn153 : AFunc := { real := true, nslots := 1, params := [], results := [.cellP 0 4 true], assign := sNone, body := e153 }
/- bonsai/lex.sign$1 -/
noncomputable def m154 : Meta := { slots := [(0, false), (1, false), (2, false), (5, true), (6, false)], globals := gl, lid := 5991, n := 12, ext := ext }
noncomputable def e154 : CodeF := (sSeq (sRegion (rOp (oAllocP 3 [(.int .u8 0), (.int .i64 0), (.int .i64 0), (.str []), (.int .u64 0), (.int .u64 0), (.int .u64 0), (.int .u64 0), (.int .i64 0), (.int .i64 0)]) (rOpS 4 (oMov (.const (.bool false))) rDone)))
 (sSeq (sRegion (rOp (oLoad 1 false (.slot 2)) (rOp (oMov (.slot 1)) (rOp (oMov (.slot 1)) (rOp (oBin .add (.env 0) (.const (.int .i64 1))) (rOp (oBuild [(.int .u8 0), (.int .i64 0), (.int .i64 0), (.str []), (.int .u64 0), (.int .u64 0), (.int .u64 0), (.int .u64 0), (.int .i64 0), (.int .i64 0)] [(0, 1, (.env 3)), (1, 1, (.env 2)), (2, 1, (.env 0))]) (rOp (oStoreP 3 10 (.const (.fp 0)) (.env 0)) (rOpS 4 (oMov (.const (.bool true))) rDone))))))))
 (sExit .ret)))
noncomputable def k154 : Code := codeIn Tryz.f154
theorem h154 : (cCode Tryz.prog m154 k154).map den = some e154 := by kernel_rfl
noncomputable def fn154 : AFunc := { real := true, nslots := 5, params := [(some 0), (some 1), (some 2)], results := [.cellP 3 10 true, .slot 4], assign := sNone, body := e154 }
/- internal/stringslite.IndexByte -/
noncomputable def m155 : Meta := { slots := [(0, false), (1, false), (4, false)], globals := gl, lid := 6004, n := 8, ext := ext }
noncomputable def e155 : CodeF := (sSeq (sRegion (rOpS 2 (oMov (.const (.int .i64 0))) rDone))
 (sSeq (sRegion (rOp (oMov (.slot 0)) (rOp (oMov (.slot 1)) (rOp (oExtByte (.env 1) (.env 0)) (rOpS 2 (oMov (.env 0)) rDone)))))
 (sExit .ret)))
noncomputable def k155 : Code := codeIn Tryz.f155
theorem h155 : (cCode Tryz.prog m155 k155).map den = some e155 := by kernel_rfl
noncomputable def fn155 : AFunc := { real := true, nslots := 3, params := [(some 0), (some 1)], results := [.slot 2], assign := sNone, body := e155 }
/- (*bonsai/expr.arena).join$1 -/
noncomputable def m156 : Meta := { slots := [(0, false), (1, false), (2, false), (3, false), (18, false)], globals := gl, lid := 6013, n := 23, ext := ext }
noncomputable def e156 : CodeF := (sSeq (sRegion (rOp (oFld 0 (.slot 1)) (rOp (oLoad 1 false (.env 0)) (rOp (oBin .neq (.env 0) (.const (.int .u8 4))) (rOp (oMov (.env 0)) (rOpG 0 false (oLoad 1 false (.slot 2)) (rOpG 1 false (oNilc (.env 0)) (rOpG 2 false (oFld 0 (.env 0)) (rOpG 3 false (oLoad 1 false (.env 0)) (rOpG 4 false (oMov (.slot 0)) (rOpG 5 false (oIdxS 9 (.env 1) (.env 0)) (rOpG 6 false (oFld 0 (.env 0)) (rOpG 7 false (oLoad 1 false (.env 0)) (rOpG 8 false (oBin .neq (.env 0) (.const (.int .u8 0))) (rOpS 4 (oPick (.env 9) (.const (.bool true)) (.env 0)) rDone)))))))))))))))
 (sCond (.slot 4) (sRegion (rOp (oLoad 1 false (.slot 3)) (rOp (oMov (.slot 0)) (rOp (oBslice 3 1 1 [(.int .i64 0)] [(0, 1, (.env 0))]) (rOp (oAppend 3 1 8 (.env 2) (.env 0)) (rOp (oStore 1 (.slot 3) (.env 0)) rDone)))))) sSkip))
noncomputable def k156 : Code := codeIn Tryz.f156
theorem h156 : (cCode Tryz.prog m156 k156).map den = some e156 := by kernel_rfl
noncomputable def fn156 : AFunc := { real := true, nslots := 5, params := [(some 0), (some 1), (some 2), (some 3)], results := [], assign := sNone, body := e156 }
end Go.Proofs.YtaomafmpedgofaaGreatDoor
