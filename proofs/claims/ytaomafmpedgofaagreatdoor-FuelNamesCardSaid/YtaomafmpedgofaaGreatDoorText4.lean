import Derived.Test.YtaomafmpedgofaaGreatDoorText0
import Derived.KernelRfl
namespace Go.Proofs.YtaomafmpedgofaaGreatDoor
open Go Go.Vm
set_option maxRecDepth 100000
/- strings.HasPrefix -/
noncomputable def m106 : Meta := { slots := [(0, false), (1, false), (4, false)], globals := gl, lid := 4331, n := 8, ext := ext }
noncomputable def e106 : CodeF := (sSeq (sRegion (rOpS 2 (oMov (.const (.bool false))) rDone))
 (sSeq (sRegion (rOp (oMov (.slot 0)) (rOp (oMov (.slot 1)) (rOp (oCall 118 [(.env 1), (.env 0)]) (rOpS 2 (oMov (.env 0)) rDone)))))
 (sExit .ret)))
noncomputable def k106 : Code := codeIn Tryz.f106
theorem h106 : (cCode Tryz.prog m106 k106).map den = some e106 := by kernel_rfl
noncomputable def fn106 : AFunc := { real := true, nslots := 3, params := [(some 0), (some 1)], results := [.slot 2], assign := sNone, body := e106 }
/- (*bonsai/table.Table).kid -/
noncomputable def m107 : Meta := { slots := [(0, false), (1, false), (2, false), (6, false)], globals := gl, lid := 4340, n := 26, ext := ext }
noncomputable def e107 : CodeF := (sSeq (sRegion (rOpS 3 (oAlloc 76 [(.int .i64 0), (.int .i32 0), (.int .u8 0), (.int .u8 0)]) rDone))
 (sSeq (sRegionD (dOp (oMov (.slot 0)) false (dOp (oNilc (.env 0)) false (dOp (oFld 4 (.env 0)) false (dOp (oLoad 1 false (.env 0)) false (dOp (oMov (.slot 0)) false (dOp (oNilc (.env 0)) false (dOp (oFld 3 (.env 0)) false (dOp (oLoad 1 false (.env 0)) false (dOp (oMov (.slot 1)) false (dOp (oIdxS 9 (.env 1) (.env 0)) false (dOp (oFld 8 (.env 0)) false (dOp (oLoad 1 false (.env 0)) false (dOp (oIdxS 1 (.env 0) (.const (.int .i64 0))) false (dOp (oLoad 1 false (.env 0)) false (dOp (oIdxS 1 (.env 10) (.env 0)) false (dOp (oLoad 1 false (.env 0)) false (dOp (oMov (.slot 2)) false (dOp (oIdxS 4 (.env 1) (.env 0)) false (dOp (oLoad 4 true (.env 0)) false (dOp (oStore 4 (.slot 3) (.env 0)) true dDone)))))))))))))))))))) [] [])
 (sExit .ret)))
noncomputable def k107 : Code := codeIn Tryz.f107
theorem h107 : (cCode Tryz.prog m107 k107).map den = some e107 := by kernel_rfl
noncomputable def fn107 : AFunc := { real := true, nslots := 4, params := [(some 0), (some 1), (some 2)], results := [.cell 3 4 true], assign := sNone, body := e107 }
/- bonsai/table.sum -/
noncomputable def m108 : Meta := { slots := [(0, false), (1, false), (4, false)], globals := gl, lid := 4367, n := 9, ext := ext }
noncomputable def e108 : CodeF := (sSeq (sRegion (rOpS 2 (oMov (.const (.int .i64 0))) rDone))
 (sSeq (sRegion (rOp (oMov (.slot 0)) (rOp (oMov (.slot 1)) (rOp (oBin .add (.env 1) (.env 0)) (rOp (oMinmax false [(.env 0), (.const (.int .i64 1099511627776))]) (rOpS 2 (oMov (.env 0)) rDone))))))
 (sExit .ret)))
noncomputable def k108 : Code := codeIn Tryz.f108
theorem h108 : (cCode Tryz.prog m108 k108).map den = some e108 := by kernel_rfl
noncomputable def fn108 : AFunc := { real := true, nslots := 3, params := [(some 0), (some 1)], results := [.slot 2], assign := sNone, body := e108 }
/- (*bonsai/table.Table).endless -/
noncomputable def m109 : Meta := { slots := [(0, false), (1, false), (2, false), (6, true), (7, false), (8, false), (9, false), (30, false), (34, false), (48, false), (75, false)], globals := gl, lid := 4377, n := 78, ext := ext }
noncomputable def e109 : CodeF := (sSeq (sRegion (rOp (oAllocP 3 [(.int .i64 0), (.int .i32 0), (.int .u8 0), (.int .u8 0)]) rDone))
 (sSeq (sRegion (rOp (oMov (.slot 2)) (rOp (oCall 104 [(.env 0)]) (rOpS 4 (oAlloc 76 [(.int .i64 0), (.int .i32 0), (.int .u8 0), (.int .u8 0)]) (rOp (oStore 4 (.env 0) (.env 1)) rDone)))))
 (sSeq (sRegion (rOp (oMov (.slot 0)) (rOp (oMov (.slot 1)) (rOp (oMov (.slot 2)) (rOp (oCall 107 [(.env 2), (.env 1), (.env 0)]) (rOpS 5 (oAlloc 76 [(.int .i64 0), (.int .i32 0), (.int .u8 0), (.int .u8 0)]) (rOp (oStore 4 (.env 0) (.env 1)) rDone)))))))
 (sSeq (sSeq (sRegion (rOp (oFld 2 (.slot 5)) (rOp (oLoad 1 false (.env 0)) (rOp (oBin .eql (.env 0) (.const (.int .u8 0))) (rOp (oMov (.env 0)) (rOpG 0 false (oFld 2 (.slot 5)) (rOpG 1 false (oLoad 1 false (.env 0)) (rOpG 2 false (oBin .eql (.env 0) (.const (.int .u8 2))) (rOpG 3 false (oMov (.env 0)) (rOpG 0 true (oFld 1 (.slot 5)) (rOpG 1 true (oLoad 1 false (.env 0)) (rOpG 2 true (oConvInt .i64 (.env 0)) (rOpG 3 true (oMov (.slot 2)) (rOpG 4 true (oBin .eql (.env 1) (.env 0)) (rOpG 9 false (oPick (.env 5) (.env 0) (.const (.bool false))) (rOpS 7 (oPick (.env 10) (.const (.bool true)) (.env 0)) rDone))))))))))))))))
 (sCond (.slot 7) (sSeq (sRegion (rOp (oBuild [(.int .i64 0), (.int .i32 0), (.int .u8 0), (.int .u8 0)] []) (rOp (oStoreP 3 4 (.const (.fp 0)) (.env 0)) rDone)))
 (sExit .ret)) sSkip))
 (sSeq (sSeq (sRegion (rOp (oFld 2 (.slot 5)) (rOp (oLoad 1 false (.env 0)) (rOpS 8 (oBin .eql (.env 0) (.const (.int .u8 2))) rDone))))
 (sCond (.slot 8) (sSeq (sRegionD (dOp (oMov (.slot 0)) false (dOp (oNilc (.env 0)) false (dOp (oFld 4 (.env 0)) false (dOp (oLoad 1 false (.env 0)) false (dOp (oMov (.slot 1)) false (dOp (oIdxS 1 (.env 1) (.env 0)) false (dOp (oLoad 1 false (.env 0)) false (dOp (oFld 1 (.slot 5)) false (dOp (oLoad 1 false (.env 0)) false (dOp (oIdxS 4 (.env 2) (.env 0)) false (dOp (oLoad 4 true (.env 0)) false (dOp (oAlloc 76 [(.int .i64 0), (.int .i32 0), (.int .u8 0), (.int .u8 0)]) true (dOp (oStore 4 (.env 0) (.env 1)) true dDone))))))))))))) [⟨9, .load 1 false (.env 0), none, [1]⟩, ⟨6, .load 1 false (.env 0), none, [1]⟩, ⟨4, .load 1 false (.env 0), none, [1]⟩, ⟨2, .load 4 true (.env 0), none, [1]⟩] [(6, 1)])
 (sSeq (sSeq (sRegion (rOp (oFld 2 (.slot 6)) (rOp (oLoad 1 false (.env 0)) (rOpS 9 (oBin .eql (.env 0) (.const (.int .u8 0))) rDone))))
 (sCond (.slot 9) (sSeq (sRegion (rOp (oBuild [(.int .i64 0), (.int .i32 0), (.int .u8 0), (.int .u8 0)] []) (rOp (oStoreP 3 4 (.const (.fp 0)) (.env 0)) rDone)))
 (sExit .ret)) sSkip))
 (sSeq (sRegion (rOp (oFld 1 (.slot 6)) (rOp (oLoad 1 false (.env 0)) (rOp (oFld 1 (.slot 4)) (rOp (oStore 1 (.env 0) (.env 1)) rDone)))))
 (sSeq (sRegion (rOp (oFld 0 (.slot 5)) (rOp (oLoad 1 false (.env 0)) (rOp (oFld 0 (.slot 6)) (rOp (oLoad 1 false (.env 0)) (rOp (oCall 108 [(.env 2), (.env 0)]) (rOp (oFld 0 (.slot 4)) (rOp (oStore 1 (.env 0) (.env 1)) rDone))))))))
 (sRegion (rOp (oFld 3 (.slot 6)) (rOp (oLoad 1 false (.env 0)) (rOp (oBin .add (.env 0) (.const (.int .u8 1))) (rOp (oMinmax false [(.env 0), (.const (.int .u8 99))]) (rOp (oFld 3 (.slot 4)) (rOp (oStore 1 (.env 0) (.env 1)) rDone))))))))))) sSkip))
 (sSeq (sSeq (sRegionD (dOp (oFld 3 (.slot 4)) false (dOp (oLoad 1 false (.env 0)) false (dOp (oConvInt .i64 (.env 0)) false (dOp (oMov (.slot 0)) false (dOp (oNilc (.env 0)) false (dOp (oFld 3 (.env 0)) false (dOp (oLoad 1 false (.env 0)) false (dOp (oMov (.slot 1)) false (dOp (oIdxS 9 (.env 1) (.env 0)) false (dOp (oFld 6 (.env 0)) false (dOp (oLoad 1 false (.env 0)) false (dOp (oBin .lss (.env 8) (.env 0)) false dDone)))))))))))) [] [(10, 0)])
 (sCond (.slot 10) (sRegion (rOp (oFld 2 (.slot 4)) (rOp (oStore 1 (.env 0) (.const (.int .u8 1))) rDone))) sSkip))
 (sSeq (sRegion (rOp (oLoad 4 true (.slot 4)) (rOp (oStoreP 3 4 (.const (.fp 0)) (.env 0)) rDone)))
 (sExit .ret))))))))
noncomputable def k109 : Code := codeIn Tryz.f109
theorem h109 : (cCode Tryz.prog m109 k109).map den = some e109 := by kernel_rfl
noncomputable def fn109 : AFunc := { real := true, nslots := 11, params := [(some 0), (some 1), (some 2)], results := [.cellP 3 4 true], assign := sNone, body := e109 }
/- bonsai/lex.each -/
noncomputable def m110 : Meta := { slots := [(0, false), (1, false), (2, false)], globals := gl, lid := 4456, n := 4, ext := ext }
noncomputable def e110 : CodeF := (sSeq (sRegion (rOpS 1 (oBox 9 (.slot 0)) (rOpS 2 (oMov (.const .nilf)) rDone)))
 (sSeq (sRegion (rOp (oMkfn 119 [] [(.slot 1)]) (rOpS 2 (oMov (.env 0)) rDone)))
 (sExit .ret)))
noncomputable def k110 : Code := codeIn Tryz.f110
theorem h110 : (cCode Tryz.prog m110 k110).map den = some e110 := by kernel_rfl
noncomputable def fn110 : AFunc := { real := true, nslots := 3, params := [(some 0)], results := [.slot 2], assign := sNone, body := e110 }
/- (*bonsai/parse.reader).suffix -/
noncomputable def m111 : Meta := { slots := [(0, false), (1, false), (2, false), (3, false), (4, false), (5, false), (6, false), (10, false), (11, false), (13, false), (15, false), (17, false)], globals := gl, lid := 4461, n := 31, ext := ext }
noncomputable def e111 : CodeF := (sSeq (sRegion (rOpS 1 (oBox 91 (.slot 0)) (rOpS 2 (oMov (.const .nilf)) (rOpS 3 (oMov (.const (.bool false))) rDone))))
 (sSeq (sRegion (rOpS 4 (oAlloc 3 [(.int .i64 0)]) (rOpS 5 (oAlloc 3 [(.int .i64 0)]) (rOp (oStore 1 (.env 1) (.const (.int .i64 0))) (rOp (oStore 1 (.env 1) (.const (.int .i64 (-1)))) rDone)))))
 (sSeq (sSeq (sRegion (rOp (oLoad 1 false (.slot 1)) (rOp (oCall 88 [(.env 0), (.const (.int .i64 0))]) (rOpS 6 (oAlloc 137 [(.int .u8 0), (.int .i64 0), (.int .i64 0), (.str []), (.int .u64 0), (.int .u64 0), (.int .u64 0), (.int .u64 0), (.int .i64 0), (.int .i64 0)]) (rOp (oStore 10 (.env 0) (.env 1)) rDone)))))
 (sSeq (sRegion (rOp (oFld 0 (.slot 6)) (rOpS 7 (oLoad 1 false (.env 0)) rDone)))
 (sBlock 0 (sSeq (sRegion (rOp (oBin .eql (.slot 7) (.const (.int .u8 6))) (rOpS 8 (oMov (.env 0)) rDone)))
 (sCond (.slot 8) (sRegion (rOp (oStore 1 (.slot 5) (.const (.int .i64 1))) rDone)) (sSeq (sRegion (rOp (oBin .eql (.slot 7) (.const (.int .u8 7))) (rOpS 9 (oMov (.env 0)) rDone)))
 (sCond (.slot 9) sSkip (sSeq (sRegion (rOp (oBin .eql (.slot 7) (.const (.int .u8 8))) (rOpS 10 (oMov (.env 0)) rDone)))
 (sCond (.slot 10) (sRegion (rOp (oStore 1 (.slot 4) (.const (.int .i64 1))) rDone)) (sSeq (sRegion (rOp (oBin .eql (.slot 7) (.const (.int .u8 14))) (rOpS 11 (oMov (.env 0)) rDone)))
 (sCond (.slot 11) (sRegionD (dOp (oFld 8 (.slot 6)) false (dOp (oLoad 1 false (.env 0)) false (dOp (oFld 9 (.slot 6)) false (dOp (oLoad 1 false (.env 0)) false (dOp (oStore 1 (.slot 4) (.env 2)) true (dOp (oStore 1 (.slot 5) (.env 1)) true dDone)))))) [⟨2, .load 1 false (.env 0), none, [1]⟩] []) (sSeq (sRegion (rOpS 2 (oMov (.const .nilf)) (rOpS 3 (oMov (.const (.bool false))) rDone)))
 (sExit .ret)))))))))))))
 (sSeq (sRegion (rOp (oLoad 1 false (.slot 1)) (rOp (oNilc (.env 0)) (rOp (oFld 2 (.env 0)) (rOp (oLoad 1 false (.env 0)) (rOp (oBin .add (.env 0) (.const (.int .i64 1))) (rOp (oNilc (.env 4)) (rOp (oFld 2 (.env 0)) (rOp (oStore 1 (.env 0) (.env 2)) rDone)))))))))
 (sSeq (sRegion (rOp (oMkfn 122 [] [(.slot 1), (.slot 4), (.slot 5)]) (rOpS 2 (oMov (.env 0)) (rOpS 3 (oMov (.const (.bool true))) rDone))))
 (sExit .ret))))))
noncomputable def k111 : Code := codeIn Tryz.f111
theorem h111 : (cCode Tryz.prog m111 k111).map den = some e111 := by kernel_rfl
noncomputable def fn111 : AFunc := { real := true, nslots := 12, params := [(some 0)], results := [.slot 2, .slot 3], assign := sNone, body := e111 }
/- bonsai/expr.joiners -/
noncomputable def m112 : Meta := { slots := [(0, true)], globals := gl, lid := 4493, n := 2, ext := ext }
noncomputable def e112 : CodeF := (sSeq (sRegion (rOp (oAllocP 0 [.nilf, .nilf, .nilf, .nilf, .nilf, .nilf, .nilf, .nilf, .nilf, .nilf]) rDone))
 (sSeq (sRegion (rOp (oBuild [.nilf, .nilf, .nilf, .nilf, .nilf, .nilf, .nilf, .nilf, .nilf, .nilf] [(0, 1, (.const (.fn 123 [] []))), (1, 1, (.const (.fn 123 [] []))), (2, 1, (.const (.fn 123 [] []))), (3, 1, (.const (.fn 123 [] []))), (4, 1, (.const (.fn 124 [] []))), (5, 1, (.const (.fn 125 [] []))), (6, 1, (.const (.fn 123 [] []))), (7, 1, (.const (.fn 123 [] []))), (8, 1, (.const (.fn 123 [] []))), (9, 1, (.const (.fn 123 [] [])))]) (rOp (oStoreP 0 10 (.const (.fp 0)) (.env 0)) rDone)))
 (sExit .ret)))
noncomputable def k112 : Code := codeIn Tryz.f112
theorem h112 : (cCode Tryz.prog m112 k112).map den = some e112 := by kernel_rfl
noncomputable def fn112 : AFunc := { real := true, nslots := 1, params := [], results := [.cellP 0 10 true], assign := sNone, body := e112 }
/- (*bonsai/expr.arena).taken -/
noncomputable def m113 : Meta := { slots := [(0, false), (1, false), (4, true), (5, false), (6, false), (7, false), (8, false), (9, false), (10, false), (11, false), (12, true), (13, false), (15, false), (20, false), (66, false), (67, false), (68, false), (69, false), (85, false), (86, false), (87, false), (88, false)], globals := gl, lid := 4496, n := 111, ext := ext }
noncomputable def e113 : CodeF := (sSeq (sRegion (rOp (oAllocP 2 [.nils, (.int .i64 0)]) rDone))
 (sSeq (sRegion (rOpS 3 (oMov (.const .nils)) rDone))
 (sSeq (sRegion (rOp (oMov (.slot 1)) (rOp (oBslice 3 1 1 [(.int .i64 0)] [(0, 1, (.env 0))]) (rOpS 4 (oMov (.env 0)) rDone))))
 (sSeq (sBlock 0 (sLoop (sSeq (sSeq (sRegion (rOp (oMov (.slot 4)) (rOp (oLen .sl (.env 0)) (rOpS 13 (oBin .gtr (.env 0) (.const (.int .i64 0))) rDone))))
 (sCond (.slot 13) sSkip (sExit (.exit 0))))
 (sBlock 1 (sSeq (sRegion (rOp (oMov (.slot 4)) (rOp (oMov (.slot 4)) (rOp (oLen .sl (.env 0)) (rOp (oBin .sub (.env 0) (.const (.int .i64 1))) (rOp (oIdxS 1 (.env 3) (.env 0)) (rOp (oLoad 1 false (.env 0)) (rOpS 5 (oMov (.env 0)) rDone))))))))
 (sSeq (sRegionD (dOp (oMov (.slot 0)) false (dOp (oNilc (.env 0)) false (dOp (oFld 0 (.env 0)) false (dOp (oLoad 1 false (.env 0)) false (dOp (oMov (.slot 5)) false (dOp (oMov (.slot 0)) false (dOp (oMov (.slot 5)) false (dOp (oCall 126 [(.env 1), (.env 0)]) true (dOp (oIdxS 9 (.env 4) (.env 3)) false (dOp (oFld 8 (.env 0)) false (dOp (oStore 1 (.env 0) (.env 2)) true dDone))))))))))) [⟨7, .load 1 false (.env 0), none, [1]⟩] [])
 (sSeq (sRegionD (dOp (oMov (.slot 4)) false (dOp (oMov (.slot 4)) false (dOp (oLen .sl (.env 0)) false (dOp (oBin .sub (.env 0) (.const (.int .i64 1))) false (dOp (oSlice false 1 (.env 3) none (some (.env 0)) none) false (dOp (oMov (.slot 0)) false (dOp (oNilc (.env 0)) false (dOp (oFld 0 (.env 0)) false (dOp (oLoad 1 false (.env 0)) false (dOp (oMov (.slot 5)) false (dOp (oIdxS 9 (.env 1) (.env 0)) false (dOp (oFld 8 (.env 0)) false (dOp (oLoad 1 false (.env 0)) false (dOp (oAppend 3 1 8 (.env 8) (.env 0)) true (dOp (oMov (.env 0)) false dDone))))))))))))))) [] [(4, 0)])
 (sRegion (rOp (oMov (.slot 3)) (rOp (oMov (.slot 5)) (rOp (oBslice 3 1 1 [(.int .i64 0)] [(0, 1, (.env 0))]) (rOp (oAppend 3 1 8 (.env 2) (.env 0)) (rOpS 3 (oMov (.env 0)) rDone)))))))))))))
 (sSeq (sRegion (rOp (oMov (.slot 3)) (rOp (oCall 127 [(.env 0)]) rDone)))
 (sSeq (sRegion (rOp (oMov (.slot 0)) (rOp (oNilc (.env 0)) (rOp (oFld 0 (.env 0)) (rOp (oLoad 1 false (.env 0)) (rOp (oLen .sl (.env 0)) (rOp (oMkslice 3 1 8 [(.int .i64 0)] (.env 0) (.env 0)) (rOpS 6 (oMov (.env 0)) rDone))))))))
 (sSeq (sRegion (rOp (oMov (.slot 3)) (rOp (oLen .sl (.env 0)) (rOp (oMkslice 67 9 96 [(.int .u8 0), (.int .u64 0), (.int .u64 0), (.int .u64 0), (.int .u64 0), (.str []), (.int .i64 0), (.int .i64 0), .nils] (.const (.int .i64 0)) (.env 0)) (rOpS 7 (oMov (.env 0)) rDone)))))
 (sSeq (sSeq (sRegion (rOpS 14 (oMov (.slot 3)) (rOpS 15 (oLen .sl (.env 0)) (rOpS 16 (oMov (.const (.int .i64 0))) rDone))))
 (sBlock 2 (sLoop (sSeq (sRegion (rOpS 17 (oBin .lss (.slot 16) (.slot 15)) rDone))
 (sSeq (sCond (.slot 17) sSkip (sExit (.exit 2)))
 (sSeq (sBlock 3 (sSeq (sRegion (rOp (oMov (.slot 16)) (rOp (oIdxS 1 (.slot 14) (.slot 16)) (rOp (oLoad 1 false (.env 0)) (rOpS 8 (oMov (.env 2)) (rOpS 9 (oMov (.env 1)) rDone))))))
 (sSeq (sRegion (rOp (oMov (.slot 6)) (rOp (oMov (.slot 9)) (rOp (oMov (.slot 8)) (rOp (oIdxS 1 (.env 2) (.env 1)) (rOp (oStore 1 (.env 0) (.env 1)) rDone))))))
 (sSeq (sRegion (rOp (oMov (.slot 0)) (rOp (oNilc (.env 0)) (rOp (oFld 0 (.env 0)) (rOp (oLoad 1 false (.env 0)) (rOp (oMov (.slot 9)) (rOp (oIdxS 9 (.env 1) (.env 0)) (rOp (oLoad 9 true (.env 0)) (rOp (oAllocP 10 [(.int .u8 0), (.int .u64 0), (.int .u64 0), (.int .u64 0), (.int .u64 0), (.str []), (.int .i64 0), (.int .i64 0), .nils]) (rOp (oStoreP 10 9 (.env 0) (.env 1)) rDone))))))))))
 (sSeq (sRegion (rOpS 11 (oMov (.const .nils)) rDone))
 (sSeq (sSeq (sRegion (rOp (oFldP 10 8 (.const (.fp 0))) (rOpS 18 (oLoadP 10 1 false (.env 0)) (rOpS 19 (oLen .sl (.env 0)) (rOpS 20 (oMov (.const (.int .i64 0))) rDone)))))
 (sBlock 4 (sLoop (sSeq (sRegion (rOpS 21 (oBin .lss (.slot 20) (.slot 19)) rDone))
 (sSeq (sCond (.slot 21) sSkip (sExit (.exit 4)))
 (sSeq (sBlock 5 (sSeq (sRegion (rOp (oIdxS 1 (.slot 18) (.slot 20)) (rOp (oLoad 1 false (.env 0)) (rOpS 12 (oMov (.env 0)) rDone))))
 (sRegion (rOp (oMov (.slot 11)) (rOp (oMov (.slot 6)) (rOp (oMov (.slot 12)) (rOp (oIdxS 1 (.env 1) (.env 0)) (rOp (oLoad 1 false (.env 0)) (rOp (oBslice 3 1 1 [(.int .i64 0)] [(0, 1, (.env 0))]) (rOp (oAppend 3 1 8 (.env 5) (.env 0)) (rOpS 11 (oMov (.env 0)) rDone)))))))))))
 (sRegion (rOp (oBin .add (.slot 20) (.const (.int .i64 1))) (rOpS 20 (oMov (.env 0)) rDone)))))))))
 (sSeq (sRegion (rOp (oMov (.slot 11)) (rOp (oFldP 10 8 (.const (.fp 0))) (rOp (oStoreP 10 1 (.env 0) (.env 1)) rDone))))
 (sRegion (rOp (oMov (.slot 7)) (rOp (oLoadP 10 9 true (.const (.fp 0))) (rOp (oBslice 67 9 1 [(.int .u8 0), (.int .u64 0), (.int .u64 0), (.int .u64 0), (.int .u64 0), (.str []), (.int .i64 0), (.int .i64 0), .nils] [(0, 9, (.env 0))]) (rOp (oAppend 67 9 96 (.env 2) (.env 0)) (rOpS 7 (oMov (.env 0)) rDone)))))))))))))
 (sRegion (rOp (oBin .add (.slot 16) (.const (.int .i64 1))) (rOpS 16 (oMov (.env 0)) rDone)))))))))
 (sSeq (sRegion (rOp (oMov (.slot 7)) (rOp (oMov (.slot 7)) (rOp (oLen .sl (.env 0)) (rOp (oBin .sub (.env 0) (.const (.int .i64 1))) (rOp (oBuild [.nils, (.int .i64 0)] [(0, 1, (.env 3)), (1, 1, (.env 0))]) (rOp (oStoreP 2 2 (.const (.fp 0)) (.env 0)) rDone)))))))
 (sExit .ret))))))))))
noncomputable def k113 : Code := codeIn Tryz.f113
theorem h113 : (cCode Tryz.prog m113 k113).map den = some e113 := by kernel_rfl
noncomputable def fn113 : AFunc := { real := true, nslots := 22, params := [(some 0), (some 1)], results := [.cellP 2 2 true], assign := sNone, body := e113 }
/- internal/strconv.Itoa -/
noncomputable def m115 : Meta := { slots := [(0, false), (2, false)], globals := gl, lid := 4610, n := 5, ext := ext }
noncomputable def e115 : CodeF := (sSeq (sRegion (rOpS 1 (oMov (.const (.str []))) rDone))
 (sSeq (sRegion (rOp (oMov (.slot 0)) (rOp (oCall 128 [(.env 0), (.const (.int .i64 10))]) (rOpS 1 (oMov (.env 0)) rDone))))
 (sExit .ret)))
noncomputable def k115 : Code := codeIn Tryz.f115
theorem h115 : (cCode Tryz.prog m115 k115).map den = some e115 := by kernel_rfl
noncomputable def fn115 : AFunc := { real := true, nslots := 2, params := [(some 0)], results := [.slot 1], assign := sNone, body := e115 }
/- internal/stringslite.Clone -/
noncomputable def m116 : Meta := { slots := [(0, false), (2, false), (3, false), (6, false)], globals := gl, lid := 4616, n := 18, ext := ext }
noncomputable def e116 : CodeF := (sSeq (sRegion (rOpS 1 (oMov (.const (.str []))) rDone))
 (sSeq (sSeq (sRegion (rOp (oMov (.slot 0)) (rOp (oLen .str (.env 0)) (rOpS 3 (oBin .eql (.env 0) (.const (.int .i64 0))) rDone))))
 (sCond (.slot 3) (sSeq (sRegion (rOpS 1 (oMov (.const (.str []))) rDone))
 (sExit .ret)) sSkip))
 (sSeq (sRegion (rOp (oMov (.slot 0)) (rOp (oLen .str (.env 0)) (rOp (oMkslice 5 1 1 [(.int .u8 0)] (.env 0) (.env 0)) (rOpS 2 (oMov (.env 0)) rDone)))))
 (sSeq (sRegion (rOp (oMov (.slot 2)) (rOp (oMov (.slot 0)) (rOp (oCopy 1 (.env 1) (.env 0)) rDone))))
 (sSeq (sRegion (rOp (oMov (.slot 2)) (rOp (oIdxS 1 (.env 0) (.const (.int .i64 0))) (rOp (oMov (.slot 2)) (rOp (oLen .sl (.env 0)) (rOp (oUnsafeStr 5 (.env 2) (.env 0)) (rOpS 1 (oMov (.env 0)) rDone)))))))
 (sExit .ret))))))
noncomputable def k116 : Code := codeIn Tryz.f116
theorem h116 : (cCode Tryz.prog m116 k116).map den = some e116 := by kernel_rfl
noncomputable def fn116 : AFunc := { real := true, nslots := 4, params := [(some 0)], results := [.slot 1], assign := sNone, body := e116 }
/- bonsai/print.Def -/
noncomputable def m117 : Meta := { slots := [(0, false), (1, true), (2, false), (3, false), (14, false)], globals := gl, lid := 4635, n := 21, ext := ext }
noncomputable def e117 : CodeF := (sSeq (sRegion (rOp (oBoxP 1 (.slot 0)) (rOpS 2 (oMov (.const (.str []))) rDone)))
 (sSeq (sRegion (rOp (oFldP 1 1 (.const (.fp 0))) (rOp (oLoadP 1 2 true (.env 0)) (rOp (oCall 129 [(.env 0)]) (rOpS 3 (oMov (.env 0)) rDone)))))
 (sSeq (sSeq (sRegion (rOp (oMov (.slot 3)) (rOp (oBin .eql (.env 0) (.const (.str []))) (rOp (oMov (.env 0)) (rOpG 0 false (oFldP 1 0 (.const (.fp 0))) (rOpG 1 false (oLoadP 1 1 false (.env 0)) (rOpG 2 false (oCall 43 [(.env 0)]) (rOpG 3 false (oUn .not (.env 0)) (rOpS 4 (oPick (.env 4) (.const (.bool true)) (.env 0)) rDone)))))))))
 (sCond (.slot 4) (sSeq (sRegion (rOpS 2 (oMov (.const (.str []))) rDone))
 (sExit .ret)) sSkip))
 (sSeq (sRegion (rOp (oFldP 1 0 (.const (.fp 0))) (rOp (oLoadP 1 1 false (.env 0)) (rOp (oBin .add (.env 0) (.const (.str [32, 60, 45, 32]))) (rOp (oMov (.slot 3)) (rOp (oBin .add (.env 1) (.env 0)) (rOp (oBin .add (.env 0) (.const (.str [10]))) (rOpS 2 (oMov (.env 0)) rDone))))))))
 (sExit .ret)))))
noncomputable def k117 : Code := codeIn Tryz.f117
theorem h117 : (cCode Tryz.prog m117 k117).map den = some e117 := by kernel_rfl
noncomputable def fn117 : AFunc := { real := true, nslots := 5, params := [(some 0)], results := [.slot 2], assign := sNone, body := e117 }
/- internal/stringslite.HasPrefix -/
noncomputable def m118 : Meta := { slots := [(0, false), (1, false), (4, false)], globals := gl, lid := 4657, n := 18, ext := ext }
noncomputable def e118 : CodeF := (sSeq (sRegion (rOpS 2 (oMov (.const (.bool false))) rDone))
 (sSeq (sRegion (rOp (oMov (.slot 0)) (rOp (oLen .str (.env 0)) (rOp (oMov (.slot 1)) (rOp (oLen .str (.env 0)) (rOp (oBin .geq (.env 2) (.env 0)) (rOp (oMov (.env 0)) (rOpG 0 true (oMov (.slot 0)) (rOpG 1 true (oMov (.slot 1)) (rOpG 2 true (oLen .str (.env 0)) (rOpG 3 true (oSlice true 0 (.env 2) none (some (.env 0)) none) (rOpG 4 true (oMov (.slot 1)) (rOpG 5 true (oBin .eql (.env 1) (.env 0)) (rOp (oPick (.env 6) (.env 0) (.const (.bool false))) (rOpS 2 (oMov (.env 0)) rDone)))))))))))))))
 (sExit .ret)))
noncomputable def k118 : Code := codeIn Tryz.f118
theorem h118 : (cCode Tryz.prog m118 k118).map den = some e118 := by kernel_rfl
noncomputable def fn118 : AFunc := { real := true, nslots := 3, params := [(some 0), (some 1)], results := [.slot 2], assign := sNone, body := e118 }
/- bonsai/lex.each$1 -/
noncomputable def m119 : Meta := { slots := [(0, false), (1, false), (3, false), (4, false), (5, false), (6, false), (7, true), (14, false), (24, false), (37, false), (45, false)], globals := gl, lid := 4676, n := 50, ext := ext }
noncomputable def e119 : CodeF := (sSeq (sRegion (rOp (oCall 120 []) (rOpS 2 (oMov (.env 0)) rDone)))
 (sSeq (sRegion (rOp (oLoad 1 false (.slot 1)) (rOp (oCall 121 [(.env 0), (.const (.int .i64 0))]) (rOpS 3 (oMov (.env 0)) rDone))))
 (sBlock 0 (sLoop (sSeq (sSeq (sRegion (rOp (oMov (.slot 3)) (rOp (oLoad 1 false (.slot 1)) (rOp (oLen .str (.env 0)) (rOpS 7 (oBin .lss (.env 2) (.env 0)) rDone)))))
 (sCond (.slot 7) sSkip (sExit (.exit 0))))
 (sBlock 1 (sSeq (sRegion (rOp (oMov (.slot 2)) (rOp (oLoad 1 false (.slot 1)) (rOp (oMov (.slot 3)) (rOp (oIdxStr (.env 1) (.env 0)) (rOp (oLookup false .nilf true (.env 3) (.env 0)) (rOp (oMov (.env 0)) (rOp (oExt (.env 0) 0) (rOp (oExt (.env 1) 1) (rOpS 4 (oMov (.env 1)) (rOpS 5 (oMov (.env 1)) rDone)))))))))))
 (sSeq (sSeq (sRegion (rOp (oMov (.slot 5)) (rOpS 8 (oUn .not (.env 0)) rDone)))
 (sCond (.slot 8) (sSeq (sRegion (rOp (oMov (.slot 0)) (rOp (oMov (.slot 3)) (rOp (oBuild [(.int .u8 0), (.int .i64 0), (.int .i64 0), (.str []), (.int .u64 0), (.int .u64 0), (.int .u64 0), (.int .u64 0), (.int .i64 0), (.int .i64 0)] [(1, 1, (.env 0))]) (rOp (oCallv (.env 2) [(.env 0), (.const (.int .i64 4))]) rDone)))))
 (sExit .ret)) sSkip))
 (sSeq (sRegion (rOp (oMov (.slot 4)) (rOp (oLoad 1 false (.slot 1)) (rOp (oMov (.slot 3)) (rOp (oCallv (.env 2) [(.env 1), (.env 0)]) (rOp (oMov (.env 0)) (rOp (oExt (.env 0) 0) (rOp (oExt (.env 1) 1) (rOp (oAllocP 6 [(.int .u8 0), (.int .i64 0), (.int .i64 0), (.str []), (.int .u64 0), (.int .u64 0), (.int .u64 0), (.int .u64 0), (.int .i64 0), (.int .i64 0)]) (rOp (oStoreP 6 10 (.env 0) (.env 2)) (rOpS 5 (oMov (.env 2)) rDone)))))))))))
 (sSeq (sSeq (sRegion (rOp (oMov (.slot 5)) (rOpS 9 (oUn .not (.env 0)) rDone)))
 (sCond (.slot 9) (sSeq (sRegion (rOp (oMov (.slot 0)) (rOp (oMov (.slot 3)) (rOp (oBuild [(.int .u8 0), (.int .i64 0), (.int .i64 0), (.str []), (.int .u64 0), (.int .u64 0), (.int .u64 0), (.int .u64 0), (.int .i64 0), (.int .i64 0)] [(1, 1, (.env 0))]) (rOp (oCallv (.env 2) [(.env 0), (.const (.int .i64 4))]) rDone)))))
 (sExit .ret)) sSkip))
 (sSeq (sSeq (sRegion (rOp (oMov (.slot 0)) (rOp (oLoadP 6 10 true (.const (.fp 0))) (rOp (oCallv (.env 1) [(.env 0), (.const (.int .i64 0))]) (rOpS 10 (oUn .not (.env 0)) rDone)))))
 (sCond (.slot 10) (sExit .ret) sSkip))
 (sRegion (rOp (oLoad 1 false (.slot 1)) (rOp (oFldP 6 2 (.const (.fp 0))) (rOp (oLoadP 6 1 false (.env 0)) (rOp (oCall 121 [(.env 2), (.env 0)]) (rOpS 3 (oMov (.env 0)) rDone)))))))))))))))))
noncomputable def k119 : Code := codeIn Tryz.f119
theorem h119 : (cCode Tryz.prog m119 k119).map den = some e119 := by kernel_rfl
noncomputable def fn119 : AFunc := { real := true, nslots := 11, params := [(some 0), (some 1)], results := [], assign := sNone, body := e119 }
/- bonsai/lex.readings -/
noncomputable def m120 : Meta := { slots := [(0, false), (1, false), (2, false), (3, false), (7, false), (18, false), (19, false), (23, false)], globals := gl, lid := 4727, n := 29, ext := ext }
noncomputable def e120 : CodeF := (sSeq (sRegion (rOpS 0 (oMov (.const .nilm)) rDone))
 (sSeq (sRegion (rOp (oMkmap) (rOp (oMapset false (.env 0) (.const (.int .u8 123)) (.const (.fn 130 [] []))) (rOp (oMapset false (.env 1) (.const (.int .u8 34)) (.const (.fn 131 [] []))) (rOp (oMapset false (.env 2) (.const (.int .u8 91)) (.const (.fn 132 [] []))) (rOp (oMapset false (.env 3) (.const (.int .u8 46)) (.const (.fn 133 [] []))) (rOp (oMov (.env 4)) (rOpS 1 (oMov (.env 0)) rDone))))))))
 (sSeq (sSeq (sRegion (rOpS 2 (oMov (.const (.int .i64 0))) rDone))
 (sBlock 0 (sLoop (sSeq (sSeq (sRegion (rOp (oMov (.slot 2)) (rOpS 4 (oBin .lss (.env 0) (.const (.int .i64 11))) rDone)))
 (sCond (.slot 4) sSkip (sExit (.exit 0))))
 (sSeq (sBlock 1 (sRegionD (dOp (oMov (.slot 1)) false (dOp (oMov (.slot 2)) false (dOp (oIdxStr (.const (.str [47, 38, 33, 63, 42, 43, 40, 41, 60, 62, 58])) (.env 0)) false (dOp (oMov (.slot 2)) false (dOp (oConvInt .u8 (.env 0)) false (dOp (oBin .add (.const (.int .u8 3)) (.env 0)) false (dOp (oCall 134 [(.env 0)]) true (dOp (oMapset false (.env 6) (.env 4) (.env 0)) true dDone)))))))) [] []))
 (sRegion (rOp (oMov (.slot 2)) (rOp (oBin .add (.env 0) (.const (.int .i64 1))) (rOpS 2 (oMov (.env 0)) rDone)))))))))
 (sSeq (sRegion (rOp (oMov (.slot 1)) (rOp (oMapset false (.env 0) (.const (.int .u8 60)) (.const (.fn 135 [] []))) rDone)))
 (sSeq (sSeq (sRegion (rOpS 5 (oMov (.const (.int .i64 0))) rDone))
 (sBlock 2 (sLoop (sSeq (sRegion (rOpS 6 (oBin .lss (.slot 5) (.const (.int .i64 256))) rDone))
 (sSeq (sCond (.slot 6) sSkip (sExit (.exit 2)))
 (sSeq (sBlock 3 (sSeq (sRegion (rOp (oMov (.slot 5)) (rOpS 3 (oMov (.env 0)) rDone)))
 (sSeq (sRegion (rOp (oMov (.slot 3)) (rOp (oConvInt .u8 (.env 0)) (rOpS 7 (oCall 98 [(.env 0)]) rDone))))
 (sCond (.slot 7) (sRegion (rOp (oMov (.slot 1)) (rOp (oMov (.slot 3)) (rOp (oConvInt .u8 (.env 0)) (rOp (oMapset false (.env 2) (.env 0) (.const (.fn 136 [] []))) rDone))))) sSkip))))
 (sRegion (rOp (oBin .add (.slot 5) (.const (.int .i64 1))) (rOpS 5 (oMov (.env 0)) rDone)))))))))
 (sSeq (sRegion (rOp (oMov (.slot 1)) (rOpS 0 (oMov (.env 0)) rDone)))
 (sExit .ret)))))))
noncomputable def k120 : Code := codeIn Tryz.f120
theorem h120 : (cCode Tryz.prog m120 k120).map den = some e120 := by kernel_rfl
noncomputable def fn120 : AFunc := { real := true, nslots := 8, params := [], results := [.slot 0], assign := sNone, body := e120 }
/- bonsai/lex.skip -/
noncomputable def m121 : Meta := { slots := [(0, false), (1, false), (4, false), (5, false), (9, false), (12, false), (14, false), (21, false), (28, false)], globals := gl, lid := 4757, n := 35, ext := ext }
noncomputable def e121 : CodeF := (sSeq (sRegion (rOpS 2 (oMov (.const (.int .i64 0))) rDone))
 (sSeq (sBlock 0 (sLoop (sSeq (sSeq (sRegion (rOp (oMov (.slot 1)) (rOp (oMov (.slot 0)) (rOp (oLen .str (.env 0)) (rOpS 4 (oBin .lss (.env 2) (.env 0)) rDone)))))
 (sCond (.slot 4) sSkip (sExit (.exit 0))))
 (sBlock 1 (sSeq (sRegion (rOp (oMov (.slot 0)) (rOp (oMov (.slot 1)) (rOpS 5 (oIdxStr (.env 1) (.env 0)) rDone))))
 (sBlock 2 (sSeq (sSeq (sRegion (rOp (oBin .eql (.slot 5) (.const (.int .u8 32))) (rOpS 6 (oMov (.env 0)) rDone)))
 (sCond (.slot 6) sSkip (sSeq (sRegion (rOp (oBin .eql (.slot 5) (.const (.int .u8 9))) (rOpS 6 (oMov (.env 0)) rDone)))
 (sCond (.slot 6) sSkip (sSeq (sRegion (rOp (oBin .eql (.slot 5) (.const (.int .u8 13))) (rOpS 6 (oMov (.env 0)) rDone)))
 (sCond (.slot 6) sSkip (sRegion (rOp (oBin .eql (.slot 5) (.const (.int .u8 10))) (rOpS 6 (oMov (.env 0)) rDone)))))))))
 (sCond (.slot 6) (sRegion (rOp (oMov (.slot 1)) (rOp (oBin .add (.env 0) (.const (.int .i64 1))) (rOpS 1 (oMov (.env 0)) rDone)))) (sSeq (sRegion (rOp (oBin .eql (.slot 5) (.const (.int .u8 35))) (rOpS 7 (oMov (.env 0)) rDone)))
 (sCond (.slot 7) (sSeq (sRegion (rOp (oMov (.slot 0)) (rOp (oMov (.slot 1)) (rOp (oSlice true 0 (.env 1) (some (.env 0)) none none) (rOp (oCall 137 [(.env 0), (.const (.int .u8 10))]) (rOpS 3 (oMov (.env 0)) rDone))))))
 (sSeq (sSeq (sRegion (rOp (oMov (.slot 3)) (rOpS 8 (oBin .lss (.env 0) (.const (.int .i64 0))) rDone)))
 (sCond (.slot 8) (sSeq (sRegion (rOp (oMov (.slot 0)) (rOp (oLen .str (.env 0)) (rOpS 2 (oMov (.env 0)) rDone))))
 (sExit .ret)) sSkip))
 (sRegion (rOp (oMov (.slot 1)) (rOp (oMov (.slot 3)) (rOp (oBin .add (.env 1) (.env 0)) (rOpS 1 (oMov (.env 0)) rDone))))))) (sSeq (sRegion (rOp (oMov (.slot 1)) (rOpS 2 (oMov (.env 0)) rDone)))
 (sExit .ret))))))))))))
 (sSeq (sRegion (rOp (oMov (.slot 1)) (rOpS 2 (oMov (.env 0)) rDone)))
 (sExit .ret))))
noncomputable def k121 : Code := codeIn Tryz.f121
theorem h121 : (cCode Tryz.prog m121 k121).map den = some e121 := by kernel_rfl
noncomputable def fn121 : AFunc := { real := true, nslots := 9, params := [(some 0), (some 1)], results := [.slot 2], assign := sNone, body := e121 }
/- (*bonsai/parse.reader).suffix$1 -/
noncomputable def m122 : Meta := { slots := [(0, false), (1, false), (2, false), (3, false), (5, false)], globals := gl, lid := 4793, n := 13, ext := ext }
noncomputable def e122 : CodeF := (sSeq (sRegion (rOpS 4 (oMov (.const (.int .i64 0))) rDone))
 (sSeq (sRegion (rOp (oLoad 1 false (.slot 1)) (rOp (oLoad 1 false (.slot 2)) (rOp (oLoad 1 false (.slot 3)) (rOp (oBuild [(.int .u8 0), (.int .u64 0), (.int .u64 0), (.int .u64 0), (.int .u64 0), (.str []), (.int .i64 0), (.int .i64 0), .nils] [(0, 1, (.const (.int .u8 6))), (6, 1, (.env 1)), (7, 1, (.env 0))]) (rOp (oMov (.slot 0)) (rOp (oBslice 3 1 1 [(.int .i64 0)] [(0, 1, (.env 0))]) (rOp (oCall 87 [(.env 5), (.env 2), (.env 0)]) (rOpS 4 (oMov (.env 0)) rDone)))))))))
 (sExit .ret)))
noncomputable def k122 : Code := codeIn Tryz.f122
theorem h122 : (cCode Tryz.prog m122 k122).map den = some e122 := by kernel_rfl
noncomputable def fn122 : AFunc := { real := true, nslots := 5, params := [(some 0), (some 1), (some 2), (some 3)], results := [.slot 4], assign := sNone, body := e122 }
/- (*bonsai/expr.arena).keep -/
noncomputable def m123 : Meta := { slots := [(0, false), (1, false), (2, false), (4, true), (6, false)], globals := gl, lid := 4807, n := 12, ext := ext }
noncomputable def e123 : CodeF := (sSeq (sRegion (rOp (oBoxP 3 (.slot 1)) (rOpS 4 (oMov (.const (.int .i64 0))) rDone)))
 (sSeq (sRegion (rOp (oMov (.slot 2)) (rOp (oFldP 3 8 (.const (.fp 0))) (rOp (oStoreP 3 1 (.env 0) (.env 1)) rDone))))
 (sSeq (sRegion (rOp (oMov (.slot 0)) (rOp (oLoadP 3 9 true (.const (.fp 0))) (rOp (oCall 138 [(.env 1), (.env 0)]) (rOpS 4 (oMov (.env 0)) rDone)))))
 (sExit .ret))))
noncomputable def k123 : Code := codeIn Tryz.f123
theorem h123 : (cCode Tryz.prog m123 k123).map den = some e123 := by kernel_rfl
noncomputable def fn123 : AFunc := { real := true, nslots := 5, params := [(some 0), (some 1), (some 2)], results := [.slot 4], assign := sNone, body := e123 }
/- (*bonsai/expr.arena).seq -/
noncomputable def m124 : Meta := { slots := [(0, false), (1, false), (2, false), (4, true), (6, false)], globals := gl, lid := 4820, n := 12, ext := ext }
noncomputable def e124 : CodeF := (sSeq (sRegion (rOp (oBoxP 3 (.slot 1)) (rOpS 4 (oMov (.const (.int .i64 0))) rDone)))
 (sSeq (sRegion (rOp (oMov (.slot 0)) (rOp (oLoadP 3 9 true (.const (.fp 0))) (rOp (oMov (.slot 2)) (rOp (oBuild [(.int .u8 0), (.int .u64 0), (.int .u64 0), (.int .u64 0), (.int .u64 0), (.str []), (.int .i64 0), (.int .i64 0), .nils] [(0, 1, (.const (.int .u8 0)))]) (rOp (oCall 139 [(.env 3), (.env 2), (.env 1), (.env 0)]) (rOpS 4 (oMov (.env 0)) rDone)))))))
 (sExit .ret)))
noncomputable def k124 : Code := codeIn Tryz.f124
theorem h124 : (cCode Tryz.prog m124 k124).map den = some e124 := by kernel_rfl
noncomputable def fn124 : AFunc := { real := true, nslots := 5, params := [(some 0), (some 1), (some 2)], results := [.slot 4], assign := sNone, body := e124 }
/- (*bonsai/expr.arena).choice -/
noncomputable def m125 : Meta := { slots := [(0, false), (1, false), (2, false), (4, true), (6, false)], globals := gl, lid := 4833, n := 12, ext := ext }
noncomputable def e125 : CodeF := (sSeq (sRegion (rOp (oBoxP 3 (.slot 1)) (rOpS 4 (oMov (.const (.int .i64 0))) rDone)))
 (sSeq (sRegion (rOp (oMov (.slot 0)) (rOp (oLoadP 3 9 true (.const (.fp 0))) (rOp (oMov (.slot 2)) (rOp (oBuild [(.int .u8 0), (.int .u64 0), (.int .u64 0), (.int .u64 0), (.int .u64 0), (.str []), (.int .i64 0), (.int .i64 0), .nils] [(0, 1, (.const (.int .u8 1)))]) (rOp (oCall 139 [(.env 3), (.env 2), (.env 1), (.env 0)]) (rOpS 4 (oMov (.env 0)) rDone)))))))
 (sExit .ret)))
noncomputable def k125 : Code := codeIn Tryz.f125
theorem h125 : (cCode Tryz.prog m125 k125).map den = some e125 := by kernel_rfl
noncomputable def fn125 : AFunc := { real := true, nslots := 5, params := [(some 0), (some 1), (some 2)], results := [.slot 4], assign := sNone, body := e125 }
/- (*bonsai/expr.arena).parts -/
noncomputable def m126 : Meta := { slots := [(0, false), (1, false), (4, false), (5, false), (6, false), (7, false), (8, false), (10, false), (25, false), (32, false), (54, false), (67, false), (68, false), (69, false)], globals := gl, lid := 4846, n := 75, ext := ext }
noncomputable def e126 : CodeF := (sSeq (sRegion (rOpS 2 (oMov (.const .nils)) rDone))
 (sSeq (sRegion (rOp (oMov (.slot 0)) (rOp (oNilc (.env 0)) (rOp (oFld 0 (.env 0)) (rOp (oLoad 1 false (.env 0)) (rOp (oMov (.slot 1)) (rOp (oIdxS 9 (.env 1) (.env 0)) (rOp (oLoad 9 true (.env 0)) (rOpS 3 (oAlloc 67 [(.int .u8 0), (.int .u64 0), (.int .u64 0), (.int .u64 0), (.int .u64 0), (.str []), (.int .i64 0), (.int .i64 0), .nils]) (rOp (oStore 9 (.env 0) (.env 1)) rDone))))))))))
 (sSeq (sSeq (sRegion (rOp (oFld 0 (.slot 3)) (rOp (oLoad 1 false (.env 0)) (rOp (oBin .neq (.env 0) (.const (.int .u8 4))) (rOp (oMov (.env 0)) (rOpG 0 true (oFld 0 (.slot 3)) (rOpG 1 true (oLoad 1 false (.env 0)) (rOpG 2 true (oBin .neq (.env 0) (.const (.int .u8 5))) (rOpS 8 (oPick (.env 3) (.env 0) (.const (.bool false))) rDone)))))))))
 (sCond (.slot 8) (sSeq (sRegion (rOp (oFld 8 (.slot 3)) (rOp (oLoad 1 false (.env 0)) (rOpS 2 (oMov (.env 0)) rDone))))
 (sExit .ret)) sSkip))
 (sSeq (sRegion (rOpS 4 (oMov (.const .nils)) rDone))
 (sSeq (sRegion (rOp (oMov (.slot 1)) (rOp (oBslice 3 1 1 [(.int .i64 0)] [(0, 1, (.env 0))]) (rOpS 5 (oAlloc 65 [.nils]) (rOp (oStore 1 (.env 0) (.env 1)) rDone)))))
 (sSeq (sBlock 0 (sLoop (sSeq (sSeq (sRegion (rOp (oLoad 1 false (.slot 5)) (rOp (oLen .sl (.env 0)) (rOpS 9 (oBin .gtr (.env 0) (.const (.int .i64 0))) rDone))))
 (sCond (.slot 9) sSkip (sExit (.exit 0))))
 (sBlock 1 (sSeq (sRegion (rOp (oLoad 1 false (.slot 5)) (rOp (oLoad 1 false (.slot 5)) (rOp (oLen .sl (.env 0)) (rOp (oBin .sub (.env 0) (.const (.int .i64 1))) (rOp (oIdxS 1 (.env 3) (.env 0)) (rOp (oLoad 1 false (.env 0)) (rOpS 6 (oMov (.env 0)) rDone))))))))
 (sSeq (sRegion (rOp (oLoad 1 false (.slot 5)) (rOp (oLoad 1 false (.slot 5)) (rOp (oLen .sl (.env 0)) (rOp (oBin .sub (.env 0) (.const (.int .i64 1))) (rOp (oSlice false 1 (.env 3) none (some (.env 0)) none) (rOp (oStore 1 (.slot 5) (.env 0)) rDone)))))))
 (sSeq (sSeq (sRegionD (dOp (oMov (.slot 0)) false (dOp (oNilc (.env 0)) false (dOp (oFld 0 (.env 0)) false (dOp (oLoad 1 false (.env 0)) false (dOp (oMov (.slot 6)) false (dOp (oIdxS 9 (.env 1) (.env 0)) false (dOp (oFld 0 (.env 0)) false (dOp (oLoad 1 false (.env 0)) false (dOp (oFld 0 (.slot 3)) false (dOp (oLoad 1 false (.env 0)) false (dOp (oBin .neq (.env 2) (.env 0)) false dDone))))))))))) [] [(10, 0)])
 (sCond (.slot 10) (sSeq (sRegion (rOp (oMov (.slot 4)) (rOp (oMov (.slot 6)) (rOp (oBslice 3 1 1 [(.int .i64 0)] [(0, 1, (.env 0))]) (rOp (oAppend 3 1 8 (.env 2) (.env 0)) (rOpS 4 (oMov (.env 0)) rDone))))))
 (sExit (.exit 1))) sSkip))
 (sSeq (sRegion (rOp (oMov (.slot 0)) (rOp (oNilc (.env 0)) (rOp (oFld 0 (.env 0)) (rOp (oLoad 1 false (.env 0)) (rOp (oMov (.slot 6)) (rOp (oIdxS 9 (.env 1) (.env 0)) (rOp (oFld 8 (.env 0)) (rOp (oLoad 1 false (.env 0)) (rOpS 11 (oCall 140 [(.env 0)]) rDone))))))))))
 (sBlock 2 (sRangeFunc (.slot 11) [12, 13] 4913))))))))))
 (sSeq (sRegion (rOp (oMov (.slot 4)) (rOpS 2 (oMov (.env 0)) rDone)))
 (sExit .ret))))))))
noncomputable def k126 : Code := codeIn Tryz.f126
theorem h126 : (cCode Tryz.prog m126 k126).map den = some e126 := by kernel_rfl
noncomputable def fn126 : AFunc := { real := true, nslots := 14, params := [(some 0), (some 1)], results := [.slot 2], assign := sNone, body := e126 }
noncomputable def a4913 : CodeF := (sRegion (rOpS 7 (oMov (.slot 13)) rDone))
noncomputable def b4913 : CodeF := (sBlock 3 (sRegion (rOp (oLoad 1 false (.slot 5)) (rOp (oMov (.slot 7)) (rOp (oBslice 3 1 1 [(.int .i64 0)] [(0, 1, (.env 0))]) (rOp (oAppend 3 1 8 (.env 2) (.env 0)) (rOp (oStore 1 (.slot 5) (.env 0)) rDone)))))))
noncomputable def fn4913 : AFunc := { real := false, nslots := 0, params := [], results := [], assign := a4913, body := b4913 }
theorem lp126 : (loopsOf Tryz.prog m126 k126).map (List.map fun x => (x.1, den x.2.1, den x.2.2)) = some [(4913, a4913, b4913)] := by kernel_rfl
/- slices.Reverse[[]int,int] -/
noncomputable def m127 : Meta := { slots := [(0, false), (2, false), (3, false), (9, false)], globals := gl, lid := 4922, n := 28, ext := ext }
noncomputable def e127 : CodeF := (sSeq (sRegion (rOp (oMov (.slot 0)) (rOp (oLen .sl (.env 0)) (rOp (oBin .sub (.env 0) (.const (.int .i64 1))) (rOpS 1 (oMov (.const (.int .i64 0))) (rOpS 2 (oMov (.env 1)) rDone))))))
 (sBlock 0 (sLoop (sSeq (sSeq (sRegion (rOp (oMov (.slot 1)) (rOp (oMov (.slot 2)) (rOpS 3 (oBin .lss (.env 1) (.env 0)) rDone))))
 (sCond (.slot 3) sSkip (sExit (.exit 0))))
 (sSeq (sBlock 1 (sRegionD (dOp (oMov (.slot 0)) false (dOp (oMov (.slot 1)) false (dOp (oMov (.slot 0)) false (dOp (oMov (.slot 2)) false (dOp (oMov (.slot 0)) false (dOp (oMov (.slot 2)) false (dOp (oIdxS 1 (.env 1) (.env 0)) false (dOp (oLoad 1 false (.env 0)) false (dOp (oMov (.slot 0)) false (dOp (oMov (.slot 1)) false (dOp (oIdxS 1 (.env 1) (.env 0)) false (dOp (oLoad 1 false (.env 0)) false (dOp (oIdxS 1 (.env 11) (.env 10)) false (dOp (oStore 1 (.env 0) (.env 5)) true (dOp (oIdxS 1 (.env 11) (.env 10)) false (dOp (oStore 1 (.env 0) (.env 3)) true dDone)))))))))))))))) [] []))
 (sRegion (rOp (oMov (.slot 1)) (rOp (oBin .add (.env 0) (.const (.int .i64 1))) (rOp (oMov (.slot 2)) (rOp (oBin .sub (.env 0) (.const (.int .i64 1))) (rOpS 1 (oMov (.env 2)) (rOpS 2 (oMov (.env 1)) rDone))))))))))))
noncomputable def k127 : Code := codeIn Tryz.f127
theorem h127 : (cCode Tryz.prog m127 k127).map den = some e127 := by kernel_rfl
noncomputable def fn127 : AFunc := { real := true, nslots := 4, params := [(some 0)], results := [], assign := sNone, body := e127 }
/- internal/strconv.FormatInt -/
noncomputable def m128 : Meta := { slots := [(0, false), (1, false), (4, false), (5, false), (6, false), (7, false), (9, false), (11, false), (17, false), (23, false), (34, false)], globals := gl, lid := 4951, n := 54, ext := ext }
noncomputable def e128 : CodeF := (sSeq (sRegion (rOpS 2 (oMov (.const (.str []))) rDone))
 (sSeq (sSeq (sRegion (rOp (oMov (.slot 1)) (rOpS 7 (oBin .eql (.env 0) (.const (.int .i64 10))) rDone)))
 (sCond (.slot 7) (sSeq (sSeq (sRegion (rOp (oMov (.slot 0)) (rOp (oBin .leq (.const (.int .i64 0)) (.env 0)) (rOp (oMov (.env 0)) (rOpG 0 true (oMov (.slot 0)) (rOpG 1 true (oBin .lss (.env 0) (.const (.int .i64 100))) (rOpS 8 (oPick (.env 2) (.env 0) (.const (.bool false))) rDone)))))))
 (sCond (.slot 8) (sSeq (sRegion (rOp (oMov (.slot 0)) (rOp (oCall 141 [(.env 0)]) (rOpS 2 (oMov (.env 0)) rDone))))
 (sExit .ret)) sSkip))
 (sSeq (sRegion (rOpS 3 (oAlloc 211 [(.int .u8 0), (.int .u8 0), (.int .u8 0), (.int .u8 0), (.int .u8 0), (.int .u8 0), (.int .u8 0), (.int .u8 0), (.int .u8 0), (.int .u8 0), (.int .u8 0), (.int .u8 0), (.int .u8 0), (.int .u8 0), (.int .u8 0), (.int .u8 0), (.int .u8 0), (.int .u8 0), (.int .u8 0), (.int .u8 0), (.int .u8 0), (.int .u8 0), (.int .u8 0), (.int .u8 0)]) rDone))
 (sSeq (sRegion (rOp (oMov (.slot 0)) (rOp (oConvInt .u64 (.env 0)) (rOpS 4 (oMov (.env 0)) rDone))))
 (sSeq (sSeq (sRegion (rOp (oMov (.slot 0)) (rOpS 9 (oBin .lss (.env 0) (.const (.int .i64 0))) rDone)))
 (sCond (.slot 9) (sRegion (rOp (oMov (.slot 4)) (rOp (oUn .neg (.env 0)) (rOpS 4 (oMov (.env 0)) rDone)))) sSkip))
 (sSeq (sRegion (rOp (oMov (.slot 4)) (rOp (oCall 142 [(.env 0)]) (rOpS 5 (oMov (.env 0)) rDone))))
 (sSeq (sRegion (rOp (oMov (.slot 5)) (rOp (oBin .add (.const (.int .i64 1)) (.env 0)) (rOp (oSliceArr 24 1 (.slot 3) (some (.const (.int .i64 1))) (some (.env 0)) none) (rOp (oMov (.slot 4)) (rOp (oCall 143 [(.env 1), (.env 0)]) rDone))))))
 (sSeq (sSeq (sRegion (rOp (oMov (.slot 0)) (rOpS 10 (oBin .lss (.env 0) (.const (.int .i64 0))) rDone)))
 (sCond (.slot 10) (sSeq (sRegion (rOp (oIdxP 24 1 (.slot 3) (.const (.int .i64 0))) (rOp (oStore 1 (.env 0) (.const (.int .u8 45))) rDone)))
 (sSeq (sRegion (rOp (oMov (.slot 5)) (rOp (oBin .add (.const (.int .i64 1)) (.env 0)) (rOp (oSliceArr 24 1 (.slot 3) none (some (.env 0)) none) (rOp (oConvStr (.env 0)) (rOpS 2 (oMov (.env 0)) rDone))))))
 (sExit .ret))) sSkip))
 (sSeq (sRegion (rOp (oMov (.slot 5)) (rOp (oBin .add (.const (.int .i64 1)) (.env 0)) (rOp (oSliceArr 24 1 (.slot 3) (some (.const (.int .i64 1))) (some (.env 0)) none) (rOp (oConvStr (.env 0)) (rOpS 2 (oMov (.env 0)) rDone))))))
 (sExit .ret))))))))) sSkip))
 (sSeq (sRegion (rOp (oMov (.slot 0)) (rOp (oConvInt .u64 (.env 0)) (rOp (oMov (.slot 1)) (rOp (oMov (.slot 0)) (rOp (oBin .lss (.env 0) (.const (.int .i64 0))) (rOp (oCall 144 [(.const .nils), (.env 3), (.env 2), (.env 0), (.const (.bool false))]) (rOp (oMov (.env 0)) (rOp (oExt (.env 0) 0) (rOp (oExt (.env 1) 1) (rOp (oMov (.env 1)) (rOpS 6 (oMov (.env 1)) rDone))))))))))))
 (sSeq (sRegion (rOp (oMov (.slot 6)) (rOpS 2 (oMov (.env 0)) rDone)))
 (sExit .ret)))))
noncomputable def k128 : Code := codeIn Tryz.f128
theorem h128 : (cCode Tryz.prog m128 k128).map den = some e128 := by kernel_rfl
noncomputable def fn128 : AFunc := { real := true, nslots := 11, params := [(some 0), (some 1)], results := [.slot 2], assign := sNone, body := e128 }
/- bonsai/print.Tree -/
noncomputable def m129 : Meta := { slots := [(0, false), (1, false), (2, false), (3, false), (4, false), (5, false), (6, false), (7, false), (10, false), (32, false), (36, false), (48, false), (53, false), (95, false), (104, false)], globals := gl, lid := 5006, n := 106, ext := ext }
noncomputable def e129 : CodeF := (sSeq (sRegion (rOpS 1 (oBox 48 (.slot 0)) (rOpS 2 (oMov (.const (.str []))) rDone)))
 (den (.scope (.seq (.seq (.region [⟨none, .load 2 true (.slot 1), none⟩, ⟨none, .call 53 [(.env 0)], none⟩, ⟨(some 8), .un .not (.env 0), none⟩])
 (.cond (.slot 8) (.seq (.region [⟨(some 2), .mov (.const (.str [])), none⟩])
 .ret) .skip))
 (.seq (.region [⟨(some 3), .alloc 128 [.nilp, .nils], none⟩])
 (.seq (.region [⟨none, .fld 1 (.slot 1), none⟩, ⟨none, .load 1 false (.env 0), none⟩, ⟨none, .build [(.int .i64 0), (.int .i64 0), (.bool false)] [(0, 1, (.env 0))], none⟩, ⟨none, .bslice 217 3 1 [(.int .i64 0), (.int .i64 0), (.bool false)] [(0, 3, (.env 0))], none⟩, ⟨(some 4), .mov (.env 0), none⟩])
 (.seq (.label 0)
 (.seq (.region [⟨none, .mov (.slot 4), none⟩, ⟨none, .mov (.slot 4), none⟩, ⟨none, .len .sl (.env 0), none⟩, ⟨none, .bin .sub (.env 0) (.const (.int .i64 1)), none⟩, ⟨none, .idxS 3 (.env 3) (.env 0), none⟩, ⟨(some 5), .mov (.env 0), none⟩])
 (.seq (.regionD [⟨.fld 0 (.slot 1), none, false⟩, ⟨.load 1 false (.env 0), none, false⟩, ⟨.mov (.slot 5), none, false⟩, ⟨.nilc (.env 0), none, false⟩, ⟨.fld 0 (.env 0), none, false⟩, ⟨.load 1 false (.env 0), none, false⟩, ⟨.idxS 9 (.env 4) (.env 0), none, false⟩, ⟨.load 9 true (.env 0), none, false⟩, ⟨.alloc 67 [(.int .u8 0), (.int .u64 0), (.int .u64 0), (.int .u64 0), (.int .u64 0), (.str []), (.int .i64 0), (.int .i64 0), .nils], none, true⟩, ⟨.store 9 (.env 0) (.env 1), none, true⟩] [⟨8, .load 1 false (.env 0), none, [1]⟩, ⟨4, .load 1 false (.env 0), none, [1]⟩, ⟨2, .load 9 true (.env 0), none, [1]⟩] [(6, 1)])
 (.seq (.seq (.region [⟨none, .mov (.slot 5), none⟩, ⟨none, .nilc (.env 0), none⟩, ⟨none, .fld 1 (.env 0), none⟩, ⟨none, .load 1 false (.env 0), none⟩, ⟨(some 9), .bin .eql (.env 0) (.const (.int .i64 0)), none⟩])
 (.cond (.slot 9) (.seq (.seq (.region [⟨none, .mov (.slot 5), none⟩, ⟨none, .nilc (.env 0), none⟩, ⟨none, .fld 2 (.env 0), none⟩, ⟨(some 10), .load 1 false (.env 0), none⟩])
 (.cond (.slot 10) (.region [⟨none, .call 145 [(.slot 3), (.const (.int .u8 40))], none⟩]) .skip))
 (.region [⟨none, .load 9 true (.slot 6), none⟩, ⟨none, .call 146 [(.env 0)], none⟩, ⟨none, .call 62 [(.slot 3), (.env 0)], none⟩])) .skip))
 (.seq (.seq (.regionD [⟨.mov (.slot 5), none, false⟩, ⟨.nilc (.env 0), none, false⟩, ⟨.fld 1 (.env 0), none, false⟩, ⟨.load 1 false (.env 0), none, false⟩, ⟨.fld 8 (.slot 6), none, false⟩, ⟨.load 1 false (.env 0), none, false⟩, ⟨.len .sl (.env 0), none, false⟩, ⟨.bin .lss (.env 3) (.env 0), none, false⟩] [] [(11, 0)])
 (.cond (.slot 11) (.seq (.seq (.region [⟨none, .mov (.slot 5), none⟩, ⟨none, .nilc (.env 0), none⟩, ⟨none, .fld 1 (.env 0), none⟩, ⟨none, .load 1 false (.env 0), none⟩, ⟨(some 12), .bin .gtr (.env 0) (.const (.int .i64 0)), none⟩])
 (.cond (.slot 12) (.region [⟨none, .fld 0 (.slot 6), none⟩, ⟨none, .load 1 false (.env 0), none⟩, ⟨none, .idxP 10 3 (.const (.plit false gl1 0)) (.env 0), none⟩, ⟨none, .fld 1 (.env 0), none⟩, ⟨none, .load 1 false (.env 0), none⟩, ⟨none, .call 62 [(.slot 3), (.env 0)], none⟩]) .skip))
 (.seq (.regionD [⟨.fld 8 (.slot 6), none, false⟩, ⟨.load 1 false (.env 0), none, false⟩, ⟨.mov (.slot 5), none, false⟩, ⟨.nilc (.env 0), none, false⟩, ⟨.fld 1 (.env 0), none, false⟩, ⟨.load 1 false (.env 0), none, false⟩, ⟨.idxS 1 (.env 4) (.env 0), none, false⟩, ⟨.load 1 false (.env 0), none, false⟩, ⟨.mov (.env 0), none, false⟩] [] [(7, 0)])
 (.seq (.region [⟨none, .mov (.slot 5), none⟩, ⟨none, .nilc (.env 0), none⟩, ⟨none, .fld 1 (.env 0), none⟩, ⟨none, .load 1 false (.env 0), none⟩, ⟨none, .bin .add (.env 0) (.const (.int .i64 1)), none⟩, ⟨none, .nilc (.env 4), none⟩, ⟨none, .fld 1 (.env 0), none⟩, ⟨none, .store 1 (.env 0) (.env 2), none⟩])
 (.seq (.regionD [⟨.mov (.slot 4), none, false⟩, ⟨.mov (.slot 7), none, false⟩, ⟨.fld 0 (.slot 6), none, false⟩, ⟨.load 1 false (.env 0), none, false⟩, ⟨.fld 0 (.slot 1), none, false⟩, ⟨.load 1 false (.env 0), none, false⟩, ⟨.mov (.slot 7), none, false⟩, ⟨.idxS 9 (.env 1) (.env 0), none, false⟩, ⟨.fld 0 (.env 0), none, false⟩, ⟨.load 1 false (.env 0), none, false⟩, ⟨.call 147 [(.env 6), (.env 0)], none, true⟩, ⟨.build [(.int .i64 0), (.int .i64 0), (.bool false)] [(0, 1, (.env 9)), (2, 1, (.env 0))], none, false⟩, ⟨.bslice 217 3 1 [(.int .i64 0), (.int .i64 0), (.bool false)] [(0, 3, (.env 0))], none, true⟩, ⟨.append 217 3 24 (.env 12) (.env 0), none, true⟩, ⟨.mov (.env 0), none, false⟩] [] [(4, 0)])
 (.goto 0))))) .skip))
 (.seq (.region [⟨none, .load 9 true (.slot 6), none⟩, ⟨none, .call 148 [(.env 0)], none⟩, ⟨none, .call 62 [(.slot 3), (.env 0)], none⟩])
 (.seq (.seq (.region [⟨none, .mov (.slot 5), none⟩, ⟨none, .nilc (.env 0), none⟩, ⟨none, .fld 2 (.env 0), none⟩, ⟨(some 13), .load 1 false (.env 0), none⟩])
 (.cond (.slot 13) (.region [⟨none, .call 145 [(.slot 3), (.const (.int .u8 41))], none⟩]) .skip))
 (.seq (.region [⟨none, .mov (.slot 4), none⟩, ⟨none, .mov (.slot 4), none⟩, ⟨none, .len .sl (.env 0), none⟩, ⟨none, .bin .sub (.env 0) (.const (.int .i64 1)), none⟩, ⟨none, .slice false 3 (.env 3) none (some (.env 0)) none, none⟩, ⟨(some 4), .mov (.env 0), none⟩])
 (.seq (.seq (.region [⟨none, .mov (.slot 4), none⟩, ⟨none, .len .sl (.env 0), none⟩, ⟨(some 14), .bin .gtr (.env 0) (.const (.int .i64 0)), none⟩])
 (.cond (.slot 14) (.goto 0) .skip))
 (.seq (.region [⟨none, .call 64 [(.slot 3)], none⟩, ⟨(some 2), .mov (.env 0), none⟩])
 .ret))))))))))))))))
noncomputable def k129 : Code := codeIn Tryz.f129
theorem h129 : (cCode Tryz.prog m129 k129).map den = some e129 := by kernel_rfl
noncomputable def fn129 : AFunc := { real := true, nslots := 15, params := [(some 0)], results := [.slot 2], assign := sNone, body := e129 }
theorem lp129 : (loopsOf Tryz.prog m129 k129).map (List.map fun x => (x.1, den x.2.1, den x.2.2)) = some [] := by kernel_rfl
/- bonsai/lex.count -/
noncomputable def m130 : Meta := { slots := [(0, false), (1, false), (4, true), (5, false), (6, false), (8, false), (9, false), (10, false), (11, false), (12, false), (13, false), (14, false), (25, false), (39, false), (42, false), (48, false), (61, false)], globals := gl, lid := 5113, n := 72, ext := ext }
noncomputable def e130 : CodeF := (sSeq (sRegion (rOp (oAllocP 2 [(.int .u8 0), (.int .i64 0), (.int .i64 0), (.str []), (.int .u64 0), (.int .u64 0), (.int .u64 0), (.int .u64 0), (.int .i64 0), (.int .i64 0)]) (rOpS 3 (oMov (.const (.bool false))) rDone)))
 (sSeq (sRegion (rOp (oMov (.slot 0)) (rOp (oMov (.slot 1)) (rOp (oBin .add (.env 0) (.const (.int .i64 1))) (rOp (oSlice true 0 (.env 2) (some (.env 0)) none none) (rOp (oCall 149 [(.env 0), (.const (.str [125]))]) (rOp (oMov (.env 0)) (rOp (oExt (.env 0) 0) (rOp (oExt (.env 1) 1) (rOp (oExt (.env 2) 2) (rOpS 4 (oMov (.env 2)) (rOp (oMov (.env 2)) (rOpS 5 (oMov (.env 2)) rDone)))))))))))))
 (sSeq (sSeq (sRegion (rOp (oMov (.slot 5)) (rOpS 12 (oUn .not (.env 0)) rDone)))
 (sCond (.slot 12) (sSeq (sRegion (rOp (oBuild [(.int .u8 0), (.int .i64 0), (.int .i64 0), (.str []), (.int .u64 0), (.int .u64 0), (.int .u64 0), (.int .u64 0), (.int .i64 0), (.int .i64 0)] []) (rOp (oStoreP 2 10 (.const (.fp 0)) (.env 0)) (rOpS 3 (oMov (.const (.bool false))) rDone))))
 (sExit .ret)) sSkip))
 (sSeq (sRegion (rOp (oMov (.slot 4)) (rOp (oCall 149 [(.env 0), (.const (.str [44]))]) (rOp (oMov (.env 0)) (rOp (oExt (.env 0) 0) (rOp (oExt (.env 1) 1) (rOp (oExt (.env 2) 2) (rOpS 6 (oMov (.env 2)) (rOpS 7 (oMov (.env 2)) (rOpS 8 (oMov (.env 2)) rDone))))))))))
 (sSeq (sRegion (rOp (oMov (.slot 6)) (rOp (oCall 150 [(.env 0), (.const (.int .i64 99))]) (rOp (oMov (.env 0)) (rOp (oExt (.env 0) 0) (rOp (oExt (.env 1) 1) (rOpS 9 (oMov (.env 1)) (rOpS 10 (oMov (.env 1)) rDone))))))))
 (sSeq (sSeq (sRegion (rOp (oMov (.slot 10)) (rOpS 13 (oBin .neq (.env 0) (.const (.int .i64 0))) rDone)))
 (sCond (.slot 13) (sSeq (sRegion (rOp (oBuild [(.int .u8 0), (.int .i64 0), (.int .i64 0), (.str []), (.int .u64 0), (.int .u64 0), (.int .u64 0), (.int .u64 0), (.int .i64 0), (.int .i64 0)] []) (rOp (oStoreP 2 10 (.const (.fp 0)) (.env 0)) (rOpS 3 (oMov (.const (.bool false))) rDone))))
 (sExit .ret)) sSkip))
 (sSeq (sRegion (rOp (oMov (.slot 9)) (rOpS 11 (oMov (.env 0)) rDone)))
 (sSeq (sBlock 0 (sSeq (sRegion (rOp (oMov (.slot 8)) (rOp (oMov (.env 0)) (rOpG 0 true (oMov (.slot 7)) (rOpG 1 true (oBin .eql (.env 0) (.const (.str []))) (rOp (oPick (.env 2) (.env 0) (.const (.bool false))) (rOpS 14 (oMov (.env 0)) rDone)))))))
 (sCond (.slot 14) (sRegion (rOpS 11 (oMov (.const (.int .i64 (-1)))) rDone)) (sSeq (sRegion (rOp (oMov (.slot 8)) (rOpS 15 (oMov (.env 0)) rDone)))
 (sCond (.slot 15) (sSeq (sRegion (rOp (oMov (.slot 7)) (rOp (oCall 150 [(.env 0), (.const (.int .i64 99))]) (rOp (oMov (.env 0)) (rOp (oExt (.env 0) 0) (rOp (oExt (.env 1) 1) (rOpS 11 (oMov (.env 1)) (rOpS 10 (oMov (.env 1)) rDone))))))))
 (sSeq (sRegion (rOp (oMov (.slot 10)) (rOp (oBin .neq (.env 0) (.const (.int .i64 0))) (rOp (oMov (.env 0)) (rOpG 0 false (oMov (.slot 11)) (rOpG 1 false (oMov (.slot 9)) (rOpG 2 false (oBin .lss (.env 1) (.env 0)) (rOpS 16 (oPick (.env 3) (.const (.bool true)) (.env 0)) rDone))))))))
 (sCond (.slot 16) (sSeq (sRegion (rOp (oBuild [(.int .u8 0), (.int .i64 0), (.int .i64 0), (.str []), (.int .u64 0), (.int .u64 0), (.int .u64 0), (.int .u64 0), (.int .i64 0), (.int .i64 0)] []) (rOp (oStoreP 2 10 (.const (.fp 0)) (.env 0)) (rOpS 3 (oMov (.const (.bool false))) rDone))))
 (sExit .ret)) sSkip))) sSkip)))))
 (sSeq (sRegion (rOp (oMov (.slot 1)) (rOp (oMov (.slot 1)) (rOp (oMov (.slot 4)) (rOp (oLen .str (.env 0)) (rOp (oBin .add (.env 2) (.env 0)) (rOp (oBin .add (.env 0) (.const (.int .i64 2))) (rOp (oMov (.slot 9)) (rOp (oMov (.slot 11)) (rOp (oBuild [(.int .u8 0), (.int .i64 0), (.int .i64 0), (.str []), (.int .u64 0), (.int .u64 0), (.int .u64 0), (.int .u64 0), (.int .i64 0), (.int .i64 0)] [(0, 1, (.const (.int .u8 14))), (1, 1, (.env 7)), (2, 1, (.env 2)), (8, 1, (.env 1)), (9, 1, (.env 0))]) (rOp (oStoreP 2 10 (.const (.fp 0)) (.env 0)) (rOpS 3 (oMov (.const (.bool true))) rDone))))))))))))
 (sExit .ret))))))))))
noncomputable def k130 : Code := codeIn Tryz.f130
theorem h130 : (cCode Tryz.prog m130 k130).map den = some e130 := by kernel_rfl
noncomputable def fn130 : AFunc := { real := true, nslots := 17, params := [(some 0), (some 1)], results := [.cellP 2 10 true, .slot 3], assign := sNone, body := e130 }
/- bonsai/lex.literal -/
noncomputable def m131 : Meta := { slots := [(0, false), (1, false), (4, true), (5, false), (6, false), (7, false), (8, false)], globals := gl, lid := 5186, n := 25, ext := ext }
noncomputable def e131 : CodeF := (sSeq (sRegion (rOp (oAllocP 2 [(.int .u8 0), (.int .i64 0), (.int .i64 0), (.str []), (.int .u64 0), (.int .u64 0), (.int .u64 0), (.int .u64 0), (.int .i64 0), (.int .i64 0)]) (rOpS 3 (oMov (.const (.bool false))) rDone)))
 (sSeq (sRegion (rOp (oMov (.slot 0)) (rOp (oMov (.slot 1)) (rOp (oSlice true 0 (.env 1) (some (.env 0)) none none) (rOp (oCall 151 [(.env 0)]) (rOp (oMov (.env 0)) (rOp (oExt (.env 0) 0) (rOp (oExt (.env 1) 1) (rOp (oExt (.env 2) 2) (rOpS 4 (oMov (.env 2)) (rOpS 5 (oMov (.env 2)) (rOpS 6 (oMov (.env 2)) rDone))))))))))))
 (sSeq (sRegion (rOp (oMov (.slot 1)) (rOp (oMov (.slot 1)) (rOp (oMov (.slot 5)) (rOp (oBin .add (.env 1) (.env 0)) (rOp (oMov (.slot 4)) (rOp (oBuild [(.int .u8 0), (.int .i64 0), (.int .i64 0), (.str []), (.int .u64 0), (.int .u64 0), (.int .u64 0), (.int .u64 0), (.int .i64 0), (.int .i64 0)] [(0, 1, (.const (.int .u8 15))), (1, 1, (.env 4)), (2, 1, (.env 1)), (3, 1, (.env 0))]) (rOp (oMov (.slot 6)) (rOp (oBin .eql (.env 0) (.const (.int .i64 0))) (rOp (oStoreP 2 10 (.const (.fp 0)) (.env 2)) (rOpS 3 (oMov (.env 1)) rDone)))))))))))
 (sExit .ret))))
noncomputable def k131 : Code := codeIn Tryz.f131
theorem h131 : (cCode Tryz.prog m131 k131).map den = some e131 := by kernel_rfl
noncomputable def fn131 : AFunc := { real := true, nslots := 7, params := [(some 0), (some 1)], results := [.cellP 2 10 true, .slot 3], assign := sNone, body := e131 }
/- bonsai/lex.class -/
noncomputable def m132 : Meta := { slots := [(0, false), (1, false), (4, true), (5, false), (6, true), (7, false), (8, false)], globals := gl, lid := 5212, n := 25, ext := ext }
noncomputable def e132 : CodeF := (sSeq (sRegion (rOp (oAllocP 2 [(.int .u8 0), (.int .i64 0), (.int .i64 0), (.str []), (.int .u64 0), (.int .u64 0), (.int .u64 0), (.int .u64 0), (.int .i64 0), (.int .i64 0)]) (rOpS 3 (oMov (.const (.bool false))) rDone)))
 (sSeq (sRegion (rOp (oMov (.slot 0)) (rOp (oMov (.slot 1)) (rOp (oSlice true 0 (.env 1) (some (.env 0)) none none) (rOp (oCall 152 [(.env 0)]) (rOp (oMov (.env 0)) (rOp (oExt (.env 0) 0) (rOp (oExt (.env 1) 1) (rOp (oExt (.env 2) 2) (rOp (oAllocP 4 [(.int .u64 0), (.int .u64 0), (.int .u64 0), (.int .u64 0)]) (rOp (oStoreP 4 4 (.env 0) (.env 3)) (rOpS 5 (oMov (.env 3)) (rOpS 6 (oMov (.env 3)) rDone)))))))))))))
 (sSeq (sRegion (rOp (oMov (.slot 1)) (rOp (oMov (.slot 1)) (rOp (oMov (.slot 5)) (rOp (oBin .add (.env 1) (.env 0)) (rOp (oLoadP 4 4 true (.const (.fp 0))) (rOp (oBuild [(.int .u8 0), (.int .i64 0), (.int .i64 0), (.str []), (.int .u64 0), (.int .u64 0), (.int .u64 0), (.int .u64 0), (.int .i64 0), (.int .i64 0)] [(0, 1, (.const (.int .u8 16))), (1, 1, (.env 4)), (2, 1, (.env 1)), (4, 4, (.env 0))]) (rOp (oMov (.slot 6)) (rOp (oBin .eql (.env 0) (.const (.int .i64 0))) (rOp (oStoreP 2 10 (.const (.fp 0)) (.env 2)) (rOpS 3 (oMov (.env 1)) rDone)))))))))))
 (sExit .ret))))
noncomputable def k132 : Code := codeIn Tryz.f132
theorem h132 : (cCode Tryz.prog m132 k132).map den = some e132 := by kernel_rfl
noncomputable def fn132 : AFunc := { real := true, nslots := 7, params := [(some 0), (some 1)], results := [.cellP 2 10 true, .slot 3], assign := sNone, body := e132 }
/- bonsai/lex.dot -/
noncomputable def m133 : Meta := { slots := [(0, false), (1, false), (4, true), (5, false)], globals := gl, lid := 5238, n := 11, ext := ext }
noncomputable def e133 : CodeF := (sSeq (sRegion (rOp (oAllocP 2 [(.int .u8 0), (.int .i64 0), (.int .i64 0), (.str []), (.int .u64 0), (.int .u64 0), (.int .u64 0), (.int .u64 0), (.int .i64 0), (.int .i64 0)]) (rOpS 3 (oMov (.const (.bool false))) rDone)))
 (sSeq (sRegion (rOp (oMov (.slot 1)) (rOp (oMov (.slot 1)) (rOp (oBin .add (.env 0) (.const (.int .i64 1))) (rOp (oCall 153 []) (rOp (oBuild [(.int .u8 0), (.int .i64 0), (.int .i64 0), (.str []), (.int .u64 0), (.int .u64 0), (.int .u64 0), (.int .u64 0), (.int .i64 0), (.int .i64 0)] [(0, 1, (.const (.int .u8 16))), (1, 1, (.env 3)), (2, 1, (.env 1)), (4, 4, (.env 0))]) (rOp (oStoreP 2 10 (.const (.fp 0)) (.env 0)) (rOpS 3 (oMov (.const (.bool true))) rDone))))))))
 (sExit .ret)))
noncomputable def k133 : Code := codeIn Tryz.f133
theorem h133 : (cCode Tryz.prog m133 k133).map den = some e133 := by kernel_rfl
noncomputable def fn133 : AFunc := { real := true, nslots := 4, params := [(some 0), (some 1)], results := [.cellP 2 10 true, .slot 3], assign := sNone, body := e133 }
/- bonsai/lex.sign -/
noncomputable def m134 : Meta := { slots := [(0, false), (1, false), (2, false)], globals := gl, lid := 5250, n := 4, ext := ext }
noncomputable def e134 : CodeF := (sSeq (sRegion (rOpS 1 (oBox 5 (.slot 0)) (rOpS 2 (oMov (.const .nilf)) rDone)))
 (sSeq (sRegion (rOp (oMkfn 154 [] [(.slot 1)]) (rOpS 2 (oMov (.env 0)) rDone)))
 (sExit .ret)))
noncomputable def k134 : Code := codeIn Tryz.f134
theorem h134 : (cCode Tryz.prog m134 k134).map den = some e134 := by kernel_rfl
noncomputable def fn134 : AFunc := { real := true, nslots := 3, params := [(some 0)], results := [.slot 2], assign := sNone, body := e134 }
/- bonsai/lex.less -/
noncomputable def m135 : Meta := { slots := [(0, false), (1, false), (4, true), (5, false), (9, false)], globals := gl, lid := 5255, n := 18, ext := ext }
noncomputable def e135 : CodeF := (sSeq (sRegion (rOp (oAllocP 2 [(.int .u8 0), (.int .i64 0), (.int .i64 0), (.str []), (.int .u64 0), (.int .u64 0), (.int .u64 0), (.int .u64 0), (.int .i64 0), (.int .i64 0)]) (rOpS 3 (oMov (.const (.bool false))) rDone)))
 (sSeq (sSeq (sRegion (rOp (oMov (.slot 0)) (rOp (oMov (.slot 1)) (rOp (oSlice true 0 (.env 1) (some (.env 0)) none none) (rOpS 4 (oCall 106 [(.env 0), (.const (.str [60, 45]))]) rDone)))))
 (sCond (.slot 4) (sSeq (sRegion (rOp (oMov (.slot 1)) (rOp (oMov (.slot 1)) (rOp (oBin .add (.env 0) (.const (.int .i64 2))) (rOp (oBuild [(.int .u8 0), (.int .i64 0), (.int .i64 0), (.str []), (.int .u64 0), (.int .u64 0), (.int .u64 0), (.int .u64 0), (.int .i64 0), (.int .i64 0)] [(0, 1, (.const (.int .u8 2))), (1, 1, (.env 2)), (2, 1, (.env 0))]) (rOp (oStoreP 2 10 (.const (.fp 0)) (.env 0)) (rOpS 3 (oMov (.const (.bool true))) rDone)))))))
 (sExit .ret)) sSkip))
 (sSeq (sRegion (rOp (oMov (.slot 1)) (rOp (oMov (.slot 1)) (rOp (oBin .add (.env 0) (.const (.int .i64 1))) (rOp (oBuild [(.int .u8 0), (.int .i64 0), (.int .i64 0), (.str []), (.int .u64 0), (.int .u64 0), (.int .u64 0), (.int .u64 0), (.int .i64 0), (.int .i64 0)] [(0, 1, (.const (.int .u8 11))), (1, 1, (.env 2)), (2, 1, (.env 0))]) (rOp (oStoreP 2 10 (.const (.fp 0)) (.env 0)) (rOpS 3 (oMov (.const (.bool true))) rDone)))))))
 (sExit .ret))))
noncomputable def k135 : Code := codeIn Tryz.f135
theorem h135 : (cCode Tryz.prog m135 k135).map den = some e135 := by kernel_rfl
noncomputable def fn135 : AFunc := { real := true, nslots := 5, params := [(some 0), (some 1)], results := [.cellP 2 10 true, .slot 3], assign := sNone, body := e135 }
end Go.Proofs.YtaomafmpedgofaaGreatDoor
