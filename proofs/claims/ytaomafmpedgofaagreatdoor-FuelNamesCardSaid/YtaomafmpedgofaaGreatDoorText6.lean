import Derived.Test.YtaomafmpedgofaaGreatDoorText0
import Derived.KernelRfl
namespace Go.Proofs.YtaomafmpedgofaaGreatDoor
open Go Go.Vm
set_option maxRecDepth 100000
/- slices.Backward[[]int,int]$1 -/
noncomputable def m157 : Meta := { slots := [(0, false), (1, false), (3, false), (8, false), (18, false)], globals := gl, lid := 6037, n := 19, ext := ext }
noncomputable def e157 : CodeF := (sSeq (sRegion (rOp (oLoad 1 false (.slot 1)) (rOp (oLen .sl (.env 0)) (rOp (oBin .sub (.env 0) (.const (.int .i64 1))) (rOpS 2 (oMov (.env 0)) rDone)))))
 (sBlock 0 (sLoop (sSeq (sSeq (sRegion (rOp (oMov (.slot 2)) (rOpS 3 (oBin .geq (.env 0) (.const (.int .i64 0))) rDone)))
 (sCond (.slot 3) sSkip (sExit (.exit 0))))
 (sSeq (sBlock 1 (sSeq (sRegion (rOp (oMov (.slot 0)) (rOp (oMov (.slot 2)) (rOp (oLoad 1 false (.slot 1)) (rOp (oMov (.slot 2)) (rOp (oIdxS 1 (.env 1) (.env 0)) (rOp (oLoad 1 false (.env 0)) (rOp (oCallv (.env 5) [(.env 4), (.env 0)]) (rOpS 4 (oUn .not (.env 0)) rDone)))))))))
 (sCond (.slot 4) (sExit .ret) sSkip)))
 (sRegion (rOp (oMov (.slot 2)) (rOp (oBin .sub (.env 0) (.const (.int .i64 1))) (rOpS 2 (oMov (.env 0)) rDone)))))))))
noncomputable def k157 : Code := codeIn Tryz.f157
theorem h157 : (cCode Tryz.prog m157 k157).map den = some e157 := by kernel_rfl
noncomputable def fn157 : AFunc := { real := true, nslots := 5, params := [(some 0), (some 1)], results := [], assign := sNone, body := e157 }
/- internal/strconv.log10Pow2 -/
noncomputable def m158 : Meta := { slots := [(0, false), (2, false)], globals := gl, lid := 6057, n := 6, ext := ext }
noncomputable def e158 : CodeF := (sSeq (sRegion (rOpS 1 (oMov (.const (.int .i64 0))) rDone))
 (sSeq (sRegion (rOp (oMov (.slot 0)) (rOp (oBin .mul (.env 0) (.const (.int .i64 78913))) (rOp (oBin .shr (.env 0) (.const (.int .u64 18))) (rOpS 1 (oMov (.env 0)) rDone)))))
 (sExit .ret)))
noncomputable def k158 : Code := codeIn Tryz.f158
theorem h158 : (cCode Tryz.prog m158 k158).map den = some e158 := by kernel_rfl
noncomputable def fn158 : AFunc := { real := true, nslots := 2, params := [(some 0)], results := [.slot 1], assign := sNone, body := e158 }
/- math/bits.Len64 -/
noncomputable def m159 : Meta := { slots := [(0, false), (2, false), (4, false), (8, false), (14, false)], globals := gl, lid := 6064, n := 25, ext := ext }
noncomputable def e159 : CodeF := (sSeq (sRegion (rOpS 1 (oMov (.const (.int .i64 0))) rDone))
 (sSeq (sSeq (sRegion (rOp (oMov (.slot 0)) (rOpS 2 (oBin .geq (.env 0) (.const (.int .u64 4294967296))) rDone)))
 (sCond (.slot 2) (sSeq (sRegion (rOp (oMov (.slot 0)) (rOp (oBin .shr (.env 0) (.const (.int .u64 32))) (rOpS 0 (oMov (.env 0)) rDone))))
 (sRegion (rOpS 1 (oMov (.const (.int .i64 32))) rDone))) sSkip))
 (sSeq (sSeq (sRegion (rOp (oMov (.slot 0)) (rOpS 3 (oBin .geq (.env 0) (.const (.int .u64 65536))) rDone)))
 (sCond (.slot 3) (sSeq (sRegion (rOp (oMov (.slot 0)) (rOp (oBin .shr (.env 0) (.const (.int .u64 16))) (rOpS 0 (oMov (.env 0)) rDone))))
 (sRegion (rOp (oMov (.slot 1)) (rOp (oBin .add (.env 0) (.const (.int .i64 16))) (rOpS 1 (oMov (.env 0)) rDone))))) sSkip))
 (sSeq (sSeq (sRegion (rOp (oMov (.slot 0)) (rOpS 4 (oBin .geq (.env 0) (.const (.int .u64 256))) rDone)))
 (sCond (.slot 4) (sSeq (sRegion (rOp (oMov (.slot 0)) (rOp (oBin .shr (.env 0) (.const (.int .u64 8))) (rOpS 0 (oMov (.env 0)) rDone))))
 (sRegion (rOp (oMov (.slot 1)) (rOp (oBin .add (.env 0) (.const (.int .i64 8))) (rOpS 1 (oMov (.env 0)) rDone))))) sSkip))
 (sSeq (sRegion (rOp (oMov (.slot 1)) (rOp (oMov (.slot 0)) (rOp (oConvInt .u8 (.env 0)) (rOp (oIdxStr (.const (.str [0, 1, 2, 2, 3, 3, 3, 3, 4, 4, 4, 4, 4, 4, 4, 4, 5, 5, 5, 5, 5, 5, 5, 5, 5, 5, 5, 5, 5, 5, 5, 5, 6, 6, 6, 6, 6, 6, 6, 6, 6, 6, 6, 6, 6, 6, 6, 6, 6, 6, 6, 6, 6, 6, 6, 6, 6, 6, 6, 6, 6, 6, 6, 6, 7, 7, 7, 7, 7, 7, 7, 7, 7, 7, 7, 7, 7, 7, 7, 7, 7, 7, 7, 7, 7, 7, 7, 7, 7, 7, 7, 7, 7, 7, 7, 7, 7, 7, 7, 7, 7, 7, 7, 7, 7, 7, 7, 7, 7, 7, 7, 7, 7, 7, 7, 7, 7, 7, 7, 7, 7, 7, 7, 7, 7, 7, 7, 7, 8, 8, 8, 8, 8, 8, 8, 8, 8, 8, 8, 8, 8, 8, 8, 8, 8, 8, 8, 8, 8, 8, 8, 8, 8, 8, 8, 8, 8, 8, 8, 8, 8, 8, 8, 8, 8, 8, 8, 8, 8, 8, 8, 8, 8, 8, 8, 8, 8, 8, 8, 8, 8, 8, 8, 8, 8, 8, 8, 8, 8, 8, 8, 8, 8, 8, 8, 8, 8, 8, 8, 8, 8, 8, 8, 8, 8, 8, 8, 8, 8, 8, 8, 8, 8, 8, 8, 8, 8, 8, 8, 8, 8, 8, 8, 8, 8, 8, 8, 8, 8, 8, 8, 8, 8, 8, 8, 8, 8, 8, 8, 8, 8, 8, 8, 8, 8, 8, 8, 8, 8, 8, 8, 8, 8, 8, 8, 8])) (.env 0)) (rOp (oConvInt .i64 (.env 0)) (rOp (oBin .add (.env 4) (.env 0)) (rOpS 1 (oMov (.env 0)) rDone))))))))
 (sExit .ret))))))
noncomputable def k159 : Code := codeIn Tryz.f159
theorem h159 : (cCode Tryz.prog m159 k159).map den = some e159 := by kernel_rfl
noncomputable def fn159 : AFunc := { real := true, nslots := 5, params := [(some 0)], results := [.slot 1], assign := sNone, body := e159 }
/- internal/strconv.bool2[int] -/
noncomputable def m160 : Meta := { slots := [(0, false), (2, false), (3, false)], globals := gl, lid := 6090, n := 4, ext := ext }
noncomputable def e160 : CodeF := (sSeq (sRegion (rOpS 1 (oMov (.const (.int .i64 0))) rDone))
 (sSeq (sSeq (sRegion (rOpS 2 (oMov (.slot 0)) rDone))
 (sCond (.slot 2) (sSeq (sRegion (rOpS 1 (oMov (.const (.int .i64 1))) rDone))
 (sExit .ret)) sSkip))
 (sSeq (sRegion (rOpS 1 (oMov (.const (.int .i64 0))) rDone))
 (sExit .ret))))
noncomputable def k160 : Code := codeIn Tryz.f160
theorem h160 : (cCode Tryz.prog m160 k160).map den = some e160 := by kernel_rfl
noncomputable def fn160 : AFunc := { real := true, nslots := 3, params := [(some 0)], results := [.slot 1], assign := sNone, body := e160 }
/- internal/strconv.isPowerOfTwo -/
noncomputable def m161 : Meta := { slots := [(0, false), (2, false)], globals := gl, lid := 6095, n := 8, ext := ext }
noncomputable def e161 : CodeF := (sSeq (sRegion (rOpS 1 (oMov (.const (.bool false))) rDone))
 (sSeq (sRegion (rOp (oMov (.slot 0)) (rOp (oMov (.slot 0)) (rOp (oBin .sub (.env 0) (.const (.int .i64 1))) (rOp (oBin .and (.env 2) (.env 0)) (rOp (oBin .eql (.env 0) (.const (.int .i64 0))) (rOpS 1 (oMov (.env 0)) rDone)))))))
 (sExit .ret)))
noncomputable def k161 : Code := codeIn Tryz.f161
theorem h161 : (cCode Tryz.prog m161 k161).map den = some e161 := by kernel_rfl
noncomputable def fn161 : AFunc := { real := true, nslots := 2, params := [(some 0)], results := [.slot 1], assign := sNone, body := e161 }
/- math/bits.TrailingZeros -/
noncomputable def m162 : Meta := { slots := [(0, false), (2, false)], globals := gl, lid := 6104, n := 8, ext := ext }
noncomputable def e162 : CodeF := (sSeq (sRegion (rOpS 1 (oMov (.const (.int .i64 0))) rDone))
 (sSeq (sCond (.const (.bool false)) (sSeq (sRegion (rOp (oMov (.slot 0)) (rOp (oConvInt .u32 (.env 0)) (rOp (oCall 176 [(.env 0)]) (rOpS 1 (oMov (.env 0)) rDone)))))
 (sExit .ret)) sSkip)
 (sSeq (sRegion (rOp (oMov (.slot 0)) (rOp (oCall 177 [(.env 0)]) (rOpS 1 (oMov (.env 0)) rDone))))
 (sExit .ret))))
noncomputable def k162 : Code := codeIn Tryz.f162
theorem h162 : (cCode Tryz.prog m162 k162).map den = some e162 := by kernel_rfl
noncomputable def fn162 : AFunc := { real := true, nslots := 2, params := [(some 0)], results := [.slot 1], assign := sNone, body := e162 }
/- bonsai/quote.Literal -/
noncomputable def m163 : Meta := { slots := [(0, false), (2, false), (3, false), (4, false), (9, false)], globals := gl, lid := 6113, n := 18, ext := ext }
noncomputable def e163 : CodeF := (sSeq (sRegion (rOpS 1 (oMov (.const (.str []))) rDone))
 (sSeq (sRegion (rOpS 2 (oAlloc 128 [.nilp, .nils]) rDone))
 (sSeq (sRegion (rOp (oCall 145 [(.slot 2), (.const (.int .u8 34))]) rDone))
 (sSeq (sSeq (sRegion (rOpS 3 (oMov (.const (.int .i64 0))) rDone))
 (sBlock 0 (sLoop (sSeq (sSeq (sRegion (rOp (oMov (.slot 3)) (rOp (oMov (.slot 0)) (rOp (oLen .str (.env 0)) (rOpS 4 (oBin .lss (.env 2) (.env 0)) rDone)))))
 (sCond (.slot 4) sSkip (sExit (.exit 0))))
 (sSeq (sBlock 1 (sRegion (rOp (oMov (.slot 0)) (rOp (oMov (.slot 3)) (rOp (oIdxStr (.env 1) (.env 0)) (rOp (oCall 178 [(.slot 2), (.env 0), (.const (.str [34]))]) rDone))))))
 (sRegion (rOp (oMov (.slot 3)) (rOp (oBin .add (.env 0) (.const (.int .i64 1))) (rOpS 3 (oMov (.env 0)) rDone)))))))))
 (sSeq (sRegion (rOp (oCall 145 [(.slot 2), (.const (.int .u8 34))]) rDone))
 (sSeq (sRegion (rOp (oCall 64 [(.slot 2)]) (rOpS 1 (oMov (.env 0)) rDone)))
 (sExit .ret)))))))
noncomputable def k163 : Code := codeIn Tryz.f163
theorem h163 : (cCode Tryz.prog m163 k163).map den = some e163 := by kernel_rfl
noncomputable def fn163 : AFunc := { real := true, nslots := 5, params := [(some 0)], results := [.slot 1], assign := sNone, body := e163 }
/- bonsai/quote.Class -/
noncomputable def m164 : Meta := { slots := [(0, false), (1, false), (2, false), (3, false), (5, true), (8, false), (11, false), (12, false), (13, false), (14, false), (25, false), (31, false)], globals := gl, lid := 6132, n := 38, ext := ext }
noncomputable def e164 : CodeF := (sSeq (sRegion (rOpS 1 (oBox 64 (.slot 0)) (rOpS 2 (oMov (.const (.str []))) rDone)))
 (sSeq (sSeq (sRegionD (dOp (oLoad 4 true (.slot 1)) false (dOp (oCall 153 []) true (dOp (oEqv false (.agg [.int, .int, .int, .int]) (.env 1) (.env 0)) false dDone))) [⟨2, .load 4 true (.slot 1), none, [0]⟩] [(5, 0)])
 (sCond (.slot 5) (sSeq (sRegion (rOpS 2 (oMov (.const (.str [46]))) rDone))
 (sExit .ret)) sSkip))
 (sSeq (sRegion (rOpS 3 (oAlloc 128 [.nilp, .nils]) rDone))
 (sSeq (sRegion (rOp (oCall 145 [(.slot 3), (.const (.int .u8 91))]) rDone))
 (sSeq (sSeq (sRegion (rOp (oLoad 4 true (.slot 1)) (rOpS 6 (oCall 179 [(.env 0)]) (rOpS 7 (oLen .sl (.env 0)) (rOpS 8 (oMov (.const (.int .i64 0))) rDone)))))
 (sBlock 0 (sLoop (sSeq (sRegion (rOpS 9 (oBin .lss (.slot 8) (.slot 7)) rDone))
 (sSeq (sCond (.slot 9) sSkip (sExit (.exit 0)))
 (sSeq (sBlock 1 (sSeq (sRegion (rOp (oIdxS 2 (.slot 6) (.slot 8)) (rOp (oLoad 2 true (.env 0)) (rOp (oAllocP 4 [(.int .u8 0), (.int .u8 0)]) (rOp (oStoreP 4 2 (.env 0) (.env 1)) rDone)))))
 (sSeq (sRegion (rOp (oIdxPP 4 2 1 (.const (.fp 0)) (.const (.int .i64 0))) (rOp (oLoadP 4 1 false (.env 0)) (rOp (oCall 178 [(.slot 3), (.env 0), (.const (.str [93, 45, 94]))]) rDone))))
 (sSeq (sSeq (sRegion (rOp (oIdxPP 4 2 1 (.const (.fp 0)) (.const (.int .i64 1))) (rOp (oLoadP 4 1 false (.env 0)) (rOp (oIdxPP 4 2 1 (.const (.fp 0)) (.const (.int .i64 0))) (rOp (oLoadP 4 1 false (.env 0)) (rOp (oBin .sub (.env 2) (.env 0)) (rOpS 10 (oBin .gtr (.env 0) (.const (.int .u8 1))) rDone)))))))
 (sCond (.slot 10) (sRegion (rOp (oCall 145 [(.slot 3), (.const (.int .u8 45))]) rDone)) sSkip))
 (sSeq (sRegion (rOp (oIdxPP 4 2 1 (.const (.fp 0)) (.const (.int .i64 1))) (rOp (oLoadP 4 1 false (.env 0)) (rOp (oIdxPP 4 2 1 (.const (.fp 0)) (.const (.int .i64 0))) (rOp (oLoadP 4 1 false (.env 0)) (rOpS 11 (oBin .neq (.env 2) (.env 0)) rDone))))))
 (sCond (.slot 11) (sRegion (rOp (oIdxPP 4 2 1 (.const (.fp 0)) (.const (.int .i64 1))) (rOp (oLoadP 4 1 false (.env 0)) (rOp (oCall 178 [(.slot 3), (.env 0), (.const (.str [93, 45, 94]))]) rDone)))) sSkip))))))
 (sRegion (rOp (oBin .add (.slot 8) (.const (.int .i64 1))) (rOpS 8 (oMov (.env 0)) rDone)))))))))
 (sSeq (sRegion (rOp (oCall 145 [(.slot 3), (.const (.int .u8 93))]) rDone))
 (sSeq (sRegion (rOp (oCall 64 [(.slot 3)]) (rOpS 2 (oMov (.env 0)) rDone)))
 (sExit .ret))))))))
noncomputable def k164 : Code := codeIn Tryz.f164
theorem h164 : (cCode Tryz.prog m164 k164).map den = some e164 := by kernel_rfl
noncomputable def fn164 : AFunc := { real := true, nslots := 12, params := [(some 0)], results := [.slot 2], assign := sNone, body := e164 }
/- bonsai/print.Count -/
noncomputable def m165 : Meta := { slots := [(0, false), (1, false), (4, false), (6, true), (11, false), (12, false), (13, false), (14, false), (25, false), (29, false), (30, false), (37, false)], globals := gl, lid := 6171, n := 51, ext := ext }
noncomputable def e165 : CodeF := (sSeq (sRegion (rOpS 2 (oMov (.const (.str []))) rDone))
 (sSeq (sSeq (sRegion (rOp (oMov (.slot 0)) (rOp (oMov (.slot 1)) (rOp (oBuild [(.int .u8 0), (.int .u64 0), (.int .u64 0), (.int .u64 0), (.int .u64 0), (.str []), (.int .i64 0), (.int .i64 0), .nils] [(0, 1, (.const (.int .u8 6))), (6, 1, (.env 1)), (7, 1, (.env 0))]) (rOp (oCall 73 [(.env 0), (.const (.int .i64 1))]) (rOpS 4 (oUn .not (.env 0)) rDone))))))
 (sCond (.slot 4) (sSeq (sRegion (rOpS 2 (oMov (.const (.str []))) rDone))
 (sExit .ret)) sSkip))
 (sSeq (sSeq (sRegion (rOpS 5 (oLoad 9 true (.const (.plit false gl3 0))) (rOpS 6 (oMov (.const (.int .i64 0))) rDone)))
 (sBlock 0 (sLoop (sSeq (sRegion (rOpS 7 (oBin .lss (.slot 6) (.const (.int .i64 3))) rDone))
 (sSeq (sCond (.slot 7) sSkip (sExit (.exit 0)))
 (sSeq (sBlock 1 (sSeq (sRegion (rOp (oIdxA 3 3 true (.slot 5) (.slot 6)) (rOp (oAllocP 3 [(.int .i64 0), (.int .i64 0), (.str [])]) (rOp (oStoreP 3 3 (.env 0) (.env 1)) rDone))))
 (sSeq (sRegion (rOp (oFldP 3 0 (.const (.fp 0))) (rOp (oLoadP 3 1 false (.env 0)) (rOp (oMov (.slot 0)) (rOp (oBin .eql (.env 1) (.env 0)) (rOp (oMov (.env 0)) (rOpG 0 true (oFldP 3 1 (.const (.fp 0))) (rOpG 1 true (oLoadP 3 1 false (.env 0)) (rOpG 2 true (oMov (.slot 1)) (rOpG 3 true (oBin .eql (.env 1) (.env 0)) (rOpS 8 (oPick (.env 4) (.env 0) (.const (.bool false))) rDone)))))))))))
 (sCond (.slot 8) (sSeq (sRegion (rOp (oFldP 3 2 (.const (.fp 0))) (rOp (oLoadP 3 1 false (.env 0)) (rOpS 2 (oMov (.env 0)) rDone))))
 (sExit .ret)) sSkip))))
 (sRegion (rOp (oBin .add (.slot 6) (.const (.int .i64 1))) (rOpS 6 (oMov (.env 0)) rDone)))))))))
 (sSeq (sSeq (sRegion (rOpS 9 (oMov (.slot 1)) rDone))
 (sBlock 2 (sSeq (sRegion (rOp (oMov (.slot 0)) (rOp (oBin .eql (.slot 9) (.env 0)) (rOpS 10 (oMov (.env 0)) rDone))))
 (sCond (.slot 10) (sSeq (sRegion (rOp (oMov (.slot 0)) (rOp (oCall 63 [(.env 0)]) (rOp (oBin .add (.const (.str [123])) (.env 0)) (rOp (oBin .add (.env 0) (.const (.str [125]))) (rOpS 2 (oMov (.env 0)) rDone))))))
 (sExit .ret)) (sSeq (sRegion (rOp (oBin .eql (.slot 9) (.const (.int .i64 (-1)))) (rOpS 11 (oMov (.env 0)) rDone)))
 (sCond (.slot 11) (sSeq (sRegion (rOp (oMov (.slot 0)) (rOp (oCall 63 [(.env 0)]) (rOp (oBin .add (.const (.str [123])) (.env 0)) (rOp (oBin .add (.env 0) (.const (.str [44, 125]))) (rOpS 2 (oMov (.env 0)) rDone))))))
 (sExit .ret)) sSkip))))))
 (sSeq (sRegion (rOp (oMov (.slot 0)) (rOp (oCall 63 [(.env 0)]) (rOp (oBin .add (.const (.str [123])) (.env 0)) (rOp (oBin .add (.env 0) (.const (.str [44]))) (rOp (oMov (.slot 1)) (rOp (oCall 63 [(.env 0)]) (rOp (oBin .add (.env 2) (.env 0)) (rOp (oBin .add (.env 0) (.const (.str [125]))) (rOpS 2 (oMov (.env 0)) rDone))))))))))
 (sExit .ret))))))
noncomputable def k165 : Code := codeIn Tryz.f165
theorem h165 : (cCode Tryz.prog m165 k165).map den = some e165 := by kernel_rfl
noncomputable def fn165 : AFunc := { real := true, nslots := 12, params := [(some 0), (some 1)], results := [.slot 2], assign := sNone, body := e165 }
/- internal/stringslite.Cut -/
noncomputable def m166 : Meta := { slots := [(0, false), (1, false), (4, false), (5, false), (6, false), (7, false), (12, false)], globals := gl, lid := 6223, n := 23, ext := ext }
noncomputable def e166 : CodeF := (sSeq (sRegion (rOpS 2 (oMov (.const (.str []))) (rOpS 3 (oMov (.const (.str []))) (rOpS 4 (oMov (.const (.bool false))) rDone))))
 (sSeq (sSeq (sRegion (rOp (oMov (.slot 0)) (rOp (oMov (.slot 1)) (rOp (oCall 180 [(.env 1), (.env 0)]) (rOpS 5 (oMov (.env 0)) rDone)))))
 (sSeq (sRegion (rOp (oMov (.slot 5)) (rOpS 6 (oBin .geq (.env 0) (.const (.int .i64 0))) rDone)))
 (sCond (.slot 6) (sSeq (sRegionD (dOp (oMov (.slot 0)) false (dOp (oMov (.slot 5)) false (dOp (oSlice true 0 (.env 1) none (some (.env 0)) none) false (dOp (oMov (.slot 0)) false (dOp (oMov (.slot 5)) false (dOp (oMov (.slot 1)) false (dOp (oLen .str (.env 0)) false (dOp (oBin .add (.env 2) (.env 0)) false (dOp (oSlice true 0 (.env 4) (some (.env 0)) none none) false (dOp (oMov (.env 6)) false (dOp (oMov (.env 1)) false (dOp (oMov (.const (.bool true))) false dDone)))))))))))) [] [(2, 2), (3, 1), (4, 0)])
 (sExit .ret)) sSkip)))
 (sSeq (sRegion (rOp (oMov (.slot 0)) (rOpS 2 (oMov (.env 0)) (rOpS 3 (oMov (.const (.str []))) (rOpS 4 (oMov (.const (.bool false))) rDone)))))
 (sExit .ret))))
noncomputable def k166 : Code := codeIn Tryz.f166
theorem h166 : (cCode Tryz.prog m166 k166).map den = some e166 := by kernel_rfl
noncomputable def fn166 : AFunc := { real := true, nslots := 7, params := [(some 0), (some 1)], results := [.slot 2, .slot 3, .slot 4], assign := sNone, body := e166 }
/- bonsai/quote.begin -/
noncomputable def m167 : Meta := { slots := [(0, false), (1, false), (2, false), (3, false), (8, false), (9, false), (10, false), (11, false), (24, false), (27, false)], globals := gl, lid := 6247, n := 34, ext := ext }
noncomputable def e167 : CodeF := (sSeq (sRegion (rOpS 4 (oMov (.const .nilp)) rDone))
 (sSeq (sRegion (rOp (oMov (.slot 0)) (rOp (oMov (.slot 1)) (rOp (oMov (.slot 3)) (rOp (oMov (.slot 1)) (rOp (oCall 181 [(.env 0)]) (rOp (oBuild [(.str []), (.str []), (.int .u8 0), .nilm, (.int .i64 0), (.int .i64 0)] [(0, 1, (.env 4)), (1, 1, (.env 3)), (2, 1, (.env 2)), (3, 1, (.env 0))]) (rOp (oBox 248 (.env 0)) (rOpS 5 (oMov (.env 0)) rDone)))))))))
 (sSeq (sSeq (sRegion (rOp (oMov (.slot 5)) (rOp (oCall 182 [(.env 0)]) (rOp (oMov (.env 0)) (rOp (oExt (.env 0) 0) (rOp (oExt (.env 1) 1) (rOpS 6 (oMov (.env 1)) (rOpS 7 (oMov (.env 1)) rDone))))))))
 (sBlock 0 (sSeq (sRegion (rOp (oMov (.slot 7)) (rOp (oUn .not (.env 0)) (rOpS 8 (oMov (.env 0)) rDone))))
 (sCond (.slot 8) sSkip (sSeq (sRegion (rOp (oMov (.slot 6)) (rOp (oMov (.slot 2)) (rOp (oBin .neq (.env 1) (.env 0)) (rOpS 9 (oMov (.env 0)) rDone)))))
 (sCond (.slot 9) (sRegion (rOp (oMov (.slot 5)) (rOp (oCall 171 [(.env 0), (.const (.int .i64 0))]) rDone))) sSkip))))))
 (sSeq (sRegion (rOp (oMov (.slot 5)) (rOpS 4 (oMov (.env 0)) rDone)))
 (sExit .ret)))))
noncomputable def k167 : Code := codeIn Tryz.f167
theorem h167 : (cCode Tryz.prog m167 k167).map den = some e167 := by kernel_rfl
noncomputable def fn167 : AFunc := { real := true, nslots := 10, params := [(some 0), (some 1), (some 2), (some 3)], results := [.slot 4], assign := sNone, body := e167 }
/- (*bonsai/quote.reader).signs -/
noncomputable def m168 : Meta := { slots := [(0, false), (1, false), (2, false)], globals := gl, lid := 6282, n := 4, ext := ext }
noncomputable def e168 : CodeF := (sSeq (sRegion (rOpS 1 (oBox 241 (.slot 0)) (rOpS 2 (oMov (.const .nilf)) rDone)))
 (sSeq (sRegion (rOp (oMkfn 183 [] [(.slot 1)]) (rOpS 2 (oMov (.env 0)) rDone)))
 (sExit .ret)))
noncomputable def k168 : Code := codeIn Tryz.f168
theorem h168 : (cCode Tryz.prog m168 k168).map den = some e168 := by kernel_rfl
noncomputable def fn168 : AFunc := { real := true, nslots := 3, params := [(some 0)], results := [.slot 2], assign := sNone, body := e168 }
/- (*bonsai/quote.reader).sees -/
noncomputable def m169 : Meta := { slots := [(0, false), (1, false), (4, false)], globals := gl, lid := 6287, n := 28, ext := ext }
noncomputable def e169 : CodeF := (sSeq (sRegion (rOpS 2 (oMov (.const (.bool false))) rDone))
 (sSeq (sRegionD (dOp (oMov (.slot 0)) false (dOp (oNilc (.env 0)) false (dOp (oFld 4 (.env 0)) false (dOp (oLoad 1 false (.env 0)) false (dOp (oMov (.slot 0)) false (dOp (oNilc (.env 0)) false (dOp (oFld 0 (.env 0)) false (dOp (oLoad 1 false (.env 0)) false (dOp (oLen .str (.env 0)) false (dOp (oBin .lss (.env 5) (.env 0)) false (dOp (oMov (.env 0)) false (dOpG (0, true) (oMov (.slot 0)) false (dOpG (1, true) (oNilc (.env 0)) false (dOpG (2, true) (oFld 0 (.env 0)) false (dOpG (3, true) (oLoad 1 false (.env 0)) false (dOpG (4, true) (oMov (.slot 0)) false (dOpG (5, true) (oNilc (.env 0)) false (dOpG (6, true) (oFld 4 (.env 0)) false (dOpG (7, true) (oLoad 1 false (.env 0)) false (dOpG (8, true) (oIdxStr (.env 4) (.env 0)) false (dOpG (9, true) (oMov (.slot 1)) false (dOpG (10, true) (oBin .eql (.env 1) (.env 0)) false (dOp (oPick (.env 11) (.env 0) (.const (.bool false))) false (dOp (oMov (.env 0)) false dDone)))))))))))))))))))))))) [] [(2, 0)])
 (sExit .ret)))
noncomputable def k169 : Code := codeIn Tryz.f169
theorem h169 : (cCode Tryz.prog m169 k169).map den = some e169 := by kernel_rfl
noncomputable def fn169 : AFunc := { real := true, nslots := 3, params := [(some 0), (some 1)], results := [.slot 2], assign := sNone, body := e169 }
/- (*bonsai/quote.reader).high -/
noncomputable def m170 : Meta := { slots := [(0, false), (1, false), (4, false), (5, false), (8, false)], globals := gl, lid := 6316, n := 21, ext := ext }
noncomputable def e170 : CodeF := (sSeq (sRegion (rOpS 2 (oMov (.const (.int .u8 0))) (rOpS 3 (oMov (.const (.bool false))) rDone)))
 (sSeq (sSeq (sRegion (rOp (oMov (.slot 0)) (rOp (oCall 169 [(.env 0), (.const (.int .u8 45))]) (rOpS 4 (oUn .not (.env 0)) rDone))))
 (sCond (.slot 4) (sSeq (sRegion (rOp (oMov (.slot 1)) (rOpS 2 (oMov (.env 0)) (rOpS 3 (oMov (.const (.bool true))) rDone))))
 (sExit .ret)) sSkip))
 (sSeq (sRegion (rOp (oMov (.slot 0)) (rOp (oNilc (.env 0)) (rOp (oFld 4 (.env 0)) (rOp (oLoad 1 false (.env 0)) (rOp (oBin .add (.env 0) (.const (.int .i64 1))) (rOp (oNilc (.env 4)) (rOp (oFld 4 (.env 0)) (rOp (oStore 1 (.env 0) (.env 2)) rDone)))))))))
 (sSeq (sRegion (rOp (oMov (.slot 0)) (rOp (oCall 184 [(.env 0)]) (rOp (oExt (.env 0) 0) (rOp (oExt (.env 1) 1) (rOpS 2 (oMov (.env 1)) (rOpS 3 (oMov (.env 1)) rDone)))))))
 (sExit .ret)))))
noncomputable def k170 : Code := codeIn Tryz.f170
theorem h170 : (cCode Tryz.prog m170 k170).map den = some e170 := by kernel_rfl
noncomputable def fn170 : AFunc := { real := true, nslots := 5, params := [(some 0), (some 1)], results := [.slot 2, .slot 3], assign := sNone, body := e170 }
/- (*bonsai/quote.reader).fail -/
noncomputable def m171 : Meta := { slots := [(0, false), (1, false)], globals := gl, lid := 6338, n := 11, ext := ext }
noncomputable def e171 : CodeF := (sRegion (rOp (oMov (.slot 0)) (rOp (oMov (.slot 0)) (rOp (oMov (.slot 1)) (rOp (oNilc (.env 2)) (rOp (oFld 4 (.env 0)) (rOp (oStore 1 (.env 0) (.env 2)) (rOp (oNilc (.env 4)) (rOp (oFld 5 (.env 0)) (rOp (oStore 1 (.env 0) (.const (.int .i64 4))) rDone))))))))))
noncomputable def k171 : Code := codeIn Tryz.f171
theorem h171 : (cCode Tryz.prog m171 k171).map den = some e171 := by kernel_rfl
noncomputable def fn171 : AFunc := { real := true, nslots := 2, params := [(some 0), (some 1)], results := [], assign := sNone, body := e171 }
/- bonsai/set.Or -/
noncomputable def m172 : Meta := { slots := [(0, false), (1, false), (2, true), (3, true), (4, true), (5, false), (6, false), (7, false), (8, false), (9, false)], globals := gl, lid := 6350, n := 20, ext := ext }
noncomputable def e172 : CodeF := (sSeq (sRegion (rOp (oBoxP 2 (.slot 0)) (rOp (oBoxP 3 (.slot 1)) (rOp (oAllocP 4 [(.int .u64 0), (.int .u64 0), (.int .u64 0), (.int .u64 0)]) rDone))))
 (sSeq (sSeq (sRegion (rOpS 7 (oLoadP 3 4 true (.const (.fp 0))) (rOpS 8 (oMov (.const (.int .i64 0))) rDone)))
 (sBlock 0 (sLoop (sSeq (sRegion (rOpS 9 (oBin .lss (.slot 8) (.const (.int .i64 4))) rDone))
 (sSeq (sCond (.slot 9) sSkip (sExit (.exit 0)))
 (sSeq (sBlock 1 (sSeq (sRegion (rOp (oMov (.slot 8)) (rOp (oIdxA 4 1 false (.slot 7) (.slot 8)) (rOpS 5 (oMov (.env 1)) (rOpS 6 (oMov (.env 1)) rDone)))))
 (sRegion (rOp (oMov (.slot 5)) (rOp (oIdxPP 2 4 1 (.const (.fp 0)) (.env 0)) (rOp (oLoadP 2 1 false (.env 0)) (rOp (oMov (.slot 6)) (rOp (oBin .or (.env 1) (.env 0)) (rOp (oIdxPP 2 4 1 (.const (.fp 0)) (.env 4)) (rOp (oStoreP 2 1 (.env 0) (.env 1)) rDone))))))))))
 (sRegion (rOp (oBin .add (.slot 8) (.const (.int .i64 1))) (rOpS 8 (oMov (.env 0)) rDone)))))))))
 (sSeq (sRegion (rOp (oLoadP 2 4 true (.const (.fp 0))) (rOp (oStoreP 4 4 (.const (.fp 0)) (.env 0)) rDone)))
 (sExit .ret))))
noncomputable def k172 : Code := codeIn Tryz.f172
theorem h172 : (cCode Tryz.prog m172 k172).map den = some e172 := by kernel_rfl
noncomputable def fn172 : AFunc := { real := true, nslots := 10, params := [(some 0), (some 1)], results := [.cellP 4 4 true], assign := sNone, body := e172 }
/- bonsai/set.Range -/
noncomputable def m173 : Meta := { slots := [(0, false), (1, false), (4, true), (5, false), (6, false), (12, false)], globals := gl, lid := 6371, n := 25, ext := ext }
noncomputable def e173 : CodeF := (sSeq (sRegion (rOp (oAllocP 2 [(.int .u64 0), (.int .u64 0), (.int .u64 0), (.int .u64 0)]) rDone))
 (sSeq (sRegion (rOpS 3 (oAlloc 64 [(.int .u64 0), (.int .u64 0), (.int .u64 0), (.int .u64 0)]) rDone))
 (sSeq (sSeq (sRegion (rOp (oMov (.slot 0)) (rOp (oConvInt .i64 (.env 0)) (rOpS 4 (oMov (.env 0)) rDone))))
 (sBlock 0 (sLoop (sSeq (sSeq (sRegion (rOp (oMov (.slot 4)) (rOp (oMov (.slot 1)) (rOp (oConvInt .i64 (.env 0)) (rOpS 5 (oBin .leq (.env 2) (.env 0)) rDone)))))
 (sCond (.slot 5) sSkip (sExit (.exit 0))))
 (sSeq (sBlock 1 (sRegionD (dOp (oMov (.slot 4)) false (dOp (oBin .quo (.env 0) (.const (.int .i64 64))) false (dOp (oIdxP 4 1 (.slot 3) (.env 0)) false (dOp (oLoad 1 false (.env 0)) false (dOp (oMov (.slot 4)) false (dOp (oBin .rem (.env 0) (.const (.int .i64 64))) false (dOp (oBin .shl (.const (.int .u64 1)) (.env 0)) false (dOp (oBin .or (.env 3) (.env 0)) false (dOp (oIdxP 4 1 (.slot 3) (.env 6)) false (dOp (oStore 1 (.env 0) (.env 1)) true dDone)))))))))) [] []))
 (sRegion (rOp (oMov (.slot 4)) (rOp (oBin .add (.env 0) (.const (.int .i64 1))) (rOpS 4 (oMov (.env 0)) rDone)))))))))
 (sSeq (sRegion (rOp (oLoad 4 true (.slot 3)) (rOp (oStoreP 2 4 (.const (.fp 0)) (.env 0)) rDone)))
 (sExit .ret)))))
noncomputable def k173 : Code := codeIn Tryz.f173
theorem h173 : (cCode Tryz.prog m173 k173).map den = some e173 := by kernel_rfl
noncomputable def fn173 : AFunc := { real := true, nslots := 6, params := [(some 0), (some 1)], results := [.cellP 2 4 true], assign := sNone, body := e173 }
/- bonsai/set.Not -/
noncomputable def m174 : Meta := { slots := [(0, false), (1, true), (2, true), (3, false), (4, false), (5, false), (6, false), (7, false)], globals := gl, lid := 6397, n := 16, ext := ext }
noncomputable def e174 : CodeF := (sSeq (sRegion (rOp (oBoxP 1 (.slot 0)) (rOp (oAllocP 2 [(.int .u64 0), (.int .u64 0), (.int .u64 0), (.int .u64 0)]) rDone)))
 (sSeq (sSeq (sRegion (rOpS 5 (oLoadP 1 4 true (.const (.fp 0))) (rOpS 6 (oMov (.const (.int .i64 0))) rDone)))
 (sBlock 0 (sLoop (sSeq (sRegion (rOpS 7 (oBin .lss (.slot 6) (.const (.int .i64 4))) rDone))
 (sSeq (sCond (.slot 7) sSkip (sExit (.exit 0)))
 (sSeq (sBlock 1 (sSeq (sRegion (rOp (oMov (.slot 6)) (rOp (oIdxA 4 1 false (.slot 5) (.slot 6)) (rOpS 3 (oMov (.env 1)) (rOpS 4 (oMov (.env 1)) rDone)))))
 (sRegion (rOp (oMov (.slot 3)) (rOp (oMov (.slot 4)) (rOp (oUn .xor (.env 0)) (rOp (oIdxPP 1 4 1 (.const (.fp 0)) (.env 2)) (rOp (oStoreP 1 1 (.env 0) (.env 1)) rDone))))))))
 (sRegion (rOp (oBin .add (.slot 6) (.const (.int .i64 1))) (rOpS 6 (oMov (.env 0)) rDone)))))))))
 (sSeq (sRegion (rOp (oLoadP 1 4 true (.const (.fp 0))) (rOp (oStoreP 2 4 (.const (.fp 0)) (.env 0)) rDone)))
 (sExit .ret))))
noncomputable def k174 : Code := codeIn Tryz.f174
theorem h174 : (cCode Tryz.prog m174 k174).map den = some e174 := by kernel_rfl
noncomputable def fn174 : AFunc := { real := true, nslots := 8, params := [(some 0)], results := [.cellP 2 4 true], assign := sNone, body := e174 }
/- math/bits.TrailingZeros32 -/
noncomputable def m176 : Meta := { slots := [(0, false), (2, false), (4, false)], globals := gl, lid := 6417, n := 14, ext := ext }
noncomputable def e176 : CodeF := (sSeq (sRegion (rOpS 1 (oMov (.const (.int .i64 0))) rDone))
 (sSeq (sSeq (sRegion (rOp (oMov (.slot 0)) (rOpS 2 (oBin .eql (.env 0) (.const (.int .u32 0))) rDone)))
 (sCond (.slot 2) (sSeq (sRegion (rOpS 1 (oMov (.const (.int .i64 32))) rDone))
 (sExit .ret)) sSkip))
 (sSeq (sRegion (rOp (oMov (.slot 0)) (rOp (oMov (.slot 0)) (rOp (oUn .neg (.env 0)) (rOp (oBin .and (.env 2) (.env 0)) (rOp (oBin .mul (.env 0) (.const (.int .u32 125613361))) (rOp (oBin .shr (.env 0) (.const (.int .u64 27))) (rOp (oIdxP 32 1 (.const (.plit false gl5 0)) (.env 0)) (rOp (oLoad 1 false (.env 0)) (rOp (oConvInt .i64 (.env 0)) (rOpS 1 (oMov (.env 0)) rDone)))))))))))
 (sExit .ret))))
noncomputable def k176 : Code := codeIn Tryz.f176
theorem h176 : (cCode Tryz.prog m176 k176).map den = some e176 := by kernel_rfl
noncomputable def fn176 : AFunc := { real := true, nslots := 3, params := [(some 0)], results := [.slot 1], assign := sNone, body := e176 }
/- math/bits.TrailingZeros64 -/
noncomputable def m177 : Meta := { slots := [(0, false), (2, false), (4, false)], globals := gl, lid := 6432, n := 14, ext := ext }
noncomputable def e177 : CodeF := (sSeq (sRegion (rOpS 1 (oMov (.const (.int .i64 0))) rDone))
 (sSeq (sSeq (sRegion (rOp (oMov (.slot 0)) (rOpS 2 (oBin .eql (.env 0) (.const (.int .u64 0))) rDone)))
 (sCond (.slot 2) (sSeq (sRegion (rOpS 1 (oMov (.const (.int .i64 64))) rDone))
 (sExit .ret)) sSkip))
 (sSeq (sRegion (rOp (oMov (.slot 0)) (rOp (oMov (.slot 0)) (rOp (oUn .neg (.env 0)) (rOp (oBin .and (.env 2) (.env 0)) (rOp (oBin .mul (.env 0) (.const (.int .u64 285870213051353865))) (rOp (oBin .shr (.env 0) (.const (.int .u64 58))) (rOp (oIdxP 64 1 (.const (.plit false gl6 0)) (.env 0)) (rOp (oLoad 1 false (.env 0)) (rOp (oConvInt .i64 (.env 0)) (rOpS 1 (oMov (.env 0)) rDone)))))))))))
 (sExit .ret))))
noncomputable def k177 : Code := codeIn Tryz.f177
theorem h177 : (cCode Tryz.prog m177 k177).map den = some e177 := by kernel_rfl
noncomputable def fn177 : AFunc := { real := true, nslots := 3, params := [(some 0)], results := [.slot 1], assign := sNone, body := e177 }
/- bonsai/quote.put -/
noncomputable def m178 : Meta := { slots := [(0, false), (1, false), (2, false), (18, false), (25, false), (30, false), (35, false), (40, false)], globals := gl, lid := 6447, n := 54, ext := ext }
noncomputable def e178 : CodeF := (sBlock 0 (sSeq (sRegion (rOp (oMov (.slot 1)) (rOp (oMov (.slot 2)) (rOp (oCall 185 [(.env 1), (.env 0)]) (rOpS 3 (oMov (.env 0)) rDone)))))
 (sCond (.slot 3) (sRegion (rOp (oMov (.slot 0)) (rOp (oMov (.slot 1)) (rOp (oCall 145 [(.env 1), (.env 0)]) rDone)))) (sSeq (sRegion (rOp (oMov (.slot 1)) (rOp (oBin .eql (.env 0) (.const (.int .u8 10))) (rOpS 4 (oMov (.env 0)) rDone))))
 (sCond (.slot 4) (sRegion (rOp (oMov (.slot 0)) (rOp (oCall 62 [(.env 0), (.const (.str [92, 110]))]) rDone))) (sSeq (sRegion (rOp (oMov (.slot 1)) (rOp (oBin .eql (.env 0) (.const (.int .u8 13))) (rOpS 5 (oMov (.env 0)) rDone))))
 (sCond (.slot 5) (sRegion (rOp (oMov (.slot 0)) (rOp (oCall 62 [(.env 0), (.const (.str [92, 114]))]) rDone))) (sSeq (sRegion (rOp (oMov (.slot 1)) (rOp (oBin .eql (.env 0) (.const (.int .u8 9))) (rOpS 6 (oMov (.env 0)) rDone))))
 (sCond (.slot 6) (sRegion (rOp (oMov (.slot 0)) (rOp (oCall 62 [(.env 0), (.const (.str [92, 116]))]) rDone))) (sSeq (sRegion (rOp (oMov (.slot 1)) (rOp (oBin .eql (.env 0) (.const (.int .u8 92))) (rOp (oMov (.env 0)) (rOpG 0 false (oMov (.slot 2)) (rOpG 1 false (oMov (.slot 1)) (rOpG 2 false (oCall 137 [(.env 1), (.env 0)]) (rOpG 3 false (oBin .geq (.env 0) (.const (.int .i64 0))) (rOp (oPick (.env 4) (.const (.bool true)) (.env 0)) (rOpS 7 (oMov (.env 0)) rDone))))))))))
 (sCond (.slot 7) (sSeq (sRegion (rOp (oMov (.slot 0)) (rOp (oCall 145 [(.env 0), (.const (.int .u8 92))]) rDone)))
 (sRegion (rOp (oMov (.slot 0)) (rOp (oMov (.slot 1)) (rOp (oCall 145 [(.env 1), (.env 0)]) rDone))))) (sSeq (sRegion (rOp (oMov (.slot 0)) (rOp (oCall 62 [(.env 0), (.const (.str [92, 120]))]) rDone)))
 (sSeq (sRegion (rOp (oMov (.slot 0)) (rOp (oMov (.slot 1)) (rOp (oBin .shr (.env 0) (.const (.int .u64 4))) (rOp (oIdxStr (.const (.str [48, 49, 50, 51, 52, 53, 54, 55, 56, 57, 97, 98, 99, 100, 101, 102])) (.env 0)) (rOp (oCall 145 [(.env 3), (.env 0)]) rDone))))))
 (sRegion (rOp (oMov (.slot 0)) (rOp (oMov (.slot 1)) (rOp (oBin .and (.env 0) (.const (.int .u8 15))) (rOp (oIdxStr (.const (.str [48, 49, 50, 51, 52, 53, 54, 55, 56, 57, 97, 98, 99, 100, 101, 102])) (.env 0)) (rOp (oCall 145 [(.env 3), (.env 0)]) rDone)))))))))))))))))))
noncomputable def k178 : Code := codeIn Tryz.f178
theorem h178 : (cCode Tryz.prog m178 k178).map den = some e178 := by kernel_rfl
noncomputable def fn178 : AFunc := { real := true, nslots := 8, params := [(some 0), (some 1), (some 2)], results := [], assign := sNone, body := e178 }
/- bonsai/set.Runs -/
noncomputable def m179 : Meta := { slots := [(0, false), (1, false), (2, false), (3, false), (4, false), (5, false), (7, false), (8, false), (25, false)], globals := gl, lid := 6502, n := 38, ext := ext }
noncomputable def e179 : CodeF := (sSeq (sRegion (rOpS 1 (oBox 64 (.slot 0)) (rOpS 2 (oMov (.const .nils)) rDone)))
 (sSeq (sRegion (rOpS 3 (oAlloc 256 [.nils]) rDone))
 (sSeq (sSeq (sRegion (rOp (oLoad 4 true (.slot 1)) (rOpS 6 (oCall 186 [(.env 0)]) rDone)))
 (sBlock 0 (sRangeFunc (.slot 6) [7] 6509)))
 (sSeq (sRegion (rOp (oLoad 1 false (.slot 3)) (rOpS 2 (oMov (.env 0)) rDone)))
 (sExit .ret)))))
noncomputable def k179 : Code := codeIn Tryz.f179
theorem h179 : (cCode Tryz.prog m179 k179).map den = some e179 := by kernel_rfl
noncomputable def fn179 : AFunc := { real := true, nslots := 9, params := [(some 0)], results := [.slot 2], assign := sNone, body := e179 }
noncomputable def a6509 : CodeF := (sRegion (rOpS 4 (oMov (.slot 7)) rDone))
noncomputable def b6509 : CodeF := (sBlock 1 (sSeq (sSeq (sRegion (rOp (oLoad 1 false (.slot 3)) (rOp (oLen .sl (.env 0)) (rOp (oBin .sub (.env 0) (.const (.int .i64 1))) (rOpS 5 (oMov (.env 0)) rDone)))))
 (sSeq (sRegion (rOp (oMov (.slot 5)) (rOp (oBin .geq (.env 0) (.const (.int .i64 0))) (rOp (oMov (.env 0)) (rOpG 0 true (oLoad 1 false (.slot 3)) (rOpG 1 true (oMov (.slot 5)) (rOpG 2 true (oIdxS 2 (.env 1) (.env 0)) (rOpG 3 true (oIdxP 2 1 (.env 0) (.const (.int .i64 1))) (rOpG 4 true (oLoad 1 false (.env 0)) (rOpG 5 true (oConvInt .i64 (.env 0)) (rOpG 6 true (oBin .add (.env 0) (.const (.int .i64 1))) (rOpG 7 true (oMov (.slot 4)) (rOpG 8 true (oConvInt .i64 (.env 0)) (rOpG 9 true (oBin .eql (.env 2) (.env 0)) (rOpS 8 (oPick (.env 10) (.env 0) (.const (.bool false))) rDone)))))))))))))))
 (sCond (.slot 8) (sSeq (sRegion (rOp (oLoad 1 false (.slot 3)) (rOp (oMov (.slot 5)) (rOp (oMov (.slot 4)) (rOp (oIdxS 2 (.env 2) (.env 1)) (rOp (oIdxP 2 1 (.env 0) (.const (.int .i64 1))) (rOp (oStore 1 (.env 0) (.env 2)) rDone)))))))
 (sExit (.exit 1))) sSkip)))
 (sRegion (rOp (oLoad 1 false (.slot 3)) (rOp (oMov (.slot 4)) (rOp (oMov (.slot 4)) (rOp (oBuild [(.int .u8 0), (.int .u8 0)] [(0, 1, (.env 1)), (1, 1, (.env 0))]) (rOp (oBslice 258 2 1 [(.int .u8 0), (.int .u8 0)] [(0, 2, (.env 0))]) (rOp (oAppend 258 2 2 (.env 4) (.env 0)) (rOp (oStore 1 (.slot 3) (.env 0)) rDone))))))))))
noncomputable def fn6509 : AFunc := { real := false, nslots := 0, params := [], results := [], assign := a6509, body := b6509 }
theorem lp179 : (loopsOf Tryz.prog m179 k179).map (List.map fun x => (x.1, den x.2.1, den x.2.2)) = some [(6509, a6509, b6509)] := by kernel_rfl
/- internal/stringslite.Index -/
noncomputable def m180 : Meta := { slots := [(0, false), (1, false), (4, false), (5, false), (6, false), (7, false), (8, false), (9, false), (10, false), (11, false), (12, false), (13, false), (16, false), (24, false), (31, false), (36, false), (59, false), (64, false), (73, false), (93, false), (107, false), (114, false), (132, false), (139, false)], globals := gl, lid := 6541, n := 143, ext := ext }
noncomputable def e180 : CodeF := (sSeq (sRegion (rOpS 2 (oMov (.const (.int .i64 0))) rDone))
 (sSeq (sRegion (rOp (oMov (.slot 1)) (rOp (oLen .str (.env 0)) (rOpS 3 (oMov (.env 0)) rDone))))
 (sSeq (sBlock 0 (sSeq (sRegion (rOp (oMov (.slot 3)) (rOp (oBin .eql (.env 0) (.const (.int .i64 0))) (rOp (oMov (.env 0)) (rOpG 0 false (oMov (.slot 1)) (rOpG 1 false (oMov (.slot 0)) (rOpG 2 false (oBin .eql (.env 1) (.env 0)) (rOp (oPick (.env 3) (.const (.bool true)) (.env 0)) (rOpS 12 (oMov (.env 0)) rDone)))))))))
 (sCond (.slot 12) (sSeq (sRegion (rOpS 2 (oMov (.const (.int .i64 0))) rDone))
 (sExit .ret)) (sSeq (sRegion (rOp (oMov (.slot 3)) (rOp (oBin .eql (.env 0) (.const (.int .i64 1))) (rOpS 13 (oMov (.env 0)) rDone))))
 (sCond (.slot 13) (sSeq (sRegion (rOp (oMov (.slot 0)) (rOp (oMov (.slot 1)) (rOp (oIdxStr (.env 0) (.const (.int .i64 0))) (rOp (oCall 155 [(.env 2), (.env 0)]) (rOpS 2 (oMov (.env 0)) rDone))))))
 (sExit .ret)) (sSeq (sRegion (rOp (oMov (.slot 3)) (rOp (oMov (.slot 0)) (rOp (oLen .str (.env 0)) (rOp (oBin .geq (.env 2) (.env 0)) (rOpS 14 (oMov (.env 0)) rDone))))))
 (sCond (.slot 14) (sSeq (sRegion (rOpS 2 (oMov (.const (.int .i64 (-1)))) rDone))
 (sExit .ret)) (sSeq sNone
 (sCond (.slot 15) (sSeq sNone
 (sExit .ret)) sSkip)))))))))
 (sSeq (sRegion (rOp (oMov (.slot 1)) (rOp (oIdxStr (.env 0) (.const (.int .i64 0))) (rOpS 4 (oMov (.env 0)) rDone))))
 (sSeq (sRegion (rOp (oMov (.slot 1)) (rOp (oIdxStr (.env 0) (.const (.int .i64 1))) (rOpS 5 (oMov (.env 0)) rDone))))
 (sSeq (sRegion (rOpS 6 (oMov (.const (.int .i64 0))) rDone))
 (sSeq (sRegion (rOp (oMov (.slot 0)) (rOp (oLen .str (.env 0)) (rOp (oMov (.slot 3)) (rOp (oBin .sub (.env 1) (.env 0)) (rOp (oBin .add (.env 0) (.const (.int .i64 1))) (rOpS 7 (oMov (.env 0)) rDone)))))))
 (sSeq (sRegion (rOpS 8 (oMov (.const (.int .i64 0))) rDone))
 (sSeq (sBlock 1 (sLoop (sSeq (sSeq (sRegion (rOp (oMov (.slot 6)) (rOp (oMov (.slot 7)) (rOpS 16 (oBin .lss (.env 1) (.env 0)) rDone))))
 (sCond (.slot 16) sSkip (sExit (.exit 1))))
 (sBlock 2 (sSeq (sSeq (sRegion (rOp (oMov (.slot 0)) (rOp (oMov (.slot 6)) (rOp (oIdxStr (.env 1) (.env 0)) (rOp (oMov (.slot 4)) (rOpS 17 (oBin .neq (.env 1) (.env 0)) rDone))))))
 (sCond (.slot 17) (sSeq (sRegion (rOp (oMov (.slot 0)) (rOp (oMov (.slot 6)) (rOp (oBin .add (.env 0) (.const (.int .i64 1))) (rOp (oMov (.slot 7)) (rOp (oSlice true 0 (.env 3) (some (.env 1)) (some (.env 0)) none) (rOp (oMov (.slot 4)) (rOp (oCall 155 [(.env 1), (.env 0)]) (rOpS 9 (oMov (.env 0)) rDone)))))))))
 (sSeq (sSeq (sRegion (rOp (oMov (.slot 9)) (rOpS 18 (oBin .lss (.env 0) (.const (.int .i64 0))) rDone)))
 (sCond (.slot 18) (sSeq (sRegion (rOpS 2 (oMov (.const (.int .i64 (-1)))) rDone))
 (sExit .ret)) sSkip))
 (sRegion (rOp (oMov (.slot 6)) (rOp (oMov (.slot 9)) (rOp (oBin .add (.env 0) (.const (.int .i64 1))) (rOp (oBin .add (.env 2) (.env 0)) (rOpS 6 (oMov (.env 0)) rDone)))))))) sSkip))
 (sSeq (sSeq (sRegion (rOp (oMov (.slot 0)) (rOp (oMov (.slot 6)) (rOp (oBin .add (.env 0) (.const (.int .i64 1))) (rOp (oIdxStr (.env 2) (.env 0)) (rOp (oMov (.slot 5)) (rOp (oBin .eql (.env 1) (.env 0)) (rOp (oMov (.env 0)) (rOpG 0 true (oMov (.slot 0)) (rOpG 1 true (oMov (.slot 6)) (rOpG 2 true (oMov (.slot 6)) (rOpG 3 true (oMov (.slot 3)) (rOpG 4 true (oBin .add (.env 1) (.env 0)) (rOpG 5 true (oSlice true 0 (.env 4) (some (.env 3)) (some (.env 0)) none) (rOpG 6 true (oMov (.slot 1)) (rOpG 7 true (oBin .eql (.env 1) (.env 0)) (rOpS 19 (oPick (.env 8) (.env 0) (.const (.bool false))) rDone)))))))))))))))))
 (sCond (.slot 19) (sSeq (sRegion (rOp (oMov (.slot 6)) (rOpS 2 (oMov (.env 0)) rDone)))
 (sExit .ret)) sSkip))
 (sSeq (sRegion (rOp (oMov (.slot 6)) (rOp (oBin .add (.env 0) (.const (.int .i64 1))) (rOpS 6 (oMov (.env 0)) rDone))))
 (sSeq (sRegion (rOp (oMov (.slot 8)) (rOp (oBin .add (.env 0) (.const (.int .i64 1))) (rOpS 8 (oMov (.env 0)) rDone))))
 (sSeq sNone
 (sCond (.slot 20) (sSeq sNone
 (sSeq (sSeq (sRegion (rOp (oMov (.slot 10)) (rOpS 21 (oBin .geq (.env 0) (.const (.int .i64 0))) rDone)))
 (sCond (.slot 21) (sSeq (sRegion (rOp (oMov (.slot 10)) (rOp (oMov (.slot 6)) (rOp (oBin .add (.env 1) (.env 0)) (rOpS 2 (oMov (.env 0)) rDone)))))
 (sExit .ret)) sSkip))
 (sSeq (sRegion (rOpS 2 (oMov (.const (.int .i64 (-1)))) rDone))
 (sExit .ret)))) (sSeq sNone
 (sCond (.slot 22) (sSeq (sRegion (rOp (oMov (.slot 0)) (rOp (oMov (.slot 6)) (rOp (oSlice true 0 (.env 1) (some (.env 0)) none none) (rOp (oMov (.slot 1)) (rOp (oCall 189 [(.env 1), (.env 0)]) (rOpS 11 (oMov (.env 0)) rDone)))))))
 (sSeq (sSeq (sRegion (rOp (oMov (.slot 11)) (rOpS 23 (oBin .lss (.env 0) (.const (.int .i64 0))) rDone)))
 (sCond (.slot 23) (sSeq (sRegion (rOpS 2 (oMov (.const (.int .i64 (-1)))) rDone))
 (sExit .ret)) sSkip))
 (sSeq (sRegion (rOp (oMov (.slot 6)) (rOp (oMov (.slot 11)) (rOp (oBin .add (.env 1) (.env 0)) (rOpS 2 (oMov (.env 0)) rDone)))))
 (sExit .ret)))) sSkip))))))))))))
 (sSeq (sRegion (rOpS 2 (oMov (.const (.int .i64 (-1)))) rDone))
 (sExit .ret)))))))))))
noncomputable def k180 : Code := codeIn Tryz.f180
theorem h180 : (cCode Tryz.prog m180 k180).map den = some e180 := by kernel_rfl
noncomputable def fn180 : AFunc := { real := true, nslots := 24, params := [(some 0), (some 1)], results := [.slot 2], assign := sNone, body := e180 }
/- bonsai/quote.escapes -/
noncomputable def m181 : Meta := { slots := [(0, false), (2, false), (3, false), (4, false), (10, false)], globals := gl, lid := 6685, n := 21, ext := ext }
noncomputable def e181 : CodeF := (sSeq (sRegion (rOpS 1 (oMov (.const .nilm)) rDone))
 (sSeq (sRegion (rOp (oMkmap) (rOp (oMapset false (.env 0) (.const (.int .u8 110)) (.const (.int .u8 10))) (rOp (oMapset false (.env 1) (.const (.int .u8 114)) (.const (.int .u8 13))) (rOp (oMapset false (.env 2) (.const (.int .u8 116)) (.const (.int .u8 9))) (rOp (oMapset false (.env 3) (.const (.int .u8 92)) (.const (.int .u8 92))) (rOp (oMov (.env 4)) (rOpS 2 (oMov (.env 0)) rDone))))))))
 (sSeq (sSeq (sRegion (rOpS 3 (oMov (.const (.int .i64 0))) rDone))
 (sBlock 0 (sLoop (sSeq (sSeq (sRegion (rOp (oMov (.slot 3)) (rOp (oMov (.slot 0)) (rOp (oLen .str (.env 0)) (rOpS 4 (oBin .lss (.env 2) (.env 0)) rDone)))))
 (sCond (.slot 4) sSkip (sExit (.exit 0))))
 (sSeq (sBlock 1 (sRegionD (dOp (oMov (.slot 2)) false (dOp (oMov (.slot 0)) false (dOp (oMov (.slot 3)) false (dOp (oIdxStr (.env 1) (.env 0)) false (dOp (oMov (.slot 0)) false (dOp (oMov (.slot 3)) false (dOp (oIdxStr (.env 1) (.env 0)) false (dOp (oMapset false (.env 6) (.env 3) (.env 0)) true dDone)))))))) [] []))
 (sRegion (rOp (oMov (.slot 3)) (rOp (oBin .add (.env 0) (.const (.int .i64 1))) (rOpS 3 (oMov (.env 0)) rDone)))))))))
 (sSeq (sRegion (rOp (oMov (.slot 2)) (rOpS 1 (oMov (.env 0)) rDone)))
 (sExit .ret)))))
noncomputable def k181 : Code := codeIn Tryz.f181
theorem h181 : (cCode Tryz.prog m181 k181).map den = some e181 := by kernel_rfl
noncomputable def fn181 : AFunc := { real := true, nslots := 5, params := [(some 0)], results := [.slot 1], assign := sNone, body := e181 }
/- (*bonsai/quote.reader).next -/
noncomputable def m182 : Meta := { slots := [(0, false), (2, false), (3, false), (13, false)], globals := gl, lid := 6707, n := 42, ext := ext }
noncomputable def e182 : CodeF := (sSeq (sRegion (rOpS 1 (oMov (.const (.int .u8 0))) (rOpS 2 (oMov (.const (.bool false))) rDone)))
 (sSeq (sSeq (sRegionD (dOp (oMov (.slot 0)) false (dOp (oNilc (.env 0)) false (dOp (oFld 4 (.env 0)) false (dOp (oLoad 1 false (.env 0)) false (dOp (oMov (.slot 0)) false (dOp (oNilc (.env 0)) false (dOp (oFld 0 (.env 0)) false (dOp (oLoad 1 false (.env 0)) false (dOp (oLen .str (.env 0)) false (dOp (oBin .geq (.env 5) (.env 0)) false dDone)))))))))) [] [(3, 0)])
 (sCond (.slot 3) (sSeq (sRegion (rOp (oMov (.slot 0)) (rOp (oMov (.slot 0)) (rOp (oMov (.slot 0)) (rOp (oNilc (.env 0)) (rOp (oFld 0 (.env 0)) (rOp (oLoad 1 false (.env 0)) (rOp (oLen .str (.env 0)) (rOp (oNilc (.env 6)) (rOp (oFld 4 (.env 0)) (rOp (oStore 1 (.env 0) (.env 2)) (rOp (oNilc (.env 8)) (rOp (oFld 5 (.env 0)) (rOp (oStore 1 (.env 0) (.const (.int .i64 8))) rDone))))))))))))))
 (sSeq (sRegion (rOpS 1 (oMov (.const (.int .u8 0))) (rOpS 2 (oMov (.const (.bool false))) rDone)))
 (sExit .ret))) sSkip))
 (sSeq (sRegion (rOp (oMov (.slot 0)) (rOp (oNilc (.env 0)) (rOp (oFld 4 (.env 0)) (rOp (oLoad 1 false (.env 0)) (rOp (oBin .add (.env 0) (.const (.int .i64 1))) (rOp (oNilc (.env 4)) (rOp (oFld 4 (.env 0)) (rOp (oStore 1 (.env 0) (.env 2)) rDone)))))))))
 (sSeq (sRegionD (dOp (oMov (.slot 0)) false (dOp (oNilc (.env 0)) false (dOp (oFld 0 (.env 0)) false (dOp (oLoad 1 false (.env 0)) false (dOp (oMov (.slot 0)) false (dOp (oNilc (.env 0)) false (dOp (oFld 4 (.env 0)) false (dOp (oLoad 1 false (.env 0)) false (dOp (oBin .sub (.env 0) (.const (.int .i64 1))) false (dOp (oIdxStr (.env 5) (.env 0)) false (dOp (oMov (.env 0)) false (dOp (oMov (.const (.bool true))) false dDone)))))))))))) [] [(1, 1), (2, 0)])
 (sExit .ret)))))
noncomputable def k182 : Code := codeIn Tryz.f182
theorem h182 : (cCode Tryz.prog m182 k182).map den = some e182 := by kernel_rfl
noncomputable def fn182 : AFunc := { real := true, nslots := 4, params := [(some 0)], results := [.slot 1, .slot 2], assign := sNone, body := e182 }
/- (*bonsai/quote.reader).signs$1 -/
noncomputable def m183 : Meta := { slots := [(0, false), (1, false), (3, false), (4, false), (18, false), (31, false)], globals := gl, lid := 6750, n := 32, ext := ext }
noncomputable def e183 : CodeF := (sBlock 0 (sLoop (sSeq (sSeq (sRegionD (dOp (oLoad 1 false (.slot 1)) false (dOp (oNilc (.env 0)) false (dOp (oFld 5 (.env 0)) false (dOp (oLoad 1 false (.env 0)) false (dOp (oBin .eql (.env 0) (.const (.int .i64 0))) false (dOp (oMov (.env 0)) false (dOpG (0, true) (oLoad 1 false (.slot 1)) false (dOpG (1, true) (oLoad 1 false (.slot 1)) false (dOpG (2, true) (oNilc (.env 0)) false (dOpG (3, true) (oFld 2 (.env 0)) false (dOpG (4, true) (oLoad 1 false (.env 0)) false (dOpG (5, true) (oCall 169 [(.env 4), (.env 0)]) true (dOpG (6, true) (oUn .not (.env 0)) false (dOp (oPick (.env 7) (.env 0) (.const (.bool false))) false dDone)))))))))))))) [] [(4, 0)])
 (sCond (.slot 4) sSkip (sExit (.exit 0))))
 (sBlock 1 (sSeq (sRegion (rOp (oLoad 1 false (.slot 1)) (rOp (oCall 184 [(.env 0)]) (rOp (oMov (.env 0)) (rOp (oExt (.env 0) 0) (rOp (oExt (.env 1) 1) (rOpS 2 (oMov (.env 1)) (rOpS 3 (oMov (.env 1)) rDone))))))))
 (sSeq (sRegion (rOp (oMov (.slot 3)) (rOp (oUn .not (.env 0)) (rOp (oMov (.env 0)) (rOpG 0 false (oMov (.slot 0)) (rOpG 1 false (oMov (.slot 2)) (rOpG 2 false (oCallv (.env 1) [(.env 0)]) (rOpG 3 false (oUn .not (.env 0)) (rOpS 5 (oPick (.env 4) (.const (.bool true)) (.env 0)) rDone)))))))))
 (sCond (.slot 5) (sExit .ret) sSkip)))))))
noncomputable def k183 : Code := codeIn Tryz.f183
theorem h183 : (cCode Tryz.prog m183 k183).map den = some e183 := by kernel_rfl
noncomputable def fn183 : AFunc := { real := true, nslots := 6, params := [(some 0), (some 1)], results := [], assign := sNone, body := e183 }
/- (*bonsai/quote.reader).sign -/
noncomputable def m184 : Meta := { slots := [(0, false), (2, false), (3, false), (4, false), (5, false), (6, false), (7, false), (14, false), (16, false), (23, false), (38, false), (48, false), (51, false)], globals := gl, lid := 6783, n := 63, ext := ext }
noncomputable def e184 : CodeF := (sSeq (sRegion (rOpS 1 (oMov (.const (.int .u8 0))) (rOpS 2 (oMov (.const (.bool false))) rDone)))
 (sSeq (sRegion (rOp (oMov (.slot 0)) (rOp (oCall 182 [(.env 0)]) (rOp (oMov (.env 0)) (rOp (oExt (.env 0) 0) (rOp (oExt (.env 1) 1) (rOpS 3 (oMov (.env 1)) (rOpS 4 (oMov (.env 1)) rDone))))))))
 (sSeq (sSeq (sRegion (rOp (oMov (.slot 4)) (rOpS 7 (oUn .not (.env 0)) rDone)))
 (sCond (.slot 7) (sSeq (sRegion (rOpS 1 (oMov (.const (.int .u8 0))) (rOpS 2 (oMov (.const (.bool false))) rDone)))
 (sExit .ret)) sSkip))
 (sSeq (sSeq (sRegion (rOp (oMov (.slot 3)) (rOpS 8 (oBin .neq (.env 0) (.const (.int .u8 92))) rDone)))
 (sCond (.slot 8) (sSeq (sSeq (sRegion (rOp (oMov (.slot 3)) (rOp (oMov (.slot 0)) (rOp (oNilc (.env 0)) (rOp (oFld 1 (.env 0)) (rOp (oLoad 1 false (.env 0)) (rOp (oCall 185 [(.env 4), (.env 0)]) (rOpS 9 (oUn .not (.env 0)) rDone))))))))
 (sCond (.slot 9) (sSeq (sRegion (rOp (oMov (.slot 0)) (rOp (oMov (.slot 0)) (rOp (oNilc (.env 0)) (rOp (oFld 4 (.env 0)) (rOp (oLoad 1 false (.env 0)) (rOp (oBin .sub (.env 0) (.const (.int .i64 1))) (rOp (oCall 171 [(.env 5), (.env 0)]) rDone))))))))
 (sSeq (sRegion (rOpS 1 (oMov (.const (.int .u8 0))) (rOpS 2 (oMov (.const (.bool false))) rDone)))
 (sExit .ret))) sSkip))
 (sSeq (sRegion (rOp (oMov (.slot 3)) (rOpS 1 (oMov (.env 0)) (rOpS 2 (oMov (.const (.bool true))) rDone))))
 (sExit .ret))) sSkip))
 (sSeq (sSeq (sRegion (rOp (oMov (.slot 0)) (rOp (oCall 182 [(.env 0)]) (rOp (oMov (.env 0)) (rOp (oExt (.env 0) 0) (rOp (oExt (.env 1) 1) (rOpS 3 (oMov (.env 1)) (rOpS 4 (oMov (.env 1)) rDone))))))))
 (sSeq (sRegion (rOp (oMov (.slot 4)) (rOpS 10 (oUn .not (.env 0)) rDone)))
 (sCond (.slot 10) (sSeq (sRegion (rOpS 1 (oMov (.const (.int .u8 0))) (rOpS 2 (oMov (.const (.bool false))) rDone)))
 (sExit .ret)) sSkip)))
 (sSeq (sSeq (sRegion (rOp (oMov (.slot 0)) (rOp (oNilc (.env 0)) (rOp (oFld 3 (.env 0)) (rOp (oLoad 1 false (.env 0)) (rOp (oMov (.slot 3)) (rOp (oLookup false (.int .u8 0) true (.env 1) (.env 0)) (rOp (oMov (.env 0)) (rOp (oExt (.env 0) 0) (rOp (oExt (.env 1) 1) (rOpS 5 (oMov (.env 1)) (rOpS 6 (oMov (.env 1)) rDone))))))))))))
 (sSeq (sRegion (rOpS 11 (oMov (.slot 6)) rDone))
 (sCond (.slot 11) (sSeq (sRegion (rOp (oMov (.slot 5)) (rOpS 1 (oMov (.env 0)) (rOpS 2 (oMov (.const (.bool true))) rDone))))
 (sExit .ret)) sSkip)))
 (sSeq (sSeq (sRegion (rOp (oMov (.slot 3)) (rOpS 12 (oBin .neq (.env 0) (.const (.int .u8 120))) rDone)))
 (sCond (.slot 12) (sSeq (sRegion (rOp (oMov (.slot 0)) (rOp (oMov (.slot 0)) (rOp (oNilc (.env 0)) (rOp (oFld 4 (.env 0)) (rOp (oLoad 1 false (.env 0)) (rOp (oBin .sub (.env 0) (.const (.int .i64 1))) (rOp (oCall 171 [(.env 5), (.env 0)]) rDone))))))))
 (sSeq (sRegion (rOpS 1 (oMov (.const (.int .u8 0))) (rOpS 2 (oMov (.const (.bool false))) rDone)))
 (sExit .ret))) sSkip))
 (sSeq (sRegion (rOp (oMov (.slot 0)) (rOp (oCall 190 [(.env 0)]) (rOp (oExt (.env 0) 0) (rOp (oExt (.env 1) 1) (rOpS 1 (oMov (.env 1)) (rOpS 2 (oMov (.env 1)) rDone)))))))
 (sExit .ret)))))))))
noncomputable def k184 : Code := codeIn Tryz.f184
theorem h184 : (cCode Tryz.prog m184 k184).map den = some e184 := by kernel_rfl
noncomputable def fn184 : AFunc := { real := true, nslots := 13, params := [(some 0)], results := [.slot 1, .slot 2], assign := sNone, body := e184 }
/- bonsai/quote.plain -/
noncomputable def m185 : Meta := { slots := [(0, false), (1, false), (4, false)], globals := gl, lid := 6847, n := 21, ext := ext }
noncomputable def e185 : CodeF := (sSeq (sRegion (rOpS 2 (oMov (.const (.bool false))) rDone))
 (sSeq (sRegion (rOp (oMov (.slot 0)) (rOp (oBin .geq (.env 0) (.const (.int .u8 32))) (rOp (oMov (.env 0)) (rOpG 0 true (oMov (.slot 0)) (rOpG 1 true (oBin .leq (.env 0) (.const (.int .u8 126))) (rOp (oPick (.env 2) (.env 0) (.const (.bool false))) (rOp (oMov (.env 0)) (rOpG 0 true (oMov (.slot 0)) (rOpG 1 true (oBin .neq (.env 0) (.const (.int .u8 92))) (rOp (oPick (.env 2) (.env 0) (.const (.bool false))) (rOp (oMov (.env 0)) (rOpG 0 true (oMov (.slot 1)) (rOpG 1 true (oMov (.slot 0)) (rOpG 2 true (oCall 137 [(.env 1), (.env 0)]) (rOpG 3 true (oBin .lss (.env 0) (.const (.int .i64 0))) (rOp (oPick (.env 4) (.env 0) (.const (.bool false))) (rOpS 2 (oMov (.env 0)) rDone))))))))))))))))))
 (sExit .ret)))
noncomputable def k185 : Code := codeIn Tryz.f185
theorem h185 : (cCode Tryz.prog m185 k185).map den = some e185 := by kernel_rfl
noncomputable def fn185 : AFunc := { real := true, nslots := 3, params := [(some 0), (some 1)], results := [.slot 2], assign := sNone, body := e185 }
/- bonsai/set.each -/
noncomputable def m186 : Meta := { slots := [(0, false), (1, false), (2, false)], globals := gl, lid := 6869, n := 4, ext := ext }
noncomputable def e186 : CodeF := (sSeq (sRegion (rOpS 1 (oBox 64 (.slot 0)) (rOpS 2 (oMov (.const .nilf)) rDone)))
 (sSeq (sRegion (rOp (oMkfn 191 [] [(.slot 1)]) (rOpS 2 (oMov (.env 0)) rDone)))
 (sExit .ret)))
noncomputable def k186 : Code := codeIn Tryz.f186
theorem h186 : (cCode Tryz.prog m186 k186).map den = some e186 := by kernel_rfl
noncomputable def fn186 : AFunc := { real := true, nslots := 3, params := [(some 0)], results := [.slot 2], assign := sNone, body := e186 }
/- internal/bytealg.Cutover -/
noncomputable def m188 : Meta := { slots := [(0, false), (2, false)], globals := gl, lid := 6877, n := 6, ext := ext }
noncomputable def e188 : CodeF := (sSeq (sRegion (rOpS 1 (oMov (.const (.int .i64 0))) rDone))
 (sSeq (sRegion (rOp (oMov (.slot 0)) (rOp (oBin .add (.env 0) (.const (.int .i64 16))) (rOp (oBin .quo (.env 0) (.const (.int .i64 8))) (rOpS 1 (oMov (.env 0)) rDone)))))
 (sExit .ret)))
noncomputable def k188 : Code := codeIn Tryz.f188
theorem h188 : (cCode Tryz.prog m188 k188).map den = some e188 := by kernel_rfl
noncomputable def fn188 : AFunc := { real := true, nslots := 2, params := [(some 0)], results := [.slot 1], assign := sNone, body := e188 }
/- internal/bytealg.IndexRabinKarp[string] -/
noncomputable def m189 : Meta := { slots := [(0, false), (1, false), (4, false), (5, false), (6, false), (7, false), (8, false), (9, false), (10, false), (20, false), (39, false), (44, false), (77, false)], globals := gl, lid := 6884, n := 81, ext := ext }
noncomputable def e189 : CodeF := (sSeq (sRegion (rOpS 2 (oMov (.const (.int .i64 0))) rDone))
 (sSeq (sRegion (rOp (oMov (.slot 1)) (rOp (oCall 192 [(.env 0)]) (rOp (oMov (.env 0)) (rOp (oExt (.env 0) 0) (rOp (oExt (.env 1) 1) (rOpS 3 (oMov (.env 1)) (rOpS 4 (oMov (.env 1)) rDone))))))))
 (sSeq (sRegion (rOp (oMov (.slot 1)) (rOp (oLen .str (.env 0)) (rOpS 5 (oMov (.env 0)) rDone))))
 (sSeq (sRegion (rOpS 6 (oMov (.const (.int .u32 0))) rDone))
 (sSeq (sSeq (sRegion (rOpS 7 (oMov (.const (.int .i64 0))) rDone))
 (sBlock 0 (sLoop (sSeq (sSeq (sRegion (rOp (oMov (.slot 7)) (rOp (oMov (.slot 5)) (rOpS 9 (oBin .lss (.env 1) (.env 0)) rDone))))
 (sCond (.slot 9) sSkip (sExit (.exit 0))))
 (sSeq (sBlock 1 (sRegion (rOp (oMov (.slot 6)) (rOp (oBin .mul (.env 0) (.const (.int .u32 16777619))) (rOp (oMov (.slot 0)) (rOp (oMov (.slot 7)) (rOp (oIdxStr (.env 1) (.env 0)) (rOp (oConvInt .u32 (.env 0)) (rOp (oBin .add (.env 4) (.env 0)) (rOpS 6 (oMov (.env 0)) rDone))))))))))
 (sRegion (rOp (oMov (.slot 7)) (rOp (oBin .add (.env 0) (.const (.int .i64 1))) (rOpS 7 (oMov (.env 0)) rDone)))))))))
 (sSeq (sSeq (sRegion (rOp (oMov (.slot 6)) (rOp (oMov (.slot 3)) (rOp (oBin .eql (.env 1) (.env 0)) (rOp (oMov (.env 0)) (rOpG 0 true (oMov (.slot 0)) (rOpG 1 true (oMov (.slot 5)) (rOpG 2 true (oSlice true 0 (.env 1) none (some (.env 0)) none) (rOpG 3 true (oMov (.slot 1)) (rOpG 4 true (oBin .eql (.env 1) (.env 0)) (rOpS 10 (oPick (.env 5) (.env 0) (.const (.bool false))) rDone)))))))))))
 (sCond (.slot 10) (sSeq (sRegion (rOpS 2 (oMov (.const (.int .i64 0))) rDone))
 (sExit .ret)) sSkip))
 (sSeq (sSeq (sRegion (rOp (oMov (.slot 5)) (rOpS 8 (oMov (.env 0)) rDone)))
 (sBlock 2 (sLoop (sSeq (sSeq (sRegion (rOp (oMov (.slot 8)) (rOp (oMov (.slot 0)) (rOp (oLen .str (.env 0)) (rOpS 11 (oBin .lss (.env 2) (.env 0)) rDone)))))
 (sCond (.slot 11) sSkip (sExit (.exit 2))))
 (sBlock 3 (sSeq (sRegion (rOp (oMov (.slot 6)) (rOp (oBin .mul (.env 0) (.const (.int .u32 16777619))) (rOpS 6 (oMov (.env 0)) rDone))))
 (sSeq (sRegion (rOp (oMov (.slot 6)) (rOp (oMov (.slot 0)) (rOp (oMov (.slot 8)) (rOp (oIdxStr (.env 1) (.env 0)) (rOp (oConvInt .u32 (.env 0)) (rOp (oBin .add (.env 4) (.env 0)) (rOpS 6 (oMov (.env 0)) rDone))))))))
 (sSeq (sRegion (rOp (oMov (.slot 6)) (rOp (oMov (.slot 4)) (rOp (oMov (.slot 0)) (rOp (oMov (.slot 8)) (rOp (oMov (.slot 5)) (rOp (oBin .sub (.env 1) (.env 0)) (rOp (oIdxStr (.env 3) (.env 0)) (rOp (oConvInt .u32 (.env 0)) (rOp (oBin .mul (.env 6) (.env 0)) (rOp (oBin .sub (.env 8) (.env 0)) (rOpS 6 (oMov (.env 0)) rDone))))))))))))
 (sSeq (sRegion (rOp (oMov (.slot 8)) (rOp (oBin .add (.env 0) (.const (.int .i64 1))) (rOpS 8 (oMov (.env 0)) rDone))))
 (sSeq (sRegion (rOp (oMov (.slot 6)) (rOp (oMov (.slot 3)) (rOp (oBin .eql (.env 1) (.env 0)) (rOp (oMov (.env 0)) (rOpG 0 true (oMov (.slot 0)) (rOpG 1 true (oMov (.slot 8)) (rOpG 2 true (oMov (.slot 5)) (rOpG 3 true (oBin .sub (.env 1) (.env 0)) (rOpG 4 true (oMov (.slot 8)) (rOpG 5 true (oSlice true 0 (.env 4) (some (.env 1)) (some (.env 0)) none) (rOpG 6 true (oMov (.slot 1)) (rOpG 7 true (oBin .eql (.env 1) (.env 0)) (rOpS 12 (oPick (.env 8) (.env 0) (.const (.bool false))) rDone))))))))))))))
 (sCond (.slot 12) (sSeq (sRegion (rOp (oMov (.slot 8)) (rOp (oMov (.slot 5)) (rOp (oBin .sub (.env 1) (.env 0)) (rOpS 2 (oMov (.env 0)) rDone)))))
 (sExit .ret)) sSkip)))))))))))
 (sSeq (sRegion (rOpS 2 (oMov (.const (.int .i64 (-1)))) rDone))
 (sExit .ret)))))))))
noncomputable def k189 : Code := codeIn Tryz.f189
theorem h189 : (cCode Tryz.prog m189 k189).map den = some e189 := by kernel_rfl
noncomputable def fn189 : AFunc := { real := true, nslots := 13, params := [(some 0), (some 1)], results := [.slot 2], assign := sNone, body := e189 }
/- (*bonsai/quote.reader).hex -/
noncomputable def m190 : Meta := { slots := [(0, false), (2, false), (3, false), (4, false), (5, false), (6, false), (7, false), (8, false), (15, false), (23, false), (35, false), (48, false)], globals := gl, lid := 6966, n := 63, ext := ext }
noncomputable def e190 : CodeF := (sSeq (sRegion (rOpS 1 (oMov (.const (.int .u8 0))) (rOpS 2 (oMov (.const (.bool false))) rDone)))
 (sSeq (sRegion (rOpS 3 (oMov (.const (.int .u8 0))) rDone))
 (sSeq (sSeq (sRegion (rOpS 6 (oMov (.const (.int .i64 0))) rDone))
 (sBlock 0 (sLoop (sSeq (sRegion (rOpS 7 (oBin .lss (.slot 6) (.const (.int .i64 2))) rDone))
 (sSeq (sCond (.slot 7) sSkip (sExit (.exit 0)))
 (sSeq (sBlock 1 (sSeq (sRegion (rOp (oMov (.slot 0)) (rOp (oCall 182 [(.env 0)]) (rOp (oMov (.env 0)) (rOp (oExt (.env 0) 0) (rOp (oExt (.env 1) 1) (rOpS 4 (oMov (.env 1)) (rOpS 5 (oMov (.env 1)) rDone))))))))
 (sSeq (sSeq (sRegion (rOp (oMov (.slot 5)) (rOpS 8 (oUn .not (.env 0)) rDone)))
 (sCond (.slot 8) (sSeq (sRegion (rOpS 1 (oMov (.const (.int .u8 0))) (rOpS 2 (oMov (.const (.bool false))) rDone)))
 (sExit .ret)) sSkip))
 (sBlock 2 (sSeq (sRegion (rOp (oMov (.slot 4)) (rOp (oBin .geq (.env 0) (.const (.int .u8 48))) (rOp (oMov (.env 0)) (rOpG 0 true (oMov (.slot 4)) (rOpG 1 true (oBin .leq (.env 0) (.const (.int .u8 57))) (rOp (oPick (.env 2) (.env 0) (.const (.bool false))) (rOpS 9 (oMov (.env 0)) rDone))))))))
 (sCond (.slot 9) (sRegion (rOp (oMov (.slot 3)) (rOp (oBin .shl (.env 0) (.const (.int .u64 4))) (rOp (oMov (.slot 4)) (rOp (oBin .sub (.env 0) (.const (.int .u8 48))) (rOp (oBin .or (.env 2) (.env 0)) (rOpS 3 (oMov (.env 0)) rDone))))))) (sSeq (sRegion (rOp (oMov (.slot 4)) (rOp (oBin .geq (.env 0) (.const (.int .u8 97))) (rOp (oMov (.env 0)) (rOpG 0 true (oMov (.slot 4)) (rOpG 1 true (oBin .leq (.env 0) (.const (.int .u8 102))) (rOp (oPick (.env 2) (.env 0) (.const (.bool false))) (rOpS 10 (oMov (.env 0)) rDone))))))))
 (sCond (.slot 10) (sRegion (rOp (oMov (.slot 3)) (rOp (oBin .shl (.env 0) (.const (.int .u64 4))) (rOp (oMov (.slot 4)) (rOp (oBin .sub (.env 0) (.const (.int .u8 97))) (rOp (oBin .add (.env 0) (.const (.int .u8 10))) (rOp (oBin .or (.env 3) (.env 0)) (rOpS 3 (oMov (.env 0)) rDone)))))))) (sSeq (sRegion (rOp (oMov (.slot 4)) (rOp (oBin .geq (.env 0) (.const (.int .u8 65))) (rOp (oMov (.env 0)) (rOpG 0 true (oMov (.slot 4)) (rOpG 1 true (oBin .leq (.env 0) (.const (.int .u8 70))) (rOp (oPick (.env 2) (.env 0) (.const (.bool false))) (rOpS 11 (oMov (.env 0)) rDone))))))))
 (sCond (.slot 11) (sRegion (rOp (oMov (.slot 3)) (rOp (oBin .shl (.env 0) (.const (.int .u64 4))) (rOp (oMov (.slot 4)) (rOp (oBin .sub (.env 0) (.const (.int .u8 65))) (rOp (oBin .add (.env 0) (.const (.int .u8 10))) (rOp (oBin .or (.env 3) (.env 0)) (rOpS 3 (oMov (.env 0)) rDone)))))))) (sSeq (sRegion (rOp (oMov (.slot 0)) (rOp (oMov (.slot 0)) (rOp (oNilc (.env 0)) (rOp (oFld 4 (.env 0)) (rOp (oLoad 1 false (.env 0)) (rOp (oBin .sub (.env 0) (.const (.int .i64 1))) (rOp (oCall 171 [(.env 5), (.env 0)]) rDone))))))))
 (sSeq (sRegion (rOpS 1 (oMov (.const (.int .u8 0))) (rOpS 2 (oMov (.const (.bool false))) rDone)))
 (sExit .ret)))))))))))))
 (sRegion (rOp (oBin .add (.slot 6) (.const (.int .i64 1))) (rOpS 6 (oMov (.env 0)) rDone)))))))))
 (sSeq (sRegion (rOp (oMov (.slot 3)) (rOpS 1 (oMov (.env 0)) (rOpS 2 (oMov (.const (.bool true))) rDone))))
 (sExit .ret)))))
noncomputable def k190 : Code := codeIn Tryz.f190
theorem h190 : (cCode Tryz.prog m190 k190).map den = some e190 := by kernel_rfl
noncomputable def fn190 : AFunc := { real := true, nslots := 12, params := [(some 0)], results := [.slot 1, .slot 2], assign := sNone, body := e190 }
/- bonsai/set.each$1 -/
noncomputable def m191 : Meta := { slots := [(0, false), (1, false), (3, false), (4, false), (5, false), (6, false), (7, false), (11, false), (24, false)], globals := gl, lid := 7030, n := 26, ext := ext }
noncomputable def e191 : CodeF := (sSeq (sRegion (rOpS 4 (oLoad 4 true (.slot 1)) (rOpS 5 (oMov (.const (.int .i64 0))) rDone)))
 (sBlock 0 (sLoop (sSeq (sRegion (rOpS 6 (oBin .lss (.slot 5) (.const (.int .i64 4))) rDone))
 (sSeq (sCond (.slot 6) sSkip (sExit (.exit 0)))
 (sSeq (sBlock 1 (sSeq (sRegion (rOp (oMov (.slot 5)) (rOp (oIdxA 4 1 false (.slot 4) (.slot 5)) (rOpS 2 (oMov (.env 1)) (rOpS 3 (oMov (.env 1)) rDone)))))
 (sBlock 2 (sLoop (sSeq (sSeq (sRegion (rOp (oMov (.slot 3)) (rOpS 7 (oBin .neq (.env 0) (.const (.int .u64 0))) rDone)))
 (sCond (.slot 7) sSkip (sExit (.exit 2))))
 (sSeq (sBlock 3 (sSeq (sRegion (rOp (oMov (.slot 0)) (rOp (oMov (.slot 2)) (rOp (oBin .mul (.env 0) (.const (.int .i64 64))) (rOp (oMov (.slot 3)) (rOp (oCall 177 [(.env 0)]) (rOp (oBin .add (.env 2) (.env 0)) (rOp (oConvInt .u8 (.env 0)) (rOp (oCallv (.env 6) [(.env 0)]) (rOpS 8 (oUn .not (.env 0)) rDone))))))))))
 (sCond (.slot 8) (sExit .ret) sSkip)))
 (sRegion (rOp (oMov (.slot 3)) (rOp (oMov (.slot 3)) (rOp (oBin .sub (.env 0) (.const (.int .u64 1))) (rOp (oBin .and (.env 2) (.env 0)) (rOpS 3 (oMov (.env 0)) rDone))))))))))))
 (sRegion (rOp (oBin .add (.slot 5) (.const (.int .i64 1))) (rOpS 5 (oMov (.env 0)) rDone)))))))))
noncomputable def k191 : Code := codeIn Tryz.f191
theorem h191 : (cCode Tryz.prog m191 k191).map den = some e191 := by kernel_rfl
noncomputable def fn191 : AFunc := { real := true, nslots := 9, params := [(some 0), (some 1)], results := [], assign := sNone, body := e191 }
end Go.Proofs.YtaomafmpedgofaaGreatDoor
