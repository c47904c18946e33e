import Derived.Test.YtaomafmpedgofaaGreatDoorText0
import Derived.KernelRfl
namespace Go.Proofs.YtaomafmpedgofaaGreatDoor
open Go Go.Vm
set_option maxRecDepth 100000
/- internal/bytealg.hashStr[string] -/
noncomputable def m192 : Meta := { slots := [(0, false), (2, false), (3, false), (4, false), (5, false), (6, false), (7, false), (8, false), (12, false), (25, false), (30, false)], globals := gl, lid := 7057, n := 39, ext := ext }
noncomputable def e192 : CodeF := (sSeq (sRegion (rOpS 1 (oMov (.const (.int .u32 0))) (rOpS 2 (oMov (.const (.int .u32 0))) rDone)))
 (sSeq (sRegion (rOpS 3 (oMov (.const (.int .u32 0))) rDone))
 (sSeq (sSeq (sRegion (rOpS 4 (oMov (.const (.int .i64 0))) rDone))
 (sBlock 0 (sLoop (sSeq (sSeq (sRegion (rOp (oMov (.slot 4)) (rOp (oMov (.slot 0)) (rOp (oLen .str (.env 0)) (rOpS 8 (oBin .lss (.env 2) (.env 0)) rDone)))))
 (sCond (.slot 8) sSkip (sExit (.exit 0))))
 (sSeq (sBlock 1 (sRegion (rOp (oMov (.slot 3)) (rOp (oBin .mul (.env 0) (.const (.int .u32 16777619))) (rOp (oMov (.slot 0)) (rOp (oMov (.slot 4)) (rOp (oIdxStr (.env 1) (.env 0)) (rOp (oConvInt .u32 (.env 0)) (rOp (oBin .add (.env 4) (.env 0)) (rOpS 3 (oMov (.env 0)) rDone))))))))))
 (sRegion (rOp (oMov (.slot 4)) (rOp (oBin .add (.env 0) (.const (.int .i64 1))) (rOpS 4 (oMov (.env 0)) rDone)))))))))
 (sSeq (sRegion (rOpS 5 (oMov (.const (.int .u32 1))) (rOpS 6 (oMov (.const (.int .u32 16777619))) rDone)))
 (sSeq (sSeq (sRegion (rOp (oMov (.slot 0)) (rOp (oLen .str (.env 0)) (rOpS 7 (oMov (.env 0)) rDone))))
 (sBlock 2 (sLoop (sSeq (sSeq (sRegion (rOp (oMov (.slot 7)) (rOpS 9 (oBin .gtr (.env 0) (.const (.int .i64 0))) rDone)))
 (sCond (.slot 9) sSkip (sExit (.exit 2))))
 (sSeq (sBlock 3 (sSeq (sSeq (sRegion (rOp (oMov (.slot 7)) (rOp (oBin .and (.env 0) (.const (.int .i64 1))) (rOpS 10 (oBin .neq (.env 0) (.const (.int .i64 0))) rDone))))
 (sCond (.slot 10) (sRegion (rOp (oMov (.slot 5)) (rOp (oMov (.slot 6)) (rOp (oBin .mul (.env 1) (.env 0)) (rOpS 5 (oMov (.env 0)) rDone))))) sSkip))
 (sRegion (rOp (oMov (.slot 6)) (rOp (oMov (.slot 6)) (rOp (oBin .mul (.env 1) (.env 0)) (rOpS 6 (oMov (.env 0)) rDone)))))))
 (sRegion (rOp (oMov (.slot 7)) (rOp (oBin .shr (.env 0) (.const (.int .u64 1))) (rOpS 7 (oMov (.env 0)) rDone)))))))))
 (sSeq (sRegion (rOp (oMov (.slot 3)) (rOp (oMov (.slot 5)) (rOpS 1 (oMov (.env 1)) (rOpS 2 (oMov (.env 1)) rDone)))))
 (sExit .ret)))))))
noncomputable def k192 : Code := codeIn Tryz.f192
theorem h192 : (cCode Tryz.prog m192 k192).map den = some e192 := by kernel_rfl
noncomputable def fn192 : AFunc := { real := true, nslots := 11, params := [(some 0)], results := [.slot 1, .slot 2], assign := sNone, body := e192 }
end Go.Proofs.YtaomafmpedgofaaGreatDoor
