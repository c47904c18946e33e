import Derived.Test.YtaomafmpedgofaaGreatDoorText0
import Derived.KernelRfl
namespace Go.Proofs.YtaomafmpedgofaaGreatDoor
open Go Go.Vm
set_option maxRecDepth 100000
/- bonsai/parse.read -/
noncomputable def m41 : Meta := { slots := [(0, false), (2, false), (3, false), (4, false), (10, false), (19, false)], globals := gl, lid := 2046, n := 32, ext := ext }
noncomputable def e41 : CodeF := (sSeq (sRegion (rOpS 1 (oMov (.const .nilp)) (rOpS 2 (oMov (.const (.int .i64 0))) (rOpS 3 (oMov (.const (.int .i64 0))) rDone))))
 (sSeq (sRegion (rOp (oMov (.slot 0)) (rOp (oCall 58 [(.env 0)]) (rOp (oMov (.env 0)) (rOp (oExt (.env 0) 0) (rOp (oExt (.env 1) 1) (rOpS 1 (oMov (.env 1)) (rOpS 3 (oMov (.env 1)) rDone))))))))
 (sSeq (sBlock 0 (sSeq (sRegion (rOp (oMov (.slot 3)) (rOp (oBin .eql (.env 0) (.const (.int .i64 40))) (rOpS 4 (oMov (.env 0)) rDone))))
 (sCond (.slot 4) (sSeq (sRegionD (dOp (oMov (.slot 1)) false (dOp (oMov (.slot 1)) false (dOp (oNilc (.env 0)) false (dOp (oFld 1 (.env 0)) false (dOp (oLoad 1 false (.env 0)) false (dOp (oMov (.slot 3)) false (dOp (oMov (.env 5)) false (dOp (oMov (.env 2)) false (dOp (oMov (.env 2)) false dDone))))))))) [] [(1, 2), (2, 1), (3, 0)])
 (sExit .ret)) (sSeq (sRegion (rOp (oMov (.slot 1)) (rOp (oCall 65 [(.env 0)]) (rOp (oUn .not (.env 0)) (rOpS 5 (oMov (.env 0)) rDone)))))
 (sCond (.slot 5) (sSeq (sRegion (rOp (oMov (.slot 1)) (rOp (oMov (.slot 1)) (rOp (oCall 60 [(.env 0)]) (rOpS 1 (oMov (.env 2)) (rOpS 2 (oMov (.env 1)) (rOpS 3 (oMov (.const (.int .i64 4))) rDone)))))))
 (sExit .ret)) sSkip)))))
 (sSeq (sRegionD (dOp (oMov (.slot 1)) false (dOp (oMov (.slot 1)) false (dOp (oNilc (.env 0)) false (dOp (oFld 1 (.env 0)) false (dOp (oLoad 1 false (.env 0)) false (dOp (oMov (.slot 3)) false (dOp (oMov (.env 5)) false (dOp (oMov (.env 2)) false (dOp (oMov (.env 2)) false dDone))))))))) [] [(1, 2), (2, 1), (3, 0)])
 (sExit .ret)))))
noncomputable def k41 : Code := codeIn Tryz.f41
theorem h41 : (cCode Tryz.prog m41 k41).map den = some e41 := by kernel_rfl
noncomputable def fn41 : AFunc := { real := true, nslots := 6, params := [(some 0)], results := [.slot 1, .slot 2, .slot 3], assign := sNone, body := e41 }
/- (*bonsai/parse.reader).judge -/
noncomputable def m42 : Meta := { slots := [(0, false), (2, false), (3, false), (4, false), (5, false), (6, true), (8, false), (10, true), (12, false), (13, false), (15, true), (25, false), (26, false), (27, false), (28, false), (39, false), (50, false), (51, false), (52, false), (53, false), (64, false), (77, false), (78, false), (79, false), (80, false), (91, false)], globals := gl, lid := 2079, n := 96, ext := ext }
noncomputable def e42 : CodeF := (sSeq (sRegion (rOpS 1 (oMov (.const (.int .i64 0))) (rOpS 2 (oMov (.const (.int .i64 0))) rDone)))
 (sSeq (sRegion (rOp (oMov (.slot 0)) (rOp (oNilc (.env 0)) (rOp (oFld 6 (.env 0)) (rOp (oLoad 1 false (.env 0)) (rOp (oLen .sl (.env 0)) (rOp (oMkmapN (.env 0)) (rOpS 3 (oMov (.env 0)) rDone))))))))
 (sSeq (sSeq (sRegion (rOp (oMov (.slot 0)) (rOp (oNilc (.env 0)) (rOp (oFld 6 (.env 0)) (rOpS 11 (oLoad 1 false (.env 0)) (rOpS 12 (oLen .sl (.env 0)) (rOpS 13 (oMov (.const (.int .i64 0))) rDone)))))))
 (sBlock 0 (sLoop (sSeq (sRegion (rOpS 14 (oBin .lss (.slot 13) (.slot 12)) rDone))
 (sSeq (sCond (.slot 14) sSkip (sExit (.exit 0)))
 (sSeq (sBlock 1 (sSeq (sRegion (rOp (oMov (.slot 13)) (rOp (oIdxS 10 (.slot 11) (.slot 13)) (rOp (oLoad 10 true (.env 0)) (rOp (oAllocP 5 [(.int .u8 0), (.int .i64 0), (.int .i64 0), (.str []), (.int .u64 0), (.int .u64 0), (.int .u64 0), (.int .u64 0), (.int .i64 0), (.int .i64 0)]) (rOpS 4 (oMov (.env 3)) (rOp (oStoreP 5 10 (.env 1) (.env 2)) rDone)))))))
 (sSeq (sSeq (sRegion (rOp (oMov (.slot 3)) (rOp (oFldP 5 3 (.const (.fp 0))) (rOp (oLoadP 5 1 false (.env 0)) (rOp (oLookup true (.int .i64 0) true (.env 2) (.env 0)) (rOp (oMov (.env 0)) (rOp (oExt (.env 0) 0) (rOp (oExt (.env 1) 1) (rOp (oMov (.env 1)) (rOpS 6 (oMov (.env 1)) rDone))))))))))
 (sSeq (sRegion (rOpS 15 (oMov (.slot 6)) rDone))
 (sCond (.slot 15) (sSeq (sRegion (rOp (oFldP 5 1 (.const (.fp 0))) (rOp (oLoadP 5 1 false (.env 0)) (rOpS 1 (oMov (.env 0)) (rOpS 2 (oMov (.const (.int .i64 6))) rDone)))))
 (sExit .ret)) sSkip)))
 (sRegion (rOp (oMov (.slot 3)) (rOp (oFldP 5 3 (.const (.fp 0))) (rOp (oLoadP 5 1 false (.env 0)) (rOp (oMov (.slot 4)) (rOp (oMapset true (.env 3) (.env 1) (.env 0)) rDone)))))))))
 (sRegion (rOp (oBin .add (.slot 13) (.const (.int .i64 1))) (rOpS 13 (oMov (.env 0)) rDone)))))))))
 (sSeq (sSeq (sRegion (rOp (oMov (.slot 0)) (rOp (oNilc (.env 0)) (rOp (oFld 7 (.env 0)) (rOpS 16 (oLoad 1 false (.env 0)) (rOpS 17 (oLen .sl (.env 0)) (rOpS 18 (oMov (.const (.int .i64 0))) rDone)))))))
 (sBlock 2 (sLoop (sSeq (sRegion (rOpS 19 (oBin .lss (.slot 18) (.slot 17)) rDone))
 (sSeq (sCond (.slot 19) sSkip (sExit (.exit 2)))
 (sSeq (sBlock 3 (sSeq (sRegion (rOp (oIdxS 10 (.slot 16) (.slot 18)) (rOp (oLoad 10 true (.env 0)) (rOp (oAllocP 7 [(.int .u8 0), (.int .i64 0), (.int .i64 0), (.str []), (.int .u64 0), (.int .u64 0), (.int .u64 0), (.int .u64 0), (.int .i64 0), (.int .i64 0)]) (rOp (oStoreP 7 10 (.env 0) (.env 1)) rDone)))))
 (sSeq (sRegion (rOp (oMov (.slot 3)) (rOp (oFldP 7 3 (.const (.fp 0))) (rOp (oLoadP 7 1 false (.env 0)) (rOp (oLookup true (.int .i64 0) true (.env 2) (.env 0)) (rOp (oMov (.env 0)) (rOp (oExt (.env 0) 0) (rOp (oExt (.env 1) 1) (rOp (oMov (.env 1)) (rOpS 8 (oMov (.env 1)) rDone))))))))))
 (sSeq (sRegion (rOp (oMov (.slot 8)) (rOpS 20 (oUn .not (.env 0)) rDone)))
 (sCond (.slot 20) (sSeq (sRegion (rOp (oFldP 7 1 (.const (.fp 0))) (rOp (oLoadP 7 1 false (.env 0)) (rOpS 1 (oMov (.env 0)) (rOpS 2 (oMov (.const (.int .i64 41))) rDone)))))
 (sExit .ret)) sSkip)))))
 (sRegion (rOp (oBin .add (.slot 18) (.const (.int .i64 1))) (rOpS 18 (oMov (.env 0)) rDone)))))))))
 (sSeq (sRegion (rOp (oMov (.slot 0)) (rOp (oNilc (.env 0)) (rOp (oFld 5 (.env 0)) (rOp (oLoad 1 false (.env 0)) (rOp (oLen .sl (.env 0)) (rOp (oBin .gtr (.env 0) (.const (.int .i64 64))) (rOpS 9 (oMov (.env 0)) rDone))))))))
 (sSeq (sSeq (sRegion (rOp (oMov (.slot 0)) (rOp (oNilc (.env 0)) (rOp (oFld 5 (.env 0)) (rOpS 21 (oLoad 1 false (.env 0)) (rOpS 22 (oLen .sl (.env 0)) (rOpS 23 (oMov (.const (.int .i64 0))) rDone)))))))
 (sBlock 4 (sLoop (sSeq (sRegion (rOpS 24 (oBin .lss (.slot 23) (.slot 22)) rDone))
 (sSeq (sCond (.slot 24) sSkip (sExit (.exit 4)))
 (sSeq (sBlock 5 (sSeq (sRegion (rOp (oIdxS 3 (.slot 21) (.slot 23)) (rOp (oLoad 3 true (.env 0)) (rOp (oAllocP 10 [(.str []), .nils, (.int .i64 0)]) (rOp (oStoreP 10 3 (.env 0) (.env 1)) rDone)))))
 (sRegion (rOp (oMov (.slot 9)) (rOp (oMov (.env 0)) (rOpG 0 false (oFldP 10 1 (.const (.fp 0))) (rOpG 1 false (oLoadP 10 2 true (.env 0)) (rOpG 2 false (oCall 31 [(.env 0)]) (rOpG 3 false (oUn .not (.env 0)) (rOp (oPick (.env 4) (.const (.bool true)) (.env 0)) (rOpS 9 (oMov (.env 0)) rDone)))))))))))
 (sRegion (rOp (oBin .add (.slot 23) (.const (.int .i64 1))) (rOpS 23 (oMov (.env 0)) rDone)))))))))
 (sSeq (sSeq (sRegion (rOpS 25 (oMov (.slot 9)) rDone))
 (sCond (.slot 25) (sSeq (sRegion (rOp (oMov (.slot 0)) (rOp (oNilc (.env 0)) (rOp (oFld 1 (.env 0)) (rOp (oLoad 1 false (.env 0)) (rOpS 1 (oMov (.env 0)) (rOpS 2 (oMov (.const (.int .i64 40))) rDone)))))))
 (sExit .ret)) sSkip))
 (sSeq (sRegion (rOpS 1 (oMov (.const (.int .i64 0))) (rOpS 2 (oMov (.const (.int .i64 0))) rDone)))
 (sExit .ret)))))))))
noncomputable def k42 : Code := codeIn Tryz.f42
theorem h42 : (cCode Tryz.prog m42 k42).map den = some e42 := by kernel_rfl
noncomputable def fn42 : AFunc := { real := true, nslots := 26, params := [(some 0)], results := [.slot 1, .slot 2], assign := sNone, body := e42 }
/- bonsai/name.May -/
noncomputable def m43 : Meta := { slots := [(0, false), (2, false)], globals := gl, lid := 2176, n := 18, ext := ext }
noncomputable def e43 : CodeF := (sSeq (sRegion (rOpS 1 (oMov (.const (.bool false))) rDone))
 (sSeq (sRegion (rOp (oMov (.slot 0)) (rOp (oBin .neq (.env 0) (.const (.str []))) (rOp (oMov (.env 0)) (rOpG 0 true (oMov (.slot 0)) (rOpG 1 true (oLen .str (.env 0)) (rOpG 2 true (oBin .leq (.env 0) (.const (.int .i64 32))) (rOp (oPick (.env 3) (.env 0) (.const (.bool false))) (rOp (oMov (.env 0)) (rOpG 0 true (oMov (.slot 0)) (rOpG 1 true (oCall 66 [(.env 0)]) (rOpG 2 true (oLen .str (.env 0)) (rOpG 3 true (oMov (.slot 0)) (rOpG 4 true (oLen .str (.env 0)) (rOpG 5 true (oBin .eql (.env 2) (.env 0)) (rOp (oPick (.env 6) (.env 0) (.const (.bool false))) (rOpS 1 (oMov (.env 0)) rDone)))))))))))))))))
 (sExit .ret)))
noncomputable def k43 : Code := codeIn Tryz.f43
theorem h43 : (cCode Tryz.prog m43 k43).map den = some e43 := by kernel_rfl
noncomputable def fn43 : AFunc := { real := true, nslots := 2, params := [(some 0)], results := [.slot 1], assign := sNone, body := e43 }
/- bonsai/expr.Normal -/
noncomputable def m44 : Meta := { slots := [(0, false), (1, true), (2, false), (4, true), (6, false), (7, false), (10, false), (12, false), (13, false), (14, false), (15, false), (25, false), (27, false), (28, false), (29, false), (30, false), (51, false)], globals := gl, lid := 2195, n := 54, ext := ext }
noncomputable def e44 : CodeF := (sSeq (sRegion (rOp (oBoxP 1 (.slot 0)) (rOpS 2 (oMov (.const (.bool false))) rDone)))
 (sSeq (sSeq (sRegion (rOp (oLoadP 1 2 true (.const (.fp 0))) (rOp (oCall 53 [(.env 0)]) (rOpS 6 (oUn .not (.env 0)) rDone))))
 (sCond (.slot 6) (sSeq (sRegion (rOpS 2 (oMov (.const (.bool false))) rDone))
 (sExit .ret)) sSkip))
 (sSeq (sSeq (sRegion (rOp (oFldP 1 0 (.const (.fp 0))) (rOpS 7 (oLoadP 1 1 false (.env 0)) (rOpS 8 (oLen .sl (.env 0)) (rOpS 9 (oMov (.const (.int .i64 0))) rDone)))))
 (sBlock 0 (sLoop (sSeq (sRegion (rOpS 10 (oBin .lss (.slot 9) (.slot 8)) rDone))
 (sSeq (sCond (.slot 10) sSkip (sExit (.exit 0)))
 (sSeq (sBlock 1 (sSeq (sRegion (rOp (oIdxS 9 (.slot 7) (.slot 9)) (rOp (oLoad 9 true (.env 0)) (rOp (oAllocP 3 [(.int .u8 0), (.int .u64 0), (.int .u64 0), (.int .u64 0), (.int .u64 0), (.str []), (.int .i64 0), (.int .i64 0), .nils]) (rOp (oStoreP 3 9 (.env 0) (.env 1)) rDone)))))
 (sSeq (sSeq (sRegion (rOp (oFldP 3 0 (.const (.fp 0))) (rOp (oLoadP 3 1 false (.env 0)) (rOp (oBin .neq (.env 0) (.const (.int .u8 4))) (rOp (oMov (.env 0)) (rOpG 0 true (oFldP 3 0 (.const (.fp 0))) (rOpG 1 true (oLoadP 3 1 false (.env 0)) (rOpG 2 true (oBin .neq (.env 0) (.const (.int .u8 5))) (rOpS 11 (oPick (.env 3) (.env 0) (.const (.bool false))) rDone)))))))))
 (sCond (.slot 11) (sExit (.exit 1)) sSkip))
 (sSeq (sRegion (rOp (oFldP 3 8 (.const (.fp 0))) (rOpS 12 (oLoadP 3 1 false (.env 0)) (rOpS 13 (oLen .sl (.env 0)) (rOpS 14 (oMov (.const (.int .i64 0))) rDone)))))
 (sBlock 2 (sLoop (sSeq (sRegion (rOpS 15 (oBin .lss (.slot 14) (.slot 13)) rDone))
 (sSeq (sCond (.slot 15) sSkip (sExit (.exit 2)))
 (sSeq (sBlock 3 (sSeq (sRegion (rOp (oIdxS 1 (.slot 12) (.slot 14)) (rOp (oLoad 1 false (.env 0)) (rOpS 4 (oMov (.env 0)) rDone))))
 (sSeq (sRegion (rOp (oFldP 1 0 (.const (.fp 0))) (rOp (oLoadP 1 1 false (.env 0)) (rOp (oMov (.slot 4)) (rOp (oIdxS 9 (.env 1) (.env 0)) (rOp (oFld 0 (.env 0)) (rOp (oLoad 1 false (.env 0)) (rOpS 5 (oMov (.env 0)) rDone))))))))
 (sSeq (sRegion (rOp (oMov (.slot 5)) (rOp (oFldP 3 0 (.const (.fp 0))) (rOp (oLoadP 3 1 false (.env 0)) (rOp (oBin .eql (.env 2) (.env 0)) (rOp (oMov (.env 0)) (rOpG 0 false (oMov (.slot 5)) (rOpG 1 false (oBin .eql (.env 0) (.const (.int .u8 0))) (rOpG 2 false (oMov (.env 0)) (rOpG 0 true (oFldP 3 0 (.const (.fp 0))) (rOpG 1 true (oLoadP 3 1 false (.env 0)) (rOpG 2 true (oBin .eql (.env 0) (.const (.int .u8 4))) (rOpG 6 false (oPick (.env 3) (.env 0) (.const (.bool false))) (rOpS 16 (oPick (.env 7) (.const (.bool true)) (.env 0)) rDone))))))))))))))
 (sCond (.slot 16) (sSeq (sRegion (rOpS 2 (oMov (.const (.bool false))) rDone))
 (sExit .ret)) sSkip)))))
 (sRegion (rOp (oBin .add (.slot 14) (.const (.int .i64 1))) (rOpS 14 (oMov (.env 0)) rDone))))))))))))
 (sRegion (rOp (oBin .add (.slot 9) (.const (.int .i64 1))) (rOpS 9 (oMov (.env 0)) rDone)))))))))
 (sSeq (sRegion (rOpS 2 (oMov (.const (.bool true))) rDone))
 (sExit .ret)))))
noncomputable def k44 : Code := codeIn Tryz.f44
theorem h44 : (cCode Tryz.prog m44 k44).map den = some e44 := by kernel_rfl
noncomputable def fn44 : AFunc := { real := true, nslots := 17, params := [(some 0)], results := [.slot 2], assign := sNone, body := e44 }
/- bonsai/gram.large -/
noncomputable def m45 : Meta := { slots := [(0, false), (1, true), (2, false), (4, true), (8, false), (10, false), (11, false), (12, false), (13, false), (19, false)], globals := gl, lid := 2250, n := 29, ext := ext }
noncomputable def e45 : CodeF := (sSeq (sRegion (rOp (oBoxP 1 (.slot 0)) (rOpS 2 (oMov (.const (.bool false))) rDone)))
 (sSeq (sSeq (sRegion (rOp (oFldP 1 0 (.const (.fp 0))) (rOp (oLoadP 1 1 false (.env 0)) (rOp (oLen .sl (.env 0)) (rOpS 4 (oBin .gtr (.env 0) (.const (.int .i64 64))) rDone)))))
 (sCond (.slot 4) (sSeq (sRegion (rOpS 2 (oMov (.const (.bool true))) rDone))
 (sExit .ret)) sSkip))
 (sSeq (sSeq (sRegion (rOp (oFldP 1 0 (.const (.fp 0))) (rOpS 5 (oLoadP 1 1 false (.env 0)) (rOpS 6 (oLen .sl (.env 0)) (rOpS 7 (oMov (.const (.int .i64 0))) rDone)))))
 (sBlock 0 (sLoop (sSeq (sRegion (rOpS 8 (oBin .lss (.slot 7) (.slot 6)) rDone))
 (sSeq (sCond (.slot 8) sSkip (sExit (.exit 0)))
 (sSeq (sBlock 1 (sSeq (sRegion (rOp (oIdxS 3 (.slot 5) (.slot 7)) (rOp (oLoad 3 true (.env 0)) (rOp (oAllocP 3 [(.str []), .nils, (.int .i64 0)]) (rOp (oStoreP 3 3 (.env 0) (.env 1)) rDone)))))
 (sSeq (sRegion (rOp (oFldP 3 1 (.const (.fp 0))) (rOp (oLoadP 3 2 true (.env 0)) (rOp (oCall 31 [(.env 0)]) (rOpS 9 (oUn .not (.env 0)) rDone)))))
 (sCond (.slot 9) (sSeq (sRegion (rOpS 2 (oMov (.const (.bool true))) rDone))
 (sExit .ret)) sSkip))))
 (sRegion (rOp (oBin .add (.slot 7) (.const (.int .i64 1))) (rOpS 7 (oMov (.env 0)) rDone)))))))))
 (sSeq (sRegion (rOp (oLoadP 1 1 true (.const (.fp 0))) (rOp (oCall 67 [(.env 0)]) (rOp (oBin .gtr (.env 0) (.const (.int .i64 1024))) (rOp (oMov (.env 0)) (rOpG 0 false (oLoadP 1 1 true (.const (.fp 0))) (rOpG 1 false (oCall 68 [(.env 0)]) (rOpG 2 false (oBin .gtr (.env 0) (.const (.int .i64 8192))) (rOp (oPick (.env 3) (.const (.bool true)) (.env 0)) (rOpS 2 (oMov (.env 0)) rDone))))))))))
 (sExit .ret)))))
noncomputable def k45 : Code := codeIn Tryz.f45
theorem h45 : (cCode Tryz.prog m45 k45).map den = some e45 := by kernel_rfl
noncomputable def fn45 : AFunc := { real := true, nslots := 10, params := [(some 0)], results := [.slot 2], assign := sNone, body := e45 }
/- bonsai/gram.nodes -/
noncomputable def m46 : Meta := { slots := [(0, false), (1, false), (2, false)], globals := gl, lid := 2280, n := 4, ext := ext }
noncomputable def e46 : CodeF := (sSeq (sRegion (rOpS 1 (oBox 30 (.slot 0)) (rOpS 2 (oMov (.const .nilf)) rDone)))
 (sSeq (sRegion (rOp (oMkfn 69 [] [(.slot 1)]) (rOpS 2 (oMov (.env 0)) rDone)))
 (sExit .ret)))
noncomputable def k46 : Code := codeIn Tryz.f46
theorem h46 : (cCode Tryz.prog m46 k46).map den = some e46 := by kernel_rfl
noncomputable def fn46 : AFunc := { real := true, nslots := 3, params := [(some 0)], results := [.slot 2], assign := sNone, body := e46 }
/- bonsai/fuel.nodes$1 -/
noncomputable def m47 : Meta := { slots := [(0, false), (1, false), (4, true), (6, true), (8, false), (9, false), (10, false), (11, false), (16, false), (17, false), (18, false), (19, false), (25, false)], globals := gl, lid := 2285, n := 28, ext := ext }
noncomputable def e47 : CodeF := (sSeq (sRegion (rOp (oFld 0 (.slot 1)) (rOpS 4 (oLoad 1 false (.env 0)) (rOpS 5 (oLen .sl (.env 0)) (rOpS 6 (oMov (.const (.int .i64 0))) rDone)))))
 (sBlock 0 (sLoop (sSeq (sRegion (rOpS 7 (oBin .lss (.slot 6) (.slot 5)) rDone))
 (sSeq (sCond (.slot 7) sSkip (sExit (.exit 0)))
 (sSeq (sBlock 1 (sSeq (sRegion (rOp (oIdxS 3 (.slot 4) (.slot 6)) (rOp (oLoad 3 true (.env 0)) (rOp (oAllocP 2 [(.str []), .nils, (.int .i64 0)]) (rOp (oStoreP 2 3 (.env 0) (.env 1)) rDone)))))
 (sSeq (sRegion (rOp (oFldP 2 1 (.const (.fp 0))) (rOp (oFldP 2 0 (.env 0)) (rOpS 8 (oLoadP 2 1 false (.env 0)) (rOpS 9 (oLen .sl (.env 0)) (rOpS 10 (oMov (.const (.int .i64 0))) rDone))))))
 (sBlock 2 (sLoop (sSeq (sRegion (rOpS 11 (oBin .lss (.slot 10) (.slot 9)) rDone))
 (sSeq (sCond (.slot 11) sSkip (sExit (.exit 2)))
 (sSeq (sBlock 3 (sSeq (sRegion (rOp (oIdxS 9 (.slot 8) (.slot 10)) (rOp (oLoad 9 true (.env 0)) (rOp (oAllocP 3 [(.int .u8 0), (.int .u64 0), (.int .u64 0), (.int .u64 0), (.int .u64 0), (.str []), (.int .i64 0), (.int .i64 0), .nils]) (rOp (oStoreP 3 9 (.env 0) (.env 1)) rDone)))))
 (sSeq (sRegion (rOp (oMov (.slot 0)) (rOp (oLoadP 3 9 true (.const (.fp 0))) (rOp (oCallv (.env 1) [(.env 0)]) (rOpS 12 (oUn .not (.env 0)) rDone)))))
 (sCond (.slot 12) (sExit .ret) sSkip))))
 (sRegion (rOp (oBin .add (.slot 10) (.const (.int .i64 1))) (rOpS 10 (oMov (.env 0)) rDone)))))))))))
 (sRegion (rOp (oBin .add (.slot 6) (.const (.int .i64 1))) (rOpS 6 (oMov (.env 0)) rDone)))))))))
noncomputable def k47 : Code := codeIn Tryz.f47
theorem h47 : (cCode Tryz.prog m47 k47).map den = some e47 := by kernel_rfl
noncomputable def fn47 : AFunc := { real := true, nslots := 13, params := [(some 0), (some 1)], results := [], assign := sNone, body := e47 }
/- bonsai/gram.Names -/
noncomputable def m48 : Meta := { slots := [(0, false), (1, true), (2, false), (3, false), (5, true), (7, false), (8, false), (9, false), (10, false)], globals := gl, lid := 2314, n := 20, ext := ext }
noncomputable def e48 : CodeF := (sSeq (sRegion (rOp (oBoxP 1 (.slot 0)) (rOpS 2 (oMov (.const .nils)) rDone)))
 (sSeq (sRegion (rOpS 3 (oMov (.const .nils)) rDone))
 (sSeq (sSeq (sRegion (rOp (oFldP 1 0 (.const (.fp 0))) (rOpS 5 (oLoadP 1 1 false (.env 0)) (rOpS 6 (oLen .sl (.env 0)) (rOpS 7 (oMov (.const (.int .i64 0))) rDone)))))
 (sBlock 0 (sLoop (sSeq (sRegion (rOpS 8 (oBin .lss (.slot 7) (.slot 6)) rDone))
 (sSeq (sCond (.slot 8) sSkip (sExit (.exit 0)))
 (sSeq (sBlock 1 (sSeq (sRegion (rOp (oIdxS 3 (.slot 5) (.slot 7)) (rOp (oLoad 3 true (.env 0)) (rOp (oAllocP 4 [(.str []), .nils, (.int .i64 0)]) (rOp (oStoreP 4 3 (.env 0) (.env 1)) rDone)))))
 (sRegion (rOp (oMov (.slot 3)) (rOp (oFldP 4 0 (.const (.fp 0))) (rOp (oLoadP 4 1 false (.env 0)) (rOp (oBslice 9 1 1 [(.str [])] [(0, 1, (.env 0))]) (rOp (oAppend 9 1 16 (.env 3) (.env 0)) (rOpS 3 (oMov (.env 0)) rDone)))))))))
 (sRegion (rOp (oBin .add (.slot 7) (.const (.int .i64 1))) (rOpS 7 (oMov (.env 0)) rDone)))))))))
 (sSeq (sRegion (rOp (oMov (.slot 3)) (rOpS 2 (oMov (.env 0)) rDone)))
 (sExit .ret)))))
noncomputable def k48 : Code := codeIn Tryz.f48
theorem h48 : (cCode Tryz.prog m48 k48).map den = some e48 := by kernel_rfl
noncomputable def fn48 : AFunc := { real := true, nslots := 9, params := [(some 0)], results := [.slot 2], assign := sNone, body := e48 }
/- (*bonsai/table.Table).row -/
noncomputable def m49 : Meta := { slots := [(0, false), (1, false), (3, false), (4, false), (5, false), (6, false), (8, false), (9, false), (10, false), (24, false), (25, false), (26, false), (36, false)], globals := gl, lid := 2335, n := 45, ext := ext }
noncomputable def e49 : CodeF := (sSeq (sRegion (rOpS 2 (oBox 30 (.slot 1)) (rOpS 3 (oMov (.const .nils)) rDone)))
 (sSeq (sRegion (rOp (oMov (.slot 0)) (rOp (oNilc (.env 0)) (rOp (oFld 3 (.env 0)) (rOp (oLoad 1 false (.env 0)) (rOp (oLen .sl (.env 0)) (rOp (oMkslice 3 1 8 [(.int .i64 0)] (.const (.int .i64 0)) (.env 0)) (rOpS 4 (oAlloc 65 [.nils]) (rOp (oStore 1 (.env 0) (.env 1)) rDone)))))))))
 (sSeq (sRegion (rOp (oMov (.slot 0)) (rOp (oNilc (.env 0)) (rOp (oFld 3 (.env 0)) (rOp (oLoad 1 false (.env 0)) (rOp (oLen .sl (.env 0)) (rOpS 5 (oAlloc 3 [(.int .i64 0)]) (rOp (oStore 1 (.env 0) (.env 1)) rDone))))))))
 (sSeq (sSeq (sRegion (rOp (oFld 0 (.slot 2)) (rOp (oLoad 1 false (.env 0)) (rOpS 9 (oCall 70 [(.env 0)]) rDone))))
 (sBlock 0 (sRangeFunc (.slot 9) [10, 11] 2359)))
 (sSeq (sRegion (rOp (oLoad 1 false (.slot 4)) (rOpS 3 (oMov (.env 0)) rDone)))
 (sExit .ret))))))
noncomputable def k49 : Code := codeIn Tryz.f49
theorem h49 : (cCode Tryz.prog m49 k49).map den = some e49 := by kernel_rfl
noncomputable def fn49 : AFunc := { real := true, nslots := 13, params := [(some 0), (some 1)], results := [.slot 3], assign := sNone, body := e49 }
noncomputable def a2359 : CodeF := (sRegion (rOpS 6 (oAlloc 100 [(.str []), .nils, (.int .i64 0)]) (rOp (oStore 3 (.env 0) (.slot 11)) rDone)))
noncomputable def b2359 : CodeF := (sBlock 1 (sSeq (sRegion (rOp (oLoad 1 false (.slot 5)) (rOp (oFld 1 (.slot 6)) (rOp (oFld 0 (.env 0)) (rOp (oLoad 1 false (.env 0)) (rOp (oLen .sl (.env 0)) (rOp (oBin .sub (.env 4) (.env 0)) (rOpS 7 (oMov (.env 0)) rDone))))))))
 (sSeq (sSeq (sRegion (rOp (oMov (.slot 7)) (rOpS 8 (oMov (.env 0)) rDone)))
 (sBlock 2 (sLoop (sSeq (sSeq (sRegion (rOp (oMov (.slot 8)) (rOp (oLoad 1 false (.slot 5)) (rOpS 12 (oBin .lss (.env 1) (.env 0)) rDone))))
 (sCond (.slot 12) sSkip (sExit (.exit 2))))
 (sSeq (sBlock 3 (sRegion (rOp (oLoad 1 false (.slot 4)) (rOp (oMov (.slot 8)) (rOp (oBslice 3 1 1 [(.int .i64 0)] [(0, 1, (.env 0))]) (rOp (oAppend 3 1 8 (.env 2) (.env 0)) (rOp (oStore 1 (.slot 4) (.env 0)) rDone)))))))
 (sRegion (rOp (oMov (.slot 8)) (rOp (oBin .add (.env 0) (.const (.int .i64 1))) (rOpS 8 (oMov (.env 0)) rDone)))))))))
 (sRegion (rOp (oMov (.slot 7)) (rOp (oStore 1 (.slot 5) (.env 0)) rDone))))))
noncomputable def fn2359 : AFunc := { real := false, nslots := 0, params := [], results := [], assign := a2359, body := b2359 }
theorem lp49 : (loopsOf Tryz.prog m49 k49).map (List.map fun x => (x.1, den x.2.1, den x.2.2)) = some [(2359, a2359, b2359)] := by kernel_rfl
/- bonsai/tree.Right -/
noncomputable def m53 : Meta := { slots := [(0, false), (1, true), (2, false), (3, false), (4, false), (5, true), (7, false), (8, false), (9, false), (20, false), (26, false), (27, false), (28, false), (29, false), (38, false), (40, false), (41, false), (42, false), (43, false), (58, false), (64, false), (65, false), (66, false), (67, false), (76, false)], globals := gl, lid := 2470, n := 78, ext := ext }
noncomputable def e53 : CodeF := (sSeq (sRegion (rOp (oBoxP 1 (.slot 0)) (rOpS 2 (oMov (.const (.bool false))) rDone)))
 (sSeq (sSeq (sRegion (rOp (oFldP 1 1 (.const (.fp 0))) (rOp (oLoadP 1 1 false (.env 0)) (rOp (oBin .lss (.env 0) (.const (.int .i64 0))) (rOp (oMov (.env 0)) (rOpG 0 false (oFldP 1 1 (.const (.fp 0))) (rOpG 1 false (oLoadP 1 1 false (.env 0)) (rOpG 2 false (oFldP 1 0 (.const (.fp 0))) (rOpG 3 false (oLoadP 1 1 false (.env 0)) (rOpG 4 false (oLen .sl (.env 0)) (rOpG 5 false (oBin .geq (.env 3) (.env 0)) (rOpS 9 (oPick (.env 6) (.const (.bool true)) (.env 0)) rDone))))))))))))
 (sCond (.slot 9) (sSeq (sRegion (rOpS 2 (oMov (.const (.bool false))) rDone))
 (sExit .ret)) sSkip))
 (sSeq (sRegion (rOp (oFldP 1 0 (.const (.fp 0))) (rOp (oLoadP 1 1 false (.env 0)) (rOp (oLen .sl (.env 0)) (rOp (oMkslice 4 1 1 [(.bool false)] (.env 0) (.env 0)) (rOpS 3 (oMov (.env 0)) rDone))))))
 (sSeq (sSeq (sRegion (rOp (oFldP 1 0 (.const (.fp 0))) (rOpS 10 (oLoadP 1 1 false (.env 0)) (rOpS 11 (oLen .sl (.env 0)) (rOpS 12 (oMov (.const (.int .i64 0))) rDone)))))
 (sBlock 0 (sLoop (sSeq (sRegion (rOpS 13 (oBin .lss (.slot 12) (.slot 11)) rDone))
 (sSeq (sCond (.slot 13) sSkip (sExit (.exit 0)))
 (sSeq (sBlock 1 (sSeq (sRegion (rOp (oMov (.slot 12)) (rOp (oIdxS 9 (.slot 10) (.slot 12)) (rOp (oLoad 9 true (.env 0)) (rOp (oAllocP 5 [(.int .u8 0), (.int .u64 0), (.int .u64 0), (.int .u64 0), (.int .u64 0), (.str []), (.int .i64 0), (.int .i64 0), .nils]) (rOpS 4 (oMov (.env 3)) (rOp (oStoreP 5 9 (.env 1) (.env 2)) rDone)))))))
 (sSeq (sSeq (sRegion (rOp (oLoadP 5 9 true (.const (.fp 0))) (rOp (oFldP 5 8 (.const (.fp 0))) (rOp (oLoadP 5 1 false (.env 0)) (rOp (oLen .sl (.env 0)) (rOp (oCall 73 [(.env 3), (.env 0)]) (rOpS 14 (oUn .not (.env 0)) rDone)))))))
 (sCond (.slot 14) (sSeq (sRegion (rOpS 2 (oMov (.const (.bool false))) rDone))
 (sExit .ret)) sSkip))
 (sSeq (sRegion (rOp (oFldP 5 8 (.const (.fp 0))) (rOpS 15 (oLoadP 5 1 false (.env 0)) (rOpS 16 (oLen .sl (.env 0)) (rOpS 17 (oMov (.const (.int .i64 0))) rDone)))))
 (sBlock 2 (sLoop (sSeq (sRegion (rOpS 18 (oBin .lss (.slot 17) (.slot 16)) rDone))
 (sSeq (sCond (.slot 18) sSkip (sExit (.exit 2)))
 (sSeq (sBlock 3 (sSeq (sRegion (rOp (oIdxS 1 (.slot 15) (.slot 17)) (rOp (oLoad 1 false (.env 0)) (rOpS 6 (oMov (.env 0)) rDone))))
 (sSeq (sSeq (sRegion (rOp (oMov (.slot 6)) (rOp (oBin .lss (.env 0) (.const (.int .i64 0))) (rOp (oMov (.env 0)) (rOpG 0 false (oMov (.slot 6)) (rOpG 1 false (oMov (.slot 4)) (rOpG 2 false (oBin .geq (.env 1) (.env 0)) (rOp (oPick (.env 3) (.const (.bool true)) (.env 0)) (rOp (oMov (.env 0)) (rOpG 0 false (oMov (.slot 3)) (rOpG 1 false (oMov (.slot 6)) (rOpG 2 false (oIdxS 1 (.env 1) (.env 0)) (rOpG 3 false (oLoad 1 false (.env 0)) (rOpS 19 (oPick (.env 4) (.const (.bool true)) (.env 0)) rDone))))))))))))))
 (sCond (.slot 19) (sSeq (sRegion (rOpS 2 (oMov (.const (.bool false))) rDone))
 (sExit .ret)) sSkip))
 (sRegion (rOp (oMov (.slot 3)) (rOp (oMov (.slot 6)) (rOp (oIdxS 1 (.env 1) (.env 0)) (rOp (oStore 1 (.env 0) (.const (.bool true))) rDone))))))))
 (sRegion (rOp (oBin .add (.slot 17) (.const (.int .i64 1))) (rOpS 17 (oMov (.env 0)) rDone))))))))))))
 (sRegion (rOp (oBin .add (.slot 12) (.const (.int .i64 1))) (rOpS 12 (oMov (.env 0)) rDone)))))))))
 (sSeq (sSeq (sRegion (rOpS 20 (oMov (.slot 3)) (rOpS 21 (oLen .sl (.env 0)) (rOpS 22 (oMov (.const (.int .i64 0))) rDone))))
 (sBlock 4 (sLoop (sSeq (sRegion (rOpS 23 (oBin .lss (.slot 22) (.slot 21)) rDone))
 (sSeq (sCond (.slot 23) sSkip (sExit (.exit 4)))
 (sSeq (sBlock 5 (sSeq (sRegion (rOp (oMov (.slot 22)) (rOp (oIdxS 1 (.slot 20) (.slot 22)) (rOp (oLoad 1 false (.env 0)) (rOpS 7 (oMov (.env 2)) (rOpS 8 (oMov (.env 1)) rDone))))))
 (sSeq (sRegion (rOp (oMov (.slot 8)) (rOp (oMov (.slot 7)) (rOp (oFldP 1 1 (.const (.fp 0))) (rOp (oLoadP 1 1 false (.env 0)) (rOp (oBin .eql (.env 2) (.env 0)) (rOpS 24 (oEqv false .bool (.env 4) (.env 0)) rDone)))))))
 (sCond (.slot 24) (sSeq (sRegion (rOpS 2 (oMov (.const (.bool false))) rDone))
 (sExit .ret)) sSkip))))
 (sRegion (rOp (oBin .add (.slot 22) (.const (.int .i64 1))) (rOpS 22 (oMov (.env 0)) rDone)))))))))
 (sSeq (sRegion (rOpS 2 (oMov (.const (.bool true))) rDone))
 (sExit .ret)))))))
noncomputable def k53 : Code := codeIn Tryz.f53
theorem h53 : (cCode Tryz.prog m53 k53).map den = some e53 := by kernel_rfl
noncomputable def fn53 : AFunc := { real := true, nslots := 25, params := [(some 0)], results := [.slot 2], assign := sNone, body := e53 }
/- bonsai/tree.Depth -/
noncomputable def m54 : Meta := { slots := [(0, false), (1, true), (2, false), (3, false), (4, false), (5, true), (7, false), (10, false), (16, false), (17, false), (18, false), (19, false), (24, false), (25, false), (26, false), (27, false)], globals := gl, lid := 2549, n := 55, ext := ext }
noncomputable def e54 : CodeF := (sSeq (sRegion (rOp (oBoxP 1 (.slot 0)) (rOpS 2 (oMov (.const (.int .i64 0))) rDone)))
 (sSeq (sSeq (sRegion (rOp (oLoadP 1 2 true (.const (.fp 0))) (rOp (oCall 53 [(.env 0)]) (rOpS 7 (oUn .not (.env 0)) rDone))))
 (sCond (.slot 7) (sSeq (sRegion (rOpS 2 (oMov (.const (.int .i64 0))) rDone))
 (sExit .ret)) sSkip))
 (sSeq (sRegion (rOp (oFldP 1 0 (.const (.fp 0))) (rOp (oLoadP 1 1 false (.env 0)) (rOp (oLen .sl (.env 0)) (rOp (oMkslice 3 1 8 [(.int .i64 0)] (.env 0) (.env 0)) (rOpS 3 (oMov (.env 0)) rDone))))))
 (sSeq (sSeq (sRegion (rOp (oFldP 1 0 (.const (.fp 0))) (rOpS 8 (oLoadP 1 1 false (.env 0)) (rOpS 9 (oLen .sl (.env 0)) (rOpS 10 (oMov (.const (.int .i64 0))) rDone)))))
 (sBlock 0 (sLoop (sSeq (sRegion (rOpS 11 (oBin .lss (.slot 10) (.slot 9)) rDone))
 (sSeq (sCond (.slot 11) sSkip (sExit (.exit 0)))
 (sSeq (sBlock 1 (sSeq (sRegion (rOp (oMov (.slot 10)) (rOp (oIdxS 9 (.slot 8) (.slot 10)) (rOp (oLoad 9 true (.env 0)) (rOp (oAllocP 5 [(.int .u8 0), (.int .u64 0), (.int .u64 0), (.int .u64 0), (.int .u64 0), (.str []), (.int .i64 0), (.int .i64 0), .nils]) (rOpS 4 (oMov (.env 3)) (rOp (oStoreP 5 9 (.env 1) (.env 2)) rDone)))))))
 (sSeq (sSeq (sRegion (rOp (oFldP 5 8 (.const (.fp 0))) (rOpS 12 (oLoadP 5 1 false (.env 0)) (rOpS 13 (oLen .sl (.env 0)) (rOpS 14 (oMov (.const (.int .i64 0))) rDone)))))
 (sBlock 2 (sLoop (sSeq (sRegion (rOpS 15 (oBin .lss (.slot 14) (.slot 13)) rDone))
 (sSeq (sCond (.slot 15) sSkip (sExit (.exit 2)))
 (sSeq (sBlock 3 (sSeq (sRegion (rOp (oIdxS 1 (.slot 12) (.slot 14)) (rOp (oLoad 1 false (.env 0)) (rOpS 6 (oMov (.env 0)) rDone))))
 (sRegionD (dOp (oMov (.slot 3)) false (dOp (oMov (.slot 4)) false (dOp (oMov (.slot 3)) false (dOp (oMov (.slot 4)) false (dOp (oIdxS 1 (.env 1) (.env 0)) false (dOp (oLoad 1 false (.env 0)) false (dOp (oMov (.slot 3)) false (dOp (oMov (.slot 6)) false (dOp (oIdxS 1 (.env 1) (.env 0)) false (dOp (oLoad 1 false (.env 0)) false (dOp (oMinmax true [(.env 4), (.env 0)]) false (dOp (oIdxS 1 (.env 10) (.env 9)) false (dOp (oStore 1 (.env 0) (.env 1)) true dDone))))))))))))) [] [])))
 (sRegion (rOp (oBin .add (.slot 14) (.const (.int .i64 1))) (rOpS 14 (oMov (.env 0)) rDone)))))))))
 (sRegion (rOp (oMov (.slot 3)) (rOp (oMov (.slot 4)) (rOp (oIdxS 1 (.env 1) (.env 0)) (rOp (oLoad 1 false (.env 0)) (rOp (oBin .add (.env 0) (.const (.int .i64 1))) (rOp (oIdxS 1 (.env 4) (.env 3)) (rOp (oStore 1 (.env 0) (.env 1)) rDone)))))))))))
 (sRegion (rOp (oBin .add (.slot 10) (.const (.int .i64 1))) (rOpS 10 (oMov (.env 0)) rDone)))))))))
 (sSeq (sRegion (rOp (oMov (.slot 3)) (rOp (oFldP 1 1 (.const (.fp 0))) (rOp (oLoadP 1 1 false (.env 0)) (rOp (oIdxS 1 (.env 2) (.env 0)) (rOp (oLoad 1 false (.env 0)) (rOpS 2 (oMov (.env 0)) rDone)))))))
 (sExit .ret))))))
noncomputable def k54 : Code := codeIn Tryz.f54
theorem h54 : (cCode Tryz.prog m54 k54).map den = some e54 := by kernel_rfl
noncomputable def fn54 : AFunc := { real := true, nslots := 16, params := [(some 0)], results := [.slot 2], assign := sNone, body := e54 }
/- slices.Index[[]string,string] -/
noncomputable def m55 : Meta := { slots := [(0, false), (1, false), (4, false), (5, false), (7, false), (8, false), (9, false), (16, false)], globals := gl, lid := 2605, n := 19, ext := ext }
noncomputable def e55 : CodeF := (sSeq (sRegion (rOpS 2 (oMov (.const (.int .i64 0))) rDone))
 (sSeq (sSeq (sRegion (rOp (oMov (.slot 0)) (rOpS 4 (oLen .sl (.env 0)) (rOpS 5 (oMov (.const (.int .i64 0))) rDone))))
 (sBlock 0 (sLoop (sSeq (sRegion (rOpS 6 (oBin .lss (.slot 5) (.slot 4)) rDone))
 (sSeq (sCond (.slot 6) sSkip (sExit (.exit 0)))
 (sSeq (sBlock 1 (sSeq (sRegion (rOp (oMov (.slot 5)) (rOpS 3 (oMov (.env 0)) rDone)))
 (sSeq (sRegion (rOp (oMov (.slot 1)) (rOp (oMov (.slot 0)) (rOp (oMov (.slot 3)) (rOp (oIdxS 1 (.env 1) (.env 0)) (rOp (oLoad 1 false (.env 0)) (rOpS 7 (oBin .eql (.env 4) (.env 0)) rDone)))))))
 (sCond (.slot 7) (sSeq (sRegion (rOp (oMov (.slot 3)) (rOpS 2 (oMov (.env 0)) rDone)))
 (sExit .ret)) sSkip))))
 (sRegion (rOp (oBin .add (.slot 5) (.const (.int .i64 1))) (rOpS 5 (oMov (.env 0)) rDone)))))))))
 (sSeq (sRegion (rOpS 2 (oMov (.const (.int .i64 (-1)))) rDone))
 (sExit .ret))))
noncomputable def k55 : Code := codeIn Tryz.f55
theorem h55 : (cCode Tryz.prog m55 k55).map den = some e55 := by kernel_rfl
noncomputable def fn55 : AFunc := { real := true, nslots := 8, params := [(some 0), (some 1)], results := [.slot 2], assign := sNone, body := e55 }
/- bonsai/table.outcomes -/
noncomputable def m56 : Meta := { slots := [(0, true)], globals := gl, lid := 2625, n := 2, ext := ext }
noncomputable def e56 : CodeF := (sSeq (sRegion (rOp (oAllocP 0 [.nilf, .nilf, .nilf, .nilf, .nilf, .nilf, .nilf, .nilf, .nilf, .nilf]) rDone))
 (sSeq (sRegion (rOp (oBuild [.nilf, .nilf, .nilf, .nilf, .nilf, .nilf, .nilf, .nilf, .nilf, .nilf] [(0, 1, (.const (.fn 74 [] []))), (1, 1, (.const (.fn 75 [] []))), (2, 1, (.const (.fn 76 [] []))), (3, 1, (.const (.fn 77 [] []))), (4, 1, (.const (.fn 78 [] []))), (5, 1, (.const (.fn 79 [] []))), (6, 1, (.const (.fn 80 [] []))), (7, 1, (.const (.fn 81 [] []))), (8, 1, (.const (.fn 82 [] []))), (9, 1, (.const (.fn 83 [] [])))]) (rOp (oStoreP 0 10 (.const (.fp 0)) (.env 0)) rDone)))
 (sExit .ret)))
noncomputable def k56 : Code := codeIn Tryz.f56
theorem h56 : (cCode Tryz.prog m56 k56).map den = some e56 := by kernel_rfl
noncomputable def fn56 : AFunc := { real := true, nslots := 1, params := [], results := [.cellP 0 10 true], assign := sNone, body := e56 }
/- (*bonsai/table.Table).sweep -/
noncomputable def m57 : Meta := { slots := [(0, false), (1, false), (2, false), (3, false), (4, false), (6, true), (10, false), (11, false), (12, false), (14, false), (15, false), (20, false), (21, false), (22, false), (23, false), (42, false), (71, false)], globals := gl, lid := 2628, n := 75, ext := ext }
noncomputable def e57 : CodeF := (sSeq (sRegion (rOp (oBoxP 5 (.slot 1)) (rOpS 6 (oMov (.const .nils)) rDone)))
 (sBlock 0 (sLoop (sBlock 1 (sSeq (sRegion (rOp (oMov (.slot 3)) (rOp (oLen .sl (.env 0)) (rOpS 7 (oMov (.env 0)) rDone))))
 (sSeq (sRegion (rOp (oMov (.slot 2)) (rOp (oSlice false 1 (.env 0) none (some (.const (.int .i64 0))) none) (rOpS 8 (oMov (.env 0)) rDone))))
 (sSeq (sSeq (sRegion (rOpS 11 (oMov (.slot 2)) (rOpS 12 (oLen .sl (.env 0)) (rOpS 13 (oMov (.const (.int .i64 0))) rDone))))
 (sBlock 2 (sLoop (sSeq (sRegion (rOpS 14 (oBin .lss (.slot 13) (.slot 12)) rDone))
 (sSeq (sCond (.slot 14) sSkip (sExit (.exit 2)))
 (sSeq (sBlock 3 (sSeq (sRegion (rOp (oIdxS 1 (.slot 11) (.slot 13)) (rOp (oLoad 1 false (.env 0)) (rOpS 9 (oMov (.env 0)) rDone))))
 (sSeq (sRegion (rOp (oMov (.slot 0)) (rOp (oNilc (.env 0)) (rOp (oFld 3 (.env 0)) (rOp (oLoad 1 false (.env 0)) (rOp (oMov (.slot 9)) (rOp (oIdxS 9 (.env 1) (.env 0)) (rOp (oFld 0 (.env 0)) (rOp (oLoad 1 false (.env 0)) (rOp (oIdxPP 5 10 1 (.const (.fp 0)) (.env 0)) (rOp (oLoadP 5 1 false (.env 0)) (rOp (oMov (.slot 0)) (rOp (oMov (.slot 9)) (rOp (oMov (.slot 4)) (rOp (oCallv (.env 3) [(.env 2), (.env 1), (.env 0)]) (rOpS 10 (oAlloc 76 [(.int .i64 0), (.int .i32 0), (.int .u8 0), (.int .u8 0)]) (rOp (oStore 4 (.env 0) (.env 1)) rDone)))))))))))))))))
 (sSeq (sSeq (sRegion (rOp (oFld 2 (.slot 10)) (rOp (oLoad 1 false (.env 0)) (rOpS 15 (oBin .eql (.env 0) (.const (.int .u8 0))) rDone))))
 (sCond (.slot 15) (sSeq (sRegion (rOp (oMov (.slot 8)) (rOp (oMov (.slot 9)) (rOp (oBslice 3 1 1 [(.int .i64 0)] [(0, 1, (.env 0))]) (rOp (oAppend 3 1 8 (.env 2) (.env 0)) (rOpS 8 (oMov (.env 0)) rDone))))))
 (sExit (.exit 3))) sSkip))
 (sSeq (sRegionD (dOp (oMov (.slot 0)) false (dOp (oNilc (.env 0)) false (dOp (oFld 4 (.env 0)) false (dOp (oLoad 1 false (.env 0)) false (dOp (oMov (.slot 9)) false (dOp (oIdxS 1 (.env 1) (.env 0)) false (dOp (oLoad 1 false (.env 0)) false (dOp (oMov (.slot 4)) false (dOp (oLoad 4 true (.slot 10)) false (dOp (oIdxS 4 (.env 2) (.env 1)) false (dOp (oStore 4 (.env 0) (.env 1)) true dDone))))))))))) [] [])
 (sRegion (rOp (oMov (.slot 3)) (rOp (oMov (.slot 9)) (rOp (oBslice 3 1 1 [(.int .i64 0)] [(0, 1, (.env 0))]) (rOp (oAppend 3 1 8 (.env 2) (.env 0)) (rOpS 3 (oMov (.env 0)) rDone)))))))))))
 (sRegion (rOp (oBin .add (.slot 13) (.const (.int .i64 1))) (rOpS 13 (oMov (.env 0)) rDone)))))))))
 (sSeq (sRegion (rOp (oMov (.slot 8)) (rOpS 2 (oMov (.env 0)) rDone)))
 (sSeq (sRegion (rOp (oMov (.slot 2)) (rOp (oLen .sl (.env 0)) (rOp (oBin .eql (.env 0) (.const (.int .i64 0))) (rOp (oMov (.env 0)) (rOpG 0 false (oMov (.slot 3)) (rOpG 1 false (oLen .sl (.env 0)) (rOpG 2 false (oMov (.slot 7)) (rOpG 3 false (oBin .eql (.env 1) (.env 0)) (rOpS 16 (oPick (.env 4) (.const (.bool true)) (.env 0)) rDone))))))))))
 (sCond (.slot 16) (sSeq (sRegion (rOp (oMov (.slot 3)) (rOp (oMov (.slot 2)) (rOp (oAppend 3 1 8 (.env 1) (.env 0)) (rOpS 6 (oMov (.env 0)) rDone)))))
 (sExit .ret)) sSkip))))))))))
noncomputable def k57 : Code := codeIn Tryz.f57
theorem h57 : (cCode Tryz.prog m57 k57).map den = some e57 := by kernel_rfl
noncomputable def fn57 : AFunc := { real := true, nslots := 17, params := [(some 0), (some 1), (some 2), (some 3), (some 4)], results := [.slot 6], assign := sNone, body := e57 }
/- bonsai/parse.begun -/
noncomputable def m58 : Meta := { slots := [(0, false), (2, false), (3, false), (4, false), (5, false), (6, false), (13, false), (14, false), (18, false)], globals := gl, lid := 2704, n := 33, ext := ext }
noncomputable def e58 : CodeF := (sSeq (sRegion (rOpS 1 (oMov (.const .nilp)) (rOpS 2 (oMov (.const (.int .i64 0))) rDone)))
 (sSeq (sRegion (rOp (oMov (.slot 0)) (rOp (oCall 84 [(.env 0)]) (rOp (oMov (.env 0)) (rOp (oExt (.env 0) 0) (rOp (oExt (.env 1) 1) (rOp (oExt (.env 2) 2) (rOpS 3 (oMov (.env 2)) (rOpS 4 (oMov (.env 2)) (rOpS 5 (oMov (.env 2)) rDone))))))))))
 (sSeq (sSeq (sRegion (rOpS 6 (oMov (.slot 5)) rDone))
 (sBlock 0 (sSeq (sRegion (rOp (oBin .eql (.slot 6) (.const (.int .i64 0))) (rOpS 7 (oMov (.env 0)) rDone)))
 (sCond (.slot 7) (sRegion (rOp (oMov (.slot 0)) (rOp (oLen .str (.env 0)) (rOpS 4 (oMov (.env 0)) rDone)))) (sSeq (sRegion (rOp (oBin .eql (.slot 6) (.const (.int .i64 4))) (rOpS 8 (oMov (.env 0)) rDone)))
 (sCond (.slot 8) (sRegion (rOp (oMov (.slot 0)) (rOp (oMov (.slot 4)) (rOp (oSlice true 0 (.env 1) none (some (.env 0)) none) (rOp (oCall 84 [(.env 0)]) (rOp (oMov (.env 0)) (rOp (oExt (.env 0) 0) (rOp (oExt (.env 1) 1) (rOp (oExt (.env 2) 2) (rOpS 3 (oMov (.env 2)) rDone)))))))))) sSkip))))))
 (sSeq (sRegion (rOp (oMov (.slot 3)) (rOp (oMov (.slot 4)) (rOp (oBuild [.nils, (.int .i64 0), (.int .i64 0), .nils, .nils, .nils, .nils, .nils] [(0, 1, (.env 1)), (1, 1, (.env 0))]) (rOp (oBox 98 (.env 0)) (rOp (oMov (.slot 5)) (rOpS 1 (oMov (.env 1)) (rOpS 2 (oMov (.env 1)) rDone))))))))
 (sExit .ret)))))
noncomputable def k58 : Code := codeIn Tryz.f58
theorem h58 : (cCode Tryz.prog m58 k58).map den = some e58 := by kernel_rfl
noncomputable def fn58 : AFunc := { real := true, nslots := 9, params := [(some 0)], results := [.slot 1, .slot 2], assign := sNone, body := e58 }
/- (*bonsai/parse.reader).choice -/
noncomputable def m59 : Meta := { slots := [(0, false), (2, true), (3, false), (4, true), (5, false), (6, false), (7, false), (8, false), (22, false), (42, false), (43, false), (64, false), (69, false), (76, false), (97, false), (108, false), (124, false), (130, false)], globals := gl, lid := 2738, n := 157, ext := ext }
noncomputable def e59 : CodeF := (sSeq (sRegion (rOp (oAllocP 1 [.nils, (.int .i64 0)]) (rOpS 2 (oMov (.const (.bool false))) rDone)))
 (den (.scope (.seq (.region [⟨none, .mov (.slot 0), none⟩, ⟨none, .mov (.slot 0), none⟩, ⟨none, .build [(.int .u8 0), (.str []), .nils, .nils, .nils] [], none⟩, ⟨none, .bslice 154 5 1 [(.int .u8 0), (.str []), .nils, .nils, .nils] [(0, 5, (.env 0))], none⟩, ⟨none, .nilc (.env 3), none⟩, ⟨none, .fld 3 (.env 0), none⟩, ⟨none, .store 1 (.env 0) (.const .nils), none⟩, ⟨none, .nilc (.env 5), none⟩, ⟨none, .fld 4 (.env 0), none⟩, ⟨none, .store 1 (.env 0) (.env 5), none⟩])
 (.seq (.label 0)
 (.seq (.seq (.region [⟨none, .mov (.slot 0), none⟩, ⟨none, .call 85 [(.env 0)], none⟩, ⟨none, .mov (.env 0), none⟩, ⟨none, .ext (.env 0) 0, none⟩, ⟨none, .ext (.env 1) 1, none⟩, ⟨none, .allocP 3 [(.int .u8 0), (.int .u64 0), (.int .u64 0), (.int .u64 0), (.int .u64 0), (.str []), (.int .i64 0), (.int .i64 0), .nils], none⟩, ⟨none, .storeP 3 9 (.env 0) (.env 2), none⟩, ⟨(some 4), .mov (.env 2), none⟩])
 (.seq (.region [⟨(some 8), .mov (.slot 4), none⟩])
 (.cond (.slot 8) (.seq (.region [⟨none, .mov (.slot 0), none⟩, ⟨none, .mov (.slot 0), none⟩, ⟨none, .loadP 3 9 true (.const (.fp 0)), none⟩, ⟨none, .call 87 [(.env 1), (.env 0), (.const .nils)], none⟩, ⟨none, .call 86 [(.env 3), (.env 0)], none⟩])
 (.goto 0)) .skip)))
 (.seq (.regionD [⟨.mov (.slot 0), none, false⟩, ⟨.nilc (.env 0), none, false⟩, ⟨.fld 4 (.env 0), none, false⟩, ⟨.load 1 false (.env 0), none, false⟩, ⟨.mov (.slot 0), none, false⟩, ⟨.nilc (.env 0), none, false⟩, ⟨.fld 4 (.env 0), none, false⟩, ⟨.load 1 false (.env 0), none, false⟩, ⟨.len .sl (.env 0), none, false⟩, ⟨.bin .sub (.env 0) (.const (.int .i64 1)), none, false⟩, ⟨.idxS 5 (.env 6) (.env 0), none, false⟩, ⟨.mov (.env 0), none, false⟩] [] [(5, 0)])
 (.seq (.seq (.region [⟨none, .mov (.slot 0), none⟩, ⟨none, .call 88 [(.env 0), (.const (.int .i64 0))], none⟩, ⟨none, .getf 0 1 false (.env 0), none⟩, ⟨(some 6), .mov (.env 0), none⟩])
 (.seq (.region [⟨(some 9), .mov (.slot 6), none⟩])
 (.block 0 (.seq (.seq (.region [⟨none, .bin .eql (.slot 9) (.const (.int .u8 4)), none⟩, ⟨(some 10), .mov (.env 0), none⟩])
 (.cond (.slot 10) .skip (.region [⟨none, .bin .eql (.slot 9) (.const (.int .u8 5)), none⟩, ⟨(some 10), .mov (.env 0), none⟩])))
 (.cond (.slot 10) (.seq (.regionD [⟨.mov (.slot 5), none, false⟩, ⟨.mov (.slot 5), none, false⟩, ⟨.nilc (.env 0), none, false⟩, ⟨.fld 4 (.env 0), none, false⟩, ⟨.load 1 false (.env 0), none, false⟩, ⟨.mov (.slot 6), none, false⟩, ⟨.call 89 [(.env 0)], none, true⟩, ⟨.bslice 5 1 1 [(.int .u8 0)] [(0, 1, (.env 0))], none, true⟩, ⟨.append 5 1 1 (.env 3) (.env 0), none, true⟩, ⟨.nilc (.env 8), none, false⟩, ⟨.fld 4 (.env 0), none, false⟩, ⟨.store 1 (.env 0) (.env 2), none, true⟩] [⟨7, .load 1 false (.env 0), none, [3, 2]⟩] [])
 (.seq (.region [⟨none, .mov (.slot 0), none⟩, ⟨none, .nilc (.env 0), none⟩, ⟨none, .fld 2 (.env 0), none⟩, ⟨none, .load 1 false (.env 0), none⟩, ⟨none, .bin .add (.env 0) (.const (.int .i64 1)), none⟩, ⟨none, .nilc (.env 4), none⟩, ⟨none, .fld 2 (.env 0), none⟩, ⟨none, .store 1 (.env 0) (.env 2), none⟩])
 (.goto 0))) (.seq (.seq (.region [⟨none, .bin .eql (.slot 9) (.const (.int .u8 9)), none⟩, ⟨(some 11), .mov (.env 0), none⟩])
 (.cond (.slot 11) .skip (.region [⟨none, .bin .eql (.slot 9) (.const (.int .u8 11)), none⟩, ⟨(some 11), .mov (.env 0), none⟩])))
 (.cond (.slot 11) (.seq (.seq (.region [⟨none, .mov (.slot 0), none⟩, ⟨none, .call 90 [(.env 0)], none⟩, ⟨(some 12), .un .not (.env 0), none⟩])
 (.cond (.slot 12) (.seq (.region [⟨none, .build [.nils, (.int .i64 0)] [], none⟩, ⟨none, .storeP 1 2 (.const (.fp 0)) (.env 0), none⟩, ⟨(some 2), .mov (.const (.bool false)), none⟩])
 .ret) .skip))
 (.goto 0)) .skip)))))))
 (.seq (.seq (.region [⟨none, .mov (.slot 5), none⟩, ⟨none, .nilc (.env 0), none⟩, ⟨none, .fld 4 (.env 0), none⟩, ⟨none, .load 1 false (.env 0), none⟩, ⟨none, .len .sl (.env 0), none⟩, ⟨(some 13), .bin .gtr (.env 0) (.const (.int .i64 0)), none⟩])
 (.cond (.slot 13) (.seq (.region [⟨none, .build [.nils, (.int .i64 0)] [], none⟩, ⟨none, .storeP 1 2 (.const (.fp 0)) (.env 0), none⟩, ⟨(some 2), .mov (.const (.bool false)), none⟩])
 .ret) .skip))
 (.seq (.regionD [⟨.mov (.slot 5), none, false⟩, ⟨.mov (.slot 5), none, false⟩, ⟨.nilc (.env 0), none, false⟩, ⟨.fld 2 (.env 0), none, false⟩, ⟨.load 1 false (.env 0), none, false⟩, ⟨.mov (.slot 0), none, false⟩, ⟨.mov (.slot 5), none, false⟩, ⟨.nilc (.env 0), none, false⟩, ⟨.fld 3 (.env 0), none, false⟩, ⟨.load 1 false (.env 0), none, false⟩, ⟨.call 91 [(.env 4), (.const (.int .u8 4)), (.env 0)], none, true⟩, ⟨.bslice 3 1 1 [(.int .i64 0)] [(0, 1, (.env 0))], none, true⟩, ⟨.append 3 1 8 (.env 7) (.env 0), none, true⟩, ⟨.nilc (.env 12), none, false⟩, ⟨.fld 2 (.env 0), none, false⟩, ⟨.store 1 (.env 0) (.env 2), none, true⟩] [⟨11, .load 1 false (.env 0), none, [3, 2]⟩] [])
 (.seq (.region [⟨none, .mov (.slot 5), none⟩, ⟨none, .nilc (.env 0), none⟩, ⟨none, .fld 3 (.env 0), none⟩, ⟨none, .store 1 (.env 0) (.const .nils), none⟩])
 (.seq (.seq (.region [⟨none, .mov (.slot 0), none⟩, ⟨(some 14), .call 92 [(.env 0), (.const (.int .u8 3))], none⟩])
 (.cond (.slot 14) (.goto 0) .skip))
 (.seq (.region [⟨none, .mov (.slot 0), none⟩, ⟨none, .mov (.slot 5), none⟩, ⟨none, .nilc (.env 0), none⟩, ⟨none, .fld 2 (.env 0), none⟩, ⟨none, .load 1 false (.env 0), none⟩, ⟨none, .call 91 [(.env 4), (.const (.int .u8 5)), (.env 0)], none⟩, ⟨(some 7), .mov (.env 0), none⟩])
 (.seq (.seq (.region [⟨none, .mov (.slot 5), none⟩, ⟨none, .nilc (.env 0), none⟩, ⟨none, .fld 0 (.env 0), none⟩, ⟨none, .load 1 false (.env 0), none⟩, ⟨(some 15), .bin .eql (.env 0) (.const (.int .u8 0)), none⟩])
 (.cond (.slot 15) (.seq (.region [⟨none, .mov (.slot 0), none⟩, ⟨none, .nilc (.env 0), none⟩, ⟨none, .fld 3 (.env 0), none⟩, ⟨none, .load 1 false (.env 0), none⟩, ⟨none, .mov (.slot 7), none⟩, ⟨none, .build [.nils, (.int .i64 0)] [(0, 1, (.env 1)), (1, 1, (.env 0))], none⟩, ⟨none, .call 93 [(.env 0)], none⟩, ⟨none, .ext (.env 0) 0, none⟩, ⟨none, .ext (.env 1) 1, none⟩, ⟨none, .storeP 1 2 (.const (.fp 0)) (.env 1), none⟩, ⟨(some 2), .mov (.env 1), none⟩])
 .ret) .skip))
 (.seq (.seq (.region [⟨none, .mov (.slot 0), none⟩, ⟨none, .mov (.slot 5), none⟩, ⟨none, .nilc (.env 0), none⟩, ⟨none, .fld 0 (.env 0), none⟩, ⟨none, .load 1 false (.env 0), none⟩, ⟨none, .call 92 [(.env 4), (.env 0)], none⟩, ⟨(some 16), .un .not (.env 0), none⟩])
 (.cond (.slot 16) (.seq (.region [⟨none, .build [.nils, (.int .i64 0)] [], none⟩, ⟨none, .storeP 1 2 (.const (.fp 0)) (.env 0), none⟩, ⟨(some 2), .mov (.const (.bool false)), none⟩])
 .ret) .skip))
 (.seq (.seq (.region [⟨none, .mov (.slot 5), none⟩, ⟨none, .nilc (.env 0), none⟩, ⟨none, .fld 0 (.env 0), none⟩, ⟨none, .load 1 false (.env 0), none⟩, ⟨(some 17), .bin .eql (.env 0) (.const (.int .u8 12)), none⟩])
 (.cond (.slot 17) (.region [⟨none, .mov (.slot 0), none⟩, ⟨none, .mov (.slot 5), none⟩, ⟨none, .nilc (.env 0), none⟩, ⟨none, .fld 1 (.env 0), none⟩, ⟨none, .load 1 false (.env 0), none⟩, ⟨none, .build [(.int .u8 0), (.int .u64 0), (.int .u64 0), (.int .u64 0), (.int .u64 0), (.str []), (.int .i64 0), (.int .i64 0), .nils] [(0, 1, (.const (.int .u8 9))), (5, 1, (.env 0))], none⟩, ⟨none, .mov (.slot 7), none⟩, ⟨none, .bslice 3 1 1 [(.int .i64 0)] [(0, 1, (.env 0))], none⟩, ⟨none, .call 87 [(.env 7), (.env 2), (.env 0)], none⟩, ⟨(some 7), .mov (.env 0), none⟩]) .skip))
 (.seq (.regionD [⟨.mov (.slot 0), none, false⟩, ⟨.mov (.slot 0), none, false⟩, ⟨.nilc (.env 0), none, false⟩, ⟨.fld 4 (.env 0), none, false⟩, ⟨.load 1 false (.env 0), none, false⟩, ⟨.mov (.slot 0), none, false⟩, ⟨.nilc (.env 0), none, false⟩, ⟨.fld 4 (.env 0), none, false⟩, ⟨.load 1 false (.env 0), none, false⟩, ⟨.len .sl (.env 0), none, false⟩, ⟨.bin .sub (.env 0) (.const (.int .i64 1)), none, false⟩, ⟨.slice false 5 (.env 6) none (some (.env 0)) none, none, false⟩, ⟨.nilc (.env 11), none, false⟩, ⟨.fld 4 (.env 0), none, false⟩, ⟨.store 1 (.env 0) (.env 2), none, true⟩] [] [])
 (.seq (.region [⟨none, .mov (.slot 0), none⟩, ⟨none, .mov (.slot 7), none⟩, ⟨none, .call 86 [(.env 1), (.env 0)], none⟩])
 (.goto 0)))))))))))))))))))
noncomputable def k59 : Code := codeIn Tryz.f59
theorem h59 : (cCode Tryz.prog m59 k59).map den = some e59 := by kernel_rfl
noncomputable def fn59 : AFunc := { real := true, nslots := 18, params := [(some 0)], results := [.cellP 1 2 true, .slot 2], assign := sNone, body := e59 }
theorem lp59 : (loopsOf Tryz.prog m59 k59).map (List.map fun x => (x.1, den x.2.1, den x.2.2)) = some [] := by kernel_rfl
/- (*bonsai/parse.reader).place -/
noncomputable def m60 : Meta := { slots := [(0, false), (2, false), (12, false)], globals := gl, lid := 2896, n := 28, ext := ext }
noncomputable def e60 : CodeF := (sSeq (sRegion (rOpS 1 (oMov (.const (.int .i64 0))) rDone))
 (sSeq (sSeq (sRegionD (dOp (oMov (.slot 0)) false (dOp (oNilc (.env 0)) false (dOp (oFld 2 (.env 0)) false (dOp (oLoad 1 false (.env 0)) false (dOp (oMov (.slot 0)) false (dOp (oNilc (.env 0)) false (dOp (oFld 0 (.env 0)) false (dOp (oLoad 1 false (.env 0)) false (dOp (oLen .sl (.env 0)) false (dOp (oBin .geq (.env 5) (.env 0)) false dDone)))))))))) [] [(2, 0)])
 (sCond (.slot 2) (sSeq (sRegion (rOp (oMov (.slot 0)) (rOp (oNilc (.env 0)) (rOp (oFld 1 (.env 0)) (rOp (oLoad 1 false (.env 0)) (rOpS 1 (oMov (.env 0)) rDone))))))
 (sExit .ret)) sSkip))
 (sSeq (sRegionD (dOp (oMov (.slot 0)) false (dOp (oNilc (.env 0)) false (dOp (oFld 0 (.env 0)) false (dOp (oLoad 1 false (.env 0)) false (dOp (oMov (.slot 0)) false (dOp (oNilc (.env 0)) false (dOp (oFld 2 (.env 0)) false (dOp (oLoad 1 false (.env 0)) false (dOp (oIdxS 10 (.env 4) (.env 0)) false (dOp (oFld 1 (.env 0)) false (dOp (oLoad 1 false (.env 0)) false (dOp (oMov (.env 0)) false dDone)))))))))))) [] [(1, 0)])
 (sExit .ret))))
noncomputable def k60 : Code := codeIn Tryz.f60
theorem h60 : (cCode Tryz.prog m60 k60).map den = some e60 := by kernel_rfl
noncomputable def fn60 : AFunc := { real := true, nslots := 3, params := [(some 0)], results := [.slot 1], assign := sNone, body := e60 }
/- (*strings.Builder).WriteString -/
noncomputable def m62 : Meta := { slots := [(0, false), (1, false), (4, false), (5, false)], globals := gl, lid := 3000, n := 19, ext := ext }
noncomputable def e62 : CodeF := (sSeq (sRegion (rOpS 2 (oMov (.const (.int .i64 0))) (rOpS 3 (oMov (.const .nilif)) rDone)))
 (sSeq (sRegion (rOp (oMov (.slot 0)) (rOp (oCall 95 [(.env 0)]) rDone)))
 (sSeq (sRegion (rOp (oMov (.slot 0)) (rOp (oMov (.slot 0)) (rOp (oNilc (.env 0)) (rOp (oFld 1 (.env 0)) (rOp (oLoad 1 false (.env 0)) (rOp (oMov (.slot 1)) (rOp (oAppend 5 1 1 (.env 1) (.env 0)) (rOp (oNilc (.env 6)) (rOp (oFld 1 (.env 0)) (rOp (oStore 1 (.env 0) (.env 2)) rDone)))))))))))
 (sSeq (sRegion (rOp (oMov (.slot 1)) (rOp (oLen .str (.env 0)) (rOpS 2 (oMov (.env 0)) (rOpS 3 (oMov (.const .nilif)) rDone)))))
 (sExit .ret)))))
noncomputable def k62 : Code := codeIn Tryz.f62
theorem h62 : (cCode Tryz.prog m62 k62).map den = some e62 := by kernel_rfl
noncomputable def fn62 : AFunc := { real := true, nslots := 4, params := [(some 0), (some 1)], results := [.slot 2, .slot 3], assign := sNone, body := e62 }
/- bonsai/name.Show -/
noncomputable def m63 : Meta := { slots := [(0, false), (2, false)], globals := gl, lid := 3020, n := 5, ext := ext }
noncomputable def e63 : CodeF := (sSeq (sRegion (rOpS 1 (oMov (.const (.str []))) rDone))
 (sSeq (sRegion (rOp (oMov (.slot 0)) (rOp (oCall 96 [(.env 0)]) (rOpS 1 (oMov (.env 0)) rDone))))
 (sExit .ret)))
noncomputable def k63 : Code := codeIn Tryz.f63
theorem h63 : (cCode Tryz.prog m63 k63).map den = some e63 := by kernel_rfl
noncomputable def fn63 : AFunc := { real := true, nslots := 2, params := [(some 0)], results := [.slot 1], assign := sNone, body := e63 }
/- (*strings.Builder).String -/
noncomputable def m64 : Meta := { slots := [(0, false), (2, false)], globals := gl, lid := 3026, n := 14, ext := ext }
noncomputable def e64 : CodeF := (sSeq (sRegion (rOpS 1 (oMov (.const (.str []))) rDone))
 (sSeq (sRegionD (dOp (oMov (.slot 0)) false (dOp (oNilc (.env 0)) false (dOp (oFld 1 (.env 0)) false (dOp (oLoad 1 false (.env 0)) false (dOp (oSliceData (.env 0)) false (dOp (oMov (.slot 0)) false (dOp (oNilc (.env 0)) false (dOp (oFld 1 (.env 0)) false (dOp (oLoad 1 false (.env 0)) false (dOp (oLen .sl (.env 0)) false (dOp (oUnsafeStr 5 (.env 5) (.env 0)) true (dOp (oMov (.env 0)) false dDone)))))))))))) [] [(1, 0)])
 (sExit .ret)))
noncomputable def k64 : Code := codeIn Tryz.f64
theorem h64 : (cCode Tryz.prog m64 k64).map den = some e64 := by kernel_rfl
noncomputable def fn64 : AFunc := { real := true, nslots := 2, params := [(some 0)], results := [.slot 1], assign := sNone, body := e64 }
/- (*bonsai/parse.reader).rules -/
noncomputable def m65 : Meta := { slots := [(0, false), (2, false), (3, false), (4, false), (5, false), (15, false), (22, false), (56, false)], globals := gl, lid := 3041, n := 57, ext := ext }
noncomputable def e65 : CodeF := (sSeq (sRegion (rOpS 1 (oMov (.const (.bool false))) rDone))
 (sBlock 0 (sLoop (sBlock 1 (sSeq (sRegion (rOp (oMov (.slot 0)) (rOp (oCall 88 [(.env 0), (.const (.int .i64 0))]) (rOpS 2 (oAlloc 137 [(.int .u8 0), (.int .i64 0), (.int .i64 0), (.str []), (.int .u64 0), (.int .u64 0), (.int .u64 0), (.int .u64 0), (.int .i64 0), (.int .i64 0)]) (rOp (oStore 10 (.env 0) (.env 1)) rDone)))))
 (sSeq (sSeq (sRegion (rOp (oMov (.slot 0)) (rOp (oCall 92 [(.env 0), (.const (.int .u8 1))]) (rOp (oUn .not (.env 0)) (rOp (oMov (.env 0)) (rOpG 0 false (oMov (.slot 0)) (rOpG 1 false (oCall 92 [(.env 0), (.const (.int .u8 2))]) (rOpG 2 false (oUn .not (.env 0)) (rOpS 5 (oPick (.env 3) (.const (.bool true)) (.env 0)) rDone)))))))))
 (sCond (.slot 5) (sSeq (sRegion (rOpS 1 (oMov (.const (.bool false))) rDone))
 (sExit .ret)) sSkip))
 (sSeq (sRegion (rOp (oMov (.slot 0)) (rOp (oCall 59 [(.env 0)]) (rOp (oMov (.env 0)) (rOp (oExt (.env 0) 0) (rOp (oExt (.env 1) 1) (rOpS 3 (oAlloc 48 [.nils, (.int .i64 0)]) (rOp (oStore 2 (.env 0) (.env 2)) (rOpS 4 (oMov (.env 2)) rDone)))))))))
 (sSeq (sSeq (sRegion (rOp (oMov (.slot 4)) (rOpS 6 (oUn .not (.env 0)) rDone)))
 (sCond (.slot 6) (sSeq (sRegion (rOpS 1 (oMov (.const (.bool false))) rDone))
 (sExit .ret)) sSkip))
 (sSeq (sRegionD (dOp (oMov (.slot 0)) false (dOp (oMov (.slot 0)) false (dOp (oNilc (.env 0)) false (dOp (oFld 6 (.env 0)) false (dOp (oLoad 1 false (.env 0)) false (dOp (oLoad 10 true (.slot 2)) false (dOp (oBslice 137 10 1 [(.int .u8 0), (.int .i64 0), (.int .i64 0), (.str []), (.int .u64 0), (.int .u64 0), (.int .u64 0), (.int .u64 0), (.int .i64 0), (.int .i64 0)] [(0, 10, (.env 0))]) true (dOp (oAppend 137 10 88 (.env 2) (.env 0)) true (dOp (oNilc (.env 7)) false (dOp (oFld 6 (.env 0)) false (dOp (oStore 1 (.env 0) (.env 2)) true dDone))))))))))) [⟨6, .load 1 false (.env 0), none, [2]⟩] [])
 (sSeq (sRegionD (dOp (oMov (.slot 0)) false (dOp (oMov (.slot 0)) false (dOp (oNilc (.env 0)) false (dOp (oFld 5 (.env 0)) false (dOp (oLoad 1 false (.env 0)) false (dOp (oFld 3 (.slot 2)) false (dOp (oLoad 1 false (.env 0)) false (dOp (oCall 97 [(.env 0)]) true (dOp (oLoad 2 true (.slot 3)) false (dOp (oBuild [(.str []), .nils, (.int .i64 0)] [(0, 1, (.env 1)), (1, 2, (.env 0))]) false (dOp (oBslice 100 3 1 [(.str []), .nils, (.int .i64 0)] [(0, 3, (.env 0))]) true (dOp (oAppend 100 3 48 (.env 6) (.env 0)) true (dOp (oNilc (.env 11)) false (dOp (oFld 5 (.env 0)) false (dOp (oStore 1 (.env 0) (.env 2)) true dDone))))))))))))))) [⟨10, .load 1 false (.env 0), none, [3, 2]⟩, ⟨6, .load 2 true (.slot 3), none, [4]⟩] [])
 (sSeq (sRegionD (dOp (oMov (.slot 0)) false (dOp (oNilc (.env 0)) false (dOp (oFld 2 (.env 0)) false (dOp (oLoad 1 false (.env 0)) false (dOp (oMov (.slot 0)) false (dOp (oNilc (.env 0)) false (dOp (oFld 0 (.env 0)) false (dOp (oLoad 1 false (.env 0)) false (dOp (oLen .sl (.env 0)) false (dOp (oBin .geq (.env 5) (.env 0)) false dDone)))))))))) [] [(7, 0)])
 (sCond (.slot 7) (sSeq (sRegion (rOpS 1 (oMov (.const (.bool true))) rDone))
 (sExit .ret)) sSkip))))))))))))
noncomputable def k65 : Code := codeIn Tryz.f65
theorem h65 : (cCode Tryz.prog m65 k65).map den = some e65 := by kernel_rfl
noncomputable def fn65 : AFunc := { real := true, nslots := 8, params := [(some 0)], results := [.slot 1], assign := sNone, body := e65 }
/- bonsai/name.Take -/
noncomputable def m66 : Meta := { slots := [(0, false), (2, false), (3, false), (11, false), (27, false)], globals := gl, lid := 3099, n := 34, ext := ext }
noncomputable def e66 : CodeF := (sSeq (sRegion (rOpS 1 (oMov (.const (.str []))) rDone))
 (sSeq (sSeq (sRegion (rOp (oMov (.slot 0)) (rOp (oBin .eql (.env 0) (.const (.str []))) (rOp (oMov (.env 0)) (rOpG 0 false (oMov (.slot 0)) (rOpG 1 false (oIdxStr (.env 0) (.const (.int .i64 0))) (rOpG 2 false (oCall 98 [(.env 0)]) (rOpG 3 false (oUn .not (.env 0)) (rOpS 3 (oPick (.env 4) (.const (.bool true)) (.env 0)) rDone)))))))))
 (sCond (.slot 3) (sSeq (sRegion (rOpS 1 (oMov (.const (.str []))) rDone))
 (sExit .ret)) sSkip))
 (sSeq (sRegion (rOpS 2 (oMov (.const (.int .i64 1))) rDone))
 (sSeq (sBlock 0 (sLoop (sSeq (sSeq (sRegion (rOp (oMov (.slot 2)) (rOp (oMov (.slot 0)) (rOp (oLen .str (.env 0)) (rOp (oBin .lss (.env 2) (.env 0)) (rOp (oMov (.env 0)) (rOpG 0 true (oMov (.slot 0)) (rOpG 1 true (oMov (.slot 2)) (rOpG 2 true (oIdxStr (.env 1) (.env 0)) (rOpG 3 true (oCall 98 [(.env 0)]) (rOpG 4 true (oMov (.env 0)) (rOpG 0 false (oMov (.slot 0)) (rOpG 1 false (oMov (.slot 2)) (rOpG 2 false (oIdxStr (.env 1) (.env 0)) (rOpG 3 false (oCall 99 [(.env 0)]) (rOpG 9 true (oPick (.env 4) (.const (.bool true)) (.env 0)) (rOpS 4 (oPick (.env 10) (.env 0) (.const (.bool false))) rDone)))))))))))))))))
 (sCond (.slot 4) sSkip (sExit (.exit 0))))
 (sBlock 1 (sRegion (rOp (oMov (.slot 2)) (rOp (oBin .add (.env 0) (.const (.int .i64 1))) (rOpS 2 (oMov (.env 0)) rDone))))))))
 (sSeq (sRegion (rOp (oMov (.slot 0)) (rOp (oMov (.slot 2)) (rOp (oSlice true 0 (.env 1) none (some (.env 0)) none) (rOp (oCall 97 [(.env 0)]) (rOpS 1 (oMov (.env 0)) rDone))))))
 (sExit .ret))))))
noncomputable def k66 : Code := codeIn Tryz.f66
theorem h66 : (cCode Tryz.prog m66 k66).map den = some e66 := by kernel_rfl
noncomputable def fn66 : AFunc := { real := true, nslots := 5, params := [(some 0)], results := [.slot 1], assign := sNone, body := e66 }
/- bonsai/gram.Nodes -/
noncomputable def m67 : Meta := { slots := [(0, false), (1, true), (2, false), (3, false), (5, true), (7, false), (8, false), (9, false), (10, false)], globals := gl, lid := 3134, n := 20, ext := ext }
noncomputable def e67 : CodeF := (sSeq (sRegion (rOp (oBoxP 1 (.slot 0)) (rOpS 2 (oMov (.const (.int .i64 0))) rDone)))
 (sSeq (sRegion (rOpS 3 (oMov (.const (.int .i64 0))) rDone))
 (sSeq (sSeq (sRegion (rOp (oFldP 1 0 (.const (.fp 0))) (rOpS 5 (oLoadP 1 1 false (.env 0)) (rOpS 6 (oLen .sl (.env 0)) (rOpS 7 (oMov (.const (.int .i64 0))) rDone)))))
 (sBlock 0 (sLoop (sSeq (sRegion (rOpS 8 (oBin .lss (.slot 7) (.slot 6)) rDone))
 (sSeq (sCond (.slot 8) sSkip (sExit (.exit 0)))
 (sSeq (sBlock 1 (sSeq (sRegion (rOp (oIdxS 3 (.slot 5) (.slot 7)) (rOp (oLoad 3 true (.env 0)) (rOp (oAllocP 4 [(.str []), .nils, (.int .i64 0)]) (rOp (oStoreP 4 3 (.env 0) (.env 1)) rDone)))))
 (sRegion (rOp (oMov (.slot 3)) (rOp (oFldP 4 1 (.const (.fp 0))) (rOp (oLoadP 4 2 true (.env 0)) (rOp (oCall 100 [(.env 0)]) (rOp (oBin .add (.env 3) (.env 0)) (rOpS 3 (oMov (.env 0)) rDone)))))))))
 (sRegion (rOp (oBin .add (.slot 7) (.const (.int .i64 1))) (rOpS 7 (oMov (.env 0)) rDone)))))))))
 (sSeq (sRegion (rOp (oMov (.slot 3)) (rOpS 2 (oMov (.env 0)) rDone)))
 (sExit .ret)))))
noncomputable def k67 : Code := codeIn Tryz.f67
theorem h67 : (cCode Tryz.prog m67 k67).map den = some e67 := by kernel_rfl
noncomputable def fn67 : AFunc := { real := true, nslots := 9, params := [(some 0)], results := [.slot 2], assign := sNone, body := e67 }
/- bonsai/print.Size -/
noncomputable def m68 : Meta := { slots := [(0, false), (1, true), (2, false)], globals := gl, lid := 3155, n := 6, ext := ext }
noncomputable def e68 : CodeF := (sSeq (sRegion (rOp (oBoxP 1 (.slot 0)) (rOpS 2 (oMov (.const (.int .i64 0))) rDone)))
 (sSeq (sRegion (rOp (oLoadP 1 1 true (.const (.fp 0))) (rOp (oCall 101 [(.env 0)]) (rOp (oLen .str (.env 0)) (rOpS 2 (oMov (.env 0)) rDone)))))
 (sExit .ret)))
noncomputable def k68 : Code := codeIn Tryz.f68
theorem h68 : (cCode Tryz.prog m68 k68).map den = some e68 := by kernel_rfl
noncomputable def fn68 : AFunc := { real := true, nslots := 3, params := [(some 0)], results := [.slot 2], assign := sNone, body := e68 }
/- bonsai/gram.nodes$1 -/
noncomputable def m69 : Meta := { slots := [(0, false), (1, false), (3, false), (4, true), (6, true), (8, false), (9, false), (10, false), (11, false), (17, false), (18, false), (19, false), (20, false), (27, false)], globals := gl, lid := 3162, n := 30, ext := ext }
noncomputable def e69 : CodeF := (sSeq (sRegion (rOp (oFld 0 (.slot 1)) (rOpS 5 (oLoad 1 false (.env 0)) (rOpS 6 (oLen .sl (.env 0)) (rOpS 7 (oMov (.const (.int .i64 0))) rDone)))))
 (sBlock 0 (sLoop (sSeq (sRegion (rOpS 8 (oBin .lss (.slot 7) (.slot 6)) rDone))
 (sSeq (sCond (.slot 8) sSkip (sExit (.exit 0)))
 (sSeq (sBlock 1 (sSeq (sRegion (rOp (oMov (.slot 7)) (rOp (oIdxS 3 (.slot 5) (.slot 7)) (rOp (oLoad 3 true (.env 0)) (rOp (oAllocP 3 [(.str []), .nils, (.int .i64 0)]) (rOpS 2 (oMov (.env 3)) (rOp (oStoreP 3 3 (.env 1) (.env 2)) rDone)))))))
 (sSeq (sRegion (rOp (oFldP 3 1 (.const (.fp 0))) (rOp (oFldP 3 0 (.env 0)) (rOpS 9 (oLoadP 3 1 false (.env 0)) (rOpS 10 (oLen .sl (.env 0)) (rOpS 11 (oMov (.const (.int .i64 0))) rDone))))))
 (sBlock 2 (sLoop (sSeq (sRegion (rOpS 12 (oBin .lss (.slot 11) (.slot 10)) rDone))
 (sSeq (sCond (.slot 12) sSkip (sExit (.exit 2)))
 (sSeq (sBlock 3 (sSeq (sRegion (rOp (oIdxS 9 (.slot 9) (.slot 11)) (rOp (oLoad 9 true (.env 0)) (rOp (oAllocP 4 [(.int .u8 0), (.int .u64 0), (.int .u64 0), (.int .u64 0), (.int .u64 0), (.str []), (.int .i64 0), (.int .i64 0), .nils]) (rOp (oStoreP 4 9 (.env 0) (.env 1)) rDone)))))
 (sSeq (sRegion (rOp (oMov (.slot 0)) (rOp (oMov (.slot 2)) (rOp (oLoadP 4 9 true (.const (.fp 0))) (rOp (oCallv (.env 2) [(.env 1), (.env 0)]) (rOpS 13 (oUn .not (.env 0)) rDone))))))
 (sCond (.slot 13) (sExit .ret) sSkip))))
 (sRegion (rOp (oBin .add (.slot 11) (.const (.int .i64 1))) (rOpS 11 (oMov (.env 0)) rDone)))))))))))
 (sRegion (rOp (oBin .add (.slot 7) (.const (.int .i64 1))) (rOpS 7 (oMov (.env 0)) rDone)))))))))
noncomputable def k69 : Code := codeIn Tryz.f69
theorem h69 : (cCode Tryz.prog m69 k69).map den = some e69 := by kernel_rfl
noncomputable def fn69 : AFunc := { real := true, nslots := 14, params := [(some 0), (some 1)], results := [], assign := sNone, body := e69 }
end Go.Proofs.YtaomafmpedgofaaGreatDoor
